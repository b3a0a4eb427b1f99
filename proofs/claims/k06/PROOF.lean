import PyProof.Rows.All
import HandS.ForMost
import HandS.Deep
import PyProof.ReprReads
import PyProof.Rows.RegFStrParts
import HandS.TupSets
import HandS.TupLe
import HandS.TupAny
import HandS.IsInst
import HandS.SortInts
import HandS.Conv
import HandS.Star
import HandS.TupMul
import PyProof.ReprRoads
import KE.GoesEnum
import HandS.Zip
import HandS.Style
import HandS.NoneIn
import HandS.Flow
import HandS.Iter
import PyProof.DictMoreH
import HandS.SetFor
import HandS.Strs
import HandS.TupLen
import HandS.Small
import HandS.Head0
import HandS.Head1
import HandS.Head2
import HandS.HeadEnd
import HandS.HeadHook1
import HandS.HeadHook2
import Wide.All
import OpenK.AllK
import Wide.FinOn
import KE.KStateDown
import Lean
import PySem.Challenge.RW_blankcells_k06_verdicts_told
section
set_option Elab.async false
set_option linter.all false
set_option maxRecDepth 100000
/-! MP: a small interpreter of pure data with value semantics. -/
namespace MP
noncomputable section
open PySem

abbrev D := PyData
/-- an object that one name alone holds, so that it may be changed -/
inductive Ob where
  | lst (xs : List D)
  | dic (kvs : List (List Int × D))
/-- what a slot holds: nothing known; data that stays; an own object; an own object lent by the caller -/
inductive Ent where
  | un
  | sh (d : D)
  | ow (o : Ob)
  | bo (o : Ob)
abbrev Env := List Ent
/-- the value of an expression: data, or a new own object -/
inductive Val where
  | sh (d : D)
  | ow (o : Ob)
/-- an argument of a call -/
inductive Arg where
  | sh (d : D)
  | mu (o : Ob)
abbrev Call := Nat → List Arg → Option (Val × List Ob)

inductive O2 where | add | sub | mul | fdiv | mod | pow
inductive C2 where | eq | ne | lt | le | gt | ge | inn | nin
inductive Ty where | int | bool | tuple | str | list
inductive Blt where | len | all | any | tuple | list | sorted | min2 | max2 | repr | int1
/-- targets -/
inductive Tg where
  | nm (i : Nat)
  | t2 (a b : Tg)
  | t3 (a b c : Tg)

mutual
inductive E where
  | non | bl (b : Bool) | int (i : Int) | str (s : Str)
  | var (i : Nat)
  | glo (g : Nat)
  | op (o : O2) (a b : E)
  | neg (a : E)
  | cmp (o : C2) (a b : E)
  | cmp2 (o o' : C2) (a b c : E)
  | isN (a : E) | notN (a : E)
  | not (a : E) | and (a b : E) | or (a b : E)
  | ite (c a b : E)
  | tup (es : Es) | lst (es : Es)
  | ix (a b : E)
  | slH (a hi : E) | slL (a lo : E) | slB (a lo hi : E) | rev (a : E)
  | call (f : Nat) (es : Es)
  | blt (b : Blt) (es : Es)
  | isi (a : E) (t : Ty)
  | lc (elt : E) (tg : Tg) (it : It) (ifs : Es) (own : List Nat)
  | lc2 (elt : E) (tg : Tg) (it : It) (ifs : Es) (tg' : Tg) (it' : It) (ifs' : Es) (own : List Nat)
  | pop (i : Nat) (a : E)
  | idx (a b : E)
  | dnew
  | din (ng : Bool) (i : Nat) (k : E)
  | dget (i : Nat) (k : E)
  | dln (i : Nat)
  | sset (a : E)
  | frz (a : E)
  | cmp3 (o o' o'' : C2) (a b c d : E)
  | isT (ng : Bool) (a : E)
  | or2 (a b : E)
  | lrng (a : E)
  | trng (a : E)
  | dsd (i : Nat) (k v : E)
  | calld (f : Nat) (es : Es)
inductive Es where
  | nil
  | cons (e : E) (es : Es)
  | star (e : E) (es : Es)
inductive It where
  | seq (e : E)
  | rng (a : E)
  | rng2 (a b : E)
  | rng3 (a b c : E)
  | enm (e : E)
  | zip (a b : E)
end

mutual
inductive S where
  | asg (tg : Tg) (e : E)
  | par2 (i j : Nat) (a b : E)
  | par3 (i j k : Nat) (a b c : E)
  | expr (e : E)
  | app (i : Nat) (e : E)
  | ext (i : Nat) (e : E)
  | sti (i : Nat) (a e : E)
  | ite (c : E) (a b : Ss)
  | for (tg : Tg) (it : It) (b : Ss)
  | whl (c : E) (b : Ss)
  | ret (e : E)
  | retN
  | pass
  | brk
  | cnt
  | raise
inductive Ss where
  | nil
  | cons (s : S) (ss : Ss)
end

structure PDef where
  sl : Nat
  ar : Nat
  mus : List Bool
  body : Ss

/-! ### operations on data -/
def lim : Nat := 1000000
/-- bounds, sealed: no unfolding of numerals in the checker -/
theorem inLim_ex : ∃ f : Int → Bool, ∀ i, f i = (decide (-1000000 ≤ i) && decide (i ≤ 1000000)) := ⟨_, fun _ => rfl⟩
def inLim : Int → Bool := Classical.choose inLim_ex
theorem inLim_def (i : Int) : inLim i = (decide (-1000000 ≤ i) && decide (i ≤ 1000000)) := Classical.choose_spec inLim_ex i
/-- bounds that are checked -/
def ckI (i : Int) : Option Unit := if inLim i then some () else none
def ckN (k : Nat) : Option Unit := if k ≤ lim then some () else none
def asI : D → Option Int | .int i => some i | _ => none
def asB : D → Option Bool | .bool b => some b | _ => none
def Val.d : Val → Option D
  | .sh d => some d
  | .ow (.lst xs) => some (.list xs)
  | _ => none
def items : D → Option (List D) | .list xs => some xs | .tuple xs => some xs | _ => none
def mulOk0 (a b : Int) : Bool := (decide (-(2 ^ 64) < a) && decide (a < 2 ^ 64)) || (decide (-(2 ^ 64) < b) && decide (b < 2 ^ 64))
theorem mulOk_ex : ∃ f : Int → Int → Bool, ∀ a b, f a b = mulOk0 a b := ⟨_, fun _ _ => rfl⟩
def mulOk : Int → Int → Bool := Classical.choose mulOk_ex
theorem mulOk_def (a b : Int) : mulOk a b = mulOk0 a b := Classical.choose_spec mulOk_ex a b

theorem fdOk_ex : ∃ f : Int → Bool, ∀ b, f b = decide (0 < b ∧ b < 1073741824) := ⟨_, fun _ => rfl⟩
def fdOk : Int → Bool := Classical.choose fdOk_ex
theorem fdOk_def (b : Int) : fdOk b = decide (0 < b ∧ b < 1073741824) := Classical.choose_spec fdOk_ex b
theorem fdOk_iff {b : Int} : fdOk b = true ↔ 0 < b ∧ b < 1073741824 := by rw [fdOk_def]; exact decide_eq_true_iff
def op2 : O2 → D → D → Option Val
  | .add, .int a, .int b => some (.sh (.int (a + b)))
  | .add, .str a, .str b => if a.length + b.length ≤ lim then some (.sh (.str (a ++ b))) else none
  | .add, .tuple a, .tuple b => if a.length + b.length ≤ lim then some (.sh (.tuple (a ++ b))) else none
  | .add, .list a, .list b => if a.length + b.length ≤ lim then some (.ow (.lst (a ++ b))) else none
  | .sub, .int a, .int b => some (.sh (.int (a - b)))
  | .mul, .int a, .int b => if mulOk a b then some (.sh (.int (a * b))) else none
  | .fdiv, .int a, .int b => if fdOk b then some (.sh (.int (a / b))) else none
  | .mod, .int a, .int b => if 0 < b then some (.sh (.int (a % b))) else none
  | .mul, .tuple a, .int b => if 2 ≤ b ∧ b ≤ 1000 ∧ a.length ≤ 1000 ∧ a ≠ [] then some (.sh (.tuple (List.replicate b.toNat a).flatten)) else none
  | .pow, .int a, .int b => if 0 ≤ b ∧ b ≤ 1000000 ∧ a.natAbs < 2 ^ 64 then some (.sh (.int (a ^ b.toNat))) else none
  | _, _, _ => none

def intsD : List D → Option (List Int)
  | [] => some []
  | .int i :: r => (intsD r).map (i :: ·)
  | _ => none
def ltD : D → D → Option Bool
  | .int a, .int b => some (decide (a < b))
  | .tuple a, .tuple b => do let x ← intsD a; let y ← intsD b; some (HT.lexLt x y)
  | _, _ => none
def shp (d : D) : Bool := SeqAt.shaped d
def isSt : D → Bool | .str _ => true | _ => false
def eqD (a b : D) : Option Bool := if (isSt a && isSt b) || (shp a && shp b) then some (PyData.eqv a b) else none
def inD (a b : D) : Option Bool := do
  let xs ← items b
  if shp a && shp b then some (xs.any fun z => PyData.eqv z a) else none
def cmpD : C2 → D → D → Option Bool
  | .eq, a, b => eqD a b
  | .ne, a, b => (eqD a b).map (!·)
  | .lt, a, b => ltD a b
  | .le, .int a, .int b => some (decide (a ≤ b))
  | .gt, .int a, .int b => some (decide (b < a))
  | .gt, .tuple a, .tuple b => do let x ← intsD a; let y ← intsD b; some (HT.lexLt y x)
  | .ge, .int a, .int b => some (decide (b ≤ a))
  | .inn, a, b => inD a b
  | .nin, a, b => (inD a b).map (!·)
  | _, _, _ => none
def ixD (a b : D) : Option D := do let i ← asI b; let xs ← items a; L2.atI xs i
def cutD (xs : List D) (lo hi : Option Int) : List D := (xs.drop (HT.sIx xs.length 0 lo)).take (HT.sIx xs.length xs.length hi - HT.sIx xs.length 0 lo)
def slD : D → Option Int → Option Int → Option Val
  | .list xs, lo, hi => some (.ow (.lst (cutD xs lo hi)))
  | .tuple xs, lo, hi => some (.sh (.tuple (cutD xs lo hi)))
  | _, _, _ => none
def revD : D → Option Val
  | .list xs => some (.ow (.lst xs.reverse))
  | .tuple xs => some (.sh (.tuple xs.reverse))
  | _ => none
def bools : List D → Option (List Bool)
  | [] => some []
  | .bool b :: r => (bools r).map (b :: ·)
  | _ => none
def isiD : D → Ty → Bool
  | .int _, .int => true
  | .bool _, .int => true
  | .bool _, .bool => true
  | .tuple _, .tuple => true
  | .str _, .str => true
  | .list _, .list => true
  | _, _ => false
/-- insertion into an ascending list -/
def insI (a : Int) : List Int → List Int
  | [] => [a]
  | b :: r => if a ≤ b then a :: b :: r else b :: insI a r
def sortI : List Int → List Int
  | [] => []
  | a :: r => insI a (sortI r)
/-- each once, at its first place -/
def onceI : List Int → List Int
  | [] => []
  | a :: r => a :: (onceI r).filter (fun b => decide (b ≠ a))
/-- rows of ints, ordered as tuples -/
def rowsI : List D → Option (List (List Int))
  | [] => some []
  | .tuple xs :: r => (intsD xs).bind fun ns => (rowsI r).map (ns :: ·)
  | _ => none
def insT (a : List Int) : List (List Int) → List (List Int)
  | [] => [a]
  | b :: r => if HT.lexLt b a then b :: insT a r else a :: b :: r
def sortT : List (List Int) → List (List Int)
  | [] => []
  | a :: r => insT a (sortT r)
theorem smT_ex : ∃ f : Int → Bool, ∀ i, f i = (decide (0 ≤ i) && decide (i < 1000000)) := ⟨_, fun _ => rfl⟩
def smT : Int → Bool := Classical.choose smT_ex
theorem smT_def (i : Int) : smT i = (decide (0 ≤ i) && decide (i < 1000000)) := Classical.choose_spec smT_ex i
/-- all of one length, at least one, small -/
def rowsOk (l : List (List Int)) : Bool := match l with
  | [] => true
  | a :: _ => !a.isEmpty && l.all fun r => decide (r.length = a.length) && r.all smT
def onceT : List (List Int) → List (List Int)
  | [] => []
  | a :: r => a :: (onceT r).filter (fun b => decide (b ≠ a))
def tupI (ns : List Int) : D := .tuple (ns.map .int)
def sortD (xs : List D) : Option Val := match intsD xs with
  | some ns => some (.ow (.lst ((sortI ns).map .int)))
  | none => (rowsI xs).bind fun l => if rowsOk l && decide (l.length < 64) then some (.ow (.lst ((sortT l).map tupI))) else none
def truD : D → Option Bool
  | .none => some false
  | .bool b => some b
  | .int i => some (decide (i ≠ 0))
  | _ => none
def intbD : D → Option D
  | .int i => some (.int i)
  | .bool b => some (.int (if b then 1 else 0))
  | _ => none
def reprOk (d : D) : Bool := d.layable0 && d.intsShort 13 && d.showable
def bltD : Blt → List D → Option Val
  | .len, [d] => match d with
    | .str s => if s.length ≤ lim then some (.sh (.int s.length)) else none
    | d => (items d).map fun xs => .sh (.int xs.length)
  | .all, [.list xs] => (bools xs).map fun bs => .sh (.bool (bs.all id))
  | .any, [.list xs] => (bools xs).map fun bs => .sh (.bool (bs.any id))
  | .tuple, [d] => (items d).map fun xs => .sh (.tuple xs)
  | .list, [d] => (items d).map fun xs => .ow (.lst xs)
  | .sorted, [.list xs] => sortD xs
  | .min2, [.int a, .int b] => some (.sh (.int (if b < a then b else a)))
  | .max2, [.int a, .int b] => some (.sh (.int (if b > a then b else a)))
  | .repr, [d] => if reprOk d then some (.sh (.str d.shown)) else none
  | .int1, [d] => (intbD d).map .sh
  | _, _ => none
/-- sorted(set(..)) of ints -/
def ssetD : D → Option Val
  | .list xs => (intsD xs).bind fun ns => if ns.length < 64 then some (.ow (.lst ((sortI (onceI ns)).map .int))) else none
  | _ => none
def isNoneD : D → Bool | .none => true | _ => false
def idxD (a b : D) : Option D := match a with
  | .list xs => if shp a && shp b then (xs.findIdx? fun z => PyData.eqv z b).map fun j => .int j else none
  | _ => none

/-- a key: a tuple of ints -/
def keyD : D → Option (List Int)
  | .tuple xs => if xs.isEmpty then none else intsD xs
  | _ => none
def kvGet (kvs : List (List Int × D)) (k : List Int) : Option D := (kvs.find? fun kv => decide (kv.1 = k)).map (·.2)
def kvPut (kvs : List (List Int × D)) (k : List Int) (v : D) : List (List Int × D) :=
  if (kvs.any fun kv => decide (kv.1 = k)) then kvs.map (fun kv => if kv.1 = k then (kv.1, v) else kv) else kvs ++ [(k, v)]

/-! ### the interpreter -/
/-- an operand: data, or an own object at a slot, to be looked at when the operation is done -/
inductive Opd where
  | dat (d : D)
  | slot (i : Nat)
def fetch (ρ : Env) : Opd → Option D
  | .dat d => some d
  | .slot i => match ρ.getD i .un with
    | .sh d => some d
    | .ow (.lst xs) => some (.list xs)
    | .bo (.lst xs) => some (.list xs)
    | _ => none
def fetchs (ρ : Env) : List Opd → Option (List D)
  | [] => some []
  | o :: os => do let d ← fetch ρ o; let ds ← fetchs ρ os; some (d :: ds)
/-- reading a name as data: an own object stays as it is from now on -/
def evVar (i : Nat) (ρ : Env) : Option (D × Env) := match ρ.getD i .un with
  | .sh d => some (d, ρ)
  | .ow (.lst xs) => some (.list xs, ρ.set i (.sh (.list xs)))
  | _ => none
def peek (i : Nat) (ρ : Env) : Option (Opd × Env) := match ρ.getD i .un with
  | .sh d => some (.dat d, ρ)
  | .ow _ => some (.slot i, ρ)
  | .bo _ => some (.slot i, ρ)
  | .un => none
def isBo (ρ : Env) (i : Nat) : Bool := match ρ.getD i .un with | .bo _ => true | _ => false
/-- storing into a name -/
def stV (i : Nat) (v : Val) (ρ : Env) : Option Env :=
  if isBo ρ i then none else match v with
  | .sh d => some (ρ.set i (.sh d))
  | .ow o => some (ρ.set i (.ow o))
def stTg : Tg → D → Env → Option Env
  | .nm i, d, ρ => stV i (.sh d) ρ
  | .t2 a b, d, ρ => match d with
    | .tuple [x, y] => (stTg a x ρ).bind (stTg b y)
    | .list [x, y] => (stTg a x ρ).bind (stTg b y)
    | _ => none
  | .t3 a b c, d, ρ => match d with
    | .tuple [x, y, z] => ((stTg a x ρ).bind (stTg b y)).bind (stTg c z)
    | .list [x, y, z] => ((stTg a x ρ).bind (stTg b y)).bind (stTg c z)
    | _ => none
def tgSlots : Tg → List Nat
  | .nm i => [i]
  | .t2 a b => tgSlots a ++ tgSlots b
  | .t3 a b c => tgSlots a ++ tgSlots b ++ tgSlots c
/-- the block of a comprehension: its own names are empty; behind it what was data there stands again -/
def wipeE (ρ : Env) : List Nat → Env
  | [] => ρ
  | i :: is => (wipeE ρ is).set i .un
def back (ρ ρ' : Env) : List Nat → Env
  | [] => ρ'
  | i :: is => (back ρ ρ' is).set i (match ρ.getD i .un with | .sh d => .sh d | _ => .un)
def zipD : List D → List D → List D
  | x :: xs, y :: ys => .tuple [x, y] :: zipD xs ys
  | _, _ => []
def enumD : Nat → List D → List D
  | _, [] => []
  | n, x :: xs => .tuple [.int n, x] :: enumD (n + 1) xs
def rngD (lo hi : Int) : List D := (List.range (hi - lo).toNat).map fun (k : Nat) => .int (lo + k)
/-- an argument: data, or a slot that is lent -/
inductive AV where
  | d (d : D)
  | lent (i : Nat)
def argsOf (ρ : Env) : List AV → Option (List Arg)
  | [] => some []
  | .d d :: r => (argsOf ρ r).map (.sh d :: ·)
  | .lent i :: r => match ρ.getD i .un with
    | .ow o => (argsOf ρ r).map (.mu o :: ·)
    | .bo o => (argsOf ρ r).map (.mu o :: ·)
    | _ => none
def lents : List AV → List Nat
  | [] => []
  | .d _ :: r => lents r
  | .lent i :: r => i :: lents r
/-- the lent objects come back -/
def giveBack (ρ : Env) : List Nat → List Ob → Option Env
  | [], [] => some ρ
  | i :: is, o :: os => match ρ.getD i .un with
    | .ow _ => giveBack (ρ.set i (.ow o)) is os
    | .bo _ => giveBack (ρ.set i (.bo o)) is os
    | _ => none
  | _, _ => none

def isOwn : Ent → Bool
  | .ow _ => true
  | .bo _ => true
  | _ => false
def isLst (ρ : Env) (i : Nat) : Bool := match ρ.getD i .un with
  | .ow (.lst _) => true
  | .bo (.lst _) => true
  | _ => false
def dicAt (ρ : Env) (i : Nat) : Option (List (List Int × D)) := match ρ.getD i .un with
  | .ow (.dic kvs) => some kvs
  | .bo (.dic kvs) => some kvs
  | _ => none
def isLD : D → Bool | .list _ => true | _ => false
def zipO : D → D → Option (List D)
  | .list xs, .list ys => some (zipD xs ys)
  | .tuple xs, .tuple ys => some (zipD xs ys)
  | _, _ => none
structure Cfg where
  call : Call
  con : Nat → Option D
  mus : Nat → List Bool

def toD (r : Option (Val × Env)) : Option (D × Env) := r.bind fun p => p.1.d.bind fun d => some (d, p.2)
def toO (e : E) (ρ : Env) (r : Option (Val × Env)) : Option (Opd × Env) := match e with
  | .var i => peek i ρ
  | _ => r.bind fun p => p.1.d.bind fun d => some (.dat d, p.2)
def toB (r : Option (Val × Env)) : Option (Bool × Env) := (toD r).bind fun p => (asB p.1).bind fun b => some (b, p.2)
/-- the turns of a comprehension -/
def lcGo (f : Env → Option (D × Env)) (t : Env → Option (Bool × Env)) (tg : Tg) (own : List Nat) : List D → Env → Option (List D × Env)
  | [], ρ => some ([], ρ)
  | x :: xs, ρ => (stTg tg x ρ).bind fun ρ1 => (t ρ1).bind fun p =>
      if p.1 then (f p.2).bind fun q => (lcGo f t tg own xs (wipeE q.2 own)).bind fun r => some (q.1 :: r.1, r.2)
      else lcGo f t tg own xs (wipeE p.2 own)
/-- two fors in one comprehension -/
def lcGo2 (g : Env → Option (List D × Env)) (t : Env → Option (Bool × Env)) (tg : Tg) (own : List Nat) : List D → Env → Option (List D × Env)
  | [], ρ => some ([], ρ)
  | x :: xs, ρ => (stTg tg x ρ).bind fun ρ1 => (t ρ1).bind fun p =>
      if p.1 then (g p.2).bind fun q => (lcGo2 g t tg own xs (wipeE q.2 own)).bind fun r => some (q.1 ++ r.1, r.2)
      else lcGo2 g t tg own xs (wipeE p.2 own)
def popOb (k : Int) : Ob → Option (D × Ob)
  | .lst xs => if xs.length ≤ lim then (L2.ixN xs.length k).bind fun j => (xs[j]?).bind fun y => some (y, .lst (xs.eraseIdx j)) else none
  | _ => none
/-- an own object at a slot is changed -/
def chg {α : Type} (i : Nat) (f : Ob → Option (α × Ob)) (ρ : Env) : Option (α × Env) := match ρ.getD i .un with
  | .ow o => (f o).bind fun p => some (p.1, ρ.set i (.ow p.2))
  | .bo o => (f o).bind fun p => some (p.1, ρ.set i (.bo p.2))
  | _ => none
def sdOb (ky : List Int) (d : D) : Ob → Option (D × Ob)
  | .dic kvs => if kvs.length < lim then (match kvGet kvs ky with | some x => some (x, .dic kvs) | none => some (d, .dic (kvPut kvs ky d))) else none
  | _ => none
/-- the turns of range with three -/
def rg3D (lo hi st : Int) : List D := (List.range (if lo < hi then (hi - lo - 1) / st + 1 else 0).toNat).map fun (k : Nat) => .int (lo + k * st)
/-- the call itself, behind its arguments -/
def doCall (C : Cfg) (f : Nat) (as : List AV) (ρ : Env) : Option (Val × Env) :=
  if (lents as).Nodup then (argsOf ρ as).bind fun args => (C.call f args).bind fun r => (giveBack ρ (lents as) r.2).bind fun ρ' => some (r.1, ρ') else none

mutual
def ev (C : Cfg) : E → Env → Option (Val × Env)
  | .non, ρ => some (.sh .none, ρ)
  | .bl b, ρ => some (.sh (.bool b), ρ)
  | .int i, ρ => some (.sh (.int i), ρ)
  | .str s, ρ => some (.sh (.str s), ρ)
  | .var i, ρ => (evVar i ρ).bind fun p => some (.sh p.1, p.2)
  | .glo g, ρ => (C.con g).bind fun d => some (.sh d, ρ)
  | .op o a b, ρ => (toO a ρ (ev C a ρ)).bind fun p => (toO b p.2 (ev C b p.2)).bind fun q => (fetch q.2 p.1).bind fun x => (fetch q.2 q.1).bind fun y => (op2 o x y).bind fun v => some (v, q.2)
  | .neg a, ρ => (toD (ev C a ρ)).bind fun p => (asI p.1).bind fun i => some (.sh (.int (-i)), p.2)
  | .cmp o a b, ρ => (toO a ρ (ev C a ρ)).bind fun p => (toO b p.2 (ev C b p.2)).bind fun q => (fetch q.2 p.1).bind fun x => (fetch q.2 q.1).bind fun y => (cmpD o x y).bind fun c => some (.sh (.bool c), q.2)
  | .cmp2 o o' a b c, ρ => (toD (ev C a ρ)).bind fun p => (toD (ev C b p.2)).bind fun q => (cmpD o p.1 q.1).bind fun k =>
      if k then (toD (ev C c q.2)).bind fun r => (cmpD o' q.1 r.1).bind fun k' => some (.sh (.bool k'), r.2) else some (.sh (.bool false), q.2)
  | .isN a, ρ => (toO a ρ (ev C a ρ)).bind fun p => (fetch p.2 p.1).bind fun x => some (.sh (.bool (isNoneD x)), p.2)
  | .notN a, ρ => (toO a ρ (ev C a ρ)).bind fun p => (fetch p.2 p.1).bind fun x => some (.sh (.bool (!isNoneD x)), p.2)
  | .not a, ρ => (toB (ev C a ρ)).bind fun p => some (.sh (.bool (!p.1)), p.2)
  | .and a b, ρ => (toB (ev C a ρ)).bind fun p => if p.1 then (toD (ev C b p.2)).bind fun q => some (.sh q.1, q.2) else some (.sh (.bool false), p.2)
  | .or a b, ρ => (toB (ev C a ρ)).bind fun p => if p.1 then some (.sh (.bool true), p.2) else (toD (ev C b p.2)).bind fun q => some (.sh q.1, q.2)
  | .ite c a b, ρ => (toB (ev C c ρ)).bind fun p => if p.1 then ev C a p.2 else ev C b p.2
  | .tup es, ρ => (evs C es ρ).bind fun p => if p.1.length ≤ lim then some (.sh (.tuple p.1), p.2) else none
  | .lst es, ρ => (evs C es ρ).bind fun p => if p.1.length ≤ lim then some (.ow (.lst p.1), p.2) else none
  | .ix a b, ρ => (toO a ρ (ev C a ρ)).bind fun p => (toD (ev C b p.2)).bind fun q => (fetch q.2 p.1).bind fun x => (ixD x q.1).bind fun d => some (.sh d, q.2)
  | .slH a hi, ρ => (toO a ρ (ev C a ρ)).bind fun p => (toD (ev C hi p.2)).bind fun q => (fetch q.2 p.1).bind fun x => (asI q.1).bind fun j => (slD x none (some j)).bind fun v => some (v, q.2)
  | .slL a lo, ρ => (toO a ρ (ev C a ρ)).bind fun p => (toD (ev C lo p.2)).bind fun q => (fetch q.2 p.1).bind fun x => (asI q.1).bind fun j => (slD x (some j) none).bind fun v => some (v, q.2)
  | .slB a lo hi, ρ => (toO a ρ (ev C a ρ)).bind fun p => (toD (ev C lo p.2)).bind fun q => (toD (ev C hi q.2)).bind fun r => (fetch r.2 p.1).bind fun x => (asI q.1).bind fun i => (asI r.1).bind fun j => (slD x (some i) (some j)).bind fun v => some (v, r.2)
  | .rev a, ρ => (toO a ρ (ev C a ρ)).bind fun p => (fetch p.2 p.1).bind fun x => (revD x).bind fun v => some (v, p.2)
  | .call f es, ρ => (evA C es (C.mus f) ρ).bind fun p => doCall C f p.1 p.2
  | .blt b es, ρ => (evOs C es ρ).bind fun p => (fetchs p.2 p.1).bind fun xs => (bltD b xs).bind fun v => some (v, p.2)
  | .isi a t, ρ => (toO a ρ (ev C a ρ)).bind fun p => (fetch p.2 p.1).bind fun x => some (.sh (.bool (isiD x t)), p.2)
  | .lc elt tg it ifs own, ρ => (evI C it ρ).bind fun p => if own.any (isBo p.2) then none else (ckN p.1.length).bind fun _ =>
      (lcGo (fun ρ => toD (ev C elt ρ)) (fun ρ => evTs C ifs ρ) tg own p.1 (wipeE p.2 own)).bind fun r => some (.ow (.lst r.1), back p.2 r.2 own)
  | .lc2 elt tg it ifs tg' it' ifs' own, ρ => (evI C it ρ).bind fun p => if own.any (isBo p.2) then none else
      (lcGo2 (fun ρ => (evI C it' ρ).bind fun q => lcGo (fun ρ => toD (ev C elt ρ)) (fun ρ => evTs C ifs' ρ) tg' (tgSlots tg') q.1 (wipeE q.2 (tgSlots tg'))) (fun ρ => evTs C ifs ρ) tg own p.1 (wipeE p.2 own)).bind fun r =>
        if r.1.length ≤ lim then some (.ow (.lst r.1), back p.2 r.2 own) else none
  | .pop i a, ρ => if isLst ρ i then (toD (ev C a ρ)).bind fun p => (asI p.1).bind fun k => (chg i (popOb k) p.2).bind fun q => some (.sh q.1, q.2) else none
  | .idx a b, ρ => (toO a ρ (ev C a ρ)).bind fun p => (fetch p.2 p.1).bind fun x0 => if !isLD x0 then none else (toD (ev C b p.2)).bind fun q => (fetch q.2 p.1).bind fun x => (idxD x q.1).bind fun d => some (.sh d, q.2)
  | .dnew, ρ => some (.ow (.dic []), ρ)
  | .din ng i k, ρ => (toD (ev C k ρ)).bind fun p => (keyD p.1).bind fun ky => (dicAt p.2 i).bind fun kvs => some (.sh (.bool (if ng then !(kvGet kvs ky).isSome else (kvGet kvs ky).isSome)), p.2)
  | .dget i k, ρ => (dicAt ρ i).bind fun _ => (toD (ev C k ρ)).bind fun p => (keyD p.1).bind fun ky => (dicAt p.2 i).bind fun kvs => (kvGet kvs ky).bind fun d => some (.sh d, p.2)
  | .dln i, ρ => (dicAt ρ i).bind fun kvs => some (.sh (.int kvs.length), ρ)
  | .sset a, ρ => (toO a ρ (ev C a ρ)).bind fun p => (fetch p.2 p.1).bind fun x => (ssetD x).bind fun v => some (v, p.2)
  | .frz a, ρ => (toD (ev C a ρ)).bind fun p => some (.sh p.1, p.2)
  | .cmp3 o o' o'' a b c d, ρ => (toD (ev C a ρ)).bind fun p => (toD (ev C b p.2)).bind fun q => (cmpD o p.1 q.1).bind fun k =>
      if k then (toD (ev C c q.2)).bind fun r => (cmpD o' q.1 r.1).bind fun k' => if k' then (toD (ev C d r.2)).bind fun t => (cmpD o'' r.1 t.1).bind fun k'' => some (.sh (.bool k''), t.2) else some (.sh (.bool false), r.2) else some (.sh (.bool false), q.2)
  | .isT ng a, ρ => (toB (ev C a ρ)).bind fun p => some (.sh (.bool (if ng then !p.1 else p.1)), p.2)
  | .or2 a b, ρ => (toD (ev C a ρ)).bind fun p => (truD p.1).bind fun k => if k then (asI p.1).bind fun i => some (.sh (.int i), p.2) else (toD (ev C b p.2)).bind fun q => (asI q.1).bind fun i => some (.sh (.int i), q.2)
  | .lrng a, ρ => (toD (ev C a ρ)).bind fun p => (asI p.1).bind fun n => (ckI n).bind fun _ => some (.ow (.lst (rngD 0 n)), p.2)
  | .trng a, ρ => (toD (ev C a ρ)).bind fun p => (asI p.1).bind fun n => (ckI n).bind fun _ => some (.sh (.tuple (rngD 0 n)), p.2)
  | .dsd i k v, ρ => (dicAt ρ i).bind fun _ => (toD (ev C k ρ)).bind fun p => (keyD p.1).bind fun ky => (toD (ev C v p.2)).bind fun q => (chg i (sdOb ky q.1) q.2).bind fun r => some (.sh r.1, r.2)
  | .calld f es, ρ => (evA C es (C.mus f) ρ).bind fun p => doCall C f (p.1 ++ [.d (.tuple [])]) p.2
def evs (C : Cfg) : Es → Env → Option (List D × Env)
  | .nil, ρ => some ([], ρ)
  | .cons e es, ρ => (toD (ev C e ρ)).bind fun p => (evs C es p.2).bind fun q => some (p.1 :: q.1, q.2)
  | .star e es, ρ => (toD (ev C e ρ)).bind fun p => (items p.1).bind fun ys => (evs C es p.2).bind fun q => some (ys ++ q.1, q.2)
def evOs (C : Cfg) : Es → Env → Option (List Opd × Env)
  | .nil, ρ => some ([], ρ)
  | .cons e es, ρ => (toO e ρ (ev C e ρ)).bind fun p => (evOs C es p.2).bind fun q => some (p.1 :: q.1, q.2)
  | .star _ _, _ => none
def evA (C : Cfg) : Es → List Bool → Env → Option (List AV × Env)
  | .nil, _, ρ => some ([], ρ)
  | .cons e es, ms, ρ => match ms.headD false with
    | true => match e with
      | .var i => if isOwn (ρ.getD i .un) then (evA C es ms.tail ρ).bind fun q => some (.lent i :: q.1, q.2) else none
      | _ => none
    | false => (toD (ev C e ρ)).bind fun p => (evA C es ms.tail p.2).bind fun q => some (.d p.1 :: q.1, q.2)
  | .star _ _, _, _ => none
def evTs (C : Cfg) : Es → Env → Option (Bool × Env)
  | .nil, ρ => some (true, ρ)
  | .cons e es, ρ => (toB (ev C e ρ)).bind fun p => if p.1 then evTs C es p.2 else some (false, p.2)
  | .star _ _, _ => none
def evI (C : Cfg) : It → Env → Option (List D × Env)
  | .seq e, ρ => (toD (ev C e ρ)).bind fun p => (items p.1).bind fun xs => some (xs, p.2)
  | .rng a, ρ => (toD (ev C a ρ)).bind fun p => (asI p.1).bind fun n => (ckI n).bind fun _ => some (rngD 0 n, p.2)
  | .rng2 a b, ρ => (toD (ev C a ρ)).bind fun p => (toD (ev C b p.2)).bind fun q => (asI p.1).bind fun i => (asI q.1).bind fun j => (ckI i).bind fun _ => (ckI j).bind fun _ => some (rngD i j, q.2)
  | .rng3 a b c, ρ => (toD (ev C a ρ)).bind fun p => (toD (ev C b p.2)).bind fun q => (toD (ev C c q.2)).bind fun r => (asI p.1).bind fun i => (asI q.1).bind fun j => (asI r.1).bind fun st => (ckI i).bind fun _ => (ckI j).bind fun _ => (ckI st).bind fun _ => if 0 < st then some (rg3D i j st, r.2) else none
  | .enm e, ρ => (toD (ev C e ρ)).bind fun p => (items p.1).bind fun xs => some (enumD 0 xs, p.2)
  | .zip a b, ρ => (toD (ev C a ρ)).bind fun p => (toD (ev C b p.2)).bind fun q => (zipO p.1 q.1).bind fun xs => some (xs, q.2)
end

inductive Fl where
  | nx (ρ : Env)
  | rt (v : Val) (ρ : Env)
  | bk (ρ : Env)
  | ct (ρ : Env)
def forGo (body : Env → Option Fl) (tg : Tg) : List D → Env → Option Fl
  | [], ρ => some (.nx ρ)
  | x :: xs, ρ => (stTg tg x ρ).bind fun ρ1 => (body ρ1).bind fun fl => match fl with
    | .nx ρ2 => forGo body tg xs ρ2
    | .ct ρ2 => forGo body tg xs ρ2
    | .bk ρ2 => some (.nx ρ2)
    | .rt v ρ2 => some (.rt v ρ2)
def whlGo (c : Env → Option (Bool × Env)) (body : Env → Option Fl) : Nat → Env → Option Fl
  | 0, _ => none
  | n + 1, ρ => (c ρ).bind fun p => if p.1 then (body p.2).bind fun fl => match fl with
    | .nx ρ2 => whlGo c body n ρ2
    | .ct ρ2 => whlGo c body n ρ2
    | .bk ρ2 => some (.nx ρ2)
    | .rt v ρ2 => some (.rt v ρ2) else some (.nx p.2)
def appOb (d : D) : Ob → Option (Unit × Ob)
  | .lst xs => if xs.length < lim then some ((), .lst (xs ++ [d])) else none
  | _ => none
def extOb (ys : List D) : Ob → Option (Unit × Ob)
  | .lst xs => if xs.length + ys.length ≤ lim then some ((), .lst (xs ++ ys)) else none
  | _ => none
def stOb (k v : D) : Ob → Option (Unit × Ob)
  | .lst xs => (asI k).bind fun i => (L2.ixN xs.length i).bind fun j => some ((), .lst (xs.set j v))
  | .dic kvs => (keyD k).bind fun ky => if kvs.length < lim then some ((), .dic (kvPut kvs ky v)) else none
def wfuel : Nat := 100000
def retE (C : Cfg) (e : E) (ρ : Env) : Option (Val × Env) := match e with
  | .var i => match ρ.getD i .un with
    | .ow o => some (.ow o, ρ.set i .un)
    | _ => ev C e ρ
  | _ => ev C e ρ
mutual
def exec (C : Cfg) : S → Env → Option Fl
  | .asg tg e, ρ => match tg with
    | .nm i => (ev C e ρ).bind fun p => (stV i p.1 p.2).bind fun ρ' => some (.nx ρ')
    | tg => (toD (ev C e ρ)).bind fun p => (stTg tg p.1 p.2).bind fun ρ' => some (.nx ρ')
  | .par2 i j a b, ρ => (ev C a ρ).bind fun p => (ev C b p.2).bind fun q => (stV j q.1 q.2).bind fun ρ1 => (stV i p.1 ρ1).bind fun ρ2 => some (.nx ρ2)
  | .par3 i j k a b c, ρ => (ev C a ρ).bind fun p => (ev C b p.2).bind fun q => (ev C c q.2).bind fun r => (stV k r.1 r.2).bind fun ρ1 => (stV j q.1 ρ1).bind fun ρ2 => (stV i p.1 ρ2).bind fun ρ3 => some (.nx ρ3)
  | .expr e, ρ => (ev C e ρ).bind fun p => some (.nx p.2)
  | .app i e, ρ => if !isLst ρ i then none else (toD (ev C e ρ)).bind fun p => (chg i (appOb p.1) p.2).bind fun q => some (.nx q.2)
  | .ext i e, ρ => if !isLst ρ i then none else (toD (ev C e ρ)).bind fun p => (items p.1).bind fun ys => (chg i (extOb ys) p.2).bind fun q => some (.nx q.2)
  | .sti i a e, ρ => (toD (ev C e ρ)).bind fun p => if !isOwn (p.2.getD i .un) then none else (toD (ev C a p.2)).bind fun k => (chg i (stOb k.1 p.1) k.2).bind fun q => some (.nx q.2)
  | .ite c a b, ρ => (toB (ev C c ρ)).bind fun p => if p.1 then execs C a p.2 else execs C b p.2
  | .for tg it b, ρ => (evI C it ρ).bind fun p => forGo (fun ρ => execs C b ρ) tg p.1 p.2
  | .whl c b, ρ => whlGo (fun ρ => toB (ev C c ρ)) (fun ρ => execs C b ρ) wfuel ρ
  | .ret e, ρ => (retE C e ρ).bind fun p => some (.rt p.1 p.2)
  | .retN, ρ => some (.rt (.sh .none) ρ)
  | .pass, ρ => some (.nx ρ)
  | .brk, ρ => some (.bk ρ)
  | .cnt, ρ => some (.ct ρ)
  | .raise, _ => none
def execs (C : Cfg) : Ss → Env → Option Fl
  | .nil, ρ => some (.nx ρ)
  | .cons s ss, ρ => (exec C s ρ).bind fun fl => match fl with
    | .nx ρ1 => execs C ss ρ1
    | fl => some fl
end

def entOf : Arg → Ent
  | .sh d => .sh d
  | .mu o => .bo o
def start (p : PDef) (args : List Arg) : Env := args.map entOf ++ List.replicate (p.sl - args.length) .un
def outs : List Arg → Env → Option (List Ob)
  | [], _ => some []
  | .sh _ :: r, ρ => outs r ρ.tail
  | .mu _ :: r, ρ => match ρ.head? with
    | some (.bo o) => (outs r ρ.tail).bind fun os => some (o :: os)
    | _ => none
def run (C : Cfg) (p : PDef) (args : List Arg) : Option (Val × List Ob) :=
  if args.length = p.ar then (execs C p.body (start p args)).bind fun fl => match fl with
    | .nx ρ => (outs args ρ).bind fun os => some (.sh .none, os)
    | .rt v ρ => (outs args ρ).bind fun os => some (v, os)
    | _ => none
  else none
abbrev Tbl := Nat → Option PDef
def musOf (Γ : Tbl) (f : Nat) : List Bool := match Γ f with | some p => p.mus | none => []
def evalCall (Γ : Tbl) (con : Nat → Option D) : Nat → Call
  | 0 => fun _ _ => none
  | n + 1 => fun f args => (Γ f).bind fun p => run ⟨evalCall Γ con n, con, musOf Γ⟩ p args
end
end MP
end

section
set_option Elab.async false
set_option linter.all false
set_option maxRecDepth 100000
set_option maxHeartbeats 4000000
namespace MP
open PySem L2

def Ex (H H' : Hp) : Prop := ∀ a o, H a = some o → H' a = some o
theorem Ex.refl (H : Hp) : Ex H H := fun _ _ h => h
theorem Ex.trans {H H1 H2 : Hp} (a : Ex H H1) (b : Ex H1 H2) : Ex H H2 := fun x o h => b x o (a x o h)
theorem Ex.new {H : Hp} {p : Addr} {o : HO} (h : H p = none) : Ex H (upd H p o) := fun a u e => (upd_ne (ne_of_none e h)).trans e
theorem Ex.back {H H' : Hp} {p : Addr} (e : Ex H H') (h : H' p = none) : H p = none := by
  cases q : H p with
  | none => rfl
  | some o => rw [e p o q] at h; cases h
theorem Ex.updL {H H' : Hp} {p : Addr} {o : HO} (e : Ex H H') (h : H' p = some o) : Ex (upd H p o) H' := fun a u q => by
  by_cases k : a = p
  · subst k; rw [upd_same] at q; cases q; exact h
  · rw [upd_ne k] at q; exact e a u q
theorem Ex.updR {H H' : Hp} {p : Addr} {o : HO} (e : Ex H H') (h : H p = none) : Ex H (upd H' p o) := fun a u q => by
  rw [upd_ne (ne_of_none q h)]; exact e a u q

/-- a tuple that is tracked (an empty one may be of the written part) -/
def TupAt (K : PySem.W.Frag) (H : Hp) (a : Addr) (xs : List V) : Prop := H a = some (.tup xs) ∨ (xs = [] ∧ SqT K H a xs)
mutual
inductive Rp (K : PySem.W.Frag) (H : Hp) : V → D → Prop
  | non : Rp K H .non .none
  | bl (b : Bool) : Rp K H (.bl b) (.bool b)
  | int (i : Int) : Rp K H (.int i) (.int i)
  | str (x : Str) : Rp K H (.str x) (.str x)
  | lst {a : Addr} {xs : List V} {ds : List D} : SqL K H a xs → RpAll K H xs ds → Rp K H (.ref a) (.list ds)
  | tup {a : Addr} {xs : List V} {ds : List D} : TupAt K H a xs → RpAll K H xs ds → Rp K H (.ref a) (.tuple ds)
inductive RpAll (K : PySem.W.Frag) (H : Hp) : List V → List D → Prop
  | nil : RpAll K H [] []
  | cons {v : V} {vs : List V} {d : D} {ds : List D} : Rp K H v d → RpAll K H vs ds → RpAll K H (v :: vs) (d :: ds)
end
section
variable {K : PySem.W.Frag} {H H' : Hp}
theorem rd_mono {a : Addr} {u : HO} (e : Ex H H') (h : Rd H a u) : Rd H' a u := by
  rcases h with h | ⟨o, h⟩
  · exact .inl (e a _ h)
  · exact .inr ⟨o, e a _ h⟩
theorem sqt_mono {a : Addr} {xs : List V} (e : Ex H H') (h : SqT K H a xs) : SqT K H' a xs := by
  rcases h with h | h
  · exact .inl (rd_mono e h)
  · exact .inr h
theorem sql_mono {a : Addr} {xs : List V} (e : Ex H H') (h : SqL K H a xs) : SqL K H' a xs := by
  rcases h with h | h
  · exact .inl (rd_mono e h)
  · exact .inr h
theorem TupAt.sqt {a : Addr} {xs : List V} (h : TupAt K H a xs) : SqT K H a xs := by
  rcases h with h | h
  · exact .inl (.inl h)
  · exact h.2
theorem tupAt_mono {a : Addr} {xs : List V} (e : Ex H H') (h : TupAt K H a xs) : TupAt K H' a xs := by
  rcases h with h | ⟨h1, h2⟩
  · exact .inl (e a _ h)
  · exact .inr ⟨h1, sqt_mono e h2⟩
mutual
theorem Rp.mono (e : Ex H H') : ∀ {v : V} {d : D}, Rp K H v d → Rp K H' v d
  | _, _, .non => .non
  | _, _, .bl b => .bl b
  | _, _, .int i => .int i
  | _, _, .str x => .str x
  | _, _, .lst h r => .lst (sql_mono e h) (RpAll.mono e r)
  | _, _, .tup h r => .tup (tupAt_mono e h) (RpAll.mono e r)
theorem RpAll.mono (e : Ex H H') : ∀ {vs : List V} {ds : List D}, RpAll K H vs ds → RpAll K H' vs ds
  | _, _, .nil => .nil
  | _, _, .cons a r => .cons (Rp.mono e a) (RpAll.mono e r)
end
mutual
theorem Rp.dp : ∀ {v : V} {d : D}, Rp K H v d → Dp K H v d
  | _, _, .non => .non
  | _, _, .bl b => .bl b
  | _, _, .int i => .int i
  | _, _, .str x => .str x
  | _, _, .lst h r => .lst h (RpAll.dp r)
  | _, _, .tup h r => .tup h.sqt (RpAll.dp r)
theorem RpAll.dp : ∀ {vs : List V} {ds : List D}, RpAll K H vs ds → DpAll K H vs ds
  | _, _, .nil => .nil
  | _, _, .cons a r => .cons (Rp.dp a) (RpAll.dp r)
end
theorem RpAll.length : ∀ {vs : List V} {ds : List D}, RpAll K H vs ds → vs.length = ds.length
  | _, _, .nil => rfl
  | _, _, .cons _ r => congrArg (· + 1) (RpAll.length r)
theorem RpAll.append : ∀ {vs ws : List V} {ds es : List D}, RpAll K H vs ds → RpAll K H ws es → RpAll K H (vs ++ ws) (ds ++ es)
  | _, _, _, _, .nil, s => s
  | _, _, _, _, .cons a r, s => .cons a (RpAll.append r s)
theorem RpAll.get : ∀ {vs : List V} {ds : List D} {i : Nat} {v : V}, RpAll K H vs ds → vs[i]? = some v → ∃ d, ds[i]? = some d ∧ Rp K H v d
  | _, _, _, _, .nil, h => by simp at h
  | _, _, 0, _, .cons a r, h => by simp at h; subst h; exact ⟨_, rfl, a⟩
  | _, _, i + 1, v, .cons a r, h => by
    obtain ⟨d, e, q⟩ := RpAll.get (i := i) (v := v) r (by simpa using h)
    exact ⟨d, by simpa using e, q⟩
theorem RpAll.get' : ∀ {vs : List V} {ds : List D} {i : Nat} {d : D}, RpAll K H vs ds → ds[i]? = some d → ∃ v, vs[i]? = some v ∧ Rp K H v d
  | _, _, _, _, .nil, h => by simp at h
  | _, _, 0, _, .cons a r, h => by simp at h; subst h; exact ⟨_, rfl, a⟩
  | _, _, i + 1, v, .cons a r, h => by
    obtain ⟨d, e, q⟩ := RpAll.get' (i := i) (d := v) r (by simpa using h)
    exact ⟨d, by simpa using e, q⟩
theorem RpAll.take : ∀ {vs : List V} {ds : List D} (n : Nat), RpAll K H vs ds → RpAll K H (vs.take n) (ds.take n)
  | _, _, 0, _ => by simp; exact .nil
  | _, _, _ + 1, .nil => by simp; exact .nil
  | _, _, n + 1, .cons a r => .cons a (RpAll.take n r)
theorem RpAll.drop : ∀ {vs : List V} {ds : List D} (n : Nat), RpAll K H vs ds → RpAll K H (vs.drop n) (ds.drop n)
  | _, _, 0, r => r
  | _, _, _ + 1, .nil => .nil
  | _, _, n + 1, .cons _ r => RpAll.drop n r
theorem RpAll.eraseIdx : ∀ {vs : List V} {ds : List D} (n : Nat), RpAll K H vs ds → RpAll K H (vs.eraseIdx n) (ds.eraseIdx n)
  | _, _, _, .nil => .nil
  | _, _, 0, .cons _ r => r
  | _, _, n + 1, .cons a r => .cons a (RpAll.eraseIdx n r)
theorem RpAll.set {v : V} {d : D} (h : Rp K H v d) : ∀ {vs : List V} {ds : List D} (n : Nat), RpAll K H vs ds → RpAll K H (vs.set n v) (ds.set n d)
  | _, _, _, .nil => .nil
  | _, _, 0, .cons _ r => .cons h r
  | _, _, n + 1, .cons a r => .cons a (RpAll.set h n r)
theorem RpAll.reverse : ∀ {vs : List V} {ds : List D}, RpAll K H vs ds → RpAll K H vs.reverse ds.reverse
  | _, _, .nil => .nil
  | _, _, .cons a r => by
    rw [List.reverse_cons, List.reverse_cons]
    exact RpAll.append (RpAll.reverse r) (.cons a .nil)
theorem RpAll.ofInts : ∀ ns : List Int, RpAll K H (ns.map V.int) (ns.map PyData.int)
  | [] => .nil
  | n :: ns => .cons (.int n) (RpAll.ofInts ns)
theorem RpAll.intsD : ∀ {ds : List D} {ns : List Int} {vs : List V}, MP.intsD ds = some ns → RpAll K H vs ds → vs = ns.map V.int
  | [], ns, vs, h, r => by
    cases r; simp [MP.intsD] at h; subst h; rfl
  | d :: ds, ns, vs, h, r => by
    cases r with
    | cons a r =>
      cases a <;> simp only [MP.intsD, reduceCtorEq] at h
      rename_i i
      cases q : MP.intsD ds with
      | none => rw [q] at h; simp at h
      | some ms =>
        rw [q] at h
        have e : i :: ms = ns := by simpa using h
        subst e
        rw [RpAll.intsD q r]; rfl
theorem RpAll.bools : ∀ {ds : List D} {bs : List Bool} {vs : List V}, MP.bools ds = some bs → RpAll K H vs ds → vs = bs.map V.bl
  | [], ns, vs, h, r => by
    cases r; simp [MP.bools] at h; subst h; rfl
  | d :: ds, ns, vs, h, r => by
    cases r with
    | cons a r =>
      cases a <;> simp only [MP.bools, reduceCtorEq] at h
      rename_i i
      cases q : MP.bools ds with
      | none => rw [q] at h; simp at h
      | some ms =>
        rw [q] at h
        have e : i :: ms = ns := by simpa using h
        subst e
        rw [RpAll.bools q r]; rfl
end

/-! ### the state of a body -/
/-- the pairs of a dict whose keys are tuples of ints -/
inductive KvR (K : PySem.W.Frag) (Hs : Hp) : List (List Int × D) → List (List Key × V) → Prop
  | nil : KvR K Hs [] []
  | cons {k : List Int} {d : D} {v : V} {kvs : List (List Int × D)} {ws : List (List Key × V)} : Rp K Hs v d → KvR K Hs kvs ws → KvR K Hs ((k, d) :: kvs) ((k.map Sum.inl, v) :: ws)
theorem KvR.mono {K : PySem.W.Frag} {Hs Hs' : Hp} (e : Ex Hs Hs') : ∀ {kvs : List (List Int × D)} {ws : List (List Key × V)}, KvR K Hs kvs ws → KvR K Hs' kvs ws
  | _, _, .nil => .nil
  | _, _, .cons a r => .cons (a.mono e) (KvR.mono e r)
def ObR (K : PySem.W.Frag) (Hs : Hp) : Ob → HO → Prop
  | .lst xs, .lst vs => RpAll K Hs vs xs
  | .dic kvs, .dT ws => KvR K Hs kvs ws
  | _, _ => False
def OwOk (K : PySem.W.Frag) (Fr H Hs : Hp) (s : Option (Option V)) (o : Ob) : Prop :=
  ∃ p ho, s = some (some (V.ref p)) ∧ H p = some ho ∧ ObR K Hs o ho ∧ Hs p = none ∧ Fr p = none
def EntOk (K : PySem.W.Frag) (Fr H Hs : Hp) (s : Option (Option V)) : Ent → Prop
  | .un => True
  | .sh d => ∃ v, s = some (some v) ∧ Rp K Hs v d
  | .ow o => OwOk K Fr H Hs s o
  | .bo o => OwOk K Fr H Hs s o
/-- q is no own object of a slot -/
def Not1 (σ : L2.St) (ρ : Env) (q : Addr) : Prop := ∀ (i : Nat) (e : Ent), ρ[i]? = some e → isOwn e = true → σ[i]? ≠ some (some (V.ref q))
structure Sta (K : PySem.W.Frag) (Fr Hs0 : Hp) (bs : List (Nat × Addr)) (σ : L2.St) (ρ : Env) (H Hs : Hp) : Prop where
  fr : Ex Fr H
  sh : Ex Hs H
  s0 : Ex Hs0 Hs
  nw : ∀ a o, Hs a = some o → Hs0 a = some o ∨ Fr a = none
  len : σ.length = ρ.length
  ent : ∀ (i : Nat) (e : Ent), ρ[i]? = some e → EntOk K Fr H Hs (σ[i]?) e
  dj : ∀ (i j : Nat) (e e' : Ent) (p : Addr), i ≠ j → ρ[i]? = some e → ρ[j]? = some e' → isOwn e = true → isOwn e' = true → σ[i]? = some (some (V.ref p)) → σ[j]? = some (some (V.ref p)) → False
  bo : ∀ b ∈ bs, σ[b.1]? = some (some (V.ref b.2)) ∧ ∃ o, ρ[b.1]? = some (.bo o)
def VOk (K : PySem.W.Frag) (Fr : Hp) (σ : L2.St) (ρ : Env) (H Hs : Hp) (v : V) : Val → Prop
  | .sh d => Rp K Hs v d
  | .ow o => ∃ q ho, v = .ref q ∧ H q = some ho ∧ ObR K Hs o ho ∧ Hs q = none ∧ Fr q = none ∧ Not1 σ ρ q

section
variable {K : PySem.W.Frag} {Fr Hs0 : Hp} {bs : List (Nat × Addr)} {σ : L2.St} {ρ ρ' : Env} {H H' Hs Hs' : Hp}
theorem ObR.mono (e : Ex Hs Hs') {o : Ob} {ho : HO} (h : ObR K Hs o ho) : ObR K Hs' o ho := by
  cases o <;> cases ho <;> first | exact RpAll.mono e h | exact KvR.mono e h | exact False.elim h
theorem ObR.lst {xs : List D} {ho : HO} (h : ObR K Hs (.lst xs) ho) : ∃ vs, ho = .lst vs ∧ RpAll K Hs vs xs := by
  cases ho <;> first | exact ⟨_, rfl, h⟩ | exact False.elim h
theorem ObR.dic {kvs : List (List Int × D)} {ho : HO} (h : ObR K Hs (.dic kvs) ho) : ∃ ws, ho = .dT ws ∧ KvR K Hs kvs ws := by
  cases ho <;> first | exact ⟨_, rfl, h⟩ | exact False.elim h
/-- heap and shared part grow by new objects -/
structure Grow (H Hs H' Hs' : Hp) : Prop where
  h : Ex H H'
  s : Ex Hs Hs'
  sh : Ex Hs' H'
  nw : ∀ a o, Hs' a = some o → Hs a = some o ∨ H a = none
theorem Grow.refl (e : Ex Hs H) : Grow H Hs H Hs := ⟨Ex.refl _, Ex.refl _, e, fun _ _ h => .inl h⟩
theorem Grow.newS {p : Addr} {o : HO} (e : Ex Hs H) (h : H p = none) : Grow H Hs (upd H p o) (upd Hs p o) :=
  ⟨Ex.new h, Ex.new (e.back h), Ex.updL (e.updR (e.back h)) upd_same, fun a u q => by
    by_cases k : a = p
    · exact .inr (k ▸ h)
    · rw [upd_ne k] at q; exact .inl q⟩
theorem Grow.newH {p : Addr} {o : HO} (e : Ex Hs H) (h : H p = none) : Grow H Hs (upd H p o) Hs :=
  ⟨Ex.new h, Ex.refl _, e.updR (e.back h), fun a u q => .inl q⟩
theorem Grow.trans {H2 Hs2 : Hp} (a : Grow H Hs H' Hs') (b : Grow H' Hs' H2 Hs2) : Grow H Hs H2 Hs2 :=
  ⟨a.h.trans b.h, a.s.trans b.s, b.sh, fun x o q => by
    rcases b.nw x o q with q | q
    · exact a.nw x o q
    · exact .inr (a.h.back q)⟩
theorem OwOk.grow {s : Option (Option V)} {o : Ob} (g : Grow H Hs H' Hs') (h : OwOk K Fr H Hs s o) : OwOk K Fr H' Hs' s o := by
  obtain ⟨p, ho, e1, e2, e3, e4, e5⟩ := h
  refine ⟨p, ho, e1, g.h _ _ e2, e3.mono g.s, ?_, e5⟩
  cases q : Hs' p with
  | none => rfl
  | some u =>
    rcases g.nw p u q with z | z
    · rw [e4] at z; cases z
    · rw [e2] at z; cases z
theorem EntOk.grow {s : Option (Option V)} {e : Ent} (g : Grow H Hs H' Hs') (h : EntOk K Fr H Hs s e) : EntOk K Fr H' Hs' s e := by
  cases e with
  | un => trivial
  | sh d =>
    obtain ⟨v, e1, e2⟩ := h
    exact ⟨v, e1, e2.mono g.s⟩
  | ow o => exact OwOk.grow g h
  | bo o => exact OwOk.grow g h
theorem Sta.grow (s : Sta K Fr Hs0 bs σ ρ H Hs) (g : Grow H Hs H' Hs') : Sta K Fr Hs0 bs σ ρ H' Hs' :=
  ⟨s.fr.trans g.h, g.sh, s.s0.trans g.s, fun a o q => by
      rcases g.nw a o q with q | q
      · exact s.nw a o q
      · exact .inr (s.fr.back q), s.len, fun i e h => (s.ent i e h).grow g, s.dj, s.bo⟩
/-- a new address is no own object -/
theorem Sta.not1 (s : Sta K Fr Hs0 bs σ ρ H Hs) {q : Addr} (h : H q = none) : Not1 σ ρ q := fun i e he ho z => by
  have k := s.ent i e he
  cases e <;> simp [isOwn] at ho
  all_goals
    obtain ⟨p, u, e1, e2, _⟩ := k
    rw [z] at e1
    cases e1
    rw [h] at e2; cases e2
/-- a new own object -/
theorem Sta.newOw (s : Sta K Fr Hs0 bs σ ρ H Hs) {q : Addr} {ho : HO} {o : Ob} (h : H q = none) (r : ObR K Hs o ho) :
    Sta K Fr Hs0 bs σ ρ (upd H q ho) Hs ∧ VOk K Fr σ ρ (upd H q ho) Hs (.ref q) (.ow o) :=
  ⟨s.grow (.newH s.sh h), q, ho, rfl, upd_same, r, s.sh.back h, s.fr.back h, s.not1 h⟩
/-- a new shared object -/
theorem Sta.newSh (s : Sta K Fr Hs0 bs σ ρ H Hs) {q : Addr} {ho : HO} (h : H q = none) :
    Sta K Fr Hs0 bs σ ρ (upd H q ho) (upd Hs q ho) ∧ Ex Hs (upd Hs q ho) := ⟨s.grow (.newS s.sh h), Ex.new (s.sh.back h)⟩
/-- an own object that no slot holds becomes data -/
theorem Sta.frz (s : Sta K Fr Hs0 bs σ ρ H Hs) {q : Addr} {ho : HO} (h : H q = some ho) (hs : Hs q = none) (hf : Fr q = none) (n : Not1 σ ρ q) :
    Sta K Fr Hs0 bs σ ρ H (upd Hs q ho) :=
  ⟨s.fr, s.sh.updL h, s.s0.trans (Ex.new hs), fun a o e => by
      by_cases k : a = q
      · exact .inr (k ▸ hf)
      · rw [upd_ne k] at e; exact s.nw a o e, s.len, fun i e he => by
      have k := s.ent i e he
      cases e with
      | un => trivial
      | sh d => obtain ⟨v, e1, e2⟩ := k; exact ⟨v, e1, e2.mono (Ex.new hs)⟩
      | ow o =>
        obtain ⟨p, u, e1, e2, e3, e4, e5⟩ := k
        refine ⟨p, u, e1, e2, e3.mono (Ex.new hs), ?_, e5⟩
        rw [upd_ne]
        · exact e4
        · intro z; subst z; exact n i _ he rfl e1
      | bo o =>
        obtain ⟨p, u, e1, e2, e3, e4, e5⟩ := k
        refine ⟨p, u, e1, e2, e3.mono (Ex.new hs), ?_, e5⟩
        rw [upd_ne]
        · exact e4
        · intro z; subst z; exact n i _ he rfl e1, s.dj, s.bo⟩
theorem VOk.toD {v : V} {val : Val} {d : D} (s : Sta K Fr Hs0 bs σ ρ H Hs) (h : VOk K Fr σ ρ H Hs v val) (e : val.d = some d) :
    ∃ Hs', Sta K Fr Hs0 bs σ ρ H Hs' ∧ Ex Hs Hs' ∧ Rp K Hs' v d := by
  cases val with
  | sh d' =>
    have e' : d' = d := Option.some.inj e
    subst e'
    exact ⟨Hs, s, Ex.refl _, h⟩
  | ow o =>
    cases o with
    | dic _ => cases e
    | lst xs =>
      have e' : PyData.list xs = d := Option.some.inj e
      subst e'
      obtain ⟨q, ho, rfl, e2, e3, e4, e5, e6⟩ := h
      obtain ⟨vs, rfl, r⟩ := e3.lst
      exact ⟨upd Hs q (.lst vs), s.frz e2 e4 e5 e6, Ex.new e4, .lst (.inl (.inl upd_same)) (r.mono (Ex.new e4))⟩
/-- an entry that is weaker than what stands -/
theorem Sta.weak {i : Nat} {e : Ent} (s : Sta K Fr Hs0 bs σ ρ H Hs) (hb : ∀ b ∈ bs, b.1 ≠ i) (ho : isOwn e = false) (he : EntOk K Fr H Hs (σ[i]?) e) : Sta K Fr Hs0 bs σ (ρ.set i e) H Hs :=
  ⟨s.fr, s.sh, s.s0, s.nw, by rw [List.length_set]; exact s.len, fun j e' h => by
      by_cases k : i = j
      · subst k
        by_cases l : i < ρ.length
        · rw [List.getElem?_set_self l] at h; cases h; exact he
        · rw [List.getElem?_eq_none (by rw [List.length_set]; omega)] at h; cases h
      · rw [List.getElem?_set_ne k] at h; exact s.ent j e' h,
    fun a b x y p n h1 h2 o1 o2 p1 p2 => by
      by_cases k : i = a
      · subst k
        by_cases l : i < ρ.length
        · rw [List.getElem?_set_self l] at h1; cases h1; rw [ho] at o1; cases o1
        · rw [List.getElem?_eq_none (by rw [List.length_set]; omega)] at h1; cases h1
      · rw [List.getElem?_set_ne k] at h1
        by_cases k' : i = b
        · subst k'
          by_cases l : i < ρ.length
          · rw [List.getElem?_set_self l] at h2; cases h2; rw [ho] at o2; cases o2
          · rw [List.getElem?_eq_none (by rw [List.length_set]; omega)] at h2; cases h2
        · rw [List.getElem?_set_ne k'] at h2
          exact s.dj a b x y p n h1 h2 o1 o2 p1 p2,
    fun b hb' => by
      obtain ⟨h1, o, h2⟩ := s.bo b hb'
      refine ⟨h1, o, ?_⟩
      rw [List.getElem?_set_ne (Ne.symm (hb b hb'))]
      exact h2⟩
/-- a slot is stored -/
theorem Sta.put {i : Nat} {e : Ent} {v : V} (s : Sta K Fr Hs0 bs σ ρ H Hs) (hb : ∀ b ∈ bs, b.1 ≠ i) (he : EntOk K Fr H Hs (some (some v)) e) (hn : isOwn e = true → ∀ q, v = .ref q → Not1 σ ρ q) :
    Sta K Fr Hs0 bs (σ.set i (some v)) (ρ.set i e) H Hs :=
  ⟨s.fr, s.sh, s.s0, s.nw, by rw [List.length_set, List.length_set]; exact s.len, fun j e' h => by
      by_cases k : i = j
      · subst k
        by_cases l : i < ρ.length
        · rw [List.getElem?_set_self l] at h; cases h
          rw [List.getElem?_set_self (by rw [s.len]; exact l)]
          exact he
        · rw [List.getElem?_eq_none (by rw [List.length_set]; omega)] at h; cases h
      · rw [List.getElem?_set_ne k] at h
        rw [List.getElem?_set_ne k]
        exact s.ent j e' h,
    fun a b x y p n h1 h2 o1 o2 p1 p2 => by
      by_cases k : i = a
      · subst k
        have k' : i ≠ b := n
        rw [List.getElem?_set_ne k'] at h2 p2
        by_cases l : i < ρ.length
        · rw [List.getElem?_set_self l] at h1; cases h1
          rw [List.getElem?_set_self (by rw [s.len]; exact l)] at p1
          cases p1
          exact hn o1 p rfl b y h2 o2 p2
        · rw [List.getElem?_eq_none (by rw [List.length_set]; omega)] at h1; cases h1
      · rw [List.getElem?_set_ne k] at h1 p1
        by_cases k' : i = b
        · subst k'
          by_cases l : i < ρ.length
          · rw [List.getElem?_set_self l] at h2; cases h2
            rw [List.getElem?_set_self (by rw [s.len]; exact l)] at p2
            cases p2
            exact hn o2 p rfl a x h1 o1 p1
          · rw [List.getElem?_eq_none (by rw [List.length_set]; omega)] at h2; cases h2
        · rw [List.getElem?_set_ne k'] at h2 p2
          exact s.dj a b x y p n h1 h2 o1 o2 p1 p2,
    fun b hb' => by
      obtain ⟨h1, o, h2⟩ := s.bo b hb'
      have n := Ne.symm (hb b hb')
      exact ⟨by rw [List.getElem?_set_ne n]; exact h1, o, by rw [List.getElem?_set_ne n]; exact h2⟩⟩
theorem getD_some {ρ : Env} {i : Nat} {e : Ent} (h : ρ.getD i .un = e) (n : e ≠ .un) : ρ[i]? = some e := by
  rw [List.getD_eq_getElem?_getD] at h
  cases q : ρ[i]? with
  | none => rw [q] at h; exact absurd h.symm n
  | some x => rw [q] at h; exact congrArg some h
theorem Sta.notBo (s : Sta K Fr Hs0 bs σ ρ H Hs) {i : Nat} (h : isBo ρ i = false) : ∀ b ∈ bs, b.1 ≠ i := fun b hb z => by
  obtain ⟨_, o, h2⟩ := s.bo b hb
  rw [z] at h2
  unfold isBo at h
  rw [List.getD_eq_getElem?_getD, h2] at h
  cases h
theorem Sta.store {i : Nat} {v : V} {val : Val} (s : Sta K Fr Hs0 bs σ ρ H Hs) (h : VOk K Fr σ ρ H Hs v val) (e : stV i val ρ = some ρ') : Sta K Fr Hs0 bs (σ.set i (some v)) ρ' H Hs := by
  unfold stV at e
  cases hb : isBo ρ i with
  | true => rw [hb, if_pos rfl] at e; cases e
  | false =>
    rw [hb] at e
    cases val with
    | sh d =>
      cases e
      exact s.put (s.notBo hb) ⟨v, rfl, h⟩ (fun z => by cases z)
    | ow o =>
      cases e
      obtain ⟨q, ho, rfl, e2, e3, e4, e5, e6⟩ := h
      exact s.put (s.notBo hb) ⟨q, ho, rfl, e2, e3, e4, e5⟩ (fun _ q' z => by cases z; exact e6)
def reOb : Ent → Ob → Ent
  | .bo _, o => .bo o
  | _, o => .ow o
/-- an own object is changed in place -/
theorem Sta.change {i : Nat} {e : Ent} {o o' : Ob} {p : Addr} {ho' : HO} (s : Sta K Fr Hs0 bs σ ρ H Hs) (h : ρ[i]? = some e) (he : e = .ow o ∨ e = .bo o) (hp : σ[i]? = some (some (V.ref p))) (r : ObR K Hs o' ho') :
    Sta K Fr Hs0 bs σ (ρ.set i (reOb e o')) (upd H p ho') Hs := by
  have ho : isOwn e = true := by rcases he with rfl | rfl <;> rfl
  have k : OwOk K Fr H Hs (σ[i]?) o := by
    have := s.ent i e h
    rcases he with rfl | rfl <;> exact this
  obtain ⟨p', u, e1, e2, e3, e4, e5⟩ := k
  have epp : p' = p := by rw [hp] at e1; cases e1; rfl
  subst epp
  have li : i < ρ.length := (List.getElem?_eq_some_iff.mp h).1
  refine ⟨s.fr.updR e5, s.sh.updR e4, s.s0, s.nw, by rw [List.length_set]; exact s.len, fun j x hj => ?_, fun a b x y q n h1 h2 o1 o2 p1 p2 => ?_, fun b hb => ?_⟩
  · by_cases kk : i = j
    · subst kk
      rw [List.getElem?_set_self li] at hj
      cases hj
      have : OwOk K Fr (upd H p' ho') Hs (σ[i]?) o' := ⟨p', ho', e1, upd_same, r, e4, e5⟩
      rcases he with rfl | rfl <;> exact this
    · rw [List.getElem?_set_ne kk] at hj
      have kx := s.ent j x hj
      have oth : ∀ w, OwOk K Fr H Hs (σ[j]?) w → isOwn x = true → OwOk K Fr (upd H p' ho') Hs (σ[j]?) w := fun w kw ox => by
        obtain ⟨q, z, f1, f2, f3, f4, f5⟩ := kw
        refine ⟨q, z, f1, ?_, f3, f4, f5⟩
        rw [upd_ne]
        · exact f2
        · intro zz; subst zz
          exact s.dj i j e x q kk h hj ho ox hp f1
      cases x with
      | un => trivial
      | sh d => exact kx
      | ow w => exact oth w kx rfl
      | bo w => exact oth w kx rfl
  · have fix : ∀ (c : Nat) (z : Ent), (ρ.set i (reOb e o'))[c]? = some z → isOwn z = true → ∃ z', ρ[c]? = some z' ∧ isOwn z' = true := fun c z hz oz => by
      by_cases kk : i = c
      · subst kk; exact ⟨e, h, ho⟩
      · rw [List.getElem?_set_ne kk] at hz; exact ⟨z, hz, oz⟩
    obtain ⟨x', hx', ox'⟩ := fix a x h1 o1
    obtain ⟨y', hy', oy'⟩ := fix b y h2 o2
    exact s.dj a b x' y' q n hx' hy' ox' oy' p1 p2
  · obtain ⟨h1, w, h2⟩ := s.bo b hb
    refine ⟨h1, ?_⟩
    by_cases kk : i = b.1
    · rw [← kk] at h2
      rw [h] at h2; cases h2
      exact ⟨o', by rw [← kk, List.getElem?_set_self li]; rfl⟩
    · exact ⟨w, by rw [List.getElem?_set_ne kk]; exact h2⟩
/-- a pending own object goes into the frame -/
theorem Sta.frame {q : Addr} {ho : HO} (s : Sta K Fr Hs0 bs σ ρ H Hs) (h : H q = some ho) (hs : Hs q = none) (n : Not1 σ ρ q) : Sta K (upd Fr q ho) Hs0 bs σ ρ H Hs :=
  ⟨s.fr.updL h, s.sh, s.s0, fun a o e => by
      rcases s.nw a o e with z | z
      · exact .inl z
      · by_cases k : a = q
        · subst k; rw [hs] at e; cases e
        · exact .inr (by rw [upd_ne k]; exact z), s.len, fun i e he => by
      have k := s.ent i e he
      have oth : ∀ w, OwOk K Fr H Hs (σ[i]?) w → isOwn e = true → OwOk K (upd Fr q ho) H Hs (σ[i]?) w := fun w kw ow => by
        obtain ⟨p, u, e1, e2, e3, e4, e5⟩ := kw
        refine ⟨p, u, e1, e2, e3, e4, ?_⟩
        rw [upd_ne]
        · exact e5
        · intro z; subst z; exact n i e he ow e1
      cases e with
      | un => trivial
      | sh d => exact k
      | ow o => exact oth o k rfl
      | bo o => exact oth o k rfl, s.dj, s.bo⟩
theorem Sta.unframe {q : Addr} {ho : HO} (hf : Fr q = none) (hs0 : Hs0 q = none) (s : Sta K (upd Fr q ho) Hs0 bs σ ρ H Hs) : Sta K Fr Hs0 bs σ ρ H Hs ∧ H q = some ho ∧ Hs q = none ∧ Not1 σ ρ q :=
  ⟨⟨fun a o e => s.fr a o (by rw [upd_ne (ne_of_none e hf)]; exact e), s.sh, s.s0, fun a o e => by
      rcases s.nw a o e with z | z
      · exact .inl z
      · refine .inr ?_
        by_cases k : a = q
        · subst k; exact hf
        · rw [upd_ne k] at z; exact z, s.len, fun i e he => by
      have k := s.ent i e he
      have oth : ∀ w, OwOk K (upd Fr q ho) H Hs (σ[i]?) w → OwOk K Fr H Hs (σ[i]?) w := fun w kw => by
        obtain ⟨p, u, e1, e2, e3, e4, e5⟩ := kw
        refine ⟨p, u, e1, e2, e3, e4, ?_⟩
        by_cases k : p = q
        · subst k; exact hf
        · rw [upd_ne k] at e5; exact e5
      cases e with
      | un => trivial
      | sh d => exact k
      | ow o => exact oth o k
      | bo o => exact oth o k, s.dj, s.bo⟩,
    s.fr q ho upd_same, (by
      cases e : Hs q with
      | none => rfl
      | some u =>
        rcases s.nw q u e with z | z
        · rw [hs0] at z; cases z
        · rw [upd_same] at z; cases z),
    fun i e he ow z => by
      have k := s.ent i e he
      have oth : ∀ w, OwOk K (upd Fr q ho) H Hs (σ[i]?) w → False := fun w kw => by
        obtain ⟨p, u, e1, e2, e3, e4, e5⟩ := kw
        rw [z] at e1; cases e1
        rw [upd_same] at e5; cases e5
      cases e with
      | un => cases ow
      | sh d => cases ow
      | ow o => exact oth o k
      | bo o => exact oth o k⟩
end
end MP
end

section
set_option Elab.async false
set_option linter.all false
set_option maxRecDepth 100000
set_option maxHeartbeats 4000000
namespace MP
open PySem L2 PyProof.Rows

/-! ### the order of rows of ints -/
abbrev BB : Int := 1000000
def RowB (d : Nat) (r : List Int) : Prop := r.length = d ∧ TS.Bd BB r
theorem code_bd : ∀ r : List Int, TS.Bd BB r → 0 ≤ TS.code BB r ∧ TS.code BB r < BB ^ r.length
  | [], _ => by simp [TS.code]
  | x :: r, hb => by
    obtain ⟨u1, u2⟩ := code_bd r hb.tail
    obtain ⟨w1, w2⟩ := hb.head
    have := TS.num1 u1 u2 w1 w2
    rw [TS.code, List.length_cons, Int.pow_succ]
    exact this
theorem code_lex : ∀ (r t : List Int), r.length = t.length → TS.Bd BB r → TS.Bd BB t → (HT.lexLt r t = true ↔ TS.code BB r < TS.code BB t)
  | [], [], _, _, _ => by simp [TS.code, HT.lexLt_nil_nil]
  | [], _ :: _, e, _, _ => by simp at e
  | _ :: _, [], e, _, _ => by simp at e
  | x :: r, y :: t, e, hr, ht => by
    have e' : r.length = t.length := by simpa using e
    have ih := code_lex r t e' hr.tail ht.tail
    obtain ⟨a1, a2⟩ := code_bd r hr.tail
    obtain ⟨b1, b2⟩ := code_bd t ht.tail
    rw [HT.lexLt_cons]
    simp only [TS.code]
    rw [e'] at a2 ⊢
    obtain ⟨P, hP⟩ : ∃ P : Int, P = BB ^ t.length := ⟨_, rfl⟩
    rw [← hP] at a2 b2 ⊢
    by_cases hxy : x = y
    · subst hxy
      rw [if_pos rfl, ih]
      omega
    · rw [if_neg hxy, decide_eq_true_eq]
      have m1 : x < y → (x + 1) * P ≤ y * P := fun h => Int.mul_le_mul_of_nonneg_right (by omega) (by omega)
      have m2 : y < x → (y + 1) * P ≤ x * P := fun h => Int.mul_le_mul_of_nonneg_right (by omega) (by omega)
      rw [Int.add_mul, Int.one_mul] at m1 m2
      constructor
      · intro h
        have := m1 h
        omega
      · intro h
        rcases Int.lt_trichotomy x y with g | g | g
        · exact g
        · exact absurd g hxy
        · have := m2 g
          omega
theorem code_inj : ∀ (r t : List Int), r.length = t.length → TS.Bd BB r → TS.Bd BB t → TS.code BB r = TS.code BB t → r = t
  | [], [], _, _, _, _ => rfl
  | [], _ :: _, e, _, _, _ => by simp at e
  | _ :: _, [], e, _, _, _ => by simp at e
  | x :: r, y :: t, e, hr, ht, h => by
    have e' : r.length = t.length := by simpa using e
    obtain ⟨a1, a2⟩ := code_bd r hr.tail
    obtain ⟨b1, b2⟩ := code_bd t ht.tail
    simp only [TS.code] at h
    rw [e'] at a2 h
    obtain ⟨P, hP⟩ : ∃ P : Int, P = BB ^ t.length := ⟨_, rfl⟩
    rw [← hP] at a2 b2 h
    have m1 : x < y → (x + 1) * P ≤ y * P := fun h => Int.mul_le_mul_of_nonneg_right (by omega) (by omega)
    have m2 : y < x → (y + 1) * P ≤ x * P := fun h => Int.mul_le_mul_of_nonneg_right (by omega) (by omega)
    rw [Int.add_mul, Int.one_mul] at m1 m2
    have hxy : x = y := by
      rcases Int.lt_trichotomy x y with g | g | g
      · have := m1 g
        omega
      · exact g
      · have := m2 g
        omega
    subst hxy
    rw [code_inj r t e' hr.tail ht.tail (by omega)]
theorem insT_perm (a : List Int) : ∀ l : List (List Int), (insT a l).Perm (a :: l)
  | [] => .refl _
  | b :: r => by
    unfold insT
    split
    · exact ((insT_perm a r).cons b).trans (.swap a b r)
    · exact .refl _
theorem sortT_perm : ∀ l : List (List Int), (sortT l).Perm l
  | [] => .refl _
  | a :: r => (insT_perm a (sortT r)).trans ((sortT_perm r).cons a)
theorem insT_sorted {d : Nat} (a : List Int) (ha : RowB d a) : ∀ l : List (List Int), (∀ b ∈ l, RowB d b) → l.Pairwise (fun b c => TS.code BB b ≤ TS.code BB c) → (insT a l).Pairwise (fun b c => TS.code BB b ≤ TS.code BB c)
  | [], _, _ => by simp [insT]
  | b :: r, hb, h => by
    have hB := hb b List.mem_cons_self
    obtain ⟨h1, h2⟩ := List.pairwise_cons.mp h
    have key := code_lex b a (by rw [hB.1, ha.1]) hB.2 ha.2
    unfold insT
    split
    · rename_i k
      have hlt := key.mp k
      refine List.pairwise_cons.mpr ⟨fun x hx => ?_, insT_sorted a ha r (fun c hc => hb c (List.mem_cons_of_mem _ hc)) h2⟩
      rcases List.mem_cons.mp ((insT_perm a r).mem_iff.mp hx) with e | hx
      · rw [e]
        omega
      · exact h1 x hx
    · rename_i k
      have hle : TS.code BB a ≤ TS.code BB b := by
        apply Classical.byContradiction
        intro hn
        exact k (key.mpr (by omega))
      refine List.pairwise_cons.mpr ⟨fun x hx => ?_, h⟩
      rcases List.mem_cons.mp hx with e | hx
      · rw [e]
        exact hle
      · have := h1 x hx
        omega
theorem sortT_sorted {d : Nat} : ∀ l : List (List Int), (∀ b ∈ l, RowB d b) → (sortT l).Pairwise (fun b c => TS.code BB b ≤ TS.code BB c)
  | [], _ => .nil
  | a :: r, h => insT_sorted a (h a List.mem_cons_self) _ (fun b hb => h b (List.mem_cons_of_mem _ ((sortT_perm r).mem_iff.mp hb))) (sortT_sorted r fun b hb => h b (List.mem_cons_of_mem _ hb))
theorem sortT_unique {d : Nat} {l m : List (List Int)} (p : m.Perm l) (hl : ∀ b ∈ l, RowB d b) (hm : m.Pairwise (fun b c => TS.code BB b ≤ TS.code BB c)) : m = sortT l := by
  refine (p.trans (sortT_perm l).symm).eq_of_pairwise (le := fun b c => TS.code BB b ≤ TS.code BB c) (fun a b ha hb h1 h2 => ?_) hm (sortT_sorted l hl)
  have ra := hl a (p.mem_iff.mp ha)
  have rb := hl b ((sortT_perm l).mem_iff.mp hb)
  exact code_inj a b (by rw [ra.1, rb.1]) ra.2 rb.2 (Int.le_antisymm h1 h2)
theorem rowsOk_iff {l : List (List Int)} (h : rowsOk l = true) : ∃ d, 1 ≤ d ∧ ∀ b ∈ l, RowB d b := by
  match l, h with
  | [], _ => exact ⟨1, Nat.le_refl _, fun b hb => by cases hb⟩
  | a :: r, h =>
    unfold rowsOk at h
    simp only [Bool.and_eq_true, Bool.not_eq_true', List.all_eq_true, decide_eq_true_eq] at h
    refine ⟨a.length, ?_, fun b hb => ⟨(h.2 b hb).1, fun m hm => ?_⟩⟩
    · cases a with
      | nil => cases h.1
      | cons x y => simp
    · have := (h.2 b hb).2 m hm
      rw [smT_def] at this
      simp only [Bool.and_eq_true, decide_eq_true_eq] at this
      exact this
theorem rowsI_eq : ∀ {ds : List D} {l : List (List Int)}, rowsI ds = some l → ds = l.map tupI
  | [], l, h => by cases h; rfl
  | d :: ds, l, h => by
    cases d <;> simp only [rowsI, reduceCtorEq] at h
    rename_i xs
    simp only [Option.bind_eq_some_iff, Option.map_eq_some_iff] at h
    obtain ⟨ns, h1, l', h2, rfl⟩ := h
    have e1 : ∀ {xs : List D} {ns : List Int}, intsD xs = some ns → xs = ns.map .int := by
      intro xs
      induction xs with
      | nil => intro ns h; cases h; rfl
      | cons x xs ih =>
        intro ns h
        cases x <;> simp only [intsD, reduceCtorEq] at h
        rename_i i
        obtain ⟨ms, g1, rfl⟩ := Option.map_eq_some_iff.mp h
        rw [ih g1]
        rfl
    rw [rowsI_eq h2, e1 h1]
    rfl
theorem ints_map : ∀ ns : List Int, MP.intsD (ns.map .int) = some ns
  | [] => rfl
  | a :: l => by simp only [List.map_cons, MP.intsD, ints_map l, Option.map_some]
section
variable {K : PySem.W.Frag} {H Hs : Hp}
theorem RpAll.mem : ∀ {vs : List V} {ds : List D} {v : V}, RpAll K H vs ds → v ∈ vs → ∃ d ∈ ds, Rp K H v d
  | _, _, _, .nil, h => by cases h
  | _, _, v, .cons a r, h => by
    rcases List.mem_cons.mp h with e | h
    · rw [e]
      exact ⟨_, List.mem_cons_self, a⟩
    · obtain ⟨d, h1, h2⟩ := RpAll.mem r h
      exact ⟨d, List.mem_cons_of_mem _ h1, h2⟩
theorem RpAll.perm : ∀ {vs ws : List V}, ws.Perm vs → ∀ {ds : List D}, RpAll K H vs ds → ∃ es, es.Perm ds ∧ RpAll K H ws es := by
  intro vs ws p
  induction p with
  | nil => intro ds r; exact ⟨ds, .refl _, r⟩
  | cons x p ih =>
    intro ds r
    cases r with
    | cons a r =>
      obtain ⟨es, h1, h2⟩ := ih r
      exact ⟨_ :: es, h1.cons _, .cons a h2⟩
  | swap x y l =>
    intro ds r
    cases r with
    | cons a r =>
      cases r with
      | cons b r => exact ⟨_ :: _ :: _, .swap _ _ _, .cons b (.cons a r)⟩
  | trans p1 p2 ih1 ih2 =>
    intro ds r
    obtain ⟨es, h1, h2⟩ := ih2 r
    obtain ⟨fs, h3, h4⟩ := ih1 h2
    exact ⟨fs, h3.trans h1, h4⟩
/-- a value of a row of ints -/
theorem Rp.row {v : V} {ns : List Int} (h : Rp K H v (tupI ns)) : TupI K H v ns := by
  unfold tupI at h
  cases h with
  | tup h r =>
    have hx := r.intsD (ints_map ns)
    subst hx
    exact ⟨_, rfl, h.sqt⟩
/-- rows, sorted -/
theorem rows_sorted {vs ws : List V} {l : List (List Int)} {d : Nat} (r : RpAll K H vs (l.map tupI)) (hl : ∀ b ∈ l, RowB d b) (p : ws.Perm vs) (hp : ws.Pairwise (fun x y => ∀ n m, TupI K H x n → TupI K H y m → TS.code BB n ≤ TS.code BB m)) : RpAll K H ws ((sortT l).map tupI) := by
  obtain ⟨es, h1, h2⟩ := RpAll.perm p r
  obtain ⟨l', hl', rfl⟩ : ∃ l' : List (List Int), l'.Perm l ∧ es = l'.map tupI := by
    have key : ∀ {es fs : List D}, es.Perm fs → ∀ {l : List (List Int)}, fs = l.map tupI → ∃ l' : List (List Int), l'.Perm l ∧ es = l'.map tupI := by
      intro es fs p
      induction p with
      | nil =>
        intro l e
        cases l with
        | nil => exact ⟨[], .refl _, rfl⟩
        | cons a l => cases e
      | cons x p ih =>
        intro l e
        cases l with
        | nil => cases e
        | cons a l =>
          rw [List.map_cons] at e
          injection e with e1 e2
          obtain ⟨l', g1, g2⟩ := ih e2
          exact ⟨a :: l', g1.cons a, by rw [g2, e1]; rfl⟩
      | swap x y fs =>
        intro l e
        match l, e with
        | a :: b :: l, e =>
          rw [List.map_cons, List.map_cons] at e
          injection e with e1 e2
          injection e2 with e2 e3
          exact ⟨b :: a :: l, .swap _ _ _, by rw [e1, e2, e3]; rfl⟩
      | trans p1 p2 ih1 ih2 =>
        intro l e
        obtain ⟨l1, g1, g2⟩ := ih2 e
        obtain ⟨l2, g3, g4⟩ := ih1 g2
        exact ⟨l2, g3.trans g1, g4⟩
    exact key h1 rfl
  have hs : l'.Pairwise (fun b c => TS.code BB b ≤ TS.code BB c) := by
    have key : ∀ {ws : List V} {l' : List (List Int)}, RpAll K H ws (l'.map tupI) → ws.Pairwise (fun x y => ∀ n m, TupI K H x n → TupI K H y m → TS.code BB n ≤ TS.code BB m) → l'.Pairwise (fun b c => TS.code BB b ≤ TS.code BB c) := by
      intro ws
      induction ws with
      | nil =>
        intro l' r _
        cases l' with
        | nil => exact .nil
        | cons a l => cases r
      | cons w ws ih =>
        intro l' r hp
        cases l' with
        | nil => cases r
        | cons a l =>
          rw [List.map_cons] at r
          cases r with
          | cons ra rr =>
            obtain ⟨q1, q2⟩ := List.pairwise_cons.mp hp
            refine List.pairwise_cons.mpr ⟨fun c hc => ?_, ih rr q2⟩
            have : ∀ {ws : List V} {l : List (List Int)} {c : List Int}, RpAll K H ws (l.map tupI) → c ∈ l → ∃ x ∈ ws, TupI K H x c := by
              intro ws l
              induction l generalizing ws with
              | nil => intro c _ hc; cases hc
              | cons b l ih =>
                intro c r hc
                rw [List.map_cons] at r
                cases r with
                | cons rb r =>
                  rcases List.mem_cons.mp hc with e | hc
                  · rw [e]
                    exact ⟨_, List.mem_cons_self, rb.row⟩
                  · obtain ⟨x, h1, h2⟩ := ih r hc
                    exact ⟨x, List.mem_cons_of_mem _ h1, h2⟩
            obtain ⟨x, hx, tx⟩ := this rr hc
            exact q1 x hx a c ra.row tx
    exact key h2 hp
  rw [← sortT_unique hl' hl hs]
  exact h2
end
/-! ### t > u -/
theorem lexAt_drop (ns ms : List Int) : ∀ (k i : Nat), i + k = min ns.length ms.length →
    Ob.lexAt (fun j => decide (ns.getD j 0 = ms.getD j 0)) (fun j => decide (ms.getD j 0 < ns.getD j 0)) (decide (ns.length > ms.length)) i k = HT.lexLt (ms.drop i) (ns.drop i)
  | 0, i, h => by
    rw [Ob.lexAt_zero]
    by_cases hl : ms.length < ns.length
    · have e1 : ms.drop i = [] := List.drop_of_length_le (by omega)
      rw [e1, List.drop_eq_getElem_cons (show i < ns.length by omega), HT.lexLt_nil_cons]
      exact decide_eq_true hl
    · have e1 : ns.drop i = [] := List.drop_of_length_le (by omega)
      rw [e1]
      cases hm : ms.drop i with
      | nil => rw [HT.lexLt_nil_nil]; exact decide_eq_false hl
      | cons a r => rw [HT.lexLt_cons_nil]; exact decide_eq_false hl
  | k + 1, i, h => by
    have h1 : i < ns.length := by omega
    have h2 : i < ms.length := by omega
    have ih := lexAt_drop ns ms k (i + 1) (by omega)
    have g1 : ns.getD i 0 = ns[i] := by rw [List.getD_eq_getElem?_getD, List.getElem?_eq_getElem h1]; rfl
    have g2 : ms.getD i 0 = ms[i] := by rw [List.getD_eq_getElem?_getD, List.getElem?_eq_getElem h2]; rfl
    rw [Ob.lexAt_succ, ih, List.drop_eq_getElem_cons h1, List.drop_eq_getElem_cons h2, HT.lexLt_cons, g1, g2]
    by_cases e : ns[i] = ms[i]
    · rw [if_pos (decide_eq_true e), if_pos e.symm]
    · rw [if_neg (by rw [decide_eq_false e]; exact Bool.false_ne_true), if_neg (Ne.symm e)]
def rGtT (K : PySem.W.Frag) : R2 := fun x y H Q => ∃ p q ns ms, x = .ref p ∧ y = .ref q ∧ SqT K H p (ns.map V.int) ∧ SqT K H q (ms.map V.int) ∧ Q (.bl (HT.lexLt ms ns)) H
theorem op_gtT {X : Cx} (hu : X.A.units < cLine) : OpR X (compareOp .Gt) (rGtT X.K) := by
  intro pins s σ H x y v u Q I rx ry hh
  obtain ⟨p, p', ns, ms, rfl, rfl, hp, hp', goal⟩ := hh
  cases rx
  cases ry
  obtain ⟨us, q1, q2, _⟩ := I.tuple hp
  obtain ⟨ws, w1, w2, _⟩ := I.tuple hp'
  have j1 : IntsAre us ns := Vals.ints q1
  have j2 : IntsAre ws ms := Vals.ints w1
  have s1 : us.toArray.size = ns.length := by rw [List.size_toArray, j1.length]
  have s2 : ws.toArray.size = ms.length := by rw [List.size_toArray, j2.length]
  have one : ∀ k (hk : k < us.toArray.size), ∃ t, us.toArray[k] = .int (ns.getD k 0) t := fun k hk => PyProof.Rows.IntsAre.int_at j1 k _ (by simp at hk; simp [hk])
  have two : ∀ k (hk : k < ws.toArray.size), ∃ t, ws.toArray[k] = .int (ms.getD k 0) t := fun k hk => PyProof.Rows.IntsAre.int_at j2 k _ (by simp at hk; simp [hk])
  have key := Ob.RcOp.tuples_gt (A := X.A) (s := s) (e := fun k => decide (ns.getD k 0 = ms.getD k 0)) (r := fun k => decide (ms.getD k 0 < ns.getD k 0)) q2 w2 hu (fun k h1 h2 => by
    obtain ⟨t, e1⟩ := one k h1
    obtain ⟨t', e2⟩ := two k h2
    rw [e1, e2]
    have hb : (ns.getD k 0 == ms.getD k 0) = decide (ns.getD k 0 = ms.getD k 0) := by
      rw [Bool.eq_iff_iff]
      simp
    rw [← hb]
    exact SeqAt.EqAt.int_int _ t _ t') (fun k h1 h2 _ => by
    obtain ⟨t, e1⟩ := one k h1
    obtain ⟨t', e2⟩ := two k h2
    rw [e1, e2]
    exact Ob.RcOp.gt_int _ _ t t')
  rw [s1, s2, lexAt_drop ns ms _ 0 (by omega), List.drop_zero, List.drop_zero] at key
  exact key X.prog X.w X.xe (EP X pins σ Q) ⟨.bl (HT.lexLt ms ns), H, I, rfl, goal⟩
end MP
end

section
set_option Elab.async false
set_option linter.all false
set_option maxRecDepth 100000
set_option maxHeartbeats 4000000
namespace MP
open PySem L2

/-- an operand: a list's items are data, the list itself may be an own one -/
def Ro (K : PySem.W.Frag) (H Hs : Hp) (v : V) (d : D) : Prop :=
  (∃ a vs ds, v = .ref a ∧ d = .list ds ∧ SqL K H a vs ∧ RpAll K Hs vs ds) ∨ Rp K Hs v d
section
variable {K : PySem.W.Frag} {Fr Hs0 : Hp} {bs : List (Nat × Addr)} {σ : L2.St} {ρ ρ' : Env} {H H' Hs Hs' : Hp} {v : V} {d : D}
theorem Ro.list {ds : List D} (e : Ex Hs H) (h : Ro K H Hs v (.list ds)) : ∃ a vs, v = .ref a ∧ SqL K H a vs ∧ RpAll K Hs vs ds := by
  rcases h with ⟨a, vs, ds', h1, h2, h3, h4⟩ | h
  · cases h2; exact ⟨a, vs, h1, h3, h4⟩
  · cases h with
    | lst h r => exact ⟨_, _, rfl, sql_mono e h, r⟩
theorem Ro.tuple {ds : List D} (e : Ex Hs H) (h : Ro K H Hs v (.tuple ds)) : ∃ a vs, v = .ref a ∧ SqT K H a vs ∧ RpAll K Hs vs ds := by
  rcases h with ⟨a, vs, ds', h1, h2, h3, h4⟩ | h
  · cases h2
  · cases h with
    | tup h r => exact ⟨_, _, rfl, sqt_mono e h.sqt, r⟩
theorem Ro.int {i : Int} (h : Ro K H Hs v (.int i)) : v = .int i := by
  rcases h with ⟨a, vs, ds', h1, h2, h3, h4⟩ | h
  · cases h2
  · cases h; rfl
theorem Ro.str {i : Str} (h : Ro K H Hs v (.str i)) : v = .str i := by
  rcases h with ⟨a, vs, ds', h1, h2, h3, h4⟩ | h
  · cases h2
  · cases h; rfl
theorem Ro.bool {b : Bool} (h : Ro K H Hs v (.bool b)) : v = .bl b := by
  rcases h with ⟨a, vs, ds', h1, h2, h3, h4⟩ | h
  · cases h2
  · cases h; rfl
theorem Ro.rp (e : Ex Hs H) (h : Ro K H Hs v d) : Rp K H v d := by
  rcases h with ⟨a, vs, ds', h1, h2, h3, h4⟩ | h
  · subst h1 h2; exact .lst h3 (h4.mono e)
  · exact h.mono e
/-- the items of a list or tuple -/
theorem Ro.items {ds : List D} (e : Ex Hs H) (h : Ro K H Hs v d) (hi : items d = some ds) : ∃ a vs, v = .ref a ∧ ((d = .list ds ∧ SqL K H a vs) ∨ (d = .tuple ds ∧ SqT K H a vs)) ∧ RpAll K Hs vs ds := by
  cases d <;> simp [MP.items] at hi
  · subst hi
    obtain ⟨a, vs, h1, h2, h3⟩ := h.list e
    exact ⟨a, vs, h1, .inl ⟨rfl, h2⟩, h3⟩
  · subst hi
    obtain ⟨a, vs, h1, h2, h3⟩ := h.tuple e
    exact ⟨a, vs, h1, .inr ⟨rfl, h2⟩, h3⟩
theorem none_iff {x : V} {d : D} (h : Rp K H x d) : decide (x = .non) = isNoneD d := by
  cases h <;> simp [isNoneD]
theorem lim_line : lim ≤ sizeLine := by decide
/-- a new tuple of data -/
theorem Sta.newT (s : Sta K Fr Hs0 bs σ ρ H Hs) {q : Addr} {vs : List V} {ds : List D} (h : H q = none) (r : RpAll K Hs vs ds) :
    Sta K Fr Hs0 bs σ ρ (upd H q (.tup vs)) (upd Hs q (.tup vs)) ∧ Ex Hs (upd Hs q (.tup vs)) ∧ Rp K (upd Hs q (.tup vs)) (.ref q) (.tuple ds) :=
  have g := s.newSh (ho := .tup vs) h
  ⟨g.1, g.2, .tup (.inl upd_same) (r.mono g.2)⟩
end

theorem RpAll.rep {K : PySem.W.Frag} {H : Hp} {vs : List V} {ds : List D} (r : RpAll K H vs ds) : ∀ n : Nat, RpAll K H (List.replicate n vs).flatten (List.replicate n ds).flatten
  | 0 => .nil
  | n + 1 => by
    rw [List.replicate_succ, List.replicate_succ, List.flatten_cons, List.flatten_cons]
    exact r.append (RpAll.rep r n)
/-- what follows an expression's value -/
abbrev Kont (K : PySem.W.Frag) (Fr Hs0 : Hp) (bs : List (Nat × Addr)) (σ : L2.St) (ρ : Env) (Hs : Hp) (val : Val) (Q : VK) : Prop :=
  ∀ v H' Hs', Sta K Fr Hs0 bs σ ρ H' Hs' → Ex Hs Hs' → VOk K Fr σ ρ H' Hs' v val → Q v H'

section
variable {X : Cx} {Fr Hs0 : Hp} {bs : List (Nat × Addr)} {σ : L2.St} {ρ : Env} {H Hs : Hp} {x y : V} {a b : D} {val : Val} {Q : VK}

set_option maxHeartbeats 8000000 in
theorem add_gen (l : Addr) (its : Array Value) (n : Nat) (b : Addr) (its2 : Array Value) (n2 : Nat) (d1 d2 : Option Addr) (sl1 sl2 : Array (Option Value)) (hsz : its.size + its2.size ≤ sizeLine) :
    Meets (Builtin.«list.__add__» ⟨[.ref l, .ref b], []⟩) (fun _ R s => s.heap.get? l = some { cls := .type "list", dict := d1, data := .seq its n, slots := sl1 } ∧ s.heap.get? b = some { cls := .type "list", dict := d2, data := .seq its2 n2, slots := sl2 } ∧
      R (.ok (.ret (.ref s.heap.objs.size))) { s with heap := s.heap.push { cls := .type "list", data := .seq (its ++ its2) }, toks := s.toks }) :=
  .of_wp fun prog w A R s h => by
    obtain ⟨hp, g, d, tk, os⟩ := s
    obtain ⟨hl, hb, h⟩ := h
    have f1 := AutoSeq1.idx_int; have f2 := AutoSeq1.sub_tuple_tuple; have f3 := AutoSeq1.sub_list_list; have f4 := AutoSeq1.sub_tuple_list; have f5 := AutoSeq1.sub_list_tuple
    have hz : (its ++ its2).size ≤ sizeLine := by rw [Array.size_append]; exact hsz
    wp_walk using AutoSeq1.wpAny_loadPart' hl, AutoSeq1.wpAny_loadPart' hb
    exact ⟨_, rfl, h⟩
def rCatR (K : PySem.W.Frag) : R2 := fun x y H Q => ∃ l b xs zs, x = .ref l ∧ y = .ref b ∧ SqL K H l xs ∧ SqL K H b zs ∧ xs.length + zs.length ≤ sizeLine ∧ ∀ p, H p = none → Q (.ref p) (upd H p (.lst (xs ++ zs)))
theorem op_catR : OpR X (binaryOp .Add) (rCatR X.K) := by
  intro pins s σ H x y v u Q I rx ry h
  obtain ⟨l, b, xs, zs, rfl, rfl, hH, hB, hz, q⟩ := h
  cases rx
  cases ry
  obtain ⟨its, r, ⟨⟨c1, d1, t1, sl1⟩, n, e, hc1, hd1, ht1⟩, z⟩ := I.list hH
  obtain ⟨its2, r2, ⟨⟨c2, d2, t2, sl2⟩, n2, e2, hc2, hd2, ht2⟩, z2⟩ := I.list hB
  have l1 := r.length
  have l2 := r2.length
  simp only at hc1 ht1 hc2 ht2
  subst hc1 ht1 hc2 ht2
  refine concat_meets ⟨_, e, rfl⟩ ⟨_, e2, rfl⟩ PySem.noFill_list_add PySem.seq_list_add F.slot_list_add F.entry_list_add (F.args_list_add_2 _ _) (add_gen l its.toArray n b its2.toArray n2 _ _ _ _ (by rw [List.size_toArray, List.size_toArray]; omega)) ⟨e, e2, ?_⟩
  rw [List.append_toArray]
  exact ⟨.ref _, _, I.lnew (t' := s.toks) (r.append r2) (by rw [List.length_append]; omega), rfl, q _ I.fresh⟩

def opO : O2 → Operator
  | .add => .Add
  | .sub => .Sub
  | .mul => .Mult
  | .fdiv => .FloorDiv
  | .mod => .Mod
  | .pow => .Pow
theorem op2_ok {o : O2} (s : Sta X.K Fr Hs0 bs σ ρ H Hs) (ra : Ro X.K H Hs x a) (rb : Ro X.K H Hs y b) (e : op2 o a b = some val) (q : Kont X.K Fr Hs0 bs σ ρ Hs val Q) :
    ∃ r, OpR X (binaryOp (opO o)) r ∧ r x y H Q := by
  have sh : ∀ {v : V} {d : D}, Rp X.K Hs v d → val = .sh d → Q v H := fun r e => by subst e; exact q _ _ _ s (Ex.refl _) r
  unfold op2 at e
  split at e
  · have h1 := ra.int; have h2 := rb.int
    subst h1 h2; cases e
    exact ⟨_, op_add, _, _, rfl, rfl, sh (.int _) rfl⟩
  · split at e
    · have h1 := ra.str; have h2 := rb.str
      subst h1 h2; cases e
      rename_i hl
      exact ⟨_, op_add_str, _, _, rfl, rfl, Nat.le_trans hl lim_line, sh (.str _) rfl⟩
    · cases e
  · split at e
    · rename_i hl
      obtain ⟨p, vs, rfl, h1, r1⟩ := ra.tuple s.sh
      obtain ⟨p', ws, rfl, h2, r2⟩ := rb.tuple s.sh
      cases e
      have l1 := r1.length
      have l2 := r2.length
      refine ⟨_, op_catA, p, p', vs, ws, rfl, rfl, h1, h2, by have := lim_line; omega, fun z => ?_, fun _ z => ?_, fun _ _ t ht => ?_⟩
      · subst z
        have z' := List.eq_nil_of_length_eq_zero (l1.symm.trans rfl)
        subst z'
        rcases rb with ⟨_, _, _, _, h, _⟩ | h
        · cases h
        · exact sh h rfl
      · subst z
        have z' := List.eq_nil_of_length_eq_zero (l2.symm.trans rfl)
        subst z'
        rw [List.append_nil] at q
        rcases ra with ⟨_, _, _, _, h, _⟩ | h
        · cases h
        · exact q _ _ _ s (Ex.refl _) h
      · obtain ⟨s1, e1, r⟩ := s.newT ht (r1.append r2)
        exact q _ _ _ s1 e1 r
    · cases e
  · split at e
    · rename_i hl
      obtain ⟨p, vs, rfl, h1, r1⟩ := ra.list s.sh
      obtain ⟨p', ws, rfl, h2, r2⟩ := rb.list s.sh
      cases e
      have l1 := r1.length
      have l2 := r2.length
      refine ⟨_, op_catR, p, p', vs, ws, rfl, rfl, h1, h2, by have := lim_line; omega, fun t ht => ?_⟩
      obtain ⟨s1, v1⟩ := s.newOw (o := .lst _) (ho := .lst (vs ++ ws)) ht (r1.append r2)
      exact q _ _ _ s1 (Ex.refl _) v1
    · cases e
  · have h1 := ra.int; have h2 := rb.int
    subst h1 h2; cases e
    exact ⟨_, op_sub, _, _, rfl, rfl, sh (.int _) rfl⟩
  · split at e
    · rename_i hm
      have h1 := ra.int; have h2 := rb.int
      subst h1 h2; cases e
      refine ⟨_, op_mul, _, _, rfl, rfl, ?_, sh (.int _) rfl⟩
      rw [mulOk_def] at hm
      unfold mulOk0 at hm
      simp only [Bool.or_eq_true, Bool.and_eq_true, decide_eq_true_eq] at hm
      exact hm
    · cases e
  · split at e
    · rename_i hm
      have h1 := ra.int; have h2 := rb.int
      subst h1 h2; cases e
      exact ⟨_, op_fdiv, _, _, rfl, rfl, fdOk_iff.mp hm, sh (.int _) rfl⟩
    · cases e
  · split at e
    · rename_i hm
      have h1 := ra.int; have h2 := rb.int
      subst h1 h2; cases e
      exact ⟨_, op_mod, _, _, rfl, rfl, hm, sh (.int _) rfl⟩
    · cases e
  · split at e
    · rename_i xs k hm
      have h2 := rb.int
      subst h2; cases e
      obtain ⟨p, vs, rfl, h1, r1⟩ := ra.tuple s.sh
      have l1 := r1.length
      refine ⟨_, op_repT, p, _, vs, rfl, rfl, h1, ?_, hm.1, hm.2.1, by rw [l1]; exact hm.2.2.1, fun t ht => ?_⟩
      · intro z
        subst z
        exact hm.2.2.2 (List.eq_nil_of_length_eq_zero l1.symm)
      · obtain ⟨s1, e1, r⟩ := s.newT ht (r1.rep _)
        exact q _ _ _ s1 e1 r
    · cases e
  · split at e
    · rename_i hm
      have h1 := ra.int; have h2 := rb.int
      subst h1 h2; cases e
      exact ⟨_, op_pow, _, _, rfl, rfl, hm, sh (.int _) rfl⟩
    · cases e
  · cases e

/-! ### comparisons -/
def rInT (K : PySem.W.Frag) (neg : Bool) : R2 := fun x y H Q => ∃ d ds, Dp K H x d ∧ Dp K H y (.tuple ds) ∧ SeqAt.shaped d = true ∧ SeqAt.shaped (.tuple ds) = true ∧ Q (.bl (if neg then !ds.any fun z => PyData.eqv z d else ds.any fun z => PyData.eqv z d)) H
theorem op_inT (hu : X.A.units + 65 < cLine) : OpR X (compareOp .In) (rInT X.K false) := by
  intro pins s σ H x y v u Q I rx ry h
  obtain ⟨d, ds, hd, he, sd, se, q⟩ := h
  obtain ⟨as, r1⟩ := Dp.reads I d x v hd rx
  obtain ⟨cs, r2⟩ := Dp.reads I (.tuple ds) y u he ry
  exact SeqAt.in_tuple_reads r2 r1 (SeqAt.canLay_of_shaped se) (SeqAt.canLay_of_shaped sd) (PyProof.Rows.room_in_shaped sd hu) ⟨.bl _, H, I, rfl, q⟩
theorem op_notInT (hu : X.A.units + 65 < cLine) : OpR X (compareOp .NotIn) (rInT X.K true) := by
  intro pins s σ H x y v u Q I rx ry h
  obtain ⟨d, ds, hd, he, sd, se, q⟩ := h
  obtain ⟨as, r1⟩ := Dp.reads I d x v hd rx
  obtain ⟨cs, r2⟩ := Dp.reads I (.tuple ds) y u he ry
  exact SeqAt.notIn_tuple_reads r2 r1 (SeqAt.canLay_of_shaped se) (SeqAt.canLay_of_shaped sd) (PyProof.Rows.room_in_shaped sd hu) ⟨.bl _, H, I, rfl, q⟩
def cmO : C2 → CmpOp
  | .eq => .Eq
  | .ne => .NotEq
  | .lt => .Lt
  | .le => .LtE
  | .gt => .Gt
  | .ge => .GtE
  | .inn => .In
  | .nin => .NotIn
theorem eqD_inv {a b : D} {c : Bool} (e : eqD a b = some c) : ((∃ x y, a = .str x ∧ b = .str y) ∨ (shp a = true ∧ shp b = true)) ∧ c = PyData.eqv a b := by
  unfold eqD at e
  split at e
  · rename_i h
    rw [Bool.or_eq_true, Bool.and_eq_true, Bool.and_eq_true] at h
    refine ⟨?_, (Option.some.inj e).symm⟩
    rcases h with h | h
    · left
      cases a <;> simp [isSt] at h
      cases b <;> simp [isSt] at h
      exact ⟨_, _, rfl, rfl⟩
    · exact .inr h
  · cases e
theorem eqv_str (x y : Str) : PyData.eqv (.str x) (.str y) = decide (V.str x = V.str y) := by
  have e : PyData.eqv (.str x) (.str y) = (x == y) := by simp [PyData.eqv]
  rw [e, Bool.eq_iff_iff]
  simp
theorem inD_inv {a b : D} {c : Bool} (e : inD a b = some c) : ∃ xs, items b = some xs ∧ shp a = true ∧ shp b = true ∧ c = xs.any fun z => PyData.eqv z a := by
  unfold inD at e
  cases h : items b with
  | none => rw [h] at e; cases e
  | some xs =>
    rw [h] at e
    simp only [Option.bind_eq_bind, Option.bind_some] at e
    split at e
    · rename_i k
      rw [Bool.and_eq_true] at k
      exact ⟨xs, rfl, k.1, k.2, (Option.some.inj e).symm⟩
    · cases e
theorem cmp_ok {o : C2} {c : Bool} (hu : X.A.units + 65 < cLine) (s : Sta X.K Fr Hs0 bs σ ρ H Hs) (ra : Ro X.K H Hs x a) (rb : Ro X.K H Hs y b) (e : cmpD o a b = some c) (q : Q (.bl c) H) :
    ∃ r, OpR X (compareOp (cmO o)) r ∧ r x y H Q := by
  have da := (ra.rp s.sh).dp
  have db := (rb.rp s.sh).dp
  unfold cmpD at e
  split at e
  · obtain ⟨h, hk⟩ := eqD_inv e
    clear e
    subst hk
    rcases h with ⟨x', y', rfl, rfl⟩ | ⟨h1, h2⟩
    · have h1 := ra.str; have h2 := rb.str
      subst h1 h2
      rw [eqv_str] at q
      exact ⟨_, op_eq, rfl, q⟩
    · exact ⟨_, op_eqD (by omega), a, b, da, db, h1, h2, q⟩
  · cases h : eqD a b with
    | none => rw [h] at e; cases e
    | some k =>
      rw [h] at e
      cases e
      obtain ⟨h', hk⟩ := eqD_inv h
      clear h
      subst hk
      rcases h' with ⟨x', y', rfl, rfl⟩ | ⟨h1, h2⟩
      · have h1 := ra.str; have h2 := rb.str
        subst h1 h2
        rw [eqv_str] at q
        exact ⟨_, op_ne, rfl, q⟩
      · exact ⟨_, op_neD (by omega), a, b, da, db, h1, h2, q⟩
  · unfold ltD at e
    split at e
    · have h1 := ra.int; have h2 := rb.int
      subst h1 h2; cases e
      exact ⟨_, op_lt, _, _, rfl, rfl, q⟩
    · rename_i xs ys
      obtain ⟨p, vs, rfl, h1, r1⟩ := ra.tuple s.sh
      obtain ⟨p', ws, rfl, h2, r2⟩ := rb.tuple s.sh
      cases e1 : intsD xs with
      | none => rw [e1] at e; cases e
      | some ns =>
        cases e2 : intsD ys with
        | none => rw [e1, e2] at e; cases e
        | some ms =>
          rw [e1, e2] at e
          cases e
          have k1 := r1.intsD e1
          have k2 := r2.intsD e2
          subst k1 k2
          exact ⟨_, op_ltT (by omega), p, p', ns, ms, rfl, rfl, h1, h2, q⟩
    · cases e
  · have h1 := ra.int; have h2 := rb.int
    subst h1 h2; cases e
    exact ⟨_, op_le, _, _, rfl, rfl, q⟩
  · have h1 := ra.int; have h2 := rb.int
    subst h1 h2; cases e
    exact ⟨_, op_gt, _, _, rfl, rfl, q⟩
  · rename_i xs ys
    obtain ⟨p, vs, rfl, h1, r1⟩ := ra.tuple s.sh
    obtain ⟨p', ws, rfl, h2, r2⟩ := rb.tuple s.sh
    cases e1 : intsD xs with
    | none => rw [e1] at e; cases e
    | some ns =>
      cases e2 : intsD ys with
      | none => rw [e1, e2] at e; cases e
      | some ms =>
        rw [e1, e2] at e
        cases e
        have k1 := r1.intsD e1
        have k2 := r2.intsD e2
        subst k1 k2
        exact ⟨_, op_gtT (by omega), p, p', ns, ms, rfl, rfl, h1, h2, q⟩
  · have h1 := ra.int; have h2 := rb.int
    subst h1 h2; cases e
    exact ⟨_, op_ge, _, _, rfl, rfl, q⟩
  · obtain ⟨xs, hi, h1, h2, rfl⟩ := inD_inv e
    cases b <;> simp [items] at hi
    · subst hi; exact ⟨_, op_inD hu, a, _, da, db, h1, h2, q⟩
    · subst hi; exact ⟨_, op_inT hu, a, _, da, db, h1, h2, q⟩
  · cases h : inD a b with
    | none => rw [h] at e; cases e
    | some k =>
      rw [h] at e
      cases e
      obtain ⟨xs, hi, h1, h2, rfl⟩ := inD_inv h
      cases b <;> simp [items] at hi
      · subst hi; exact ⟨_, op_notInD hu, a, _, da, db, h1, h2, q⟩
      · subst hi; exact ⟨_, op_notInT hu, a, _, da, db, h1, h2, q⟩
  · cases e

/-! ### subscripts, slices -/
theorem atI_all {vs : List V} {ds : List D} {i : Int} {d : D} (r : RpAll X.K H vs ds) (e : atI ds i = some d) : ∃ v, atI vs i = some v ∧ Rp X.K H v d := by
  unfold atI at e ⊢
  rw [r.length]
  cases h : ixN ds.length i with
  | none => rw [h] at e; cases e
  | some j =>
    rw [h] at e
    exact r.get' e
theorem ix_ok {d : D} (s : Sta X.K Fr Hs0 bs σ ρ H Hs) (ra : Ro X.K H Hs x a) (rb : Ro X.K H Hs y b) (e : ixD a b = some d) (q : ∀ v, Rp X.K Hs v d → Q v H) :
    (rIx X.K) x y H Q := by
  unfold ixD at e
  cases b <;> simp only [asI, Option.bind_eq_bind, Option.bind_none, Option.bind_some, reduceCtorEq] at e
  rename_i i
  have h2 := rb.int
  subst h2
  cases h : items a with
  | none => rw [h] at e; cases e
  | some ds =>
    rw [h] at e
    obtain ⟨p, vs, rfl, k, r⟩ := ra.items s.sh h
    obtain ⟨v, hv, rv⟩ := atI_all r e
    rcases k with k | k
    · exact .inl ⟨p, vs, i, v, rfl, rfl, k.2, hv, q v rv⟩
    · exact .inr (.inl ⟨p, vs, i, v, rfl, rfl, k.2, hv, q v rv⟩)
theorem cut_all {vs : List V} {ds : List D} {lo hi : Option Int} (r : RpAll X.K H vs ds) : RpAll X.K H (cutV vs lo hi) (cutD ds lo hi) := by
  unfold cutV cutD
  rw [r.length]
  exact (r.drop _).take _
theorem cut_whole {ds : List D} {lo hi : Option Int} (h : HT.sIx ds.length 0 lo = 0 ∧ HT.sIx ds.length ds.length hi = ds.length) : cutD ds lo hi = ds := by
  unfold cutD
  rw [h.1, h.2]
  simp
theorem sl_ok {lo hi : Option Int} (s : Sta X.K Fr Hs0 bs σ ρ H Hs) (ra : Ro X.K H Hs x a) (e : slD a lo hi = some val) (q : Kont X.K Fr Hs0 bs σ ρ Hs val Q) :
    rSlL X.K x lo hi H Q ∨ rSlA X.K x lo hi H Q := by
  unfold slD at e
  split at e
  · cases e
    obtain ⟨p, vs, rfl, h1, r1⟩ := ra.list s.sh
    refine .inl ⟨p, vs, rfl, h1, fun t ht => ?_⟩
    obtain ⟨s1, v1⟩ := s.newOw (o := .lst _) (ho := .lst (cutV vs _ _)) ht (cut_all r1)
    exact q _ _ _ s1 (Ex.refl _) v1
  · cases e
    obtain ⟨p, vs, rfl, h1, r1⟩ := ra.tuple s.sh
    refine .inr ⟨p, vs, rfl, h1, fun z => ?_, fun _ t ht => ?_⟩
    · rw [r1.length] at z
      rw [cut_whole z] at q
      rcases ra with ⟨_, _, _, _, h, _⟩ | h
      · cases h
      · exact q _ _ _ s (Ex.refl _) h
    · obtain ⟨s1, e1, r⟩ := s.newT ht (cut_all r1)
      exact q _ _ _ s1 e1 r
  · cases e
end
end MP
end

section
set_option Elab.async false
set_option linter.all false
set_option maxRecDepth 100000
set_option maxHeartbeats 4000000
namespace MP
open PySem L2

inductive RoAll (K : PySem.W.Frag) (H Hs : Hp) : List V → List D → Prop
  | nil : RoAll K H Hs [] []
  | cons {v : V} {vs : List V} {d : D} {ds : List D} : Ro K H Hs v d → RoAll K H Hs vs ds → RoAll K H Hs (v :: vs) (d :: ds)
section
variable {K : PySem.W.Frag} {H Hs : Hp}
theorem RoAll.one {vs : List V} {d : D} (h : RoAll K H Hs vs [d]) : ∃ v, vs = [v] ∧ Ro K H Hs v d := by
  cases h with
  | cons a r => cases r; exact ⟨_, rfl, a⟩
theorem RoAll.two {vs : List V} {d e : D} (h : RoAll K H Hs vs [d, e]) : ∃ v w, vs = [v, w] ∧ Ro K H Hs v d ∧ Ro K H Hs w e := by
  cases h with
  | cons a r =>
    cases r with
    | cons b r => cases r; exact ⟨_, _, rfl, a, b⟩
end

/-! ### sorting -/
theorem insI_perm (a : Int) : ∀ l : List Int, (insI a l).Perm (a :: l)
  | [] => .refl _
  | b :: r => by
    unfold insI
    split
    · exact .refl _
    · exact ((insI_perm a r).cons b).trans (.swap a b r)
theorem sortI_perm : ∀ l : List Int, (sortI l).Perm l
  | [] => .refl _
  | a :: r => (insI_perm a (sortI r)).trans ((sortI_perm r).cons a)
theorem insI_sorted (a : Int) : ∀ l : List Int, l.Pairwise (· ≤ ·) → (insI a l).Pairwise (· ≤ ·)
  | [], _ => by simp [insI]
  | b :: r, h => by
    unfold insI
    split
    · rename_i k
      refine List.pairwise_cons.mpr ⟨fun x hx => ?_, h⟩
      rcases List.mem_cons.mp hx with rfl | hx
      · exact k
      · exact Int.le_trans k ((List.pairwise_cons.mp h).1 x hx)
    · rename_i k
      refine List.pairwise_cons.mpr ⟨fun x hx => ?_, insI_sorted a r (List.pairwise_cons.mp h).2⟩
      rcases List.mem_cons.mp ((insI_perm a r).mem_iff.mp hx) with rfl | hx
      · omega
      · exact (List.pairwise_cons.mp h).1 x hx
theorem sortI_sorted : ∀ l : List Int, (sortI l).Pairwise (· ≤ ·)
  | [] => .nil
  | a :: r => insI_sorted a _ (sortI_sorted r)
theorem sorted_unique {l m : List Int} (p : l.Perm m) (hl : l.Pairwise (· ≤ ·)) (hm : m.Pairwise (· ≤ ·)) : l = m :=
  p.eq_of_pairwise (le := (· ≤ ·)) (fun a b _ _ h1 h2 => Int.le_antisymm h1 h2) hl hm

/-! ### repr -/
def rRepr (K : PySem.W.Frag) : List V → Hp → VK → Prop := fun xs H Q => ∃ v d, xs = [v] ∧ Dp K H v d ∧ reprOk d = true ∧ Q (.str d.shown) H
section
variable {X : Cx}
theorem call_reprD (hg : X.A.guards = some []) (hu : X.A.units + 70 < cLine) : CallR X (.builtin "repr") (rRepr X.K) := by
  intro pins s σ H xs us Q I r h
  obtain ⟨v, d, rfl, hd, ok, q⟩ := h
  obtain ⟨u, rfl, ru⟩ := vals1 r
  unfold reprOk at ok
  simp only [Bool.and_eq_true] at ok
  obtain ⟨⟨ok1, ok2⟩, ok3⟩ := ok
  have hsz : d.shown.length ≤ sizeLine := Nat.le_trans (PyProof.Rows.shown_le13 ok1 ok2) (by decide)
  have h64 : d.depth ≤ 64 := by
    have e : (PyData.canLay0 d && decide (PyData.depth d ≤ 64) && decide (PyData.weight d ≤ 2 ^ 20)) = true := ok1
    simp only [Bool.and_eq_true, decide_eq_true_eq] at e
    exact e.1.2
  have isref : ∀ a, v = .ref a → wpAny (model X.prog X.w) X.A (call (.builtin "repr") [u]) (EP X pins σ Q) X.xe s := fun a ea => by
    subst ea
    cases ru
    obtain ⟨as, rd⟩ := Dp.reads I d (.ref a) (.ref a) hd rfl
    exact repr_of_reads' rd ok3 (PyData.noDict_hsm (PyData.hasDict_of_layable ok1)) hg (by omega) (fun _ _ e => e) (fun h' t tk hk => ⟨.str d.shown, H, I.kept hk, ⟨_, rfl⟩, q⟩) hsz
  cases hd with
  | non =>
    cases ru
    exact PySem.P.repr_of_none ⟨.str _, H, I.tok _, ⟨_, rfl⟩, q⟩
  | bl b =>
    cases ru
    refine PySem.P.repr_of_bool ⟨.str (if b then "True" else "False"), H, I.tok _, ⟨_, rfl⟩, ?_⟩
    exact q
  | int i =>
    obtain ⟨t, rfl⟩ := ru
    refine PySem.P.repr_of_int ?_ ⟨.str (toString i), H, I.tok _, ⟨_, rfl⟩, q⟩
    simpa [PyData.showable] using ok3
  | str x =>
    obtain ⟨t, rfl⟩ := ru
    exact PySem.P.repr_of_str ⟨.str (reprText x), H, I.tok _, ⟨_, rfl⟩, q⟩ hsz
  | lst _ _ => exact isref _ rfl
  | tup _ _ => exact isref _ rfl
end

/-! ### built-ins -/
def bltNm : Blt → Str
  | .len => "len" | .all => "all" | .any => "any" | .tuple => "tuple" | .list => "list" | .sorted => "sorted" | .min2 => "min" | .max2 => "max" | .repr => "repr" | .int1 => "int"
def bltVal : Blt → Value
  | .len => .builtin "len" | .all => .builtin "all" | .any => .builtin "any" | .tuple => .type "tuple" | .list => .type "list" | .sorted => .builtin "sorted" | .min2 => .builtin "min" | .max2 => .builtin "max" | .repr => .builtin "repr" | .int1 => .type "int"
theorem bltBoot (b : Blt) : bootBuiltins (bltNm b) = some (bltVal b) := by cases b <;> decide +kernel
section
variable {X : Cx} {Fr Hs0 : Hp} {bs : List (Nat × Addr)} {σ : L2.St} {ρ : Env} {H Hs : Hp} {vs : List V} {ds : List D} {val : Val} {Q : VK}
theorem blt_ok {b : Blt} (hc : X.calm = true) (hg : X.A.guards = some []) (hu : X.A.units + 70 < cLine) (s : Sta X.K Fr Hs0 bs σ ρ H Hs) (r : RoAll X.K H Hs vs ds) (e : bltD b ds = some val) (q : Kont X.K Fr Hs0 bs σ ρ Hs val Q) :
    ∃ t, CallR X (bltVal b) t ∧ t vs H Q := by
  have sh : ∀ {v : V} {d : D}, Rp X.K Hs v d → val = .sh d → Q v H := fun r e => by subst e; exact q _ _ _ s (Ex.refl _) r
  unfold bltD at e
  split at e
  · obtain ⟨v, rfl, rv⟩ := r.one
    split at e
    · split at e
      · rename_i hl
        have h1 := rv.str
        subst h1; cases e
        exact ⟨_, call_len_str, _, rfl, Nat.le_trans hl lim_line, sh (.int _) rfl⟩
      · cases e
    · rename_i d d2 hn
      cases h : items d with
      | none => rw [h] at e; cases e
      | some xs =>
        rw [h] at e; cases e
        obtain ⟨p, ws, rfl, k, ra⟩ := rv.items s.sh h
        refine ⟨_, call_len_seq, p, ws, rfl, ?_, ?_⟩
        · rcases k with k | k
          · exact .inl k.2
          · exact .inr k.2
        · rw [ra.length]; exact sh (.int _) rfl
  · obtain ⟨v, rfl, rv⟩ := r.one
    rename_i xs
    cases h : bools xs with
    | none => rw [h] at e; cases e
    | some bs' =>
      rw [h] at e; cases e
      obtain ⟨p, ws, rfl, k, ra⟩ := rv.list s.sh
      have kk := ra.bools h
      subst kk
      exact ⟨_, cr_all hc, p, bs', rfl, k, sh (.bl _) rfl⟩
  · obtain ⟨v, rfl, rv⟩ := r.one
    rename_i xs
    cases h : bools xs with
    | none => rw [h] at e; cases e
    | some bs' =>
      rw [h] at e; cases e
      obtain ⟨p, ws, rfl, k, ra⟩ := rv.list s.sh
      have kk := ra.bools h
      subst kk
      exact ⟨_, cr_any hc, p, bs', rfl, k, sh (.bl _) rfl⟩
  · obtain ⟨v, rfl, rv⟩ := r.one
    rename_i d
    cases h : items d with
    | none => rw [h] at e; cases e
    | some xs =>
      rw [h] at e; cases e
      obtain ⟨p, ws, rfl, k, ra⟩ := rv.items s.sh h
      refine ⟨_, call_tuple_of, p, ws, rfl, ?_⟩
      rcases k with k | k
      · refine .inl ⟨k.2, fun t ht => ?_⟩
        obtain ⟨s1, e1, r1⟩ := s.newT ht ra
        exact q _ _ _ s1 e1 r1
      · refine .inr ⟨k.2, ?_⟩
        have kd := k.1
        subst kd
        rcases rv with ⟨_, _, _, _, h, _⟩ | h
        · cases h
        · exact sh h rfl
  · obtain ⟨v, rfl, rv⟩ := r.one
    rename_i d
    cases h : items d with
    | none => rw [h] at e; cases e
    | some xs =>
      rw [h] at e; cases e
      obtain ⟨p, ws, rfl, k, ra⟩ := rv.items s.sh h
      refine ⟨_, call_list_of, p, ws, rfl, ?_, fun t ht => ?_⟩
      · rcases k with k | k
        · exact .inl k.2
        · exact .inr k.2
      · obtain ⟨s1, v1⟩ := s.newOw (o := .lst _) (ho := .lst ws) ht ra
        exact q _ _ _ s1 (Ex.refl _) v1
  · obtain ⟨v, rfl, rv⟩ := r.one
    rename_i xs
    unfold sortD at e
    cases h : intsD xs with
    | none =>
      rw [h] at e
      simp only [Option.bind_eq_some_iff] at e
      obtain ⟨l, h1, h2⟩ := e
      split at h2
      · rename_i hok
        cases h2
        simp only [Bool.and_eq_true, decide_eq_true_eq] at hok
        obtain ⟨d, hd, hrow⟩ := rowsOk_iff hok.1
        have hx := rowsI_eq h1
        subst hx
        obtain ⟨p, ws, rfl, k, ra⟩ := rv.list s.sh
        refine ⟨_, cr_sortT (d := d) (B := BB) hd, p, ws, rfl, k, ?_, fun x hx => ?_, fun ys t pm pw ht => ?_⟩
        · rw [ra.length, List.length_map]
          exact hok.2
        · obtain ⟨dd, hdd, rx⟩ := ra.mem hx
          obtain ⟨ns, hns, rfl⟩ := List.mem_map.mp hdd
          obtain ⟨t, et, ht⟩ := rx.row
          exact ⟨ns, ⟨t, et, sqt_mono s.sh ht⟩, (hrow ns hns).1, (hrow ns hns).2⟩
        · have rs := rows_sorted ra hrow pm (pw.imp fun h n m h1 h2 => by
            obtain ⟨t1, g1, g2⟩ := h1
            obtain ⟨t2, g3, g4⟩ := h2
            exact h n m ⟨t1, g1, sqt_mono s.sh g2⟩ ⟨t2, g3, sqt_mono s.sh g4⟩)
          obtain ⟨s1, v1⟩ := s.newOw (o := .lst _) (ho := .lst ys) ht rs
          exact q _ _ _ s1 (Ex.refl _) v1
      · cases h2
    | some ns =>
      rw [h] at e; cases e
      obtain ⟨p, ws, rfl, k, ra⟩ := rv.list s.sh
      have kk := ra.intsD h
      subst kk
      refine ⟨_, cr_sortedI, p, ns, rfl, k, fun ns' t pm pw ht => ?_⟩
      have e1 : ns' = sortI ns := sorted_unique (pm.trans (sortI_perm ns).symm) pw (sortI_sorted ns)
      subst e1
      obtain ⟨s1, v1⟩ := s.newOw (o := .lst _) (ho := .lst ((sortI ns).map V.int)) ht (RpAll.ofInts _)
      exact q _ _ _ s1 (Ex.refl _) v1
  · obtain ⟨v, w, rfl, rv, rw'⟩ := r.two
    have h1 := rv.int; have h2 := rw'.int
    subst h1 h2; cases e
    exact ⟨_, call_min2 hc, _, _, rfl, sh (.int _) rfl⟩
  · obtain ⟨v, w, rfl, rv, rw'⟩ := r.two
    have h1 := rv.int; have h2 := rw'.int
    subst h1 h2; cases e
    exact ⟨_, call_max2 hc, _, _, rfl, sh (.int _) rfl⟩
  · obtain ⟨v, rfl, rv⟩ := r.one
    split at e
    · rename_i hr
      cases e
      exact ⟨_, call_reprD hg hu, v, _, rfl, (rv.rp s.sh).dp, hr, sh (.str _) rfl⟩
    · cases e
  · obtain ⟨v, rfl, rv⟩ := r.one
    rename_i d
    have hv := rv.rp s.sh
    cases d <;> simp only [intbD, Option.map_none, Option.map_some, reduceCtorEq, Option.some.injEq] at e
    · cases hv
      exact ⟨_, call_int1, .inr ⟨_, rfl, sh (.int _) e.symm⟩⟩
    · cases hv
      exact ⟨_, call_int1, .inl ⟨_, rfl, sh (.int _) e.symm⟩⟩
  · cases e

/-! ### isinstance -/
def tyNm : Ty → String
  | .int => "int" | .bool => "bool" | .tuple => "tuple" | .str => "str" | .list => "list"
theorem tyBoot (t : Ty) : bootBuiltins (Str.ofString (tyNm t)) = some (.type (tyNm t)) := by cases t <;> decide +kernel
theorem kit_non (t : Ty) : kitB "NoneType" (tyNm t) = some (isiD .none t) := by cases t <;> decide +kernel
theorem kit_bool (t : Ty) : kitB "bool" (tyNm t) = some (isiD (.bool true) t) := by cases t <;> decide +kernel
theorem kit_int (t : Ty) : kitB "int" (tyNm t) = some (isiD (.int 0) t) := by cases t <;> decide +kernel
theorem kit_str (t : Ty) : kitB "str" (tyNm t) = some (isiD (.str "") t) := by cases t <;> decide +kernel
theorem kit_lst (t : Ty) : kitB "list" (tyNm t) = some (isiD (.list []) t) := by cases t <;> decide +kernel
theorem kit_tup (t : Ty) : kitB "tuple" (tyNm t) = some (isiD (.tuple []) t) := by cases t <;> decide +kernel
theorem isi_ok {x : V} {d : D} {t : Ty} (s : Sta X.K Fr Hs0 bs σ ρ H Hs) (r : Ro X.K H Hs x d) (q : Q (.bl (isiD d t)) H) : rIsi X.K [x, .ty (tyNm t)] H Q := by
  have rr := r.rp s.sh
  cases rr with
  | non => exact ⟨_, _, _, _, _, rfl, .ty _, .base .non, kit_ty (kit_non t), q⟩
  | bl b => exact ⟨_, _, _, _, _, rfl, .ty _, .base (.bl b), kit_ty (kit_bool t), by have e : isiD (.bool b) t = isiD (.bool true) t := by cases t <;> rfl
                                                                                     rw [← e]; exact q⟩
  | int i => exact ⟨_, _, _, _, _, rfl, .ty _, .base (.int i), kit_ty (kit_int t), by have e : isiD (.int i) t = isiD (.int 0) t := by cases t <;> rfl
                                                                                      rw [← e]; exact q⟩
  | str i => exact ⟨_, _, _, _, _, rfl, .ty _, .base (.str i), kit_ty (kit_str t), by have e : isiD (.str i) t = isiD (.str "") t := by cases t <;> rfl
                                                                                      rw [← e]; exact q⟩
  | @lst a xs ds h _ =>
    have e : isiD (.list ds) t = isiD (.list []) t := by cases t <;> rfl
    rw [e] at q
    rcases h with (h | ⟨o, h⟩) | ⟨o, its, n, h1, h2, _⟩
    · exact ⟨_, _, _, _, _, rfl, .ty _, .base (.lst h), kit_ty (kit_lst t), q⟩
    · exact ⟨_, _, _, _, _, rfl, .ty _, .base (.frz h), kit_ty (kit_lst t), q⟩
    · exact ⟨_, _, _, _, _, rfl, .ty _, .kList h1 h2, kit_ty (kit_lst t), q⟩
  | @tup a xs ds h0 _ =>
    have h := h0.sqt
    have e : isiD (.tuple ds) t = isiD (.tuple []) t := by cases t <;> rfl
    rw [e] at q
    rcases h with (h | ⟨o, h⟩) | ⟨o, its, n, h1, h2, _⟩
    · exact ⟨_, _, _, _, _, rfl, .ty _, .base (.tup h), kit_ty (kit_tup t), q⟩
    · exact ⟨_, _, _, _, _, rfl, .ty _, .fTuple h, kit_ty (kit_tup t), q⟩
    · exact ⟨_, _, _, _, _, rfl, .ty _, .kTuple h1 h2, kit_ty (kit_tup t), q⟩
end
end MP
end

section
set_option Elab.async false
set_option linter.all false
set_option maxRecDepth 100000
set_option maxHeartbeats 4000000
namespace MP
open PySem PySem.Spec PyProof.Rows L2

set_option maxHeartbeats 8000000 in
/-- enumerate(v), whatever v begins -/
theorem enum_new1 {vv : Value} {ob : Obj} {Hh : Heap → Prop} (Bg : Begins vv ob Hh) :
    Meets (Builtin.«enumerate.__new__» ⟨[.type "enumerate", vv], []⟩) (fun _ R s => Hh s.heap ∧ R (.ok (.ret (.ref (s.heap.push ob).objs.size)))
      { s with heap := (s.heap.push ob).push { cls := .type "enumerate", data := .fields #[.none, .bool false, .ref s.heap.objs.size, rawInt 0, .none, .none] } }) :=
  .of_wp fun prog w A R s h => by
    obtain ⟨hp, g, d, tk, os⟩ := s
    obtain ⟨h1, h⟩ := h
    have hsb := sub_enumerate
    have st : ∀ {A' : Around} {E : Value → Shared → Prop} {Q : Value → Shared → Prop}, Q (.ref hp.objs.size) ⟨hp.push ob, g, d, tk, os⟩ → wpAny (model prog w) A' (pyIter vv) Q E ⟨hp, g, d, tk, os⟩ :=
      fun q => Bg.iter prog w _ _ ⟨hp, g, d, tk, os⟩ _ h1 q
    wp_walk using st
    refine wpAny_stack_any fun z => wpAny_pure ?_
    split
    · rename_i c _ _ _ _ _
      cases (c == Value.type "enumerate") <;> (wp_walk using st; exact ⟨_, rfl, h⟩)
    · wp_walk using st
      exact ⟨_, rfl, h⟩
theorem call_enum1 {prog : Program} {w : World} {A : Around} {E : Value → Shared → Prop} {s : Shared} {vv : Value} {ob : Obj} {Hh : Heap → Prop} {Q : Value → Shared → Prop} (Bg : Begins vv ob Hh) (h1 : Hh s.heap)
    (h : ∀ h', IsEnum h' (s.heap.objs.size + 1) s.heap.objs.size 0 .none → h'.get? s.heap.objs.size = some ob → (∀ b o, s.heap.get? b = some o → h'.get? b = some o) → Q (.ref (s.heap.objs.size + 1)) { s with heap := h' }) :
    wpAny (model prog w) A (call (.type "enumerate") [vv]) Q E s := by
  refine callType_new F.called_enumerate (by decide) (F.typeCall_enumerate_1 _) (F.newCall_enumerate_1 _) (fun z => F.args_object_init_2 z _) F.entry_enumerate_new (enum_new1 Bg) ⟨h1, ?_⟩
  have hz : (s.heap.push ob).objs.size = s.heap.objs.size + 1 := Heap.size_push ..
  have he : IsEnum ((s.heap.push ob).push { cls := .type "enumerate", data := .fields #[.none, .bool false, .ref s.heap.objs.size, rawInt 0, .none, .none] }) (s.heap.objs.size + 1) s.heap.objs.size 0 .none := by
    have k := Heap.get?_push_size (s.heap.push ob) (o := { cls := .type "enumerate", data := .fields #[.none, .bool false, .ref s.heap.objs.size, rawInt 0, .none, .none] }) rfl
    rw [hz] at k
    exact k
  show _ ∧ _
  rw [hz]
  exact ⟨⟨_, he, rfl⟩, h _ he (Heap.get?_push_of_some _ (Heap.get?_push_size _ Bg.free)) fun b o y => Heap.get?_push_of_some _ (Heap.get?_push_of_some _ y)⟩

/-- a tuple as it stands at each turn, each item in a new pair -/
def IteT (K : PySem.W.Frag) (a : Addr) : L2.It :=
  ⟨fun i H => ∃ (xs : List V) (x : V), SqT K H a xs ∧ xs[i]? = some x, fun i H v H' => ∃ T x, v = .ref T ∧ H T = none ∧ H' = upd H T (.tup [.int (i : Nat), x]) ∧ ∀ xs, SqT K H a xs → xs[i]? = some x, fun i H => ∃ xs : List V, SqT K H a xs ∧ xs.length = i⟩
theorem turn_enumT {P : Program} {w : World} {K : PySem.W.Frag} {elts : List Expr} {kk : Nat} {tpos : Pos} (a e it : Addr) (hae : a ≠ e) (hai : a ≠ it) :
    Turn P w K (.Tuple elts kk tpos) (IteT K a) [e, it] e (fun i h => (∃ old, IsEnum h e it ((i : Nat) : Int) old) ∧ h.IsTupleIter it a i ∧ e ≠ it) where
  mem := by simp
  obj := fun i h st b hb => by
    obtain ⟨⟨old, he⟩, ⟨o, ho, hc, hd⟩, _⟩ := st
    have hb' : b = e ∨ b = it := by simpa using hb
    rcases hb' with rfl | rfl
    · exact ⟨_, he, fun v q => nomatch q⟩
    · exact ⟨o, ho, fun v q => by rw [hd] at q; cases q⟩
  keep := fun i h h' st k => let ⟨⟨old, he⟩, hi, hne⟩ := st; ⟨⟨old, k e (by simp) _ he⟩, hi.at (fun o q => k it (by simp) o q), hne⟩
  item := by
    intro X hP hw hK hc i pins s σ H E I hf st hg
    subst hP hw hK
    obtain ⟨⟨old, he⟩, hit, hne⟩ := st
    obtain ⟨xs, x, hq, hx⟩ := hg
    obtain ⟨its, rv, p, hz⟩ := I.tuple hq
    obtain ⟨u, hu, ru⟩ := rv.get hx
    have hel : e < s.heap.objs.size := Heap.lt_size he
    have hil : it < s.heap.objs.size := by obtain ⟨_, q, _⟩ := hit; exact Heap.lt_size q
    have hlen : i < its.toArray.size := by simpa using (List.getElem?_eq_some_iff.mp hu).1
    refine wpAny_pyNext_enum_itemD (Draws.tuple (prog := X.prog) (w := X.w) (A := X.A.in1) (I.ok.hd hc) it a hai its.toArray) he ⟨hit, p⟩ hlen hne (by simp [hne, Ne.symm hae]) fun y h' tk hy ho hit' hT hsz hk => ?_
    have ey : y = u := by
      have e1 : its.toArray[i]? = some y := hy
      have e2 : its.toArray[i]? = some u := by simpa using hu
      exact Option.some.inj (e1.symm.trans e2)
    subst ey
    refine ⟨_, rfl, wpAny_letOwnedTupleGo_enum (s := { s with heap := h', toks := tk + 1 }) ho fun h'' he' sb => ?_⟩
    have hT2 : h''.get? s.heap.objs.size = some { cls := .type "tuple", data := .seq #[.int i tk, y] } := (sb.2 _ (Nat.ne_of_gt hel)).trans hT
    have nw : ObjOk X.prog X.w (upd H s.heap.objs.size (.tup [.int (i : Nat), x])) h'' s.heap.objs.size (.tup [.int (i : Nat), x]) :=
      ⟨(by decide : 2 ≤ sizeLine), [.int i tk, y], .cons ⟨_, rfl⟩ (.cons ru .nil), ⟨_, hT2, rfl, _, rfl⟩⟩
    have I1 : Inv X pins σ (upd H s.heap.objs.size (.tup [.int (i : Nat), x])) { s with heap := h'', toks := tk + 1 } :=
      I.turnedNew (ch := [e, it]) (fun b ob hb q => (sb.2 b (fun z => hb (by simp [z]))).trans (hk b ob (fun z => hb (by simp [z])) (fun z => hb (by simp [z])) q)) hf (Nat.le_refl _) nw
    refine ⟨.ref s.heap.objs.size, _, I1, rfl, ⟨_, x, rfl, I.hok.fresh (Nat.le_refl _), rfl, fun ys hy => ?_⟩, ⟨⟨y, ?_⟩, hit'.1.at (fun o q => (sb.2 it (Ne.symm hne)).trans q), hne⟩, fun b hb => ?_⟩
    · rw [I.tuple_inj hy hq]; exact hx
    · have e1 : ((i + 1 : Nat) : Int) = (i : Int) + 1 := by omega
      rw [e1]; exact he'
    · have hb' : b < s.heap.objs.size := by
        have z : b = e ∨ b = it := by simpa using hb
        rcases z with rfl | rfl
        · exact hel
        · exact hil
      rw [upd_ne (Nat.ne_of_lt hb')]
      exact (hf b hb).1
  done := by
    intro X hP hw hK hc i pins s σ H E I hf st hg
    subst hP hw hK
    obtain ⟨⟨old, he⟩, hit, hne⟩ := st
    obtain ⟨xs, hq, hx⟩ := hg
    obtain ⟨its, rv, p, hz⟩ := I.tuple hq
    obtain ⟨f0, f1, f2, f3, f4, f5⟩ := hf it (by simp)
    have hl := rv.length
    have D := Draws.tuple (prog := X.prog) (w := X.w) (A := X.A.in1) (I.ok.hd hc) it a hai its.toArray
    have ei : i = its.toArray.size := by simp; omega
    subst ei
    exact wpAny_pyNext_enum_endD D he ⟨hit, p⟩ fun h' eb => ⟨rfl, I.turned (t' := s.toks) (fun b o hb q => eb b o hb q) f0 f1 f3 f4 f5⟩
  self := fun A i s Q E st h => let ⟨⟨_, he⟩, _⟩ := st; wpAny_pyIter_enum he h
/-- enumerate of a list or a tuple -/
def iEnumA (K : PySem.W.Frag) (ta : TA) : TI := fun σ H R => ta σ H fun vs H1 => ∃ a xs, vs = [.ref a] ∧ ((SqL K H1 a xs ∧ R (Ite K a) H1) ∨ (SqT K H1 a xs ∧ R (IteT K a) H1))
theorem pi_enumA {X : Cx} {e : Expr} {ta : TA} {p pos tpos : Pos} {elts : List Expr} {kk : Nat} (hg : Gl X "enumerate") (hm : X.mg "enumerate" = none) (ha : PA X [e] ta) (hs : starEach [e] X.env = [(false, eval e X.env)]) :
    PI X (.Tuple elts kk tpos) (.Call (.Name "enumerate" p) [e] [] pos) (iEnumA X.K ta) := by
  refine ⟨fun pins s σ H R I h => ?_⟩
  refine Call_ (ld_blt I hg hm boot_enumerate (PyProof.Rows.callWith_type1 (thn (ha.run pos pins s σ H _ I h) fun us s1 ⟨vs, H1, I1, r1, q1⟩ => ?_) hs rfl))
  obtain ⟨a, xs, rfl, q1⟩ := q1
  obtain ⟨u, rfl, ru⟩ := vals1 r1
  cases ru
  have two : ∀ b, b ∈ [s1.heap.objs.size + 1, s1.heap.objs.size] → FpOk X pins H1 b := fun b hb => by
    have z : b = s1.heap.objs.size + 1 ∨ b = s1.heap.objs.size := by simpa using hb
    have hle : s1.heap.objs.size ≤ b := by rcases z with rfl | rfl <;> omega
    exact I1.fpOk hle (I1.hok.fresh hle)
  rcases q1 with ⟨hq, q⟩ | ⟨hq, q⟩
  · obtain ⟨its, rv, p', hz⟩ := I1.list hq
    refine call_enumerate_list p'.isList fun h' he hit hsz hk => wpAny_pyIter_enum he ?_
    exact ⟨_, [s1.heap.objs.size + 1, s1.heap.objs.size], _, _, H1, rfl, I1.kept (t' := s1.toks) hk, turn_enum a _ _, ⟨⟨.none, he⟩, hit, Nat.succ_ne_self _⟩, two, q⟩
  · obtain ⟨its, rv, p', hz⟩ := I1.tuple hq
    have hlt : a < s1.heap.objs.size := by obtain ⟨o, ho, _⟩ := p'; exact Heap.lt_size ho
    refine call_enum1 (begins_tuple a its.toArray) p' fun h' he hit hk => wpAny_pyIter_enum he ?_
    exact ⟨_, [s1.heap.objs.size + 1, s1.heap.objs.size], _, _, H1, rfl, I1.kept (t' := s1.toks) hk, turn_enumT a _ _ (Nat.ne_of_lt (Nat.lt_succ_of_lt hlt)) (Nat.ne_of_lt hlt), ⟨⟨.none, he⟩, ⟨_, hit, rfl, rfl⟩, Nat.succ_ne_self _⟩, two, q⟩

/-! ### l.extend(a list or a tuple) -/
open AutoSeq1 (wpAny_loadPart')
section
variable {X : Cx}
set_option maxHeartbeats 8000000 in
theorem extend_tup (l : Addr) (its : Array Value) (n : Nat) (b : Addr) (its2 : Array Value) (n2 : Nat) (dd : Option Addr) (sl : Array (Option Value)) (hs0 : ¬(!its.isEmpty && Builtin.List.listTooLong (its.size + its2.size)) = true) (hs1 : its.size ≤ sizeLine) (hs2 : its.size + its2.size ≤ sizeLine + 1) :
    Meets (Builtin.«list.extend» ⟨[.ref l, .ref b], []⟩) (fun _ R s => s.heap.get? l = some { cls := .type "list", dict := none, data := .seq its n, slots := #[] } ∧ s.heap.get? b = some { cls := .type "tuple", dict := dd, data := .seq its2 n2, slots := sl } ∧ R (.ok (.ret Value.none)) { s with heap := s.heap.update l (Obj.mapSeq fun x => x ++ its2), toks := s.toks }) :=
  .of_wp fun prog w A R s h => by
    obtain ⟨hp, g, d, tk, os⟩ := s
    obtain ⟨hl, hb, h⟩ := h
    have f1 := AutoSeq1.idx_int; have f2 := AutoSeq1.sub_tuple_tuple; have f3 := AutoSeq1.sub_list_list; have f4 := AutoSeq1.sub_tuple_list; have f5 := AutoSeq1.sub_list_tuple
    have hz : (its ++ its2).size ≤ sizeLine + 1 := by rw [Array.size_append]; exact hs2
    wp_walk using (wpAny_updateSeq hl rfl (hz := hs1) (_hz' := hz)), wpAny_loadPart' hl, wpAny_loadPart' hb
    exact ⟨_, rfl, h⟩
set_option maxHeartbeats 8000000 in
theorem extend_lst (l : Addr) (its : Array Value) (n : Nat) (b : Addr) (its2 : Array Value) (n2 : Nat) (dd : Option Addr) (sl : Array (Option Value)) (hs0 : ¬(!its.isEmpty && Builtin.List.listTooLong (its.size + its2.size)) = true) (hs1 : its.size ≤ sizeLine) (hs2 : its.size + its2.size ≤ sizeLine + 1) :
    Meets (Builtin.«list.extend» ⟨[.ref l, .ref b], []⟩) (fun _ R s => s.heap.get? l = some { cls := .type "list", dict := none, data := .seq its n, slots := #[] } ∧ s.heap.get? b = some { cls := .type "list", dict := dd, data := .seq its2 n2, slots := sl } ∧ R (.ok (.ret Value.none)) { s with heap := s.heap.update l (Obj.mapSeq fun x => x ++ its2), toks := s.toks }) :=
  .of_wp fun prog w A R s h => by
    obtain ⟨hp, g, d, tk, os⟩ := s
    obtain ⟨hl, hb, h⟩ := h
    have f1 := AutoSeq1.idx_int; have f2 := AutoSeq1.sub_tuple_tuple; have f3 := AutoSeq1.sub_list_list; have f4 := AutoSeq1.sub_tuple_list; have f5 := AutoSeq1.sub_list_tuple
    have hz : (its ++ its2).size ≤ sizeLine + 1 := by rw [Array.size_append]; exact hs2
    wp_walk using (wpAny_updateSeq hl rfl (hz := hs1) (_hz' := hz)), wpAny_loadPart' hl, wpAny_loadPart' hb
    exact ⟨_, rfl, h⟩
def rExtA (K : PySem.W.Frag) : V → List V → Hp → VK → Prop := fun x vs H Q => ∃ l b xs zs, x = .ref l ∧ vs = [.ref b] ∧ H l = some (.lst xs) ∧ (SqL K H b zs ∨ SqT K H b zs) ∧ xs.length + zs.length ≤ sizeLine ∧ Q .non (upd H l (.lst (xs ++ zs)))
theorem mt_extA : MtR X "list.extend" (rExtA X.K) := by
  intro pins s σ H x vs v us Q I rx rv h
  obtain ⟨l, b, xs, zs, rfl, rfl, hH, hB, hz, q⟩ := h
  cases rx
  obtain ⟨u, rfl, ru⟩ := rv.one
  cases ru
  obtain ⟨z, its, n, r, hl, e⟩ := I.lstM hH
  have fin : ∀ its2 : List Value, Vals zs its2 → EP X pins σ Q .none { s with heap := s.heap.update l (Obj.mapSeq fun x => x ++ its2.toArray), toks := s.toks } := fun its2 r2 =>
    ⟨.non, _, I.lset (its' := its ++ its2) hH e (by simp) (r.append r2) (by rw [List.length_append]; omega), rfl, q⟩
  have room : ∀ its2 : List Value, Vals zs its2 → its.toArray.size + its2.toArray.size ≤ sizeLine := fun its2 r2 => by
    have := r2.length
    rw [List.size_toArray, List.size_toArray]; omega
  have door : ∀ its2 : List Value, Vals zs its2 → ¬ (!its.toArray.isEmpty && Builtin.List.listTooLong (its.toArray.size + its2.toArray.size)) = true := fun its2 r2 => by
    rw [notLongL (room its2 r2), Bool.and_false]
    exact Bool.false_ne_true
  rcases hB with hB | hB
  · obtain ⟨its2, r2, ⟨⟨c2, d2, t2, sl2⟩, n2, e2, hc2, hd2, ht2⟩, z2⟩ := I.list hB
    simp only at hc2 ht2
    subst hc2 ht2
    have rm := room its2 r2
    exact call_meets F.slot_list_extend ⟨_, e, rfl⟩ F.entry_list_extend (F.args_list_extend_2 _ _) (extend_lst l its.toArray n b its2.toArray n2 d2 sl2 (door its2 r2) (by omega) (by omega)) ⟨e, e2, fin its2 r2⟩
  · obtain ⟨its2, r2, ⟨⟨c2, d2, t2, sl2⟩, e2, hc2, n2, ht2⟩, z2⟩ := I.tuple hB
    simp only at hc2 ht2
    subst hc2 ht2
    have rm := room its2 r2
    exact call_meets F.slot_list_extend ⟨_, e, rfl⟩ F.entry_list_extend (F.args_list_extend_2 _ _) (extend_tup l its.toArray n b its2.toArray n2 d2 sl2 (door its2 r2) (by omega) (by omega)) ⟨e, e2, fin its2 r2⟩
end
end MP
end

section
set_option Elab.async false
set_option linter.all false
set_option maxRecDepth 100000
set_option maxHeartbeats 4000000
namespace MP
open PySem L2

/-! ### a text of the program is a term of MP: checked by computation -/
structure Sig where
  fnm : Nat → Option Str
  cnm : Nat → Option Str
  nms : Nat → List Str
  dfl : Nat → Bool
def visB (sc : Scope) (x : Str) : Bool := match sc.names.lookup x with | some .local => true | some .cell => true | some .free => true | _ => false
def glB (sc : Scope) (x : Str) : Bool := match sc.names.lookup x with | some .globalImplicit => true | _ => false
def locB (sc : Scope) (fn : Str → Bool) (x : Str) : Bool := match sc.names.lookup x with | some .local => true | some .cell => fn x | _ => false
def nmOk (x : Str) : Bool := !(x == ("__debug__" : Str)) && !(x == ("__classdict__" : Str)) && !decide (x = ("__name__" : Str))
def notStar : Expr → Bool | .Starred _ _ => false | _ => true
def notSet : Expr → Bool | .Set _ _ _ => false | _ => true
def notSlice : Expr → Bool | .Slice _ _ _ _ => false | _ => true
def notComp : Expr → Bool | .ListComp _ _ _ _ => false | .SetComp _ _ _ _ => false | .DictComp _ _ _ _ _ => false | _ => true
def notCall : Expr → Bool | .Call _ _ _ _ => false | _ => true
def cmB : C2 → CmpOp → Bool
  | .eq, .Eq => true | .ne, .NotEq => true | .lt, .Lt => true | .le, .LtE => true | .gt, .Gt => true | .ge, .GtE => true | .inn, .In => true | .nin, .NotIn => true | _, _ => false
def opB : O2 → Operator → Bool
  | .add, .Add => true | .sub, .Sub => true | .mul, .Mult => true | .fdiv, .FloorDiv => true | .mod, .Mod => true | .pow, .Pow => true | _, _ => false
def isTupE : Expr → Bool | .Tuple _ _ _ => true | _ => false
def chkTg (N : List Str) (sc : Scope) (fn : Str → Bool) : Tg → Expr → Bool
  | .nm i, .Name x _ => decide (N[i]? = some x) && locB sc fn x
  | .t2 a b, .Tuple [x, y] _ _ => chkTg N sc fn a x && chkTg N sc fn b y
  | .t3 a b c, .Tuple [x, y, z] _ _ => chkTg N sc fn a x && chkTg N sc fn b y && chkTg N sc fn c z
  | _, _ => false
def ownNm (N : List Str) (own : List Nat) : List (Str × Nat) := own.map fun k => (N.getD k "", k)
mutual
def chkE (G : Sig) (N : List Str) : E → Scope → (Str → Bool) → Expr → Bool
  | .non, _, _, z => match z with | .Constant .none _ _ => true | _ => false
  | .bl b, _, _, z => match z with | .Constant (.bool c) _ _ => b == c | _ => false
  | .int i, _, _, z => match z with | .Constant (.int j) _ _ => decide (i = j) | _ => false
  | .str s, _, _, z => match z with | .Constant (.str t) _ _ => decide (s = t) | _ => false
  | .var i, sc, _, z => match z with | .Name x _ => decide (N[i]? = some x) && visB sc x && nmOk x | _ => false
  | .glo g, sc, _, z => match z with | .Name x _ => decide (G.cnm g = some x) && glB sc x && nmOk x | _ => false
  | .op o a b, sc, fn, z => match z with | .BinOp x p y _ => opB o p && chkE G N a sc fn x && chkE G N b sc fn y | _ => false
  | .neg a, sc, fn, z => match z with | .UnaryOp .USub x _ => chkE G N a sc fn x | _ => false
  | .cmp o a b, sc, fn, z => match z with | .Compare x [p] [y] _ => cmB o p && notSet y && chkE G N a sc fn x && chkE G N b sc fn y | _ => false
  | .cmp2 o o' a b c, sc, fn, z => match z with | .Compare x [p, p'] [y, z] _ => cmB o p && cmB o' p' && notSet z && chkE G N a sc fn x && chkE G N b sc fn y && chkE G N c sc fn z | _ => false
  | .isN a, sc, fn, z => match z with | .Compare x [.Is] [.Constant .none _ _] _ => chkE G N a sc fn x | _ => false
  | .notN a, sc, fn, z => match z with | .Compare x [.IsNot] [.Constant .none _ _] _ => chkE G N a sc fn x | _ => false
  | .not a, sc, fn, z => match z with | .UnaryOp .Not x _ => chkE G N a sc fn x | _ => false
  | .and a b, sc, fn, z => match z with
    | .BoolOp .And [x, y] _ => chkE G N a sc fn x && chkE G N b sc fn y
    | .BoolOp .And (x :: y :: z :: r) p => chkE G N a sc fn x && chkE G N b sc fn (.BoolOp .And (y :: z :: r) p)
    | _ => false
  | .or a b, sc, fn, z => match z with
    | .BoolOp .Or [x, y] _ => chkE G N a sc fn x && chkE G N b sc fn y
    | .BoolOp .Or (x :: y :: z :: r) p => chkE G N a sc fn x && chkE G N b sc fn (.BoolOp .Or (y :: z :: r) p)
    | _ => false
  | .ite c a b, sc, fn, z => match z with | .IfExp x y z _ => chkE G N c sc fn x && chkE G N a sc fn y && chkE G N b sc fn z | _ => false
  | .tup es, sc, fn, z => match z with | .Tuple xs _ _ => chkEs G N es sc fn xs | _ => false
  | .lst es, sc, fn, z => match z with | .List xs _ => chkEs G N es sc fn xs | _ => false
  | .ix a b, sc, fn, z => match z with | .Subscript x y _ => notSlice y && chkE G N a sc fn x && chkE G N b sc fn y | _ => false
  | .slH a b, sc, fn, z => match z with | .Subscript x (.Slice none (some y) none _) _ => chkE G N a sc fn x && chkE G N b sc fn y | _ => false
  | .slL a b, sc, fn, z => match z with | .Subscript x (.Slice (some y) none none _) _ => chkE G N a sc fn x && chkE G N b sc fn y | _ => false
  | .slB a b c, sc, fn, z => match z with | .Subscript x (.Slice (some y) (some z) none _) _ => chkE G N a sc fn x && chkE G N b sc fn y && chkE G N c sc fn z | _ => false
  | .rev _, _, _, _ => false
  | .call f es, sc, fn, z => match z with | .Call (.Name x _) xs [] _ => decide (G.fnm f = some x) && glB sc x && nmOk x && chkEs G N es sc fn xs && xs.all notStar | _ => false
  | .blt b es, sc, fn, z => match z with | .Call (.Name x _) (y :: ys) [] _ => decide (x = bltNm b) && glB sc x && chkEs G N es sc fn (y :: ys) && (y :: ys).all notStar | _ => false
  | .isi a t, sc, fn, z => match z with | .Call (.Name x _) [y, .Name z _] [] _ => decide (x = "isinstance") && decide (z = Str.ofString (tyNm t)) && glB sc x && glB sc z && notStar y && chkE G N a sc fn y | _ => false
  | .lc elt tg it ifs own, sc, fn, z => match z with
    | .ListComp x [⟨t, i, fs, 0⟩] scope _ =>
      blkC N sc scope (ownNm N own) && ((tgSlots tg).all fun k => decide (k ∈ own)) && notSet i && chkI G N it sc fn t i && chkTg N (relS scope sc) (fun y => scope.names.lookup y == some .cell) tg t && decide (fs.length ≤ 1) && chkEs G N ifs (relS scope sc) (fun y => scope.names.lookup y == some .cell) fs && chkE G N elt (relS scope sc) (fun y => scope.names.lookup y == some .cell) x
    | _ => false
  | .lc2 elt tg it ifs tg' it' ifs' own, sc, fn, z => match z with
    | .ListComp x [⟨t, i, fs, 0⟩, ⟨t', i', fs', 0⟩] scope _ =>
      blkC N sc scope (ownNm N own) && ((tgSlots tg).all fun k => decide (k ∈ own)) && ((tgSlots tg').all fun k => decide (k ∈ own)) && notSet i && notSet i' && chkI G N it sc fn t i && chkTg N (relS scope sc) (fun y => scope.names.lookup y == some .cell) tg t && decide (fs.length ≤ 1) && chkEs G N ifs (relS scope sc) (fun y => scope.names.lookup y == some .cell) fs
        && chkI G N it' (relS scope sc) (fun y => scope.names.lookup y == some .cell) t' i' && chkTg N (relS scope sc) (fun y => scope.names.lookup y == some .cell) tg' t' && decide (fs'.length ≤ 1) && chkEs G N ifs' (relS scope sc) (fun y => scope.names.lookup y == some .cell) fs' && chkE G N elt (relS scope sc) (fun y => scope.names.lookup y == some .cell) x
    | _ => false
  | .pop i a, sc, fn, z => match z with | .Call (.Attribute (.Name x _) m ap) [y] [] cp => decide (m = "pop") && decide (N[i]? = some x) && visB sc x && nmOk x && (ap.endLine == cp.line) && notStar y && chkE G N a sc fn y | _ => false
  | .idx a b, sc, fn, z => match z with | .Call (.Attribute x m ap) [y] [] cp => decide (m = "index") && notCall x && (ap.endLine == cp.line) && notStar y && chkE G N a sc fn x && chkE G N b sc fn y | _ => false
  | .dnew, _, _, z => match z with | .Dict [] [] _ => true | _ => false
  | .din ng i k, sc, fn, z => match z with
    | .Compare y [p] [.Name x _] _ => (match p with | .In => !ng | .NotIn => ng | _ => false) && decide (N[i]? = some x) && visB sc x && nmOk x && chkE G N k sc fn y
    | _ => false
  | .dget i k, sc, fn, z => match z with | .Subscript (.Name x _) y _ => notSlice y && decide (N[i]? = some x) && visB sc x && nmOk x && chkE G N k sc fn y | _ => false
  | .dln i, sc, _, z => match z with | .Call (.Name f _) [.Name x _] [] _ => decide (f = "len") && glB sc f && decide (N[i]? = some x) && visB sc x && nmOk x | _ => false
  | .sset a, sc, fn, z => match z with | .Call (.Name f _) [.Call (.Name g _) [y] [] _] [] _ => decide (f = "sorted") && decide (g = "set") && glB sc f && glB sc g && notStar y && chkE G N a sc fn y | _ => false
  | .frz a, sc, fn, z => chkE G N a sc fn z
  | .cmp3 o o' o'' a b c d, sc, fn, z => match z with | .Compare x [p, p', p''] [y, z, u] _ => cmB o p && cmB o' p' && cmB o'' p'' && notSet u && chkE G N a sc fn x && chkE G N b sc fn y && chkE G N c sc fn z && chkE G N d sc fn u | _ => false
  | .isT ng a, sc, fn, z => match z with | .Compare x [p] [.Constant (.bool true) _ _] _ => (match p with | .Is => !ng | .IsNot => ng | _ => false) && chkE G N a sc fn x | _ => false
  | .or2 a b, sc, fn, z => match z with | .BoolOp .Or [x, y] _ => chkE G N a sc fn x && chkE G N b sc fn y | _ => false
  | .lrng a, sc, fn, z => match z with | .Call (.Name f _) [.Call (.Name g _) [y] [] _] [] _ => decide (f = "list") && decide (g = "range") && glB sc f && glB sc g && notStar y && chkE G N a sc fn y | _ => false
  | .trng a, sc, fn, z => match z with | .Call (.Name f _) [.Call (.Name g _) [y] [] _] [] _ => decide (f = "tuple") && decide (g = "range") && glB sc f && glB sc g && notStar y && chkE G N a sc fn y | _ => false
  | .dsd i k v, sc, fn, z => match z with | .Call (.Attribute (.Name x _) m ap) [y, u] [] cp => decide (m = "setdefault") && decide (N[i]? = some x) && visB sc x && nmOk x && (ap.endLine == cp.line) && notStar y && notStar u && chkE G N k sc fn y && chkE G N v sc fn u | _ => false
  | .calld f es, sc, fn, z => match z with | .Call (.Name x _) (y :: ys) [] _ => decide (G.fnm f = some x) && G.dfl f && glB sc x && nmOk x && chkEs G N es sc fn (y :: ys) && (y :: ys).all notStar | _ => false
def chkEs (G : Sig) (N : List Str) : Es → Scope → (Str → Bool) → List Expr → Bool
  | .nil, _, _, zs => match zs with | [] => true | _ => false
  | .cons e es, sc, fn, zs => match zs with | x :: xs => notStar x && chkE G N e sc fn x && chkEs G N es sc fn xs | _ => false
  | .star e es, sc, fn, zs => match zs with | .Starred x _ :: xs => chkE G N e sc fn x && chkEs G N es sc fn xs | _ => false
def chkI (G : Sig) (N : List Str) : It → Scope → (Str → Bool) → Expr → Expr → Bool
  | .seq e, sc, fn, _, x => chkE G N e sc fn x
  | .rng a, sc, fn, _, z => match z with | .Call (.Name x _) [y] [] _ => decide (x = "range") && glB sc x && notStar y && chkE G N a sc fn y | _ => false
  | .rng2 a b, sc, fn, _, z => match z with | .Call (.Name x _) [y, z] [] _ => decide (x = "range") && glB sc x && notStar y && notStar z && chkE G N a sc fn y && chkE G N b sc fn z | _ => false
  | .rng3 a b c, sc, fn, _, z => match z with | .Call (.Name x _) [y, z, u] [] _ => decide (x = "range") && glB sc x && notStar y && notStar z && notStar u && chkE G N a sc fn y && chkE G N b sc fn z && chkE G N c sc fn u | _ => false
  | .enm e, sc, fn, t, z => match z with | .Call (.Name x _) [y] [] _ => isTupE t && decide (x = "enumerate") && glB sc x && notStar y && chkE G N e sc fn y | _ => false
  | .zip a b, sc, fn, t, z => match z with | .Call (.Name x _) [y, z] [] _ => isTupE t && decide (x = "zip") && glB sc x && notStar y && notStar z && chkE G N a sc fn y && chkE G N b sc fn z | _ => false
end
def isLC : Expr → Bool | .ListComp _ _ _ _ => true | _ => false
/-- the names of plain targets, all on one line -/
def nmsOf : List Expr → Option (List Str)
  | [] => some []
  | .Name x _ :: r => (nmsOf r).map (x :: ·)
  | _ => none
/-- a, b = x, y: some true: the names are stored from the last on, with no tuple in between -/
def parB (sc : Scope) (ts vs : List Expr) : Option Bool := match nmsOf ts with
  | some nms =>
    if nms.all fun z => decide (sc.names.lookup z = some .local) then
      if (ts.all fun t => t.pos.line == (ts.head?.map (·.pos.line)).getD 0) && vs.all notStar && decide nms.Nodup && !(vs.all (foldedForSure 8)) && !(vs.all (constantsAlone 8)) then some true else none
    else some false
  | none => none
mutual
def chkS (G : Sig) (N : List Str) : S → Scope → Stmt → Bool
  | .asg tg e, sc, z => match z with
    | .Assign [t] v _ => (match tg with
      | .nm i => (match t with
        | .Name x p => decide (N[i]? = some x) && locB sc (fun _ => true) x && chkE G N e sc (fun _ => true) v &&
          (notComp v || isLC v)
        | _ => false)
      | tg => isTupE t && chkTg N sc (fun _ => true) tg t && notComp v && (!isTupE v || (match t, v with | .Tuple ts _ _, .Tuple vs _ _ => vs.all notStar && (nmsOf ts).isNone | _, _ => false)) && chkE G N e sc (fun _ => true) v)
    | _ => false
  | .par2 i j a b, sc, z => match z with
    | .Assign [.Tuple [.Name x p, .Name y q] _ _] (.Tuple [u, v] _ _) _ =>
      decide (N[i]? = some x) && decide (N[j]? = some y) && decide (i ≠ j) && locB sc (fun _ => true) x && locB sc (fun _ => true) y &&
      (parB sc [.Name x p, .Name y q] [u, v]).isSome && notStar u && notStar v && chkE G N a sc (fun _ => true) u && chkE G N b sc (fun _ => true) v
    | _ => false
  | .par3 i j k a b c, sc, z => match z with
    | .Assign [.Tuple [.Name x p, .Name y q, .Name z r] _ _] (.Tuple [u, v, w] _ _) _ =>
      decide (N[i]? = some x) && decide (N[j]? = some y) && decide (N[k]? = some z) && decide (i ≠ j) && decide (i ≠ k) && decide (j ≠ k) && locB sc (fun _ => true) x && locB sc (fun _ => true) y && locB sc (fun _ => true) z &&
      (parB sc [.Name x p, .Name y q, .Name z r] [u, v, w]).isSome && notStar u && notStar v && notStar w && chkE G N a sc (fun _ => true) u && chkE G N b sc (fun _ => true) v && chkE G N c sc (fun _ => true) w
    | _ => false
  | .expr e, sc, z => match z with | .Expr v _ => notComp v && chkE G N e sc (fun _ => true) v | _ => false
  | .app i e, sc, z => match z with | .Expr (.Call (.Attribute (.Name x _) m ap) [y] [] cp) _ => decide (m = "append") && decide (N[i]? = some x) && visB sc x && nmOk x && (ap.endLine == cp.line) && notStar y && chkE G N e sc (fun _ => true) y | _ => false
  | .ext i e, sc, z => match z with | .Expr (.Call (.Attribute (.Name x _) m ap) [y] [] cp) _ => decide (m = "extend") && decide (N[i]? = some x) && visB sc x && nmOk x && (ap.endLine == cp.line) && notStar y && chkE G N e sc (fun _ => true) y | _ => false
  | .sti i a e, sc, z => match z with | .Assign [.Subscript (.Name x _) y _] v _ => decide (N[i]? = some x) && visB sc x && nmOk x && notSlice y && chkE G N a sc (fun _ => true) y && chkE G N e sc (fun _ => true) v | _ => false
  | .ite c a b, sc, z => match z with | .If x y z _ => chkE G N c sc (fun _ => true) x && chkSs G N a sc y && chkSs G N b sc z | _ => false
  | .for tg it b, sc, z => match z with | .For t i y [] _ => notSet i && chkI G N it sc (fun _ => true) t i && chkTg N sc (fun _ => true) tg t && chkSs G N b sc y | _ => false
  | .whl c b, sc, z => match z with | .While x y [] _ => chkE G N c sc (fun _ => true) x && chkSs G N b sc y | _ => false
  | .ret e, sc, z => match z with | .Return (some x) _ => chkE G N e sc (fun _ => true) x | _ => false
  | .retN, _, z => match z with | .Return none _ => true | _ => false
  | .pass, _, z => match z with | .Pass _ => true | _ => false
  | .brk, _, z => match z with | .Break _ => true | _ => false
  | .cnt, _, z => match z with | .Continue _ => true | _ => false
  | .raise, _, z => match z with | .Raise _ _ _ => true | _ => false
def chkSs (G : Sig) (N : List Str) : Ss → Scope → List Stmt → Bool
  | .nil, _, zs => match zs with | [] => true | _ => false
  | .cons s ss, sc, zs => match zs with | x :: xs => chkS G N s sc x && chkSs G N ss sc xs | _ => false
end
/-- a def of the text is a def of MP -/
def chkDef (G : Sig) (N : List Str) (p : PDef) (st : Stmt) : Bool := match st with
  | .FunctionDef _ _ body _ _ _ sc _ _ _ => decide (N.length = p.sl) && chkSs G N p.body sc body
  | _ => false
end MP
end

section
set_option Elab.async false
set_option linter.all false
set_option maxRecDepth 100000
set_option maxHeartbeats 4000000
namespace MP
open PySem PySem.Spec PyProof.Rows L2

/-! ### a def's promise, with no repr running around -/
structure FnG (P : Program) (w : World) (K : PySem.W.Frag) (mg : Str → Option Value) (base : Heap) (k : Nat) (f : Addr) (fd : FuncData) (ps : List Str) (sp : Sp) : Prop where
  len : ∀ vs H Q E, sp vs H Q E → vs.length = ps.length
  run : ∀ (A : Around) (outer : List PySem.Env) (s : Shared) (H : Hp) (args : Args) (us : List Value) (vs : List V) (Q : VK) (E : XK), Room k A → A.guards = some [] → Env0 P w K mg base A outer s H → BindsTo s fd args (ps.zip us) → Vals vs us → sp vs H Q E →
    codeAny (model P w) A (.call (.ref f) args) (CR CX0 outer P w H s Q E) s
section
variable {X : Cx} {k : Nat} {f : Addr} {fd : FuncData} {ps : List Str} {sp : Sp} {x : Str} {p pos : Pos} {e : Expr} {es : List Expr} {t : TA}
theorem run_fnG {pins : List (Addr × Obj)} {σ : L2.St} {H : Hp} {s : Shared} {Q : VK} {us : List Value} {vs : List V} (F : FnG X.prog X.w X.K X.mg X.base k f fd ps sp) (hr : Room k X.A) (gd : X.A.guards = some []) (hb : Binds X.K fd ps [])
    (I : Inv X pins σ H s) (r : Vals vs us) (h : sp vs H Q E0) : wpAny (model X.prog X.w) X.A (call (.ref f) us) (EP X pins σ Q) X.xe s := by
  have hl : us.length = ps.length := r.length ▸ F.len _ _ _ _ h
  have bt : BindsTo s fd ⟨us, []⟩ (ps.zip us) := by
    have z := hb s us I.kIn (by rw [List.append_nil]; exact hl)
    rw [List.append_nil] at z
    exact z
  refine wpAny_call (codeAny_mono (F.run X.A X.stack s H ⟨us, []⟩ us vs Q E0 hr gd I.env0 bt r h) fun z s' hq => ?_)
  match z, hq with
  | .error _, hq => exact hq.elim
  | .ok (.ret u), hq => exact I.after hq
  | .ok .next, hq => exact hq.elim
  | .ok .brk, hq => exact hq.elim
  | .ok .cont, hq => exact hq.elim
theorem pe_callG (F : FnG X.prog X.w X.K X.mg X.base k f fd ps sp) (hr : Room k X.A) (gd : X.A.guards = some []) (hg : Gl X x) (hm : X.mg x = some (.ref f)) (hk : PySem.W.keepIn X.K (.ref f) = true) (hb : Binds X.K fd ps [])
    (ha : PA X (e :: es) t) (hdb : (x == ("__debug__" : Str)) = false) (he : starEach (e :: es) X.env = (false, eval e X.env) :: starEach es X.env) (hpl : (backTo pos (starEach es X.env)).any (·.1) = false) :
    PE X (.Call (.Name x p) (e :: es) [] pos) (fun σ H Q => t σ H fun vs H1 => sp vs H1 Q E0) :=
  ⟨fun pins s σ H Q I h => wpAny_Call_Name_kw (ld_glob I hg hm (PySem.W.callWith_K (h₀ := X.base) I.ok.mod.kin hk (thn (ha.run pos pins s σ H _ I h) fun us s1 ⟨vs, H1, I1, r, q⟩ => ⟨I1.kIn, run_fnG F hr gd hb I1 r q⟩) he hpl) hdb)⟩
theorem pe_call0G (F : FnG X.prog X.w X.K X.mg X.base k f fd ps sp) (hr : Room k X.A) (gd : X.A.guards = some []) (hg : Gl X x) (hm : X.mg x = some (.ref f)) (hk : PySem.W.keepIn X.K (.ref f) = true) (hb : Binds X.K fd ps [])
    (hdb : (x == ("__debug__" : Str)) = false) : PE X (.Call (.Name x p) [] [] pos) (fun σ H Q => sp [] H Q E0) :=
  ⟨fun pins s σ H Q I h => wpAny_Call_Name_kw (ld_glob I hg hm (PySem.W.callWith_K0 I.kIn hk (run_fnG (us := []) F hr gd hb I .nil h)) hdb)⟩
end
/-- a def of the text, by its body -/
theorem fn_ofG {P : Program} {w : World} {K : PySem.W.Frag} {mg : Str → Option Value} {base : Heap} {k : Nat} {f : Addr} {name qual : Str} {params : Arguments} {body : List Stmt} {scope : Scope} {dV kV doc pm cdv ct oc : Value} {an od : Option Addr}
    {osl : Array (Option Value)} {N ps : List Str} {sp : Sp} (lk : K.lookup f = some ⟨oc, od, .func (PySem.W.fnOf name qual params body scope dV kV doc pm an cdv ct), osl⟩) (hcd : PySem.W.codeIn K cdv qual = true) (S : FnScope N ps scope)
    (len : ∀ vs H Q E, sp vs H Q E → vs.length = ps.length)
    (hb : ∀ (A : Around) (outer : List PySem.Env) (s : Shared) (H : Hp) (vs : List V) (Q : VK) (E : XK), Room k (A.deeper (envOfC qual scope s.heap.objs.size f cdv)) → A.guards = some [] → sp vs H Q E →
      ∃ t, PSs (cxOf CX0 P w K mg base N qual scope f cdv A outer s H E).nox body t ∧ t { nx := fun _ H' => Q .non H', rt := Q } (L2.start N vs) H) :
    FnG P w K mg base (k + 1) f (PySem.W.fnOf name qual params body scope dV kV doc pm an cdv ct) ps sp := by
  refine ⟨len, fun A outer s H args us vs Q E hr gd e0 bt r hsp => ?_⟩
  have kin : K.In s.heap := e0.mod.kin.keeps (fun b o z => (e0.bs b o z).1)
  have nolim : s.heap.NoLimit := e0.mod.nolimit.keeps (fun b o z => (e0.bs b o z).1)
  have kinds : ∀ y ∈ ps.zip us, scope.names.lookup y.1 = some .local ∨ (scope.names.lookup y.1 = some .cell ∧ ((cellsFrom (s.heap.objs.size + 1) scope.names []).lookup y.1).isSome = true) := by
    rintro ⟨n, v⟩ hy
    rcases S.par n (List.of_mem_zip hy).1 with z | z
    · exact .inl z
    · exact .inr ⟨z, PySem.W.cellsFrom_some _ _ _ (.inl z)⟩
  refine codeAny_call_function hr.depth (kin _ _ lk) rfl S.co S.gen rfl (PySem.W.codeRec_of kin hcd) (bt _ _ _ _ ?_)
  refine wpAny_newFunctionEnv_cells S.kind kinds fun env he s1 x => ?_
  subst he
  refine ⟨nolim.keeps x.toInCall.keep, codeAny_func ?_⟩
  obtain ⟨t, ht, hq⟩ := hb A outer s H vs Q E (hr.deeper _) gd hsp
  have I : Inv (cxOf CX0 P w K mg base N qual scope f cdv A outer s H E) [] (L2.start N vs) H s1 := inv_start S hr.hd e0 (len _ _ _ _ hsp) r x
  refine wpAny_mono (ht.nox.run [] s1 (L2.start N vs) H _ I hq) (fun fl s' hs => ?_) (fun e s' hs => hs)
  match fl, hs with
  | .ret u, ⟨v, σ', H', J, rv, q⟩ => exact ⟨v, H', J.os, J.bare, J.base, J.hok, rv, q⟩
  | .next, ⟨σ', H', J, q⟩ => exact ⟨.non, H', J.os, J.bare, J.base, J.hok, rfl, q⟩
  | .brk, ⟨_, _, _, q⟩ => exact q.elim
  | .cont, ⟨_, _, _, q⟩ => exact q.elim

/-! ### a def's promise by the interpreter -/
/-- the arguments: data, or lent objects at the addresses ps -/
inductive ArgsOk (K : PySem.W.Frag) (H Hs : Hp) : List V → List Arg → List Addr → Prop
  | nil : ArgsOk K H Hs [] [] []
  | sh {v : V} {d : D} {vs : List V} {as : List Arg} {ps : List Addr} : Rp K Hs v d → ArgsOk K H Hs vs as ps → ArgsOk K H Hs (v :: vs) (.sh d :: as) ps
  | mu {p : Addr} {ho : HO} {o : Ob} {vs : List V} {as : List Arg} {ps : List Addr} : H p = some ho → ObR K Hs o ho → Hs p = none → ArgsOk K H Hs vs as ps → ArgsOk K H Hs (.ref p :: vs) (.mu o :: as) (p :: ps)
theorem ArgsOk.len {K : PySem.W.Frag} {H Hs : Hp} : ∀ {vs : List V} {as : List Arg} {ps : List Addr}, ArgsOk K H Hs vs as ps → vs.length = as.length
  | _, _, _, .nil => rfl
  | _, _, _, .sh _ r => congrArg (· + 1) r.len
  | _, _, _, .mu _ _ _ r => congrArg (· + 1) r.len
inductive OutsOk (K : PySem.W.Frag) (H Hs : Hp) : List Addr → List Ob → Prop
  | nil : OutsOk K H Hs [] []
  | cons {p : Addr} {ho : HO} {o : Ob} {ps : List Addr} {os : List Ob} : H p = some ho → ObR K Hs o ho → Hs p = none → OutsOk K H Hs ps os → OutsOk K H Hs (p :: ps) (o :: os)
def RetOk (K : PySem.W.Frag) (H H' Hs' : Hp) (v : V) : Val → Prop
  | .sh d => Rp K Hs' v d
  | .ow o => ∃ q ho, v = .ref q ∧ H' q = some ho ∧ ObR K Hs' o ho ∧ Hs' q = none ∧ H q = none
structure EndOk (K : PySem.W.Frag) (H Hs : Hp) (ps : List Addr) (v : V) (val : Val) (os : List Ob) (H' Hs' : Hp) : Prop where
  s0 : Ex Hs Hs'
  sh : Ex Hs' H'
  keep : ∀ a o, H a = some o → a ∉ ps → H' a = some o
  nw : ∀ a o, Hs' a = some o → Hs a = some o ∨ H a = none
  outs : OutsOk K H' Hs' ps os
  val : RetOk K H H' Hs' v val
def spOf (K : PySem.W.Frag) (n : Nat) (call : List Arg → Option (Val × List Ob)) : Sp := fun vs H Q _ => vs.length = n ∧ ∃ (args : List Arg) (ps : List Addr) (Hs : Hp) (val : Val) (os : List Ob),
  call args = some (val, os) ∧ ArgsOk K H Hs vs args ps ∧ ps.Nodup ∧ Ex Hs H ∧ ∀ v H' Hs', EndOk K H Hs ps v val os H' Hs' → Q v H'

/-! ### the call, seen by the caller -/
section
variable {K : PySem.W.Frag} {Fr Hs0 : Hp} {bs : List (Nat × Addr)} {σ : L2.St} {ρ ρ' : MP.Env} {H H' Hs Hs' : Hp}
/-- a value that stands for an argument -/
def AVOk (K : PySem.W.Frag) (Hs : Hp) (σ : L2.St) (v : V) : AV → Prop
  | .d d => Rp K Hs v d
  | .lent i => σ[i]? = some (some v)
inductive AVs (K : PySem.W.Frag) (Hs : Hp) (σ : L2.St) : List V → List AV → Prop
  | nil : AVs K Hs σ [] []
  | cons {v : V} {a : AV} {vs : List V} {as : List AV} : AVOk K Hs σ v a → AVs K Hs σ vs as → AVs K Hs σ (v :: vs) (a :: as)
theorem AVOk.mono {v : V} {a : AV} (e : Ex Hs Hs') (h : AVOk K Hs σ v a) : AVOk K Hs' σ v a := by
  cases a with
  | d d => exact Rp.mono e h
  | lent i => exact h
/-- the addresses of the lent slots -/
inductive LentAt (σ : L2.St) : List Nat → List Addr → Prop
  | nil : LentAt σ [] []
  | cons {i : Nat} {p : Addr} {is : List Nat} {ps : List Addr} : σ[i]? = some (some (V.ref p)) → LentAt σ is ps → LentAt σ (i :: is) (p :: ps)
theorem args_ok (s : Sta K Fr Hs0 bs σ ρ H Hs) : ∀ {vs : List V} {as : List AV} {args : List Arg}, AVs K Hs σ vs as → argsOf ρ as = some args → ∃ ps, ArgsOk K H Hs vs args ps ∧ LentAt σ (lents as) ps
  | _, _, _, .nil, e => by cases e; exact ⟨[], .nil, .nil⟩
  | _, _, args, .cons (a := .d d) h r, e => by
    simp only [argsOf] at e
    cases q : argsOf ρ _ with
    | none => rw [q] at e; cases e
    | some as' =>
      rw [q] at e; cases e
      obtain ⟨ps, h1, h2⟩ := args_ok s r q
      exact ⟨ps, .sh h h1, h2⟩
  | _, _, args, .cons (v := v) (vs := vs) (as := as) (a := .lent i) h r, e => by
    simp only [argsOf] at e
    have key : ∀ o, (ρ[i]? = some (.ow o) ∨ ρ[i]? = some (.bo o)) → ∀ as', argsOf ρ as = some as' → ∃ ps, ArgsOk K H Hs (v :: vs) (.mu o :: as') ps ∧ LentAt σ (i :: lents as) ps := fun o ho as' q => by
      obtain ⟨ps, h1, h2⟩ := args_ok s r q
      have k : OwOk K Fr H Hs (σ[i]?) o := by
        rcases ho with ho | ho
        · exact s.ent i _ ho
        · exact s.ent i _ ho
      obtain ⟨p, u, e1, e2, e3, e4, e5⟩ := k
      have hv : v = V.ref p := by
        have h' : σ[i]? = some (some v) := h
        rw [e1] at h'
        exact (Option.some.inj (Option.some.inj h')).symm
      subst hv
      exact ⟨p :: ps, .mu e2 e3 e4 h1, .cons e1 h2⟩
    cases q : argsOf ρ _ with
    | none =>
      rw [q] at e
      split at e <;> cases e
    | some as' =>
      rw [q] at e
      split at e
      · rename_i o ho
        cases e
        exact key o (.inl (getD_some ho (by simp))) as' q
      · rename_i o ho
        cases e
        exact key o (.inr (getD_some ho (by simp))) as' q
      · cases e
theorem LentAt.mem : ∀ {is : List Nat} {ps : List Addr} {p : Addr}, LentAt σ is ps → p ∈ ps → ∃ i ∈ is, σ[i]? = some (some (V.ref p))
  | _, _, p, .cons h r, hp => by
    rcases List.mem_cons.mp hp with rfl | hp
    · exact ⟨_, List.mem_cons_self, h⟩
    · obtain ⟨i, h1, h2⟩ := LentAt.mem r hp
      exact ⟨i, List.mem_cons_of_mem _ h1, h2⟩
theorem isOwn_reOb (e : Ent) (o : Ob) : isOwn (reOb e o) = true := by cases e <;> rfl
theorem entOk_reOb {e : Ent} {o : Ob} {t : Option (Option V)} (h : OwOk K Fr H Hs t o) : EntOk K Fr H Hs t (reOb e o) := by cases e <;> exact h
theorem gb_ok : ∀ {is : List Nat} {os : List Ob} {ps : List Addr} {ρ ρ' : MP.Env}, giveBack ρ is os = some ρ' → is.Nodup → LentAt σ is ps → OutsOk K H' Hs' ps os →
    ρ'.length = ρ.length ∧ (∀ j, j ∉ is → ρ'[j]? = ρ[j]?) ∧ ∀ j ∈ is, ∃ e o p ho, ρ[j]? = some e ∧ isOwn e = true ∧ ρ'[j]? = some (reOb e o) ∧ σ[j]? = some (some (V.ref p)) ∧ H' p = some ho ∧ ObR K Hs' o ho ∧ Hs' p = none
  | [], os, ps, ρ, ρ', h, hn, hl, ho => by
    cases hl
    cases ho
    cases h
    exact ⟨rfl, fun _ _ => rfl, fun j hj => absurd hj (by simp)⟩
  | i :: is, os, ps, ρ, ρ', h, hn, hl, ho => by
    cases hl with
    | @cons _ p _ ps' hp hl =>
      cases ho with
      | @cons _ ho' o _ os' h1 h2 h3 ho =>
        have key : ∀ e, ρ[i]? = some e → isOwn e = true → giveBack (ρ.set i (reOb e o)) is os' = some ρ' →
            ρ'.length = ρ.length ∧ (∀ j, j ∉ i :: is → ρ'[j]? = ρ[j]?) ∧ ∀ j ∈ i :: is, ∃ e o p ho, ρ[j]? = some e ∧ isOwn e = true ∧ ρ'[j]? = some (reOb e o) ∧ σ[j]? = some (some (V.ref p)) ∧ H' p = some ho ∧ ObR K Hs' o ho ∧ Hs' p = none := fun e he hoe hg => by
          have li : i < ρ.length := (List.getElem?_eq_some_iff.mp he).1
          obtain ⟨k1, k2, k3⟩ := gb_ok hg (List.nodup_cons.mp hn).2 hl ho
          refine ⟨by rw [k1, List.length_set], fun j hj => ?_, fun j hj => ?_⟩
          · have n1 : j ∉ is := fun z => hj (List.mem_cons_of_mem _ z)
            have n2 : i ≠ j := fun z => hj (by rw [← z]; exact List.mem_cons_self)
            rw [k2 j n1, List.getElem?_set_ne n2]
          · by_cases n2 : j = i
            · subst n2
              refine ⟨e, o, p, ho', he, hoe, ?_, hp, h1, h2, h3⟩
              rw [k2 j (List.nodup_cons.mp hn).1, List.getElem?_set_self li]
            · have hj' : j ∈ is := by
                rcases List.mem_cons.mp hj with z | z
                · exact absurd z n2
                · exact z
              obtain ⟨e', o', p', u, f1, f2, f3, f4, f5⟩ := k3 j hj'
              rw [List.getElem?_set_ne (Ne.symm n2)] at f1
              exact ⟨e', o', p', u, f1, f2, f3, f4, f5⟩
        simp only [giveBack] at h
        split at h
        · rename_i w hw
          exact key _ (getD_some hw (by simp)) rfl h
        · rename_i w hw
          exact key _ (getD_some hw (by simp)) rfl h
        · cases h
theorem LentAt.nodup (s : Sta K Fr Hs0 bs σ ρ H Hs) : ∀ {is : List Nat} {ps : List Addr}, LentAt σ is ps → is.Nodup → (∀ i ∈ is, ∃ e, ρ[i]? = some e ∧ isOwn e = true) → ps.Nodup
  | _, _, .nil, _, _ => .nil
  | _, _, .cons (i := i) (p := p) h r, hn, ho => by
    refine List.nodup_cons.mpr ⟨fun hp => ?_, LentAt.nodup s r (List.nodup_cons.mp hn).2 fun j hj => ho j (List.mem_cons_of_mem _ hj)⟩
    obtain ⟨j, hj, e2⟩ := r.mem hp
    obtain ⟨e, he, oe⟩ := ho i List.mem_cons_self
    obtain ⟨e', he', oe'⟩ := ho j (List.mem_cons_of_mem _ hj)
    exact s.dj i j e e' p (fun z => (List.nodup_cons.mp hn).1 (z ▸ hj)) he he' oe oe' h e2
theorem lent_own : ∀ {as : List AV} {args : List Arg}, argsOf ρ as = some args → ∀ i ∈ lents as, ∃ e, ρ[i]? = some e ∧ isOwn e = true
  | [], _, _, i, hi => absurd hi (by simp [lents])
  | .d d :: r, args, h, i, hi => by
    simp only [argsOf] at h
    cases q : argsOf ρ r with
    | none => rw [q] at h; cases h
    | some as' => exact lent_own q i hi
  | .lent j :: r, args, h, i, hi => by
    simp only [argsOf] at h
    cases q : argsOf ρ r with
    | none => rw [q] at h; split at h <;> cases h
    | some as' =>
      have hj : ∃ e, ρ[j]? = some e ∧ isOwn e = true := by
        split at h
        · rename_i w hw
          exact ⟨_, getD_some hw (by simp), rfl⟩
        · rename_i w hw
          exact ⟨_, getD_some hw (by simp), rfl⟩
        · cases h
      rcases List.mem_cons.mp hi with z | z
      · rw [z]; exact hj
      · exact lent_own q i z
theorem after_call {is : List Nat} {ps : List Addr} {v : V} {val : Val} {os : List Ob} (s : Sta K Fr Hs0 bs σ ρ H Hs) (hl : LentAt σ is ps) (hn : is.Nodup) (e : EndOk K H Hs ps v val os H' Hs') (g : giveBack ρ is os = some ρ') :
    Sta K Fr Hs0 bs σ ρ' H' Hs' ∧ VOk K Fr σ ρ' H' Hs' v val := by
  obtain ⟨g1, g2, g3⟩ := gb_ok g hn hl e.outs
  have nin : ∀ p o, (∃ j x, j ∉ is ∧ ρ[j]? = some x ∧ isOwn x = true ∧ σ[j]? = some (some (V.ref p))) → H p = some o → H' p = some o := fun p o ⟨j, x, h1, h2, h3, h4⟩ hp => by
    refine e.keep p o hp fun hps => ?_
    obtain ⟨i, hi, hpi⟩ := hl.mem hps
    obtain ⟨e', o', p', u, f1, f2, _⟩ := g3 i hi
    exact s.dj i j e' x p (fun z => h1 (z ▸ hi)) f1 h2 f2 h3 hpi h4
  have fr : Ex Fr H' := fun a o ha => by
    refine e.keep a o (s.fr a o ha) fun hps => ?_
    obtain ⟨i, hi, hpi⟩ := hl.mem hps
    obtain ⟨e', o', p', u, f1, f2, f3, f4, _⟩ := g3 i hi
    have k := s.ent i e' f1
    have k' : ∃ w, OwOk K Fr H Hs (σ[i]?) w := by
      cases e' with
      | un => cases f2
      | sh d => cases f2
      | ow w => exact ⟨w, k⟩
      | bo w => exact ⟨w, k⟩
    obtain ⟨w, q, z, y1, y2, y3, y4, y5⟩ := k'
    rw [hpi] at y1
    cases y1
    rw [y5] at ha; cases ha
  have own : ∀ (j : Nat) (x : Ent), ρ'[j]? = some x → isOwn x = true → ∃ x0, ρ[j]? = some x0 ∧ isOwn x0 = true := fun j x hj ox => by
    by_cases hi : j ∈ is
    · obtain ⟨e', o', p', u, f1, f2, _⟩ := g3 j hi
      exact ⟨e', f1, f2⟩
    · rw [g2 j hi] at hj
      exact ⟨x, hj, ox⟩
  refine ⟨⟨fr, e.sh, s.s0.trans e.s0, fun a o ha => ?_, by rw [g1]; exact s.len, fun j x hj => ?_, fun a b x y p n h1 h2 o1 o2 p1 p2 => ?_, fun b hb => ?_⟩, ?_⟩
  · rcases e.nw a o ha with z | z
    · exact s.nw a o z
    · exact .inr (s.fr.back z)
  · by_cases hi : j ∈ is
    · obtain ⟨e', o', p', u, f1, f2, f3, f4, f5, f6, f7⟩ := g3 j hi
      rw [f3] at hj
      cases hj
      have k := s.ent j e' f1
      have k' : ∃ w, OwOk K Fr H Hs (σ[j]?) w := by
        cases e' with
        | un => cases f2
        | sh d => cases f2
        | ow w => exact ⟨w, k⟩
        | bo w => exact ⟨w, k⟩
      obtain ⟨w, q, z, y1, y2, y3, y4, y5⟩ := k'
      rw [f4] at y1
      cases y1
      exact entOk_reOb ⟨p', u, f4, f5, f6, f7, y5⟩
    · rw [g2 j hi] at hj
      have k := s.ent j x hj
      have oth : ∀ w, OwOk K Fr H Hs (σ[j]?) w → isOwn x = true → OwOk K Fr H' Hs' (σ[j]?) w := fun w kw ox => by
        obtain ⟨p, u, e1, e2, e3, e4, e5⟩ := kw
        refine ⟨p, u, e1, nin p u ⟨j, x, hi, hj, ox, e1⟩ e2, e3.mono e.s0, ?_, e5⟩
        cases q : Hs' p with
        | none => rfl
        | some y =>
          rcases e.nw p y q with z | z
          · rw [e4] at z; cases z
          · rw [e2] at z; cases z
      cases x with
      | un => trivial
      | sh d => obtain ⟨v, e1, e2⟩ := k; exact ⟨v, e1, e2.mono e.s0⟩
      | ow w => exact oth w k rfl
      | bo w => exact oth w k rfl
  · obtain ⟨x0, hx0, ox0⟩ := own a x h1 o1
    obtain ⟨y0, hy0, oy0⟩ := own b y h2 o2
    exact s.dj a b x0 y0 p n hx0 hy0 ox0 oy0 p1 p2
  · obtain ⟨h1, o, h2⟩ := s.bo b hb
    refine ⟨h1, ?_⟩
    by_cases hi : b.1 ∈ is
    · obtain ⟨e', o', p', u, f1, f2, f3, _⟩ := g3 _ hi
      rw [h2] at f1
      cases f1
      exact ⟨o', f3⟩
    · rw [g2 _ hi]; exact ⟨o, h2⟩
  · cases val with
    | sh d => exact e.val
    | ow o =>
      obtain ⟨q, ho, e1, e2, e3, e4, e5⟩ := e.val
      refine ⟨q, ho, e1, e2, e3, e4, s.fr.back e5, fun j x hj ox z => ?_⟩
      obtain ⟨x0, hx0, ox0⟩ := own j x hj ox
      exact s.not1 e5 j x0 hx0 ox0 z
end
end MP
end

section
set_option Elab.async false
set_option linter.all false
set_option maxRecDepth 100000
set_option maxHeartbeats 8000000
namespace MP
open PySem PySem.Spec PyProof.Rows L2

/-! ### the best readings: what is wanted, as it is -/
def tbE (X : Cx) (e : Expr) : TE := fun σ H Q => ∀ pins s, Inv X pins σ H s → wpAny (model X.prog X.w) X.A (eval e X.env) (EP X pins σ Q) X.xe s
def isBo2 : Expr → Bool | .BoolOp _ _ _ => true | _ => false
def tbT (X : Cx) (e : Expr) : TT := fun σ H Q => ∀ whole, (isBo2 e = true ∨ whole = eval e X.env) → ∀ pins s, Inv X pins σ H s → wpAny (model X.prog X.w) X.A (isTrue e X.env whole) (TP X pins σ Q) X.xe s
def tbA (X : Cx) (es : List Expr) : TA := fun σ H Q => ∀ pos pins s, Inv X pins σ H s → wpAny (model X.prog X.w) X.A (spliced (backTo pos (starEach es X.env))) (AP X pins σ Q) X.xe s
def tbS (X : Cx) (st : Stmt) : TS := fun D σ H => ∀ pins s, Inv X pins σ H s → wpAny (model X.prog X.w) X.A (PySem.exec st X.env) (SP X pins D) X.xe s
def tbSs (X : Cx) (st : List Stmt) : TS := fun D σ H => ∀ pins s, Inv X pins σ H s → wpAny (model X.prog X.w) X.A (PySem.execs st X.env) (SP X pins D) X.xe s
def tbI (X : Cx) (tg iter : Expr) : TI := fun σ H R => ∀ pins s, Inv X pins σ H s → wpAny (model X.prog X.w) X.A (eval iter X.env) (fun v s1 => wpAny (model X.prog X.w) X.A (pyIter v) (PIE X pins σ tg R) X.xe s1) X.xe s
def tbG (X : Cx) (tg : Expr) : TG := fun v σ H Q => ∀ pins s u, Inv X pins σ H s → RelV v u → wpAny (model X.prog X.w) X.A (assign tg X.env u) (fun _ s' => ∃ σ' H', Inv X pins σ' H' s' ∧ Q σ' H') X.xe s
section
variable {X : Cx} {e tg iter : Expr} {es : List Expr} {st : Stmt} {sts : List Stmt} {σ : L2.St} {H : Hp}
theorem pe_tb : PE X e (tbE X e) := ⟨fun pins s σ H Q I h => h pins s I⟩
theorem pt_tb : PT X e (tbT X e) := ⟨fun pins s σ H Q I h => h _ (.inr rfl) pins s I⟩
theorem pw_tb (hb : isBo2 e = true) : PW X e (tbT X e) := ⟨fun wh pins s σ H Q I h => h wh (.inl hb) pins s I⟩
theorem pa_tb : PA X es (tbA X es) := ⟨fun pos pins s σ H Q I h => h pos pins s I⟩
theorem ps_tb : PS X st (tbS X st) := ⟨fun pins s σ H D I h => h pins s I⟩
theorem pss_tb : PSs X sts (tbSs X sts) := ⟨fun pins s σ H D I h => h pins s I⟩
theorem pi_tb : PI X tg iter (tbI X tg iter) := ⟨fun pins s σ H R I h => h pins s I⟩
theorem pg_tb : PG X tg (tbG X tg) := ⟨fun pins s σ H v u Q I r h => h pins s u I r⟩
theorem tb_e {t : TE} {Q : VK} (h : PE X e t) (q : t σ H Q) : tbE X e σ H Q := fun pins s I => h.run pins s σ H Q I q
theorem tb_t {t : TT} {Q : Bool → Hp → Prop} (h : PT X e t) (hb : isBo2 e = false) (q : t σ H Q) : tbT X e σ H Q := fun wh hw pins s I => by
  rcases hw with z | z
  · rw [hb] at z; cases z
  · subst z; exact h.run pins s σ H Q I q
theorem tb_w {t : TT} {Q : Bool → Hp → Prop} (h : PW X e t) (q : t σ H Q) : tbT X e σ H Q := fun wh _ pins s I => h.run wh pins s σ H Q I q
theorem tb_a {t : TA} {Q : List V → Hp → Prop} (h : PA X es t) (q : t σ H Q) : tbA X es σ H Q := fun pos pins s I => h.run pos pins s σ H Q I q
theorem tb_s {t : TS} {D : Ends} (h : PS X st t) (q : t D σ H) : tbS X st D σ H := fun pins s I => h.run pins s σ H D I q
theorem tb_ss {t : TS} {D : Ends} (h : PSs X sts t) (q : t D σ H) : tbSs X sts D σ H := fun pins s I => h.run pins s σ H D I q
theorem tb_i {t : TI} {R : L2.It → Hp → Prop} (h : PI X tg iter t) (q : t σ H R) : tbI X tg iter σ H R := fun pins s I => h.run pins s σ H R I q
theorem tb_g {t : TG} {v : V} {Q : L2.St → Hp → Prop} (h : PG X tg t) (q : t v σ H Q) : tbG X tg v σ H Q := fun pins s u I r => h.run pins s σ H v u Q I r q
end

/-! ### where a piece of text stands -/
def freeNms : List Str := ["len", "all", "any", "tuple", "list", "sorted", "min", "max", "repr", "isinstance", "int", "bool", "str", "range", "enumerate", "zip", "set"]
structure FOk (Γ : Tbl) (con : Nat → Option D) (n : Nat) (P : Program) (w : World) (K : PySem.W.Frag) (mg : Str → Option Value) (base : Heap) (df : Bool) (f : Nat) (x : Str) : Prop where
  ex : ∃ p ps ad fd, Γ f = some p ∧ mg x = some (.ref ad) ∧ PySem.W.keepIn K (.ref ad) = true ∧ Binds K fd ps [] ∧ FnG P w K mg base n ad fd ps (spOf K p.ar (evalCall Γ con n f)) ∧
    (df = true → ∃ a0, (∀ H : Hp, SqT K H a0 []) ∧ Binds K fd ps [.ref a0])
structure XOk (Γ : Tbl) (con : Nat → Option D) (n : Nat) (G : Sig) (X : Cx) : Prop where
  calm : X.calm = true
  nd : X.N.Nodup
  xe : X.xe = fun _ _ => False
  room : Room n X.A
  gd : X.A.guards = some []
  kind : X.env.scope.kind = .function
  free : ∀ x ∈ freeNms, X.mg x = none
  cons : ∀ g x d, con g = some d → G.cnm g = some x → ∃ v u, X.mg x = some u ∧ RelV v u ∧ ∀ H, Rp X.K H v d
  fns : ∀ f x, G.fnm f = some x → FOk Γ con n X.prog X.w X.K X.mg X.base (G.dfl f) f x
noncomputable abbrev cfg (Γ : Tbl) (con : Nat → Option D) (n : Nat) : Cfg := ⟨evalCall Γ con n, con, musOf Γ⟩

/-- what is promised of an expression -/
def SE (C : Cfg) (X : Cx) (e : E) (x : Expr) : Prop :=
  ∀ Fr Hs0 bs σ ρ H Hs val ρ' (Q : VK), Sta X.K Fr Hs0 bs σ ρ H Hs → ev C e ρ = some (val, ρ') → Kont X.K Fr Hs0 bs σ ρ' Hs val Q → tbE X x σ H Q
def SD (C : Cfg) (X : Cx) (e : E) (x : Expr) : Prop :=
  ∀ Fr Hs0 bs σ ρ H Hs d ρ' (Q : VK), Sta X.K Fr Hs0 bs σ ρ H Hs → toD (ev C e ρ) = some (d, ρ') → (∀ v H' Hs', Sta X.K Fr Hs0 bs σ ρ' H' Hs' → Ex Hs Hs' → Rp X.K Hs' v d → Q v H') → tbE X x σ H Q
def OpdOk (K : PySem.W.Frag) (Hs : Hp) (σ : L2.St) (v : V) : Opd → Prop
  | .dat d => Rp K Hs v d
  | .slot i => σ[i]? = some (some v)
def SO (C : Cfg) (X : Cx) (e : E) (x : Expr) : Prop :=
  ∀ Fr Hs0 bs σ ρ H Hs o ρ' (Q : VK), Sta X.K Fr Hs0 bs σ ρ H Hs → toO e ρ (ev C e ρ) = some (o, ρ') → (∀ v H' Hs', Sta X.K Fr Hs0 bs σ ρ' H' Hs' → Ex Hs Hs' → OpdOk X.K Hs' σ v o → Q v H') → tbE X x σ H Q
def ST (C : Cfg) (X : Cx) (e : E) (x : Expr) : Prop :=
  ∀ Fr Hs0 bs σ ρ H Hs b ρ' (Q : Bool → Hp → Prop), Sta X.K Fr Hs0 bs σ ρ H Hs → toB (ev C e ρ) = some (b, ρ') → (∀ H' Hs', Sta X.K Fr Hs0 bs σ ρ' H' Hs' → Ex Hs Hs' → Q b H') → tbT X x σ H Q
section
variable {C : Cfg} {X : Cx} {e : E} {x : Expr}
theorem toD_inv {r : Option (Val × MP.Env)} {d : D} {ρ : MP.Env} (h : toD r = some (d, ρ)) : ∃ val, r = some (val, ρ) ∧ val.d = some d := by
  unfold toD at h
  cases r with
  | none => cases h
  | some p =>
    obtain ⟨val, ρ1⟩ := p
    simp only [Option.bind_some] at h
    cases k : val.d with
    | none => rw [k] at h; cases h
    | some d' => rw [k] at h; cases h; exact ⟨val, rfl, k⟩
theorem toB_inv {r : Option (Val × MP.Env)} {b : Bool} {ρ : MP.Env} (h : toB r = some (b, ρ)) : toD r = some (.bool b, ρ) := by
  unfold toB at h
  cases k : toD r with
  | none => rw [k] at h; cases h
  | some p =>
    obtain ⟨d, ρ1⟩ := p
    rw [k] at h
    simp only [Option.bind_some] at h
    cases d <;> simp only [asB, Option.bind_none, Option.bind_some, reduceCtorEq] at h
    cases h
    rfl
theorem SE.d (h : SE C X e x) : SD C X e x := fun Fr Hs0 bs σ ρ H Hs d ρ' Q s he q => by
  obtain ⟨val, h1, h2⟩ := toD_inv he
  refine h Fr Hs0 bs σ ρ H Hs val ρ' Q s h1 fun v H' Hs' s' ex vo => ?_
  obtain ⟨Hs2, s2, ex2, r⟩ := vo.toD s' h2
  exact q v H' Hs2 s2 (ex.trans ex2) r
theorem peek_inv {i : Nat} {ρ ρ' : MP.Env} {o : Opd} (h : peek i ρ = some (o, ρ')) : ρ' = ρ ∧ ∃ en, ρ[i]? = some en ∧ en ≠ .un ∧ ((∃ d, en = .sh d ∧ o = .dat d) ∨ (isOwn en = true ∧ o = .slot i)) := by
  unfold peek at h
  split at h
  · rename_i d hd
    cases h
    exact ⟨rfl, _, getD_some hd (by simp), by simp, .inl ⟨d, rfl, rfl⟩⟩
  · rename_i d hd
    cases h
    exact ⟨rfl, _, getD_some hd (by simp), by simp, .inr ⟨rfl, rfl⟩⟩
  · rename_i d hd
    cases h
    exact ⟨rfl, _, getD_some hd (by simp), by simp, .inr ⟨rfl, rfl⟩⟩
  · cases h
theorem SD.o (h : SD C X e x) (hv : ∀ i, e ≠ .var i) : SO C X e x := fun Fr Hs0 bs σ ρ H Hs o ρ' Q s he q => by
  have k : ∃ d, o = .dat d ∧ toD (ev C e ρ) = some (d, ρ') := by
    unfold toO at he
    split at he
    · exact absurd rfl (hv _)
    · unfold toD
      cases k : ev C e ρ with
      | none => rw [k] at he; cases he
      | some p =>
        rw [k] at he
        simp only [Option.bind_some] at he ⊢
        cases k2 : p.1.d with
        | none => rw [k2] at he; cases he
        | some d => rw [k2] at he; cases he; exact ⟨d, rfl, rfl⟩
  obtain ⟨d, rfl, k⟩ := k
  exact h Fr Hs0 bs σ ρ H Hs d ρ' Q s k q
/-- an operand when the operation is done -/
theorem fetch_ok {K : PySem.W.Frag} {Fr Hs0 : Hp} {bs : List (Nat × Addr)} {σ : L2.St} {ρ : MP.Env} {H Hs : Hp} {v : V} {o : Opd} {d : D} (s : Sta K Fr Hs0 bs σ ρ H Hs) (h : OpdOk K Hs σ v o) (e : fetch ρ o = some d) : Ro K H Hs v d := by
  cases o with
  | dat d' => cases e; exact .inr h
  | slot i =>
    have h' : σ[i]? = some (some v) := h
    unfold fetch at e
    simp only at e
    have own : ∀ xs, OwOk K Fr H Hs (σ[i]?) (.lst xs) → Ro K H Hs v (.list xs) := fun xs k => by
      obtain ⟨p, ho, e1, e2, e3, _⟩ := k
      rw [h'] at e1
      cases e1
      obtain ⟨vs, rfl, r⟩ := e3.lst
      exact .inl ⟨p, vs, xs, rfl, rfl, .inl (.inl e2), r⟩
    split at e
    · rename_i d' hd
      cases e
      obtain ⟨w, e1, e2⟩ := s.ent i _ (getD_some hd (by simp))
      rw [h'] at e1
      cases e1
      exact .inr e2
    · rename_i xs hd
      cases e
      exact own xs (s.ent i _ (getD_some hd (by simp)))
    · rename_i xs hd
      cases e
      exact own xs (s.ent i _ (getD_some hd (by simp)))
    · cases e
theorem OpdOk.mono {K : PySem.W.Frag} {Hs Hs' : Hp} {σ : L2.St} {v : V} {o : Opd} (e : Ex Hs Hs') (h : OpdOk K Hs σ v o) : OpdOk K Hs' σ v o := by
  cases o with
  | dat d => exact Rp.mono e h
  | slot i => exact h
/-- a bool as a test -/
theorem SE.t (h : SE C X e x) (he : ∀ whole, isTrue x X.env whole = (do let v ← whole; standAt x.pos; holding [v] (truthy v))) (hb : isBo2 x = false) : ST C X e x := fun Fr Hs0 bs σ ρ H Hs b ρ' Q s hev q =>
  tb_t (pt_val (pe_tb (X := X) (e := x)) he) hb (h.d Fr Hs0 bs σ ρ H Hs (.bool b) ρ' _ s (toB_inv hev) fun v H' Hs' s' ex r => by
    cases r
    exact ⟨b, rfl, q H' Hs' s' ex⟩)
end
end MP
end

section
set_option Elab.async false
set_option linter.all false
set_option maxRecDepth 100000
set_option maxHeartbeats 8000000
namespace MP
open PySem PySem.Spec PyProof.Rows L2

/-! ### any rule that fits -/
section
variable {X : Cx}
def rAny (X : Cx) (f : Value → Value → Sem Value) : R2 := fun x y H Q => ∃ r, OpR X f r ∧ r x y H Q
theorem opr_any {f : Value → Value → Sem Value} : OpR X f (rAny X f) := fun pins s σ H x y v u Q I rx ry ⟨r, h, q⟩ => h pins s σ H x y v u Q I rx ry q
def cAny (X : Cx) (f : Value) : List V → Hp → VK → Prop := fun xs H Q => ∃ r, CallR X f r ∧ r xs H Q
theorem callr_any {f : Value} : CallR X f (cAny X f) := fun pins s σ H xs us Q I rv ⟨r, h, q⟩ => h pins s σ H xs us Q I rv q
theorem st_cons {e : Expr} {es : List Expr} {env : PySem.Env} (h : notStar e = true) : starEach (e :: es) env = (false, eval e env) :: starEach es env := by
  cases e <;> first | rfl | cases h
theorem st_any {pos : Pos} {env : PySem.Env} : ∀ {es : List Expr}, es.all notStar = true → (backTo pos (starEach es env)).any (·.1) = false
  | [], _ => rfl
  | e :: es, h => by
    rw [List.all_cons, Bool.and_eq_true] at h
    rw [st_cons h.1]
    exact st_any h.2
theorem st_all {pos : Pos} {env : PySem.Env} : ∀ {es : List Expr}, es.all notStar = true → (backTo pos (starEach es env)).all (fun x => !x.1) = true
  | [], _ => rfl
  | e :: es, h => by
    rw [List.all_cons, Bool.and_eq_true] at h
    rw [st_cons h.1]
    exact st_all h.2
theorem ne_set {op : CmpOp} {e : Expr} (h : notSet e = true) : behindInMarks op e = false := by
  cases e <;> first | rfl | cases h
theorem vis_of {sc : Scope} {x : Str} (h : visB sc x = true) : Vis sc x := by
  unfold visB at h
  split at h
  · exact .inl (by assumption)
  · exact .inr (.inl (by assumption))
  · exact .inr (.inr (by assumption))
  · cases h
theorem gl_of {x : Str} (h : glB X.env.scope x = true) : Gl X x := by
  unfold glB at h
  split at h
  · assumption
  · cases h
theorem nm_of {x : Str} (h : nmOk x = true) : (x == ("__debug__" : Str)) = false ∧ (x == ("__classdict__" : Str)) = false ∧ x ≠ "__name__" := by
  unfold nmOk at h
  simp only [Bool.and_eq_true, Bool.not_eq_true', decide_eq_false_iff_not] at h
  exact ⟨h.1.1, h.1.2, h.2⟩
theorem loc_of {fn : Str → Bool} {x : Str} {sc : Scope} (h : locB sc fn x = true) : Loc sc x ∧ (fn x = true ∨ sc.names.lookup x = some .local) := by
  unfold locB at h
  split at h
  · rename_i k
    exact ⟨.inl k, .inr k⟩
  · rename_i k
    exact ⟨.inr k, .inl h⟩
  · cases h
/-- what a for walks: a list or a tuple -/
theorem pi_seq {tg l : Expr} {tl : TE} (hl : PE X l tl) : PI X tg l (fun σ H R => tl σ H fun x H1 => (∃ a, x = .ref a ∧ (∃ xs, SqL X.K H1 a xs) ∧ R (Itl X.K a) H1) ∨ ∃ a, x = .ref a ∧ (∃ xs, SqT X.K H1 a xs) ∧ R (Itt X.K a) H1) := by
  refine ⟨fun pins s σ H R I h => thn (hl.run pins s σ H _ I h) fun v s1 ⟨x, H1, I1, r1, q1⟩ => ?_⟩
  have one : ∀ b, b ∈ [s1.heap.objs.size] → FpOk X pins H1 b := fun b hb => by
    have z : b = s1.heap.objs.size := by simpa using hb
    subst z
    exact I1.fpOk (Nat.le_refl _) (I1.hok.fresh (Nat.le_refl _))
  rcases q1 with ⟨a, rfl, ⟨xs, hq⟩, q⟩ | ⟨a, rfl, ⟨xs, hq⟩, q⟩
  · cases r1
    obtain ⟨its, rv, p, hz⟩ := I1.list hq
    exact wpAny_pyIter_list p.isList ⟨_, [s1.heap.objs.size], _, _, H1, rfl, I1.kept (t' := s1.toks) (fun b o z => Heap.get?_push_of_some _ z), turn_list a _, ⟨_, Heap.get?_push_size _ rfl, rfl, rfl⟩, one, q⟩
  · cases r1
    obtain ⟨its, rv, p, hz⟩ := I1.tuple hq
    exact wpAny_pyIter_tuple (show s1.heap.IsTuple a its.toArray from p) ⟨_, [s1.heap.objs.size], _, _, H1, rfl, I1.kept (t' := s1.toks) (fun b o z => Heap.get?_push_of_some _ z), turn_tuple a _, ⟨_, Heap.get?_push_size _ rfl, rfl, rfl⟩, one, q⟩
end

/-! ### names -/
theorem Sta.frzSlot {K : PySem.W.Frag} {Fr Hs0 : Hp} {bs : List (Nat × Addr)} {σ : L2.St} {ρ : MP.Env} {H Hs : Hp} {i : Nat} {xs : List D} (s : Sta K Fr Hs0 bs σ ρ H Hs) (h : ρ[i]? = some (.ow (.lst xs))) :
    ∃ v Hs', σ[i]? = some (some v) ∧ Sta K Fr Hs0 bs σ (ρ.set i (.sh (.list xs))) H Hs' ∧ Ex Hs Hs' ∧ Rp K Hs' v (.list xs) := by
  obtain ⟨p, ho, e1, e2, e3, e4, e5⟩ := s.ent i _ h
  obtain ⟨vs, rfl, r⟩ := e3.lst
  have nb : ∀ b ∈ bs, b.1 ≠ i := fun b hb z => by
    obtain ⟨_, o, k⟩ := s.bo b hb
    rw [z, h] at k; cases k
  have li : i < ρ.length := (List.getElem?_eq_some_iff.mp h).1
  have s1 : Sta K Fr Hs0 bs σ (ρ.set i .un) H Hs := s.weak nb rfl trivial
  have n1 : Not1 σ (ρ.set i .un) p := fun j e he ho z => by
    by_cases k : i = j
    · subst k
      rw [List.getElem?_set_self li] at he; cases he; cases ho
    · rw [List.getElem?_set_ne k] at he
      exact s.dj i j _ e p k h he rfl ho e1 z
  have s2 := s1.frz e2 e4 e5 n1
  have rr : Rp K (upd Hs p (.lst vs)) (.ref p) (.list xs) := .lst (.inl (.inl upd_same)) (r.mono (Ex.new e4))
  refine ⟨.ref p, _, e1, ?_, Ex.new e4, rr⟩
  have s3 := s2.weak (i := i) (e := .sh (.list xs)) nb rfl ⟨.ref p, e1, rr⟩
  rw [List.set_set] at s3
  exact s3
section
variable {C : Cfg} {X : Cx}
theorem s_var {i : Nat} {x : Str} {p : Pos} (h1 : X.N[i]? = some x) (h2 : visB X.env.scope x = true) (h3 : nmOk x = true) : SE C X (.var i) (.Name x p) := by
  intro Fr Hs0 bs σ ρ H Hs val ρ' Q s he q
  obtain ⟨d1, d2, _⟩ := nm_of h3
  refine tb_e (pe_var h1 (vis_of h2) d1 d2) ?_
  simp only [ev, Option.bind_eq_some_iff] at he
  obtain ⟨⟨d, ρ1⟩, he, h⟩ := he
  cases h
  unfold evVar at he
  split at he
  · rename_i d' hd
    cases he
    obtain ⟨v, e1, e2⟩ := s.ent i _ (getD_some hd (by simp))
    exact ⟨v, e1, q v H Hs s (Ex.refl _) e2⟩
  · rename_i xs hd
    cases he
    obtain ⟨v, Hs', e1, s', ex, r⟩ := s.frzSlot (getD_some hd (by simp))
    exact ⟨v, e1, q v H Hs' s' ex r⟩
  · cases he
theorem o_var {i : Nat} {x : Str} {p : Pos} (h1 : X.N[i]? = some x) (h2 : visB X.env.scope x = true) (h3 : nmOk x = true) : SO C X (.var i) (.Name x p) := by
  intro Fr Hs0 bs σ ρ H Hs o ρ' Q s he q
  obtain ⟨d1, d2, _⟩ := nm_of h3
  refine tb_e (pe_var h1 (vis_of h2) d1 d2) ?_
  obtain ⟨rfl, en, e1, e2, e3⟩ := peek_inv (show peek i ρ = some (o, ρ') from he)
  rcases e3 with ⟨d, rfl, rfl⟩ | ⟨e3, rfl⟩
  · obtain ⟨v, f1, f2⟩ := s.ent i _ e1
    exact ⟨v, f1, q v H Hs s (Ex.refl _) f2⟩
  · have k := s.ent i _ e1
    have k' : ∃ w, OwOk X.K Fr H Hs (σ[i]?) w := by
      cases en with
      | un => cases e3
      | sh d => cases e3
      | ow w => exact ⟨w, k⟩
      | bo w => exact ⟨w, k⟩
    obtain ⟨w, p', u, f1, _⟩ := k'
    exact ⟨_, f1, q _ H Hs s (Ex.refl _) f1⟩

/-! ### operators -/
theorem s_op {o : O2} {p : Operator} {a b : E} {x y : Expr} {pos : Pos} (hp : opB o p = true) (ha : SO C X a x) (hb : SO C X b y) : SE C X (.op o a b) (.BinOp x p y pos) := by
  intro Fr Hs0 bs σ ρ H Hs val ρ' Q s he q
  have ep : p = opO o := by cases o <;> cases p <;> first | rfl | cases hp
  subst ep
  refine tb_e (pe_op opr_any pe_tb pe_tb) ?_
  simp only [ev, Option.bind_eq_some_iff] at he
  obtain ⟨⟨o1, ρ1⟩, h1, ⟨o2, ρ2⟩, h2, d1, h3, d2, h4, v, h5, h6⟩ := he
  cases h6
  refine ha _ _ _ _ _ _ _ _ _ _ s h1 fun v1 H1 Hs1 s1 e1 r1 => hb _ _ _ _ _ _ _ _ _ _ s1 h2 fun v2 H2 Hs2 s2 e2 r2 => ?_
  exact op2_ok s2 (fetch_ok s2 (r1.mono e2) h3) (fetch_ok s2 r2 h4) h5 fun v H' Hs' s' e' vo => q v H' Hs' s' ((e1.trans e2).trans e') vo
theorem s_neg {a : E} {x : Expr} {pos : Pos} (ha : SE C X a x) : SE C X (.neg a) (.UnaryOp .USub x pos) := by
  intro Fr Hs0 bs σ ρ H Hs val ρ' Q s he q
  refine tb_e (pe_un un_neg pe_tb) ?_
  simp only [ev, Option.bind_eq_some_iff] at he
  obtain ⟨⟨d, ρ1⟩, h1, i, h2, h3⟩ := he
  cases h3
  refine ha.d _ _ _ _ _ _ _ _ _ _ s h1 fun v1 H1 Hs1 s1 e1 r1 => ?_
  cases d <;> simp only [asI, reduceCtorEq, Option.some.injEq] at h2
  subst h2
  cases r1
  exact ⟨_, rfl, q _ H1 Hs1 s1 e1 (.int _)⟩
theorem cmp_core {o : C2} {a b : E} {x y : Expr} {Fr Hs0 : Hp} {bs : List (Nat × Addr)} {σ : L2.St} {ρ ρ' : MP.Env} {H Hs : Hp} {c : Bool} {Q : VK} (hu : X.A.units + 65 < cLine) (ha : SO C X a x) (hb : SO C X b y) (s : Sta X.K Fr Hs0 bs σ ρ H Hs)
    (he : ev C (.cmp o a b) ρ = some (.sh (.bool c), ρ')) (q : ∀ H' Hs', Sta X.K Fr Hs0 bs σ ρ' H' Hs' → Ex Hs Hs' → Q (.bl c) H') : tOp (rAny X (compareOp (cmO o))) (tbE X x) (tbE X y) σ H Q := by
  simp only [ev, Option.bind_eq_some_iff] at he
  obtain ⟨⟨o1, ρ1⟩, h1, ⟨o2, ρ2⟩, h2, d1, h3, d2, h4, k, h5, h6⟩ := he
  cases h6
  refine ha _ _ _ _ _ _ _ _ _ _ s h1 fun v1 H1 Hs1 s1 e1 r1 => hb _ _ _ _ _ _ _ _ _ _ s1 h2 fun v2 H2 Hs2 s2 e2 r2 => ?_
  exact cmp_ok hu s2 (fetch_ok s2 (r1.mono e2) h3) (fetch_ok s2 r2 h4) h5 (q H2 Hs2 s2 (e1.trans e2))
theorem cmp_val {o : C2} {a b : E} {ρ ρ' : MP.Env} {val : Val} (he : ev C (.cmp o a b) ρ = some (val, ρ')) : ∃ c, val = .sh (.bool c) := by
  simp only [ev, Option.bind_eq_some_iff] at he
  obtain ⟨⟨o1, ρ1⟩, h1, ⟨o2, ρ2⟩, h2, d1, h3, d2, h4, k, h5, h6⟩ := he
  cases h6
  exact ⟨k, rfl⟩
theorem cm_eq {o : C2} {p : CmpOp} (hp : cmB o p = true) : p = cmO o := by cases o <;> cases p <;> first | rfl | cases hp
theorem s_cmp {o : C2} {p : CmpOp} {a b : E} {x y : Expr} {pos : Pos} (hu : X.A.units + 65 < cLine) (hp : cmB o p = true) (hs : notSet y = true) (ha : SO C X a x) (hb : SO C X b y) : SE C X (.cmp o a b) (.Compare x [p] [y] pos) := by
  intro Fr Hs0 bs σ ρ H Hs val ρ' Q s he q
  have ep := cm_eq hp
  subst ep
  obtain ⟨c, rfl⟩ := cmp_val he
  exact tb_e (pe_cmpR opr_any pe_tb pe_tb (ne_set hs)) (cmp_core hu ha hb s he fun H' Hs' s' e' => q _ H' Hs' s' e' (.bl c))
theorem t_cmp {o : C2} {p : CmpOp} {a b : E} {x y : Expr} {pos : Pos} (hu : X.A.units + 65 < cLine) (hp : cmB o p = true) (hs : notSet y = true) (ha : SO C X a x) (hb : SO C X b y) : ST C X (.cmp o a b) (.Compare x [p] [y] pos) := by
  intro Fr Hs0 bs σ ρ H Hs c ρ' Q s he q
  have ep := cm_eq hp
  subst ep
  obtain ⟨val, h1, h2⟩ := toD_inv (toB_inv he)
  obtain ⟨c', rfl⟩ := cmp_val h1
  cases h2
  exact tb_t (pt_cmpR opr_any pe_tb pe_tb (ne_set hs)) rfl (cmp_core hu ha hb s h1 fun H' Hs' s' e' => ⟨c, rfl, q H' Hs' s' e'⟩)
theorem chain_core {o o' : C2} {a b c : E} {x y z : Expr} {Fr Hs0 : Hp} {bs : List (Nat × Addr)} {σ : L2.St} {ρ ρ' : MP.Env} {H Hs : Hp} {k : Bool} {Q : VK} (hu : X.A.units + 65 < cLine) (ha : SE C X a x) (hb : SE C X b y) (hc : SE C X c z) (s : Sta X.K Fr Hs0 bs σ ρ H Hs)
    (he : ev C (.cmp2 o o' a b c) ρ = some (.sh (.bool k), ρ')) (q : ∀ H' Hs', Sta X.K Fr Hs0 bs σ ρ' H' Hs' → Ex Hs Hs' → Q (.bl k) H') : tChain (rAny X (compareOp (cmO o))) (rAny X (compareOp (cmO o'))) (tbE X x) (tbE X y) (tbE X z) σ H Q := by
  simp only [ev, Option.bind_eq_some_iff] at he
  obtain ⟨⟨d1, ρ1⟩, h1, ⟨d2, ρ2⟩, h2, k1, h3, h4⟩ := he
  refine ha.d _ _ _ _ _ _ _ _ _ _ s h1 fun v1 H1 Hs1 s1 e1 r1 => hb.d _ _ _ _ _ _ _ _ _ _ s1 h2 fun v2 H2 Hs2 s2 e2 r2 => ?_
  refine cmp_ok hu s2 (.inr (r1.mono e2)) (.inr r2) h3 ⟨k1, rfl, ?_⟩
  cases k1 with
  | false =>
    rw [if_neg Bool.false_ne_true]
    simp only [Bool.false_eq_true, if_false] at h4
    cases h4
    exact q H2 Hs2 s2 (e1.trans e2)
  | true =>
    rw [if_pos rfl]
    simp only [if_true, Option.bind_eq_some_iff] at h4
    obtain ⟨⟨d3, ρ3⟩, h5, k2, h6, h7⟩ := h4
    cases h7
    refine hc.d _ _ _ _ _ _ _ _ _ _ s2 h5 fun v3 H3 Hs3 s3 e3 r3 => ?_
    exact cmp_ok hu s3 (.inr (r2.mono e3)) (.inr r3) h6 (q H3 Hs3 s3 ((e1.trans e2).trans e3))
theorem chain_val {o o' : C2} {a b c : E} {ρ ρ' : MP.Env} {val : Val} (he : ev C (.cmp2 o o' a b c) ρ = some (val, ρ')) : ∃ k, val = .sh (.bool k) := by
  simp only [ev, Option.bind_eq_some_iff] at he
  obtain ⟨⟨d1, ρ1⟩, h1, ⟨d2, ρ2⟩, h2, k1, h3, h4⟩ := he
  cases k1 with
  | false => simp only [Bool.false_eq_true, if_false] at h4; cases h4; exact ⟨_, rfl⟩
  | true =>
    simp only [if_true, Option.bind_eq_some_iff] at h4
    obtain ⟨⟨d3, ρ3⟩, h5, k2, h6, h7⟩ := h4
    cases h7; exact ⟨_, rfl⟩
theorem last_of {p p' : CmpOp} {y z : Expr} (h : notSet z = true) : lastMarks [p, p'] [y, z] = false := ne_set h
theorem s_chain {o o' : C2} {p p' : CmpOp} {a b c : E} {x y z : Expr} {pos : Pos} (hu : X.A.units + 65 < cLine) (hp : cmB o p = true) (hp' : cmB o' p' = true) (hs : notSet z = true) (ha : SE C X a x) (hb : SE C X b y) (hc : SE C X c z) :
    SE C X (.cmp2 o o' a b c) (.Compare x [p, p'] [y, z] pos) := by
  intro Fr Hs0 bs σ ρ H Hs val ρ' Q s he q
  have ep := cm_eq hp
  have ep' := cm_eq hp'
  subst ep ep'
  obtain ⟨k, rfl⟩ := chain_val he
  exact tb_e (pe_chain opr_any opr_any pe_tb pe_tb pe_tb (last_of hs)) (chain_core hu ha hb hc s he fun H' Hs' s' e' => q _ H' Hs' s' e' (.bl k))
theorem t_chain {o o' : C2} {p p' : CmpOp} {a b c : E} {x y z : Expr} {pos : Pos} (hu : X.A.units + 65 < cLine) (hp : cmB o p = true) (hp' : cmB o' p' = true) (hs : notSet z = true) (ha : SE C X a x) (hb : SE C X b y) (hc : SE C X c z) :
    ST C X (.cmp2 o o' a b c) (.Compare x [p, p'] [y, z] pos) := by
  intro Fr Hs0 bs σ ρ H Hs k ρ' Q s he q
  have ep := cm_eq hp
  have ep' := cm_eq hp'
  subst ep ep'
  obtain ⟨val, h1, h2⟩ := toD_inv (toB_inv he)
  obtain ⟨k', rfl⟩ := chain_val h1
  cases h2
  exact tb_t (pt_chain opr_any opr_any pe_tb pe_tb pe_tb (last_of hs)) rfl (chain_core hu ha hb hc s h1 fun H' Hs' s' e' => ⟨k, rfl, q H' Hs' s' e'⟩)
theorem s_isN {a : E} {x : Expr} {j : Nat} {p pos : Pos} (ha : SO C X a x) : SE C X (.isN a) (.Compare x [.Is] [.Constant .none j p] pos) := by
  intro Fr Hs0 bs σ ρ H Hs val ρ' Q s he q
  simp only [ev, Option.bind_eq_some_iff] at he
  obtain ⟨⟨o1, ρ1⟩, h1, d, h2, h3⟩ := he
  cases h3
  refine tb_e (pe_cmpR op_isN pe_tb pe_non (ne_set rfl)) (ha _ _ _ _ _ _ _ _ _ _ s h1 fun v1 H1 Hs1 s1 e1 r1 => ⟨rfl, ?_⟩)
  rw [none_iff ((fetch_ok s1 r1 h2).rp s1.sh)]
  exact q _ _ _ s1 e1 (.bl _)
theorem t_isN {a : E} {x : Expr} {j : Nat} {p pos : Pos} (ha : SO C X a x) : ST C X (.isN a) (.Compare x [.Is] [.Constant .none j p] pos) := by
  intro Fr Hs0 bs σ ρ H Hs b ρ' Q s he q
  obtain ⟨val, h1, h2⟩ := toD_inv (toB_inv he)
  simp only [ev, Option.bind_eq_some_iff] at h1
  obtain ⟨⟨o1, ρ1⟩, h1, d, h3, h4⟩ := h1
  cases h4
  cases h2
  refine tb_t (pt_cmpR op_isN pe_tb pe_non (ne_set rfl)) rfl (ha _ _ _ _ _ _ _ _ _ _ s h1 fun v1 H1 Hs1 s1 e1 r1 => ⟨rfl, ?_⟩)
  rw [none_iff ((fetch_ok s1 r1 h3).rp s1.sh)]
  exact ⟨_, rfl, q _ _ s1 e1⟩
theorem s_notN {a : E} {x : Expr} {j : Nat} {p pos : Pos} (ha : SO C X a x) : SE C X (.notN a) (.Compare x [.IsNot] [.Constant .none j p] pos) := by
  intro Fr Hs0 bs σ ρ H Hs val ρ' Q s he q
  simp only [ev, Option.bind_eq_some_iff] at he
  obtain ⟨⟨o1, ρ1⟩, h1, d, h2, h3⟩ := he
  cases h3
  refine tb_e (pe_cmpR op_notN pe_tb pe_non (ne_set rfl)) (ha _ _ _ _ _ _ _ _ _ _ s h1 fun v1 H1 Hs1 s1 e1 r1 => ⟨rfl, ?_⟩)
  rw [none_iff ((fetch_ok s1 r1 h2).rp s1.sh)]
  exact q _ _ _ s1 e1 (.bl _)
theorem t_notN {a : E} {x : Expr} {j : Nat} {p pos : Pos} (ha : SO C X a x) : ST C X (.notN a) (.Compare x [.IsNot] [.Constant .none j p] pos) := by
  intro Fr Hs0 bs σ ρ H Hs b ρ' Q s he q
  obtain ⟨val, h1, h2⟩ := toD_inv (toB_inv he)
  simp only [ev, Option.bind_eq_some_iff] at h1
  obtain ⟨⟨o1, ρ1⟩, h1, d, h3, h4⟩ := h1
  cases h4
  cases h2
  refine tb_t (pt_cmpR op_notN pe_tb pe_non (ne_set rfl)) rfl (ha _ _ _ _ _ _ _ _ _ _ s h1 fun v1 H1 Hs1 s1 e1 r1 => ⟨rfl, ?_⟩)
  rw [none_iff ((fetch_ok s1 r1 h3).rp s1.sh)]
  exact ⟨_, rfl, q _ _ s1 e1⟩

/-! ### not, and, or, if -/
theorem s_not {a : E} {x : Expr} {pos : Pos} (ha : SE C X a x) : SE C X (.not a) (.UnaryOp .Not x pos) := by
  intro Fr Hs0 bs σ ρ H Hs val ρ' Q s he q
  simp only [ev, Option.bind_eq_some_iff] at he
  obtain ⟨⟨b, ρ1⟩, h1, h2⟩ := he
  cases h2
  refine tb_e (pe_not pe_tb) (ha.d _ _ _ _ _ _ _ _ _ _ s (toB_inv h1) fun v1 H1 Hs1 s1 e1 r1 => ?_)
  cases r1
  exact ⟨b, rfl, q _ _ _ s1 e1 (.bl _)⟩
theorem t_not {a : E} {x : Expr} {pos : Pos} (ha : ST C X a x) : ST C X (.not a) (.UnaryOp .Not x pos) := by
  intro Fr Hs0 bs σ ρ H Hs b ρ' Q s he q
  obtain ⟨val, h1, h2⟩ := toD_inv (toB_inv he)
  simp only [ev, Option.bind_eq_some_iff] at h1
  obtain ⟨⟨c, ρ1⟩, h1, h3⟩ := h1
  cases h3
  cases h2
  exact tb_t (pt_not pt_tb) rfl (ha _ _ _ _ _ _ _ _ _ _ s h1 fun H1 Hs1 s1 e1 => q _ _ s1 e1)
theorem toD_sh {d : D} {ρ : MP.Env} : toD (some (.sh d, ρ)) = some (d, ρ) := rfl
theorem and_inv {a b : E} {ρ ρ' : MP.Env} {val : Val} (he : ev C (.and a b) ρ = some (val, ρ')) : ∃ c ρ1, toB (ev C a ρ) = some (c, ρ1) ∧ ((c = false ∧ val = .sh (.bool false) ∧ ρ' = ρ1) ∨ (c = true ∧ ∃ d, val = .sh d ∧ toD (ev C b ρ1) = some (d, ρ'))) := by
  simp only [ev, Option.bind_eq_some_iff] at he
  obtain ⟨⟨c, ρ1⟩, h1, h2⟩ := he
  refine ⟨c, ρ1, h1, ?_⟩
  cases c with
  | false => simp only [Bool.false_eq_true, if_false] at h2; cases h2; exact .inl ⟨rfl, rfl, rfl⟩
  | true =>
    simp only [if_true, Option.bind_eq_some_iff] at h2
    obtain ⟨⟨d, ρ2⟩, h3, h4⟩ := h2
    cases h4
    exact .inr ⟨rfl, d, rfl, h3⟩
theorem or_inv {a b : E} {ρ ρ' : MP.Env} {val : Val} (he : ev C (.or a b) ρ = some (val, ρ')) : ∃ c ρ1, toB (ev C a ρ) = some (c, ρ1) ∧ ((c = true ∧ val = .sh (.bool true) ∧ ρ' = ρ1) ∨ (c = false ∧ ∃ d, val = .sh d ∧ toD (ev C b ρ1) = some (d, ρ'))) := by
  simp only [ev, Option.bind_eq_some_iff] at he
  obtain ⟨⟨c, ρ1⟩, h1, h2⟩ := he
  refine ⟨c, ρ1, h1, ?_⟩
  cases c with
  | true => simp only [if_true] at h2; cases h2; exact .inl ⟨rfl, rfl, rfl⟩
  | false =>
    simp only [Bool.false_eq_true, if_false, Option.bind_eq_some_iff] at h2
    obtain ⟨⟨d, ρ2⟩, h3, h4⟩ := h2
    cases h4
    exact .inr ⟨rfl, d, rfl, h3⟩
theorem s_and {a b : E} {x y : Expr} {r : List Expr} {pos : Pos} (ha : SE C X a x) (hb : SE C X b (.BoolOp .And (y :: r) pos)) : SE C X (.and a b) (.BoolOp .And (x :: y :: r) pos) := by
  intro Fr Hs0 bs σ ρ H Hs val ρ' Q s he q
  obtain ⟨c, ρ1, h1, h2⟩ := and_inv he
  refine tb_e (pe_and pe_tb pe_tb) (ha.d _ _ _ _ _ _ _ _ _ _ s (toB_inv h1) fun v1 H1 Hs1 s1 e1 r1 => ?_)
  cases r1
  refine ⟨c, rfl, ?_⟩
  rcases h2 with ⟨rfl, rfl, rfl⟩ | ⟨rfl, d, rfl, h3⟩
  · rw [if_neg Bool.false_ne_true]
    exact q _ _ _ s1 e1 (.bl _)
  · rw [if_pos rfl]
    exact hb.d _ _ _ _ _ _ _ _ _ _ s1 h3 fun v2 H2 Hs2 s2 e2 r2 => q _ _ _ s2 (e1.trans e2) r2
theorem s_or {a b : E} {x y : Expr} {r : List Expr} {pos : Pos} (ha : SE C X a x) (hb : SE C X b (.BoolOp .Or (y :: r) pos)) : SE C X (.or a b) (.BoolOp .Or (x :: y :: r) pos) := by
  intro Fr Hs0 bs σ ρ H Hs val ρ' Q s he q
  obtain ⟨c, ρ1, h1, h2⟩ := or_inv he
  refine tb_e (pe_or pe_tb pe_tb) (ha.d _ _ _ _ _ _ _ _ _ _ s (toB_inv h1) fun v1 H1 Hs1 s1 e1 r1 => ?_)
  cases r1
  refine ⟨c, rfl, ?_⟩
  rcases h2 with ⟨rfl, rfl, rfl⟩ | ⟨rfl, d, rfl, h3⟩
  · rw [if_pos rfl]
    exact q _ _ _ s1 e1 (.bl _)
  · rw [if_neg Bool.false_ne_true]
    exact hb.d _ _ _ _ _ _ _ _ _ _ s1 h3 fun v2 H2 Hs2 s2 e2 r2 => q _ _ _ s2 (e1.trans e2) r2
theorem s_one {op : BoolOp} {b : E} {y : Expr} {pos : Pos} (hb : SE C X b y) : SE C X b (.BoolOp op [y] pos) := by
  intro Fr Hs0 bs σ ρ H Hs val ρ' Q s he q
  exact tb_e (pe_one pe_tb) (hb _ _ _ _ _ _ _ _ _ _ s he q)
theorem t_one_and {b : E} {y : Expr} {pos : Pos} (hb : ST C X b y) : ST C X b (.BoolOp .And [y] pos) := by
  intro Fr Hs0 bs σ ρ H Hs val ρ' Q s he q
  exact tb_w (pw_and1 pt_tb) (hb _ _ _ _ _ _ _ _ _ _ s he q)
theorem t_one_or {b : E} {y : Expr} {pos : Pos} (hb : ST C X b y) : ST C X b (.BoolOp .Or [y] pos) := by
  intro Fr Hs0 bs σ ρ H Hs val ρ' Q s he q
  exact tb_w (pw_or1 pt_tb) (hb _ _ _ _ _ _ _ _ _ _ s he q)
theorem toB_of {r : Option (Val × MP.Env)} {b : Bool} {ρ : MP.Env} (h : toD r = some (.bool b, ρ)) : toB r = some (b, ρ) := by
  unfold toB; rw [h]; rfl
theorem t_and {a b : E} {x y : Expr} {r : List Expr} {pos : Pos} (ha : ST C X a x) (hb : ST C X b (.BoolOp .And (y :: r) pos)) : ST C X (.and a b) (.BoolOp .And (x :: y :: r) pos) := by
  intro Fr Hs0 bs σ ρ H Hs k ρ' Q s he q
  obtain ⟨val, h1, h2⟩ := toD_inv (toB_inv he)
  obtain ⟨c, ρ1, h1, h3⟩ := and_inv h1
  refine tb_w (pw_and pt_tb (pw_tb rfl)) (ha _ _ _ _ _ _ _ _ _ _ s h1 fun H1 Hs1 s1 e1 => ?_)
  rcases h3 with ⟨rfl, rfl, rfl⟩ | ⟨rfl, d, rfl, h4⟩
  · cases h2
    rw [if_neg Bool.false_ne_true]
    exact q _ _ s1 e1
  · cases h2
    rw [if_pos rfl]
    exact hb _ _ _ _ _ _ _ _ _ _ s1 (toB_of h4) fun H2 Hs2 s2 e2 => q _ _ s2 (e1.trans e2)
theorem t_or {a b : E} {x y : Expr} {r : List Expr} {pos : Pos} (ha : ST C X a x) (hb : ST C X b (.BoolOp .Or (y :: r) pos)) : ST C X (.or a b) (.BoolOp .Or (x :: y :: r) pos) := by
  intro Fr Hs0 bs σ ρ H Hs k ρ' Q s he q
  obtain ⟨val, h1, h2⟩ := toD_inv (toB_inv he)
  obtain ⟨c, ρ1, h1, h3⟩ := or_inv h1
  refine tb_w (pw_or pt_tb (pw_tb rfl)) (ha _ _ _ _ _ _ _ _ _ _ s h1 fun H1 Hs1 s1 e1 => ?_)
  rcases h3 with ⟨rfl, rfl, rfl⟩ | ⟨rfl, d, rfl, h4⟩
  · cases h2
    rw [if_pos rfl]
    exact q _ _ s1 e1
  · cases h2
    rw [if_neg Bool.false_ne_true]
    exact hb _ _ _ _ _ _ _ _ _ _ s1 (toB_of h4) fun H2 Hs2 s2 e2 => q _ _ s2 (e1.trans e2)
theorem s_ite {c a b : E} {x y z : Expr} {pos : Pos} (hc : ST C X c x) (ha : SE C X a y) (hb : SE C X b z) : SE C X (.ite c a b) (.IfExp x y z pos) := by
  intro Fr Hs0 bs σ ρ H Hs val ρ' Q s he q
  simp only [ev, Option.bind_eq_some_iff] at he
  obtain ⟨⟨k, ρ1⟩, h1, h2⟩ := he
  refine tb_e (pe_ifExp pt_tb pe_tb pe_tb) (hc _ _ _ _ _ _ _ _ _ _ s h1 fun H1 Hs1 s1 e1 => ?_)
  cases k with
  | true =>
    rw [if_pos rfl]
    exact ha _ _ _ _ _ _ _ _ _ _ s1 h2 fun v2 H2 Hs2 s2 e2 r2 => q _ _ _ s2 (e1.trans e2) r2
  | false =>
    rw [if_neg Bool.false_ne_true]
    exact hb _ _ _ _ _ _ _ _ _ _ s1 h2 fun v2 H2 Hs2 s2 e2 r2 => q _ _ _ s2 (e1.trans e2) r2
end
end MP
end

section
set_option Elab.async false
set_option linter.all false
set_option maxRecDepth 100000
set_option maxHeartbeats 8000000
namespace MP
open PySem PySem.Spec PyProof.Rows L2

def SEs (C : Cfg) (X : Cx) (es : Es) (xs : List Expr) : Prop :=
  ∀ Fr Hs0 bs σ ρ H Hs ds ρ' (Q : List V → Hp → Prop), Sta X.K Fr Hs0 bs σ ρ H Hs → evs C es ρ = some (ds, ρ') → (∀ vs H' Hs', Sta X.K Fr Hs0 bs σ ρ' H' Hs' → Ex Hs Hs' → RpAll X.K Hs' vs ds → Q vs H') → tbA X xs σ H Q
inductive Opds (K : PySem.W.Frag) (Hs : Hp) (σ : L2.St) : List V → List Opd → Prop
  | nil : Opds K Hs σ [] []
  | cons {v : V} {o : Opd} {vs : List V} {os : List Opd} : OpdOk K Hs σ v o → Opds K Hs σ vs os → Opds K Hs σ (v :: vs) (o :: os)
def SOs (C : Cfg) (X : Cx) (es : Es) (xs : List Expr) : Prop :=
  ∀ Fr Hs0 bs σ ρ H Hs os ρ' (Q : List V → Hp → Prop), Sta X.K Fr Hs0 bs σ ρ H Hs → evOs C es ρ = some (os, ρ') → (∀ vs H' Hs', Sta X.K Fr Hs0 bs σ ρ' H' Hs' → Ex Hs Hs' → Opds X.K Hs' σ vs os → Q vs H') → tbA X xs σ H Q
def SAs (C : Cfg) (X : Cx) (es : Es) (xs : List Expr) : Prop :=
  ∀ ms Fr Hs0 bs σ ρ H Hs as ρ' (Q : List V → Hp → Prop), Sta X.K Fr Hs0 bs σ ρ H Hs → evA C es ms ρ = some (as, ρ') → (∀ vs H' Hs', Sta X.K Fr Hs0 bs σ ρ' H' Hs' → Ex Hs Hs' → AVs X.K Hs' σ vs as → Q vs H') → tbA X xs σ H Q
/-- an iterator that gives xs -/
def ItOk (K : PySem.W.Frag) (Hs : Hp) (J : L2.It) (xs : List D) : Prop :=
  ∀ (i : Nat) H1 Hs1, Ex Hs Hs1 → Ex Hs1 H1 → (∀ d, xs[i]? = some d → J.go i H1 ∧ ∀ v H2, J.yld i H1 v H2 → ∃ Hs2, Grow H1 Hs1 H2 Hs2 ∧ Rp K Hs2 v d) ∧ (i = xs.length → J.stop i H1)
def SI (C : Cfg) (X : Cx) (it : It) (t x : Expr) : Prop :=
  ∀ Fr Hs0 bs σ ρ H Hs ds ρ' (R : L2.It → Hp → Prop), Sta X.K Fr Hs0 bs σ ρ H Hs → evI C it ρ = some (ds, ρ') → (∀ J H' Hs', Sta X.K Fr Hs0 bs σ ρ' H' Hs' → Ex Hs Hs' → ItOk X.K Hs' J ds → R J H') → tbI X t x σ H R
section
variable {C : Cfg} {X : Cx}
theorem s_nil : SEs C X .nil [] := fun Fr Hs0 bs σ ρ H Hs ds ρ' Q s he q => by
  cases he
  exact tb_a pa_nil (q [] H Hs s (Ex.refl _) .nil)
theorem s_cons {e : E} {es : Es} {x : Expr} {xs : List Expr} (hx : notStar x = true) (h1 : SE C X e x) (h2 : SEs C X es xs) : SEs C X (.cons e es) (x :: xs) := fun Fr Hs0 bs σ ρ H Hs ds ρ' Q s he q => by
  simp only [evs, Option.bind_eq_some_iff] at he
  obtain ⟨⟨d, ρ1⟩, e1, ⟨ds', ρ2⟩, e2, e3⟩ := he
  cases e3
  exact tb_a (pa_cons pe_tb pa_tb (st_cons hx)) (h1.d _ _ _ _ _ _ _ _ _ _ s e1 fun v1 H1 Hs1 s1 x1 r1 => h2 _ _ _ _ _ _ _ _ _ _ s1 e2 fun vs H2 Hs2 s2 x2 r2 => q _ H2 Hs2 s2 (x1.trans x2) (.cons (r1.mono x2) r2))
theorem s_star {e : E} {es : Es} {x : Expr} {p : Pos} {xs : List Expr} (h1 : SE C X e x) (h2 : SEs C X es xs) : SEs C X (.star e es) (.Starred x p :: xs) := fun Fr Hs0 bs σ ρ H Hs ds ρ' Q s he q => by
  simp only [evs, Option.bind_eq_some_iff] at he
  obtain ⟨⟨d, ρ1⟩, e1, ys, e2, ⟨ds', ρ2⟩, e3, e4⟩ := he
  cases e4
  refine tb_a (StX.pa_star pe_tb pa_tb) (h1.d _ _ _ _ _ _ _ _ _ _ s e1 fun v1 H1 Hs1 s1 x1 r1 => ?_)
  obtain ⟨a, vs, rfl, k, ra⟩ := Ro.items (K := X.K) s1.sh (.inr r1) e2
  refine ⟨a, vs, rfl, ?_, h2 _ _ _ _ _ _ _ _ _ _ s1 e3 fun ws H2 Hs2 s2 x2 r2 => q _ H2 Hs2 s2 (x1.trans x2) ((ra.mono x2).append r2)⟩
  rcases k with k | k
  · exact .inr k.2
  · exact .inl k.2
theorem s_tup {es : Es} {xs : List Expr} {k : Nat} {pos : Pos} (h : SEs C X es xs) : SE C X (.tup es) (.Tuple xs k pos) := fun Fr Hs0 bs σ ρ H Hs val ρ' Q s he q => by
  simp only [ev, Option.bind_eq_some_iff] at he
  obtain ⟨⟨ds, ρ1⟩, e1, e2⟩ := he
  split at e2
  · rename_i hl
    cases e2
    refine tb_e (pe_tup pa_tb) (h _ _ _ _ _ _ _ _ _ _ s e1 fun vs H1 Hs1 s1 x1 r1 => ⟨by rw [r1.length]; exact Nat.le_trans hl lim_line, fun p hp => ?_⟩)
    obtain ⟨s2, x2, r2⟩ := s1.newT hp r1
    exact q _ _ _ s2 (x1.trans x2) r2
  · cases e2
theorem s_lst {es : Es} {xs : List Expr} {pos : Pos} (h : SEs C X es xs) : SE C X (.lst es) (.List xs pos) := fun Fr Hs0 bs σ ρ H Hs val ρ' Q s he q => by
  simp only [ev, Option.bind_eq_some_iff] at he
  obtain ⟨⟨ds, ρ1⟩, e1, e2⟩ := he
  split at e2
  · rename_i hl
    cases e2
    refine tb_e (pe_lst pa_tb) (h _ _ _ _ _ _ _ _ _ _ s e1 fun vs H1 Hs1 s1 x1 r1 => ⟨by rw [r1.length]; exact Nat.le_trans hl lim_line, fun p hp => ?_⟩)
    obtain ⟨s2, v2⟩ := s1.newOw (o := .lst ds) (ho := .lst vs) hp r1
    exact q _ _ _ s2 x1 v2
  · cases e2
/-! ### subscripts -/
theorem ix_plain {y : Expr} (h : notSlice y = true) : PlainIx y := by
  intro o i
  cases y <;> first | rfl | cases h
theorem s_ix {a b : E} {x y : Expr} {pos : Pos} (hs : notSlice y = true) (ha : SO C X a x) (hb : SE C X b y) : SE C X (.ix a b) (.Subscript x y pos) := fun Fr Hs0 bs σ ρ H Hs val ρ' Q s he q => by
  simp only [ev, Option.bind_eq_some_iff] at he
  obtain ⟨⟨o1, ρ1⟩, h1, ⟨d2, ρ2⟩, h2, d1, h3, d, h4, h5⟩ := he
  cases h5
  refine tb_e (pe_ix ix_seq pe_tb pe_tb (ix_plain hs)) (ha _ _ _ _ _ _ _ _ _ _ s h1 fun v1 H1 Hs1 s1 x1 r1 => hb.d _ _ _ _ _ _ _ _ _ _ s1 h2 fun v2 H2 Hs2 s2 x2 r2 => ?_)
  exact ix_ok s2 (fetch_ok s2 (r1.mono x2) h3) (.inr r2) h4 fun v r => q _ _ _ s2 (x1.trans x2) r
theorem s_slH {a b : E} {x y : Expr} {p pos : Pos} (ha : SO C X a x) (hb : SE C X b y) : SE C X (.slH a b) (.Subscript x (.Slice none (some y) none p) pos) := fun Fr Hs0 bs σ ρ H Hs val ρ' Q s he q => by
  simp only [ev, Option.bind_eq_some_iff] at he
  obtain ⟨⟨o1, ρ1⟩, h1, ⟨d2, ρ2⟩, h2, d1, h3, j, h4, val', h5, h6⟩ := he
  cases h6
  refine tb_e (pe_slice (SlR.or sl_list sl_tupA) pe_tb po_none (po_some pe_tb)) (ha _ _ _ _ _ _ _ _ _ _ s h1 fun v1 H1 Hs1 s1 x1 r1 => hb.d _ _ _ _ _ _ _ _ _ _ s1 h2 fun v2 H2 Hs2 s2 x2 r2 => ?_)
  cases d2 <;> simp only [asI, reduceCtorEq, Option.some.injEq] at h4
  subst h4
  cases r2
  exact ⟨_, rfl, sl_ok s2 (fetch_ok s2 (r1.mono x2) h3) h5 fun v H' Hs' s' x' vo => q _ _ _ s' ((x1.trans x2).trans x') vo⟩
theorem s_slL {a b : E} {x y : Expr} {p pos : Pos} (ha : SO C X a x) (hb : SE C X b y) : SE C X (.slL a b) (.Subscript x (.Slice (some y) none none p) pos) := fun Fr Hs0 bs σ ρ H Hs val ρ' Q s he q => by
  simp only [ev, Option.bind_eq_some_iff] at he
  obtain ⟨⟨o1, ρ1⟩, h1, ⟨d2, ρ2⟩, h2, d1, h3, j, h4, val', h5, h6⟩ := he
  cases h6
  refine tb_e (pe_slice (SlR.or sl_list sl_tupA) pe_tb (po_some pe_tb) po_none) (ha _ _ _ _ _ _ _ _ _ _ s h1 fun v1 H1 Hs1 s1 x1 r1 => hb.d _ _ _ _ _ _ _ _ _ _ s1 h2 fun v2 H2 Hs2 s2 x2 r2 => ?_)
  cases d2 <;> simp only [asI, reduceCtorEq, Option.some.injEq] at h4
  subst h4
  cases r2
  exact ⟨_, rfl, sl_ok s2 (fetch_ok s2 (r1.mono x2) h3) h5 fun v H' Hs' s' x' vo => q _ _ _ s' ((x1.trans x2).trans x') vo⟩
theorem s_slB {a b c : E} {x y z : Expr} {p pos : Pos} (ha : SO C X a x) (hb : SE C X b y) (hc : SE C X c z) : SE C X (.slB a b c) (.Subscript x (.Slice (some y) (some z) none p) pos) := fun Fr Hs0 bs σ ρ H Hs val ρ' Q s he q => by
  simp only [ev, Option.bind_eq_some_iff] at he
  obtain ⟨⟨o1, ρ1⟩, h1, ⟨d2, ρ2⟩, h2, ⟨d3, ρ3⟩, h2', d1, h3, i, h4, j, h4', val', h5, h6⟩ := he
  cases h6
  refine tb_e (pe_slice (SlR.or sl_list sl_tupA) pe_tb (po_some pe_tb) (po_some pe_tb)) (ha _ _ _ _ _ _ _ _ _ _ s h1 fun v1 H1 Hs1 s1 x1 r1 => hb.d _ _ _ _ _ _ _ _ _ _ s1 h2 fun v2 H2 Hs2 s2 x2 r2 => ?_)
  cases d2 <;> simp only [asI, reduceCtorEq, Option.some.injEq] at h4
  subst h4
  cases r2
  refine ⟨_, rfl, hc.d _ _ _ _ _ _ _ _ _ _ s2 h2' fun v3 H3 Hs3 s3 x3 r3 => ?_⟩
  cases d3 <;> simp only [asI, reduceCtorEq, Option.some.injEq] at h4'
  subst h4'
  cases r3
  exact ⟨_, rfl, sl_ok s3 (fetch_ok s3 ((r1.mono x2).mono x3) h3) h5 fun v H' Hs' s' x' vo => q _ _ _ s' (((x1.trans x2).trans x3).trans x') vo⟩

/-! ### operands, arguments -/
theorem os_nil : SOs C X .nil [] := fun Fr Hs0 bs σ ρ H Hs ds ρ' Q s he q => by
  cases he
  exact tb_a pa_nil (q [] H Hs s (Ex.refl _) .nil)
theorem Opds.mono {K : PySem.W.Frag} {Hs Hs' : Hp} {σ : L2.St} (e : Ex Hs Hs') : ∀ {vs : List V} {os : List Opd}, Opds K Hs σ vs os → Opds K Hs' σ vs os
  | _, _, .nil => .nil
  | _, _, .cons a r => .cons (a.mono e) (r.mono e)
theorem os_cons {e : E} {es : Es} {x : Expr} {xs : List Expr} (hx : notStar x = true) (h1 : SO C X e x) (h2 : SOs C X es xs) : SOs C X (.cons e es) (x :: xs) := fun Fr Hs0 bs σ ρ H Hs ds ρ' Q s he q => by
  simp only [evOs, Option.bind_eq_some_iff] at he
  obtain ⟨⟨d, ρ1⟩, e1, ⟨ds', ρ2⟩, e2, e3⟩ := he
  cases e3
  exact tb_a (pa_cons pe_tb pa_tb (st_cons hx)) (h1 _ _ _ _ _ _ _ _ _ _ s e1 fun v1 H1 Hs1 s1 x1 r1 => h2 _ _ _ _ _ _ _ _ _ _ s1 e2 fun vs H2 Hs2 s2 x2 r2 => q _ H2 Hs2 s2 (x1.trans x2) (.cons (r1.mono x2) r2))
theorem fetchs_ok {K : PySem.W.Frag} {Fr Hs0 : Hp} {bs : List (Nat × Addr)} {σ : L2.St} {ρ : MP.Env} {H Hs : Hp} (s : Sta K Fr Hs0 bs σ ρ H Hs) : ∀ {vs : List V} {os : List Opd} {ds : List D}, Opds K Hs σ vs os → fetchs ρ os = some ds → RoAll K H Hs vs ds
  | _, _, _, .nil, e => by cases e; exact .nil
  | _, _, ds, .cons a r, e => by
    simp only [fetchs, Option.bind_eq_bind, Option.bind_eq_some_iff] at e
    obtain ⟨d, e1, ds', e2, e3⟩ := e
    cases e3
    exact .cons (fetch_ok s a e1) (fetchs_ok s r e2)
theorem as_nil : SAs C X .nil [] := fun ms Fr Hs0 bs σ ρ H Hs ds ρ' Q s he q => by
  cases he
  exact tb_a pa_nil (q [] H Hs s (Ex.refl _) .nil)
theorem as_cons {e : E} {es : Es} {x : Expr} {xs : List Expr} (hx : notStar x = true) (h1 : SE C X e x) (hv : ∀ i, e = .var i → ∃ nm p, x = .Name nm p ∧ X.N[i]? = some nm ∧ visB X.env.scope nm = true ∧ nmOk nm = true) (h2 : SAs C X es xs) : SAs C X (.cons e es) (x :: xs) := fun ms Fr Hs0 bs σ ρ H Hs ds ρ' Q s he q => by
  simp only [evA] at he
  split at he
  · split at he
    · rename_i i
      split at he
      · rename_i ho
        simp only [Option.bind_eq_some_iff] at he
        obtain ⟨⟨as', ρ2⟩, e2, e3⟩ := he
        cases e3
        obtain ⟨nm, p, rfl, k1, k2, k3⟩ := hv i rfl
        obtain ⟨d1, d2, _⟩ := nm_of k3
        have k' : ∃ w, OwOk X.K Fr H Hs (σ[i]?) w := by
          cases q : ρ.getD i .un with
          | un => rw [q] at ho; cases ho
          | sh d => rw [q] at ho; cases ho
          | ow w => exact ⟨w, s.ent i _ (getD_some q (by simp))⟩
          | bo w => exact ⟨w, s.ent i _ (getD_some q (by simp))⟩
        obtain ⟨w, p', u, f1, _⟩ := k'
        exact tb_a (pa_cons (pe_var k1 (vis_of k2) d1 d2) pa_tb (st_cons hx)) ⟨_, f1, h2 _ _ _ _ _ _ _ _ _ _ _ s e2 fun vs H2 Hs2 s2 x2 r2 => q _ H2 Hs2 s2 x2 (.cons f1 r2)⟩
      · cases he
    · cases he
  · simp only [Option.bind_eq_some_iff] at he
    obtain ⟨⟨d, ρ1⟩, e1, ⟨as', ρ2⟩, e2, e3⟩ := he
    cases e3
    exact tb_a (pa_cons pe_tb pa_tb (st_cons hx)) (h1.d _ _ _ _ _ _ _ _ _ _ s e1 fun v1 H1 Hs1 s1 x1 r1 => h2 _ _ _ _ _ _ _ _ _ _ _ s1 e2 fun vs H2 Hs2 s2 x2 r2 => q _ H2 Hs2 s2 (x1.trans x2) (.cons (r1.mono x2) r2))

/-! ### calls -/
theorem s_call {Γ : Tbl} {con : Nat → Option D} {n : Nat} {G : Sig} {f : Nat} {es : Es} {x : Str} {xs : List Expr} {p pos : Pos} (K : XOk Γ con n G X) (hf : G.fnm f = some x) (hg : glB X.env.scope x = true) (hn : nmOk x = true) (hs : xs.all notStar = true) (hes : xs = [] → es = .nil) (h : SAs (cfg Γ con n) X es xs) :
    SE (cfg Γ con n) X (.call f es) (.Call (.Name x p) xs [] pos) := fun Fr Hs0 bs σ ρ H Hs val ρ' Q s he q => by
  obtain ⟨pd, ps0, ad, fd, g1, g2, g3, g4, g5, _⟩ := (K.fns f x hf).ex
  obtain ⟨d1, _, _⟩ := nm_of hn
  simp only [ev, Option.bind_eq_some_iff] at he
  obtain ⟨⟨as, ρ1⟩, e1, e2⟩ := he
  unfold doCall at e2
  have fin : ∀ vs H1 Hs1, Sta X.K Fr Hs0 bs σ ρ1 H1 Hs1 → Ex Hs Hs1 → AVs X.K Hs1 σ vs as → spOf X.K pd.ar (evalCall Γ con n f) vs H1 Q E0 := fun vs H1 Hs1 s1 x1 r1 => by
    split at e2
    · rename_i hnd
      simp only [Option.bind_eq_some_iff] at e2
      obtain ⟨args, e3, ⟨val', os⟩, e4, ρ2, e5, e6⟩ := e2
      cases e6
      obtain ⟨ps, k1, k2⟩ := args_ok s1 r1 e3
      have hlen : vs.length = pd.ar := by
        rw [k1.len]
        cases n with
        | zero => cases e4
        | succ m =>
          have e4' : evalCall Γ con (m + 1) f args = some (val', os) := e4
          simp only [evalCall, g1, Option.bind_some] at e4'
          unfold run at e4'
          split at e4'
          · assumption
          · cases e4'
      refine ⟨hlen, args, ps, Hs1, val', os, e4, k1, k2.nodup s1 hnd (lent_own e3), s1.sh, fun v H' Hs' en => ?_⟩
      obtain ⟨s2, v2⟩ := after_call s1 k2 hnd en e5
      exact q _ _ _ s2 (x1.trans en.s0) v2
    · cases e2
  cases xs with
  | nil =>
    refine tb_e (pe_call0G g5 K.room K.gd (gl_of hg) g2 g3 g4 d1) ?_
    have z := hes rfl
    subst z
    cases e1
    exact fin [] H Hs s (Ex.refl _) .nil
  | cons y ys =>
    rw [List.all_cons, Bool.and_eq_true] at hs
    exact tb_e (pe_callG g5 K.room K.gd (gl_of hg) g2 g3 g4 pa_tb d1 (st_cons hs.1) (st_any hs.2)) (h _ _ _ _ _ _ _ _ _ _ _ s e1 fin)
theorem s_blt {Γ : Tbl} {con : Nat → Option D} {n : Nat} {G : Sig} {b : Blt} {es : Es} {y : Expr} {ys : List Expr} {p pos : Pos} (K : XOk Γ con n G X) (hg : glB X.env.scope (bltNm b) = true) (hs : (y :: ys).all notStar = true) (h : SOs C X es (y :: ys)) :
    SE C X (.blt b es) (.Call (.Name (bltNm b) p) (y :: ys) [] pos) := fun Fr Hs0 bs σ ρ H Hs val ρ' Q s he q => by
  simp only [ev, Option.bind_eq_some_iff] at he
  obtain ⟨⟨os, ρ1⟩, e1, ds, e2, val', e3, e4⟩ := he
  cases e4
  rw [List.all_cons, Bool.and_eq_true] at hs
  have hm : X.mg (bltNm b) = none := K.free _ (by cases b <;> decide)
  have hu : X.A.units + 70 < cLine := by have := K.room.un; omega
  have hn1 : bltNm b ≠ "__name__" := by cases b <;> decide
  have hn2 : (bltNm b == ("__debug__" : Str)) = false := by cases b <;> decide
  have fin : tbA X (y :: ys) σ H fun vs H1 => cAny X (bltVal b) vs H1 Q := h _ _ _ _ _ _ _ _ _ _ s e1 fun vs H1 Hs1 s1 x1 r1 => blt_ok K.calm K.gd hu s1 (fetchs_ok s1 r1 e2) e3 fun v H' Hs' s' x' vo => q _ _ _ s' (x1.trans x') vo
  cases hb : bltVal b with
  | builtin id =>
    rw [hb] at fin
    exact tb_e (pe_callB callr_any (gl_of hg) hm (by rw [bltBoot, hb]) pa_tb hn1 hn2 (st_cons hs.1) (st_any hs.2)) fin
  | type id =>
    rw [hb] at fin
    exact tb_e (pe_callTy callr_any (gl_of hg) hm (by rw [bltBoot, hb]) pa_tb hn1 hn2 (st_cons hs.1) (st_any hs.2)) fin
  | _ => cases b <;> cases hb
theorem s_isi {Γ : Tbl} {con : Nat → Option D} {n : Nat} {G : Sig} {a : E} {t : Ty} {y : Expr} {p p2 pos : Pos} (K : XOk Γ con n G X) (hg : glB X.env.scope "isinstance" = true) (hg2 : glB X.env.scope (Str.ofString (tyNm t)) = true) (hy : notStar y = true) (h : SO C X a y) :
    SE C X (.isi a t) (.Call (.Name "isinstance" p) [y, .Name (Str.ofString (tyNm t)) p2] [] pos) := fun Fr Hs0 bs σ ρ H Hs val ρ' Q s he q => by
  simp only [ev, Option.bind_eq_some_iff] at he
  obtain ⟨⟨o1, ρ1⟩, e1, d, e2, e3⟩ := he
  cases e3
  have hm : X.mg "isinstance" = none := K.free _ (by decide)
  have hm2 : X.mg (Str.ofString (tyNm t)) = none := K.free _ (by cases t <;> decide)
  have hn1 : Str.ofString (tyNm t) ≠ "__name__" := by cases t <;> decide
  have hn2 : (Str.ofString (tyNm t) == ("__debug__" : Str)) = false := by cases t <;> decide
  refine tb_e (pe_callB call_isi (gl_of hg) hm (by decide +kernel) (pa_cons pe_tb (pa_cons (pe_bltn (v := .ty (tyNm t)) (gl_of hg2) hm2 (tyBoot t) rfl hn1 hn2) pa_nil) (st_cons hy)) (by decide) (by decide) (st_cons hy) rfl) ?_
  exact h _ _ _ _ _ _ _ _ _ _ s e1 fun v1 H1 Hs1 s1 x1 r1 => isi_ok s1 (fetch_ok s1 r1 e2) (q _ _ _ s1 x1 (.bl _))
end
end MP
end

section
set_option Elab.async false
set_option linter.all false
set_option maxRecDepth 100000
set_option maxHeartbeats 8000000
namespace MP
open PySem PySem.Spec PyProof.Rows L2

theorem chg_inv {α : Type} {i : Nat} {f : Ob → Option (α × Ob)} {ρ ρ' : MP.Env} {a : α} (h : chg i f ρ = some (a, ρ')) : ∃ e o o', ρ[i]? = some e ∧ (e = .ow o ∨ e = .bo o) ∧ f o = some (a, o') ∧ ρ' = ρ.set i (reOb e o') := by
  unfold chg at h
  split at h
  · rename_i o ho
    simp only [Option.bind_eq_some_iff] at h
    obtain ⟨⟨b, o'⟩, h1, h2⟩ := h
    cases h2
    exact ⟨_, o, o', getD_some ho (by simp), .inl rfl, h1, rfl⟩
  · rename_i o ho
    simp only [Option.bind_eq_some_iff] at h
    obtain ⟨⟨b, o'⟩, h1, h2⟩ := h
    cases h2
    exact ⟨_, o, o', getD_some ho (by simp), .inr rfl, h1, rfl⟩
  · cases h
theorem isLst_inv {K : PySem.W.Frag} {Fr Hs0 : Hp} {bs : List (Nat × Addr)} {σ : L2.St} {ρ : MP.Env} {H Hs : Hp} {i : Nat} (s : Sta K Fr Hs0 bs σ ρ H Hs) (h : isLst ρ i = true) : ∃ p vs, σ[i]? = some (some (V.ref p)) ∧ H p = some (.lst vs) := by
  unfold isLst at h
  have k : ∃ xs, OwOk K Fr H Hs (σ[i]?) (.lst xs) := by
    split at h
    · rename_i xs hx
      exact ⟨xs, s.ent i _ (getD_some hx (by simp))⟩
    · rename_i xs hx
      exact ⟨xs, s.ent i _ (getD_some hx (by simp))⟩
    · cases h
  obtain ⟨xs, p, ho, e1, e2, e3, _⟩ := k
  obtain ⟨vs, rfl, r⟩ := e3.lst
  exact ⟨p, vs, e1, e2⟩
/-- an own list at a slot is changed -/
theorem Sta.chgL {α : Type} {K : PySem.W.Frag} {Fr Hs0 : Hp} {bs : List (Nat × Addr)} {σ : L2.St} {ρ ρ' : MP.Env} {H Hs : Hp} {i : Nat} {f : Ob → Option (α × Ob)} {a : α} {p : Addr} (s : Sta K Fr Hs0 bs σ ρ H Hs) (h : chg i f ρ = some (a, ρ')) (hp : σ[i]? = some (some (V.ref p))) :
    ∃ o o' ho, f o = some (a, o') ∧ H p = some ho ∧ ObR K Hs o ho ∧ ∀ ho', ObR K Hs o' ho' → Sta K Fr Hs0 bs σ ρ' (upd H p ho') Hs := by
  obtain ⟨e, o, o', h1, h2, h3, rfl⟩ := chg_inv h
  have k : OwOk K Fr H Hs (σ[i]?) o := by
    have := s.ent i e h1
    rcases h2 with rfl | rfl <;> exact this
  obtain ⟨p', ho, e1, e2, e3, _⟩ := k
  rw [hp] at e1
  cases e1
  exact ⟨o, o', ho, h3, e2, e3, fun ho' r => s.change h1 h2 hp r⟩
section
variable {C : Cfg} {X : Cx}
theorem s_pop {i : Nat} {a : E} {x : Str} {y : Expr} {px ap cp : Pos} (h1 : X.N[i]? = some x) (h2 : visB X.env.scope x = true) (h3 : nmOk x = true) (hl : (ap.endLine == cp.line) = true) (hy : notStar y = true) (h : SE C X a y) :
    SE C X (.pop i a) (.Call (.Attribute (.Name x px) "pop" ap) [y] [] cp) := fun Fr Hs0 bs σ ρ H Hs val ρ' Q s he q => by
  obtain ⟨d1, d2, _⟩ := nm_of h3
  simp only [ev] at he
  split at he
  · rename_i hls
    simp only [Option.bind_eq_some_iff] at he
    obtain ⟨⟨d, ρ1⟩, e1, k, e2, ⟨y', ρ2⟩, e3, e4⟩ := he
    cases e4
    have hsa : [y].all notStar = true := by simp [hy]
    refine tb_e (pe_bm PySem.F.plainAttrs_list PySem.F.slot_list_pop PySem.F.type_list_pop mt_popAt (pe_var h1 (vis_of h2) d1 d2) (pa_cons pe_tb pa_nil (st_cons hy)) rfl (by rw [st_all hsa]; rfl) hl (st_cons hy) (st_any (es := []) rfl)) ?_
    obtain ⟨p, vs, f1, f2⟩ := isLst_inv s hls
    refine ⟨_, f1, .inl ⟨rfl, vs, .inl (.inl f2)⟩, h.d _ _ _ _ _ _ _ _ _ _ s e1 fun v1 H1 Hs1 s1 x1 r1 => ?_⟩
    cases d <;> simp only [asI, reduceCtorEq, Option.some.injEq] at e2
    subst e2
    cases r1
    rename_i k
    obtain ⟨o, o', ho, g1, g2, g3, g4⟩ := s1.chgL e3 f1
    cases o with
    | dic _ => cases g1
    | lst xs =>
      obtain ⟨ws, rfl, rw'⟩ := g3.lst
      simp only [popOb] at g1
      split at g1
      · rename_i hlim
        simp only [Option.bind_eq_some_iff] at g1
        obtain ⟨j, j1, z, j2, j3⟩ := g1
        cases j3
        obtain ⟨w, k1, k2⟩ := rw'.get' j2
        have hix : ixN ws.length k = some j := by rw [rw'.length]; exact j1
        obtain ⟨i1, i2, i3, i4⟩ := ixN_seq hix
        have hwl : ws.length ≤ lim := by rw [rw'.length]; exact hlim
        have hl2 : lim = 1000000 := rfl
        exact ⟨p, ws, k, j, w, rfl, rfl, g2, by omega, by omega, i1, k1, q _ _ _ (g4 (.lst (ws.eraseIdx j)) (rw'.eraseIdx j)) x1 k2⟩
      · cases g1
  · cases he
theorem s_idx {Γ : Tbl} {con : Nat → Option D} {n : Nat} {G : Sig} {a b : E} {x y : Expr} {ap cp : Pos} (K : XOk Γ con n G X) (hx : notCall x = true) (hl : (ap.endLine == cp.line) = true) (hy : notStar y = true) (ha : SO C X a x) (hb : SE C X b y) :
    SE C X (.idx a b) (.Call (.Attribute x "index" ap) [y] [] cp) := fun Fr Hs0 bs σ ρ H Hs val ρ' Q s he q => by
  simp only [ev, Option.bind_eq_some_iff] at he
  obtain ⟨⟨o1, ρ1⟩, e1, x0, e2, he⟩ := he
  split at he
  · cases he
  · rename_i hld
    simp only [Option.bind_eq_some_iff] at he
    obtain ⟨⟨d, ρ2⟩, e3, x1', e4, r, e5, e6⟩ := he
    cases e6
    have hbase : attributeBase x "index" X.env (eval x X.env) = eval x X.env := by cases x <;> first | rfl | cases hx
    have hsa : [y].all notStar = true := by simp [hy]
    have hu : X.A.units + 65 < cLine := by have := K.room.un; omega
    refine tb_e (pe_bm PySem.F.plainAttrs_list PySem.F.slot_list_index PySem.F.type_list_index (mt_indexD hu) pe_tb (pa_cons pe_tb pa_nil (st_cons hy)) hbase (by rw [st_all hsa]; rfl) hl (st_cons hy) (st_any (es := []) rfl)) ?_
    refine ha _ _ _ _ _ _ _ _ _ _ s e1 fun v1 H1 Hs1 s1 x1 r1 => ?_
    have ro := fetch_ok s1 r1 e2
    cases x0 <;> simp [isLD] at hld
    obtain ⟨p, vs, rfl, k1, k2⟩ := ro.list s1.sh
    refine ⟨.inl ⟨rfl, vs, k1⟩, hb.d _ _ _ _ _ _ _ _ _ _ s1 e3 fun v2 H2 Hs2 s2 x2 r2 => ?_⟩
    have ro2 := fetch_ok s2 (r1.mono x2) e4
    unfold idxD at e5
    split at e5
    · rename_i ds
      split at e5
      · rename_i hsh
        rw [Bool.and_eq_true] at hsh
        cases hf : ds.findIdx? fun z => PyData.eqv z d with
        | none => rw [hf] at e5; cases e5
        | some j =>
          rw [hf] at e5
          cases e5
          obtain ⟨hj, hj1, hj2⟩ := List.findIdx?_eq_some_iff_getElem.mp hf
          refine ⟨p, v2, d, ds, j, ds[j], rfl, rfl, (ro2.rp s2.sh).dp, (r2.mono s2.sh).dp, hsh.1, hsh.2, List.getElem?_eq_getElem hj, hj1, fun m z' hm hz => ?_, q _ _ _ s2 (x1.trans x2) (.int _)⟩
          obtain ⟨hm1, hm2⟩ := List.getElem?_eq_some_iff.mp hz
          rw [← hm2]
          simpa using hj2 m hm
      · cases e5
    · cases e5

/-! ### what is walked -/
theorem it_list {K : PySem.W.Frag} {Hs : Hp} {a : Addr} {vs : List V} {ds : List D} (h : SqL K Hs a vs) (r : RpAll K Hs vs ds) : ItOk K Hs (Itl K a) ds := fun i H1 Hs1 e1 e2 => by
  have e := e1.trans e2
  refine ⟨fun d hd => ?_, fun hi => ⟨vs, sql_mono e h, by rw [r.length]; omega⟩⟩
  obtain ⟨v, h1, h2⟩ := r.get' hd
  refine ⟨⟨vs, v, sql_mono e h, h1⟩, fun w H2 ⟨z, hy⟩ => ?_⟩
  subst z
  have := (hy vs (sql_mono e h)).symm.trans h1
  cases this
  exact ⟨Hs1, Grow.refl e2, h2.mono e1⟩
theorem it_tup {K : PySem.W.Frag} {Hs : Hp} {a : Addr} {vs : List V} {ds : List D} (h : SqT K Hs a vs) (r : RpAll K Hs vs ds) : ItOk K Hs (Itt K a) ds := fun i H1 Hs1 e1 e2 => by
  have e := e1.trans e2
  refine ⟨fun d hd => ?_, fun hi => ⟨vs, sqt_mono e h, by rw [r.length]; omega⟩⟩
  obtain ⟨v, h1, h2⟩ := r.get' hd
  refine ⟨⟨vs, v, sqt_mono e h, h1⟩, fun w H2 ⟨z, hy⟩ => ?_⟩
  subst z
  have := (hy vs (sqt_mono e h)).symm.trans h1
  cases this
  exact ⟨Hs1, Grow.refl e2, h2.mono e1⟩
theorem it_rng {K : PySem.W.Frag} {Hs : Hp} (lo hi : Int) : ItOk K Hs (Itr lo (hi - lo).toNat) (rngD lo hi) := fun i H1 Hs1 e1 e2 => by
  refine ⟨fun d hd => ?_, fun hi' => by show (hi - lo).toNat ≤ i; rw [hi']; simp [rngD]⟩
  unfold rngD at hd
  rw [List.getElem?_map] at hd
  cases q : (List.range (hi - lo).toNat)[i]? with
  | none => rw [q] at hd; cases hd
  | some k =>
    rw [q] at hd
    have hk := List.getElem?_eq_some_iff.mp q
    obtain ⟨h1, h2⟩ := hk
    rw [List.length_range] at h1
    rw [List.getElem_range] at h2
    subst h2
    cases hd
    exact ⟨h1, fun w H2 ⟨z, hy⟩ => by subst z hy; exact ⟨Hs1, Grow.refl e2, .int _⟩⟩
theorem enumD_get : ∀ (ds : List D) (n i : Nat) (d : D), (enumD n ds)[i]? = some d → ∃ x, ds[i]? = some x ∧ d = .tuple [.int ((n + i : Nat) : Int), x]
  | [], _, _, _, h => by simp [enumD] at h
  | x :: xs, n, 0, d, h => by simp [enumD] at h; exact ⟨x, rfl, h.symm⟩
  | x :: xs, n, i + 1, d, h => by
    simp only [enumD, List.getElem?_cons_succ] at h
    obtain ⟨y, h1, h2⟩ := enumD_get xs (n + 1) i d h
    refine ⟨y, by simpa using h1, ?_⟩
    rw [h2]
    have : n + 1 + i = n + (i + 1) := by omega
    rw [this]
theorem enumD_len : ∀ (ds : List D) (n : Nat), (enumD n ds).length = ds.length
  | [], _ => rfl
  | x :: xs, n => by simp [enumD, enumD_len xs]
theorem zipD_get : ∀ (xs ys : List D) (i : Nat) (d : D), (zipD xs ys)[i]? = some d → ∃ x y, xs[i]? = some x ∧ ys[i]? = some y ∧ d = .tuple [x, y]
  | [], _, _, _, h => by simp [zipD] at h
  | _ :: _, [], _, _, h => by simp [zipD] at h
  | x :: xs, y :: ys, 0, d, h => by simp [zipD] at h; exact ⟨x, y, rfl, rfl, h.symm⟩
  | x :: xs, y :: ys, i + 1, d, h => by
    simp only [zipD, List.getElem?_cons_succ] at h
    obtain ⟨a, b, h1, h2, h3⟩ := zipD_get xs ys i d h
    exact ⟨a, b, by simpa using h1, by simpa using h2, h3⟩
theorem zipD_len : ∀ (xs ys : List D), (zipD xs ys).length = min xs.length ys.length
  | [], ys => by simp [zipD]
  | _ :: _, [] => by simp [zipD]
  | x :: xs, y :: ys => by simp [zipD, zipD_len xs ys]
/-- a new pair -/
theorem pair_new {K : PySem.W.Frag} {H1 Hs1 : Hp} {T : Addr} {v w : V} {a b : D} (e : Ex Hs1 H1) (hT : H1 T = none) (h1 : Rp K Hs1 v a) (h2 : Rp K Hs1 w b) : ∃ Hs2, Grow H1 Hs1 (upd H1 T (.tup [v, w])) Hs2 ∧ Rp K Hs2 (.ref T) (.tuple [a, b]) :=
  have g := Grow.newS (o := .tup [v, w]) e hT
  ⟨_, g, .tup (.inl upd_same) (.cons (h1.mono g.s) (.cons (h2.mono g.s) .nil))⟩
theorem it_enumL {K : PySem.W.Frag} {Hs : Hp} {a : Addr} {vs : List V} {ds : List D} (h : SqL K Hs a vs) (r : RpAll K Hs vs ds) : ItOk K Hs (Ite K a) (enumD 0 ds) := fun i H1 Hs1 e1 e2 => by
  have e := e1.trans e2
  refine ⟨fun d hd => ?_, fun hi => ⟨vs, sql_mono e h, by rw [r.length]; rw [enumD_len] at hi; omega⟩⟩
  obtain ⟨x, hx, rfl⟩ := enumD_get ds 0 i d hd
  obtain ⟨v, h1, h2⟩ := r.get' hx
  refine ⟨⟨vs, v, sql_mono e h, h1⟩, fun w H2 ⟨T, y, z1, z2, z3, hy⟩ => ?_⟩
  subst z1 z3
  have := (hy vs (sql_mono e h)).symm.trans h1
  cases this
  rw [Nat.zero_add]
  exact pair_new e2 z2 (.int _) (h2.mono e1)
theorem it_enumT {K : PySem.W.Frag} {Hs : Hp} {a : Addr} {vs : List V} {ds : List D} (h : SqT K Hs a vs) (r : RpAll K Hs vs ds) : ItOk K Hs (IteT K a) (enumD 0 ds) := fun i H1 Hs1 e1 e2 => by
  have e := e1.trans e2
  refine ⟨fun d hd => ?_, fun hi => ⟨vs, sqt_mono e h, by rw [r.length]; rw [enumD_len] at hi; omega⟩⟩
  obtain ⟨x, hx, rfl⟩ := enumD_get ds 0 i d hd
  obtain ⟨v, h1, h2⟩ := r.get' hx
  refine ⟨⟨vs, v, sqt_mono e h, h1⟩, fun w H2 ⟨T, y, z1, z2, z3, hy⟩ => ?_⟩
  subst z1 z3
  have := (hy vs (sqt_mono e h)).symm.trans h1
  cases this
  rw [Nat.zero_add]
  exact pair_new e2 z2 (.int _) (h2.mono e1)
theorem it_zipL {K : PySem.W.Frag} {Hs : Hp} {a b : Addr} {vs ws : List V} {ds es : List D} (h : SqL K Hs a vs) (h' : SqL K Hs b ws) (r : RpAll K Hs vs ds) (r' : RpAll K Hs ws es) : ItOk K Hs (Itz K a b) (zipD ds es) := fun i H1 Hs1 e1 e2 => by
  have e := e1.trans e2
  have l1 := r.length
  have l2 := r'.length
  refine ⟨fun d hd => ?_, fun hi => ⟨vs, ws, sql_mono e h, sql_mono e h', by rw [zipD_len] at hi; omega⟩⟩
  obtain ⟨x, y, hx, hy, rfl⟩ := zipD_get ds es i d hd
  obtain ⟨v, h1, h2⟩ := r.get' hx
  obtain ⟨w, h3, h4⟩ := r'.get' hy
  refine ⟨⟨vs, ws, v, w, sql_mono e h, sql_mono e h', h1, h3⟩, fun u H2 ⟨T, x', y', z1, z2, z3, k1, k2⟩ => ?_⟩
  subst z1 z3
  have t1 := (k1 vs (sql_mono e h)).symm.trans h1
  have t2 := (k2 ws (sql_mono e h')).symm.trans h3
  cases t1
  cases t2
  exact pair_new e2 z2 (h2.mono e1) (h4.mono e1)
theorem it_zipT {K : PySem.W.Frag} {Hs : Hp} {a b : Addr} {vs ws : List V} {ds es : List D} (h : SqT K Hs a vs) (h' : SqT K Hs b ws) (r : RpAll K Hs vs ds) (r' : RpAll K Hs ws es) : ItOk K Hs (RZ.ItzT K a b) (zipD ds es) := fun i H1 Hs1 e1 e2 => by
  have e := e1.trans e2
  have l1 := r.length
  have l2 := r'.length
  refine ⟨fun d hd => ?_, fun hi => ⟨vs, ws, sqt_mono e h, sqt_mono e h', by rw [zipD_len] at hi; omega⟩⟩
  obtain ⟨x, y, hx, hy, rfl⟩ := zipD_get ds es i d hd
  obtain ⟨v, h1, h2⟩ := r.get' hx
  obtain ⟨w, h3, h4⟩ := r'.get' hy
  refine ⟨⟨vs, ws, v, w, sqt_mono e h, sqt_mono e h', h1, h3⟩, fun u H2 ⟨T, x', y', z1, z2, z3, k1, k2⟩ => ?_⟩
  subst z1 z3
  have t1 := (k1 vs (sqt_mono e h)).symm.trans h1
  have t2 := (k2 ws (sqt_mono e h')).symm.trans h3
  cases t1
  cases t2
  exact pair_new e2 z2 (h2.mono e1) (h4.mono e1)
end
end MP
end

section
set_option Elab.async false
set_option linter.all false
set_option maxRecDepth 100000
set_option maxHeartbeats 8000000
namespace MP
open PySem PySem.Spec PyProof.Rows L2

section
variable {C : Cfg} {X : Cx}
theorem inLim_iff {i : Int} (h : inLim i = true) : -1000000 ≤ i ∧ i ≤ 1000000 := by
  rw [inLim_def] at h
  simpa using h
theorem ckI_ok {i : Int} {u : Unit} (h : ckI i = some u) : inLim i = true := by
  unfold ckI at h
  split at h
  · assumption
  · cases h
theorem ckN_ok {k : Nat} {u : Unit} (h : ckN k = some u) : k ≤ lim := by
  unfold ckN at h
  split at h
  · assumption
  · cases h
/-! ### constants -/
theorem s_non {j : Nat} {pos : Pos} : SE C X .non (.Constant .none j pos) := fun Fr Hs0 bs σ ρ H Hs val ρ' Q s he q => by
  cases he
  exact tb_e pe_non (q _ H Hs s (Ex.refl _) .non)
theorem s_bl {b : Bool} {j : Nat} {pos : Pos} : SE C X (.bl b) (.Constant (.bool b) j pos) := fun Fr Hs0 bs σ ρ H Hs val ρ' Q s he q => by
  cases he
  exact tb_e pe_bl (q _ H Hs s (Ex.refl _) (.bl b))
theorem s_int {i : Int} {j : Nat} {pos : Pos} : SE C X (.int i) (.Constant (.int i) j pos) := fun Fr Hs0 bs σ ρ H Hs val ρ' Q s he q => by
  cases he
  exact tb_e pe_int (q _ H Hs s (Ex.refl _) (.int i))
theorem s_str {x : Str} {j : Nat} {pos : Pos} : SE C X (.str x) (.Constant (.str x) j pos) := fun Fr Hs0 bs σ ρ H Hs val ρ' Q s he q => by
  cases he
  exact tb_e pe_str (q _ H Hs s (Ex.refl _) (.str x))
theorem s_glo {Γ : Tbl} {con : Nat → Option D} {n : Nat} {G : Sig} {g : Nat} {x : Str} {pos : Pos} (K : XOk Γ con n G X) (h1 : G.cnm g = some x) (h2 : glB X.env.scope x = true) (h3 : nmOk x = true) : SE (cfg Γ con n) X (.glo g) (.Name x pos) := fun Fr Hs0 bs σ ρ H Hs val ρ' Q s he q => by
  simp only [ev, Option.bind_eq_some_iff] at he
  obtain ⟨d, e1, e2⟩ := he
  cases e2
  obtain ⟨v, u, g1, g2, g3⟩ := K.cons g x d e1 h1
  exact tb_e (pe_glob (gl_of h2) g1 g2 (nm_of h3).1) (q _ H Hs s (Ex.refl _) (g3 Hs))

/-- an own object becomes data -/
theorem s_frz {e : E} {x : Expr} (h : SE C X e x) : SE C X (.frz e) x := fun Fr Hs0 bs σ ρ H Hs val ρ' Q s he q => by
  simp only [ev, Option.bind_eq_some_iff] at he
  obtain ⟨⟨d, ρ1⟩, e1, e2⟩ := he
  cases e2
  exact h.d _ _ _ _ _ _ _ _ _ _ s e1 fun v H' Hs' s' x' r => q _ _ _ s' x' r
theorem t_frz {e : E} {x : Expr} (h : ST C X e x) : ST C X (.frz e) x := fun Fr Hs0 bs σ ρ H Hs b ρ' Q s he q => by
  obtain ⟨val, h1, h2⟩ := toD_inv (toB_inv he)
  simp only [ev, Option.bind_eq_some_iff] at h1
  obtain ⟨⟨d, ρ1⟩, e1, e2⟩ := h1
  cases e2
  cases h2
  exact h _ _ _ _ _ _ _ _ _ _ s (by unfold toB; rw [e1]; rfl) q
/-! ### what a for walks -/
theorem i_seq {e : E} {t x : Expr} (h : SE C X e x) : SI C X (.seq e) t x := fun Fr Hs0 bs σ ρ H Hs ds ρ' R s he q => by
  simp only [evI, Option.bind_eq_some_iff] at he
  obtain ⟨⟨d, ρ1⟩, e1, xs, e2, e3⟩ := he
  cases e3
  refine tb_i (pi_seq pe_tb) (h.d _ _ _ _ _ _ _ _ _ _ s e1 fun v1 H1 Hs1 s1 x1 r1 => ?_)
  cases r1 <;> simp only [items, reduceCtorEq, Option.some.injEq] at e2
  · rename_i k r
    subst e2
    exact .inl ⟨_, rfl, ⟨_, sql_mono s1.sh k⟩, q _ H1 Hs1 s1 x1 (it_list k r)⟩
  · rename_i k r
    subst e2
    exact .inr ⟨_, rfl, ⟨_, sqt_mono s1.sh k.sqt⟩, q _ H1 Hs1 s1 x1 (it_tup k.sqt r)⟩
theorem i_rng {Γ : Tbl} {con : Nat → Option D} {n : Nat} {G : Sig} {a : E} {t y : Expr} {p pos : Pos} (K : XOk Γ con n G X) (hg : glB X.env.scope "range" = true) (hy : notStar y = true) (h : SE C X a y) :
    SI C X (.rng a) t (.Call (.Name "range" p) [y] [] pos) := fun Fr Hs0 bs σ ρ H Hs ds ρ' R s he q => by
  simp only [evI, Option.bind_eq_some_iff] at he
  obtain ⟨⟨d, ρ1⟩, e1, m, e2, _, e30, e3⟩ := he
  have hm := ckI_ok e30
  · cases e3
    refine tb_i (pi_range1 (gl_of hg) (K.free _ (by decide)) (pa_cons pe_tb pa_nil (st_cons hy)) (st_cons hy)) (h.d _ _ _ _ _ _ _ _ _ _ s e1 fun v1 H1 Hs1 s1 x1 r1 => ?_)
    cases d <;> simp only [asI, reduceCtorEq, Option.some.injEq] at e2
    subst e2
    cases r1
    rename_i m
    have hl := inLim_iff hm
    refine ⟨m, rfl, by omega, by omega, ?_⟩
    have k := it_rng (K := X.K) (Hs := Hs1) 0 m
    rw [Int.sub_zero] at k
    exact q _ H1 Hs1 s1 x1 k
theorem i_rng2 {Γ : Tbl} {con : Nat → Option D} {n : Nat} {G : Sig} {a b : E} {t y z : Expr} {p pos : Pos} (K : XOk Γ con n G X) (hg : glB X.env.scope "range" = true) (hy : notStar y = true) (hz : notStar z = true) (ha : SE C X a y) (hb : SE C X b z) :
    SI C X (.rng2 a b) t (.Call (.Name "range" p) [y, z] [] pos) := fun Fr Hs0 bs σ ρ H Hs ds ρ' R s he q => by
  simp only [evI, Option.bind_eq_some_iff] at he
  obtain ⟨⟨d, ρ1⟩, e1, ⟨d2, ρ2⟩, e2, i, e3, j, e4, _, e50, _, e51, e5⟩ := he
  have hm := ckI_ok e50
  have hm' := ckI_ok e51
  · cases e5
    have h2 : starEach [z] X.env = [(false, eval z X.env)] := st_cons hz
    refine tb_i (pi_range2 (gl_of hg) (K.free _ (by decide)) (pa_cons pe_tb (pa_cons pe_tb pa_nil (st_cons hz)) (st_cons hy)) (by rw [st_cons hy, h2]) h2)
      (ha.d _ _ _ _ _ _ _ _ _ _ s e1 fun v1 H1 Hs1 s1 x1 r1 => hb.d _ _ _ _ _ _ _ _ _ _ s1 e2 fun v2 H2 Hs2 s2 x2 r2 => ?_)
    cases d <;> simp only [asI, reduceCtorEq, Option.some.injEq] at e3
    cases d2 <;> simp only [asI, reduceCtorEq, Option.some.injEq] at e4
    subst e3 e4
    cases r1
    cases r2
    rename_i i j
    have hl := inLim_iff hm
    have hl' := inLim_iff hm'
    exact ⟨i, j, rfl, ⟨by omega, by omega, by omega, by omega⟩, q _ H2 Hs2 s2 (x1.trans x2) (it_rng i j)⟩
theorem tupE {t : Expr} (h : isTupE t = true) : ∃ es k p, t = .Tuple es k p := by
  cases t <;> first | exact ⟨_, _, _, rfl⟩ | cases h
theorem i_enm {Γ : Tbl} {con : Nat → Option D} {n : Nat} {G : Sig} {a : E} {t y : Expr} {p pos : Pos} (K : XOk Γ con n G X) (ht : isTupE t = true) (hg : glB X.env.scope "enumerate" = true) (hy : notStar y = true) (h : SE C X a y) :
    SI C X (.enm a) t (.Call (.Name "enumerate" p) [y] [] pos) := fun Fr Hs0 bs σ ρ H Hs ds ρ' R s he q => by
  simp only [evI, Option.bind_eq_some_iff] at he
  obtain ⟨⟨d, ρ1⟩, e1, xs, e2, e3⟩ := he
  cases e3
  obtain ⟨es, kk, tp, rfl⟩ := tupE ht
  refine tb_i (pi_enumA (gl_of hg) (K.free _ (by decide)) (pa_cons pe_tb pa_nil (st_cons hy)) (st_cons hy)) (h.d _ _ _ _ _ _ _ _ _ _ s e1 fun v1 H1 Hs1 s1 x1 r1 => ?_)
  cases r1 <;> simp only [items, reduceCtorEq, Option.some.injEq] at e2
  · rename_i k r
    subst e2
    exact ⟨_, _, rfl, .inl ⟨sql_mono s1.sh k, q _ H1 Hs1 s1 x1 (it_enumL k r)⟩⟩
  · rename_i k r
    subst e2
    exact ⟨_, _, rfl, .inr ⟨sqt_mono s1.sh k.sqt, q _ H1 Hs1 s1 x1 (it_enumT k.sqt r)⟩⟩
theorem i_zip {Γ : Tbl} {con : Nat → Option D} {n : Nat} {G : Sig} {a b : E} {t y z : Expr} {p pos : Pos} (K : XOk Γ con n G X) (ht : isTupE t = true) (hg : glB X.env.scope "zip" = true) (hy : notStar y = true) (hz : notStar z = true) (ha : SE C X a y) (hb : SE C X b z) :
    SI C X (.zip a b) t (.Call (.Name "zip" p) [y, z] [] pos) := fun Fr Hs0 bs σ ρ H Hs ds ρ' R s he q => by
  simp only [evI, Option.bind_eq_some_iff] at he
  obtain ⟨⟨d, ρ1⟩, e1, ⟨d2, ρ2⟩, e2, xs, e3, e4⟩ := he
  cases e4
  obtain ⟨es, kk, tp, rfl⟩ := tupE ht
  refine tb_i (RZ.pi_zipA (gl_of hg) (K.free _ (by decide)) (pa_cons pe_tb (pa_cons pe_tb pa_nil (st_cons hz)) (st_cons hy)) (st_cons hy) (st_any (es := [z]) (by simp [hz])))
    (ha.d _ _ _ _ _ _ _ _ _ _ s e1 fun v1 H1 Hs1 s1 x1 r1 => hb.d _ _ _ _ _ _ _ _ _ _ s1 e2 fun v2 H2 Hs2 s2 x2 r2 => ?_)
  cases r1 <;> cases r2 <;> simp only [zipO, reduceCtorEq, Option.some.injEq] at e3
  · rename_i k r _ _ _ k' r'
    subst e3
    exact ⟨_, _, _, _, rfl, .inl ⟨sql_mono (x2.trans s2.sh) k, sql_mono s2.sh k', q _ H2 Hs2 s2 (x1.trans x2) (it_zipL (sql_mono x2 k) k' (r.mono x2) r')⟩⟩
  · rename_i k r _ _ _ k' r'
    subst e3
    exact ⟨_, _, _, _, rfl, .inr ⟨sqt_mono (x2.trans s2.sh) k.sqt, sqt_mono s2.sh k'.sqt, q _ H2 Hs2 s2 (x1.trans x2) (it_zipT (sqt_mono x2 k.sqt) k'.sqt (r.mono x2) r')⟩⟩

/-! ### targets -/
def SG (X : Cx) (tg : Tg) (t : Expr) : Prop :=
  ∀ Fr Hs0 bs σ ρ H Hs v d ρ' (Q : L2.St → Hp → Prop), Sta X.K Fr Hs0 bs σ ρ H Hs → Rp X.K Hs v d → stTg tg d ρ = some ρ' → (∀ σ', Sta X.K Fr Hs0 bs σ' ρ' H Hs → (∀ is : List Nat, (∀ k ∈ tgSlots tg, k ∈ is) → wipe σ' is = wipe σ is) → Q σ' H) → tbG X t v σ H Q
theorem wipe_set {σ : L2.St} {i : Nat} {v : Option V} : ∀ {is : List Nat}, i ∈ is → wipe (σ.set i v) is = wipe σ is
  | j :: is, h => by
    unfold wipe
    by_cases k : i ∈ is
    · rw [wipe_set k]
    · have e : i = j := by
        rcases List.mem_cons.mp h with z | z
        · exact z
        · exact absurd z k
      subst e
      have g : ∀ (vs : List Nat), i ∉ vs → wipe (σ.set i v) vs = (wipe σ vs).set i v := by
        intro vs
        induction vs with
        | nil => intro _; rfl
        | cons a as ih =>
          intro hn
          unfold wipe
          rw [ih (fun z => hn (List.mem_cons_of_mem _ z)), List.set_comm]
          intro z
          exact hn (by rw [z]; exact List.mem_cons_self)
      rw [g is k, List.set_set]
theorem ae_cons {N : List Str} {sc : Scope} {fn : Str → Bool} {g : Tg} {x : Expr} {xs : List Expr} {env : PySem.Env} (h : chkTg N sc fn g x = true) : assignEach (x :: xs) env = (false, assign x env) :: assignEach xs env := by
  cases g <;> cases x <;> first | rfl | cases h
theorem g_name {i : Nat} {x : Str} {p : Pos} (nd : X.N.Nodup) (h1 : X.N[i]? = some x) (h2 : locB X.env.scope X.fn x = true) : SG X (.nm i) (.Name x p) := fun Fr Hs0 bs σ ρ H Hs v d ρ' Q s r he q => by
  obtain ⟨k1, k2⟩ := loc_of h2
  refine tb_g (pg_name nd h1 k1 k2) (q _ ?_ fun is hi => wipe_set (hi i (by simp [tgSlots])))
  exact s.store (val := .sh d) r he
theorem g_two {a b : Tg} {x y : Expr} {k : Nat} {p : Pos} (hc : X.calm = true) (ha : SG X a x) (hb : SG X b y) (e1 : ∀ xs, assignEach (x :: xs) X.env = (false, assign x X.env) :: assignEach xs X.env) (e2 : ∀ xs, assignEach (y :: xs) X.env = (false, assign y X.env) :: assignEach xs X.env) :
    SG X (.t2 a b) (.Tuple [x, y] k p) := fun Fr Hs0 bs σ ρ H Hs v d ρ' Q s r he q => by
  have n0 : (assignEach [] X.env) = [] := rfl
  have hn : (assignEach [x, y] X.env).length = 2 := by rw [e1, e2, n0]; rfl
  have hst : (assignEach [x, y] X.env).findIdx? (·.1) = none := by rw [e1, e2, n0]; rfl
  have fin : ∀ d1 d2, (stTg a d1 ρ).bind (stTg b d2) = some ρ' → ∀ vs, RpAll X.K Hs vs [d1, d2] → ∃ u w, vs = [u, w] ∧ tbG X x u σ H fun σ' H' => ∃ v r, [w] = v :: r ∧ tbG X y v σ' H' fun σ'' H'' => r = [] ∧ Q σ'' H'' := fun d1 d2 he vs rv => by
    cases rv with
    | cons r1 rv =>
      cases rv with
      | cons r2 rv =>
        cases rv
        obtain ⟨ρ1, f1, f2⟩ := Option.bind_eq_some_iff.mp he
        refine ⟨_, _, rfl, ha _ _ _ _ _ _ _ _ _ _ _ s r1 f1 fun σ1 s1 w1 => ⟨_, _, rfl, hb _ _ _ _ _ _ _ _ _ _ _ s1 r2 f2 fun σ2 s2 w2 => ⟨rfl, q _ s2 fun is hi => ?_⟩⟩⟩
        rw [w2 is fun j hj => hi j (by simp [tgSlots, hj]), w1 is fun j hj => hi j (by simp [tgSlots, hj])]
  simp only [stTg] at he
  cases r <;> (try simp only [reduceCtorEq] at he)
  · rename_i k1 rv
    split at he <;> (try cases he)
    · rename_i ds d1 d2 hds
      cases hds
    · rename_i ds d1 d2 hds
      cases hds
      obtain ⟨u, w, rfl, g⟩ := fin _ _ he _ rv
      exact tb_g (pg_unl hc (pgs_cons pg_tb (pgs_cons pg_tb pgs_nil (by rw [e2]; rfl)) (by rw [e1]; rfl)) hn hst) ⟨_, _, rfl, sql_mono s.sh k1, rfl, _, _, rfl, g⟩
  · rename_i k1 rv
    split at he <;> (try cases he)
    · rename_i ds d1 d2 hds
      cases hds
      obtain ⟨u, w, rfl, g⟩ := fin _ _ he _ rv
      exact tb_g (pg_tup hc (pgs_cons pg_tb (pgs_cons pg_tb pgs_nil (by rw [e2]; rfl)) (by rw [e1]; rfl)) hn hst) ⟨_, _, rfl, sqt_mono s.sh k1.sqt, rfl, _, _, rfl, g⟩
    · rename_i ds d1 d2 hds
      cases hds
theorem g_three {a b c : Tg} {x y z : Expr} {k : Nat} {p : Pos} (hc : X.calm = true) (ha : SG X a x) (hb : SG X b y) (hd : SG X c z) (e1 : ∀ xs, assignEach (x :: xs) X.env = (false, assign x X.env) :: assignEach xs X.env) (e2 : ∀ xs, assignEach (y :: xs) X.env = (false, assign y X.env) :: assignEach xs X.env)
    (e3 : ∀ xs, assignEach (z :: xs) X.env = (false, assign z X.env) :: assignEach xs X.env) : SG X (.t3 a b c) (.Tuple [x, y, z] k p) := fun Fr Hs0 bs σ ρ H Hs v d ρ' Q s r he q => by
  have n0 : (assignEach [] X.env) = [] := rfl
  have hn : (assignEach [x, y, z] X.env).length = 3 := by rw [e1, e2, e3, n0]; rfl
  have hst : (assignEach [x, y, z] X.env).findIdx? (·.1) = none := by rw [e1, e2, e3, n0]; rfl
  have fin : ∀ d1 d2 d3, ((stTg a d1 ρ).bind (stTg b d2)).bind (stTg c d3) = some ρ' → ∀ vs, RpAll X.K Hs vs [d1, d2, d3] → ∃ u w w', vs = [u, w, w'] ∧ tbG X x u σ H fun σ' H' => ∃ v r, [w, w'] = v :: r ∧ tbG X y v σ' H' fun σ'' H'' => ∃ v' r', r = v' :: r' ∧ tbG X z v' σ'' H'' fun σ3 H3 => r' = [] ∧ Q σ3 H3 := fun d1 d2 d3 he vs rv => by
    cases rv with
    | cons r1 rv =>
      cases rv with
      | cons r2 rv =>
        cases rv with
        | cons r3 rv =>
          cases rv
          obtain ⟨ρ2, f12, f3⟩ := Option.bind_eq_some_iff.mp he
          obtain ⟨ρ1, f1, f2⟩ := Option.bind_eq_some_iff.mp f12
          refine ⟨_, _, _, rfl, ha _ _ _ _ _ _ _ _ _ _ _ s r1 f1 fun σ1 s1 w1 => ⟨_, _, rfl, hb _ _ _ _ _ _ _ _ _ _ _ s1 r2 f2 fun σ2 s2 w2 => ⟨_, _, rfl, hd _ _ _ _ _ _ _ _ _ _ _ s2 r3 f3 fun σ3 s3 w3 => ⟨rfl, q _ s3 fun is hi => ?_⟩⟩⟩⟩
          rw [w3 is fun j hj => hi j (by simp [tgSlots, hj]), w2 is fun j hj => hi j (by simp [tgSlots, hj]), w1 is fun j hj => hi j (by simp [tgSlots, hj])]
  simp only [stTg] at he
  cases r <;> (try simp only [reduceCtorEq] at he)
  · rename_i k1 rv
    split at he <;> (try cases he)
    · rename_i ds d1 d2 d3 hds
      cases hds
    · rename_i ds d1 d2 d3 hds
      cases hds
      obtain ⟨u, w, w', rfl, g⟩ := fin _ _ _ he _ rv
      exact tb_g (pg_unl hc (pgs_cons pg_tb (pgs_cons pg_tb (pgs_cons pg_tb pgs_nil (by rw [e3]; rfl)) (by rw [e2]; rfl)) (by rw [e1]; rfl)) hn hst) ⟨_, _, rfl, sql_mono s.sh k1, rfl, _, _, rfl, g⟩
  · rename_i k1 rv
    split at he <;> (try cases he)
    · rename_i ds d1 d2 d3 hds
      cases hds
      obtain ⟨u, w, w', rfl, g⟩ := fin _ _ _ he _ rv
      exact tb_g (pg_tup hc (pgs_cons pg_tb (pgs_cons pg_tb (pgs_cons pg_tb pgs_nil (by rw [e3]; rfl)) (by rw [e2]; rfl)) (by rw [e1]; rfl)) hn hst) ⟨_, _, rfl, sqt_mono s.sh k1.sqt, rfl, _, _, rfl, g⟩
    · rename_i ds d1 d2 d3 hds
      cases hds
theorem g_all {Γ : Tbl} {con : Nat → Option D} {n : Nat} {G : Sig} (K : XOk Γ con n G X) : ∀ (g : Tg) (x : Expr), chkTg X.N X.env.scope X.fn g x = true → SG X g x
  | .nm i, .Name x p, h => by
    simp only [chkTg, Bool.and_eq_true, decide_eq_true_eq] at h
    exact g_name K.nd h.1 h.2
  | .t2 a b, .Tuple [x, y] k p, h => by
    simp only [chkTg, Bool.and_eq_true] at h
    exact g_two K.calm (g_all K a x h.1) (g_all K b y h.2) (fun _ => ae_cons h.1) (fun _ => ae_cons h.2)
  | .t3 a b c, .Tuple [x, y, z] k p, h => by
    simp only [chkTg, Bool.and_eq_true] at h
    exact g_three K.calm (g_all K a x h.1.1) (g_all K b y h.1.2) (g_all K c z h.2) (fun _ => ae_cons h.1.1) (fun _ => ae_cons h.1.2) (fun _ => ae_cons h.2)
end
end MP
end

section
set_option Elab.async false
set_option linter.all false
set_option maxRecDepth 100000
set_option maxHeartbeats 8000000
namespace MP
open PySem PySem.Spec PyProof.Rows L2

/-! ### slots wiped and put back -/
theorem wipe_in {σ : L2.St} {i : Nat} : ∀ {vs : List Nat}, i ∈ vs → i < σ.length → (wipe σ vs)[i]? = some none
  | j :: vs, h, hl => by
    unfold wipe
    by_cases e : j = i
    · subst e
      rw [List.getElem?_set_self (by rw [wipe_length]; exact hl)]
    · rw [List.getElem?_set_ne e]
      rcases List.mem_cons.mp h with z | z
      · exact absurd z.symm e
      · exact wipe_in z hl
theorem wipe_wipe {σ : L2.St} {vs : List Nat} : wipe (wipe σ vs) vs = wipe σ vs := by
  apply List.ext_getElem?
  intro i
  by_cases h : i ∈ vs
  · by_cases hl : i < σ.length
    · rw [wipe_in h (by rw [wipe_length]; exact hl), wipe_in h hl]
    · rw [List.getElem?_eq_none (by rw [wipe_length, wipe_length]; omega), List.getElem?_eq_none (by rw [wipe_length]; omega)]
  · rw [wipe_out h]
def shOnly : Ent → Ent
  | .sh d => .sh d
  | _ => .un
theorem back_len {ρ ρ' : MP.Env} : ∀ own : List Nat, (back ρ ρ' own).length = ρ'.length
  | [] => rfl
  | i :: is => by
    unfold back
    rw [List.length_set]
    exact back_len is
theorem back_out {ρ ρ' : MP.Env} {j : Nat} : ∀ {own : List Nat}, j ∉ own → (back ρ ρ' own)[j]? = ρ'[j]?
  | [], _ => rfl
  | i :: is, h => by
    unfold back
    rw [List.getElem?_set_ne (fun z => h (by rw [z]; exact List.mem_cons_self))]
    exact back_out fun z => h (List.mem_cons_of_mem _ z)
theorem back_in {ρ ρ' : MP.Env} {j : Nat} : ∀ {own : List Nat}, j ∈ own → j < ρ'.length → (back ρ ρ' own)[j]? = some (shOnly (ρ.getD j .un))
  | i :: is, h, hl => by
    unfold back
    by_cases e : i = j
    · subst e
      rw [List.getElem?_set_self (by rw [back_len]; exact hl)]
      rfl
    · rw [List.getElem?_set_ne e]
      rcases List.mem_cons.mp h with z | z
      · exact absurd z.symm e
      · exact back_in z hl
section
variable {K : PySem.W.Frag} {Fr Hs0 : Hp} {bs : List (Nat × Addr)} {σ : L2.St} {ρ ρ1 ρr : MP.Env} {H H1 H2 Hs Hs1 Hs2 : Hp} {own : List Nat}
theorem Sta.wipe1 {i : Nat} (s : Sta K Fr Hs0 bs σ ρ H Hs) (hb : ∀ b ∈ bs, b.1 ≠ i) : Sta K Fr Hs0 bs (σ.set i none) (ρ.set i .un) H Hs :=
  ⟨s.fr, s.sh, s.s0, s.nw, by rw [List.length_set, List.length_set]; exact s.len, fun j e h => by
      by_cases k : i = j
      · subst k
        by_cases l : i < ρ.length
        · rw [List.getElem?_set_self l] at h; cases h; trivial
        · rw [List.getElem?_eq_none (by rw [List.length_set]; omega)] at h; cases h
      · rw [List.getElem?_set_ne k] at h
        rw [List.getElem?_set_ne k]
        exact s.ent j e h,
    fun a b x y p n h1 h2 o1 o2 p1 p2 => by
      have ow : ∀ (c : Nat) (z : Ent), (ρ.set i .un)[c]? = some z → isOwn z = true → i ≠ c ∧ ρ[c]? = some z := fun c z hz oz => by
        by_cases k : i = c
        · subst k
          by_cases l : i < ρ.length
          · rw [List.getElem?_set_self l] at hz; cases hz; cases oz
          · rw [List.getElem?_eq_none (by rw [List.length_set]; omega)] at hz; cases hz
        · rw [List.getElem?_set_ne k] at hz; exact ⟨k, hz⟩
      obtain ⟨ka, ha⟩ := ow a x h1 o1
      obtain ⟨kb, hb⟩ := ow b y h2 o2
      rw [List.getElem?_set_ne ka] at p1
      rw [List.getElem?_set_ne kb] at p2
      exact s.dj a b x y p n ha hb o1 o2 p1 p2,
    fun b hb' => by
      obtain ⟨h1, o, h2⟩ := s.bo b hb'
      have n := Ne.symm (hb b hb')
      exact ⟨by rw [List.getElem?_set_ne n]; exact h1, o, by rw [List.getElem?_set_ne n]; exact h2⟩⟩
theorem Sta.wiped (s : Sta K Fr Hs0 bs σ ρ H Hs) : ∀ {own : List Nat}, (∀ i ∈ own, ∀ b ∈ bs, b.1 ≠ i) → Sta K Fr Hs0 bs (wipe σ own) (wipeE ρ own) H Hs
  | [], _ => s
  | i :: is, h => (s.wiped (own := is) fun j hj => h j (List.mem_cons_of_mem _ hj)).wipe1 (h i List.mem_cons_self)
theorem shOnly_own (e : Ent) : isOwn (shOnly e) = false := by cases e <;> rfl
theorem back_own {j : Nat} {e : Ent} (h : (back ρ1 ρr own)[j]? = some e) (ho : isOwn e = true) : j ∉ own ∧ ρr[j]? = some e := by
  by_cases k : j ∈ own
  · have l : j < ρr.length := by
      have := (List.getElem?_eq_some_iff.mp h).1
      rw [back_len] at this; exact this
    rw [back_in k l] at h
    cases h
    rw [shOnly_own] at ho; cases ho
  · rw [back_out k] at h; exact ⟨k, h⟩
theorem Sta.backed (s1 : Sta K Fr Hs0 bs σ ρ1 H1 Hs1) (s2 : Sta K Fr Hs0 bs (wipe σ own) ρr H2 Hs2) (x : Ex Hs1 Hs2) (hb : ∀ i ∈ own, ∀ b ∈ bs, b.1 ≠ i) : Sta K Fr Hs0 bs σ (back ρ1 ρr own) H2 Hs2 :=
  ⟨s2.fr, s2.sh, s2.s0, s2.nw, by rw [back_len, ← s2.len, wipe_length], fun j e h => by
      by_cases k : j ∈ own
      · have l : j < ρr.length := by
          have := (List.getElem?_eq_some_iff.mp h).1
          rw [back_len] at this; exact this
        rw [back_in k l] at h
        cases h
        cases q : ρ1.getD j .un with
        | un => trivial
        | ow o => trivial
        | bo o => trivial
        | sh d =>
          obtain ⟨v, e1, e2⟩ := s1.ent j _ (getD_some q (by simp))
          exact ⟨v, e1, e2.mono x⟩
      · rw [back_out k] at h
        have z := s2.ent j e h
        rw [wipe_out k] at z
        exact z,
    fun a b x y p n h1 h2 o1 o2 p1 p2 => by
      obtain ⟨na, ha⟩ := back_own h1 o1
      obtain ⟨nb, hb⟩ := back_own h2 o2
      exact s2.dj a b x y p n ha hb o1 o2 (by rw [wipe_out na]; exact p1) (by rw [wipe_out nb]; exact p2),
    fun b hb' => by
      have nb : b.1 ∉ own := fun z => hb b.1 z b hb' rfl
      obtain ⟨h1, o, h2⟩ := s2.bo b hb'
      rw [wipe_out nb] at h1
      exact ⟨h1, o, by rw [back_out nb]; exact h2⟩⟩
theorem Not1.backed {q : Addr} (n : Not1 (wipe σ own) ρr q) : Not1 σ (back ρ1 ρr own) q := fun j e h ho z => by
  obtain ⟨nj, hj⟩ := back_own h ho
  exact n j e hj ho (by rw [wipe_out nj]; exact z)
/-- a pending own object is changed -/
theorem Sta.chgP {q : Addr} {ho : HO} (s : Sta K Fr Hs0 bs σ ρ H Hs) (hs : Hs q = none) (hf : Fr q = none) (n : Not1 σ ρ q) : Sta K Fr Hs0 bs σ ρ (upd H q ho) Hs :=
  ⟨s.fr.updR hf, s.sh.updR hs, s.s0, s.nw, s.len, fun i e he => by
      have k := s.ent i e he
      have oth : ∀ w, OwOk K Fr H Hs (σ[i]?) w → isOwn e = true → OwOk K Fr (upd H q ho) Hs (σ[i]?) w := fun w kw ow => by
        obtain ⟨p, u, e1, e2, e3, e4, e5⟩ := kw
        refine ⟨p, u, e1, ?_, e3, e4, e5⟩
        rw [upd_ne]
        · exact e2
        · intro z; subst z; exact n i e he ow e1
      cases e with
      | un => trivial
      | sh d => exact k
      | ow o => exact oth o k rfl
      | bo o => exact oth o k rfl, s.dj, s.bo⟩
end

/-! ### tests of a comprehension -/
def tbTs (X : Cx) (ifs : List Expr) : TT := fun σ H Q => ∀ pins s, Inv X pins σ H s →
  wpAny (model X.prog X.w) X.A (forIn ifs true fun c r => if r = true then do let ok ← isTrue c X.env (eval c X.env); pure (ForInStep.yield ok) else pure (ForInStep.yield r)) (TP X pins σ Q) X.xe s
theorem tb_ts {X : Cx} {ifs : List Expr} {t : TT} {σ : L2.St} {H : Hp} {Q : Bool → Hp → Prop} (h : PTs X ifs t) (q : t σ H Q) : tbTs X ifs σ H Q := fun pins s I => h.run pins s σ H Q I q
def STs (C : Cfg) (X : Cx) (es : Es) (fs : List Expr) : Prop :=
  ∀ Fr Hs0 bs σ ρ H Hs b ρ' (Q : Bool → Hp → Prop), Sta X.K Fr Hs0 bs σ ρ H Hs → evTs C es ρ = some (b, ρ') → (∀ H' Hs', Sta X.K Fr Hs0 bs σ ρ' H' Hs' → Ex Hs Hs' → Q b H') → tbTs X fs σ H Q
theorem ts_nil {C : Cfg} {X : Cx} : STs C X .nil [] := fun Fr Hs0 bs σ ρ H Hs b ρ' Q s he q => by
  cases he
  exact tb_ts pts_nil (q H Hs s (Ex.refl _))
theorem ts_one {C : Cfg} {X : Cx} {e : E} {x : Expr} (h : ST C X e x) : STs C X (.cons e .nil) [x] := fun Fr Hs0 bs σ ρ H Hs b ρ' Q s he q => by
  simp only [evTs, Option.bind_eq_some_iff] at he
  obtain ⟨⟨c, ρ1⟩, e1, e2⟩ := he
  have k : b = c ∧ ρ' = ρ1 := by
    cases c with
    | true => simp only [if_true] at e2; cases e2; exact ⟨rfl, rfl⟩
    | false => simp only [Bool.false_eq_true, if_false] at e2; cases e2; exact ⟨rfl, rfl⟩
  obtain ⟨rfl, rfl⟩ := k
  exact tb_ts (pts_one pt_tb) (h _ _ _ _ _ _ _ _ _ _ s e1 q)
theorem fold_set {i : Expr} {env : PySem.Env} (h : notSet i = true) : ∀ x, foldedSetIterable i env x = pure x := fun x => by
  cases i <;> first | rfl | cases h
theorem own_snd (N : List Str) (own : List Nat) : (ownNm N own).map (·.2) = own := by
  unfold ownNm
  rw [List.map_map]
  show own.map id = own
  exact List.map_id own

/-! ### the comprehension -/
abbrev bk (X : Cx) (scope : Scope) (s : Shared) (H : Hp) (c : Addr) (cl : List (Str × Addr)) (fp : List Addr) : Cx := X.blk s H scope (compEnvC scope cl c X.env) fp
def gB (X : Cx) (scope : Scope) (t : Expr) : TG := fun v σ H Q => ∀ s H0 c cl fp, tbG (bk X scope s H0 c cl fp) t v σ H Q
def tB (X : Cx) (scope : Scope) (fs : List Expr) : TT := fun σ H Q => ∀ s H0 c cl fp, tbTs (bk X scope s H0 c cl fp) fs σ H Q
def eB (X : Cx) (scope : Scope) (x : Expr) : TE := fun σ H Q => ∀ s H0 c cl fp, tbE (bk X scope s H0 c cl fp) x σ H Q
theorem s_lc {C : Cfg} {X : Cx} {scope : Scope} {elt : E} {tg : Tg} {it : It} {ifs : Es} {own : List Nat} {x t i : Expr} {fs : List Expr} {pos : Pos}
    (hc : X.calm = true) (nd : X.N.Nodup) (hblk : blkC X.N X.env.scope scope (ownNm X.N own) = true) (hts : ∀ k ∈ tgSlots tg, k ∈ own) (hni : notSet i = true) (hI : SI C X it t i)
    (hG : ∀ s H c cl fp, SG (bk X scope s H c cl fp) tg t) (hT : ∀ s H c cl fp, STs C (bk X scope s H c cl fp) ifs fs) (hE : ∀ s H c cl fp, SE C (bk X scope s H c cl fp) elt x) :
    (∀ Fr Hs0 bs σ ρ H Hs val ρ' (Q : VK), Sta X.K Fr Hs0 bs σ ρ H Hs → ev C (.lc elt tg it ifs own) ρ = some (val, ρ') → Kont X.K Fr Hs0 bs σ ρ' Hs val Q → tLc (tbI X t i) (gB X scope t) (tB X scope fs) (eB X scope x) ((ownNm X.N own).map (·.2)) σ H Q) := fun Fr Hs0 bs σ ρ H Hs val ρ' Q s he q => by
  simp only [ev, Option.bind_eq_some_iff] at he
  obtain ⟨⟨ds, ρ1⟩, e1, e2⟩ := he
  split at e2
  · cases e2
  · rename_i hbo
    simp only [Option.bind_eq_some_iff] at e2
    obtain ⟨_, e20, ⟨out, ρr⟩, e2, e3⟩ := e2
    cases e3
    have hlen : ds.length ≤ lim := ckN_ok e20
    rw [own_snd]
    refine hI _ _ _ _ _ _ _ _ _ _ s e1 fun J H1 Hs1 s1 x1 jk D hD => ?_
    have hb : ∀ i ∈ own, ∀ b ∈ bs, b.1 ≠ i := fun i hi => s1.notBo (by
      cases z : isBo ρ1 i with
      | false => rfl
      | true => exact absurd (List.any_eq_true.mpr ⟨i, hi, z⟩) hbo)
    have fD : Fr D = none := s1.fr.back hD
    have h0D : Hs0 D = none := s1.s0.back (s1.sh.back hD)
    have hsD : Hs1 D = none := s1.sh.back hD
    refine ⟨fun k m H' => m + k = ds.length ∧ ∃ ρk Hsk acc done rest, Sta X.K (upd Fr D (.lst acc)) Hs0 bs (wipe σ own) ρk H' Hsk ∧ Ex Hs1 Hsk ∧ RpAll X.K Hsk acc done ∧ done.length ≤ k ∧
      lcGo (fun ρ => toD (ev C elt ρ)) (fun ρ => evTs C ifs ρ) tg own (ds.drop k) ρk = some (rest, ρr) ∧ done ++ rest = out, ⟨ds.length, by omega, wipeE ρ1 own, Hs1, [], [], out, ?_, Ex.refl _, .nil, Nat.le_refl _, by simpa using e2, rfl⟩, fun k m H' hW => ?_⟩
    · have g := (s1.grow (.newH (o := .lst []) s1.sh hD)).frame upd_same hsD (s1.not1 hD)
      exact g.wiped hb
    · obtain ⟨hm, ρk, Hsk, acc, done, rest, sk, xk, rk, lk, ek, ok⟩ := hW
      obtain ⟨jg, js⟩ := jk k H' Hsk xk sk.sh
      by_cases hk : k < ds.length
      · obtain ⟨go, yl⟩ := jg ds[k] (List.getElem?_eq_getElem hk)
        rw [List.drop_eq_getElem_cons hk] at ek
        simp only [lcGo, Option.bind_eq_some_iff] at ek
        obtain ⟨ρa, f1, ⟨b, ρb⟩, f2, f3⟩ := ek
        refine .inr ⟨go, fun H'' => ∃ ρk Hsk acc done rest, Sta X.K (upd Fr D (.lst acc)) Hs0 bs (wipe σ own) ρk H'' Hsk ∧ Ex Hs1 Hsk ∧ RpAll X.K Hsk acc done ∧ done.length ≤ k + 1 ∧
          lcGo (fun ρ => toD (ev C elt ρ)) (fun ρ => evTs C ifs ρ) tg own (ds.drop (k + 1)) ρk = some (rest, ρr) ∧ done ++ rest = out, fun H'' hN => ⟨m - 1, by omega, by omega, hN⟩, fun v H2 hy => ?_⟩
        obtain ⟨Hs2, g2, r2⟩ := yl v H2 hy
        have s2 := sk.grow g2
        intro sa Ha ca cla fpa
        refine hG sa Ha ca cla fpa _ _ _ _ _ _ _ _ _ _ _ s2 r2 f1 fun σ3 s3 w3 => ⟨by rw [w3 own hts, wipe_wipe], ?_⟩
        intro sb Hb cb clb fpb
        refine hT sb Hb cb clb fpb _ _ _ _ _ _ _ _ _ _ s3 f2 fun H4 Hs4 s4 x4 => ?_
        have w4 : wipe σ3 own = wipe σ own := by rw [w3 own hts, wipe_wipe]
        cases b with
        | false =>
          rw [if_neg Bool.false_ne_true]
          simp only [Bool.false_eq_true, if_false] at f3
          refine ⟨wipeE ρb own, Hs4, acc, done, rest, ?_, (xk.trans g2.s).trans x4, (rk.mono g2.s).mono x4, by omega, f3, ok⟩
          have z := s4.wiped hb
          rw [w4] at z
          exact z
        | true =>
          rw [if_pos rfl]
          simp only [if_true, Option.bind_eq_some_iff] at f3
          obtain ⟨⟨d, ρc⟩, f4, ⟨rest', ρr'⟩, f5, f6⟩ := f3
          cases f6
          intro sc Hc cc clc fpc
          refine (hE sc Hc cc clc fpc).d _ _ _ _ _ _ _ _ _ _ s4 f4 fun y H5 Hs5 s5 x5 r5 => ?_
          obtain ⟨u5, hD5, hs5, n5⟩ := s5.unframe fD h0D
          have la := rk.length
          have ll := lim_line
          refine ⟨acc, hD5, by omega, wipeE ρc own, Hs5, acc ++ [y], done ++ [d], rest', ?_, ((xk.trans g2.s).trans x4).trans x5, (((rk.mono g2.s).mono x4).mono x5).append (.cons r5 .nil), by rw [List.length_append]; simp; omega, f5, by rw [List.append_assoc]; exact ok⟩
          have z := ((u5.chgP (ho := .lst (acc ++ [y])) hs5 fD n5).frame upd_same hs5 n5).wiped hb
          rw [w4] at z
          exact z
      · have ek' : k = ds.length := by omega
        subst ek'
        rw [List.drop_length] at ek
        cases ek
        rw [List.append_nil] at ok
        subst ok
        obtain ⟨u, hDk, hsk, nk⟩ := sk.unframe fD h0D
        exact .inl ⟨js rfl, q _ _ _ (s1.backed u xk hb) (x1.trans xk) ⟨D, .lst acc, rfl, hDk, rk, hsk, fD, nk.backed⟩⟩
theorem s_lcE {C : Cfg} {X : Cx} {scope : Scope} {elt : E} {tg : Tg} {it : It} {ifs : Es} {own : List Nat} {x t i : Expr} {fs : List Expr} {pos : Pos}
    (hc : X.calm = true) (nd : X.N.Nodup) (hblk : blkC X.N X.env.scope scope (ownNm X.N own) = true) (hts : ∀ k ∈ tgSlots tg, k ∈ own) (hni : notSet i = true) (hI : SI C X it t i)
    (hG : ∀ s H c cl fp, SG (bk X scope s H c cl fp) tg t) (hT : ∀ s H c cl fp, STs C (bk X scope s H c cl fp) ifs fs) (hE : ∀ s H c cl fp, SE C (bk X scope s H c cl fp) elt x) :
    SE C X (.lc elt tg it ifs own) (.ListComp x [⟨t, i, fs, 0⟩] scope pos) := fun Fr Hs0 bs σ ρ H Hs val ρ' Q s he q =>
  tb_e (pe_lc hc nd pi_tb (blkOk_by hblk) (g := gB X scope t) (tt := tB X scope fs) (te := eB X scope x) (fun s H c cl fp => ⟨fun pins s' σ H v u Q I r h => h _ _ _ _ _ pins s' u I r⟩) (fun s H c cl fp => ⟨fun pins s' σ H Q I h => h _ _ _ _ _ pins s' I⟩)
    (fun s H c cl fp => ⟨fun pins s' σ H Q I h => h _ _ _ _ _ pins s' I⟩) (fold_set hni)) (s_lc (pos := pos) hc nd hblk hts hni hI hG hT hE Fr Hs0 bs σ ρ H Hs val ρ' Q s he q)
end MP
end

section
set_option Elab.async false
set_option linter.all false
set_option maxRecDepth 100000
set_option maxHeartbeats 8000000
namespace MP
open PySem PySem.Spec PyProof.Rows L2
/-! ### dicts whose keys are tuples of ints -/
theorem KvR.len {K : PySem.W.Frag} {Hs : Hp} : ∀ {kvs : List (List Int × D)} {ws : List (List Key × V)}, KvR K Hs kvs ws → kvs.length = ws.length
  | _, _, .nil => rfl
  | _, _, .cons _ r => congrArg (· + 1) r.len
theorem mapInl_inj : ∀ {a b : List Int}, (a.map (Sum.inl : Int → Key)) = b.map Sum.inl → a = b
  | [], [], _ => rfl
  | [], _ :: _, h => by cases h
  | _ :: _, [], h => by cases h
  | x :: a, y :: b, h => by
    rw [List.map_cons, List.map_cons, List.cons.injEq] at h
    obtain ⟨h1, h2⟩ := h
    cases h1
    rw [mapInl_inj h2]
theorem KvR.get {K : PySem.W.Frag} {Hs : Hp} {k : List Int} : ∀ {kvs : List (List Int × D)} {ws : List (List Key × V)}, KvR K Hs kvs ws → (kvGet kvs k = none ∧ valV ws (k.map Sum.inl) = none) ∨ ∃ d v, kvGet kvs k = some d ∧ valV ws (k.map Sum.inl) = some v ∧ Rp K Hs v d
  | _, _, .nil => .inl ⟨rfl, rfl⟩
  | _, _, .cons (k := j) (d := d) (v := v) a r => by
    by_cases e : j = k
    · subst e
      exact .inr ⟨d, v, by simp [kvGet], valV_pos rfl, a⟩
    · have e2 : ¬ (j.map (Sum.inl : Int → Key)) = k.map Sum.inl := fun z => e (mapInl_inj z)
      rw [valV_neg e2]
      have e3 : ∀ kvs, kvGet ((j, d) :: kvs) k = kvGet kvs k := fun kvs => by simp [kvGet, List.find?_cons, e]
      rw [e3]
      exact KvR.get r
theorem KvR.any {K : PySem.W.Frag} {Hs : Hp} {k : List Int} : ∀ {kvs : List (List Int × D)} {ws : List (List Key × V)}, KvR K Hs kvs ws → (kvs.any fun kv => decide (kv.1 = k)) = ws.any fun kv => decide (kv.1 = k.map Sum.inl)
  | _, _, .nil => rfl
  | _, _, .cons (k := j) a r => by
    rw [List.any_cons, List.any_cons, KvR.any r]
    congr 1
    exact decide_eq_decide.mpr ⟨fun (e : j = k) => congrArg (List.map Sum.inl) e, mapInl_inj⟩
theorem KvR.repl {K : PySem.W.Frag} {Hs : Hp} {k : List Int} {v : V} {d : D} (h : Rp K Hs v d) : ∀ {kvs : List (List Int × D)} {ws : List (List Key × V)}, KvR K Hs kvs ws →
    KvR K Hs (kvs.map fun kv => if kv.1 = k then (kv.1, d) else kv) (ws.map fun kv => if kv.1 = k.map Sum.inl then (kv.1, v) else kv)
  | _, _, .nil => .nil
  | _, _, .cons (k := j) a r => by
    rw [List.map_cons, List.map_cons]
    by_cases e : j = k
    · subst e
      rw [if_pos rfl, if_pos rfl]
      exact .cons h (KvR.repl h r)
    · rw [if_neg e, if_neg fun z => e (mapInl_inj z)]
      exact .cons a (KvR.repl h r)
theorem KvR.snoc {K : PySem.W.Frag} {Hs : Hp} {k : List Int} {v : V} {d : D} (h : Rp K Hs v d) : ∀ {kvs : List (List Int × D)} {ws : List (List Key × V)}, KvR K Hs kvs ws → KvR K Hs (kvs ++ [(k, d)]) (ws ++ [(k.map Sum.inl, v)])
  | _, _, .nil => .cons h .nil
  | _, _, .cons a r => .cons a (KvR.snoc h r)
theorem KvR.put {K : PySem.W.Frag} {Hs : Hp} {k : List Int} {v : V} {d : D} {kvs : List (List Int × D)} {ws : List (List Key × V)} (h : Rp K Hs v d) (r : KvR K Hs kvs ws) : KvR K Hs (kvPut kvs k d) (putK ws (k.map Sum.inl) v) := by
  unfold kvPut putK
  rw [r.any (k := k)]
  by_cases e : (ws.any fun kv => decide (kv.1 = k.map Sum.inl)) = true
  · rw [if_pos e, if_pos e]
    exact r.repl h
  · rw [if_neg e, if_neg e]
    exact r.snoc h
theorem map_kV (ns : List Int) : (ns.map (Sum.inl : Int → Key)).map kV = ns.map V.int := by
  rw [List.map_map]
  rfl
/-- a key's object -/
theorem key_ok {K : PySem.W.Frag} {Hs : Hp} {v : V} {d : D} {ky : List Int} (r : Rp K Hs v d) (h : keyD d = some ky) : ∃ b, v = .ref b ∧ Hs b = some (.tup ((ky.map Sum.inl).map kV)) := by
  unfold keyD at h
  split at h
  · rename_i xs
    split at h
    · cases h
    · rename_i hne
      cases r with
      | @tup a vs _ k rv =>
        have e := rv.intsD h
        rw [map_kV]
        rcases k with k | ⟨k, _⟩
        · exact ⟨_, rfl, by rw [k, e]⟩
        · subst k
          cases rv
          exact absurd rfl hne
  · cases h
theorem dicAt_ok {K : PySem.W.Frag} {Fr Hs0 : Hp} {bs : List (Nat × Addr)} {σ : L2.St} {ρ : MP.Env} {H Hs : Hp} {i : Nat} {kvs : List (List Int × D)} (s : Sta K Fr Hs0 bs σ ρ H Hs) (h : dicAt ρ i = some kvs) : ∃ p ws, σ[i]? = some (some (V.ref p)) ∧ H p = some (.dT ws) ∧ KvR K Hs kvs ws := by
  unfold dicAt at h
  have key : ∀ kvs, OwOk K Fr H Hs (σ[i]?) (.dic kvs) → ∃ p ws, σ[i]? = some (some (V.ref p)) ∧ H p = some (.dT ws) ∧ KvR K Hs kvs ws := fun kvs k => by
    obtain ⟨p, ho, e1, e2, e3, _⟩ := k
    obtain ⟨ws, rfl, r⟩ := e3.dic
    exact ⟨p, ws, e1, e2, r⟩
  split at h
  · rename_i w hw
    cases h
    exact key _ (s.ent i _ (getD_some hw (by simp)))
  · rename_i w hw
    cases h
    exact key _ (s.ent i _ (getD_some hw (by simp)))
  · cases h
section
variable {C : Cfg} {X : Cx} {Γ : Tbl} {con : Nat → Option D} {n : Nat} {G : Sig}
theorem XOk.hu1 (K : XOk Γ con n G X) : X.A.units + 1 < cLine := by have := K.room.un; omega
theorem s_dnew {pos : Pos} : SE C X .dnew (.Dict [] [] pos) := fun Fr Hs0 bs σ ρ H Hs val ρ' Q s he q => by
  cases he
  refine tb_e pe_dnewT fun p hp => ?_
  obtain ⟨s1, v1⟩ := s.newOw (o := .dic []) (ho := .dT []) hp .nil
  exact q _ _ _ s1 (Ex.refl _) v1
theorem din_core {ng : Bool} {i : Nat} {k : E} {x : Str} {y : Expr} {px : Pos} {Fr Hs0 : Hp} {bs : List (Nat × Addr)} {σ : L2.St} {ρ ρ' : MP.Env} {H Hs : Hp} {val : Val} {Q : VK} (h : SE C X k y) (s : Sta X.K Fr Hs0 bs σ ρ H Hs) (he : ev C (.din ng i k) ρ = some (val, ρ'))
    (q : ∀ b H' Hs', val = .sh (.bool b) → Sta X.K Fr Hs0 bs σ ρ' H' Hs' → Ex Hs Hs' → Q (.bl b) H') :
    tbE X y σ H fun u H1 => ∃ v, σ[i]? = some (some v) ∧ ∃ a o, v = .ref a ∧ DGet H1 a u o ∧ Q (.bl (if ng then !o.isSome else o.isSome)) H1 := by
  simp only [ev, Option.bind_eq_some_iff] at he
  obtain ⟨⟨d, ρ1⟩, e1, ky, e2, kvs, e3, e4⟩ := he
  cases e4
  refine h.d _ _ _ _ _ _ _ _ _ _ s e1 fun u H1 Hs1 s1 x1 r1 => ?_
  obtain ⟨b, rfl, hb⟩ := key_ok r1 e2
  obtain ⟨p, ws, f1, f2, f3⟩ := dicAt_ok s1 e3
  refine ⟨_, f1, p, _, rfl, DGet.t f2 (s1.sh _ _ hb), ?_⟩
  rcases f3.get (k := ky) with ⟨g1, g2⟩ | ⟨d', v', g1, g2, g3⟩
  · rw [g2]
    refine q _ H1 Hs1 ?_ s1 x1
    rw [g1]; cases ng <;> rfl
  · rw [g2]
    refine q _ H1 Hs1 ?_ s1 x1
    rw [g1]; cases ng <;> rfl
theorem s_din {ng : Bool} {i : Nat} {k : E} {x : Str} {y : Expr} {p : CmpOp} {px pos : Pos} (K : XOk Γ con n G X) (hp : (match p with | .In => !ng | .NotIn => ng | _ => false) = true) (h1 : X.N[i]? = some x) (h2 : visB X.env.scope x = true) (h3 : nmOk x = true) (h : SE C X k y) :
    SE C X (.din ng i k) (.Compare y [p] [.Name x px] pos) := fun Fr Hs0 bs σ ρ H Hs val ρ' Q s he q => by
  obtain ⟨d1, d2, _⟩ := nm_of h3
  have g := din_core (px := px) (x := x) (Q := Q) h s he fun b H' Hs' ev s' x' => by subst ev; exact q _ _ _ s' x' (.bl b)
  cases ng with
  | true =>
    have ep : p = .NotIn := by cases p <;> first | rfl | cases hp
    subst ep
    exact tb_e (pe_cmp (pc_dnotin K.hu1 pe_tb (pe_var h1 (vis_of h2) d1 d2)) (ne_set rfl)) g
  | false =>
    have ep : p = .In := by cases p <;> first | rfl | cases hp
    subst ep
    exact tb_e (pe_cmp (pc_din K.hu1 pe_tb (pe_var h1 (vis_of h2) d1 d2)) (ne_set rfl)) g
theorem t_din {ng : Bool} {i : Nat} {k : E} {x : Str} {y : Expr} {p : CmpOp} {px pos : Pos} (K : XOk Γ con n G X) (hp : (match p with | .In => !ng | .NotIn => ng | _ => false) = true) (h1 : X.N[i]? = some x) (h2 : visB X.env.scope x = true) (h3 : nmOk x = true) (h : SE C X k y) :
    ST C X (.din ng i k) (.Compare y [p] [.Name x px] pos) := fun Fr Hs0 bs σ ρ H Hs b0 ρ' Q s he q => by
  obtain ⟨d1, d2, _⟩ := nm_of h3
  obtain ⟨val, h4, h5⟩ := toD_inv (toB_inv he)
  have g := din_core (px := px) (x := x) (Q := fun v H => ∃ b, v = .bl b ∧ Q b H) h s h4 fun b H' Hs' ev s' x' => by subst ev; cases h5; exact ⟨_, rfl, q _ _ s' x'⟩
  cases ng with
  | true =>
    have ep : p = .NotIn := by cases p <;> first | rfl | cases hp
    subst ep
    exact tb_t (pt_cmp (pc_dnotin K.hu1 pe_tb (pe_var h1 (vis_of h2) d1 d2)) (ne_set rfl)) rfl g
  | false =>
    have ep : p = .In := by cases p <;> first | rfl | cases hp
    subst ep
    exact tb_t (pt_cmp (pc_din K.hu1 pe_tb (pe_var h1 (vis_of h2) d1 d2)) (ne_set rfl)) rfl g
theorem s_dget {i : Nat} {k : E} {x : Str} {y : Expr} {px pos : Pos} (K : XOk Γ con n G X) (hs : notSlice y = true) (h1 : X.N[i]? = some x) (h2 : visB X.env.scope x = true) (h3 : nmOk x = true) (h : SE C X k y) :
    SE C X (.dget i k) (.Subscript (.Name x px) y pos) := fun Fr Hs0 bs σ ρ H Hs val ρ' Q s he q => by
  obtain ⟨d1, d2, _⟩ := nm_of h3
  simp only [ev, Option.bind_eq_some_iff] at he
  obtain ⟨kv0, e0, ⟨d, ρ1⟩, e1, ky, e2, kvs, e3, d', e4, e5⟩ := he
  cases e5
  obtain ⟨p0, ws0, f0, _⟩ := dicAt_ok s e0
  refine tb_e (pe_dget K.hu1 (pe_var h1 (vis_of h2) d1 d2) pe_tb (ix_plain hs)) ⟨_, f0, h.d _ _ _ _ _ _ _ _ _ _ s e1 fun u H1 Hs1 s1 x1 r1 => ?_⟩
  obtain ⟨b, rfl, hb⟩ := key_ok r1 e2
  obtain ⟨p, ws, f1, f2, f3⟩ := dicAt_ok s1 e3
  rw [f0] at f1
  cases f1
  rcases f3.get (k := ky) with ⟨g1, g2⟩ | ⟨d'', v', g1, g2, g3⟩
  · rw [g1] at e4; cases e4
  · rw [g1] at e4
    cases e4
    have dg := DGet.t (k := ky.map Sum.inl) f2 (s1.sh _ _ hb)
    rw [g2] at dg
    exact ⟨p0, v', rfl, dg, q _ _ _ s1 x1 g3⟩
end
end MP
end

section
set_option Elab.async false
set_option linter.all false
set_option maxRecDepth 100000
set_option maxHeartbeats 8000000
namespace MP
open PySem PySem.Spec PyProof.Rows L2

/-! ### two fors in one comprehension -/
theorem wipe_sub {σ : L2.St} {vs1 vs : List Nat} (h : ∀ i ∈ vs1, i ∈ vs) : wipe (wipe σ vs1) vs = wipe σ vs := by
  apply List.ext_getElem?
  intro i
  by_cases hi : i ∈ vs
  · by_cases hl : i < σ.length
    · rw [wipe_in hi (by rw [wipe_length]; exact hl), wipe_in hi hl]
    · rw [List.getElem?_eq_none (by rw [wipe_length, wipe_length]; omega), List.getElem?_eq_none (by rw [wipe_length]; omega)]
  · rw [wipe_out hi, wipe_out hi, wipe_out fun z => hi (h i z)]
def iB (X : Cx) (scope : Scope) (t i : Expr) : TI := fun σ H R => ∀ s H0 c cl fp, tbI (bk X scope s H0 c cl fp) t i σ H R
section
variable {C : Cfg} {X : Cx} {scope : Scope} {elt : E} {tg tg' : Tg} {it it' : It} {ifs ifs' : Es} {own : List Nat} {x t i t' i' : Expr} {fs fs' : List Expr}
theorem s_lc2 (hts : ∀ k ∈ tgSlots tg, k ∈ own) (hts' : ∀ k ∈ tgSlots tg', k ∈ own) (hI : SI C X it t i)
    (hG : ∀ s H c cl fp, SG (bk X scope s H c cl fp) tg t) (hT : ∀ s H c cl fp, STs C (bk X scope s H c cl fp) ifs fs) (hI' : ∀ s H c cl fp, SI C (bk X scope s H c cl fp) it' t' i')
    (hG' : ∀ s H c cl fp, SG (bk X scope s H c cl fp) tg' t') (hT' : ∀ s H c cl fp, STs C (bk X scope s H c cl fp) ifs' fs') (hE : ∀ s H c cl fp, SE C (bk X scope s H c cl fp) elt x) :
    (∀ Fr Hs0 bs σ ρ H Hs val ρ' (Q : VK), Sta X.K Fr Hs0 bs σ ρ H Hs → ev C (.lc2 elt tg it ifs tg' it' ifs' own) ρ = some (val, ρ') → Kont X.K Fr Hs0 bs σ ρ' Hs val Q →
      tLc2 (tbI X t i) (gB X scope t) (tB X scope fs) (iB X scope t' i') (gB X scope t') (tB X scope fs') (eB X scope x) ((ownNm X.N own).map (·.2)) (tgSlots tg') σ H Q) := fun Fr Hs0 bs σ ρ H Hs val ρ' Q s he q => by
  simp only [ev, Option.bind_eq_some_iff] at he
  obtain ⟨⟨ds, ρ1⟩, e1, e2⟩ := he
  split at e2
  · cases e2
  · rename_i hbo
    simp only [Option.bind_eq_some_iff] at e2
    obtain ⟨⟨out, ρr⟩, e2, e3⟩ := e2
    split at e3
    · rename_i hlen
      cases e3
      simp only at e2 hlen
      rw [own_snd]
      refine hI _ _ _ _ _ _ _ _ _ _ s e1 fun J H1 Hs1 s1 x1 jk D hD => ?_
      have hb : ∀ i ∈ own, ∀ b ∈ bs, b.1 ≠ i := fun i hi => s1.notBo (by
        cases z : isBo ρ1 i with
        | false => rfl
        | true => exact absurd (List.any_eq_true.mpr ⟨i, hi, z⟩) hbo)
      have hb1 : ∀ i ∈ tgSlots tg', ∀ b ∈ bs, b.1 ≠ i := fun i hi => hb i (hts' i hi)
      have fD : Fr D = none := s1.fr.back hD
      have h0D : Hs0 D = none := s1.s0.back (s1.sh.back hD)
      have hsD : Hs1 D = none := s1.sh.back hD
      have ll := lim_line
      generalize hgo : (fun ρ => (evI C it' ρ).bind fun q => lcGo (fun ρ => toD (ev C elt ρ)) (fun ρ => evTs C ifs' ρ) tg' (tgSlots tg') q.1 (wipeE q.2 (tgSlots tg'))) = gI at e2
      refine ⟨fun k m H' => m + k = ds.length ∧ ∃ ρk Hsk acc done rest, Sta X.K (upd Fr D (.lst acc)) Hs0 bs (wipe σ own) ρk H' Hsk ∧ Ex Hs1 Hsk ∧ RpAll X.K Hsk acc done ∧
        lcGo2 gI (fun ρ => evTs C ifs ρ) tg own (ds.drop k) ρk = some (rest, ρr) ∧ done ++ rest = out, ⟨ds.length, by omega, wipeE ρ1 own, Hs1, [], [], out, ?_, Ex.refl _, .nil, by simpa using e2, rfl⟩, fun k m H' hW => ?_⟩
      · have g := (s1.grow (.newH (o := .lst []) s1.sh hD)).frame upd_same hsD (s1.not1 hD)
        exact g.wiped hb
      · obtain ⟨hm, ρk, Hsk, acc, done, rest, sk, xk, rk, ek, ok⟩ := hW
        obtain ⟨jg, js⟩ := jk k H' Hsk xk sk.sh
        by_cases hk : k < ds.length
        · obtain ⟨go, yl⟩ := jg ds[k] (List.getElem?_eq_getElem hk)
          rw [List.drop_eq_getElem_cons hk] at ek
          simp only [lcGo2, Option.bind_eq_some_iff] at ek
          obtain ⟨ρa, f1, ⟨b, ρb⟩, f2, f3⟩ := ek
          refine .inr ⟨go, fun H'' => ∃ ρk Hsk acc done rest, Sta X.K (upd Fr D (.lst acc)) Hs0 bs (wipe σ own) ρk H'' Hsk ∧ Ex Hs1 Hsk ∧ RpAll X.K Hsk acc done ∧
            lcGo2 gI (fun ρ => evTs C ifs ρ) tg own (ds.drop (k + 1)) ρk = some (rest, ρr) ∧ done ++ rest = out, fun H'' hN => ⟨m - 1, by omega, by omega, hN⟩, fun v H2 hy => ?_⟩
          obtain ⟨Hs2, g2, r2⟩ := yl v H2 hy
          have s2 := sk.grow g2
          intro sa Ha ca cla fpa
          refine hG sa Ha ca cla fpa _ _ _ _ _ _ _ _ _ _ _ s2 r2 f1 fun σ3 s3 w3 => ⟨by rw [w3 own hts, wipe_wipe], ?_⟩
          have w4 : wipe σ3 own = wipe σ own := by rw [w3 own hts, wipe_wipe]
          intro sb Hb cb clb fpb
          refine hT sb Hb cb clb fpb _ _ _ _ _ _ _ _ _ _ s3 f2 fun H4 Hs4 s4 x4 => ?_
          cases b with
          | false =>
            rw [if_neg Bool.false_ne_true]
            simp only [Bool.false_eq_true, if_false] at f3
            refine ⟨wipeE ρb own, Hs4, acc, done, rest, ?_, (xk.trans g2.s).trans x4, (rk.mono g2.s).mono x4, f3, ok⟩
            have z := s4.wiped hb
            rw [w4] at z
            exact z
          | true =>
            rw [if_pos rfl]
            simp only [if_true, Option.bind_eq_some_iff] at f3
            obtain ⟨⟨inner, ρin⟩, f4, ⟨rest', ρr'⟩, f5, f6⟩ := f3
            cases f6
            rw [← hgo] at f4
            simp only [Option.bind_eq_some_iff] at f4
            obtain ⟨⟨ds1, ρq⟩, f7, f8⟩ := f4
            simp only at f8
            intro sc Hc cc clc fpc
            refine hI' sc Hc cc clc fpc _ _ _ _ _ _ _ _ _ _ s4 f7 fun J1 H5 Hs5 s5 x5 jk1 => ?_
            refine ⟨fun j kk Hj => kk + j = ds1.length ∧ ∃ ρj Hsj accj donej restj, Sta X.K (upd Fr D (.lst accj)) Hs0 bs (wipe σ3 (tgSlots tg')) ρj Hj Hsj ∧ Ex Hs5 Hsj ∧ RpAll X.K Hsj accj donej ∧
              lcGo (fun ρ => toD (ev C elt ρ)) (fun ρ => evTs C ifs' ρ) tg' (tgSlots tg') (ds1.drop j) ρj = some (restj, ρin) ∧ donej ++ restj = done ++ inner, ⟨ds1.length, by omega, wipeE ρq (tgSlots tg'), Hs5, acc, done, inner, s5.wiped hb1, Ex.refl _, ((rk.mono g2.s).mono x4).mono x5, by simpa using f8, rfl⟩, fun j kk Hj hW1 => ?_⟩
            obtain ⟨hkk, ρj, Hsj, accj, donej, restj, sj, xj, rj, ej, oj⟩ := hW1
            obtain ⟨jg1, js1⟩ := jk1 j Hj Hsj xj sj.sh
            by_cases hj : j < ds1.length
            · obtain ⟨go1, yl1⟩ := jg1 ds1[j] (List.getElem?_eq_getElem hj)
              rw [List.drop_eq_getElem_cons hj] at ej
              simp only [lcGo, Option.bind_eq_some_iff] at ej
              obtain ⟨ρa1, p1, ⟨b1, ρb1⟩, p2, p3⟩ := ej
              refine .inr ⟨go1, fun Hj => ∃ ρj Hsj accj donej restj, Sta X.K (upd Fr D (.lst accj)) Hs0 bs (wipe σ3 (tgSlots tg')) ρj Hj Hsj ∧ Ex Hs5 Hsj ∧ RpAll X.K Hsj accj donej ∧
                lcGo (fun ρ => toD (ev C elt ρ)) (fun ρ => evTs C ifs' ρ) tg' (tgSlots tg') (ds1.drop (j + 1)) ρj = some (restj, ρin) ∧ donej ++ restj = done ++ inner, fun H'' hN => ⟨kk - 1, by omega, by omega, hN⟩, fun v1 H6 hy1 => ?_⟩
              obtain ⟨Hs6, g6, r6⟩ := yl1 v1 H6 hy1
              have s6 := sj.grow g6
              intro sd Hd cd cld fpd
              refine hG' sd Hd cd cld fpd _ _ _ _ _ _ _ _ _ _ _ s6 r6 p1 fun σ7 s7 w7 => ⟨by rw [w7 (tgSlots tg') (fun _ h => h), wipe_wipe], ?_⟩
              have w8 : wipe σ7 (tgSlots tg') = wipe σ3 (tgSlots tg') := by rw [w7 (tgSlots tg') (fun _ h => h), wipe_wipe]
              intro se' He ce cle fpe
              refine hT' se' He ce cle fpe _ _ _ _ _ _ _ _ _ _ s7 p2 fun H8 Hs8 s8 x8 => ?_
              cases b1 with
              | false =>
                rw [if_neg Bool.false_ne_true]
                simp only [Bool.false_eq_true, if_false] at p3
                refine ⟨wipeE ρb1 (tgSlots tg'), Hs8, accj, donej, restj, ?_, (xj.trans g6.s).trans x8, (rj.mono g6.s).mono x8, p3, oj⟩
                have z := s8.wiped hb1
                rw [w8] at z
                exact z
              | true =>
                rw [if_pos rfl]
                simp only [if_true, Option.bind_eq_some_iff] at p3
                obtain ⟨⟨d, ρc⟩, p4, ⟨rest2, ρin'⟩, p5, p6⟩ := p3
                cases p6
                intro sf Hf cf clf fpf
                refine (hE sf Hf cf clf fpf).d _ _ _ _ _ _ _ _ _ _ s8 p4 fun y H9 Hs9 s9 x9 r9 => ?_
                obtain ⟨u9, hD9, hs9, n9⟩ := s9.unframe fD h0D
                have la := rj.length
                have lo : donej.length < out.length := by
                  have o1 := congrArg List.length ok
                  have o2 := congrArg List.length oj
                  simp only [List.length_append, List.length_cons] at o1 o2
                  omega
                refine ⟨accj, hD9, by omega, wipeE ρc (tgSlots tg'), Hs9, accj ++ [y], donej ++ [d], rest2, ?_, ((xj.trans g6.s).trans x8).trans x9, (((rj.mono g6.s).mono x8).mono x9).append (.cons r9 .nil), p5, by rw [List.append_assoc]; exact oj⟩
                have z := ((u9.chgP (ho := .lst (accj ++ [y])) hs9 fD n9).frame upd_same hs9 n9).wiped hb1
                rw [w8] at z
                exact z
            · have ek' : j = ds1.length := by omega
              subst ek'
              rw [List.drop_length] at ej
              cases ej
              rw [List.append_nil] at oj
              refine .inl ⟨js1 rfl, wipeE ρin own, Hsj, accj, donej, rest', ?_, (((xk.trans g2.s).trans x4).trans x5).trans xj, rj, f5, by rw [oj, List.append_assoc]; exact ok⟩
              have z := sj.wiped hb
              rw [wipe_sub hts', w4] at z
              exact z
        · have ek' : k = ds.length := by omega
          subst ek'
          rw [List.drop_length] at ek
          cases ek
          rw [List.append_nil] at ok
          subst ok
          obtain ⟨u, hDk, hsk, nk⟩ := sk.unframe fD h0D
          exact .inl ⟨js rfl, q _ _ _ (s1.backed u xk hb) (x1.trans xk) ⟨D, .lst acc, rfl, hDk, rk, hsk, fD, nk.backed⟩⟩
    · cases e3
theorem fold_set' {i : Expr} (h : notSet i = true) : ∀ env x, foldedSetIterable i env x = pure x := fun env x => by
  cases i <;> first | rfl | cases h
theorem s_lc2E {pos : Pos} (hc : X.calm = true) (nd : X.N.Nodup) (hblk : blkC X.N X.env.scope scope (ownNm X.N own) = true) (hts : ∀ k ∈ tgSlots tg, k ∈ own) (hts' : ∀ k ∈ tgSlots tg', k ∈ own) (hni : notSet i = true) (hni' : notSet i' = true) (hI : SI C X it t i)
    (hG : ∀ s H c cl fp, SG (bk X scope s H c cl fp) tg t) (hT : ∀ s H c cl fp, STs C (bk X scope s H c cl fp) ifs fs) (hI' : ∀ s H c cl fp, SI C (bk X scope s H c cl fp) it' t' i')
    (hG' : ∀ s H c cl fp, SG (bk X scope s H c cl fp) tg' t') (hT' : ∀ s H c cl fp, STs C (bk X scope s H c cl fp) ifs' fs') (hE : ∀ s H c cl fp, SE C (bk X scope s H c cl fp) elt x) :
    SE C X (.lc2 elt tg it ifs tg' it' ifs' own) (.ListComp x [⟨t, i, fs, 0⟩, ⟨t', i', fs', 0⟩] scope pos) := fun Fr Hs0 bs σ ρ H Hs val ρ' Q s he q =>
  tb_e (pe_lc2 hc nd pi_tb (blkOk_by hblk) (by rw [own_snd]; exact hts') (g := gB X scope t) (tt := tB X scope fs) (wi1 := iB X scope t' i') (g1 := gB X scope t') (tt1 := tB X scope fs') (te := eB X scope x) (fun s H c cl fp => ⟨fun pins s' σ H v u Q I r h => h _ _ _ _ _ pins s' u I r⟩)
    (fun s H c cl fp => ⟨fun pins s' σ H Q I h => h _ _ _ _ _ pins s' I⟩) (fun s H c cl fp => ⟨fun pins s' σ H R I h => h _ _ _ _ _ pins s' I⟩) (fun s H c cl fp => ⟨fun pins s' σ H v u Q I r h => h _ _ _ _ _ pins s' u I r⟩)
    (fun s H c cl fp => ⟨fun pins s' σ H Q I h => h _ _ _ _ _ pins s' I⟩) (fun s H c cl fp => ⟨fun pins s' σ H Q I h => h _ _ _ _ _ pins s' I⟩) (fold_set hni) (fold_set' hni')) (s_lc2 hts hts' hI hG hT hI' hG' hT' hE Fr Hs0 bs σ ρ H Hs val ρ' Q s he q)
end
end MP
end

section
set_option Elab.async false
set_option linter.all false
set_option maxRecDepth 100000
set_option maxHeartbeats 8000000
namespace MP
open PySem PySem.Spec PyProof.Rows L2

/-! ### d.setdefault(k, v), keys of tuples -/
theorem upd_id {H : Hp} {p : Addr} {o : HO} (h : H p = some o) : upd H p o = H := by
  funext a
  by_cases e : a = p
  · rw [e, upd_same, h]
  · rw [upd_ne e]
section
variable {X : Cx} {pins : List (Addr × Obj)} {σ : L2.St} {H : Hp} {s : Shared}
theorem sd_run {dct key : Addr} {kvs : List (List Key × V)} {ks : List Key} {dv : V} {u : Value} {Q : Value → Shared → Prop} {A : Around} {E : Value → Shared → Prop} (hu : A.units + 1 < cLine) (I : Inv X pins σ H s) (hd : H dct = some (.dT kvs)) (hk : H key = some (.tup (ks.map kV))) (rd : RelV dv u) (few : kvs.length < sizeLine)
    (there : ∀ v, valV kvs ks = some v → ∀ u' s', Inv X pins σ H s' → RelV v u' → Q u' s') (new : valV kvs ks = none → ∀ s', Inv X pins σ (upd H dct (.dT (putK kvs ks dv))) s' → Q u s') :
    wpAny (model X.prog X.w) A (call (.builtin "dict.setdefault") [.ref dct, .ref key, u]) Q E s := by
  obtain ⟨z, nsys, xs, rel, dd⟩ := dt_of I.hok hd
  have hxs : xs.length ≤ sizeLine := by rw [← Paired.length rel]; omega
  have hrel := rel.val ks
  refine call_setdefault_heap (hsz := hxs) (tupleKind_room_in1 hu) (key_of I.hok hk) nsys dd (fun p hp => ?_) fun hn h' dd' same => ?_
  · rw [hp] at hrel
    cases hv : valV kvs ks with
    | none =>
      rw [hv] at hrel
      exact (show False from hrel).elim
    | some v =>
      rw [hv] at hrel
      exact there v hv _ _ (I.tok _) hrel
  · rw [hn] at hrel
    cases hv : valV kvs ks with
    | some v =>
      rw [hv] at hrel
      exact (show False from hrel).elim
    | none =>
      have hl2 : (putK kvs ks dv).length ≤ sizeLine := by
        have := length_putK kvs ks dv
        omega
      obtain ⟨ob, es, ep, g1, g2, g3, g4, _, g5⟩ := dd'
      refine new hv _ (d_write I (by rw [hd]; exact True.intro) same ⟨ob, g1⟩ ⟨hl2, nsys, _, (rel.put ks hk rd).keeps fun c ys ec => ?_, ob, es, ep, g1, g2, g3, g4, g5⟩)
      rw [upd_ne (ne_of ec hd (fun w => nomatch w))]
      exact ec
end
def tSd (to tk tv : TE) : TE := fun σ H Q => to σ H fun x H1 => ∃ dct, x = .ref dct ∧ (∃ kvs, H1 dct = some (.dT kvs)) ∧ tk σ H1 fun y H2 => tv σ H2 fun z H3 => ∃ kvs ks key, H3 dct = some (.dT kvs) ∧ y = .ref key ∧ H3 key = some (.tup (ks.map kV)) ∧ kvs.length < sizeLine ∧
  (∀ v, valV kvs ks = some v → Q v H3) ∧ (valV kvs ks = none → Q z (upd H3 dct (.dT (putK kvs ks z))))
theorem pe_sd {X : Cx} {o e f : Expr} {to tk tv : TE} {apos cpos : Pos} (hu : X.A.units + 1 < cLine) (ho : PE X o to) (he : PE X e tk) (hf : PE X f tv) (m : M2 X o "setdefault" apos e f cpos) : PE X (.Call (.Attribute o "setdefault" apos) [e, f] [] cpos) (tSd to tk tv) := by
  refine ⟨fun pins s σ H Q I hh => ?_⟩
  refine wpAny_Call_method m.base m.few m.line PySem.F.plainAttrs_dict PySem.F.slot_dict_setdefault PySem.F.type_dict_setdefault (thn (ho.run pins s σ H _ I hh) fun u s1 ⟨x, H1, I1, rx, dct, ex, hd, q1⟩ => ?_)
  subst ex
  obtain rfl : u = Value.ref dct := rx
  obtain ⟨kv0, hkv0⟩ := hd
  obtain ⟨t1, t2, _⟩ := isD_at I1 (.inr ⟨kv0, .inl hkv0⟩)
  refine ⟨t1, t2, ?_⟩
  rw [m.trees]
  refine Calls.callWith_builtin rfl (Calls.evalArgs_plain (Calls.spliced_cons (thn (he.run pins s1 σ H1 _ I1 q1) fun kv s2 ⟨y, H2, I2, ry, q2⟩ =>
    Calls.spliced_cons (thn (hf.run pins s2 σ H2 _ I2 q2) fun dv s3 ⟨z, H3, I3, rz, kvs, ks, key, ed, ey, ek, few, q3, q4⟩ => Calls.spliced_nil ?_))))
  subst ey
  obtain rfl : kv = Value.ref key := ry
  exact sd_run hu I3 ed ek rz few (fun v hv w' s4 I4 rw' => ⟨v, _, I4, rw', q3 v hv⟩) fun hn s4 I4 => ⟨z, _, I4, rz, q4 hn⟩
section
variable {Γ : Tbl} {con : Nat → Option D} {n : Nat} {G : Sig} {X : Cx} {C : Cfg}
theorem s_dsd {i : Nat} {k v : E} {x : Str} {y u : Expr} {px ap cp : Pos} (K : XOk Γ con n G X) (h1 : X.N[i]? = some x) (h2 : visB X.env.scope x = true) (h3 : nmOk x = true) (hl : (ap.endLine == cp.line) = true) (hy : notStar y = true) (hu : notStar u = true) (hk : SE C X k y) (hv : SE C X v u) :
    SE C X (.dsd i k v) (.Call (.Attribute (.Name x px) "setdefault" ap) [y, u] [] cp) := fun Fr Hs0 bs σ ρ H Hs val ρ' Q s he q => by
  obtain ⟨d1, d2, _⟩ := nm_of h3
  simp only [ev, Option.bind_eq_some_iff] at he
  obtain ⟨kv0, e0, ⟨d, ρ1⟩, e1, ky, e2, ⟨dv, ρ2⟩, e3, ⟨dr, ρ3⟩, e4, e5⟩ := he
  cases e5
  obtain ⟨p0, ws0, f0, f00, _⟩ := dicAt_ok s e0
  have hsa : [y, u].all notStar = true := by simp [hy, hu]
  have s2' : starEach [u] X.env = [(false, eval u X.env)] := st_cons hu
  refine tb_e (pe_sd K.hu1 (pe_var h1 (vis_of h2) d1 d2) pe_tb pe_tb ⟨rfl, by rw [st_all hsa]; rfl, hl, by rw [st_cons hy, s2']; rfl⟩) ⟨_, f0, p0, rfl, ⟨ws0, f00⟩, hk.d _ _ _ _ _ _ _ _ _ _ s e1 fun v1 H1 Hs1 s1 x1 r1 => hv.d _ _ _ _ _ _ _ _ _ _ s1 e3 fun v2 H2 Hs2 s2 x2 r2 => ?_⟩
  obtain ⟨b, rfl, hb⟩ := key_ok (r1.mono x2) e2
  obtain ⟨o, o', ho, g1, g2, g3, g4⟩ := s2.chgL e4 f0
  cases o with
  | lst xs => cases g1
  | dic kvs =>
    obtain ⟨ws, rfl, rw'⟩ := g3.dic
    simp only [sdOb] at g1
    split at g1
    · rename_i hlim
      have hwl : ws.length < sizeLine := by rw [← rw'.len]; exact Nat.lt_of_lt_of_le hlim lim_line
      refine ⟨ws, ky.map Sum.inl, b, g2, rfl, s2.sh _ _ hb, hwl, fun v3 hv3 => ?_, fun hn => ?_⟩
      · rcases rw'.get (k := ky) with ⟨k1, k2⟩ | ⟨d'', v', k1, k2, k3⟩
        · rw [k2] at hv3; cases hv3
        · rw [k2] at hv3
          cases hv3
          rw [k1] at g1
          cases g1
          have z := g4 (.dT ws) rw'
          rw [upd_id g2] at z
          exact q _ _ _ z (x1.trans x2) k3
      · rcases rw'.get (k := ky) with ⟨k1, k2⟩ | ⟨d'', v', k1, k2, k3⟩
        · rw [k1] at g1
          cases g1
          exact q _ _ _ (g4 (.dT (putK ws (ky.map Sum.inl) v2)) (rw'.put r2)) (x1.trans x2) r2
        · rw [k2] at hn; cases hn
    · cases g1
/-! ### a < b < c < d -/
end
def tCh3 (r r' r'' : R2) (ta tb tc td : TE) : TE := fun σ H Q => ta σ H fun x H1 => tb σ H1 fun y H2 => r x y H2 fun b1 H3 => ∃ k, b1 = .bl k ∧
  (if k = true then tc σ H3 fun z H4 => r' y z H4 fun b2 H5 => ∃ k', b2 = .bl k' ∧ (if k' = true then td σ H5 fun t H6 => r'' z t H6 Q else Q (.bl false) H5) else Q (.bl false) H3)
section
variable {X : Cx} {a b c d : Expr} {ta tb tc td : TE} {o o' o'' : CmpOp} {r r' r'' : R2} {pos : Pos}
theorem pe_ch3 (ho : OpR X (compareOp o) r) (ho' : OpR X (compareOp o') r') (ho'' : OpR X (compareOp o'') r'') (ha : PE X a ta) (hb : PE X b tb) (hc : PE X c tc) (hd : PE X d td) (hm : lastMarks [o, o', o''] [b, c, d] = false) :
    PE X (.Compare a [o, o', o''] [b, c, d] pos) (tCh3 r r' r'' ta tb tc td) := by
  refine ⟨fun pins s σ H Q I hh => ?_⟩
  refine Compare_chain (thn (ha.run pins s σ H _ I hh) fun v1 s1 ⟨x, H1, I1, r1, q1⟩ => chain_link (thn (hb.run pins s1 σ H1 _ I1 q1) fun v2 s2 ⟨y, H2, I2, r2, q2⟩ =>
    thn (ho pins s2 σ H2 x y v1 v2 _ I2 r1 r2 q2) fun w1 s3 ⟨b1, H3, I3, r3, k, e, q3⟩ => ?_)) hm
  subst e
  cases r3
  refine wpAny_truthy_bool ?_
  cases k with
  | false => exact ite_ff ⟨.bl false, H3, I3, rfl, q3⟩
  | true =>
    refine ite_tt (chain_link (thn (hc.run pins s3 σ H3 _ I3 q3) fun v3 s4 ⟨z, H4, I4, r4, q4⟩ => thn (ho' pins s4 σ H4 y z v2 v3 _ I4 r2 r4 q4) fun w2 s5 ⟨b2, H5, I5, r5, k', e', q5⟩ => ?_))
    subst e'
    cases r5
    refine wpAny_truthy_bool ?_
    cases k' with
    | false => exact ite_ff ⟨.bl false, H5, I5, rfl, q5⟩
    | true => exact ite_tt (chain_last (thn (hd.run pins s5 σ H5 _ I5 q5) fun v4 s6 ⟨t, H6, I6, r6, q6⟩ => ho'' pins s6 σ H6 z t v3 v4 Q I6 r4 r6 q6))
theorem pt_ch3 (ho : OpR X (compareOp o) r) (ho' : OpR X (compareOp o') r') (ho'' : OpR X (compareOp o'') r'') (ha : PE X a ta) (hb : PE X b tb) (hc : PE X c tc) (hd : PE X d td) (hm : lastMarks [o, o', o''] [b, c, d] = false) :
    PT X (.Compare a [o, o', o''] [b, c, d] pos) (tTest (tCh3 r r' r'' ta tb tc td)) := by
  refine ⟨fun pins s σ H Q I hh => ?_⟩
  refine isTrue_chain (thn (ha.run pins s σ H _ I hh) fun v1 s1 ⟨x, H1, I1, r1, q1⟩ => test_link (thn (hb.run pins s1 σ H1 _ I1 q1) fun v2 s2 ⟨y, H2, I2, r2, q2⟩ =>
    thn (ho pins s2 σ H2 x y v1 v2 _ I2 r1 r2 q2) fun w1 s3 ⟨b1, H3, I3, r3, k, e, q3⟩ => ?_)) hm
  subst e
  cases r3
  refine wpAny_truthy_bool ?_
  cases k with
  | false =>
    obtain ⟨kf, ef, qf⟩ := q3
    cases ef
    exact ite_ff ⟨H3, I3, qf⟩
  | true =>
    refine ite_tt (test_link (thn (hc.run pins s3 σ H3 _ I3 q3) fun v3 s4 ⟨z, H4, I4, r4, q4⟩ => thn (ho' pins s4 σ H4 y z v2 v3 _ I4 r2 r4 q4) fun w2 s5 ⟨b2, H5, I5, r5, k', e', q5⟩ => ?_))
    subst e'
    cases r5
    refine wpAny_truthy_bool ?_
    cases k' with
    | false =>
      obtain ⟨kf, ef, qf⟩ := q5
      cases ef
      exact ite_ff ⟨H5, I5, qf⟩
    | true =>
      refine ite_tt (test_last (thn (hd.run pins s5 σ H5 _ I5 q5) fun v4 s6 ⟨t, H6, I6, r6, q6⟩ => thn (ho'' pins s6 σ H6 z t v3 v4 _ I6 r4 r6 q6) fun w3 s7 ⟨b3, H7, I7, r7, k2, e2, q7⟩ => ?_))
      subst e2
      cases r7
      exact wpAny_truthy_bool ⟨H7, I7, q7⟩
end
section
variable {Γ : Tbl} {con : Nat → Option D} {n : Nat} {G : Sig} {X : Cx} {C : Cfg}
theorem ch3_core {o o' o'' : C2} {a b c d : E} {x y z u : Expr} {Fr Hs0 : Hp} {bs : List (Nat × Addr)} {σ : L2.St} {ρ ρ' : MP.Env} {H Hs : Hp} {k : Bool} {Q : VK} (hu : X.A.units + 65 < cLine) (ha : SE C X a x) (hb : SE C X b y) (hc : SE C X c z) (hd : SE C X d u) (s : Sta X.K Fr Hs0 bs σ ρ H Hs)
    (he : ev C (.cmp3 o o' o'' a b c d) ρ = some (.sh (.bool k), ρ')) (q : ∀ H' Hs', Sta X.K Fr Hs0 bs σ ρ' H' Hs' → Ex Hs Hs' → Q (.bl k) H') : tCh3 (rAny X (compareOp (cmO o))) (rAny X (compareOp (cmO o'))) (rAny X (compareOp (cmO o''))) (tbE X x) (tbE X y) (tbE X z) (tbE X u) σ H Q := by
  simp only [ev, Option.bind_eq_some_iff] at he
  obtain ⟨⟨d1, ρ1⟩, h1, ⟨d2, ρ2⟩, h2, k1, h3, h4⟩ := he
  refine ha.d _ _ _ _ _ _ _ _ _ _ s h1 fun v1 H1 Hs1 s1 e1 r1 => hb.d _ _ _ _ _ _ _ _ _ _ s1 h2 fun v2 H2 Hs2 s2 e2 r2 => ?_
  refine cmp_ok hu s2 (.inr (r1.mono e2)) (.inr r2) h3 ⟨k1, rfl, ?_⟩
  cases k1 with
  | false =>
    rw [if_neg Bool.false_ne_true]
    simp only [Bool.false_eq_true, if_false] at h4
    cases h4
    exact q H2 Hs2 s2 (e1.trans e2)
  | true =>
    rw [if_pos rfl]
    simp only [if_true, Option.bind_eq_some_iff] at h4
    obtain ⟨⟨d3, ρ3⟩, h5, k2, h6, h7⟩ := h4
    refine hc.d _ _ _ _ _ _ _ _ _ _ s2 h5 fun v3 H3 Hs3 s3 e3 r3 => ?_
    refine cmp_ok hu s3 (.inr (r2.mono e3)) (.inr r3) h6 ⟨k2, rfl, ?_⟩
    cases k2 with
    | false =>
      rw [if_neg Bool.false_ne_true]
      simp only [Bool.false_eq_true, if_false] at h7
      cases h7
      exact q H3 Hs3 s3 ((e1.trans e2).trans e3)
    | true =>
      rw [if_pos rfl]
      simp only [if_true, Option.bind_eq_some_iff] at h7
      obtain ⟨⟨d4, ρ4⟩, h8, k3, h9, h10⟩ := h7
      cases h10
      refine hd.d _ _ _ _ _ _ _ _ _ _ s3 h8 fun v4 H4 Hs4 s4 e4 r4 => ?_
      exact cmp_ok hu s4 (.inr (r3.mono e4)) (.inr r4) h9 (q H4 Hs4 s4 (((e1.trans e2).trans e3).trans e4))
theorem ch3_val {o o' o'' : C2} {a b c d : E} {ρ ρ' : MP.Env} {val : Val} (he : ev C (.cmp3 o o' o'' a b c d) ρ = some (val, ρ')) : ∃ k, val = .sh (.bool k) := by
  simp only [ev, Option.bind_eq_some_iff] at he
  obtain ⟨⟨d1, ρ1⟩, h1, ⟨d2, ρ2⟩, h2, k1, h3, h4⟩ := he
  cases k1 with
  | false => simp only [Bool.false_eq_true, if_false] at h4; cases h4; exact ⟨_, rfl⟩
  | true =>
    simp only [if_true, Option.bind_eq_some_iff] at h4
    obtain ⟨⟨d3, ρ3⟩, h5, k2, h6, h7⟩ := h4
    cases k2 with
    | false => simp only [Bool.false_eq_true, if_false] at h7; cases h7; exact ⟨_, rfl⟩
    | true =>
      simp only [if_true, Option.bind_eq_some_iff] at h7
      obtain ⟨⟨d4, ρ4⟩, h8, k3, h9, h10⟩ := h7
      cases h10
      exact ⟨_, rfl⟩
theorem last3 {p p' p'' : CmpOp} {y z u : Expr} (h : notSet u = true) : lastMarks [p, p', p''] [y, z, u] = false := ne_set h
theorem s_ch3 {o o' o'' : C2} {p p' p'' : CmpOp} {a b c d : E} {x y z u : Expr} {pos : Pos} (hu : X.A.units + 65 < cLine) (hp : cmB o p = true) (hp' : cmB o' p' = true) (hp'' : cmB o'' p'' = true) (hs : notSet u = true) (ha : SE C X a x) (hb : SE C X b y) (hc : SE C X c z) (hd : SE C X d u) :
    SE C X (.cmp3 o o' o'' a b c d) (.Compare x [p, p', p''] [y, z, u] pos) ∧ ST C X (.cmp3 o o' o'' a b c d) (.Compare x [p, p', p''] [y, z, u] pos) := by
  have ep := cm_eq hp
  have ep' := cm_eq hp'
  have ep'' := cm_eq hp''
  subst ep ep' ep''
  constructor
  · intro Fr Hs0 bs σ ρ H Hs val ρ' Q s he q
    obtain ⟨k, rfl⟩ := ch3_val he
    exact tb_e (pe_ch3 opr_any opr_any opr_any pe_tb pe_tb pe_tb pe_tb (last3 hs)) (ch3_core hu ha hb hc hd s he fun H' Hs' s' e' => q _ H' Hs' s' e' (.bl k))
  · intro Fr Hs0 bs σ ρ H Hs k ρ' Q s he q
    obtain ⟨val, h1, h2⟩ := toD_inv (toB_inv he)
    obtain ⟨k', rfl⟩ := ch3_val h1
    cases h2
    exact tb_t (pt_ch3 opr_any opr_any opr_any pe_tb pe_tb pe_tb pe_tb (last3 hs)) rfl (ch3_core hu ha hb hc hd s h1 fun H' Hs' s' e' => ⟨k, rfl, q H' Hs' s' e'⟩)
/-! ### x is True -/
theorem s_isT {ng : Bool} {a : E} {x : Expr} {p : CmpOp} {j : Nat} {p0 pos : Pos} (hp : (match p with | .Is => !ng | .IsNot => ng | _ => false) = true) (ha : SE C X a x) :
    SE C X (.isT ng a) (.Compare x [p] [.Constant (.bool true) j p0] pos) ∧ ST C X (.isT ng a) (.Compare x [p] [.Constant (.bool true) j p0] pos) := by
  cases ng with
  | false =>
    have ep : p = .Is := by cases p <;> first | rfl | cases hp
    subst ep
    constructor
    · intro Fr Hs0 bs σ ρ H Hs val ρ' Q s he q
      simp only [ev, Option.bind_eq_some_iff] at he
      obtain ⟨⟨b, ρ1⟩, h1, h2⟩ := he
      cases h2
      refine tb_e (pe_cmpR op_isBl pe_tb pe_bl (ne_set rfl)) (ha.d _ _ _ _ _ _ _ _ _ _ s (toB_inv h1) fun v1 H1 Hs1 s1 e1 r1 => ?_)
      cases r1
      refine ⟨b, true, rfl, rfl, ?_⟩
      have e : decide (b = true) = b := by cases b <;> rfl
      rw [e]
      exact q _ _ _ s1 e1 (.bl b)
    · intro Fr Hs0 bs σ ρ H Hs k ρ' Q s he q
      obtain ⟨val, h3, h4⟩ := toD_inv (toB_inv he)
      simp only [ev, Option.bind_eq_some_iff] at h3
      obtain ⟨⟨b, ρ1⟩, h1, h2⟩ := h3
      cases h2
      cases h4
      refine tb_t (pt_cmpR op_isBl pe_tb pe_bl (ne_set rfl)) rfl (ha.d _ _ _ _ _ _ _ _ _ _ s (toB_inv h1) fun v1 H1 Hs1 s1 e1 r1 => ?_)
      cases r1
      refine ⟨b, true, rfl, rfl, b, ?_, q _ _ s1 e1⟩
      cases b <;> rfl
  | true =>
    have ep : p = .IsNot := by cases p <;> first | rfl | cases hp
    subst ep
    constructor
    · intro Fr Hs0 bs σ ρ H Hs val ρ' Q s he q
      simp only [ev, Option.bind_eq_some_iff] at he
      obtain ⟨⟨b, ρ1⟩, h1, h2⟩ := he
      cases h2
      refine tb_e (pe_cmpR op_notBl pe_tb pe_bl (ne_set rfl)) (ha.d _ _ _ _ _ _ _ _ _ _ s (toB_inv h1) fun v1 H1 Hs1 s1 e1 r1 => ?_)
      cases r1
      refine ⟨b, true, rfl, rfl, ?_⟩
      have e : (!decide (b = true)) = !b := by cases b <;> rfl
      rw [e]
      exact q _ _ _ s1 e1 (.bl _)
    · intro Fr Hs0 bs σ ρ H Hs k ρ' Q s he q
      obtain ⟨val, h3, h4⟩ := toD_inv (toB_inv he)
      simp only [ev, Option.bind_eq_some_iff] at h3
      obtain ⟨⟨b, ρ1⟩, h1, h2⟩ := h3
      cases h2
      cases h4
      refine tb_t (pt_cmpR op_notBl pe_tb pe_bl (ne_set rfl)) rfl (ha.d _ _ _ _ _ _ _ _ _ _ s (toB_inv h1) fun v1 H1 Hs1 s1 e1 r1 => ?_)
      cases r1
      refine ⟨b, true, rfl, rfl, !b, ?_, q _ _ s1 e1⟩
      cases b <;> rfl
/-! ### x or y, of data -/
theorem s_or2 {a b : E} {x y : Expr} {pos : Pos} (ha : SE C X a x) (hb : SE C X b y) : SE C X (.or2 a b) (.BoolOp .Or [x, y] pos) ∧ ST C X (.or2 a b) (.BoolOp .Or [x, y] pos) := by
  constructor
  · intro Fr Hs0 bs σ ρ H Hs val ρ' Q s he q
    simp only [ev, Option.bind_eq_some_iff] at he
    obtain ⟨⟨d, ρ1⟩, h1, k, h2, h3⟩ := he
    refine tb_e (pe_orT pe_tb pe_tb) (ha.d _ _ _ _ _ _ _ _ _ _ s h1 fun v1 H1 Hs1 s1 e1 r1 => ⟨k, ?_, ?_⟩)
    · cases r1 <;> simp only [truD, reduceCtorEq, Option.some.injEq] at h2
      · exact h2.symm
      · exact h2.symm
      · subst h2
        rename_i i
        show decide (i ≠ 0) = (i != 0)
        rw [Bool.eq_iff_iff]
        simp
    · cases k with
      | true =>
        rw [if_pos rfl]
        simp only [if_true, Option.bind_eq_some_iff] at h3
        obtain ⟨i, h4, h5⟩ := h3
        cases h5
        cases r1 <;> simp only [asI, reduceCtorEq, Option.some.injEq] at h4
        subst h4
        exact q _ _ _ s1 e1 (.int _)
      | false =>
        rw [if_neg Bool.false_ne_true]
        simp only [Bool.false_eq_true, if_false, Option.bind_eq_some_iff] at h3
        obtain ⟨⟨d2, ρ2⟩, h4, i, h5, h6⟩ := h3
        cases h6
        have hb1 : SE C X b (.BoolOp .Or [y] pos) := s_one hb
        refine hb1.d _ _ _ _ _ _ _ _ _ _ s1 h4 fun v2 H2 Hs2 s2 e2 r2 => ?_
        cases r2 <;> simp only [asI, reduceCtorEq, Option.some.injEq] at h5
        subst h5
        exact q _ _ _ s2 (e1.trans e2) (.int _)
  · intro Fr Hs0 bs σ ρ H Hs k ρ' Q s he q
    obtain ⟨val, h3, h4⟩ := toD_inv (toB_inv he)
    simp only [ev, Option.bind_eq_some_iff] at h3
    obtain ⟨⟨d, ρ1⟩, h1, k, h2, h3⟩ := h3
    exfalso
    cases k with
    | true =>
      simp only [if_true, Option.bind_eq_some_iff] at h3
      obtain ⟨i, _, h5⟩ := h3
      cases h5
      cases h4
    | false =>
      simp only [Bool.false_eq_true, if_false, Option.bind_eq_some_iff] at h3
      obtain ⟨⟨d2, ρ2⟩, _, i, _, h6⟩ := h3
      cases h6
      cases h4
/-! ### list(range(n)), tuple(range(n)) -/
theorem rg_rp {K : PySem.W.Frag} {H : Hp} (m : Int) : RpAll K H (rgV 0 m) (rngD 0 m) := by
  unfold rgV rngD
  generalize List.range (m - 0).toNat = l
  induction l with
  | nil => exact .nil
  | cons a l ih => exact .cons (.int _) ih
theorem s_lrng {a : E} {y : Expr} {p p' pos pos' : Pos} (K : XOk Γ con n G X) (h1 : glB X.env.scope "list" = true) (h2 : glB X.env.scope "range" = true) (hy : notStar y = true) (h : SE C X a y) : SE C X (.lrng a) (.Call (.Name "list" p) [.Call (.Name "range" p') [y] [] pos'] [] pos) := fun Fr Hs0 bs σ ρ H Hs val ρ' Q s he q => by
  simp only [ev, Option.bind_eq_some_iff] at he
  obtain ⟨⟨d, ρ1⟩, e1, m, e2, _, e30, e3⟩ := he
  cases e3
  have hl := inLim_iff (ckI_ok e30)
  refine tb_e (pe_listRg K.calm (gl_of h1) (K.free _ (by decide)) (prg_1 (gl_of h2) (K.free _ (by decide)) pe_tb (st_cons hy)) rfl) (h.d _ _ _ _ _ _ _ _ _ _ s e1 fun v1 H1 Hs1 s1 x1 r1 => ?_)
  cases r1 <;> simp only [asI, reduceCtorEq, Option.some.injEq] at e2
  subst e2
  rename_i i
  refine ⟨i, rfl, ⟨by omega, by omega, by omega, by omega, by omega⟩, fun t ht => ?_⟩
  obtain ⟨s2, v2⟩ := s1.newOw (o := .lst (rngD 0 i)) (ho := .lst (rgV 0 i)) ht (rg_rp i)
  exact q _ _ _ s2 x1 v2
theorem s_trng {a : E} {y : Expr} {p p' pos pos' : Pos} (K : XOk Γ con n G X) (h1 : glB X.env.scope "tuple" = true) (h2 : glB X.env.scope "range" = true) (hy : notStar y = true) (h : SE C X a y) : SE C X (.trng a) (.Call (.Name "tuple" p) [.Call (.Name "range" p') [y] [] pos'] [] pos) := fun Fr Hs0 bs σ ρ H Hs val ρ' Q s he q => by
  simp only [ev, Option.bind_eq_some_iff] at he
  obtain ⟨⟨d, ρ1⟩, e1, m, e2, _, e30, e3⟩ := he
  cases e3
  have hl := inLim_iff (ckI_ok e30)
  refine tb_e (pe_tupRg K.calm (gl_of h1) (K.free _ (by decide)) (prg_1 (gl_of h2) (K.free _ (by decide)) pe_tb (st_cons hy)) rfl) (h.d _ _ _ _ _ _ _ _ _ _ s e1 fun v1 H1 Hs1 s1 x1 r1 => ?_)
  cases r1 <;> simp only [asI, reduceCtorEq, Option.some.injEq] at e2
  subst e2
  rename_i i
  refine ⟨i, rfl, ⟨by omega, by omega, by omega, by omega, by omega⟩, fun t ht => ?_⟩
  obtain ⟨s2, e2, r2⟩ := s1.newT ht (rg_rp (K := X.K) (H := Hs1) i)
  exact q _ _ _ s2 (x1.trans e2) r2
/-! ### range(a, b, c) -/
theorem it_rg3 {K : PySem.W.Frag} {Hs : Hp} (lo hi st : Int) : ItOk K Hs (Itc lo st (if lo < hi then (hi - lo - 1) / st + 1 else 0).toNat) (rg3D lo hi st) := fun i H1 Hs1 e1 e2 => by
  refine ⟨fun d hd => ?_, fun hi' => by show _ ≤ i; rw [hi']; simp [rg3D]⟩
  unfold rg3D at hd
  rw [List.getElem?_map] at hd
  cases q : (List.range (if lo < hi then (hi - lo - 1) / st + 1 else 0).toNat)[i]? with
  | none => rw [q] at hd; cases hd
  | some k =>
    rw [q] at hd
    obtain ⟨h1, h2⟩ := List.getElem?_eq_some_iff.mp q
    rw [List.length_range] at h1
    rw [List.getElem_range] at h2
    subst h2
    cases hd
    exact ⟨h1, fun w H2 ⟨z, hy⟩ => by subst z hy; exact ⟨Hs1, Grow.refl e2, .int _⟩⟩
theorem rgC3 {i j c : Int} (h1 : -1000000 ≤ i ∧ i ≤ 1000000) (h2 : -1000000 ≤ j ∧ j ≤ 1000000) (h3 : 0 < c) (h4 : c ≤ 1000000) : RgC i j c (if i < j then (j - i - 1) / c + 1 else 0).toNat := by
  have hsz : Builtin.Range.rangeSize i j c = ((if i < j then (j - i - 1) / c + 1 else 0).toNat : Int) := by
    unfold Builtin.Range.rangeSize
    rw [if_pos h3]
    split
    · have := Int.ediv_nonneg (show 0 ≤ j - i - 1 by omega) (show 0 ≤ c by omega)
      omega
    · rfl
  refine ⟨by omega, by omega, ?_, hsz⟩
  have hq : (if i < j then (j - i - 1) / c + 1 else 0) ≤ 2000001 ∧ 0 ≤ (if i < j then (j - i - 1) / c + 1 else 0) := by
    split
    · have h5 := Int.ediv_nonneg (show 0 ≤ j - i - 1 by omega) (show 0 ≤ c by omega)
      have h6 := Int.ediv_le_self c (show 0 ≤ j - i - 1 by omega)
      omega
    · omega
  have hr : Builtin.Range.rangeSize i j c ≤ 2000001 ∧ 0 ≤ Builtin.Range.rangeSize i j c := by
    rw [hsz]
    omega
  have fits : ∀ v : Int, -10000000 ≤ v → v ≤ 10000000 → Builtin.Range.rangeFitsLong v = true := fun v g1 g2 => by
    unfold Builtin.Range.rangeFitsLong
    simp only [Bool.and_eq_true, decide_eq_true_eq]
    omega
  unfold Builtin.Range.small
  rw [fits i (by omega) (by omega), fits j (by omega) (by omega), fits c (by omega) (by omega), fits _ (by omega) (by omega), if_pos h3, fits _ (by omega) (by omega)]
  simp
theorem i_rng3 {a b c : E} {t y z u : Expr} {p pos : Pos} (K : XOk Γ con n G X) (hg : glB X.env.scope "range" = true) (hy : notStar y = true) (hz : notStar z = true) (hu : notStar u = true) (ha : SE C X a y) (hb : SE C X b z) (hc : SE C X c u) :
    SI C X (.rng3 a b c) t (.Call (.Name "range" p) [y, z, u] [] pos) := fun Fr Hs0 bs σ ρ H Hs ds ρ' R s he q => by
  simp only [evI, Option.bind_eq_some_iff] at he
  obtain ⟨⟨d1, ρ1⟩, e1, ⟨d2, ρ2⟩, e2, ⟨d3, ρ3⟩, e3, i, g1, j, g2, st, g3, _, k1, _, k2, _, k3, e4⟩ := he
  have l1 := inLim_iff (ckI_ok k1)
  have l2 := inLim_iff (ckI_ok k2)
  have l3 := inLim_iff (ckI_ok k3)
  split at e4
  · rename_i hst
    cases e4
    refine tb_i (pi_range3 (gl_of hg) (K.free _ (by decide)) (pa_cons pe_tb (pa_cons pe_tb (pa_cons pe_tb pa_nil (st_cons hu)) (st_cons hz)) (st_cons hy)) (st_cons hy) (st_any (es := [z, u]) (by simp [hz, hu])))
      (ha.d _ _ _ _ _ _ _ _ _ _ s e1 fun v1 H1 Hs1 s1 x1 r1 => hb.d _ _ _ _ _ _ _ _ _ _ s1 e2 fun v2 H2 Hs2 s2 x2 r2 => hc.d _ _ _ _ _ _ _ _ _ _ s2 e3 fun v3 H3 Hs3 s3 x3 r3 => ?_)
    cases r1 <;> simp only [asI, reduceCtorEq, Option.some.injEq] at g1
    cases r2 <;> simp only [asI, reduceCtorEq, Option.some.injEq] at g2
    cases r3 <;> simp only [asI, reduceCtorEq, Option.some.injEq] at g3
    subst g1 g2 g3
    exact ⟨_, _, _, _, rfl, rgC3 l1 l2 hst l3.2, q _ H3 Hs3 s3 ((x1.trans x2).trans x3) (it_rg3 _ _ _)⟩
  · cases e4
/-! ### a call without the last argument -/
theorem pe_callGd {k : Nat} {f : Addr} {fd : FuncData} {ps : List Str} {sp : Sp} {x : Str} {p pos : Pos} {e : Expr} {es : List Expr} {t : TA} {a0 : Addr} (F : FnG X.prog X.w X.K X.mg X.base k f fd ps sp) (hr : Room k X.A) (gd : X.A.guards = some []) (hg : Gl X x) (hm : X.mg x = some (.ref f)) (hk : PySem.W.keepIn X.K (.ref f) = true) (hb : Binds X.K fd ps [.ref a0])
    (ha : PA X (e :: es) t) (hdb : (x == ("__debug__" : Str)) = false) (he : starEach (e :: es) X.env = (false, eval e X.env) :: starEach es X.env) (hpl : (backTo pos (starEach es X.env)).any (·.1) = false) :
    PE X (.Call (.Name x p) (e :: es) [] pos) (fun σ H Q => t σ H fun vs H1 => sp (vs ++ [.ref a0]) H1 Q E0) := by
  refine ⟨fun pins s σ H Q I h => wpAny_Call_Name_kw (ld_glob I hg hm (PySem.W.callWith_K (h₀ := X.base) I.ok.mod.kin hk (thn (ha.run pos pins s σ H _ I h) fun us s1 ⟨vs, H1, I1, r, q⟩ => ⟨I1.kIn, ?_⟩) he hpl) hdb)⟩
  have rr : Vals (vs ++ [.ref a0]) (us ++ [.ref a0]) := r.append (.cons rfl .nil)
  have hl : (us ++ [Value.ref a0]).length = ps.length := rr.length ▸ F.len _ _ _ _ q
  have bt : BindsTo s1 fd ⟨us, []⟩ (ps.zip (us ++ [.ref a0])) := hb s1 us I1.kIn hl
  refine wpAny_call (codeAny_mono (F.run X.A X.stack s1 H1 ⟨us, []⟩ (us ++ [.ref a0]) (vs ++ [.ref a0]) Q E0 hr gd I1.env0 bt rr q) fun z s' hq => ?_)
  match z, hq with
  | .error _, hq => exact hq.elim
  | .ok (.ret u), hq => exact I1.after hq
  | .ok .next, hq => exact hq.elim
  | .ok .brk, hq => exact hq.elim
  | .ok .cont, hq => exact hq.elim
theorem avs_snoc {K : PySem.W.Frag} {Hs : Hp} {σ : L2.St} {v : V} {a : AV} (h : AVOk K Hs σ v a) : ∀ {vs : List V} {as : List AV}, AVs K Hs σ vs as → AVs K Hs σ (vs ++ [v]) (as ++ [a])
  | _, _, .nil => .cons h .nil
  | _, _, .cons g r => .cons g (avs_snoc h r)
theorem s_calld {f : Nat} {es : Es} {x : Str} {y : Expr} {ys : List Expr} {p pos : Pos} (K : XOk Γ con n G X) (hf : G.fnm f = some x) (hd : G.dfl f = true) (hg : glB X.env.scope x = true) (hn : nmOk x = true) (hs : (y :: ys).all notStar = true) (h : SAs (cfg Γ con n) X es (y :: ys)) :
    SE (cfg Γ con n) X (.calld f es) (.Call (.Name x p) (y :: ys) [] pos) := fun Fr Hs0 bs σ ρ H Hs val ρ' Q s he q => by
  obtain ⟨pd, ps0, ad, fd, g1, g2, g3, g4, g5, g6⟩ := (K.fns f x hf).ex
  obtain ⟨a0, k0, k00⟩ := g6 hd
  obtain ⟨d1, _, _⟩ := nm_of hn
  simp only [ev, Option.bind_eq_some_iff] at he
  obtain ⟨⟨as, ρ1⟩, e1, e2⟩ := he
  unfold doCall at e2
  rw [List.all_cons, Bool.and_eq_true] at hs
  refine tb_e (pe_callGd g5 K.room K.gd (gl_of hg) g2 g3 k00 pa_tb d1 (st_cons hs.1) (st_any hs.2)) (h _ _ _ _ _ _ _ _ _ _ _ s e1 fun vs H1 Hs1 s1 x1 r1 => ?_)
  have ha0 : AVOk X.K Hs1 σ (.ref a0) (.d (.tuple [])) := Rp.tup (.inr ⟨rfl, k0 Hs1⟩) .nil
  have r1' : AVs X.K Hs1 σ (vs ++ [.ref a0]) (as ++ [.d (.tuple [])]) := avs_snoc ha0 r1
  split at e2
  · rename_i hnd
    simp only [Option.bind_eq_some_iff] at e2
    obtain ⟨args, e3, ⟨val', os⟩, e4, ρ2, e5, e6⟩ := e2
    cases e6
    obtain ⟨ps, k1, k2⟩ := args_ok s1 r1' e3
    have hlen : (vs ++ [V.ref a0]).length = pd.ar := by
      rw [k1.len]
      cases n with
      | zero => cases e4
      | succ m =>
        have e4' : evalCall Γ con (m + 1) f args = some (val', os) := e4
        simp only [evalCall, g1, Option.bind_some] at e4'
        unfold run at e4'
        split at e4'
        · assumption
        · cases e4'
    refine ⟨hlen, args, ps, Hs1, val', os, e4, k1, k2.nodup s1 hnd (lent_own e3), s1.sh, fun v H' Hs' en => ?_⟩
    obtain ⟨s2, v2⟩ := after_call s1 k2 hnd en e5
    exact q _ _ _ s2 (x1.trans en.s0) v2
  · cases e2
end
end MP
end

section
set_option Elab.async false
set_option linter.all false
set_option maxRecDepth 100000
set_option maxHeartbeats 8000000
namespace MP
open PySem PySem.Spec PyProof.Rows L2
/-! ### sorted(set(xs)), xs a list of ints -/
section
variable {P : Program} {w : World} {A : Around} {E : Value → Shared → Prop} {s : Shared}
/-- a new set -/
abbrev nS (w : World) : Obj := { cls := .type "set", dict := none, data := .set #[] 0 (.fresh 0 0 (!w.params.followText "set-order")) }
/-- set's filling from a list of ints -/
theorem fill_ints {l : Addr} {its : Array Value} (ns : List Int) {R : Value → Shared → Prop} (hh : A.handled = none) (hl : s.heap.IsList l its) (hi : IntsAre its.toList ns) (hb : ns.length + 1 < scanBound)
    (h : ∀ h' tk c, SetR w h' s.heap.objs.size (fun j => decide (j ∈ ns)) c → c ≤ ns.length → (∀ b o, s.heap.get? b = some o → h'.get? b = some o) → R .none { s with heap := h', toks := tk }) :
    codeAny (model P w) A (.call (.builtin "set.__init__") ⟨[.ref s.heap.objs.size, .ref l], []⟩) (wants R E) { s with heap := s.heap.push (nS w) } := by
  have zn : its.size = ns.length := by
    have q := IntsAre.length hi
    rw [Array.length_toList] at q
    exact q
  have gS : (s.heap.push (nS w)).get? s.heap.objs.size = some (nS w) := Heap.get?_push_size _ rfl
  refine codeAny_call_builtin F.called_set.init.plain F.entry_set_init (check_set_init_1 ⟨_, gS, rfl⟩ ?_)
  obtain ⟨⟨c0, d0, t0, sl0⟩, gl, hc, m, hd⟩ := hl
  simp only at hc hd
  subst hc hd
  have gl1 : (s.heap.push (nS w)).get? l = some { cls := .type "list", dict := d0, data := .seq its m, slots := sl0 } := Heap.get?_push_of_some _ gl
  have q1 := F.sub_list_set
  have q2 := F.sub_list_frozenset
  have q3 : (Value.type "list" == Value.type "dict") = false := by decide
  have L : (s.heap.push (nS w)).IsList l its := ⟨_, gl1, rfl, m, rfl⟩
  unfold Builtin.«set.__init__» noKeywords Builtin.Frozenset.updateFrom
  generalize hp : pyIter = PI
  wp_walk
  subst hp
  have lt : l < s.heap.objs.size := Heap.lt_size gl
  have z1 : (s.heap.push (nS w)).objs.size = s.heap.objs.size + 1 := Heap.size_push ..
  have nI : l ≠ (s.heap.push (nS w)).objs.size := by rw [z1]; exact Nat.ne_of_lt (Nat.lt_succ_of_lt lt)
  have nf : s.heap.objs.size ∉ [(s.heap.push (nS w)).objs.size, l] := by
    rw [z1]
    simp only [List.mem_cons, List.not_mem_nil, or_false, not_or]
    exact ⟨Nat.ne_of_lt (Nat.lt_succ_self _), Nat.ne_of_gt lt⟩
  refine wpAny_pyIter_list L (wpAny_bind (wpAny_runValue (set_update_ints (Walks.list (by simp [hh]) _ l nI its).toS s.heap.objs.size nf ns zn hb (fun i v hv => ?_) (its.size - 0) 0 _ (by omega) (Nat.zero_le _)
    ⟨⟨_, Heap.get?_push_size _ rfl, rfl, rfl⟩, L.push _⟩ ⟨0, Nat.le_refl 0, setR_new_at (Heap.get?_push_of_some _ gS)⟩ fun s' c hm hc hS => ?_)))
  · have hi' : i < ns.length := by rw [← zn]; exact (Array.getElem?_eq_some_iff.mp hv).1
    obtain ⟨t, e⟩ := IntsAre.int_at hi i v (by rw [Array.getElem?_toList]; exact hv)
    exact ⟨ns[i], t, List.getElem?_eq_getElem hi', by rw [e, List.getD_eq_getElem?_getD, List.getElem?_eq_getElem hi'] <;> rfl⟩
  · obtain ⟨h', g', d', tk', os'⟩ := s'
    have e1 : g' = s.gens := hm.gens
    have e2 : d' = s.drawn := hm.drawn
    have e3 : os' = s.os := hm.os
    subst e1 e2 e3
    refine wpAny_pure (wpAny_pure ?_)
    refine h h' tk' c hS (by rw [← zn]; exact hc) fun b o e => hm.heap b o ?_ (Heap.get?_push_of_some _ (Heap.get?_push_of_some _ e))
    have lb := Heap.lt_size e
    rw [z1]
    simp only [List.mem_cons, List.not_mem_nil, or_false, not_or]
    exact ⟨Nat.ne_of_lt lb, Nat.ne_of_lt (Nat.lt_succ_of_lt lb)⟩
theorem call_set_ints {l : Addr} {its : Array Value} (ns : List Int) {Q : Value → Shared → Prop} (hh : A.handled = none) (hl : s.heap.IsList l its) (hi : IntsAre its.toList ns) (hb : ns.length + 1 < scanBound)
    (h : ∀ h' tk c, SetR w h' s.heap.objs.size (fun j => decide (j ∈ ns)) c → c ≤ ns.length → (∀ b o, s.heap.get? b = some o → h'.get? b = some o) → Q (.ref s.heap.objs.size) { s with heap := h', toks := tk }) :
    wpAny (model P w) A (call (.type "set") [.ref l]) Q E s := by
  obtain ⟨c, tl, a1⟩ := F.called_set.mro
  have a2 := F.called_set.made
  have a3 := F.called_set.sub
  have a4 := F.called_set.notType
  have a5 := F.called_set.canCreate
  have a6 := F.typeCall_set_1 (.ref l)
  have a7 := F.called_set.init.lookup
  have a8 := F.called_set.init.bind (.ref s.heap.objs.size)
  refine wpAny_call (codeAny_of_tree ?_)
  show wpAny _ _ (callAny (.type "set") _) _ _ _
  refine wpAny_pure ⟨Code.quiet_builtin _ (by decide +kernel), codeAny_builtin F.entry_type_call ?_⟩
  rw [Around.under_plain (weight_type_call_type "set" [.ref l] []) rfl]
  repeat (any_goals (first | assumption | wp_step))
  refine codeAny_mono (code_set_led1 (.ref l) (E := E) (Q₁ := fun v s1 => v = .ref s.heap.objs.size ∧ s1 = { s with heap := s.heap.push (nS w) }) ⟨rfl, rfl⟩) fun r s1 hr => ?_
  match r, hr with
  | .error e, hr => exact hr
  | .ok (.ret v), hr =>
    obtain ⟨rfl, rfl⟩ := hr
    have gS : (s.heap.push (nS w)).get? s.heap.objs.size = some (nS w) := Heap.get?_push_size _ rfl
    have tS : Shared.TypeIs { s with heap := s.heap.push (nS w) } (.ref s.heap.objs.size) "set" := ⟨_, gS, rfl⟩
    repeat (any_goals (first | assumption | wp_step))
    refine codeAny_mono (fill_ints (E := E) (R := fun r s2 => r = .none ∧ Q (.ref s.heap.objs.size) s2) ns (by simp [hh]) hl hi hb fun h' tk c x1 x2 x3 => ⟨rfl, h h' tk c x1 x2 x3⟩) fun r2 s2 hr2 => ?_
    match r2, hr2 with
    | .error e, hr2 => exact hr2
    | .ok (.ret v2), hr2 =>
      obtain ⟨rfl, hq⟩ := hr2
      repeat (any_goals (first | assumption | wp_step))
    | .ok .next, hr2 => exact hr2.elim
    | .ok .brk, hr2 => exact hr2.elim
    | .ok .cont, hr2 => exact hr2.elim
  | .ok .next, hr => exact hr.elim
  | .ok .brk, hr => exact hr.elim
  | .ok .cont, hr => exact hr.elim
end

theorem onceI_mem {k : Int} : ∀ {l : List Int}, k ∈ onceI l ↔ k ∈ l
  | [] => Iff.rfl
  | a :: r => by
    unfold onceI
    rw [List.mem_cons, List.mem_cons, List.mem_filter, onceI_mem (l := r), decide_eq_true_eq]
    by_cases e : k = a
    · simp [e]
    · simp [e]
theorem onceI_nodup : ∀ l : List Int, (onceI l).Nodup
  | [] => .nil
  | a :: r => by
    unfold onceI
    refine List.nodup_cons.mpr ⟨fun h => ?_, (onceI_nodup r).filter _⟩
    have := (List.mem_filter.mp h).2
    simp at this
theorem sset_unique {ns l : List Int} (h1 : l.Pairwise (· < ·)) (h2 : ∀ k : Int, k ∈ l ↔ k ∈ ns) : l = sortI (onceI ns) := by
  have nd : l.Nodup := h1.imp fun h => Int.ne_of_lt h
  have p : l.Perm (sortI (onceI ns)) := ((List.perm_ext_iff_of_nodup nd (onceI_nodup ns)).mpr fun k => by rw [h2 k, onceI_mem]).trans (sortI_perm _).symm
  exact sorted_unique p (h1.imp fun h => Int.le_of_lt h) (sortI_sorted _)
def rSetL (K : PySem.W.Frag) (w : World) : List V → Hp → VK → Prop := fun xs H Q => ∃ (l : Addr) (ns : List Int), xs = [V.ref l] ∧ SqL K H l (ns.map V.int) ∧ ns.length < 64 ∧ ∀ p c, H p = none → c ≤ ns.length → Q (.ref p) (upd H p (SetO w p (fun j => decide (j ∈ ns)) c))
theorem cr_setL {X : Cx} (hc : X.calm = true) : CallR X (.type "set") (rSetL X.K X.w) := by
  intro pins s σ H xs us Q I r h
  obtain ⟨l, ns, rfl, hq, hz, q⟩ := h
  obtain ⟨its, rv, hl, _⟩ := I.list hq
  rw [Vals.ref1 r]
  refine call_set_ints ns (I.ok.hd hc) hl.isList (by simpa using rv.ints) (by unfold scanBound; omega) fun h' tk c R hcn k => ?_
  exact ⟨.ref _, upd H s.heap.objs.size (SetO X.w s.heap.objs.size (fun j => decide (j ∈ ns)) c), I.laid (t' := tk) k (Nat.le_refl _) (setO_new R), rfl, q _ _ (I.hok.fresh (Nat.le_refl _)) hcn⟩
section
variable {C : Cfg} {X : Cx} {Γ : Tbl} {con : Nat → Option D} {n : Nat} {G : Sig}
theorem s_sset {a : E} {y : Expr} {p p2 q pos : Pos} (K : XOk Γ con n G X) (h1 : glB X.env.scope "sorted" = true) (h2 : glB X.env.scope "set" = true) (h3 : notStar y = true) (h : SO C X a y) :
    SE C X (.sset a) (.Call (.Name "sorted" p) [.Call (.Name "set" p2) [y] [] q] [] pos) := fun Fr Hs0 bs σ ρ H Hs val ρ' Q s he k => by
  simp only [ev, Option.bind_eq_some_iff] at he
  obtain ⟨⟨o, ρ1⟩, e1, d, e2, v, e3, e4⟩ := he
  cases e4
  refine tb_e (pe_callB (cr_sortedSet K.calm) (gl_of h1) (K.free _ (by decide)) (by decide +kernel) (pa_cons (pe_callTy (cr_setL K.calm) (gl_of h2) (K.free _ (by decide)) (by decide +kernel) (pa_cons pe_tb pa_nil (st_cons h3)) (by decide) (by decide) (st_cons h3) rfl) pa_nil rfl) (by decide) (by decide) rfl rfl) ?_
  refine h _ _ _ _ _ _ _ _ _ _ s e1 fun v1 H1 Hs1 s1 x1 r1 => ?_
  have ro := fetch_ok s1 r1 e2
  unfold ssetD at e3
  split at e3
  · simp only [Option.bind_eq_some_iff] at e3
    obtain ⟨ns, e5, e6⟩ := e3
    split at e6
    · rename_i hl
      cases e6
      obtain ⟨l, vs, rfl, f1, f2⟩ := ro.list s1.sh
      have e7 := f2.intsD e5
      subst e7
      refine ⟨l, ns, rfl, f1, hl, fun p c hp hcn => ⟨p, _, c, rfl, upd_same, by omega, fun ns' p' w1 w2 w3 hp' => ?_⟩⟩
      have e8 := sset_unique (ns := ns) w1 fun k => by rw [w2 k, decide_eq_true_eq]
      subst e8
      have s2 := s1.grow (.newH (o := SetO X.w p (fun j => decide (j ∈ ns)) c) s1.sh hp)
      obtain ⟨s3, v3⟩ := s2.newOw (o := .lst _) (ho := .lst ((sortI (onceI ns)).map V.int)) hp' (RpAll.ofInts _)
      exact k _ _ _ s3 x1 v3
    · cases e6
  · cases e3
theorem s_dln {i : Nat} {x : Str} {p px pos : Pos} (K : XOk Γ con n G X) (hg : glB X.env.scope "len" = true) (h1 : X.N[i]? = some x) (h2 : visB X.env.scope x = true) (h3 : nmOk x = true) : SE C X (.dln i) (.Call (.Name "len" p) [.Name x px] [] pos) := fun Fr Hs0 bs σ ρ H Hs val ρ' Q s he q => by
  obtain ⟨d1, d2, _⟩ := nm_of h3
  simp only [ev, Option.bind_eq_some_iff] at he
  obtain ⟨kvs, e1, e2⟩ := he
  cases e2
  obtain ⟨a, ws, f1, f2, f3⟩ := dicAt_ok s e1
  refine tb_e (pe_callB call_len_dT (gl_of hg) (K.free _ (by decide)) PySem.boot_len (pa_cons (pe_var h1 (vis_of h2) d1 d2) pa_nil rfl) (by decide) (by decide) rfl rfl) ⟨_, f1, a, ws, rfl, f2, ?_⟩
  rw [← f3.len]
  exact q _ _ _ s (Ex.refl _) (.int _)
end
end MP
end

section
set_option Elab.async false
set_option linter.all false
set_option maxRecDepth 100000
set_option maxHeartbeats 8000000
namespace MP
open PySem PySem.Spec PyProof.Rows L2

section
variable {Γ : Tbl} {con : Nat → Option D} {n : Nat} {G : Sig}
theorem XOk.hu {X : Cx} (K : XOk Γ con n G X) : X.A.units + 65 < cLine := by have := K.room.un; omega
theorem so_of {C : Cfg} {X : Cx} {e : E} {x : Expr} (h : chkE G X.N e X.env.scope X.fn x = true) (hs : SE C X e x) : SO C X e x := by
  by_cases hv : ∃ i, e = .var i
  · obtain ⟨i, rfl⟩ := hv
    simp only [chkE] at h
    split at h
    · simp only [Bool.and_eq_true, decide_eq_true_eq] at h
      exact o_var h.1.1 h.1.2 h.2
    · cases h
  · exact hs.d.o fun i z => hv ⟨i, z⟩
theorem var_of {X : Cx} {e : E} {x : Expr} (h : chkE G X.N e X.env.scope X.fn x = true) : ∀ i, e = .var i → ∃ nm p, x = .Name nm p ∧ X.N[i]? = some nm ∧ visB X.env.scope nm = true ∧ nmOk nm = true := fun i z => by
  subst z
  simp only [chkE] at h
  split at h
  · simp only [Bool.and_eq_true, decide_eq_true_eq] at h
    exact ⟨_, _, rfl, h.1.1, h.1.2, h.2⟩
  · cases h
theorem both {C : Cfg} {X : Cx} {e : E} {x : Expr} (h : SE C X e x) (he : ∀ whole, isTrue x X.env whole = (do let v ← whole; standAt x.pos; holding [v] (truthy v))) (hb : isBo2 x = false) : SE C X e x ∧ ST C X e x := ⟨h, h.t he hb⟩
/-- an if as a test -/
theorem t_ite {C : Cfg} {X : Cx} {c a b : E} {x y z : Expr} {pos : Pos} (hc : ST C X c x) (ha : ST C X a y) (hb : ST C X b z) : ST C X (.ite c a b) (.IfExp x y z pos) := by
  intro Fr Hs0 bs σ ρ H Hs k ρ' Q s he q wh hw pins s0 I
  obtain ⟨val, h1, h2⟩ := toD_inv (toB_inv he)
  simp only [ev, Option.bind_eq_some_iff] at h1
  obtain ⟨⟨k1, ρ1⟩, e1, e2⟩ := h1
  show wpAny (model X.prog X.w) X.A (do if ← isTrue x X.env (eval x X.env) then isTrue y X.env (eval y X.env) else isTrue z X.env (eval z X.env)) _ _ _
  have g := hc Fr Hs0 bs σ ρ H Hs k1 ρ1 (fun b H1 => b = k1 ∧ ∃ Hs1, Sta X.K Fr Hs0 bs σ ρ1 H1 Hs1 ∧ Ex Hs Hs1) s e1 (fun H' Hs' s' x' => ⟨rfl, Hs', s', x'⟩)
  refine wpAny_bind (thn (g (eval x X.env) (.inr rfl) pins s0 I) fun b s1 ⟨H1, I1, hbk, Hs1, s1', x1⟩ => ?_)
  subst hbk
  cases b with
  | true =>
    simp only [if_true] at e2 ⊢
    have g2 := ha Fr Hs0 bs σ ρ1 H1 Hs1 k ρ' Q s1' (by unfold toB; unfold toD; rw [e2]; simp only [Option.bind_some, h2]; rfl) (fun H' Hs' s' x' => q H' Hs' s' (x1.trans x'))
    exact g2 (eval y X.env) (.inr rfl) pins s1 I1
  | false =>
    simp only [Bool.false_eq_true, if_false] at e2 ⊢
    have g2 := hb Fr Hs0 bs σ ρ1 H1 Hs1 k ρ' Q s1' (by unfold toB; unfold toD; rw [e2]; simp only [Option.bind_some, h2]; rfl) (fun H' Hs' s' x' => q H' Hs' s' (x1.trans x'))
    exact g2 (eval z X.env) (.inr rfl) pins s1 I1
/-- the place of a comprehension's block -/
theorem XOk.blk {X : Cx} (K : XOk Γ con n G X) {scope : Scope} (hk : scope.kind = .function) (s : Shared) (H : Hp) (c : Addr) (cl : List (Str × Addr)) (fp : List Addr) : XOk Γ con n G (bk X scope s H c cl fp) :=
  ⟨K.calm, K.nd, rfl, K.room, K.gd, hk, K.free, K.cons, K.fns⟩

mutual
theorem okE : ∀ (e : E) (X : Cx), XOk Γ con n G X → ∀ x : Expr, chkE G X.N e X.env.scope X.fn x = true → SE (cfg Γ con n) X e x ∧ ST (cfg Γ con n) X e x
  | .non, X, K, z, h => by
    simp only [chkE] at h; split at h
    · exact both s_non (fun _ => rfl) rfl
    · cases h
  | .bl b, X, K, z, h => by
    simp only [chkE] at h; split at h
    · have e := eq_of_beq h
      subst e
      exact both s_bl (fun _ => rfl) rfl
    · cases h
  | .int i, X, K, z, h => by
    simp only [chkE] at h; split at h
    · have e := of_decide_eq_true h
      subst e
      exact both s_int (fun _ => rfl) rfl
    · cases h
  | .str i, X, K, z, h => by
    simp only [chkE] at h; split at h
    · have e := of_decide_eq_true h
      subst e
      exact both s_str (fun _ => rfl) rfl
    · cases h
  | .var i, X, K, z, h => by
    simp only [chkE] at h; split at h
    · simp only [Bool.and_eq_true, decide_eq_true_eq] at h
      exact both (s_var h.1.1 h.1.2 h.2) (fun _ => rfl) rfl
    · cases h
  | .glo g, X, K, z, h => by
    simp only [chkE] at h; split at h
    · simp only [Bool.and_eq_true, decide_eq_true_eq] at h
      exact both (s_glo K h.1.1 h.1.2 h.2) (fun _ => rfl) rfl
    · cases h
  | .op o a b, X, K, z, h => by
    simp only [chkE] at h; split at h
    · simp only [Bool.and_eq_true] at h
      exact both (s_op h.1.1 (so_of h.1.2 (okE a X K _ h.1.2).1) (so_of h.2 (okE b X K _ h.2).1)) (fun _ => rfl) rfl
    · cases h
  | .neg a, X, K, z, h => by
    simp only [chkE] at h; split at h
    · exact both (s_neg (okE a X K _ h).1) (fun _ => rfl) rfl
    · cases h
  | .cmp o a b, X, K, z, h => by
    simp only [chkE] at h; split at h
    · simp only [Bool.and_eq_true] at h
      have ha := so_of h.1.2 (okE a X K _ h.1.2).1
      have hb := so_of h.2 (okE b X K _ h.2).1
      exact ⟨s_cmp K.hu h.1.1.1 h.1.1.2 ha hb, t_cmp K.hu h.1.1.1 h.1.1.2 ha hb⟩
    · cases h
  | .cmp2 o o' a b c, X, K, z, h => by
    simp only [chkE] at h; split at h
    · simp only [Bool.and_eq_true] at h
      have ha := (okE a X K _ h.1.1.2).1
      have hb := (okE b X K _ h.1.2).1
      have hc := (okE c X K _ h.2).1
      exact ⟨s_chain K.hu h.1.1.1.1.1 h.1.1.1.1.2 h.1.1.1.2 ha hb hc, t_chain K.hu h.1.1.1.1.1 h.1.1.1.1.2 h.1.1.1.2 ha hb hc⟩
    · cases h
  | .isN a, X, K, z, h => by
    simp only [chkE] at h; split at h
    · have ha := so_of h (okE a X K _ h).1
      exact ⟨s_isN ha, t_isN ha⟩
    · cases h
  | .notN a, X, K, z, h => by
    simp only [chkE] at h; split at h
    · have ha := so_of h (okE a X K _ h).1
      exact ⟨s_notN ha, t_notN ha⟩
    · cases h
  | .not a, X, K, z, h => by
    simp only [chkE] at h; split at h
    · have ha := okE a X K _ h
      exact ⟨s_not ha.1, t_not ha.2⟩
    · cases h
  | .and a b, X, K, z, h => by
    simp only [chkE] at h; split at h
    · simp only [Bool.and_eq_true] at h
      have ha := okE a X K _ h.1
      have hb := okE b X K _ h.2
      exact ⟨s_and ha.1 (s_one hb.1), t_and ha.2 (t_one_and hb.2)⟩
    · simp only [Bool.and_eq_true] at h
      have ha := okE a X K _ h.1
      have hb := okE b X K _ h.2
      exact ⟨s_and ha.1 hb.1, t_and ha.2 hb.2⟩
    · cases h
  | .or a b, X, K, z, h => by
    simp only [chkE] at h; split at h
    · simp only [Bool.and_eq_true] at h
      have ha := okE a X K _ h.1
      have hb := okE b X K _ h.2
      exact ⟨s_or ha.1 (s_one hb.1), t_or ha.2 (t_one_or hb.2)⟩
    · simp only [Bool.and_eq_true] at h
      have ha := okE a X K _ h.1
      have hb := okE b X K _ h.2
      exact ⟨s_or ha.1 hb.1, t_or ha.2 hb.2⟩
    · cases h
  | .ite c a b, X, K, z, h => by
    simp only [chkE] at h; split at h
    · simp only [Bool.and_eq_true] at h
      have hc := okE c X K _ h.1.1
      have ha := okE a X K _ h.1.2
      have hb := okE b X K _ h.2
      exact ⟨s_ite hc.2 ha.1 hb.1, t_ite hc.2 ha.2 hb.2⟩
    · cases h
  | .tup es, X, K, z, h => by
    simp only [chkE] at h; split at h
    · exact both (s_tup (okEs es X K _ h).1) (fun _ => rfl) rfl
    · cases h
  | .lst es, X, K, z, h => by
    simp only [chkE] at h; split at h
    · exact both (s_lst (okEs es X K _ h).1) (fun _ => rfl) rfl
    · cases h
  | .ix a b, X, K, z, h => by
    simp only [chkE] at h; split at h
    · simp only [Bool.and_eq_true] at h
      exact both (s_ix h.1.1 (so_of h.1.2 (okE a X K _ h.1.2).1) (okE b X K _ h.2).1) (fun _ => rfl) rfl
    · cases h
  | .slH a b, X, K, z, h => by
    simp only [chkE] at h; split at h
    · simp only [Bool.and_eq_true] at h
      exact both (s_slH (so_of h.1 (okE a X K _ h.1).1) (okE b X K _ h.2).1) (fun _ => rfl) rfl
    · cases h
  | .slL a b, X, K, z, h => by
    simp only [chkE] at h; split at h
    · simp only [Bool.and_eq_true] at h
      exact both (s_slL (so_of h.1 (okE a X K _ h.1).1) (okE b X K _ h.2).1) (fun _ => rfl) rfl
    · cases h
  | .slB a b c, X, K, z, h => by
    simp only [chkE] at h; split at h
    · simp only [Bool.and_eq_true] at h
      exact both (s_slB (so_of h.1.1 (okE a X K _ h.1.1).1) (okE b X K _ h.1.2).1 (okE c X K _ h.2).1) (fun _ => rfl) rfl
    · cases h
  | .rev a, X, K, z, h => by simp only [chkE, Bool.false_eq_true] at h
  | .call f es, X, K, z, h => by
    simp only [chkE] at h; split at h
    · simp only [Bool.and_eq_true, decide_eq_true_eq] at h
      refine both (s_call K h.1.1.1.1 h.1.1.1.2 h.1.1.2 h.2 (fun e => ?_) (okEs es X K _ h.1.2).2.2.1) (fun _ => rfl) rfl
      have k := h.1.2
      rw [e] at k
      cases es <;> simp only [chkEs, Bool.false_eq_true] at k
      rfl
    · cases h
  | .blt b es, X, K, z, h => by
    simp only [chkE] at h; split at h
    · simp only [Bool.and_eq_true, decide_eq_true_eq] at h
      have e := h.1.1.1
      subst e
      exact both (s_blt K h.1.1.2 h.2 (okEs es X K _ h.1.2).2.1) (fun _ => rfl) rfl
    · cases h
  | .isi a t, X, K, z, h => by
    simp only [chkE] at h; split at h
    · simp only [Bool.and_eq_true, decide_eq_true_eq] at h
      have e1 := h.1.1.1.1.1
      have e2 := h.1.1.1.1.2
      subst e1 e2
      exact both (s_isi K h.1.1.1.2 h.1.1.2 h.1.2 (so_of h.2 (okE a X K _ h.2).1)) (fun _ => rfl) rfl
    · cases h
  | .lc elt tg it ifs own, X, K, z, h => by
    simp only [chkE] at h; split at h
    · rename_i x t i fs scope pos
      simp only [Bool.and_eq_true, decide_eq_true_eq, List.all_eq_true] at h
      obtain ⟨⟨⟨⟨⟨⟨⟨h1, h2⟩, h3⟩, h4⟩, h5⟩, h6⟩, h7⟩, h8⟩ := h
      have hk := (blkOk_by h1).kind
      exact both (s_lcE K.calm K.nd h1 h2 h3 (okI it X K _ _ h4) (fun s H c cl fp => g_all (K.blk hk s H c cl fp) tg t h5)
        (fun s H c cl fp => (okEs ifs (bk X scope s H c cl fp) (K.blk hk s H c cl fp) fs h7).2.2.2 h6) (fun s H c cl fp => (okE elt (bk X scope s H c cl fp) (K.blk hk s H c cl fp) x h8).1)) (fun _ => rfl) rfl
    · cases h
  | .lc2 elt tg it ifs tg' it' ifs' own, X, K, z, h => by
    simp only [chkE] at h; split at h
    · rename_i x t i fs t' i' fs' scope pos
      simp only [Bool.and_eq_true, decide_eq_true_eq, List.all_eq_true] at h
      obtain ⟨⟨⟨⟨⟨⟨⟨⟨⟨⟨⟨⟨⟨h1, h2⟩, h2'⟩, h3⟩, h3'⟩, h4⟩, h5⟩, h6⟩, h7⟩, h8⟩, h9⟩, h10⟩, h11⟩, h12⟩ := h
      have hk := (blkOk_by h1).kind
      exact both (s_lc2E K.calm K.nd h1 h2 h2' h3 h3' (okI it X K _ _ h4) (fun s H c cl fp => g_all (K.blk hk s H c cl fp) tg t h5)
        (fun s H c cl fp => (okEs ifs (bk X scope s H c cl fp) (K.blk hk s H c cl fp) fs h7).2.2.2 h6) (fun s H c cl fp => okI it' (bk X scope s H c cl fp) (K.blk hk s H c cl fp) t' i' h8) (fun s H c cl fp => g_all (K.blk hk s H c cl fp) tg' t' h9)
        (fun s H c cl fp => (okEs ifs' (bk X scope s H c cl fp) (K.blk hk s H c cl fp) fs' h11).2.2.2 h10) (fun s H c cl fp => (okE elt (bk X scope s H c cl fp) (K.blk hk s H c cl fp) x h12).1)) (fun _ => rfl) rfl
    · cases h
  | .cmp3 o o' o'' a b c d, X, K, z, h => by
    simp only [chkE] at h; split at h
    · simp only [Bool.and_eq_true] at h
      obtain ⟨⟨⟨⟨⟨⟨⟨h1, h2⟩, h3⟩, h4⟩, h5⟩, h6⟩, h7⟩, h8⟩ := h
      exact s_ch3 K.hu h1 h2 h3 h4 (okE a X K _ h5).1 (okE b X K _ h6).1 (okE c X K _ h7).1 (okE d X K _ h8).1
    · cases h
  | .isT ng a, X, K, z, h => by
    simp only [chkE] at h; split at h
    · simp only [Bool.and_eq_true] at h
      exact s_isT h.1 (okE a X K _ h.2).1
    · cases h
  | .or2 a b, X, K, z, h => by
    simp only [chkE] at h; split at h
    · simp only [Bool.and_eq_true] at h
      exact s_or2 (okE a X K _ h.1).1 (okE b X K _ h.2).1
    · cases h
  | .lrng a, X, K, z, h => by
    simp only [chkE] at h; split at h
    · simp only [Bool.and_eq_true, decide_eq_true_eq] at h
      obtain ⟨⟨⟨⟨⟨h1, h2⟩, h3⟩, h4⟩, h5⟩, h6⟩ := h
      subst h1 h2
      exact both (s_lrng K h3 h4 h5 (okE a X K _ h6).1) (fun _ => rfl) rfl
    · cases h
  | .trng a, X, K, z, h => by
    simp only [chkE] at h; split at h
    · simp only [Bool.and_eq_true, decide_eq_true_eq] at h
      obtain ⟨⟨⟨⟨⟨h1, h2⟩, h3⟩, h4⟩, h5⟩, h6⟩ := h
      subst h1 h2
      exact both (s_trng K h3 h4 h5 (okE a X K _ h6).1) (fun _ => rfl) rfl
    · cases h
  | .dsd i k v, X, K, z, h => by
    simp only [chkE] at h; split at h
    · simp only [Bool.and_eq_true, decide_eq_true_eq] at h
      obtain ⟨⟨⟨⟨⟨⟨⟨⟨h1, h2⟩, h3⟩, h4⟩, h5⟩, h6⟩, h7⟩, h8⟩, h9⟩ := h
      subst h1
      exact both (s_dsd K h2 h3 h4 h5 h6 h7 (okE k X K _ h8).1 (okE v X K _ h9).1) (fun _ => rfl) rfl
    · cases h
  | .calld f es, X, K, z, h => by
    simp only [chkE] at h; split at h
    · simp only [Bool.and_eq_true, decide_eq_true_eq] at h
      obtain ⟨⟨⟨⟨⟨h1, h2⟩, h3⟩, h4⟩, h5⟩, h6⟩ := h
      exact both (s_calld K h1 h2 h3 h4 (by simpa using h6) (okEs es X K _ h5).2.2.1) (fun _ => rfl) rfl
    · cases h
  | .pop i a, X, K, z, h => by
    simp only [chkE] at h; split at h
    · simp only [Bool.and_eq_true, decide_eq_true_eq] at h
      obtain ⟨⟨⟨⟨⟨⟨h1, h2⟩, h3⟩, h4⟩, h5⟩, h6⟩, h7⟩ := h
      subst h1
      exact both (s_pop h2 h3 h4 h5 h6 (okE a X K _ h7).1) (fun _ => rfl) rfl
    · cases h
  | .idx a b, X, K, z, h => by
    simp only [chkE] at h; split at h
    · simp only [Bool.and_eq_true, decide_eq_true_eq] at h
      obtain ⟨⟨⟨⟨⟨h1, h2⟩, h3⟩, h4⟩, h5⟩, h6⟩ := h
      subst h1
      exact both (s_idx K h2 h3 h4 (so_of h5 (okE a X K _ h5).1) (okE b X K _ h6).1) (fun _ => rfl) rfl
    · cases h
  | .dnew, X, K, z, h => by
    simp only [chkE] at h; split at h
    · exact both s_dnew (fun _ => rfl) rfl
    · cases h
  | .din ng i k, X, K, z, h => by
    simp only [chkE] at h; split at h
    · simp only [Bool.and_eq_true, decide_eq_true_eq] at h
      obtain ⟨⟨⟨⟨h1, h2⟩, h3⟩, h4⟩, h5⟩ := h
      exact ⟨s_din K h1 h2 h3 h4 (okE k X K _ h5).1, t_din K h1 h2 h3 h4 (okE k X K _ h5).1⟩
    · cases h
  | .dget i k, X, K, z, h => by
    simp only [chkE] at h; split at h
    · simp only [Bool.and_eq_true, decide_eq_true_eq] at h
      obtain ⟨⟨⟨⟨h1, h2⟩, h3⟩, h4⟩, h5⟩ := h
      exact both (s_dget K h1 h2 h3 h4 (okE k X K _ h5).1) (fun _ => rfl) rfl
    · cases h
  | .dln i, X, K, z, h => by
    simp only [chkE] at h; split at h
    · simp only [Bool.and_eq_true, decide_eq_true_eq] at h
      obtain ⟨⟨⟨⟨h1, h2⟩, h3⟩, h4⟩, h5⟩ := h
      subst h1
      exact both (s_dln K h2 h3 h4 h5) (fun _ => rfl) rfl
    · cases h
  | .sset a, X, K, z, h => by
    simp only [chkE] at h; split at h
    · simp only [Bool.and_eq_true, decide_eq_true_eq] at h
      obtain ⟨⟨⟨⟨⟨h1, h2⟩, h3⟩, h4⟩, h5⟩, h6⟩ := h
      subst h1 h2
      exact both (s_sset K h3 h4 h5 (so_of h6 (okE a X K _ h6).1)) (fun _ => rfl) rfl
    · cases h
  | .frz a, X, K, z, h => by
    simp only [chkE] at h
    have ha := okE a X K _ h
    exact ⟨s_frz ha.1, t_frz ha.2⟩
theorem okEs : ∀ (es : Es) (X : Cx), XOk Γ con n G X → ∀ xs : List Expr, chkEs G X.N es X.env.scope X.fn xs = true → SEs (cfg Γ con n) X es xs ∧ SOs (cfg Γ con n) X es xs ∧ SAs (cfg Γ con n) X es xs ∧ (xs.length ≤ 1 → STs (cfg Γ con n) X es xs)
  | .nil, X, K, zs, h => by
    simp only [chkEs] at h; split at h
    · exact ⟨s_nil, os_nil, as_nil, fun _ => ts_nil⟩
    · cases h
  | .cons e es, X, K, zs, h => by
    simp only [chkEs] at h; split at h
    · rename_i x xs
      simp only [Bool.and_eq_true] at h
      have he := okE e X K _ h.1.2
      have hs := okEs es X K _ h.2
      refine ⟨s_cons h.1.1 he.1 hs.1, os_cons h.1.1 (so_of h.1.2 he.1) hs.2.1, as_cons h.1.1 he.1 (var_of h.1.2) hs.2.2.1, fun hl => ?_⟩
      have e1 : xs = [] := by
        cases xs with
        | nil => rfl
        | cons a b => simp at hl
      subst e1
      have k := h.2
      cases es <;> simp only [chkEs, Bool.false_eq_true] at k
      exact ts_one he.2
    · cases h
  | .star e es, X, K, zs, h => by
    simp only [chkEs] at h; split at h
    · simp only [Bool.and_eq_true] at h
      have he := okE e X K _ h.1
      have hs := okEs es X K _ h.2
      refine ⟨s_star he.1 hs.1, ?_, ?_, fun _ => ?_⟩
      · intro _ _ _ _ _ _ _ _ _ _ _ w; cases w
      · intro _ _ _ _ _ _ _ _ _ _ _ _ w; cases w
      · intro _ _ _ _ _ _ _ _ _ _ _ w; cases w
    · cases h
theorem okI : ∀ (it : It) (X : Cx), XOk Γ con n G X → ∀ t x : Expr, chkI G X.N it X.env.scope X.fn t x = true → SI (cfg Γ con n) X it t x
  | .seq e, X, K, t, z, h => by
    simp only [chkI] at h
    exact i_seq (okE e X K _ h).1
  | .rng a, X, K, t, z, h => by
    simp only [chkI] at h; split at h
    · simp only [Bool.and_eq_true, decide_eq_true_eq] at h
      obtain ⟨⟨⟨h1, h2⟩, h3⟩, h4⟩ := h
      subst h1
      exact i_rng K h2 h3 (okE a X K _ h4).1
    · cases h
  | .rng2 a b, X, K, t, z, h => by
    simp only [chkI] at h; split at h
    · simp only [Bool.and_eq_true, decide_eq_true_eq] at h
      obtain ⟨⟨⟨⟨⟨h1, h2⟩, h3⟩, h4⟩, h5⟩, h6⟩ := h
      subst h1
      exact i_rng2 K h2 h3 h4 (okE a X K _ h5).1 (okE b X K _ h6).1
    · cases h
  | .rng3 a b c, X, K, t, z, h => by
    simp only [chkI] at h; split at h
    · simp only [Bool.and_eq_true, decide_eq_true_eq] at h
      obtain ⟨⟨⟨⟨⟨⟨⟨h1, h2⟩, h3⟩, h4⟩, h5⟩, h6⟩, h7⟩, h8⟩ := h
      subst h1
      exact i_rng3 K h2 h3 h4 h5 (okE a X K _ h6).1 (okE b X K _ h7).1 (okE c X K _ h8).1
    · cases h
  | .enm e, X, K, t, z, h => by
    simp only [chkI] at h; split at h
    · simp only [Bool.and_eq_true, decide_eq_true_eq] at h
      obtain ⟨⟨⟨⟨h1, h2⟩, h3⟩, h4⟩, h5⟩ := h
      subst h2
      exact i_enm K h1 h3 h4 (okE e X K _ h5).1
    · cases h
  | .zip a b, X, K, t, z, h => by
    simp only [chkI] at h; split at h
    · simp only [Bool.and_eq_true, decide_eq_true_eq] at h
      obtain ⟨⟨⟨⟨⟨⟨h1, h2⟩, h3⟩, h4⟩, h5⟩, h6⟩, h7⟩ := h
      subst h2
      exact i_zip K h1 h3 h4 h5 (okE a X K _ h6).1 (okE b X K _ h7).1
    · cases h
end
end
end MP
end

section
set_option Elab.async false
set_option linter.all false
set_option maxRecDepth 100000
set_option maxHeartbeats 8000000
namespace MP
open PySem PySem.Spec PyProof.Rows L2
theorem swp_yes2 {x y : Str} {u v : Expr} {p1 p2 tp vp : Pos} {k k2 : Nat} {env : PySem.Env} (hu : notStar u = true) (hv : notStar v = true) (hk : env.scope.kind = .function) (k1 : env.kindOf x = some .local) (kk : env.kindOf y = some .local) (ln : (p2.line == p1.line) = true) (hne : x ≠ y)
    (h4 : (foldedForSure 8 u && foldedForSure 8 v) = false) (h5 : (constantsAlone 8 u && constantsAlone 8 v) = false) : swappedStores [.Tuple [.Name x p1, .Name y p2] k tp] (.Tuple [u, v] k2 vp) env = pure (some [x, y]) := by
  have kb : env.blockKind = .function := by unfold PySem.Env.blockKind; rw [hk]; rfl
  unfold swappedStores
  simp only [List.length_cons, List.length_nil, kb, List.filterMap_cons, List.filterMap_nil, k1, kk, List.head?_cons, Option.map_some, Option.getD_some, Expr.pos, ln, List.any_cons, List.any_nil, List.all_cons, List.all_nil, Bool.or_false, Bool.and_true, h4, h5]
  split
  · rename_i h; simp at h
  · split
    · cases hu
    · split
      · cases hv
      · have e1 : (y == x) = false := beq_eq_false_iff_ne.mpr (Ne.symm hne)
        have e2 : (p1.line == p1.line) = true := by simp
        simp [e1, e2, List.eraseDups_cons, hne, Ne.symm hne]
theorem swp_yes3 {x y z : Str} {u v w : Expr} {p1 p2 p3 tp vp : Pos} {k k2 : Nat} {env : PySem.Env} (hu : notStar u = true) (hv : notStar v = true) (hw : notStar w = true) (hk : env.scope.kind = .function) (k1 : env.kindOf x = some .local) (kk : env.kindOf y = some .local) (k3 : env.kindOf z = some .local) (ln : (p2.line == p1.line) = true) (ln3 : (p3.line == p1.line) = true) (hxy : x ≠ y) (hxz : x ≠ z) (hyz : y ≠ z)
    (h4 : (foldedForSure 8 u && (foldedForSure 8 v && foldedForSure 8 w)) = false) (h5 : (constantsAlone 8 u && (constantsAlone 8 v && constantsAlone 8 w)) = false) : swappedStores [.Tuple [.Name x p1, .Name y p2, .Name z p3] k tp] (.Tuple [u, v, w] k2 vp) env = pure (some [x, y, z]) := by
  have kb : env.blockKind = .function := by unfold PySem.Env.blockKind; rw [hk]; rfl
  unfold swappedStores
  simp only [List.length_cons, List.length_nil, kb, List.filterMap_cons, List.filterMap_nil, k1, kk, k3, List.head?_cons, Option.map_some, Option.getD_some, Expr.pos, ln, ln3, List.any_cons, List.any_nil, List.all_cons, List.all_nil, Bool.or_false, Bool.and_true, h4, h5]
  split
  · rename_i h; simp at h
  · split
    · cases hu
    · split
      · cases hv
      · split
        · cases hw
        · have e2 : (p1.line == p1.line) = true := by simp
          simp [e2, List.eraseDups_cons, hxy, hxz, hyz, Ne.symm hxy, Ne.symm hxz, Ne.symm hyz]
theorem fm_len {f : Expr → Option Str} : ∀ {l : List Expr}, (∃ t ∈ l, f t = none) → (l.filterMap f).length ≠ l.length
  | [], ⟨t, h, _⟩ => by cases h
  | a :: l, ⟨t, h, e⟩ => fun z => by
    have le := List.length_filterMap_le f l
    cases q : f a with
    | none => rw [List.filterMap_cons_none q, List.length_cons] at z; omega
    | some y =>
      rw [List.filterMap_cons_some q, List.length_cons, List.length_cons] at z
      have ht : t ∈ l := by
        rcases List.mem_cons.mp h with k | k
        · rw [k, q] at e; cases e
        · exact k
      exact fm_len ⟨t, ht, e⟩ (by omega)
def lnN (env : PySem.Env) (ln : Nat) : Expr → Option Str
  | .Name id pos => if env.kindOf id == some .local && pos.line == ln then some id else none
  | _ => none
/-- no stores in the other order -/
theorem swp_no {ts vs : List Expr} {k k2 : Nat} {p p2 : Pos} {env : PySem.Env} (h : ∃ t ∈ ts, ∀ ln, lnN env ln t = none) : swappedStores [.Tuple ts k p] (.Tuple vs k2 p2) env = pure none := by
  obtain ⟨t, ht, hn⟩ := h
  have n := fm_len (f := lnN env ((ts.head?.map (·.pos.line)).getD 0)) ⟨t, ht, hn _⟩
  have e : (fun x => lnN env ((ts.head?.map (·.pos.line)).getD 0) x) = (fun | .Name id pos => if env.kindOf id == some .local && pos.line == (ts.head?.map (·.pos.line)).getD 0 then some id else none | _ => none) := by
    funext x
    cases x <;> rfl
  unfold swappedStores
  simp only
  split
  · rfl
  · split
    · rfl
    · split
      · rfl
      · rename_i hn
        refine absurd ?_ hn
        rw [Bool.or_eq_true]
        left
        simp only [bne_iff_ne, ne_eq]
        intro z
        refine n (Eq.trans ?_ z)
        congr 1
theorem nmsOf_none : ∀ {ts : List Expr} {env : PySem.Env}, nmsOf ts = none → ∃ t ∈ ts, ∀ ln, lnN env ln t = none
  | [], _, h => by cases h
  | a :: l, env, h => by
    by_cases ha : ∃ x p, a = .Name x p
    · obtain ⟨x, p, rfl⟩ := ha
      have h2 : nmsOf l = none := by
        simp only [nmsOf] at h
        cases q : nmsOf l with
        | none => rfl
        | some y => rw [q] at h; cases h
      obtain ⟨t, ht, hn⟩ := nmsOf_none (env := env) h2
      exact ⟨t, List.mem_cons_of_mem _ ht, hn⟩
    · refine ⟨a, List.mem_cons_self, fun ln => ?_⟩
      cases a <;> first | rfl | exact absurd ⟨_, _, rfl⟩ ha
end MP
end

section
set_option Elab.async false
set_option linter.all false
set_option maxRecDepth 100000
set_option maxHeartbeats 8000000
namespace MP
open PySem PySem.Spec PyProof.Rows L2

/-- what follows a statement -/
def FlOk (K : PySem.W.Frag) (Fr Hs0 : Hp) (bs : List (Nat × Addr)) (Hs : Hp) (D : Ends) : Fl → Prop
  | .nx ρ => ∀ σ H' Hs', Sta K Fr Hs0 bs σ ρ H' Hs' → Ex Hs Hs' → D.nx σ H'
  | .rt val ρ => ∀ v σ H' Hs', Sta K Fr Hs0 bs σ ρ H' Hs' → Ex Hs Hs' → VOk K Fr σ ρ H' Hs' v val → D.rt v H'
  | .bk ρ => ∀ σ H' Hs', Sta K Fr Hs0 bs σ ρ H' Hs' → Ex Hs Hs' → D.bk σ H'
  | .ct ρ => ∀ σ H' Hs', Sta K Fr Hs0 bs σ ρ H' Hs' → Ex Hs Hs' → D.ct σ H'
theorem FlOk.mono {K : PySem.W.Frag} {Fr Hs0 : Hp} {bs : List (Nat × Addr)} {Hs Hs1 : Hp} {D : Ends} {fl : Fl} (e : Ex Hs Hs1) (h : FlOk K Fr Hs0 bs Hs D fl) : FlOk K Fr Hs0 bs Hs1 D fl := by
  cases fl with
  | nx ρ => exact fun σ H' Hs' s x => h σ H' Hs' s (e.trans x)
  | rt val ρ => exact fun v σ H' Hs' s x vo => h v σ H' Hs' s (e.trans x) vo
  | bk ρ => exact fun σ H' Hs' s x => h σ H' Hs' s (e.trans x)
  | ct ρ => exact fun σ H' Hs' s x => h σ H' Hs' s (e.trans x)
def SS (C : Cfg) (X : Cx) (s : S) (st : Stmt) : Prop :=
  ∀ Fr Hs0 bs σ ρ H Hs fl (D : Ends), Sta X.K Fr Hs0 bs σ ρ H Hs → exec C s ρ = some fl → FlOk X.K Fr Hs0 bs Hs D fl → tbS X st D σ H
def SSs (C : Cfg) (X : Cx) (s : Ss) (st : List Stmt) : Prop :=
  ∀ Fr Hs0 bs σ ρ H Hs fl (D : Ends), Sta X.K Fr Hs0 bs σ ρ H Hs → execs C s ρ = some fl → FlOk X.K Fr Hs0 bs Hs D fl → tbSs X st D σ H
/-- a value is kept while others are made -/
theorem Sta.hold {K : PySem.W.Frag} {Fr Hs0 : Hp} {bs : List (Nat × Addr)} {σ : L2.St} {ρ : MP.Env} {H Hs : Hp} {v : V} {val : Val} (s : Sta K Fr Hs0 bs σ ρ H Hs) (h : VOk K Fr σ ρ H Hs v val) :
    ∃ Fr1, Sta K Fr1 Hs0 bs σ ρ H Hs ∧ ∀ σ' ρ' H' Hs', Sta K Fr1 Hs0 bs σ' ρ' H' Hs' → Ex Hs Hs' → Sta K Fr Hs0 bs σ' ρ' H' Hs' ∧ VOk K Fr σ' ρ' H' Hs' v val := by
  cases val with
  | sh d => exact ⟨Fr, s, fun σ' ρ' H' Hs' s' x => ⟨s', Rp.mono x h⟩⟩
  | ow o =>
    obtain ⟨q, ho, rfl, e2, e3, e4, e5, e6⟩ := h
    refine ⟨upd Fr q ho, s.frame e2 e4 e6, fun σ' ρ' H' Hs' s' x => ?_⟩
    obtain ⟨u, f1, f2, f3⟩ := s'.unframe e5 (s.s0.back e4)
    exact ⟨u, q, ho, rfl, f1, e3.mono x, f2, e5, f3⟩
section
variable {C : Cfg} {X : Cx}
theorem sw_no {v : Expr} {t : Option Expr} {l : Nat} {env : PySem.Env} (h : notComp v = true) : swapsWith v t l env = pure false := by
  cases v <;> first | rfl | cases h

theorem sw_sub {v a b : Expr} {sp : Pos} {l : Nat} {env : PySem.Env} : swapsWith v (some (.Subscript a b sp)) l env = pure false := by
  cases v <;> rfl
/-! ### small statements -/
theorem ss_asg {i : Nat} {e : E} {x : Str} {v : Expr} {p pos : Pos} (nd : X.N.Nodup) (hi : X.N[i]? = some x) (hx : locB X.env.scope X.fn x = true) (hs : swapsWith v (some (.Name x p)) pos.line X.env = pure false) (h : SE C X e v) :
    SS C X (.asg (.nm i) e) (.Assign [.Name x p] v pos) := fun Fr Hs0 bs σ ρ H Hs fl D s he q => by
  simp only [exec, Option.bind_eq_some_iff] at he
  obtain ⟨⟨val, ρ1⟩, e1, ρ2, e2, e3⟩ := he
  cases e3
  obtain ⟨k1, k2⟩ := loc_of hx
  exact tb_s (ps_set nd hi k1 pe_tb hs k2) (h _ _ _ _ _ _ _ _ _ _ s e1 fun v1 H1 Hs1 s1 x1 vo => q _ _ _ (s1.store vo e2) x1)
theorem sw_lc {elt : Expr} {gs : List Comprehension} {scope : Scope} {pos py : Pos} {y : Str} {l : Nat} {env : PySem.Env} : swapsWith (.ListComp elt gs scope pos) (some (.Name y py)) l env =
    pure (env.blockKind == .function && env.kindOf y == some .local && py.line == pos.line && !(scope.names.any fun (n, k) => n == y && (k == .local || k == .cell))) := rfl
/-- the reading of a comprehension -/
def SEL (C : Cfg) (X : Cx) (scope : Scope) (own : List Nat) (e : E) (x t i : Expr) (fs : List Expr) : Prop :=
  ∀ Fr Hs0 bs σ ρ H Hs val ρ' (Q : VK), Sta X.K Fr Hs0 bs σ ρ H Hs → ev C e ρ = some (val, ρ') → Kont X.K Fr Hs0 bs σ ρ' Hs val Q → tLc (tbI X t i) (gB X scope t) (tB X scope fs) (eB X scope x) ((ownNm X.N own).map (·.2)) σ H Q
theorem SEL.frz {scope : Scope} {own : List Nat} {e : E} {x t i : Expr} {fs : List Expr} (h : SEL C X scope own e x t i fs) : SEL C X scope own (.frz e) x t i fs := fun Fr Hs0 bs σ ρ H Hs val ρ' Q s he q => by
  simp only [ev, Option.bind_eq_some_iff] at he
  obtain ⟨⟨d, ρ1⟩, e1, e2⟩ := he
  cases e2
  obtain ⟨val, h1, h2⟩ := toD_inv e1
  refine h _ _ _ _ _ _ _ _ _ _ s h1 fun v H' Hs' s' ex vo => ?_
  obtain ⟨Hs2, s2, ex2, r⟩ := vo.toD s' h2
  exact q v H' Hs2 s2 (ex.trans ex2) r
theorem ss_asgLc {i0 : Nat} {x0 : Str} {p0 spos : Pos} {scope : Scope} {e : E} {own : List Nat} {x t i : Expr} {fs : List Expr} {pos : Pos} (hi0 : X.N[i0]? = some x0) (hx : locB X.env.scope X.fn x0 = true)
    (hc : X.calm = true) (nd : X.N.Nodup) (hblk : blkC X.N X.env.scope scope (ownNm X.N own) = true) (hni : notSet i = true) (hS : SE C X e (.ListComp x [⟨t, i, fs, 0⟩] scope pos)) (hL : SEL C X scope own e x t i fs) :
    SS C X (.asg (.nm i0) e) (.Assign [.Name x0 p0] (.ListComp x [⟨t, i, fs, 0⟩] scope pos) spos) := by
  cases hb : (X.env.blockKind == .function && X.env.kindOf x0 == some .local && p0.line == pos.line && !(scope.names.any fun (n, k) => n == x0 && (k == .local || k == .cell))) with
  | false => exact ss_asg nd hi0 hx (by rw [sw_lc, hb]) hS
  | true =>
    intro Fr Hs0 bs σ ρ H Hs fl D s he q
    simp only [exec, Option.bind_eq_some_iff] at he
    obtain ⟨⟨val, ρ1⟩, e1, ρ2, e2, e3⟩ := he
    cases e3
    have hl : X.env.scope.names.lookup x0 = some .local := by
      simp only [Bool.and_eq_true] at hb
      have := hb.1.1.2
      simpa [PySem.Env.kindOf] using this
    refine tb_s (ps_setLc hc nd hi0 hl (by rw [sw_lc, hb]) pi_tb (blkOk_by hblk) (g := gB X scope t) (tt := tB X scope fs) (te := eB X scope x) (fun s H c cl fp => ⟨fun pins s' σ H v u Q I r h => h _ _ _ _ _ pins s' u I r⟩) (fun s H c cl fp => ⟨fun pins s' σ H Q I h => h _ _ _ _ _ pins s' I⟩)
      (fun s H c cl fp => ⟨fun pins s' σ H Q I h => h _ _ _ _ _ pins s' I⟩) (fold_set hni)) ?_
    exact hL Fr Hs0 bs σ ρ H Hs val ρ1 _ s e1 fun v1 H1 Hs1 s1 x1 vo => q _ _ _ (s1.store vo e2) x1
theorem sw_lcA {elt : Expr} {gs : List Comprehension} {scope : Scope} {pos py : Pos} {y : Str} {l : Nat} {env : PySem.Env} : swapsWith (.ListComp elt gs scope pos) (some (.Name y py)) l env =
    pure (env.blockKind == .function && env.kindOf y == some .local && py.line == pos.line && !(scope.names.any fun (n, k) => n == y && (k == .local || k == .cell))) := rfl
/-- the reading of a comprehension with two fors -/
def SEM (C : Cfg) (X : Cx) (scope : Scope) (own vs1 : List Nat) (e : E) (x t i t' i' : Expr) (fs fs' : List Expr) : Prop :=
  ∀ Fr Hs0 bs σ ρ H Hs val ρ' (Q : VK), Sta X.K Fr Hs0 bs σ ρ H Hs → ev C e ρ = some (val, ρ') → Kont X.K Fr Hs0 bs σ ρ' Hs val Q → tLc2 (tbI X t i) (gB X scope t) (tB X scope fs) (iB X scope t' i') (gB X scope t') (tB X scope fs') (eB X scope x) ((ownNm X.N own).map (·.2)) vs1 σ H Q
theorem SEM.frz {scope : Scope} {own vs1 : List Nat} {e : E} {x t i t' i' : Expr} {fs fs' : List Expr} (h : SEM C X scope own vs1 e x t i t' i' fs fs') : SEM C X scope own vs1 (.frz e) x t i t' i' fs fs' := fun Fr Hs0 bs σ ρ H Hs val ρ' Q s he q => by
  simp only [ev, Option.bind_eq_some_iff] at he
  obtain ⟨⟨d, ρ1⟩, e1, e2⟩ := he
  cases e2
  obtain ⟨val, h1, h2⟩ := toD_inv e1
  refine h _ _ _ _ _ _ _ _ _ _ s h1 fun v H' Hs' s' ex vo => ?_
  obtain ⟨Hs2, s2, ex2, r⟩ := vo.toD s' h2
  exact q _ _ _ s2 (ex.trans ex2) r
theorem ss_asgLc2 {i0 : Nat} {x0 : Str} {p0 spos : Pos} {scope : Scope} {e : E} {own vs1 : List Nat} {x t i t' i' : Expr} {fs fs' : List Expr} {pos : Pos} (hi0 : X.N[i0]? = some x0) (hx : locB X.env.scope X.fn x0 = true)
    (hc : X.calm = true) (nd : X.N.Nodup) (hblk : blkC X.N X.env.scope scope (ownNm X.N own) = true) (hv : ∀ k ∈ vs1, k ∈ own) (hni : notSet i = true) (hni' : notSet i' = true) (hS : SE C X e (.ListComp x [⟨t, i, fs, 0⟩, ⟨t', i', fs', 0⟩] scope pos)) (hL : SEM C X scope own vs1 e x t i t' i' fs fs') :
    SS C X (.asg (.nm i0) e) (.Assign [.Name x0 p0] (.ListComp x [⟨t, i, fs, 0⟩, ⟨t', i', fs', 0⟩] scope pos) spos) := by
  cases hb : (X.env.blockKind == .function && X.env.kindOf x0 == some .local && p0.line == pos.line && !(scope.names.any fun (n, k) => n == x0 && (k == .local || k == .cell))) with
  | false => exact ss_asg nd hi0 hx (by rw [sw_lcA, hb]) hS
  | true =>
    intro Fr Hs0 bs σ ρ H Hs fl D s he q
    simp only [exec, Option.bind_eq_some_iff] at he
    obtain ⟨⟨val, ρ1⟩, e1, ρ2, e2, e3⟩ := he
    cases e3
    have hl : X.env.scope.names.lookup x0 = some .local := by
      simp only [Bool.and_eq_true] at hb
      have := hb.1.1.2
      simpa [PySem.Env.kindOf] using this
    refine tb_s (ps_setLc2 hc nd hi0 hl (by rw [sw_lcA, hb]) pi_tb (blkOk_by hblk) (by rw [own_snd]; exact hv) (g := gB X scope t) (tt := tB X scope fs) (wi1 := iB X scope t' i') (g1 := gB X scope t') (tt1 := tB X scope fs') (te := eB X scope x) (fun s H c cl fp => ⟨fun pins s' σ H v u Q I r h => h _ _ _ _ _ pins s' u I r⟩)
      (fun s H c cl fp => ⟨fun pins s' σ H Q I h => h _ _ _ _ _ pins s' I⟩) (fun s H c cl fp => ⟨fun pins s' σ H R I h => h _ _ _ _ _ pins s' I⟩) (fun s H c cl fp => ⟨fun pins s' σ H v u Q I r h => h _ _ _ _ _ pins s' u I r⟩)
      (fun s H c cl fp => ⟨fun pins s' σ H Q I h => h _ _ _ _ _ pins s' I⟩) (fun s H c cl fp => ⟨fun pins s' σ H Q I h => h _ _ _ _ _ pins s' I⟩) (fold_set hni) (fold_set' hni')) ?_
    exact hL Fr Hs0 bs σ ρ H Hs val ρ1 _ s e1 fun v1 H1 Hs1 s1 x1 vo => q _ _ _ (s1.store vo e2) x1
theorem swp_nt {ts : List Expr} {k : Nat} {p : Pos} {v : Expr} {env : PySem.Env} (h : isTupE v = false) : swappedStores [.Tuple ts k p] v env = pure none := by
  cases v <;> first | rfl | cases h
theorem ss_asgT {tg : Tg} {e : E} {t v : Expr} {pos : Pos} (ht : isTupE t = true) (hg : SG X tg t) (hn : ∀ i, tg ≠ .nm i) (hv : notComp v = true) (hw : swappedStores [t] v X.env = pure none) (h1 : (assignEach [t] X.env).map (·.2) = [assign t X.env]) (h : SE C X e v) :
    SS C X (.asg tg e) (.Assign [t] v pos) := fun Fr Hs0 bs σ ρ H Hs fl D s he q => by
  have he : ((toD (ev C e ρ)).bind fun p => (stTg tg p.1 p.2).bind fun ρ' => some (Fl.nx ρ')) = some fl := by
    cases tg with
    | nm i => exact absurd rfl (hn i)
    | t2 a b => exact he
    | t3 a b c => exact he
  simp only [Option.bind_eq_some_iff] at he
  obtain ⟨⟨d, ρ1⟩, e1, ρ2, e2, e3⟩ := he
  cases e3
  refine tb_s (ps_asg pe_tb pg_tb (by unfold swapsWithSole; exact sw_no hv) hw h1) (h.d _ _ _ _ _ _ _ _ _ _ s e1 fun v1 H1 Hs1 s1 x1 r1 => ?_)
  exact hg _ _ _ _ _ _ _ _ _ _ _ s1 r1 e2 fun σ' s' _ => q _ _ _ s' x1
theorem ss_par2 {i j : Nat} {a b : E} {x y : Str} {u v : Expr} {p1 p2 pos tp vp : Pos} {k k2 : Nat} (hc : X.calm = true) (nd : X.N.Nodup) (hi : X.N[i]? = some x) (hj : X.N[j]? = some y) (hij : i ≠ j) (hx : locB X.env.scope X.fn x = true) (hy : locB X.env.scope X.fn y = true)
    (hu : notStar u = true) (hv : notStar v = true) (hk : X.env.scope.kind = .function) (hp : (parB X.env.scope [.Name x p1, .Name y p2] [u, v]).isSome = true) (ha : SE C X a u) (hb : SE C X b v) :
    SS C X (.par2 i j a b) (.Assign [.Tuple [.Name x p1, .Name y p2] k tp] (.Tuple [u, v] k2 vp) pos) := fun Fr Hs0 bs σ ρ H Hs fl D s he q => by
  simp only [exec, Option.bind_eq_some_iff] at he
  obtain ⟨⟨val1, ρ1⟩, e1, ⟨val2, ρ2⟩, e2, ρ3, e3, ρ4, e4, e5⟩ := he
  cases e5
  obtain ⟨x1, x2⟩ := loc_of hx
  obtain ⟨y1, y2⟩ := loc_of hy
  have fin : ∀ (T : List V → Hp → Prop), (∀ v1 v2 H' Hs', Sta X.K Fr Hs0 bs ((σ.set i (some v1)).set j (some v2)) ρ4 H' Hs' → Ex Hs Hs' → (∀ w, H' w = none → Sta X.K Fr Hs0 bs ((σ.set i (some v1)).set j (some v2)) ρ4 (upd H' w (.tup [v1, v2])) Hs') → T [v1, v2] H') →
      tbE X u σ H fun v1 H1 => tbE X v σ H1 fun v2 H2 => T [v1, v2] H2 := fun T hT => by
    refine ha _ _ _ _ _ _ _ _ _ _ s e1 fun v1 H1 Hs1 s1 z1 vo1 => ?_
    obtain ⟨Fr1, t1, back1⟩ := s1.hold vo1
    refine hb _ _ _ _ _ _ _ _ _ _ t1 e2 fun v2 H2 Hs2 s2 z2 vo2 => ?_
    have s3 := s2.store vo2 e3
    obtain ⟨s4, vo4⟩ := back1 _ _ _ _ s3 z2
    have s5 := s4.store vo4 e4
    rw [List.set_comm _ _ (Ne.symm hij)] at s5
    exact hT _ _ _ _ s5 (z1.trans z2) fun w hw => s5.grow (.newH s5.sh hw)
  cases hb2 : parB X.env.scope [.Name x p1, .Name y p2] [u, v] with
  | none => rw [hb2] at hp; cases hp
  | some bb =>
    simp only [parB, nmsOf, Option.map_some] at hb2
    by_cases hloc : ([x, y].all fun z => decide (X.env.scope.names.lookup z = some .local)) = true
    · rw [if_pos hloc] at hb2
      split at hb2
      · rename_i hh
        simp only [Bool.and_eq_true, List.all_cons, List.all_nil, decide_eq_true_eq, Bool.and_true, Bool.not_eq_true'] at hh hloc
        obtain ⟨⟨⟨⟨h1, h2⟩, h3⟩, h4⟩, h5⟩ := hh
        have hne : x ≠ y := fun z => by rw [z] at h3; simp at h3
        exact tb_s (ps_par hc nd hi hj hij hloc.1 hloc.2 (pa_cons pe_tb (pa_cons pe_tb pa_nil (st_cons hv)) (st_cons hu)) (swp_yes2 hu hv hk hloc.1 hloc.2 h1.2 hne h4 h5) rfl)
          (fin (fun vs H1 => ∃ v w, vs = [v, w] ∧ D.nx ((σ.set i (some v)).set j (some w)) H1) fun v1 v2 H' Hs' s' x' _ => ⟨v1, v2, rfl, q _ _ _ s' x'⟩)
      · cases hb2
    · refine tb_s (ps_asg (pe_tup (pa_cons pe_tb (pa_cons pe_tb pa_nil (st_cons hv)) (st_cons hu))) (pg_tup hc (pgs_cons (pg_name nd hi x1 x2) (pgs_cons (pg_name nd hj y1 y2) pgs_nil))) rfl (swp_no ?_) rfl) ?_
      · by_cases g1 : X.env.kindOf x = some .local
        · refine ⟨.Name y p2, by simp, fun ln => ?_⟩
          have g2 : X.env.kindOf y ≠ some .local := fun g2 => hloc (by
            simp only [List.all_cons, List.all_nil, Bool.and_true, Bool.and_eq_true, decide_eq_true_eq]
            exact ⟨g1, g2⟩)
          simp [lnN, g2]
        · exact ⟨.Name x p1, by simp, fun ln => by simp [lnN, g1]⟩
      · exact fin (fun vs H1 => vs.length ≤ sizeLine ∧ ∀ p, H1 p = none → gTup X.K 2 (gCons (gName i) (gCons (gName j) gNil)) (.ref p) σ (upd H1 p (.tup vs)) D.nx) fun v1 v2 H' Hs' s' x' gr => ⟨(by show 2 ≤ sizeLine; decide), fun w hw => ⟨w, [v1, v2], rfl, .inl (.inl upd_same), rfl, v1, [v2], rfl, v2, [], rfl, rfl, q _ _ _ (gr w hw) x'⟩⟩
theorem ss_par3 {i j l : Nat} {a b c : E} {x y z : Str} {u v w : Expr} {p1 p2 p3 pos tp vp : Pos} {k k2 : Nat} (hc : X.calm = true) (nd : X.N.Nodup) (hi : X.N[i]? = some x) (hj : X.N[j]? = some y) (hl : X.N[l]? = some z) (hij : i ≠ j) (hil : i ≠ l) (hjl : j ≠ l)
    (hx : locB X.env.scope X.fn x = true) (hy : locB X.env.scope X.fn y = true) (hz : locB X.env.scope X.fn z = true) (hu : notStar u = true) (hv : notStar v = true) (hw : notStar w = true) (hk : X.env.scope.kind = .function)
    (hp : (parB X.env.scope [.Name x p1, .Name y p2, .Name z p3] [u, v, w]).isSome = true) (ha : SE C X a u) (hb : SE C X b v) (hd : SE C X c w) :
    SS C X (.par3 i j l a b c) (.Assign [.Tuple [.Name x p1, .Name y p2, .Name z p3] k tp] (.Tuple [u, v, w] k2 vp) pos) := fun Fr Hs0 bs σ ρ H Hs fl D s he q => by
  simp only [exec, Option.bind_eq_some_iff] at he
  obtain ⟨⟨val1, ρ1⟩, e1, ⟨val2, ρ2⟩, e2, ⟨val3, ρ3⟩, e3, ρ4, e4, ρ5, e5, ρ6, e6, e7⟩ := he
  cases e7
  obtain ⟨x1, x2⟩ := loc_of hx
  obtain ⟨y1, y2⟩ := loc_of hy
  obtain ⟨z1, z2⟩ := loc_of hz
  have fin : ∀ (T : List V → Hp → Prop), (∀ v1 v2 v3 H' Hs', Sta X.K Fr Hs0 bs (((σ.set i (some v1)).set j (some v2)).set l (some v3)) ρ6 H' Hs' → Ex Hs Hs' → (∀ w, H' w = none → Sta X.K Fr Hs0 bs (((σ.set i (some v1)).set j (some v2)).set l (some v3)) ρ6 (upd H' w (.tup [v1, v2, v3])) Hs') → T [v1, v2, v3] H') →
      tbE X u σ H fun v1 H1 => tbE X v σ H1 fun v2 H2 => tbE X w σ H2 fun v3 H3 => T [v1, v2, v3] H3 := fun T hT => by
    refine ha _ _ _ _ _ _ _ _ _ _ s e1 fun v1 H1 Hs1 s1 q1 vo1 => ?_
    obtain ⟨Fr1, t1, back1⟩ := s1.hold vo1
    refine hb _ _ _ _ _ _ _ _ _ _ t1 e2 fun v2 H2 Hs2 s2 q2 vo2 => ?_
    obtain ⟨Fr2, t2, back2⟩ := s2.hold vo2
    refine hd _ _ _ _ _ _ _ _ _ _ t2 e3 fun v3 H3 Hs3 s3 q3 vo3 => ?_
    have s4 := s3.store vo3 e4
    obtain ⟨s5, vo5⟩ := back2 _ _ _ _ s4 q3
    have s6 := s5.store vo5 e5
    obtain ⟨s7, vo7⟩ := back1 _ _ _ _ s6 (q2.trans q3)
    have s8 := s7.store vo7 e6
    rw [List.set_comm _ _ (Ne.symm hjl), List.set_comm _ _ (Ne.symm hil), List.set_comm _ _ (Ne.symm hij)] at s8
    exact hT _ _ _ _ _ s8 ((q1.trans q2).trans q3) fun w hw => s8.grow (.newH s8.sh hw)
  cases hb2 : parB X.env.scope [.Name x p1, .Name y p2, .Name z p3] [u, v, w] with
  | none => rw [hb2] at hp; cases hp
  | some bb =>
    simp only [parB, nmsOf, Option.map_some] at hb2
    by_cases hloc : ([x, y, z].all fun z => decide (X.env.scope.names.lookup z = some .local)) = true
    · rw [if_pos hloc] at hb2
      split at hb2
      · rename_i hh
        simp only [Bool.and_eq_true, List.all_cons, List.all_nil, decide_eq_true_eq, Bool.and_true, Bool.not_eq_true'] at hh hloc
        obtain ⟨⟨⟨⟨h1, h2⟩, h3⟩, h4⟩, h5⟩ := hh
        have n1 : x ≠ y := fun z => by rw [z] at h3; simp at h3
        have n2 : x ≠ z := fun z => by rw [z] at h3; simp at h3
        have n3 : y ≠ z := fun z => by rw [z] at h3; simp at h3
        exact tb_s (ps_par3 hc nd hi hj hl hij hil hjl hloc.1 hloc.2.1 hloc.2.2 (pa_cons pe_tb (pa_cons pe_tb (pa_cons pe_tb pa_nil (st_cons hw)) (st_cons hv)) (st_cons hu)) (swp_yes3 hu hv hw hk hloc.1 hloc.2.1 hloc.2.2 h1.2.1 h1.2.2 n1 n2 n3 h4 h5) rfl)
          (fin (fun vs H1 => ∃ u v w, vs = [u, v, w] ∧ D.nx (((σ.set i (some u)).set j (some v)).set l (some w)) H1) fun v1 v2 v3 H' Hs' s' x' _ => ⟨v1, v2, v3, rfl, q _ _ _ s' x'⟩)
      · cases hb2
    · refine tb_s (ps_asg (pe_tup (pa_cons pe_tb (pa_cons pe_tb (pa_cons pe_tb pa_nil (st_cons hw)) (st_cons hv)) (st_cons hu))) (pg_tup hc (pgs_cons (pg_name nd hi x1 x2) (pgs_cons (pg_name nd hj y1 y2) (pgs_cons (pg_name nd hl z1 z2) pgs_nil)))) rfl (swp_no ?_) rfl) ?_
      · by_cases g1 : X.env.kindOf x = some .local
        · by_cases g2 : X.env.kindOf y = some .local
          · refine ⟨.Name z p3, by simp, fun ln => ?_⟩
            have g3 : X.env.kindOf z ≠ some .local := fun g3 => hloc (by
              simp only [List.all_cons, List.all_nil, Bool.and_true, Bool.and_eq_true, decide_eq_true_eq]
              exact ⟨g1, g2, g3⟩)
            simp [lnN, g3]
          · exact ⟨.Name y p2, by simp, fun ln => by simp [lnN, g2]⟩
        · exact ⟨.Name x p1, by simp, fun ln => by simp [lnN, g1]⟩
      · exact fin (fun vs H1 => vs.length ≤ sizeLine ∧ ∀ p, H1 p = none → gTup X.K 3 (gCons (gName i) (gCons (gName j) (gCons (gName l) gNil))) (.ref p) σ (upd H1 p (.tup vs)) D.nx) fun v1 v2 v3 H' Hs' s' x' gr => ⟨(by show 3 ≤ sizeLine; decide), fun w hw => ⟨w, [v1, v2, v3], rfl, .inl (.inl upd_same), rfl, v1, [v2, v3], rfl, v2, [v3], rfl, v3, [], rfl, rfl, q _ _ _ (gr w hw) x'⟩⟩
theorem ss_expr {e : E} {v : Expr} {pos : Pos} (hv : notComp v = true) (h : SE C X e v) : SS C X (.expr e) (.Expr v pos) := fun Fr Hs0 bs σ ρ H Hs fl D s he q => by
  simp only [exec, Option.bind_eq_some_iff] at he
  obtain ⟨⟨val, ρ1⟩, e1, e2⟩ := he
  cases e2
  exact tb_s (ps_expr pe_tb (sw_no hv)) (h _ _ _ _ _ _ _ _ _ _ s e1 fun v1 H1 Hs1 s1 x1 vo => q _ _ _ s1 x1)
theorem ss_app {i : Nat} {e : E} {x : Str} {y : Expr} {px ap cp pos : Pos} (h1 : X.N[i]? = some x) (h2 : visB X.env.scope x = true) (h3 : nmOk x = true) (hl : (ap.endLine == cp.line) = true) (hy : notStar y = true) (h : SE C X e y) :
    SS C X (.app i e) (.Expr (.Call (.Attribute (.Name x px) "append" ap) [y] [] cp) pos) := fun Fr Hs0 bs σ ρ H Hs fl D s he q => by
  obtain ⟨d1, d2, _⟩ := nm_of h3
  simp only [exec] at he
  split at he
  · cases he
  · rename_i hls
    simp only [Bool.not_eq_true', Bool.not_eq_false] at hls
    simp only [Option.bind_eq_some_iff] at he
    obtain ⟨⟨d, ρ1⟩, e1, ⟨_, ρ2⟩, e2, e3⟩ := he
    cases e3
    have hsa : [y].all notStar = true := by simp [hy]
    refine tb_s (ps_expr (pe_bm PySem.F.plainAttrs_list PySem.F.slot_list_append PySem.F.type_list_append mt_append (pe_var h1 (vis_of h2) d1 d2) (pa_cons pe_tb pa_nil (st_cons hy)) rfl (by rw [st_all hsa]; rfl) hl (st_cons hy) (st_any (es := []) rfl))) ?_
    obtain ⟨p, vs, f1, f2⟩ := isLst_inv s hls
    refine ⟨_, f1, .inl ⟨rfl, vs, .inl (.inl f2)⟩, h.d _ _ _ _ _ _ _ _ _ _ s e1 fun v1 H1 Hs1 s1 x1 r1 => ?_⟩
    obtain ⟨o, o', ho, g1, g2, g3, g4⟩ := s1.chgL e2 f1
    cases o with
    | dic _ => cases g1
    | lst xs =>
      obtain ⟨ws, rfl, rw'⟩ := g3.lst
      simp only [appOb] at g1
      split at g1
      · rename_i hlim
        cases g1
        have hwl : ws.length < sizeLine := by rw [rw'.length]; exact Nat.lt_of_lt_of_le hlim lim_line
        exact ⟨p, ws, v1, rfl, rfl, g2, hwl, q _ _ _ (g4 (.lst (ws ++ [v1])) (rw'.append (.cons r1 .nil))) x1⟩
      · cases g1
theorem ss_ext {i : Nat} {e : E} {x : Str} {y : Expr} {px ap cp pos : Pos} (h1 : X.N[i]? = some x) (h2 : visB X.env.scope x = true) (h3 : nmOk x = true) (hl : (ap.endLine == cp.line) = true) (hy : notStar y = true) (h : SE C X e y) :
    SS C X (.ext i e) (.Expr (.Call (.Attribute (.Name x px) "extend" ap) [y] [] cp) pos) := fun Fr Hs0 bs σ ρ H Hs fl D s he q => by
  obtain ⟨d1, d2, _⟩ := nm_of h3
  simp only [exec] at he
  split at he
  · cases he
  · rename_i hls
    simp only [Bool.not_eq_true', Bool.not_eq_false] at hls
    simp only [Option.bind_eq_some_iff] at he
    obtain ⟨⟨d, ρ1⟩, e1, ys, e1', ⟨_, ρ2⟩, e2, e3⟩ := he
    cases e3
    have hsa : [y].all notStar = true := by simp [hy]
    refine tb_s (ps_expr (pe_bm PySem.F.plainAttrs_list PySem.F.slot_list_extend PySem.F.type_list_extend mt_extA (pe_var h1 (vis_of h2) d1 d2) (pa_cons pe_tb pa_nil (st_cons hy)) rfl (by rw [st_all hsa]; rfl) hl (st_cons hy) (st_any (es := []) rfl))) ?_
    obtain ⟨p, vs, f1, f2⟩ := isLst_inv s hls
    refine ⟨_, f1, .inl ⟨rfl, vs, .inl (.inl f2)⟩, h.d _ _ _ _ _ _ _ _ _ _ s e1 fun v1 H1 Hs1 s1 x1 r1 => ?_⟩
    obtain ⟨o, o', ho, g1, g2, g3, g4⟩ := s1.chgL e2 f1
    obtain ⟨b, zs, rfl, k1, k2⟩ := Ro.items (K := X.K) s1.sh (.inr r1) e1'
    cases o with
    | dic _ => cases g1
    | lst xs =>
      obtain ⟨ws, rfl, rw'⟩ := g3.lst
      simp only [extOb] at g1
      split at g1
      · rename_i hlim
        cases g1
        have l1 := rw'.length
        have l2 := k2.length
        have ll := lim_line
        refine ⟨p, b, ws, zs, rfl, rfl, g2, ?_, by omega, q _ _ _ (g4 (.lst (ws ++ zs)) (rw'.append k2)) x1⟩
        rcases k1 with k1 | k1
        · exact .inl k1.2
        · exact .inr k1.2
      · cases g1
theorem ss_sti {Γ : Tbl} {con : Nat → Option D} {n : Nat} {G : Sig} {i : Nat} {a e : E} {x : Str} {y v : Expr} {px sp pos : Pos} (K : XOk Γ con n G X) (h1 : X.N[i]? = some x) (h2 : visB X.env.scope x = true) (h3 : nmOk x = true) (hy : notSlice y = true) (ha : SE C X a y) (h : SE C X e v) :
    SS C X (.sti i a e) (.Assign [.Subscript (.Name x px) y sp] v pos) := fun Fr Hs0 bs σ ρ H Hs fl D s he q => by
  obtain ⟨d1, d2, _⟩ := nm_of h3
  simp only [exec, Option.bind_eq_some_iff] at he
  obtain ⟨⟨d, ρ1⟩, e1, he⟩ := he
  split at he
  · cases he
  · rename_i hls
    simp only [Bool.not_eq_true', Bool.not_eq_false] at hls
    simp only [Option.bind_eq_some_iff] at he
    obtain ⟨⟨k, ρ2⟩, e2, ⟨_, ρ3⟩, e3, e4⟩ := he
    cases e4
    have hset : PSet X (fun o i v H Q => L2.rSetL o i v H Q ∨ L2.rSetD o i v H Q) := fun pins s σ H o i v ov iv u Q I ro ri rv h => by
      rcases h with h | h
      · exact set_list pins s σ H o i v ov iv u Q I ro ri rv h
      · exact set_dict K.hu1 pins s σ H o i v ov iv u Q I ro ri rv h
    have hasg : ∀ u, assign (.Subscript (.Name x px) y sp) X.env u = (do
        let ov ← holding [u] (eval (.Name x px) X.env)
        let iv ← holding [u, ov] (eval y X.env)
        standAt sp
        holding [u, ov, iv] (setItem ov iv u)
        release [u, ov, iv] []) := fun u => by cases y <;> first | rfl | cases hy
    refine tb_s (ps_asg pe_tb (pg_sub (pe_var h1 (vis_of h2) d1 d2) pe_tb hset hasg) (by unfold swapsWithSole; exact sw_sub) rfl rfl) (h.d _ _ _ _ _ _ _ _ _ _ s e1 fun v1 H1 Hs1 s1 x1 r1 => ?_)
    have own : ∃ (w : Ob) (p : Addr), σ[i]? = some (some (V.ref p)) := by
      cases q : ρ1.getD i .un with
      | un => rw [q] at hls; cases hls
      | sh d => rw [q] at hls; cases hls
      | ow w => obtain ⟨p, _, z, _⟩ := s1.ent i _ (getD_some q (by simp)); exact ⟨w, p, z⟩
      | bo w => obtain ⟨p, _, z, _⟩ := s1.ent i _ (getD_some q (by simp)); exact ⟨w, p, z⟩
    obtain ⟨_, p, f1⟩ := own
    refine ⟨_, f1, ha.d _ _ _ _ _ _ _ _ _ _ s1 e2 fun v2 H2 Hs2 s2 x2 r2 => ?_⟩
    obtain ⟨o, o', ho, g1, g2, g3, g4⟩ := s2.chgL e3 f1
    have r1' := r1.mono x2
    cases o with
    | dic kvs =>
      obtain ⟨ws, rfl, rw'⟩ := g3.dic
      simp only [stOb, Option.bind_eq_some_iff] at g1
      obtain ⟨ky, g5, g6⟩ := g1
      split at g6
      · rename_i hlim
        cases g6
        obtain ⟨b, rfl, hb⟩ := key_ok r2 g5
        have hwl : ws.length < sizeLine := by rw [← rw'.len]; exact Nat.lt_of_lt_of_le hlim lim_line
        exact .inr ⟨p, _, rfl, DPut.t g2 (s2.sh _ _ hb) hwl, q _ _ _ (g4 (.dT (putK ws (ky.map Sum.inl) v1)) (rw'.put r1')) (x1.trans x2)⟩
      · cases g6
    | lst xs =>
      obtain ⟨ws, rfl, rw'⟩ := g3.lst
      simp only [stOb, Option.bind_eq_some_iff] at g1
      obtain ⟨ix, g5, j, g6, g7⟩ := g1
      cases g7
      cases k <;> simp only [asI, reduceCtorEq, Option.some.injEq] at g5
      subst g5
      cases r2
      exact .inl ⟨p, ws, _, j, rfl, rfl, g2, by rw [rw'.length]; exact g6, q _ _ _ (g4 (.lst (ws.set j v1)) (rw'.set r1' j)) (x1.trans x2)⟩
theorem ss_ret {e : E} {v : Expr} {pos : Pos} (h : SE C X e v) (hvar : ∀ i, e = .var i → ∃ nm p, v = .Name nm p ∧ X.N[i]? = some nm ∧ visB X.env.scope nm = true ∧ nmOk nm = true) : SS C X (.ret e) (.Return (some v) pos) := fun Fr Hs0 bs σ ρ H Hs fl D s he q => by
  simp only [exec, Option.bind_eq_some_iff] at he
  obtain ⟨⟨val, ρ1⟩, e1, e2⟩ := he
  cases e2
  have plain : ev C e ρ = some (val, ρ1) → tbS X (.Return (some v) pos) D σ H := fun e1 => tb_s (ps_ret pe_tb) (h _ _ _ _ _ _ _ _ _ _ s e1 fun v1 H1 Hs1 s1 x1 vo => q _ _ _ _ s1 x1 vo)
  unfold retE at e1
  split at e1
  · rename_i i
    split at e1
    · rename_i o ho
      cases e1
      obtain ⟨nm, p, rfl, k1, k2, k3⟩ := hvar i rfl
      obtain ⟨d1, d2, _⟩ := nm_of k3
      have hi := getD_some ho (by simp)
      obtain ⟨a, hob, f1, f2, f3, f4, f5⟩ := s.ent i _ hi
      have nb : ∀ b ∈ bs, b.1 ≠ i := fun b hb z => by
        obtain ⟨_, w, k⟩ := s.bo b hb
        rw [z, hi] at k; cases k
      have li : i < ρ.length := (List.getElem?_eq_some_iff.mp hi).1
      refine tb_s (ps_ret (pe_var k1 (vis_of k2) d1 d2)) ⟨_, f1, q _ σ H Hs (s.weak nb rfl trivial) (Ex.refl _) ⟨a, hob, rfl, f2, f3, f4, f5, fun j e he ow z => ?_⟩⟩
      by_cases k : i = j
      · subst k
        rw [List.getElem?_set_self li] at he; cases he; cases ow
      · rw [List.getElem?_set_ne k] at he
        exact s.dj i j _ e a k hi he rfl ow f1 z
    · exact plain e1
  · exact plain e1
theorem ss_retN {pos : Pos} : SS C X .retN (.Return none pos) := fun Fr Hs0 bs σ ρ H Hs fl D s he q => by
  cases he
  exact tb_s ps_retN (q _ σ H Hs s (Ex.refl _) .non)
theorem ss_pass {pos : Pos} : SS C X .pass (.Pass pos) := fun Fr Hs0 bs σ ρ H Hs fl D s he q => by
  cases he
  exact tb_s ps_pass (q σ H Hs s (Ex.refl _))
theorem ss_brk {pos : Pos} : SS C X .brk (.Break pos) := fun Fr Hs0 bs σ ρ H Hs fl D s he q => by
  cases he
  exact tb_s ps_break (q σ H Hs s (Ex.refl _))
theorem ss_cnt {pos : Pos} : SS C X .cnt (.Continue pos) := fun Fr Hs0 bs σ ρ H Hs fl D s he q => by
  cases he
  exact tb_s ps_continue (q σ H Hs s (Ex.refl _))
theorem ss_ite {c : E} {a b : Ss} {x : Expr} {y z : List Stmt} {pos : Pos} (hc : ST C X c x) (ha : SSs C X a y) (hb : SSs C X b z) : SS C X (.ite c a b) (.If x y z pos) := fun Fr Hs0 bs σ ρ H Hs fl D s he q => by
  simp only [exec, Option.bind_eq_some_iff] at he
  obtain ⟨⟨k, ρ1⟩, e1, e2⟩ := he
  refine tb_s (ps_if pt_tb pss_tb pss_tb) (hc _ _ _ _ _ _ _ _ _ _ s e1 fun H1 Hs1 s1 x1 => ?_)
  cases k with
  | true => rw [if_pos rfl]; exact ha _ _ _ _ _ _ _ _ _ s1 e2 (q.mono x1)
  | false => rw [if_neg Bool.false_ne_true]; exact hb _ _ _ _ _ _ _ _ _ s1 e2 (q.mono x1)
theorem sss_nil : SSs C X .nil [] := fun Fr Hs0 bs σ ρ H Hs fl D s he q => by
  cases he
  exact tb_ss pss_nil (q σ H Hs s (Ex.refl _))
theorem sss_cons {s0 : S} {ss : Ss} {x : Stmt} {xs : List Stmt} (h1 : SS C X s0 x) (h2 : SSs C X ss xs) : SSs C X (.cons s0 ss) (x :: xs) := fun Fr Hs0 bs σ ρ H Hs fl D s he q => by
  simp only [execs, Option.bind_eq_some_iff] at he
  obtain ⟨f1, e1, e2⟩ := he
  refine tb_ss (pss_cons ps_tb pss_tb) (h1 _ _ _ _ _ _ _ f1 _ s e1 ?_)
  cases f1 with
  | nx ρ1 => exact fun σ' H' Hs' s' x' => h2 _ _ _ _ _ _ _ _ _ s' e2 (q.mono x')
  | rt val ρ1 => cases e2; exact q
  | bk ρ1 => cases e2; exact q
  | ct ρ1 => cases e2; exact q
theorem ss_for {tg : Tg} {it : It} {b : Ss} {t i : Expr} {y : List Stmt} {pos : Pos} (hc : X.calm = true) (hxe : X.xe = fun _ _ => False) (hni : notSet i = true) (hI : SI C X it t i) (hG : SG X tg t) (hb : SSs C X b y) : SS C X (.for tg it b) (.For t i y [] pos) := fun Fr Hs0 bs σ ρ H Hs fl D s he q => by
  simp only [exec, Option.bind_eq_some_iff] at he
  obtain ⟨⟨ds, ρ1⟩, e1, e2⟩ := he
  refine tb_s (ps_for (by rw [hxe]; exact PassesOwn.never) hc pi_tb pg_tb pss_tb (fold_set hni)) (hI _ _ _ _ _ _ _ _ _ _ s e1 fun J H1 Hs1 s1 x1 jk => ?_)
  refine ⟨fun k m σ' H' => m + k = ds.length ∧ ∃ ρk Hsk, forGo (fun ρ => execs C b ρ) tg (ds.drop k) ρk = some fl ∧ Sta X.K Fr Hs0 bs σ' ρk H' Hsk ∧ Ex Hs1 Hsk, ⟨ds.length, by omega, ρ1, Hs1, by simpa using e2, s1, Ex.refl _⟩, fun k m σ' H' hW => ?_⟩
  obtain ⟨hm, ρk, Hsk, ek, sk, xk⟩ := hW
  obtain ⟨jg, js⟩ := jk k H' Hsk xk sk.sh
  by_cases hk : k < ds.length
  · obtain ⟨go, yl⟩ := jg ds[k] (List.getElem?_eq_getElem hk)
    rw [List.drop_eq_getElem_cons hk] at ek
    simp only [forGo, Option.bind_eq_some_iff] at ek
    obtain ⟨ρa, f1, f2, e3, e4⟩ := ek
    refine .inr ⟨go, fun σ'' H'' => ∃ ρk Hsk, forGo (fun ρ => execs C b ρ) tg (ds.drop (k + 1)) ρk = some fl ∧ Sta X.K Fr Hs0 bs σ'' ρk H'' Hsk ∧ Ex Hs1 Hsk, fun σ'' H'' hN => ⟨m - 1, by omega, by omega, hN⟩, fun v H2 hy => ?_⟩
    obtain ⟨Hs2, g2, r2⟩ := yl v H2 hy
    refine hG _ _ _ _ _ _ _ _ _ _ _ (sk.grow g2) r2 f1 fun σ3 s3 _ => hb _ _ _ _ _ _ _ f2 _ s3 e3 ?_
    have x3 := xk.trans g2.s
    cases f2 with
    | nx ρ4 => exact fun σ4 H4 Hs4 s4 x4 => ⟨ρ4, Hs4, e4, s4, x3.trans x4⟩
    | ct ρ4 => exact fun σ4 H4 Hs4 s4 x4 => ⟨ρ4, Hs4, e4, s4, x3.trans x4⟩
    | bk ρ4 => cases e4; exact fun σ4 H4 Hs4 s4 x4 => q _ _ _ s4 ((x1.trans x3).trans x4)
    | rt val ρ4 => cases e4; exact fun v4 σ4 H4 Hs4 s4 x4 vo => q _ _ _ _ s4 ((x1.trans x3).trans x4) vo
  · have ek' : k = ds.length := by omega
    subst ek'
    rw [List.drop_length] at ek
    cases ek
    exact .inl ⟨js rfl, q _ _ _ sk (x1.trans xk)⟩
theorem ss_whl {c : E} {b : Ss} {x : Expr} {y : List Stmt} {pos : Pos} (hxe : X.xe = fun _ _ => False) (hc : ST C X c x) (hb : SSs C X b y) : SS C X (.whl c b) (.While x y [] pos) := fun Fr Hs0 bs σ ρ H Hs fl D s he q => by
  simp only [exec] at he
  refine tb_s (ps_while (by rw [hxe]; exact PassesOwn.never) pt_tb pss_tb) ?_
  refine ⟨fun m σ' H' => ∃ ρk Hsk, whlGo (fun ρ => toB (ev C c ρ)) (fun ρ => execs C b ρ) m ρk = some fl ∧ Sta X.K Fr Hs0 bs σ' ρk H' Hsk ∧ Ex Hs Hsk, ⟨wfuel, ρ, Hs, he, s, Ex.refl _⟩, fun m σ' H' hW => ?_⟩
  obtain ⟨ρk, Hsk, ek, sk, xk⟩ := hW
  cases m with
  | zero => cases ek
  | succ m =>
    simp only [whlGo, Option.bind_eq_some_iff] at ek
    obtain ⟨⟨k, ρ1⟩, e1, e2⟩ := ek
    refine hc _ _ _ _ _ _ _ _ _ _ sk e1 fun H1 Hs1 s1 x1 => ?_
    cases k with
    | false =>
      rw [if_neg Bool.false_ne_true]
      simp only [Bool.false_eq_true, if_false] at e2
      cases e2
      exact q _ _ _ s1 (xk.trans x1)
    | true =>
      rw [if_pos rfl]
      simp only [if_true, Option.bind_eq_some_iff] at e2
      obtain ⟨f2, e3, e4⟩ := e2
      refine ⟨fun σ'' H'' => ∃ ρk Hsk, whlGo (fun ρ => toB (ev C c ρ)) (fun ρ => execs C b ρ) m ρk = some fl ∧ Sta X.K Fr Hs0 bs σ'' ρk H'' Hsk ∧ Ex Hs Hsk, fun σ'' H'' hN => ⟨m, Nat.lt_succ_self _, hN⟩, hb _ _ _ _ _ _ _ f2 _ s1 e3 ?_⟩
      have x3 := xk.trans x1
      cases f2 with
      | nx ρ4 => exact fun σ4 H4 Hs4 s4 x4 => ⟨ρ4, Hs4, e4, s4, x3.trans x4⟩
      | ct ρ4 => exact fun σ4 H4 Hs4 s4 x4 => ⟨ρ4, Hs4, e4, s4, x3.trans x4⟩
      | bk ρ4 => cases e4; exact fun σ4 H4 Hs4 s4 x4 => q _ _ _ s4 (x3.trans x4)
      | rt val ρ4 => cases e4; exact fun v4 σ4 H4 Hs4 s4 x4 vo => q _ _ _ _ s4 (x3.trans x4) vo
end
end MP
end

section
set_option Elab.async false
set_option linter.all false
set_option maxRecDepth 100000
set_option maxHeartbeats 8000000
namespace MP
open PySem PySem.Spec PyProof.Rows L2

section
variable {Γ : Tbl} {con : Nat → Option D} {n : Nat} {G : Sig}
theorem lc_no {N : List Str} {sc : Scope} {fn : Str → Bool} {e : E} {v : Expr} {P : Prop} (h : chkE G N e sc fn v = true) (hv : isLC v = true) (h1 : ∀ elt tg it ifs own, e ≠ .lc elt tg it ifs own) (h2 : ∀ a, e ≠ .frz a) (h3 : ∀ elt tg it ifs tg' it' ifs' own, e ≠ .lc2 elt tg it ifs tg' it' ifs' own) : P := by
  obtain ⟨x, gs, scope, pos, rfl⟩ : ∃ x gs scope pos, v = .ListComp x gs scope pos := by
    cases v <;> first | exact ⟨_, _, _, _, rfl⟩ | cases hv
  cases e <;> first | exact absurd rfl (h1 _ _ _ _ _) | exact absurd rfl (h2 _) | exact absurd rfl (h3 _ _ _ _ _ _ _ _) | (simp only [chkE, Bool.false_eq_true] at h)
theorem lc_parts {X : Cx} (K : XOk Γ con n G X) : ∀ (e : E) {v : Expr}, chkE G X.N e X.env.scope X.fn v = true → isLC v = true →
    (∃ own x t i fs scope pos, v = .ListComp x [⟨t, i, fs, 0⟩] scope pos ∧ blkC X.N X.env.scope scope (ownNm X.N own) = true ∧ notSet i = true ∧ SEL (cfg Γ con n) X scope own e x t i fs) ∨
    ∃ own vs1 x t i t' i' fs fs' scope pos, v = .ListComp x [⟨t, i, fs, 0⟩, ⟨t', i', fs', 0⟩] scope pos ∧ blkC X.N X.env.scope scope (ownNm X.N own) = true ∧ (∀ k ∈ vs1, k ∈ own) ∧ notSet i = true ∧ notSet i' = true ∧ SEM (cfg Γ con n) X scope own vs1 e x t i t' i' fs fs'
  | .lc elt tg it ifs own, v, h, hv => by
    simp only [chkE] at h; split at h
    · rename_i x t i fs scope pos
      simp only [Bool.and_eq_true, decide_eq_true_eq, List.all_eq_true] at h
      obtain ⟨⟨⟨⟨⟨⟨⟨h1, h2⟩, h3⟩, h4⟩, h5⟩, h6⟩, h7⟩, h8⟩ := h
      have hk := (blkOk_by h1).kind
      exact .inl ⟨own, x, t, i, fs, scope, pos, rfl, h1, h3, s_lc (pos := pos) K.calm K.nd h1 h2 h3 (okI it X K _ _ h4) (fun s H c cl fp => g_all (K.blk hk s H c cl fp) tg t h5)
        (fun s H c cl fp => (okEs ifs (bk X scope s H c cl fp) (K.blk hk s H c cl fp) fs h7).2.2.2 h6) (fun s H c cl fp => (okE elt (bk X scope s H c cl fp) (K.blk hk s H c cl fp) x h8).1)⟩
    · cases h
  | .frz e, v, h, hv => by
    simp only [chkE] at h
    rcases lc_parts K e h hv with ⟨own, x, t, i, fs, scope, pos, e1, e2, e3, e4⟩ | ⟨own, vs1, x, t, i, t', i', fs, fs', scope, pos, e1, e2, e3, e4, e5, e6⟩
    · exact .inl ⟨own, x, t, i, fs, scope, pos, e1, e2, e3, e4.frz⟩
    · exact .inr ⟨own, vs1, x, t, i, t', i', fs, fs', scope, pos, e1, e2, e3, e4, e5, e6.frz⟩
  | .lc2 elt tg it ifs tg' it' ifs' own, v, h, hv => by
    simp only [chkE] at h; split at h
    · rename_i x t i fs t' i' fs' scope pos
      simp only [Bool.and_eq_true, decide_eq_true_eq, List.all_eq_true] at h
      obtain ⟨⟨⟨⟨⟨⟨⟨⟨⟨⟨⟨⟨⟨h1, h2⟩, h2'⟩, h3⟩, h3'⟩, h4⟩, h5⟩, h6⟩, h7⟩, h8⟩, h9⟩, h10⟩, h11⟩, h12⟩ := h
      have hk := (blkOk_by h1).kind
      exact .inr ⟨own, tgSlots tg', x, t, i, t', i', fs, fs', scope, pos, rfl, h1, h2', h3, h3', s_lc2 h2 h2' (okI it X K _ _ h4) (fun s H c cl fp => g_all (K.blk hk s H c cl fp) tg t h5)
        (fun s H c cl fp => (okEs ifs (bk X scope s H c cl fp) (K.blk hk s H c cl fp) fs h7).2.2.2 h6) (fun s H c cl fp => okI it' (bk X scope s H c cl fp) (K.blk hk s H c cl fp) t' i' h8) (fun s H c cl fp => g_all (K.blk hk s H c cl fp) tg' t' h9)
        (fun s H c cl fp => (okEs ifs' (bk X scope s H c cl fp) (K.blk hk s H c cl fp) fs' h11).2.2.2 h10) (fun s H c cl fp => (okE elt (bk X scope s H c cl fp) (K.blk hk s H c cl fp) x h12).1)⟩
    · cases h
  | .non, v, h, hv => lc_no h hv (by intro _ _ _ _ _ z; cases z) (by intro _ z; cases z) (by intro _ _ _ _ _ _ _ _ z; cases z)
  | .bl _, v, h, hv => lc_no h hv (by intro _ _ _ _ _ z; cases z) (by intro _ z; cases z) (by intro _ _ _ _ _ _ _ _ z; cases z)
  | .int _, v, h, hv => lc_no h hv (by intro _ _ _ _ _ z; cases z) (by intro _ z; cases z) (by intro _ _ _ _ _ _ _ _ z; cases z)
  | .str _, v, h, hv => lc_no h hv (by intro _ _ _ _ _ z; cases z) (by intro _ z; cases z) (by intro _ _ _ _ _ _ _ _ z; cases z)
  | .var _, v, h, hv => lc_no h hv (by intro _ _ _ _ _ z; cases z) (by intro _ z; cases z) (by intro _ _ _ _ _ _ _ _ z; cases z)
  | .glo _, v, h, hv => lc_no h hv (by intro _ _ _ _ _ z; cases z) (by intro _ z; cases z) (by intro _ _ _ _ _ _ _ _ z; cases z)
  | .op _ _ _, v, h, hv => lc_no h hv (by intro _ _ _ _ _ z; cases z) (by intro _ z; cases z) (by intro _ _ _ _ _ _ _ _ z; cases z)
  | .neg _, v, h, hv => lc_no h hv (by intro _ _ _ _ _ z; cases z) (by intro _ z; cases z) (by intro _ _ _ _ _ _ _ _ z; cases z)
  | .cmp _ _ _, v, h, hv => lc_no h hv (by intro _ _ _ _ _ z; cases z) (by intro _ z; cases z) (by intro _ _ _ _ _ _ _ _ z; cases z)
  | .cmp2 _ _ _ _ _, v, h, hv => lc_no h hv (by intro _ _ _ _ _ z; cases z) (by intro _ z; cases z) (by intro _ _ _ _ _ _ _ _ z; cases z)
  | .isN _, v, h, hv => lc_no h hv (by intro _ _ _ _ _ z; cases z) (by intro _ z; cases z) (by intro _ _ _ _ _ _ _ _ z; cases z)
  | .notN _, v, h, hv => lc_no h hv (by intro _ _ _ _ _ z; cases z) (by intro _ z; cases z) (by intro _ _ _ _ _ _ _ _ z; cases z)
  | .not _, v, h, hv => lc_no h hv (by intro _ _ _ _ _ z; cases z) (by intro _ z; cases z) (by intro _ _ _ _ _ _ _ _ z; cases z)
  | .and _ _, v, h, hv => lc_no h hv (by intro _ _ _ _ _ z; cases z) (by intro _ z; cases z) (by intro _ _ _ _ _ _ _ _ z; cases z)
  | .or _ _, v, h, hv => lc_no h hv (by intro _ _ _ _ _ z; cases z) (by intro _ z; cases z) (by intro _ _ _ _ _ _ _ _ z; cases z)
  | .ite _ _ _, v, h, hv => lc_no h hv (by intro _ _ _ _ _ z; cases z) (by intro _ z; cases z) (by intro _ _ _ _ _ _ _ _ z; cases z)
  | .tup _, v, h, hv => lc_no h hv (by intro _ _ _ _ _ z; cases z) (by intro _ z; cases z) (by intro _ _ _ _ _ _ _ _ z; cases z)
  | .lst _, v, h, hv => lc_no h hv (by intro _ _ _ _ _ z; cases z) (by intro _ z; cases z) (by intro _ _ _ _ _ _ _ _ z; cases z)
  | .ix _ _, v, h, hv => lc_no h hv (by intro _ _ _ _ _ z; cases z) (by intro _ z; cases z) (by intro _ _ _ _ _ _ _ _ z; cases z)
  | .slH _ _, v, h, hv => lc_no h hv (by intro _ _ _ _ _ z; cases z) (by intro _ z; cases z) (by intro _ _ _ _ _ _ _ _ z; cases z)
  | .slL _ _, v, h, hv => lc_no h hv (by intro _ _ _ _ _ z; cases z) (by intro _ z; cases z) (by intro _ _ _ _ _ _ _ _ z; cases z)
  | .slB _ _ _, v, h, hv => lc_no h hv (by intro _ _ _ _ _ z; cases z) (by intro _ z; cases z) (by intro _ _ _ _ _ _ _ _ z; cases z)
  | .rev _, v, h, hv => lc_no h hv (by intro _ _ _ _ _ z; cases z) (by intro _ z; cases z) (by intro _ _ _ _ _ _ _ _ z; cases z)
  | .call _ _, v, h, hv => lc_no h hv (by intro _ _ _ _ _ z; cases z) (by intro _ z; cases z) (by intro _ _ _ _ _ _ _ _ z; cases z)
  | .blt _ _, v, h, hv => lc_no h hv (by intro _ _ _ _ _ z; cases z) (by intro _ z; cases z) (by intro _ _ _ _ _ _ _ _ z; cases z)
  | .isi _ _, v, h, hv => lc_no h hv (by intro _ _ _ _ _ z; cases z) (by intro _ z; cases z) (by intro _ _ _ _ _ _ _ _ z; cases z)
  | .pop _ _, v, h, hv => lc_no h hv (by intro _ _ _ _ _ z; cases z) (by intro _ z; cases z) (by intro _ _ _ _ _ _ _ _ z; cases z)
  | .idx _ _, v, h, hv => lc_no h hv (by intro _ _ _ _ _ z; cases z) (by intro _ z; cases z) (by intro _ _ _ _ _ _ _ _ z; cases z)
  | .dnew, v, h, hv => lc_no h hv (by intro _ _ _ _ _ z; cases z) (by intro _ z; cases z) (by intro _ _ _ _ _ _ _ _ z; cases z)
  | .din _ _ _, v, h, hv => lc_no h hv (by intro _ _ _ _ _ z; cases z) (by intro _ z; cases z) (by intro _ _ _ _ _ _ _ _ z; cases z)
  | .dget _ _, v, h, hv => lc_no h hv (by intro _ _ _ _ _ z; cases z) (by intro _ z; cases z) (by intro _ _ _ _ _ _ _ _ z; cases z)
  | .dln _, v, h, hv => lc_no h hv (by intro _ _ _ _ _ z; cases z) (by intro _ z; cases z) (by intro _ _ _ _ _ _ _ _ z; cases z)
  | .sset _, v, h, hv => lc_no h hv (by intro _ _ _ _ _ z; cases z) (by intro _ z; cases z) (by intro _ _ _ _ _ _ _ _ z; cases z)
  | .cmp3 _ _ _ _ _ _ _, v, h, hv => lc_no h hv (by intro _ _ _ _ _ z; cases z) (by intro _ z; cases z) (by intro _ _ _ _ _ _ _ _ z; cases z)
  | .isT _ _, v, h, hv => lc_no h hv (by intro _ _ _ _ _ z; cases z) (by intro _ z; cases z) (by intro _ _ _ _ _ _ _ _ z; cases z)
  | .or2 _ _, v, h, hv => lc_no h hv (by intro _ _ _ _ _ z; cases z) (by intro _ z; cases z) (by intro _ _ _ _ _ _ _ _ z; cases z)
  | .lrng _, v, h, hv => lc_no h hv (by intro _ _ _ _ _ z; cases z) (by intro _ z; cases z) (by intro _ _ _ _ _ _ _ _ z; cases z)
  | .trng _, v, h, hv => lc_no h hv (by intro _ _ _ _ _ z; cases z) (by intro _ z; cases z) (by intro _ _ _ _ _ _ _ _ z; cases z)
  | .dsd _ _ _, v, h, hv => lc_no h hv (by intro _ _ _ _ _ z; cases z) (by intro _ z; cases z) (by intro _ _ _ _ _ _ _ _ z; cases z)
  | .calld _ _, v, h, hv => lc_no h hv (by intro _ _ _ _ _ z; cases z) (by intro _ z; cases z) (by intro _ _ _ _ _ _ _ _ z; cases z)
mutual
theorem okS : ∀ (s : S) (X : Cx), XOk Γ con n G X → (X.fn = fun _ => true) → ∀ st : Stmt, chkS G X.N s X.env.scope st = true → SS (cfg Γ con n) X s st
  | .asg tg e, X, K, hf, z, h => by
    simp only [chkS] at h; split at h
    · split at h
      · split at h
        · simp only [Bool.and_eq_true, decide_eq_true_eq] at h
          obtain ⟨⟨⟨h1, h2⟩, h3⟩, h4⟩ := h
          rw [← hf] at h2 h3
          rw [Bool.or_eq_true] at h4
          rcases h4 with h4 | h4
          · exact ss_asg K.nd h1 h2 (sw_no h4) (okE e X K _ h3).1
          · rcases lc_parts K e h3 h4 with ⟨own, x, t, i, fs, scope, pos, e1, k1, k2, k3⟩ | ⟨own, vs1, x, t, i, t', i', fs, fs', scope, pos, e1, k1, k2, k3, k5, k6⟩
            · have k4 := (okE e X K _ h3).1
              rw [e1] at k4 ⊢
              exact ss_asgLc h1 h2 K.calm K.nd k1 k2 k4 k3
            · have k4 := (okE e X K _ h3).1
              rw [e1] at k4 ⊢
              exact ss_asgLc2 h1 h2 K.calm K.nd k1 k2 k3 k5 k4 k6
        · cases h
      · rename_i t v pos _ hn
        simp only [Bool.and_eq_true] at h
        obtain ⟨⟨⟨⟨h1, h2⟩, h3⟩, h4⟩, h5⟩ := h
        rw [← hf] at h2 h5
        obtain ⟨ts, k, p, rfl⟩ := tupE h1
        refine ss_asgT h1 (g_all K tg _ h2) (fun i hi => hn i hi) h3 ?_ rfl (okE e X K _ h5).1
        by_cases hv : isTupE v = true
        · rw [hv] at h4
          obtain ⟨vs, k2, p2, rfl⟩ := tupE hv
          simp only [Bool.not_true, Bool.false_or, Bool.and_eq_true, Option.isNone_iff_eq_none] at h4
          exact swp_no (nmsOf_none h4.2)
        · exact swp_nt (by simpa using hv)
    · cases h
  | .par2 i j a b, X, K, hf, z, h => by
    simp only [chkS] at h; split at h
    · simp only [Bool.and_eq_true, decide_eq_true_eq] at h
      rw [← hf] at h
      obtain ⟨⟨⟨⟨⟨⟨⟨⟨⟨h1, h2⟩, h3⟩, h4⟩, h5⟩, h6⟩, h7⟩, h8⟩, h9⟩, h10⟩ := h
      exact ss_par2 K.calm K.nd h1 h2 h3 h4 h5 h7 h8 K.kind h6 (okE a X K _ h9).1 (okE b X K _ h10).1
    · cases h
  | .par3 i j k a b c, X, K, hf, z, h => by
    simp only [chkS] at h; split at h
    · simp only [Bool.and_eq_true, decide_eq_true_eq] at h
      rw [← hf] at h
      obtain ⟨⟨⟨⟨⟨⟨⟨⟨⟨⟨⟨⟨⟨⟨⟨h1, h2⟩, h3⟩, h4⟩, h5⟩, h6⟩, h7⟩, h8⟩, h9⟩, h10⟩, h11⟩, h12⟩, h13⟩, h14⟩, h15⟩, h16⟩ := h
      exact ss_par3 K.calm K.nd h1 h2 h3 h4 h5 h6 h7 h8 h9 h11 h12 h13 K.kind h10 (okE a X K _ h14).1 (okE b X K _ h15).1 (okE c X K _ h16).1
    · cases h
  | .expr e, X, K, hf, z, h => by
    simp only [chkS] at h; split at h
    · simp only [Bool.and_eq_true] at h
      rw [← hf] at h
      exact ss_expr h.1 (okE e X K _ h.2).1
    · cases h
  | .app i e, X, K, hf, z, h => by
    simp only [chkS] at h; split at h
    · simp only [Bool.and_eq_true, decide_eq_true_eq] at h
      rw [← hf] at h
      obtain ⟨⟨⟨⟨⟨⟨h1, h2⟩, h3⟩, h4⟩, h5⟩, h6⟩, h7⟩ := h
      subst h1
      exact ss_app h2 h3 h4 h5 h6 (okE e X K _ h7).1
    · cases h
  | .ext i e, X, K, hf, z, h => by
    simp only [chkS] at h; split at h
    · simp only [Bool.and_eq_true, decide_eq_true_eq] at h
      rw [← hf] at h
      obtain ⟨⟨⟨⟨⟨⟨h1, h2⟩, h3⟩, h4⟩, h5⟩, h6⟩, h7⟩ := h
      subst h1
      exact ss_ext h2 h3 h4 h5 h6 (okE e X K _ h7).1
    · cases h
  | .sti i a e, X, K, hf, z, h => by
    simp only [chkS] at h; split at h
    · simp only [Bool.and_eq_true, decide_eq_true_eq] at h
      rw [← hf] at h
      obtain ⟨⟨⟨⟨⟨h1, h2⟩, h3⟩, h4⟩, h6⟩, h7⟩ := h
      exact ss_sti K h1 h2 h3 h4 (okE a X K _ h6).1 (okE e X K _ h7).1
    · cases h
  | .ite c a b, X, K, hf, z, h => by
    simp only [chkS] at h; split at h
    · simp only [Bool.and_eq_true] at h
      have hc := h.1.1
      rw [← hf] at hc
      exact ss_ite (okE c X K _ hc).2 (okSs a X K hf _ h.1.2) (okSs b X K hf _ h.2)
    · cases h
  | .for tg it b, X, K, hf, z, h => by
    simp only [chkS] at h; split at h
    · simp only [Bool.and_eq_true] at h
      obtain ⟨⟨⟨h1, h2⟩, h3⟩, h4⟩ := h
      rw [← hf] at h2 h3
      exact ss_for K.calm K.xe h1 (okI it X K _ _ h2) (g_all K tg _ h3) (okSs b X K hf _ h4)
    · cases h
  | .whl c b, X, K, hf, z, h => by
    simp only [chkS] at h; split at h
    · simp only [Bool.and_eq_true] at h
      have hc := h.1
      rw [← hf] at hc
      exact ss_whl K.xe (okE c X K _ hc).2 (okSs b X K hf _ h.2)
    · cases h
  | .ret e, X, K, hf, z, h => by
    simp only [chkS] at h; split at h
    · rw [← hf] at h
      exact ss_ret (okE e X K _ h).1 (var_of h)
    · cases h
  | .retN, X, K, hf, z, h => by
    simp only [chkS] at h; split at h
    · exact ss_retN
    · cases h
  | .pass, X, K, hf, z, h => by
    simp only [chkS] at h; split at h
    · exact ss_pass
    · cases h
  | .brk, X, K, hf, z, h => by
    simp only [chkS] at h; split at h
    · exact ss_brk
    · cases h
  | .cnt, X, K, hf, z, h => by
    simp only [chkS] at h; split at h
    · exact ss_cnt
    · cases h
  | .raise, X, K, hf, z, h => fun _ _ _ _ _ _ _ _ _ _ he => by cases he
theorem okSs : ∀ (ss : Ss) (X : Cx), XOk Γ con n G X → (X.fn = fun _ => true) → ∀ sts : List Stmt, chkSs G X.N ss X.env.scope sts = true → SSs (cfg Γ con n) X ss sts
  | .nil, X, K, hf, zs, h => by
    simp only [chkSs] at h; split at h
    · exact sss_nil
    · cases h
  | .cons s ss, X, K, hf, zs, h => by
    simp only [chkSs] at h; split at h
    · simp only [Bool.and_eq_true] at h
      exact sss_cons (okS s X K hf _ h.1) (okSs ss X K hf _ h.2)
    · cases h
end

/-! ### a def -/
def bsOf : Nat → List Arg → List Addr → List (Nat × Addr)
  | k, .sh _ :: as, ps => bsOf (k + 1) as ps
  | k, .mu _ :: as, p :: ps => (k, p) :: bsOf (k + 1) as ps
  | _, _, _ => []
section
variable {K : PySem.W.Frag} {H Hs : Hp}
theorem bs_snd : ∀ {vs : List V} {as : List Arg} {ps : List Addr} {k : Nat}, ArgsOk K H Hs vs as ps → (bsOf k as ps).map (·.2) = ps
  | _, _, _, _, .nil => rfl
  | _, _, _, k, .sh _ r => bs_snd (k := k + 1) r
  | _, _, _, k, .mu _ _ _ r => by
    show _ :: (bsOf (k + 1) _ _).map (·.2) = _
    rw [bs_snd r]
theorem args_get : ∀ {vs : List V} {as : List Arg} {ps : List Addr} {k i : Nat} {a : Arg}, ArgsOk K H Hs vs as ps → as[i]? = some a → ∃ v, vs[i]? = some v ∧ ((∃ d, a = .sh d ∧ Rp K Hs v d) ∨ ∃ o p ho, a = .mu o ∧ v = .ref p ∧ H p = some ho ∧ ObR K Hs o ho ∧ Hs p = none ∧ p ∈ ps ∧ (k + i, p) ∈ bsOf k as ps)
  | _, _, _, _, _, _, .nil, h => by simp at h
  | _, _, _, k, 0, _, .sh r _, h => by simp at h; subst h; exact ⟨_, rfl, .inl ⟨_, rfl, r⟩⟩
  | _, _, _, k, i + 1, a, .sh _ r, h => by
    obtain ⟨v, h1, h2⟩ := args_get (k := k + 1) (i := i) (a := a) r (by simpa using h)
    refine ⟨v, by simpa using h1, ?_⟩
    rcases h2 with h2 | ⟨o, p, ho, e1, e2, e3, e4, e5, e6, e7⟩
    · exact .inl h2
    · exact .inr ⟨o, p, ho, e1, e2, e3, e4, e5, e6, by rw [show k + (i + 1) = k + 1 + i by omega]; exact e7⟩
  | _, _, _, k, 0, _, .mu e1 e2 e3 r, h => by
    simp at h; subst h
    exact ⟨_, rfl, .inr ⟨_, _, _, rfl, rfl, e1, e2, e3, List.mem_cons_self, List.mem_cons_self⟩⟩
  | _, _, _, k, i + 1, a, .mu _ _ _ r, h => by
    obtain ⟨v, h1, h2⟩ := args_get (k := k + 1) (i := i) (a := a) r (by simpa using h)
    refine ⟨v, by simpa using h1, ?_⟩
    rcases h2 with h2 | ⟨o, p, ho, e1, e2, e3, e4, e5, e6, e7⟩
    · exact .inl h2
    · exact .inr ⟨o, p, ho, e1, e2, e3, e4, e5, List.mem_cons_of_mem _ e6, List.mem_cons_of_mem _ (by rw [show k + (i + 1) = k + 1 + i by omega]; exact e7)⟩
theorem bs_mem : ∀ {vs : List V} {as : List Arg} {ps : List Addr} {k : Nat} {b : Nat × Addr}, ArgsOk K H Hs vs as ps → b ∈ bsOf k as ps → ∃ i o, b.1 = k + i ∧ as[i]? = some (.mu o) ∧ vs[i]? = some (.ref b.2)
  | _, _, _, _, _, .nil, h => by cases h
  | _, _, _, k, b, .sh _ r, h => by
    obtain ⟨i, o, h1, h2, h3⟩ := bs_mem (k := k + 1) r h
    exact ⟨i + 1, o, by omega, by simpa using h2, by simpa using h3⟩
  | _, _, _, k, b, .mu _ _ _ r, h => by
    rcases List.mem_cons.mp h with z | z
    · subst z; exact ⟨0, _, rfl, rfl, rfl⟩
    · obtain ⟨i, o, h1, h2, h3⟩ := bs_mem (k := k + 1) r z
      exact ⟨i + 1, o, by omega, by simpa using h2, by simpa using h3⟩
theorem inj_of_nodup {α β : Type} {f : α → β} : ∀ {l : List α} {a b : α}, (l.map f).Nodup → a ∈ l → b ∈ l → f a = f b → a = b
  | x :: l, a, b, nd, ha, hb, e => by
    rw [List.map_cons, List.nodup_cons] at nd
    rcases List.mem_cons.mp ha with za | za <;> rcases List.mem_cons.mp hb with zb | zb
    · rw [za, zb]
    · exfalso; apply nd.1; rw [← za, e]; exact List.mem_map.mpr ⟨b, zb, rfl⟩
    · exfalso; apply nd.1; rw [← zb, ← e]; exact List.mem_map.mpr ⟨a, za, rfl⟩
    · exact inj_of_nodup nd.2 za zb e
/-- what the callers keep -/
def frOf (H : Hp) (ps : List Addr) : Hp := fun a => if a ∈ ps then none else H a
theorem start_ok {vs : List V} {as : List Arg} {ps : List Addr} {N : List Str} {p : PDef} (a : ArgsOk K H Hs vs as ps) (nd : ps.Nodup) (ex : Ex Hs H) (hN : N.length = p.sl) (hl : vs.length ≤ N.length) :
    Sta K (frOf H ps) Hs (bsOf 0 as ps) (L2.start N vs) (MP.start p as) H Hs := by
  have la := a.len
  have gE : ∀ (i : Nat) (e : Ent), (MP.start p as)[i]? = some e → (∃ arg, as[i]? = some arg ∧ e = entOf arg) ∨ e = .un := fun i e h => by
    unfold MP.start at h
    by_cases hi : i < as.length
    · rw [List.getElem?_append_left (by simpa using hi), List.getElem?_map, List.getElem?_eq_getElem hi] at h
      exact .inl ⟨_, List.getElem?_eq_getElem hi, (Option.some.inj h).symm⟩
    · rw [List.getElem?_append_right (by simpa using hi), List.getElem?_replicate] at h
      split at h
      · cases h; exact .inr rfl
      · cases h
  have gS : ∀ (i : Nat) (v : V), vs[i]? = some v → (L2.start N vs)[i]? = some (some v) := fun i v h => by
    have hi : i < vs.length := (List.getElem?_eq_some_iff.mp h).1
    unfold L2.start
    rw [List.getElem?_append_left (by simpa using hi), List.getElem?_map, h]
    rfl
  have own : ∀ (i : Nat) (e : Ent), (MP.start p as)[i]? = some e → isOwn e = true → ∃ o p ho, e = .bo o ∧ (L2.start N vs)[i]? = some (some (V.ref p)) ∧ H p = some ho ∧ ObR K Hs o ho ∧ Hs p = none ∧ p ∈ ps ∧ (i, p) ∈ bsOf 0 as ps := fun i e h ho => by
    rcases gE i e h with ⟨arg, h1, rfl⟩ | rfl
    · obtain ⟨v, h2, h3⟩ := args_get (k := 0) a h1
      rcases h3 with ⟨d, rfl, _⟩ | ⟨o, q, u, rfl, rfl, f1, f2, f3, f4, f5⟩
      · cases ho
      · exact ⟨o, q, u, rfl, gS i _ h2, f1, f2, f3, f4, by rw [Nat.zero_add] at f5; exact f5⟩
    · cases ho
  refine ⟨fun x o h => ?_, ex, Ex.refl _, fun x o h => .inl h, ?_, fun i e h => ?_, fun i j e e' q n h1 h2 o1 o2 p1 p2 => ?_, fun b hb => ?_⟩
  · unfold frOf at h
    split at h
    · cases h
    · exact h
  · unfold L2.start MP.start
    rw [List.length_append, List.length_append, List.length_map, List.length_map, List.length_replicate, List.length_replicate]
    omega
  · by_cases ho : isOwn e = true
    · obtain ⟨o, q, u, rfl, g1, g2, g3, g4, g5, _⟩ := own i e h ho
      exact ⟨q, u, g1, g2, g3, g4, by unfold frOf; rw [if_pos g5]⟩
    · rcases gE i e h with ⟨arg, h1, rfl⟩ | rfl
      · obtain ⟨v, h2, h3⟩ := args_get (k := 0) a h1
        rcases h3 with ⟨d, rfl, r⟩ | ⟨o, q, u, rfl, _⟩
        · exact ⟨v, gS i v h2, r⟩
        · exact absurd rfl ho
      · trivial
  · obtain ⟨o, q1, u, rfl, g1, g2, g3, g4, g5, g6⟩ := own i e h1 o1
    obtain ⟨o', q2, u', rfl, k1, k2, k3, k4, k5, k6⟩ := own j e' h2 o2
    rw [g1] at p1
    rw [k1] at p2
    cases p1
    cases p2
    have z := inj_of_nodup (f := Prod.snd) (by rw [bs_snd a]; exact nd) g6 k6 rfl
    cases z
    exact n rfl
  · obtain ⟨i, o, e1, e2, e3⟩ := bs_mem a hb
    rw [Nat.zero_add] at e1
    rw [e1]
    refine ⟨gS i _ e3, o, ?_⟩
    have hi : i < as.length := (List.getElem?_eq_some_iff.mp e2).1
    unfold MP.start
    rw [List.getElem?_append_left (by simpa using hi), List.getElem?_map, e2]
    rfl
theorem outs_ok {K : PySem.W.Frag} {Fr Hs0 : Hp} {bs : List (Nat × Addr)} {σ : L2.St} {ρ : MP.Env} {H' Hs' : Hp} (s : Sta K Fr Hs0 bs σ ρ H' Hs') : ∀ {vs : List V} {as : List Arg} {ps : List Addr} {os : List Ob} {k : Nat}, ArgsOk K H Hs vs as ps → (∀ b ∈ bsOf k as ps, b ∈ bs) → outs as (ρ.drop k) = some os → OutsOk K H' Hs' ps os
  | _, _, _, _, _, .nil, _, h => by cases h; exact .nil
  | _, _, _, os, k, .sh _ r, hb, h => by
    simp only [outs] at h
    rw [List.tail_drop] at h
    exact outs_ok s (k := k + 1) r hb h
  | _, _, _, os, k, .mu (p := p) _ _ _ r, hb, h => by
    simp only [outs] at h
    have b1 := hb (k, p) List.mem_cons_self
    obtain ⟨h1, o, h2⟩ := s.bo _ b1
    rw [List.head?_drop, h2] at h
    simp only [Option.bind_eq_some_iff] at h
    obtain ⟨os', e1, e2⟩ := h
    cases e2
    rw [List.tail_drop] at e1
    obtain ⟨q, ho, f1, f2, f3, f4, _⟩ := s.ent k _ h2
    rw [h1] at f1
    cases f1
    exact .cons f2 f3 f4 (outs_ok s (k := k + 1) r (fun b hb' => hb b (List.mem_cons_of_mem _ hb')) e1)
end
/-- what is written of a module -/
structure ModOk (Γ : Tbl) (con : Nat → Option D) (G : Sig) (K : PySem.W.Frag) (mg : Str → Option Value) : Prop where
  free : ∀ x ∈ freeNms, mg x = none
  cons : ∀ g x d, con g = some d → G.cnm g = some x → ∃ v u, mg x = some u ∧ RelV v u ∧ ∀ H, Rp K H v d
/-- a def of the text keeps the promise of the interpreter -/
theorem def_ok {P : Program} {w : World} {K : PySem.W.Frag} {mg : Str → Option Value} {base : Heap} {f : Nat} {ad : Addr} {name qual : Str} {params : Arguments} {body : List Stmt} {scope : Scope} {dV kV doc pm cdv ct oc : Value} {an od : Option Addr}
    {osl : Array (Option Value)} {N ps : List Str} {p : PDef} (M : ModOk Γ con G K mg) (lk : K.lookup ad = some ⟨oc, od, .func (PySem.W.fnOf name qual params body scope dV kV doc pm an cdv ct), osl⟩) (hcd : PySem.W.codeIn K cdv qual = true) (S : FnScope N ps scope)
    (hΓ : Γ f = some p) (hps : ps.length = p.ar) (hN : N.length = p.sl) (hchk : chkSs G N p.body scope body = true) (fns : ∀ f x, G.fnm f = some x → FOk Γ con n P w K mg base (G.dfl f) f x) :
    FnG P w K mg base (n + 1) ad (PySem.W.fnOf name qual params body scope dV kV doc pm an cdv ct) ps (spOf K p.ar (evalCall Γ con (n + 1) f)) := by
  refine fn_ofG lk hcd S (fun vs H Q E h => by rw [hps]; exact h.1) fun A outer s H vs Q E hr gd h => ?_
  obtain ⟨hlen, args, as, Hs, val, os, hc, ha, hnd, ex, q⟩ := h
  have hX : XOk Γ con n G (cxOf CX0 P w K mg base N qual scope ad cdv A outer s H E).nox := ⟨rfl, S.nd, rfl, hr, gd, S.kind, M.free, M.cons, fns⟩
  refine ⟨_, pss_tb, ?_⟩
  simp only [evalCall, hΓ, Option.bind_some] at hc
  unfold run at hc
  split at hc
  · simp only [Option.bind_eq_some_iff] at hc
    obtain ⟨fl, e1, e2⟩ := hc
    have hlN : vs.length ≤ N.length := by
      have := congrArg List.length S.pre
      rw [List.length_take] at this
      omega
    have s0 := start_ok (p := p) ha hnd ex hN hlN
    refine okSs p.body _ hX rfl body hchk _ _ _ _ _ _ _ fl _ s0 e1 ?_
    have fin : ∀ v val0 σ' ρ' H' Hs', outs args ρ' = some os → val0 = val → Sta K (frOf H as) Hs (bsOf 0 args as) σ' ρ' H' Hs' → Ex Hs Hs' → VOk K (frOf H as) σ' ρ' H' Hs' v val0 → Q v H' := fun v val0 σ' ρ' H' Hs' ho hv s' x' vo => by
      subst hv
      have fr0 : ∀ a, frOf H as a = none → a ∈ as ∨ H a = none := fun a h => by
        unfold frOf at h
        split at h
        · exact .inl (by assumption)
        · exact .inr h
      have inb : ∀ a ∈ as, ∃ i, (i, a) ∈ bsOf 0 args as := fun a h => by
        rw [← bs_snd (k := 0) ha] at h
        obtain ⟨b, hb, e⟩ := List.mem_map.mp h
        exact ⟨b.1, by rw [← e]; exact hb⟩
      refine q v H' Hs' ⟨x', s'.sh, fun a o h1 h2 => s'.fr a o (by unfold frOf; rw [if_neg h2]; exact h1), fun a o h1 => ?_, outs_ok s' (k := 0) ha (fun b hb => hb) (by simpa using ho), ?_⟩
      · rcases s'.nw a o h1 with z | z
        · exact .inl z
        · rcases fr0 a z with z | z
          · obtain ⟨i, hi⟩ := inb a z
            obtain ⟨g1, o', g2⟩ := s'.bo _ hi
            obtain ⟨p', ho', k1, _, _, k4, _⟩ := s'.ent _ _ g2
            rw [g1] at k1
            cases k1
            rw [k4] at h1; cases h1
          · exact .inr z
      · cases val0 with
        | sh d => exact vo
        | ow o =>
          obtain ⟨a, ho', rfl, k2, k3, k4, k5, k6⟩ := vo
          refine ⟨a, ho', rfl, k2, k3, k4, ?_⟩
          rcases fr0 a k5 with z | z
          · obtain ⟨i, hi⟩ := inb a z
            obtain ⟨g1, o', g2⟩ := s'.bo _ hi
            exact absurd g1 (k6 _ _ g2 rfl)
          · exact z
    cases fl with
    | nx ρ1 =>
      simp only [Option.bind_eq_some_iff] at e2
      obtain ⟨os', e3, e4⟩ := e2
      cases e4
      exact fun σ' H' Hs' s' x' => fin .non (.sh .none) σ' ρ1 H' Hs' e3 rfl s' x' .non
    | rt v0 ρ1 =>
      simp only [Option.bind_eq_some_iff] at e2
      obtain ⟨os', e3, e4⟩ := e2
      cases e4
      exact fun v σ' H' Hs' s' x' vo => fin v _ σ' ρ1 H' Hs' e3 rfl s' x' vo
    | bk ρ1 => cases e2
    | ct ρ1 => cases e2
  · cases hc
end
end MP
end

section
set_option Elab.async false
set_option linter.all false
set_option maxRecDepth 100000
set_option maxHeartbeats 8000000
namespace MP
open PySem PySem.Spec PyProof.Rows L2
theorem look_zip {ps : List Str} {us : List Value} (nd : ps.Nodup) (hl : us.length = ps.length) : (ps.filterMap fun n => ((ps.zip us).lookup n).map (n, ·)) = ps.zip us := by
  have key : ∀ (qs : List Str) (ws : List Value) (f : Str → Option Value), qs.Nodup → ws.length = qs.length → (∀ n v, (n, v) ∈ qs.zip ws → f n = some v) → (qs.filterMap fun n => (f n).map (n, ·)) = qs.zip ws := by
    intro qs
    induction qs with
    | nil => intro ws f _ h _; cases ws <;> first | rfl | cases h
    | cons q qs ih =>
      intro ws f nd h hf
      cases ws with
      | nil => cases h
      | cons w ws =>
        have e := hf q w List.mem_cons_self
        rw [List.filterMap_cons_some (b := (q, w)) (by rw [e]; rfl), List.zip_cons_cons, ih ws f (List.nodup_cons.mp nd).2 (by simpa using h) fun n v hm => hf n v (List.mem_cons_of_mem _ hm)]
  refine key ps us _ nd hl fun n v hm => ?_
  clear key
  induction ps generalizing us with
  | nil => cases hm
  | cons p ps ih =>
    cases us with
    | nil => cases hm
    | cons u us =>
      rw [List.zip_cons_cons] at hm ⊢
      rcases List.mem_cons.mp hm with z | z
      · cases z; simp
      · have hne : n ≠ p := fun e => (List.nodup_cons.mp nd).1 (by rw [← e]; exact (List.of_mem_zip z).1)
        rw [List.lookup_cons, beq_eq_false_iff_ne.mpr hne]
        exact ih (List.nodup_cons.mp nd).2 (by simpa using hl) z
theorem look_some {ps : List Str} {us : List Value} (hl : us.length = ps.length) {n : Str} (hn : n ∈ ps) : ((ps.zip us).lookup n).isNone = false := by
  induction ps generalizing us with
  | nil => cases hn
  | cons p ps ih =>
    cases us with
    | nil => cases hl
    | cons u us =>
      rw [List.zip_cons_cons, List.lookup_cons]
      cases e : n == p with
      | true => rfl
      | false =>
        have hn' : n ∈ ps := by
          rcases List.mem_cons.mp hn with z | z
          · subst z; simp at e
          · exact z
        exact ih (by simpa using hl) hn'
theorem bind_plain {fd : FuncData} {us : List Value} {as : List PySem.Arg} (hp : fd.params = ⟨[], as, none, [], [], none, []⟩) (h5 : fd.defaults = .none) (nd : (as.map (·.arg)).Nodup) (hl : us.length = as.length) : bindArgs fd ⟨us, []⟩ = pure ((as.map (·.arg)).zip us) := by
  have hl' : us.length = (as.map (·.arg)).length := by simpa using hl
  have e1 : ((as.map (·.arg)).filter fun n => (((as.map (·.arg)).zip us).lookup n).isNone) = [] := by
    rw [List.filter_eq_nil_iff]
    intro n hn
    rw [look_some hl' hn]
    exact Bool.false_ne_true
  have e2 := look_zip nd hl'
  have e3 : seqItems? Value.none = pure none := rfl
  unfold bindArgs
  have pb : ∀ {α β : Type} (a : α) (f : α → Sem β), (pure a >>= f) = f a := fun _ _ => rfl
  have e4 : ¬ us.length > (as.map (·.arg)).length := by omega
  have e5 : (as.map (·.arg)).take ((as.map (·.arg)).length - 0) = as.map (·.arg) := by rw [Nat.sub_zero, List.take_length]
  have e6 : (as.map (·.arg)).drop ((as.map (·.arg)).length - 0) = [] := by rw [Nat.sub_zero, List.drop_length]
  simp only [hp, h5, e3, List.map_nil, List.nil_append, List.append_nil, List.forIn_nil, pb, Option.getD_none, List.length_nil, e5, e6, e1, e2, List.drop_nil, List.zip_nil_left, List.isEmpty_nil, Bool.not_true, Bool.false_eq_true, if_false, e4, decide_false, Bool.false_and, Option.isNone_none]

theorem bd4 {fd : FuncData} {T : Addr} {u1 u2 u3 u4 i1 : Value} {t1 t2 t3 t4 : Option Expr} {q1 q2 q3 q4 : Pos} {e : Expr} (hp : fd.params = ⟨[], [⟨"many", t1, q1⟩, ⟨"rows", t2, q2⟩, ⟨"rules", t3, q3⟩, ⟨"barred", t4, q4⟩], none, [], [], none, [e]⟩) (hd : fd.defaults = .ref T) :
    ∃ k, bindArgs fd ⟨[u1, u2, u3, u4], []⟩ = seqItems? (.ref T) >>= k ∧ k (some #[i1]) = pure ((["many", "rows", "rules", "barred"] : List Str).zip [u1, u2, u3, u4]) := by
  have n01 : (Str.ofString "many" == Str.ofString "rows") = false := by decide +kernel
  have n02 : (Str.ofString "many" == Str.ofString "rules") = false := by decide +kernel
  have n03 : (Str.ofString "many" == Str.ofString "barred") = false := by decide +kernel
  have n10 : (Str.ofString "rows" == Str.ofString "many") = false := by decide +kernel
  have n12 : (Str.ofString "rows" == Str.ofString "rules") = false := by decide +kernel
  have n13 : (Str.ofString "rows" == Str.ofString "barred") = false := by decide +kernel
  have n20 : (Str.ofString "rules" == Str.ofString "many") = false := by decide +kernel
  have n21 : (Str.ofString "rules" == Str.ofString "rows") = false := by decide +kernel
  have n23 : (Str.ofString "rules" == Str.ofString "barred") = false := by decide +kernel
  have n30 : (Str.ofString "barred" == Str.ofString "many") = false := by decide +kernel
  have n31 : (Str.ofString "barred" == Str.ofString "rows") = false := by decide +kernel
  have n32 : (Str.ofString "barred" == Str.ofString "rules") = false := by decide +kernel
  unfold bindArgs
  simp only [hp, hd, List.map_nil, List.nil_append, List.forIn_nil]
  refine ⟨_, rfl, ?_⟩
  simp [List.filterMap, List.lookup, n01, n02, n03, n10, n12, n13, n20, n21, n23, n30, n31, n32]
theorem bd3 {fd : FuncData} {T : Addr} {u1 u2 u3 u4 i1 : Value} {t1 t2 t3 t4 : Option Expr} {q1 q2 q3 q4 : Pos} {e : Expr} (hp : fd.params = ⟨[], [⟨"many", t1, q1⟩, ⟨"rows", t2, q2⟩, ⟨"rules", t3, q3⟩, ⟨"barred", t4, q4⟩], none, [], [], none, [e]⟩) (hd : fd.defaults = .ref T) :
    ∃ k, bindArgs fd ⟨[u1, u2, u3], []⟩ = seqItems? (.ref T) >>= k ∧ k (some #[i1]) = pure ((["many", "rows", "rules", "barred"] : List Str).zip [u1, u2, u3, i1]) := by
  have n01 : (Str.ofString "many" == Str.ofString "rows") = false := by decide +kernel
  have n02 : (Str.ofString "many" == Str.ofString "rules") = false := by decide +kernel
  have n03 : (Str.ofString "many" == Str.ofString "barred") = false := by decide +kernel
  have n10 : (Str.ofString "rows" == Str.ofString "many") = false := by decide +kernel
  have n12 : (Str.ofString "rows" == Str.ofString "rules") = false := by decide +kernel
  have n13 : (Str.ofString "rows" == Str.ofString "barred") = false := by decide +kernel
  have n20 : (Str.ofString "rules" == Str.ofString "many") = false := by decide +kernel
  have n21 : (Str.ofString "rules" == Str.ofString "rows") = false := by decide +kernel
  have n23 : (Str.ofString "rules" == Str.ofString "barred") = false := by decide +kernel
  have n30 : (Str.ofString "barred" == Str.ofString "many") = false := by decide +kernel
  have n31 : (Str.ofString "barred" == Str.ofString "rows") = false := by decide +kernel
  have n32 : (Str.ofString "barred" == Str.ofString "rules") = false := by decide +kernel
  unfold bindArgs
  simp only [hp, hd, List.map_nil, List.nil_append, List.forIn_nil]
  refine ⟨_, rfl, ?_⟩
  simp [List.filterMap, List.lookup, n01, n02, n03, n10, n12, n13, n20, n21, n23, n30, n31, n32]
/-! ### the law's own call -/
/-- the promise of the law's def, at the heap behind the top -/
theorem law_callG {P : Program} {w : World} {K : PySem.W.Frag} {mg mb : Str → Option Value} {k : Nat} {fa a : Addr} {sp : Sp} {t : Shared} {us : List Value} {ns : List Int}
    (KX : K.In t.heap) (gl : t.heap.Ns mainGlobals mg) (bl : t.heap.Ns builtinsNs mb) (bb : ∀ x : Str, x ≠ "__name__" → mb x = bootBuiltins x) (lm : t.heap.NoLimit) (gn : t.gens = #[])
    (ha : t.heap.get? a = some { cls := .type "list", data := .seq us.toArray }) (hi : IntsAre us ns) (hl : ns.length ≤ sizeLine) (hr : Room k callerA)
    (F : ∀ base : Heap, K.In base → base.Ns mainGlobals mg → ∃ fd ps, Binds K fd ps [] ∧ FnG P w K mg base k fa fd ps sp)
    (hsp : ∀ H : Hp, SqL K H a (ns.map V.int) → sp [.ref a] H (fun v _ => v = .bl true) fun _ _ _ => False) :
    codeAny (model P w) callerA (.call (.ref fa) ⟨[.ref a], []⟩) (fun r s' => r = .ok (.ret (.bool true)) ∧ OldK t.heap s'.heap ∧ s'.os = t.os ∧ AllBare s'.gens) t := by
  have len := hi.length
  -- H0: a heap that tracks the script, or nothing
  have main : ∀ H0 : Hp, (∀ b u, H0 b = some u → b = a ∧ K.lookup a = none ∧ u = .frz { cls := .type "list", data := .seq us.toArray } (.lst (ns.map V.int))) → SqL K H0 a (ns.map V.int) →
      codeAny (model P w) callerA (.call (.ref fa) ⟨[.ref a], []⟩) (fun r s' => r = .ok (.ret (.bool true)) ∧ OldK t.heap s'.heap ∧ s'.os = t.os ∧ AllBare s'.gens) t := fun H0 only hS => by
    have free : ∀ b o, t.heap.get? b = some o → (b = a → K.lookup a = none → False) → H0 b = none := fun b o e z => by
      cases q : H0 b with
      | none => rfl
      | some u => obtain ⟨h1, h2, _⟩ := only b u q; exact (z h1 h2).elim
    have ns1 : ∀ {b : Addr} {m : Str → Option Value}, t.heap.Ns b m → (hidT t.heap H0).Ns b m := fun {b m} ⟨o, es, ep, e, d, r⟩ => ⟨o, es, ep, hidT_get e (free b o e fun z _ => by
      subst z
      rw [ha] at e
      cases e
      have z2 : Data.seq us.toArray 0 = Data.dict es ep := d
      cases z2), d, r⟩
    have kb : K.In (hidT t.heap H0) := fun b o e => hidT_get (KX b o e) (free b o (KX b o e) fun z1 z2 => by rw [← z1] at z2; rw [z2] at e; cases e)
    have hok : HOk P w H0 t.heap := fun b u q => by
      obtain ⟨rfl, _, rfl⟩ := only b u q
      exact ⟨ha, by rw [List.length_map]; exact hl, us, _, vals_ints hi, ha⟩
    obtain ⟨mc, l1, l2⟩ := lm
    have e0 : Env0 P w K mg (hidT t.heap H0) callerA [] t H0 := ⟨rfl, ⟨kb, ns1 gl, ⟨mb, ns1 bl, bb⟩, ⟨mc, ns1 l1, l2⟩⟩, fun b o e => of_hidT e, Nat.le_of_eq (hidT_size _ _), trivial, (fun b hb => absurd (show b ∈ ([] : List Addr) from hb) (by simp)), hok, AllBare.of_eq gn⟩
    obtain ⟨fd, ps, hbind, hF⟩ := F _ kb (ns1 gl)
    have hlen := hF.len _ _ _ _ (hsp H0 hS)
    have bt := hbind t [.ref a] KX (by simpa using hlen)
    rw [List.append_nil] at bt
    refine codeAny_mono (hF.run callerA [] t H0 ⟨[.ref a], []⟩ [.ref a] [.ref a] _ _ hr rfl e0 bt (.cons rfl .nil) (hsp H0 hS)) fun r s' h => ?_
    match r, h with
    | .error _, h => exact h.elim
    | .ok .next, h => exact h.elim
    | .ok .brk, h => exact h.elim
    | .ok .cont, h => exact h.elim
    | .ok (.ret u), ⟨v, H', os, bare, un, hok', rv, q⟩ =>
      have q' : v = .bl true := q
      subst q'
      obtain rfl : u = Value.bool true := rv
      refine ⟨rfl, OldK.of_keep fun b o e => ?_, os, bare⟩
      cases z : H0 b with
      | none => exact un.keep b o e z (fun y => absurd (show b ∈ ([] : List Addr) from y) (by simp)) (by simp)
      | some y =>
        obtain ⟨rfl, _, rfl⟩ := only b y z
        rw [ha] at e
        cases e
        exact (hok' b _ (un.frzs b _ _ z)).1
  cases hk : K.lookup a with
  | some o =>
    have e := KX a o hk
    rw [ha] at e
    cases e
    exact main (fun _ => none) (fun _ _ z => nomatch z) (.inr ⟨_, us.toArray, _, hk, rfl, rfl, rfl, by rw [List.size_toArray, len]; exact hl, by simpa using vals_ints hi⟩)
  | none =>
    refine main (fun b => if b = a then some (.frz { cls := .type "list", data := .seq us.toArray } (.lst (ns.map V.int))) else none) (fun b u z => ?_) (.inl (.inr ⟨_, if_pos rfl⟩))
    by_cases hb : b = a
    · rw [if_pos hb] at z
      exact ⟨hb, hk, (Option.some.inj z).symm⟩
    · rw [if_neg hb] at z
      cases z

/-! ### a law's text -/
/-- one def of the text: its number in the table, its name, its place in the top, its names by slot -/
structure DI where
  f : Nat
  x : Str
  top : Nat
  N : List Str
  df : Bool := false
def sigOf (ds : List DI) (cs : List (Nat × Str)) : Sig where
  fnm := fun f => (ds.find? fun d => d.f == f).map (·.x)
  cnm := fun g => cs.lookup g
  nms := fun _ => []
  dfl := fun f => ((ds.find? fun d => d.f == f).map (·.df)).getD false
def plainA (a : Arguments) : Bool := a.posonlyargs.isEmpty && a.vararg.isNone && a.kwonlyargs.isEmpty && a.kw_defaults.isEmpty && a.kwarg.isNone && a.defaults.isEmpty && decide (a.args.map (·.arg)).Nodup
def nms4 : List Str := ["many", "rows", "rules", "barred"]
/-- the one def with a default -/
def dfA (a : Arguments) : Bool := a.posonlyargs.isEmpty && a.vararg.isNone && a.kwonlyargs.isEmpty && a.kw_defaults.isEmpty && a.kwarg.isNone && decide (a.defaults.length = 1) && decide (a.args.map (·.arg) = nms4)
def fnScB (N ps : List Str) (sc : Scope) : Bool :=
  (match sc.kind with | .function => true | _ => false) && !sc.isCoroutine && !sc.isGenerator && decide N.Nodup && decide (N.take ps.length = ps) && (ps.all fun x => match sc.names.lookup x with | some .local => true | some .cell => true | _ => false) &&
    sc.names.all fun y => match y.2 with | .free => false | _ => true
theorem fnScB_ok {N ps : List Str} {sc : Scope} (h : fnScB N ps sc = true) : FnScope N ps sc := by
  unfold fnScB at h
  simp only [Bool.and_eq_true, decide_eq_true_eq, List.all_eq_true, Bool.not_eq_true'] at h
  obtain ⟨⟨⟨⟨⟨⟨h1, h2⟩, h3⟩, h4⟩, h5⟩, h6⟩, h7⟩ := h
  refine ⟨?_, h2, h3, h4, h5, fun x hx => ?_, fun y hy e => ?_⟩
  · split at h1
    · assumption
    · cases h1
  · have q := h6 x hx
    split at q
    · exact .inl (by assumption)
    · exact .inr (by assumption)
    · cases q
  · have q := h7 y hy
    rw [e] at q
    cases q
/-- a def of the text is the def of the table -/
def diB (Γ : Tbl) (G : Sig) (body : List Stmt) (d : DI) : Bool := match body[d.top]?, Γ d.f with
  | some (.FunctionDef nm ar b _ _ _ sc _ _ _), some p => decide (nm = d.x) && (if d.df then dfA ar else plainA ar) && fnScB d.N (ar.args.map (·.arg)) sc && decide (ar.args.length = p.ar) && decide (d.N.length = p.sl) && chkSs G d.N p.body sc b
  | _, _ => false
def ddOf (body : List Stmt) (d : DI) : He.DefD := match body[d.top]? with
  | some (.FunctionDef nm ar b _ _ _ sc _ _ _) => ⟨(nm, none), nm, nm, ar, b, sc, if d.df then [.adr (He.dflAt (nm, none) 0)] else [], []⟩
  | _ => ⟨("", none), "", "", ⟨[], [], none, [], [], none, []⟩, [], ⟨.function, [], false, false, []⟩, [], []⟩
/-- an empty tuple of the written part -/
def tup0 (K : PySem.W.Frag) (a : Addr) : Bool := match K.lookup a with
  | some ⟨.type c, _, .seq its _, _⟩ => decide (c = "tuple") && its.isEmpty
  | _ => false
theorem tup0_ok {K : PySem.W.Frag} {a : Addr} (h : tup0 K a = true) (H : Hp) : SqT K H a [] := by
  unfold tup0 at h
  split at h
  · rename_i c od its m sl e
    simp only [Bool.and_eq_true, decide_eq_true_eq, Array.isEmpty_iff] at h
    obtain ⟨h1, h2⟩ := h
    subst h1 h2
    exact .inr ⟨_, #[], m, e, rfl, rfl, by simp, .nil⟩
  · cases h
def exK (ds : List DI) (K : PySem.W.Frag) : Bool := ds.all fun d => !d.df || tup0 K (He.dflAt (d.x, none) 0 K)
/-- what is seen behind the top -/
def hookE (n : Nat) (fa : List He.Fa) (fn : List He.DefD) (ex : PySem.W.Frag → Bool) : PySem.W.Hook where
  α := He.AlD × Bool
  obs := fun s => (He.obsDG n fa fn s.heap.get?, ex (He.frG s.heap.get? (He.asD s.heap.get? n)))
  val := fun _ => (He.valD fn, true)
  says := fun _ h => ∃ K : PySem.W.Frag, K.In h ∧ He.SaysD fa fn K ∧ ex K = true
  of := fun _ _ e => ⟨_, He.frG_in, congrArg Prod.fst e, congrArg Prod.snd e⟩
  keeps := fun _ _ _ ⟨K, hK, c⟩ k => ⟨K, PySem.W.Frag.In.keeps hK k, c⟩
def obsE (n : Nat) (fa : List He.Fa) (fn : List He.DefD) (ex : PySem.W.Frag → Bool) (g : Addr → Option Obj) : He.AlD × Bool := (He.obsDG n fa fn g, ex (He.frG g (He.asD g n)))
theorem obsE_eq {n : Nat} {fa : List He.Fa} {fn : List He.DefD} {ex : PySem.W.Frag → Bool} {g : Addr → Option Obj} {s : Shared} (h : ∀ a, g a = s.heap.get? a) : obsE n fa fn ex g = (hookE n fa fn ex).obs s := by
  have e : g = s.heap.get? := funext h
  rw [e]
  rfl
/-- a constant of the module -/
def conFa (con : Nat → Option D) (c : Nat × Str) : He.Fa := match con c.1 with
  | some (.int i) => .int c.2 i
  | some (.str z) => .str c.2 z
  | _ => .exm "" "" true
def conB (con : Nat → Option D) (c : Nat × Str) : Bool := match con c.1 with
  | some (.int _) => true
  | some (.str _) => true
  | _ => false
def faOf (con : Nat → Option D) (ds : List DI) (cs : List (Nat × Str)) : List He.Fa := ds.map (fun d => .glo d.x) ++ freeNms.map .free ++ cs.map (conFa con)
def allB (Γ : Tbl) (con : Nat → Option D) (body : List Stmt) (ds : List DI) (cs : List (Nat × Str)) : Bool := (ds.all (diB Γ (sigOf ds cs) body)) && cs.all (conB con)
theorem SaysD.mem {fa : List He.Fa} {fn : List He.DefD} {K : PySem.W.Frag} (c : He.SaysD fa fn K) {f : He.Fa} (h : f ∈ fa) : f.ok K = true := by
  obtain ⟨i, hi⟩ := List.getElem?_of_mem h
  exact c.fact i hi
section
variable {Γ : Tbl} {con : Nat → Option D} {body : List Stmt} {ds : List DI} {cs : List (Nat × Str)} {K : PySem.W.Frag} {h : Heap} {mg : Str → Option Value} {P : Program} {w : World}
theorem look_mem : ∀ {cs : List (Nat × Str)} {g : Nat} {x : Str}, cs.lookup g = some x → (g, x) ∈ cs
  | (k, y) :: r, g, x, e => by
    rw [List.lookup_cons] at e
    cases q : g == k with
    | true =>
      rw [q] at e
      have e1 : y = x := Option.some.inj e
      have e2 : g = k := by simpa using q
      rw [e1, e2]; exact List.mem_cons_self
    | false => rw [q] at e; exact List.mem_cons_of_mem _ (look_mem e)
theorem mod_ok (KX : K.In h) (G : h.Ns mainGlobals mg) (hcs : ∀ q ∈ cs, conB con q = true) (c : He.SaysD (faOf con ds cs) (ds.map (ddOf body)) K) : ModOk Γ con (sigOf ds cs) K mg := by
  refine ⟨fun x hx => He.free_ok KX G (SaysD.mem c (by unfold faOf; exact List.mem_append_left _ (List.mem_append_right _ (List.mem_map.mpr ⟨x, hx, rfl⟩)))), fun g x d e1 e2 => ?_⟩
  have hm : conFa con (g, x) ∈ faOf con ds cs := by
    unfold faOf
    refine List.mem_append_right _ (List.mem_map.mpr ⟨(g, x), look_mem e2, rfl⟩)
  have q := SaysD.mem c hm
  unfold conFa at q
  rw [e1] at q
  cases d with
  | int i =>
    obtain ⟨t, ht⟩ := He.int_ok KX G q
    exact ⟨.int i, _, ht, ⟨t, rfl⟩, fun H => .int i⟩
  | str z =>
    obtain ⟨t, ht⟩ := He.str_ok KX G q
    exact ⟨.str z, _, ht, ⟨t, rfl⟩, fun H => .str z⟩
  | _ => exact absurd (hcs (g, x) (look_mem e2)) (by unfold conB; rw [e1]; exact Bool.false_ne_true)
theorem bind_dfl {K : PySem.W.Frag} {x qual : Str} {ar : Arguments} {b : List Stmt} {sc : Scope} {a0 ad : Addr} {fd : FuncData} (hp : dfA ar = true) (F : FunD K x qual ar b sc [.ref a0] [] ad fd) : Binds K fd (ar.args.map (·.arg)) [] ∧ Binds K fd (ar.args.map (·.arg)) [.ref a0] := by
  obtain ⟨a1, a2, a3, a4, a5, a6, a7⟩ := ar
  unfold dfA at hp
  simp only [Bool.and_eq_true, List.isEmpty_iff, Option.isNone_iff_eq_none, decide_eq_true_eq] at hp
  obtain ⟨⟨⟨⟨⟨⟨rfl, rfl⟩, rfl⟩, rfl⟩, rfl⟩, hd⟩, hn⟩ := hp
  have hlen : a2.length = 4 := by
    have z := congrArg List.length hn
    rw [List.length_map] at z
    exact z
  match a2, hlen with
  | [⟨n1, t1, q1⟩, ⟨n2, t2, q2⟩, ⟨n3, t3, q3⟩, ⟨n4, t4, q4⟩], _ =>
    have hn' : [n1, n2, n3, n4] = [Str.ofString "many", Str.ofString "rows", Str.ofString "rules", Str.ofString "barred"] := hn
    injection hn' with w1 hn'
    injection hn' with w2 hn'
    injection hn' with w3 hn'
    injection hn' with w4 _
    subst w1 w2 w3 w4
    clear hn
    constructor
    · obtain ⟨ds, h1, h2⟩ := F.binds1 (ps := ["many", "rows", "rules", "barred"]) 4 1 (by simp) rfl (fun T kV doc pm an cdv ct us its hl hi => by
        match us, hl with
        | [u1, u2, u3, u4], _ =>
          match its, hi with
          | [i1], _ =>
            match a7, hd with
            | [e], _ => exact bd4 rfl rfl)
      cases h1
      exact h2
    · obtain ⟨ds, h1, h2⟩ := F.binds1 (ps := ["many", "rows", "rules", "barred"]) 3 0 (by simp) rfl (fun T kV doc pm an cdv ct us its hl hi => by
        match us, hl with
        | [u1, u2, u3], _ =>
          match its, hi with
          | [i1], _ =>
            match a7, hd with
            | [e], _ => exact bd3 (u4 := .none) rfl rfl)
      cases h1 with
      | cons r1 r2 =>
        cases r2
        cases r1
        exact h2
theorem fns_ok (KX : K.In h) (G : h.Ns mainGlobals mg) (hall : allB Γ con body ds cs = true) (c : He.SaysD (faOf con ds cs) (ds.map (ddOf body)) K) (hex : exK ds K = true) (base : Heap) : ∀ (n : Nat) (f : Nat) (x : Str), (sigOf ds cs).fnm f = some x → FOk Γ con n P w K mg base ((sigOf ds cs).dfl f) f x := by
  have M := mod_ok (Γ := Γ) KX G (fun q hq => List.all_eq_true.mp (Bool.and_eq_true_iff.mp (show (ds.all (diB Γ (sigOf ds cs) body) && cs.all (conB con)) = true from hall)).2 q hq) c
  intro n
  have one : ∀ (f : Nat) (x : Str), (sigOf ds cs).fnm f = some x → ∃ (d : DI) (p : PDef) (nm : Str) (ar : Arguments) (b : List Stmt) (sc : Scope) (fd : FuncData) (dvs : List V), d ∈ ds ∧ Γ f = some p ∧ nm = x ∧ mg x = some (.ref (He.ga K x)) ∧ FnScope d.N (ar.args.map (·.arg)) sc ∧ ar.args.length = p.ar ∧ d.N.length = p.sl ∧ chkSs (sigOf ds cs) d.N p.body sc b = true ∧
      FunD K nm nm ar b sc dvs [] (He.ga K x) fd ∧ Binds K fd (ar.args.map (·.arg)) [] ∧ ((sigOf ds cs).dfl f = true → ∃ a0, (∀ H : Hp, SqT K H a0 []) ∧ Binds K fd (ar.args.map (·.arg)) [.ref a0]) := fun f x hf => by
    have hf' : (ds.find? fun d => d.f == f).map (·.x) = some x := hf
    obtain ⟨d, hd, hx⟩ := Option.map_eq_some_iff.mp hf'
    have hmem := List.mem_of_find?_eq_some hd
    have hdf : d.f = f := by simpa using List.find?_some hd
    have hdd : (sigOf ds cs).dfl f = d.df := by
      show ((ds.find? fun d => d.f == f).map (·.df)).getD false = d.df
      rw [hd]
      rfl
    unfold allB at hall
    rw [Bool.and_eq_true] at hall
    have k := List.all_eq_true.mp hall.1 d hmem
    have kx := List.all_eq_true.mp hex d hmem
    obtain ⟨i, hi⟩ := List.getElem?_of_mem hmem
    obtain ⟨fd, F⟩ := c.def_ i (d := ddOf body d) (by rw [List.getElem?_map, hi]; rfl)
    have g1 := He.glo_ok KX G (SaysD.mem c (f := .glo d.x) (by unfold faOf; exact List.mem_append_left _ (List.mem_append_left _ (List.mem_map.mpr ⟨d, hmem, rfl⟩))))
    unfold diB at k
    unfold ddOf at F
    split at k
    · rename_i nm ar b a1 a2 a3 sc a4 a5 a6 p e1 e2
      rw [e1] at F
      simp only [Bool.and_eq_true, decide_eq_true_eq] at k
      obtain ⟨⟨⟨⟨⟨k1, k2⟩, k3⟩, k4⟩, k5⟩, k6⟩ := k
      rw [hdf] at e2
      subst hx k1
      rw [hdd]
      cases hdfb : d.df with
      | false =>
        rw [hdfb] at k2 F
        simp only [Bool.false_eq_true, if_false] at k2 F
        have F' : FunD K d.x d.x ar b sc [] [] (He.ga K d.x) fd := F
        refine ⟨d, p, _, ar, b, sc, fd, [], hmem, e2, rfl, g1, fnScB_ok k3, k4, k5, k6, F', ?_, fun z => by cases z⟩
        obtain ⟨b1, b2, b3, b4, b5, b6, b7⟩ := ar
        unfold plainA at k2
        simp only [Bool.and_eq_true, List.isEmpty_iff, Option.isNone_iff_eq_none, decide_eq_true_eq] at k2
        obtain ⟨⟨⟨⟨⟨⟨rfl, rfl⟩, rfl⟩, rfl⟩, rfl⟩, rfl⟩, nd⟩ := k2
        exact F'.bindsN fun kV doc pm an cdv ct us hl => bind_plain rfl rfl nd (by simpa using hl)
      | true =>
        rw [hdfb] at k2 F kx
        simp only [if_true] at k2 F
        have F' : FunD K d.x d.x ar b sc [.ref (He.dflAt (d.x, none) 0 K)] [] (He.ga K d.x) fd := F
        have bb := bind_dfl k2 F'
        exact ⟨d, p, _, ar, b, sc, fd, _, hmem, e2, rfl, g1, fnScB_ok k3, k4, k5, k6, F', bb.1, fun _ => ⟨_, fun H => tup0_ok (by simpa using kx) H, bb.2⟩⟩
    · cases k
  induction n with
  | zero =>
    intro f x hf
    obtain ⟨d, p, nm, ar, b, sc, fd, dvs, hd, e1, rfl, e3, e5, e6, e7, e8, F, b1, b2⟩ := one f x hf
    refine ⟨p, ar.args.map (·.arg), _, fd, e1, e3, F.kp, b1, ⟨fun vs H Q E hsp => ?_, fun A outer s H args us vs Q E _ _ _ _ _ hsp => ?_⟩, b2⟩
    · rw [List.length_map, e6]; exact hsp.1
    · obtain ⟨_, _, _, _, _, _, z, _⟩ := hsp
      cases z
  | succ n ih =>
    intro f x hf
    obtain ⟨d, p, nm, ar, b, sc, fd, dvs, hd, e1, rfl, e3, e5, e6, e7, e8, F, b1, b2⟩ := one f x hf
    obtain ⟨oc, od, dV, kV, doc, pm, an, cdv, ct, osl, rfl, lk, hcd, _, _⟩ := F.ex
    exact ⟨p, ar.args.map (·.arg), _, _, e1, e3, F.kp, b1, def_ok M lk hcd e5 e1 (by rw [List.length_map]; exact e6) e7 e8 ih, b2⟩
end

/-- a law of MP holds -/
theorem law_walk {l : PySem.W.OpenLaw} {k fL m : Nat} {q : Program} {loose : List Str} {XP : (Str → Option Value) → Heap → Prop} {d : DefRec} {Γ : Tbl} {con : Nat → Option D} {ds : List DI} {cs : List (Nat × Str)}
    (hn : l.most = some m) (hm : m ≤ sizeLine) (hdf : d.params.defaults = []) (hr : Room k callerA) (hall : allB Γ con l.prog.main.body ds cs = true) (hL : (sigOf ds cs).fnm fL = some d.name) (har : (Γ fL).map (·.ar) = some 1)
    (law : ∀ ns : List Int, ns.length ≤ m → evalCall Γ con k fL [.sh (.list (ns.map .int))] = some (.sh (.bool true), [])) :
    PySem.W.WalkO q loose XP (hookE 4 (faOf con ds cs) (ds.map (ddOf l.prog.main.body)) (exK ds)).says l.row.toRowW d [] (fun f vs => PySem.call f vs) := by
  refine Att.attach_call hn hdf fun w s₀ s₁ mg mb fa o pm cd doc a vs ns G Y ho hd hcd hmg hobj hints hlen hg => ?_
  obtain ⟨K, KX, c, hex⟩ := Y
  refine law_callG (sp := spOf K 1 (evalCall Γ con k fL)) KX G.T.g G.T.b G.T.builtins G.T.nolimit hg hobj hints (Nat.le_trans hlen hm) hr (fun base b1 b2 => ?_) fun H hS => ?_
  · obtain ⟨p, ps, ad, fd, e1, e2, e3, e4, e5, _⟩ := (fns_ok (P := l.prog) (w := w) KX G.T.g hall c hex base k fL d.name hL).ex
    rw [hmg] at e2
    cases e2
    rw [e1] at har
    have e6 : p.ar = 1 := Option.some.inj har
    rw [e6] at e5
    exact ⟨fd, ps, e4, e5⟩
  · exact ⟨rfl, _, [], H, _, _, law ns hlen, .sh (.lst hS (RpAll.ofInts ns)) .nil, .nil, Ex.refl _, fun v H' Hs' en => by
      have z : Rp K Hs' v (.bool true) := en.val
      cases z
      rfl⟩
end MP
end

section
set_option Elab.async false
set_option linter.all false
set_option maxRecDepth 100000
set_option maxHeartbeats 8000000
namespace MP
abbrev f_is_whole : Nat := 0
def d_is_whole : PDef := ⟨1, 1, [false], (.cons (.ret (.and (.isi (.var 0) .int) (.not (.isi (.var 0) .bool)))) .nil)⟩
abbrev f_is_between : Nat := 1
def d_is_between : PDef := ⟨3, 3, [false, false, false], (.cons (.ret (.and (.call 0 (.cons (.var 0) .nil)) (.cmp2 .le .le (.var 1) (.var 0) (.var 2)))) .nil)⟩
abbrev f_is_set : Nat := 2
def d_is_set : PDef := ⟨4, 2, [false, false], (.cons (.ite (.or (.not (.isi (.var 0) .tuple)) (.not (.blt .all (.cons (.lc (.call 1 (.cons (.var 2) (.cons (.int 0) (.cons (.var 1) .nil)))) (.nm 2) (.seq (.var 0)) .nil [2]) .nil)))) (.cons (.ret (.bl false)) .nil) .nil) (.cons (.ret (.blt .all (.cons (.lc (.cmp .lt (.var 2) (.var 3)) (.t2 (.nm 2) (.nm 3)) (.zip (.var 0) (.slL (.var 0) (.int 1))) .nil [2, 3]) .nil))) .nil))⟩
abbrev f_is_cell : Nat := 3
def d_is_cell : PDef := ⟨1, 1, [false], (.cons (.ret (.or (.isN (.var 0)) (.call 1 (.cons (.var 0) (.cons (.int 0) (.cons (.glo 3) .nil)))))) .nil)⟩
abbrev f_is_row : Nat := 4
def d_is_row : PDef := ⟨3, 2, [false, false], (.cons (.ret (.and (.isi (.var 1) .tuple) (.and (.cmp .eq (.blt .len (.cons (.var 1) .nil)) (.var 0)) (.blt .all (.cons (.lc (.call 3 (.cons (.var 2) .nil)) (.nm 2) (.seq (.var 1)) .nil [2]) .nil))))) .nil)⟩
abbrev f_are_rows : Nat := 5
def d_are_rows : PDef := ⟨3, 2, [false, false], (.cons (.ret (.and (.isi (.var 1) .tuple) (.and (.cmp .le (.blt .len (.cons (.var 1) .nil)) (.glo 1)) (.blt .all (.cons (.lc (.call 4 (.cons (.var 0) (.cons (.var 2) .nil))) (.nm 2) (.seq (.var 1)) .nil [2]) .nil))))) .nil)⟩
abbrev f_is_table : Nat := 6
def d_is_table : PDef := ⟨1, 1, [false], (.cons (.ite (.or (.not (.isi (.var 0) .tuple)) (.or (.cmp .ne (.blt .len (.cons (.var 0) .nil)) (.int 2)) (.not (.call 1 (.cons (.ix (.var 0) (.int 0)) (.cons (.int 1) (.cons (.glo 0) .nil))))))) (.cons (.ret (.bl false)) .nil) .nil) (.cons (.ret (.call 5 (.cons (.ix (.var 0) (.int 0)) (.cons (.ix (.var 0) (.int 1)) .nil)))) .nil))⟩
abbrev f_need_table : Nat := 7
def d_need_table : PDef := ⟨1, 1, [false], (.cons (.ite (.not (.call 6 (.cons (.var 0) .nil))) (.cons .raise .nil) .nil) .nil)⟩
abbrev f_is_rule : Nat := 8
def d_is_rule : PDef := ⟨2, 2, [false, false], (.cons (.ite (.or (.not (.isi (.var 1) .tuple)) (.cmp .ne (.blt .len (.cons (.var 1) .nil)) (.int 2))) (.cons (.ret (.bl false)) .nil) .nil) (.cons (.ret (.and (.call 2 (.cons (.ix (.var 1) (.int 0)) (.cons (.op .sub (.var 0) (.int 1)) .nil))) (.and (.call 1 (.cons (.ix (.var 1) (.int 1)) (.cons (.int 0) (.cons (.op .sub (.var 0) (.int 1)) .nil)))) (.cmp .nin (.ix (.var 1) (.int 1)) (.ix (.var 1) (.int 0)))))) .nil))⟩
abbrev f_are_rules_of : Nat := 9
def d_are_rules_of : PDef := ⟨3, 2, [false, false], (.cons (.ret (.and (.isi (.var 1) .tuple) (.and (.cmp .le (.blt .len (.cons (.var 1) .nil)) (.glo 2)) (.blt .all (.cons (.lc (.call 8 (.cons (.var 0) (.cons (.var 2) .nil))) (.nm 2) (.seq (.var 1)) .nil [2]) .nil))))) .nil)⟩
abbrev f_need_rules : Nat := 10
def d_need_rules : PDef := ⟨2, 2, [false, false], (.cons (.ite (.not (.call 9 (.cons (.var 0) (.cons (.var 1) .nil)))) (.cons .raise .nil) .nil) .nil)⟩
abbrev f_need_both : Nat := 11
def d_need_both : PDef := ⟨2, 2, [false, false], (.cons (.expr (.call 7 (.cons (.var 0) .nil))) (.cons (.expr (.call 10 (.cons (.ix (.var 0) (.int 0)) (.cons (.var 1) .nil)))) .nil))⟩
abbrev f_places_where : Nat := 12
def d_places_where : PDef := ⟨7, 2, [false, false], (.cons (.asg (.nm 2) (.lst .nil)) (.cons (.for (.t2 (.nm 3) (.nm 4)) (.enm (.ix (.var 0) (.int 1))) (.cons (.ext 2 (.lc (.tup (.cons (.var 3) (.cons (.var 5) .nil))) (.t2 (.nm 5) (.nm 6)) (.enm (.var 4)) (.cons (.cmp .eq (.isN (.var 6)) (.var 1)) .nil) [5, 6])) .nil)) (.cons (.ret (.blt .tuple (.cons (.var 2) .nil))) .nil)))⟩
abbrev f_are_equal : Nat := 13
def d_are_equal : PDef := ⟨4, 3, [false, false, false], (.cons (.ret (.blt .all (.cons (.lc (.cmp .eq (.ix (.var 0) (.var 3)) (.ix (.var 1) (.var 3))) (.nm 3) (.seq (.var 2)) .nil [3]) .nil))) .nil)⟩
abbrev f_rule_holds : Nat := 14
def d_rule_holds : PDef := ⟨7, 2, [false, false], (.cons (.asg (.t2 (.nm 2) (.nm 3)) (.var 1)) (.cons (.for (.t2 (.nm 4) (.nm 5)) (.enm (.var 0)) (.cons (.ite (.blt .any (.cons (.lc (.and (.call 13 (.cons (.var 5) (.cons (.var 6) (.cons (.var 2) .nil)))) (.cmp .ne (.ix (.var 5) (.var 3)) (.ix (.var 6) (.var 3)))) (.nm 6) (.seq (.slH (.var 0) (.var 4))) .nil [6]) .nil)) (.cons (.ret (.bl false)) .nil) .nil) .nil)) (.cons (.ret (.bl true)) .nil)))⟩
abbrev f_all_hold : Nat := 15
def d_all_hold : PDef := ⟨3, 2, [false, false], (.cons (.ret (.blt .all (.cons (.lc (.call 14 (.cons (.var 0) (.cons (.var 2) .nil))) (.nm 2) (.seq (.var 1)) .nil [2]) .nil))) .nil)⟩
abbrev f_need_full : Nat := 16
def d_need_full : PDef := ⟨1, 1, [false], (.cons (.ite (.cmp .ne (.call 12 (.cons (.var 0) (.cons (.bl true) .nil))) (.tup .nil)) (.cons .raise .nil) .nil) .nil)⟩
abbrev f_holds : Nat := 17
def d_holds : PDef := ⟨2, 2, [false, false], (.cons (.expr (.call 11 (.cons (.var 0) (.cons (.var 1) .nil)))) (.cons (.expr (.call 16 (.cons (.var 0) .nil))) (.cons (.ret (.call 15 (.cons (.ix (.var 0) (.int 1)) (.cons (.var 1) .nil)))) .nil)))⟩
abbrev f_breaking : Nat := 18
def d_breaking : PDef := ⟨9, 2, [false, false], (.cons (.expr (.call 7 (.cons (.var 0) .nil))) (.cons (.ite (.not (.call 8 (.cons (.ix (.var 0) (.int 0)) (.cons (.var 1) .nil)))) (.cons .raise .nil) .nil) (.cons (.expr (.call 16 (.cons (.var 0) .nil))) (.cons (.asg (.t2 (.nm 3) (.t2 (.nm 7) (.nm 8))) (.tup (.cons (.ix (.var 0) (.int 1)) (.cons (.var 1) .nil)))) (.cons (.asg (.nm 2) (.lst .nil)) (.cons (.for (.t2 (.nm 4) (.nm 5)) (.enm (.var 3)) (.cons (.for (.nm 6) (.rng2 (.op .add (.var 4) (.int 1)) (.blt .len (.cons (.var 3) .nil))) (.cons (.ite (.and (.call 13 (.cons (.var 5) (.cons (.ix (.var 3) (.var 6)) (.cons (.var 7) .nil)))) (.cmp .ne (.ix (.var 5) (.var 8)) (.ix (.ix (.var 3) (.var 6)) (.var 8)))) (.cons (.app 2 (.tup (.cons (.var 4) (.cons (.var 6) .nil)))) .nil) .nil) .nil)) .nil)) (.cons (.ret (.blt .tuple (.cons (.var 2) .nil))) .nil)))))))⟩
abbrev f_l_cell_at : Nat := 19
def d_l_cell_at : PDef := ⟨2, 2, [false, false], (.cons (.ite (.cmp .lt (.var 1) (.blt .len (.cons (.var 0) .nil))) (.cons (.ret (.ix (.var 0) (.var 1))) .nil) .nil) (.cons (.ret (.int 0)) .nil))⟩
abbrev f_l_pen : Nat := 20
def d_l_pen : PDef := ⟨1, 1, [false], (.cons (.ret (.lst (.cons (.blt .max2 (.cons (.int 0) (.cons (.op .sub (.var 0) (.op .pow (.int 10) (.int 18))) .nil))) (.cons (.op .mod (.var 0) (.int 1000000007)) (.cons (.int 0) .nil))))) .nil)⟩
abbrev f_l_draw : Nat := 21
def d_l_draw : PDef := ⟨4, 2, [true, false], (.cons (.ite (.cmp .gt (.ix (.var 0) (.int 0)) (.int 0)) (.cons (.asg (.nm 3) (.frz (.op .mod (.ix (.var 0) (.int 0)) (.var 1)))) (.cons (.sti 0 (.int 0) (.op .fdiv (.ix (.var 0) (.int 0)) (.var 1))) (.cons (.ret (.var 3)) .nil))) .nil) (.cons (.sti 0 (.int 2) (.op .add (.ix (.var 0) (.int 2)) (.int 1))) (.cons (.asg (.nm 2) (.frz (.op .mod (.op .mul (.op .add (.ix (.var 0) (.int 1)) (.op .mul (.int 17) (.ix (.var 0) (.int 2)))) (.op .add (.int 69621) (.op .mul (.int 2) (.ix (.var 0) (.int 2))))) (.int 2147483647)))) (.cons (.asg (.nm 2) (.frz (.op .mod (.op .add (.op .add (.op .mul (.var 2) (.var 2)) (.op .mul (.int 40503) (.ix (.var 0) (.int 2)))) (.int 5)) (.int 2147483629)))) (.cons (.ret (.op .mod (.op .fdiv (.op .mod (.op .mul (.var 2) (.int 48271)) (.int 2147483647)) (.int 32)) (.var 1))) .nil)))))⟩
abbrev f_l_same : Nat := 22
def d_l_same : PDef := ⟨2, 2, [false, false], (.cons (.ret (.cmp .eq (.blt .repr (.cons (.var 0) .nil)) (.blt .repr (.cons (.var 1) .nil)))) .nil)⟩
abbrev f_l_rule : Nat := 23
def d_l_rule : PDef := ⟨8, 2, [true, false], (.cons (.asg (.nm 2) (.frz (.call 21 (.cons (.var 0) (.cons (.var 1) .nil))))) (.cons (.asg (.nm 3) (.lc (.var 7) (.nm 7) (.rng (.var 1)) (.cons (.cmp .ne (.var 7) (.var 2)) .nil) [7])) (.cons (.asg (.nm 4) (.ix (.lst (.cons (.int 1) (.cons (.int 1) (.cons (.int 2) (.cons (.int 1) (.cons (.int 0) (.cons (.int 3) (.cons (.int 4) .nil)))))))) (.call 21 (.cons (.var 0) (.cons (.int 7) .nil))))) (.cons (.asg (.nm 5) (.lst .nil)) (.cons (.for (.nm 6) (.rng (.blt .min2 (.cons (.var 4) (.cons (.blt .len (.cons (.var 3) .nil)) .nil)))) (.cons (.app 5 (.pop 3 (.call 21 (.cons (.var 0) (.cons (.blt .len (.cons (.var 3) .nil)) .nil))))) .nil)) (.cons (.ret (.tup (.cons (.blt .tuple (.cons (.blt .sorted (.cons (.var 5) .nil)) .nil)) (.cons (.var 2) .nil)))) .nil))))))⟩
abbrev f_l_rules : Nat := 24
def d_l_rules : PDef := ⟨4, 3, [true, false, false], (.cons (.ret (.blt .tuple (.cons (.lc (.call 23 (.cons (.var 0) (.cons (.var 1) .nil))) (.nm 3) (.rng (.call 21 (.cons (.var 0) (.cons (.op .add (.var 2) (.int 1)) .nil)))) .nil [3]) .nil))) .nil)⟩
abbrev f_l_pick_values : Nat := 25
def d_l_pick_values : PDef := ⟨1, 1, [true], (.cons (.ret (.ix (.lst (.cons (.lst (.cons (.int 0) .nil)) (.cons (.lst (.cons (.int 0) (.cons (.int 1) .nil))) (.cons (.lst (.cons (.int 3) (.cons (.int 1) (.cons (.int 2) .nil)))) (.cons (.lst (.cons (.int 9999) (.cons (.int 10) (.cons (.int 100) (.cons (.int 2) .nil))))) .nil))))) (.call 21 (.cons (.var 0) (.cons (.int 4) .nil))))) .nil)⟩
abbrev f_l_full : Nat := 26
def d_l_full : PDef := ⟨7, 3, [true, false, false], (.cons (.par2 4 5 (.frz (.call 25 (.cons (.var 0) .nil))) (.lst .nil)) (.cons (.for (.nm 3) (.rng (.call 21 (.cons (.var 0) (.cons (.op .add (.var 2) (.int 1)) .nil)))) (.cons (.app 5 (.blt .tuple (.cons (.lc (.ix (.var 4) (.call 21 (.cons (.var 0) (.cons (.blt .len (.cons (.var 4) .nil)) .nil)))) (.nm 6) (.rng (.var 1)) .nil [6]) .nil))) .nil)) (.cons (.ret (.blt .tuple (.cons (.var 5) .nil))) .nil)))⟩
abbrev f_l_pairs : Nat := 27
def d_l_pairs : PDef := ⟨9, 2, [false, false], (.cons (.asg (.t2 (.nm 4) (.nm 5)) (.var 1)) (.cons (.asg (.nm 2) (.lst .nil)) (.cons (.for (.nm 3) (.rng (.blt .len (.cons (.var 0) .nil))) (.cons (.for (.nm 6) (.rng2 (.op .add (.var 3) (.int 1)) (.blt .len (.cons (.var 0) .nil))) (.cons (.asg (.nm 7) (.frz (.lc (.int 1) (.nm 8) (.seq (.var 4)) (.cons (.cmp .ne (.ix (.ix (.var 0) (.var 3)) (.var 8)) (.ix (.ix (.var 0) (.var 6)) (.var 8))) .nil) [8]))) (.cons (.ite (.and (.cmp .eq (.var 7) (.lst .nil)) (.cmp .ne (.ix (.ix (.var 0) (.var 3)) (.var 5)) (.ix (.ix (.var 0) (.var 6)) (.var 5)))) (.cons (.app 2 (.tup (.cons (.var 3) (.cons (.var 6) .nil)))) .nil) .nil) .nil))) .nil)) (.cons (.ret (.blt .tuple (.cons (.var 2) .nil))) .nil))))⟩
abbrev f_l_right : Nat := 28
def d_l_right : PDef := ⟨8, 1, [true], (.cons (.asg (.nm 1) (.frz (.op .add (.int 1) (.call 21 (.cons (.var 0) (.cons (.int 5) .nil)))))) (.cons (.par2 3 4 (.tup (.cons (.var 1) (.cons (.call 26 (.cons (.var 0) (.cons (.var 1) (.cons (.int 8) .nil)))) .nil))) (.frz (.call 24 (.cons (.var 0) (.cons (.var 1) (.cons (.int 8) .nil)))))) (.cons (.par2 5 6 (.frz (.blt .repr (.cons (.tup (.cons (.var 3) (.cons (.var 4) .nil))) .nil))) (.lst .nil)) (.cons (.for (.nm 2) (.seq (.var 4)) (.cons (.asg (.nm 7) (.frz (.call 27 (.cons (.ix (.var 3) (.int 1)) (.cons (.var 2) .nil))))) (.cons (.ext 6 (.var 7)) (.cons (.ite (.not (.call 22 (.cons (.lst (.cons (.call 18 (.cons (.var 3) (.cons (.var 2) .nil))) (.cons (.call 18 (.cons (.var 3) (.cons (.var 2) .nil))) .nil))) (.cons (.lst (.cons (.var 7) (.cons (.var 7) .nil))) .nil)))) (.cons (.ret (.bl false)) .nil) .nil) (.cons (.ite (.not (.call 22 (.cons (.call 17 (.cons (.var 3) (.cons (.tup (.cons (.var 2) .nil)) .nil))) (.cons (.cmp .eq (.var 7) (.tup .nil)) .nil)))) (.cons (.ret (.bl false)) .nil) .nil) .nil))))) (.cons (.ret (.and (.call 22 (.cons (.call 17 (.cons (.var 3) (.cons (.var 4) .nil))) (.cons (.cmp .eq (.var 6) (.lst .nil)) .nil))) (.cmp .eq (.blt .repr (.cons (.tup (.cons (.var 3) (.cons (.var 4) .nil))) .nil)) (.var 5)))) .nil)))))⟩
abbrev f_law : Nat := 29
def d_law : PDef := ⟨4, 1, [false], (.cons (.for (.nm 1) (.rng (.blt .max2 (.cons (.int 1) (.cons (.blt .min2 (.cons (.blt .len (.cons (.var 0) .nil)) (.cons (.int 3) .nil))) .nil)))) (.cons (.asg (.nm 2) (.call 20 (.cons (.call 19 (.cons (.var 0) (.cons (.var 1) .nil))) .nil))) (.cons (.for (.nm 3) (.rng (.int 8)) (.cons (.ite (.not (.call 28 (.cons (.var 2) .nil))) (.cons (.ret (.bl false)) .nil) .nil) .nil)) .nil))) (.cons (.ret (.bl true)) .nil))⟩
abbrev f_blanks : Nat := 30
def d_blanks : PDef := ⟨1, 1, [false], (.cons (.expr (.call 7 (.cons (.var 0) .nil))) (.cons (.ret (.call 12 (.cons (.var 0) (.cons (.bl true) .nil)))) .nil))⟩
abbrev f_l_rows : Nat := 31
def d_l_rows : PDef := ⟨10, 3, [true, false, false], (.cons (.par2 4 5 (.frz (.op .add (.int 1) (.call 21 (.cons (.var 0) (.cons (.int 3) .nil))))) (.frz (.call 21 (.cons (.var 0) (.cons (.int 4) .nil))))) (.cons (.par2 6 7 (.ix (.lst (.cons (.lst (.cons (.int 0) (.cons (.int 1) (.cons (.int 2) .nil)))) (.cons (.lst (.cons (.int 0) (.cons (.int 1) (.cons (.int 2) .nil)))) (.cons (.lst (.cons (.int 2) (.cons (.int 10) (.cons (.int 100) .nil)))) (.cons (.lst (.cons (.int 9999) (.cons (.int 30) (.cons (.int 4) .nil)))) .nil))))) (.call 21 (.cons (.var 0) (.cons (.int 4) .nil)))) (.lst .nil)) (.cons (.for (.nm 3) (.rng (.call 21 (.cons (.var 0) (.cons (.op .add (.var 2) (.int 1)) .nil)))) (.cons (.asg (.nm 8) (.lst .nil)) (.cons (.for (.nm 9) (.rng (.var 1)) (.cons (.app 8 (.ite (.cmp .lt (.call 21 (.cons (.var 0) (.cons (.int 4) .nil))) (.var 5)) .non (.ix (.var 6) (.call 21 (.cons (.var 0) (.cons (.var 4) .nil)))))) .nil)) (.cons (.app 7 (.blt .tuple (.cons (.var 8) .nil))) .nil)))) (.cons (.ret (.blt .tuple (.cons (.var 7) .nil))) .nil))))⟩
abbrev f_l_joined : Nat := 32
def d_l_joined : PDef := ⟨19, 3, [false, false, false], (.cons (.asg (.nm 3) (.lst .nil)) (.cons (.for (.nm 4) (.rng (.var 0)) (.cons (.asg (.nm 6) (.frz (.lc (.ix (.var 10) (.var 4)) (.nm 10) (.seq (.var 1)) .nil [10]))) (.cons (.app 3 (.lc (.ite (.isN (.var 15)) (.var 14) (.idx (.var 6) (.var 15))) (.t2 (.nm 14) (.nm 15)) (.enm (.var 6)) .nil [14, 15])) .nil))) (.cons (.asg (.nm 5) (.bl true)) (.cons (.whl (.var 5) (.cons (.asg (.nm 5) (.bl false)) (.cons (.for (.t2 (.nm 7) (.nm 8)) (.seq (.var 2)) (.cons (.for (.nm 9) (.rng (.blt .len (.cons (.var 1) .nil))) (.cons (.for (.nm 11) (.rng (.var 9)) (.cons (.asg (.nm 12) (.ix (.var 3) (.var 8))) (.cons (.asg (.nm 13) (.cmp .eq (.lc (.int 1) (.nm 4) (.seq (.var 7)) (.cons (.cmp .ne (.ix (.ix (.var 3) (.var 4)) (.var 11)) (.ix (.ix (.var 3) (.var 4)) (.var 9))) .nil) [4]) (.lst .nil))) (.cons (.ite (.and (.var 13) (.cmp .ne (.ix (.var 12) (.var 11)) (.ix (.var 12) (.var 9)))) (.cons (.par2 16 17 (.frz (.blt .min2 (.cons (.ix (.var 12) (.var 11)) (.cons (.ix (.var 12) (.var 9)) .nil)))) (.frz (.blt .max2 (.cons (.ix (.var 12) (.var 11)) (.cons (.ix (.var 12) (.var 9)) .nil))))) (.cons (.sti 3 (.var 8) (.lc (.ite (.cmp .eq (.var 18) (.var 17)) (.var 16) (.var 18)) (.nm 18) (.seq (.var 12)) .nil [18])) (.cons (.asg (.nm 5) (.bl true)) .nil))) .nil) .nil)))) .nil)) .nil)) .nil))) (.cons (.ret (.var 3)) .nil)))))⟩
abbrev f_l_values : Nat := 33
def d_l_values : PDef := ⟨7, 4, [false, false, false, false], (.cons (.asg (.nm 4) (.lst .nil)) (.cons (.for (.t2 (.nm 5) (.nm 6)) (.enm (.var 0)) (.cons (.ite (.and (.cmp .eq (.ix (.ix (.var 1) (.var 2)) (.var 5)) (.var 3)) (.and (.notN (.ix (.var 6) (.var 2))) (.cmp .nin (.ix (.var 6) (.var 2)) (.var 4)))) (.cons (.app 4 (.ix (.var 6) (.var 2))) .nil) .nil) .nil)) (.cons (.ret (.var 4)) .nil)))⟩
abbrev f_l_is_clash : Nat := 34
def d_l_is_clash : PDef := ⟨5, 2, [false, false], (.cons (.for (.t2 (.nm 2) (.nm 3)) (.enm (.var 1)) (.cons (.ite (.cmp .ne (.lc (.int 1) (.nm 4) (.seq (.var 3)) (.cons (.cmp .gt (.blt .len (.cons (.call 33 (.cons (.var 0) (.cons (.var 1) (.cons (.var 2) (.cons (.var 4) .nil))))) .nil)) (.int 1)) .nil) [4]) (.lst .nil)) (.cons (.ret (.bl true)) .nil) .nil) .nil)) (.cons (.ret (.bl false)) .nil))⟩
abbrev f_l_general : Nat := 35
def d_l_general : PDef := ⟨16, 3, [false, false, false], (.cons (.asg (.nm 3) (.frz (.call 32 (.cons (.var 0) (.cons (.var 1) (.cons (.var 2) .nil)))))) (.cons (.ite (.call 34 (.cons (.var 1) (.cons (.var 3) .nil))) (.cons (.ret .non) .nil) .nil) (.cons (.asg (.nm 4) (.lst .nil)) (.cons (.for (.nm 5) (.seq (.var 1)) (.cons (.ext 4 (.lc (.var 15) (.nm 15) (.seq (.var 5)) (.cons (.notN (.var 15)) .nil) [15])) .nil)) (.cons (.par3 6 7 8 (.frz (.lc (.var 13) (.nm 13) (.rng (.int 100)) (.cons (.cmp .nin (.var 13) (.var 4)) .nil) [13])) .dnew (.lst .nil)) (.cons (.for (.t2 (.nm 9) (.nm 5)) (.enm (.var 1)) (.cons (.asg (.nm 10) (.blt .list (.cons (.var 5) .nil))) (.cons (.for (.nm 11) (.rng (.var 0)) (.cons (.asg (.nm 12) (.frz (.call 33 (.cons (.var 1) (.cons (.var 3) (.cons (.var 11) (.cons (.ix (.ix (.var 3) (.var 11)) (.var 9)) .nil))))))) (.cons (.ite (.cmp .eq (.var 12) (.lst .nil)) (.cons (.asg (.nm 14) (.tup (.cons (.var 11) (.cons (.ix (.ix (.var 3) (.var 11)) (.var 9)) .nil)))) (.cons (.ite (.din true 7 (.var 14)) (.cons (.sti 7 (.var 14) (.ix (.var 6) (.dln 7))) .nil) .nil) (.cons (.asg (.nm 12) (.frz (.lst (.cons (.dget 7 (.var 14)) .nil)))) .nil))) .nil) (.cons (.sti 10 (.var 11) (.ix (.var 12) (.int 0))) .nil)))) (.cons (.app 8 (.blt .tuple (.cons (.var 10) .nil))) .nil)))) (.cons (.ret (.blt .tuple (.cons (.var 8) .nil))) .nil)))))))⟩
abbrev f_l_kind_rows : Nat := 36
def d_l_kind_rows : PDef := ⟨10, 4, [true, false, false, false], (.cons (.asg (.nm 4) (.frz (.call 31 (.cons (.var 0) (.cons (.var 1) (.cons (.var 2) .nil)))))) (.cons (.asg (.nm 5) (.frz (.call 35 (.cons (.var 1) (.cons (.var 4) (.cons (.var 3) .nil)))))) (.cons (.ite (.or (.isN (.var 5)) (.cmp .eq (.call 21 (.cons (.var 0) (.cons (.int 3) .nil))) (.int 0))) (.cons (.ret (.var 4)) .nil) .nil) (.cons (.asg (.nm 6) (.frz (.op .add (.int 1) (.call 21 (.cons (.var 0) (.cons (.int 3) .nil)))))) (.cons (.asg (.nm 7) (.lst .nil)) (.cons (.for (.nm 8) (.seq (.var 5)) (.cons (.app 7 (.blt .tuple (.cons (.lc (.ite (.cmp .lt (.call 21 (.cons (.var 0) (.cons (.int 5) .nil))) (.var 6)) .non (.var 9)) (.nm 9) (.seq (.var 8)) .nil [9]) .nil))) .nil)) (.cons (.ret (.blt .tuple (.cons (.var 7) .nil))) .nil)))))))⟩
abbrev f_l_all_hold : Nat := 37
def d_l_all_hold : PDef := ⟨8, 2, [false, false], (.cons (.for (.t2 (.nm 2) (.nm 3)) (.seq (.var 1)) (.cons (.for (.t2 (.nm 4) (.nm 5)) (.enm (.var 0)) (.cons (.for (.nm 6) (.seq (.slH (.var 0) (.var 4))) (.cons (.ite (.and (.cmp .eq (.lc (.int 1) (.nm 7) (.seq (.var 2)) (.cons (.cmp .ne (.ix (.var 5) (.var 7)) (.ix (.var 6) (.var 7))) .nil) [7]) (.lst .nil)) (.cmp .ne (.ix (.var 5) (.var 3)) (.ix (.var 6) (.var 3)))) (.cons (.ret (.bl false)) .nil) .nil) .nil)) .nil)) .nil)) (.cons (.ret (.bl true)) .nil))⟩
abbrev f_l_places : Nat := 38
def d_l_places : PDef := ⟨6, 1, [false], (.cons (.asg (.nm 1) (.lst .nil)) (.cons (.for (.t2 (.nm 2) (.nm 3)) (.enm (.var 0)) (.cons (.ext 1 (.lc (.tup (.cons (.var 2) (.cons (.var 4) .nil))) (.t2 (.nm 4) (.nm 5)) (.enm (.var 3)) (.cons (.isN (.var 5)) .nil) [4, 5])) .nil)) (.cons (.ret (.blt .tuple (.cons (.var 1) .nil))) .nil)))⟩
abbrev f_l_changed : Nat := 39
def d_l_changed : PDef := ⟨6, 2, [true, false], (.cons (.ite (.cmp .eq (.var 1) (.tup .nil)) (.cons (.ret (.var 1)) .nil) .nil) (.cons (.asg (.nm 2) (.frz (.call 21 (.cons (.var 0) (.cons (.blt .len (.cons (.var 1) .nil)) .nil))))) (.cons (.par2 4 5 (.ix (.var 1) (.var 2)) (.frz (.call 21 (.cons (.var 0) (.cons (.blt .len (.cons (.ix (.var 1) (.var 2)) .nil)) .nil))))) (.cons (.asg (.nm 3) (.frz (.op .add (.op .add (.slH (.var 4) (.var 5)) (.tup (.cons (.call 21 (.cons (.var 0) (.cons (.int 4) .nil))) .nil))) (.slL (.var 4) (.op .add (.var 5) (.int 1)))))) (.cons (.ret (.op .add (.op .add (.slH (.var 1) (.var 2)) (.tup (.cons (.var 3) .nil))) (.slL (.var 1) (.op .add (.var 2) (.int 1))))) .nil)))))⟩
abbrev f_l_full_1 : Nat := 40
def d_l_full_1 : PDef := ⟨6, 2, [true, false], (.cons (.asg (.nm 2) (.frz (.op .add (.int 1) (.call 21 (.cons (.var 0) (.cons (.int 3) .nil)))))) (.cons (.asg (.nm 3) (.frz (.lc (.blt .tuple (.cons (.lc (.call 21 (.cons (.var 0) (.cons (.var 2) .nil))) (.nm 5) (.rng (.var 1)) .nil [5]) .nil)) (.nm 4) (.rng (.call 21 (.cons (.var 0) (.cons (.int 9) .nil)))) .nil [4]))) (.cons (.ret (.blt .tuple (.cons (.var 3) .nil))) .nil)))⟩
abbrev f_law_1 : Nat := 41
def d_law_1 : PDef := ⟨13, 1, [false], (.cons (.for (.nm 1) (.rng (.blt .max2 (.cons (.int 1) (.cons (.blt .min2 (.cons (.blt .len (.cons (.var 0) .nil)) (.cons (.int 3) .nil))) .nil)))) (.cons (.asg (.nm 2) (.call 20 (.cons (.call 19 (.cons (.var 0) (.cons (.var 1) .nil))) .nil))) (.cons (.for (.nm 3) (.rng (.int 8)) (.cons (.asg (.nm 4) (.frz (.op .add (.int 1) (.call 21 (.cons (.var 2) (.cons (.int 5) .nil)))))) (.cons (.asg (.nm 5) (.frz (.call 24 (.cons (.var 2) (.cons (.var 4) (.cons (.int 4) .nil)))))) (.cons (.asg (.nm 6) (.frz (.call 36 (.cons (.var 2) (.cons (.var 4) (.cons (.int 8) (.cons (.var 5) .nil))))))) (.cons (.par2 11 12 (.frz (.blt .repr (.cons (.var 6) .nil))) (.frz (.call 38 (.cons (.var 6) .nil)))) (.cons (.asg (.nm 7) (.frz (.lst (.cons (.call 30 (.cons (.tup (.cons (.var 4) (.cons (.var 6) .nil))) .nil)) (.cons (.call 30 (.cons (.tup (.cons (.var 4) (.cons (.var 6) .nil))) .nil)) .nil))))) (.cons (.ite (.or (.not (.call 22 (.cons (.var 7) (.cons (.lst (.cons (.var 12) (.cons (.var 12) .nil))) .nil)))) (.cmp .ne (.blt .repr (.cons (.var 6) .nil)) (.var 11))) (.cons (.ret (.bl false)) .nil) .nil) (.cons (.asg (.nm 8) (.frz (.call 35 (.cons (.var 4) (.cons (.var 6) (.cons (.var 5) .nil)))))) (.cons (.asg (.nm 9) (.frz (.lst (.cons (.call 40 (.cons (.var 2) (.cons (.var 4) .nil))) .nil)))) (.cons (.ite (.notN (.var 8)) (.cons (.asg (.nm 9) (.frz (.op .add (.var 9) (.lst (.cons (.var 8) (.cons (.call 39 (.cons (.var 2) (.cons (.var 8) .nil))) .nil)))))) .nil) .nil) (.cons (.for (.nm 10) (.seq (.var 9)) (.cons (.ite (.not (.call 22 (.cons (.call 17 (.cons (.tup (.cons (.var 4) (.cons (.var 10) .nil))) (.cons (.var 5) .nil))) (.cons (.call 37 (.cons (.var 10) (.cons (.var 5) .nil))) .nil)))) (.cons (.ret (.bl false)) .nil) .nil) .nil)) .nil))))))))))) .nil))) (.cons (.ret (.bl true)) .nil))⟩
abbrev f_values_at : Nat := 42
def d_values_at : PDef := ⟨3, 2, [false, false], (.cons (.ret (.lc (.ix (.var 2) (.var 1)) (.nm 2) (.seq (.var 0)) .nil [2])) .nil)⟩
abbrev f_first_groups : Nat := 43
def d_first_groups : PDef := ⟨7, 2, [false, false], (.cons (.asg (.nm 2) (.lst .nil)) (.cons (.for (.nm 3) (.rng (.var 0)) (.cons (.asg (.nm 4) (.frz (.call 42 (.cons (.var 1) (.cons (.var 3) .nil))))) (.cons (.app 2 (.lc (.ite (.isN (.var 6)) (.var 5) (.idx (.var 4) (.var 6))) (.t2 (.nm 5) (.nm 6)) (.enm (.var 4)) .nil [5, 6])) .nil))) (.cons (.ret (.var 2)) .nil)))⟩
abbrev f_merged : Nat := 44
def d_merged : PDef := ⟨6, 3, [false, false, false], (.cons (.asg (.t2 (.nm 3) (.nm 4)) (.blt .sorted (.cons (.lst (.cons (.ix (.var 0) (.var 1)) (.cons (.ix (.var 0) (.var 2)) .nil))) .nil))) (.cons (.ret (.lc (.ite (.cmp .eq (.var 5) (.var 4)) (.var 3) (.var 5)) (.nm 5) (.seq (.var 0)) .nil [5])) .nil))⟩
abbrev f_is_possible : Nat := 45
def d_is_possible : PDef := ⟨5, 4, [false, false, false, false], (.cons (.ret (.blt .all (.cons (.lc (.cmp .eq (.ix (.ix (.var 0) (.var 4)) (.var 2)) (.ix (.ix (.var 0) (.var 4)) (.var 3))) (.nm 4) (.seq (.ix (.var 1) (.int 0))) .nil [4]) .nil))) .nil)⟩
abbrev f_next_step : Nat := 46
def d_next_step : PDef := ⟨8, 3, [false, false, false], (.cons (.for (.t2 (.nm 3) (.nm 4)) (.enm (.var 1)) (.cons (.asg (.nm 5) (.ix (.var 0) (.ix (.var 4) (.int 1)))) (.cons (.for (.nm 6) (.rng (.var 2)) (.cons (.for (.nm 7) (.rng (.var 6)) (.cons (.ite (.and (.cmp .ne (.ix (.var 5) (.var 7)) (.ix (.var 5) (.var 6))) (.call 45 (.cons (.var 0) (.cons (.var 4) (.cons (.var 7) (.cons (.var 6) .nil)))))) (.cons (.ret (.tup (.cons (.var 3) (.cons (.var 7) (.cons (.var 6) .nil))))) .nil) .nil) .nil)) .nil)) .nil))) (.cons (.ret .non) .nil))⟩
abbrev f_after_step : Nat := 47
def d_after_step : PDef := ⟨9, 3, [false, false, false], (.cons (.asg (.t3 (.nm 4) (.nm 5) (.nm 6)) (.var 2)) (.cons (.asg (.nm 3) (.ix (.ix (.var 1) (.var 4)) (.int 1))) (.cons (.ret (.lc (.ite (.cmp .eq (.var 7) (.var 3)) (.call 44 (.cons (.var 8) (.cons (.var 5) (.cons (.var 6) .nil)))) (.var 8)) (.t2 (.nm 7) (.nm 8)) (.enm (.var 0)) .nil [7, 8])) .nil)))⟩
abbrev f_close : Nat := 48
def d_close : PDef := ⟨4, 3, [false, false, false], (.cons (.asg (.nm 3) (.frz (.call 46 (.cons (.var 0) (.cons (.var 1) (.cons (.var 2) .nil)))))) (.cons (.whl (.notN (.var 3)) (.cons (.asg (.nm 0) (.frz (.call 47 (.cons (.var 0) (.cons (.var 1) (.cons (.var 3) .nil)))))) (.cons (.asg (.nm 3) (.frz (.call 46 (.cons (.var 0) (.cons (.var 1) (.cons (.var 2) .nil)))))) .nil))) (.cons (.ret (.var 0)) .nil)))⟩
abbrev f_groups_of : Nat := 49
def d_groups_of : PDef := ⟨3, 3, [false, false, false], (.cons (.ret (.call 48 (.cons (.call 43 (.cons (.var 0) (.cons (.var 1) .nil))) (.cons (.var 2) (.cons (.blt .len (.cons (.var 1) .nil)) .nil))))) .nil)⟩
abbrev f_lots_in : Nat := 50
def d_lots_in : PDef := ⟨5, 1, [false], (.cons (.asg (.nm 1) (.frz (.sset (.var 0)))) (.cons (.ret (.blt .tuple (.cons (.lc (.blt .tuple (.cons (.lc (.var 3) (.t2 (.nm 3) (.nm 4)) (.enm (.var 0)) (.cons (.cmp .eq (.var 4) (.var 2)) .nil) [3, 4]) .nil)) (.nm 2) (.seq (.var 1)) .nil [2]) .nil))) .nil))⟩
abbrev f_lots : Nat := 51
def d_lots : PDef := ⟨3, 2, [false, false], (.cons (.expr (.call 11 (.cons (.var 0) (.cons (.var 1) .nil)))) (.cons (.ret (.blt .tuple (.cons (.lc (.call 50 (.cons (.var 2) .nil)) (.nm 2) (.seq (.call 49 (.cons (.ix (.var 0) (.int 0)) (.cons (.ix (.var 0) (.int 1)) (.cons (.var 1) .nil))))) .nil [2]) .nil))) .nil))⟩
abbrev f_l_lots : Nat := 52
def d_l_lots : PDef := ⟨9, 3, [false, false, false], (.cons (.asg (.nm 3) (.lst .nil)) (.cons (.for (.nm 4) (.seq (.call 32 (.cons (.var 0) (.cons (.var 1) (.cons (.var 2) .nil))))) (.cons (.asg (.nm 5) (.frz (.lc (.var 6) (.t2 (.nm 6) (.nm 7)) (.enm (.var 4)) (.cons (.cmp .eq (.var 7) (.var 6)) .nil) [6, 7]))) (.cons (.app 3 (.blt .tuple (.cons (.lc (.blt .tuple (.cons (.lc (.var 6) (.t2 (.nm 6) (.nm 8)) (.enm (.var 4)) (.cons (.cmp .eq (.var 8) (.var 7)) .nil) [6, 8]) .nil)) (.nm 7) (.seq (.var 5)) .nil [7]) .nil))) .nil))) (.cons (.ret (.blt .tuple (.cons (.var 3) .nil))) .nil)))⟩
abbrev f_law_2 : Nat := 53
def d_law_2 : PDef := ⟨11, 1, [false], (.cons (.for (.nm 1) (.rng (.blt .max2 (.cons (.int 1) (.cons (.blt .min2 (.cons (.blt .len (.cons (.var 0) .nil)) (.cons (.int 3) .nil))) .nil)))) (.cons (.asg (.nm 2) (.call 20 (.cons (.call 19 (.cons (.var 0) (.cons (.var 1) .nil))) .nil))) (.cons (.for (.nm 3) (.rng (.int 9)) (.cons (.asg (.nm 4) (.frz (.op .add (.int 1) (.call 21 (.cons (.var 2) (.cons (.int 5) .nil)))))) (.cons (.asg (.nm 5) (.frz (.call 24 (.cons (.var 2) (.cons (.var 4) (.cons (.int 8) .nil)))))) (.cons (.asg (.nm 6) (.frz (.call 36 (.cons (.var 2) (.cons (.var 4) (.cons (.int 8) (.cons (.var 5) .nil))))))) (.cons (.par2 8 9 (.frz (.blt .repr (.cons (.var 6) .nil))) (.frz (.call 52 (.cons (.var 4) (.cons (.var 6) (.cons (.var 5) .nil)))))) (.cons (.asg (.nm 7) (.frz (.lc (.call 51 (.cons (.tup (.cons (.var 4) (.cons (.var 6) .nil))) (.cons (.var 5) .nil))) (.nm 10) (.rng (.int 2)) .nil [10]))) (.cons (.ite (.or (.not (.call 22 (.cons (.var 7) (.cons (.lst (.cons (.var 9) (.cons (.var 9) .nil))) .nil)))) (.cmp .ne (.blt .repr (.cons (.var 6) .nil)) (.var 8))) (.cons (.ret (.bl false)) .nil) .nil) .nil))))))) .nil))) (.cons (.ret (.bl true)) .nil))⟩
abbrev f_need_place : Nat := 54
def d_need_place : PDef := ⟨2, 2, [false, false], (.cons (.ite (.or (.not (.isi (.var 1) .tuple)) (.cmp .ne (.blt .len (.cons (.var 1) .nil)) (.int 2))) (.cons .raise .nil) .nil) (.cons (.ite (.or (.not (.call 1 (.cons (.ix (.var 1) (.int 0)) (.cons (.int 0) (.cons (.op .sub (.blt .len (.cons (.ix (.var 0) (.int 1)) .nil)) (.int 1)) .nil))))) (.not (.call 1 (.cons (.ix (.var 1) (.int 1)) (.cons (.int 0) (.cons (.op .sub (.ix (.var 0) (.int 0)) (.int 1)) .nil)))))) (.cons .raise .nil) .nil) .nil))⟩
abbrev f_with_cell : Nat := 55
def d_with_cell : PDef := ⟨6, 3, [false, false, false], (.cons (.asg (.t2 (.nm 4) (.nm 5)) (.var 1)) (.cons (.asg (.nm 3) (.frz (.op .add (.op .add (.slH (.ix (.var 0) (.var 4)) (.var 5)) (.tup (.cons (.var 2) .nil))) (.slL (.ix (.var 0) (.var 4)) (.op .add (.var 5) (.int 1)))))) (.cons (.ret (.op .add (.op .add (.slH (.var 0) (.var 4)) (.tup (.cons (.var 3) .nil))) (.slL (.var 0) (.op .add (.var 4) (.int 1))))) .nil)))⟩
abbrev f_values_of : Nat := 56
def d_values_of : PDef := ⟨5, 3, [false, false, false], (.cons (.ret (.sset (.lc (.var 3) (.t2 (.nm 3) (.nm 4)) (.zip (.var 0) (.var 1)) (.cons (.and (.cmp .eq (.var 4) (.var 2)) (.notN (.var 3))) .nil) [3, 4]))) .nil)⟩
abbrev f_value_in : Nat := 57
def d_value_in : PDef := ⟨5, 4, [false, false, false, false], (.cons (.asg (.nm 4) (.frz (.call 56 (.cons (.call 42 (.cons (.var 0) (.cons (.var 3) .nil))) (.cons (.ix (.var 1) (.var 3)) (.cons (.ix (.ix (.var 1) (.var 3)) (.var 2)) .nil)))))) (.cons (.ret (.ite (.cmp .ne (.var 4) (.lst .nil)) (.ix (.var 4) (.int 0)) .non)) .nil))⟩
abbrev f_is_conflict : Nat := 58
def d_is_conflict : PDef := ⟨6, 2, [false, false], (.cons (.for (.t2 (.nm 2) (.nm 3)) (.enm (.var 1)) (.cons (.asg (.nm 4) (.frz (.call 42 (.cons (.var 0) (.cons (.var 2) .nil))))) (.cons (.ite (.blt .any (.cons (.lc (.cmp .gt (.blt .len (.cons (.call 56 (.cons (.var 4) (.cons (.var 3) (.cons (.var 5) .nil)))) .nil)) (.int 1)) (.nm 5) (.seq (.var 3)) .nil [5]) .nil)) (.cons (.ret (.bl true)) .nil) .nil) .nil))) (.cons (.ret (.bl false)) .nil))⟩
abbrev f_has_filling : Nat := 59
def d_has_filling : PDef := ⟨3, 3, [false, false, false], (.cons (.ret (.not (.call 58 (.cons (.var 1) (.cons (.call 49 (.cons (.var 0) (.cons (.var 1) (.cons (.var 2) .nil)))) .nil))))) .nil)⟩
abbrev f_need_groups : Nat := 60
def d_need_groups : PDef := ⟨3, 2, [false, false], (.cons (.asg (.nm 2) (.frz (.call 49 (.cons (.ix (.var 0) (.int 0)) (.cons (.ix (.var 0) (.int 1)) (.cons (.var 1) .nil)))))) (.cons (.ite (.call 58 (.cons (.ix (.var 0) (.int 1)) (.cons (.var 2) .nil))) (.cons .raise .nil) .nil) (.cons (.ret (.var 2)) .nil)))⟩
abbrev f_may_be : Nat := 61
def d_may_be : PDef := ⟨4, 4, [false, false, false, false], (.cons (.ret (.call 59 (.cons (.ix (.var 0) (.int 0)) (.cons (.call 55 (.cons (.ix (.var 0) (.int 1)) (.cons (.var 2) (.cons (.var 3) .nil)))) (.cons (.var 1) .nil))))) .nil)⟩
abbrev f_column_values : Nat := 62
def d_column_values : PDef := ⟨3, 2, [false, false], (.cons (.ret (.sset (.lc (.var 2) (.nm 2) (.seq (.call 42 (.cons (.ix (.var 0) (.int 1)) (.cons (.var 1) .nil)))) (.cons (.notN (.var 2)) .nil) [2]))) .nil)⟩
abbrev f_choices : Nat := 63
def d_choices : PDef := ⟨7, 3, [false, false, false], (.cons (.expr (.call 11 (.cons (.var 0) (.cons (.var 1) .nil)))) (.cons (.expr (.call 54 (.cons (.var 0) (.cons (.var 2) .nil)))) (.cons (.asg (.nm 3) (.frz (.call 60 (.cons (.var 0) (.cons (.var 1) .nil))))) (.cons (.asg (.nm 4) (.frz (.call 57 (.cons (.ix (.var 0) (.int 1)) (.cons (.var 3) (.cons (.ix (.var 2) (.int 0)) (.cons (.ix (.var 2) (.int 1)) .nil))))))) (.cons (.ite (.notN (.var 4)) (.cons (.ret (.tup (.cons (.str "only") (.cons (.var 4) .nil)))) .nil) .nil) (.cons (.asg (.nm 5) (.frz (.call 62 (.cons (.var 0) (.cons (.ix (.var 2) (.int 1)) .nil))))) (.cons (.ret (.tup (.cons (.str "all but") (.cons (.blt .tuple (.cons (.lc (.var 6) (.nm 6) (.seq (.var 5)) (.cons (.not (.call 61 (.cons (.var 0) (.cons (.var 1) (.cons (.var 2) (.cons (.var 6) .nil)))))) .nil) [6]) .nil)) .nil)))) .nil)))))))⟩
abbrev f_l_has_filling : Nat := 64
def d_l_has_filling : PDef := ⟨3, 3, [false, false, false], (.cons (.ret (.not (.call 34 (.cons (.var 1) (.cons (.call 32 (.cons (.var 0) (.cons (.var 1) (.cons (.var 2) .nil)))) .nil))))) .nil)⟩
abbrev f_l_with : Nat := 65
def d_l_with : PDef := ⟨5, 4, [false, false, false, false], (.cons (.asg (.nm 4) (.frz (.op .add (.op .add (.slH (.ix (.var 0) (.var 1)) (.var 2)) (.tup (.cons (.var 3) .nil))) (.slL (.ix (.var 0) (.var 1)) (.op .add (.var 2) (.int 1)))))) (.cons (.ret (.op .add (.op .add (.slH (.var 0) (.var 1)) (.tup (.cons (.var 4) .nil))) (.slL (.var 0) (.op .add (.var 1) (.int 1))))) .nil))⟩
abbrev f_l_due : Nat := 66
def d_l_due : PDef := ⟨12, 5, [false, false, false, false, false], (.cons (.asg (.nm 5) (.frz (.call 32 (.cons (.var 0) (.cons (.var 1) (.cons (.var 2) .nil)))))) (.cons (.asg (.nm 6) (.frz (.call 33 (.cons (.var 1) (.cons (.var 5) (.cons (.var 4) (.cons (.ix (.ix (.var 5) (.var 4)) (.var 3)) .nil))))))) (.cons (.ite (.cmp .ne (.var 6) (.lst .nil)) (.cons (.ret (.tup (.cons (.str "only") (.cons (.ix (.var 6) (.int 0)) .nil)))) .nil) .nil) (.cons (.asg (.nm 7) (.lst (.cons (.int 0) (.cons (.int 1) .nil)))) (.cons (.for (.nm 8) (.seq (.var 1)) (.cons (.ext 7 (.lc (.var 11) (.nm 11) (.seq (.var 8)) (.cons (.notN (.var 11)) .nil) [11])) .nil)) (.cons (.asg (.nm 9) (.lst .nil)) (.cons (.for (.nm 10) (.seq (.sset (.var 7))) (.cons (.ite (.not (.call 64 (.cons (.var 0) (.cons (.call 65 (.cons (.var 1) (.cons (.var 3) (.cons (.var 4) (.cons (.var 10) .nil))))) (.cons (.var 2) .nil))))) (.cons (.app 9 (.var 10)) .nil) .nil) .nil)) (.cons (.ret (.tup (.cons (.str "all but") (.cons (.blt .tuple (.cons (.var 9) .nil)) .nil)))) .nil))))))))⟩
abbrev f_law_3 : Nat := 67
def d_law_3 : PDef := ⟨11, 1, [false], (.cons (.for (.nm 1) (.rng (.blt .max2 (.cons (.int 1) (.cons (.blt .min2 (.cons (.blt .len (.cons (.var 0) .nil)) (.cons (.int 3) .nil))) .nil)))) (.cons (.asg (.nm 2) (.call 20 (.cons (.call 19 (.cons (.var 0) (.cons (.var 1) .nil))) .nil))) (.cons (.for (.nm 3) (.rng (.int 3)) (.cons (.asg (.nm 6) (.frz (.op .add (.int 1) (.call 21 (.cons (.var 2) (.cons (.int 5) .nil)))))) (.cons (.asg (.nm 4) (.frz (.call 24 (.cons (.var 2) (.cons (.var 6) (.cons (.int 4) .nil)))))) (.cons (.asg (.nm 5) (.frz (.call 31 (.cons (.var 2) (.cons (.var 6) (.cons (.int 5) .nil)))))) (.cons (.ite (.call 64 (.cons (.var 6) (.cons (.var 5) (.cons (.var 4) .nil)))) (.cons (.for (.nm 8) (.rng (.blt .len (.cons (.var 5) .nil))) (.cons (.for (.nm 10) (.rng (.var 6)) (.cons (.asg (.nm 9) (.frz (.call 66 (.cons (.var 6) (.cons (.var 5) (.cons (.var 4) (.cons (.var 8) (.cons (.var 10) .nil)))))))) (.cons (.ite (.not (.call 22 (.cons (.call 63 (.cons (.tup (.cons (.var 6) (.cons (.var 5) .nil))) (.cons (.var 4) (.cons (.tup (.cons (.var 8) (.cons (.var 10) .nil))) .nil)))) (.cons (.var 9) .nil)))) (.cons (.ret (.bl false)) .nil) .nil) .nil))) .nil)) .nil) .nil) .nil))))) (.cons (.asg (.nm 4) (.frz (.call 24 (.cons (.var 2) (.cons (.int 5) (.cons (.int 8) .nil)))))) (.cons (.asg (.nm 5) (.frz (.op .add (.call 31 (.cons (.var 2) (.cons (.int 5) (.cons (.int 7) .nil)))) (.tup (.cons (.op .mul (.tup (.cons .non .nil)) (.int 5)) .nil))))) (.cons (.ite (.call 64 (.cons (.int 5) (.cons (.var 5) (.cons (.var 4) .nil)))) (.cons (.for (.nm 7) (.rng (.int 4)) (.cons (.par2 8 10 (.frz (.call 21 (.cons (.var 2) (.cons (.blt .len (.cons (.var 5) .nil)) .nil)))) (.frz (.call 21 (.cons (.var 2) (.cons (.int 5) .nil))))) (.cons (.asg (.nm 9) (.frz (.call 66 (.cons (.int 5) (.cons (.var 5) (.cons (.var 4) (.cons (.var 8) (.cons (.var 10) .nil)))))))) (.cons (.ite (.not (.call 22 (.cons (.call 63 (.cons (.tup (.cons (.int 5) (.cons (.var 5) .nil))) (.cons (.var 4) (.cons (.tup (.cons (.var 8) (.cons (.var 10) .nil))) .nil)))) (.cons (.var 9) .nil)))) (.cons (.ret (.bl false)) .nil) .nil) .nil)))) .nil) .nil) .nil)))))) (.cons (.ret (.bl true)) .nil))⟩
abbrev f_picks_of : Nat := 68
def d_picks_of : PDef := ⟨6, 2, [false, false], (.cons (.asg (.nm 2) (.frz (.lst (.cons (.tup .nil) .nil)))) (.cons (.for (.nm 3) (.rng (.var 1)) (.cons (.asg (.nm 2) (.frz (.lc2 (.tup (.star (.var 4) (.cons (.var 5) .nil))) (.nm 4) (.seq (.var 2)) .nil (.nm 5) (.seq (.var 0)) (.cons (.or (.cmp .eq (.var 4) (.tup .nil)) (.cmp .gt (.var 5) (.ix (.var 4) (.neg (.int 1))))) .nil) [4, 5]))) .nil)) (.cons (.ret (.var 2)) .nil)))⟩
abbrev f_cleared : Nat := 69
def d_cleared : PDef := ⟨3, 2, [false, false], (.cons (.for (.nm 2) (.seq (.var 1)) (.cons (.asg (.nm 0) (.frz (.call 55 (.cons (.var 0) (.cons (.var 2) (.cons .non .nil)))))) .nil)) (.cons (.ret (.var 0)) .nil))⟩
abbrev f_clearing : Nat := 70
def d_clearing : PDef := ⟨5, 3, [false, false, false], (.cons (.expr (.call 11 (.cons (.var 0) (.cons (.var 1) .nil)))) (.cons (.ite (.not (.call 1 (.cons (.var 2) (.cons (.int 0) (.cons (.glo 6) .nil))))) (.cons .raise .nil) .nil) (.cons (.for (.nm 3) (.rng (.op .add (.var 2) (.int 1))) (.cons (.for (.nm 4) (.seq (.call 68 (.cons (.call 12 (.cons (.var 0) (.cons (.bl false) .nil))) (.cons (.var 3) .nil)))) (.cons (.ite (.call 59 (.cons (.ix (.var 0) (.int 0)) (.cons (.call 69 (.cons (.ix (.var 0) (.int 1)) (.cons (.var 4) .nil))) (.cons (.var 1) .nil)))) (.cons (.ret (.var 4)) .nil) .nil) .nil)) .nil)) (.cons (.ret .non) .nil))))⟩
abbrev f_l_places_1 : Nat := 71
def d_l_places_1 : PDef := ⟨6, 1, [false], (.cons (.asg (.nm 1) (.lst .nil)) (.cons (.for (.t2 (.nm 2) (.nm 3)) (.enm (.var 0)) (.cons (.ext 1 (.lc (.tup (.cons (.var 2) (.cons (.var 4) .nil))) (.t2 (.nm 4) (.nm 5)) (.enm (.var 3)) (.cons (.notN (.var 5)) .nil) [4, 5])) .nil)) (.cons (.ret (.var 1)) .nil)))⟩
abbrev f_l_picks : Nat := 72
def d_l_picks : PDef := ⟨5, 1, [false], (.cons (.asg (.nm 1) (.op .add (.lst (.cons (.tup .nil) .nil)) (.lc (.tup (.cons (.var 3) .nil)) (.nm 3) (.seq (.var 0)) .nil [3]))) (.cons (.for (.t2 (.nm 2) (.nm 3)) (.enm (.var 0)) (.cons (.ext 1 (.lc (.tup (.cons (.var 3) (.cons (.var 4) .nil))) (.nm 4) (.seq (.slL (.var 0) (.op .add (.var 2) (.int 1)))) .nil [4])) .nil)) (.cons (.ret (.var 1)) .nil)))⟩
abbrev f_l_due_1 : Nat := 73
def d_l_due_1 : PDef := ⟨6, 3, [false, false, false], (.cons (.for (.nm 3) (.seq (.call 72 (.cons (.call 71 (.cons (.var 1) .nil)) .nil))) (.cons (.asg (.nm 4) (.var 1)) (.cons (.for (.nm 5) (.seq (.var 3)) (.cons (.asg (.nm 4) (.frz (.call 65 (.cons (.var 4) (.cons (.ix (.var 5) (.int 0)) (.cons (.ix (.var 5) (.int 1)) (.cons .non .nil))))))) .nil)) (.cons (.ite (.call 64 (.cons (.var 0) (.cons (.var 4) (.cons (.var 2) .nil)))) (.cons (.ret (.var 3)) .nil) .nil) .nil)))) (.cons (.ret .non) .nil))⟩
abbrev f_l_is_enough : Nat := 74
def d_l_is_enough : PDef := ⟨4, 4, [false, false, false, false], (.cons (.ret (.call 64 (.cons (.var 0) (.cons (.call 65 (.cons (.var 1) (.cons (.ix (.var 3) (.int 0)) (.cons (.ix (.var 3) (.int 1)) (.cons .non .nil))))) (.cons (.var 2) .nil))))) .nil)⟩
abbrev f_law_4 : Nat := 75
def d_law_4 : PDef := ⟨14, 1, [false], (.cons (.for (.nm 1) (.rng (.blt .max2 (.cons (.int 1) (.cons (.blt .min2 (.cons (.blt .len (.cons (.var 0) .nil)) (.cons (.int 2) .nil))) .nil)))) (.cons (.asg (.nm 2) (.call 20 (.cons (.call 19 (.cons (.var 0) (.cons (.var 1) .nil))) .nil))) (.cons (.for (.nm 3) (.rng (.int 4)) (.cons (.asg (.nm 6) (.frz (.op .add (.int 1) (.call 21 (.cons (.var 2) (.cons (.int 4) .nil)))))) (.cons (.asg (.nm 4) (.frz (.call 24 (.cons (.var 2) (.cons (.var 6) (.cons (.int 4) .nil)))))) (.cons (.asg (.nm 5) (.frz (.call 31 (.cons (.var 2) (.cons (.var 6) (.cons (.ix (.lst (.cons (.int 5) (.cons (.int 4) .nil))) (.op .mod (.var 3) (.int 2))) .nil)))))) (.cons (.par2 9 11 (.frz (.call 73 (.cons (.var 6) (.cons (.var 5) (.cons (.var 4) .nil))))) (.frz (.blt .repr (.cons (.var 5) .nil)))) (.cons (.asg (.nm 7) (.frz (.lc (.ite (.and (.notN (.var 9)) (.cmp .le (.blt .len (.cons (.var 9) .nil)) (.var 12))) (.var 9) .non) (.nm 12) (.rng (.int 3)) .nil [12]))) (.cons (.asg (.nm 8) (.frz (.lc (.call 70 (.cons (.tup (.cons (.var 6) (.cons (.var 5) .nil))) (.cons (.var 4) (.cons (.var 12) .nil)))) (.nm 12) (.rng (.int 3)) .nil [12]))) (.cons (.ite (.or (.not (.call 22 (.cons (.var 8) (.cons (.var 7) .nil)))) (.cmp .ne (.blt .repr (.cons (.var 5) .nil)) (.var 11))) (.cons (.ret (.bl false)) .nil) .nil) .nil)))))))) (.cons (.asg (.nm 4) (.frz (.call 24 (.cons (.var 2) (.cons (.int 5) (.cons (.int 8) .nil)))))) (.cons (.asg (.nm 5) (.frz (.call 31 (.cons (.var 2) (.cons (.int 5) (.cons (.int 8) .nil)))))) (.cons (.ite (.call 64 (.cons (.int 5) (.cons (.var 5) (.cons (.var 4) .nil)))) (.cons (.asg (.nm 9) (.tup .nil)) .nil) (.cons (.asg (.nm 10) (.frz (.lc (.var 13) (.nm 13) (.seq (.call 71 (.cons (.var 5) .nil))) (.cons (.call 74 (.cons (.int 5) (.cons (.var 5) (.cons (.var 4) (.cons (.var 13) .nil))))) .nil) [13]))) (.cons (.asg (.nm 9) (.frz (.ite (.cmp .ne (.var 10) (.lst .nil)) (.tup (.cons (.ix (.var 10) (.int 0)) .nil)) .non))) .nil))) (.cons (.ite (.not (.call 22 (.cons (.call 70 (.cons (.tup (.cons (.int 5) (.cons (.var 5) .nil))) (.cons (.var 4) (.cons (.int 1) .nil)))) (.cons (.var 9) .nil)))) (.cons (.ret (.bl false)) .nil) .nil) .nil))))))) (.cons (.ret (.bl true)) .nil))⟩
abbrev f_may_meet : Nat := 76
def d_may_meet : PDef := ⟨8, 5, [false, false, false, false, false], (.cons (.asg (.nm 5) (.frz (.lc (.ite (.cmp .eq (.var 6) (.ix (.var 3) (.int 1))) (.call 44 (.cons (.var 7) (.cons (.ix (.var 3) (.int 0)) (.cons (.ix (.var 4) (.int 0)) .nil)))) (.var 7)) (.t2 (.nm 6) (.nm 7)) (.enm (.var 2)) .nil [6, 7]))) (.cons (.ret (.not (.call 58 (.cons (.ix (.var 0) (.int 1)) (.cons (.call 48 (.cons (.var 5) (.cons (.var 1) (.cons (.blt .len (.cons (.ix (.var 0) (.int 1)) .nil)) .nil)))) .nil))))) .nil))⟩
abbrev f_are_able : Nat := 77
def d_are_able : PDef := ⟨7, 5, [false, false, false, false, false], (.cons (.asg (.nm 5) (.frz (.call 57 (.cons (.ix (.var 0) (.int 1)) (.cons (.var 2) (.cons (.ix (.var 3) (.int 0)) (.cons (.ix (.var 3) (.int 1)) .nil))))))) (.cons (.asg (.nm 6) (.frz (.call 57 (.cons (.ix (.var 0) (.int 1)) (.cons (.var 2) (.cons (.ix (.var 4) (.int 0)) (.cons (.ix (.var 4) (.int 1)) .nil))))))) (.cons (.ite (.and (.isN (.var 5)) (.isN (.var 6))) (.cons (.ret (.bl true)) .nil) .nil) (.cons (.ite (.isN (.var 5)) (.cons (.ret (.call 61 (.cons (.var 0) (.cons (.var 1) (.cons (.var 3) (.cons (.var 6) .nil)))))) .nil) .nil) (.cons (.ret (.ite (.isN (.var 6)) (.call 61 (.cons (.var 0) (.cons (.var 1) (.cons (.var 4) (.cons (.var 5) .nil))))) (.cmp .eq (.var 5) (.var 6)))) .nil)))))⟩
abbrev f_are_joined : Nat := 78
def d_are_joined : PDef := ⟨5, 4, [false, false, false, false], (.cons (.ite (.cmp .eq (.ix (.var 2) (.int 1)) (.ix (.var 3) (.int 1))) (.cons (.ret (.cmp .eq (.ix (.ix (.var 1) (.ix (.var 2) (.int 1))) (.ix (.var 2) (.int 0))) (.ix (.ix (.var 1) (.ix (.var 3) (.int 1))) (.ix (.var 3) (.int 0))))) .nil) .nil) (.cons (.asg (.nm 4) (.frz (.call 57 (.cons (.ix (.var 0) (.int 1)) (.cons (.var 1) (.cons (.ix (.var 2) (.int 0)) (.cons (.ix (.var 2) (.int 1)) .nil))))))) (.cons (.ret (.and (.notN (.var 4)) (.cmp .eq (.var 4) (.call 57 (.cons (.ix (.var 0) (.int 1)) (.cons (.var 1) (.cons (.ix (.var 3) (.int 0)) (.cons (.ix (.var 3) (.int 1)) .nil)))))))) .nil)))⟩
abbrev f_relation : Nat := 79
def d_relation : PDef := ⟨6, 4, [false, false, false, false], (.cons (.expr (.call 11 (.cons (.var 0) (.cons (.var 1) .nil)))) (.cons (.expr (.call 54 (.cons (.var 0) (.cons (.var 2) .nil)))) (.cons (.expr (.call 54 (.cons (.var 0) (.cons (.var 3) .nil)))) (.cons (.asg (.nm 4) (.frz (.call 60 (.cons (.var 0) (.cons (.var 1) .nil))))) (.cons (.ite (.call 78 (.cons (.var 0) (.cons (.var 4) (.cons (.var 2) (.cons (.var 3) .nil))))) (.cons (.ret (.str "always")) .nil) .nil) (.cons (.ite (.cmp .eq (.ix (.var 2) (.int 1)) (.ix (.var 3) (.int 1))) (.cons (.asg (.nm 5) (.frz (.call 76 (.cons (.var 0) (.cons (.var 1) (.cons (.var 4) (.cons (.var 2) (.cons (.var 3) .nil)))))))) .nil) (.cons (.asg (.nm 5) (.frz (.call 77 (.cons (.var 0) (.cons (.var 1) (.cons (.var 4) (.cons (.var 2) (.cons (.var 3) .nil)))))))) .nil)) (.cons (.ret (.ite (.var 5) (.str "sometimes") (.str "never"))) .nil)))))))⟩
abbrev f_l_value : Nat := 80
def d_l_value : PDef := ⟨4, 3, [false, false, false], (.cons (.asg (.nm 3) (.frz (.call 33 (.cons (.var 0) (.cons (.var 1) (.cons (.ix (.var 2) (.int 1)) (.cons (.ix (.ix (.var 1) (.ix (.var 2) (.int 1))) (.ix (.var 2) (.int 0))) .nil))))))) (.cons (.ret (.ite (.cmp .ne (.var 3) (.lst .nil)) (.ix (.var 3) (.int 0)) .non)) .nil))⟩
abbrev f_l_meets : Nat := 81
def d_l_meets : PDef := ⟨13, 5, [false, false, false, false, false], (.cons (.asg (.nm 5) (.frz (.call 32 (.cons (.var 0) (.cons (.var 1) (.cons (.var 2) .nil)))))) (.cons (.par2 9 10 (.frz (.call 80 (.cons (.var 1) (.cons (.var 5) (.cons (.var 3) .nil))))) (.frz (.call 80 (.cons (.var 1) (.cons (.var 5) (.cons (.var 4) .nil)))))) (.cons (.ite (.and (.notN (.var 9)) (.notN (.var 10))) (.cons (.ret (.cmp .eq (.var 9) (.var 10))) .nil) .nil) (.cons (.asg (.nm 6) (.frz (.ite (.notN (.var 9)) (.var 9) (.var 10)))) (.cons (.asg (.nm 7) (.frz (.lst (.cons (.var 6) .nil)))) (.cons (.ite (.isN (.var 6)) (.cons (.asg (.nm 7) (.frz (.op .add (.lst (.cons (.int 5000) .nil)) (.lc (.ix (.var 12) (.ix (.var 3) (.int 1))) (.nm 12) (.seq (.var 1)) (.cons (.notN (.ix (.var 12) (.ix (.var 3) (.int 1)))) .nil) [12])))) .nil) .nil) (.cons (.for (.nm 8) (.seq (.var 7)) (.cons (.asg (.nm 11) (.frz (.call 65 (.cons (.call 65 (.cons (.var 1) (.cons (.ix (.var 3) (.int 0)) (.cons (.ix (.var 3) (.int 1)) (.cons (.var 8) .nil))))) (.cons (.ix (.var 4) (.int 0)) (.cons (.ix (.var 4) (.int 1)) (.cons (.var 8) .nil))))))) (.cons (.ite (.call 64 (.cons (.var 0) (.cons (.var 11) (.cons (.var 2) .nil)))) (.cons (.ret (.bl true)) .nil) .nil) .nil))) (.cons (.ret (.bl false)) .nil))))))))⟩
abbrev f_l_due_2 : Nat := 82
def d_l_due_2 : PDef := ⟨8, 6, [false, false, false, false, false, false], (.cons (.ite (.and (.cmp .eq (.ix (.var 4) (.int 1)) (.ix (.var 5) (.int 1))) (.cmp .eq (.ix (.ix (.var 3) (.ix (.var 4) (.int 1))) (.ix (.var 4) (.int 0))) (.ix (.ix (.var 3) (.ix (.var 5) (.int 1))) (.ix (.var 5) (.int 0))))) (.cons (.ret (.str "always")) .nil) .nil) (.cons (.par2 6 7 (.frz (.call 80 (.cons (.var 1) (.cons (.var 3) (.cons (.var 4) .nil))))) (.frz (.call 80 (.cons (.var 1) (.cons (.var 3) (.cons (.var 5) .nil)))))) (.cons (.ite (.and (.notN (.var 6)) (.cmp .eq (.var 6) (.var 7))) (.cons (.ret (.str "always")) .nil) .nil) (.cons (.ret (.ite (.call 81 (.cons (.var 0) (.cons (.var 1) (.cons (.var 2) (.cons (.var 4) (.cons (.var 5) .nil)))))) (.str "sometimes") (.str "never"))) .nil))))⟩
abbrev f_l_are_right : Nat := 83
def d_l_are_right : PDef := ⟨13, 4, [true, false, false, false], (.cons (.asg (.nm 4) (.frz (.call 32 (.cons (.var 1) (.cons (.var 2) (.cons (.var 3) .nil)))))) (.cons (.asg (.nm 5) (.lst .nil)) (.cons (.for (.nm 6) (.rng (.blt .len (.cons (.var 2) .nil))) (.cons (.ext 5 (.lc (.tup (.cons (.var 6) (.cons (.var 12) .nil))) (.nm 12) (.rng (.var 1)) .nil [12])) .nil)) (.cons (.for (.nm 7) (.seq (.lc (.ix (.var 5) (.call 21 (.cons (.var 0) (.cons (.blt .len (.cons (.var 5) .nil)) .nil)))) (.nm 9) (.rng (.blt .min2 (.cons (.int 20) (.cons (.blt .len (.cons (.var 5) .nil)) .nil)))) .nil [9])) (.cons (.for (.nm 8) (.seq (.op .add (.lst (.cons (.var 7) .nil)) (.lc (.ix (.var 5) (.call 21 (.cons (.var 0) (.cons (.blt .len (.cons (.var 5) .nil)) .nil)))) (.nm 9) (.rng (.int 3)) .nil [9]))) (.cons (.asg (.nm 10) (.frz (.call 82 (.cons (.var 1) (.cons (.var 2) (.cons (.var 3) (.cons (.var 4) (.cons (.var 7) (.cons (.var 8) .nil))))))))) (.cons (.asg (.nm 11) (.frz (.lst (.cons (.call 79 (.cons (.tup (.cons (.var 1) (.cons (.var 2) .nil))) (.cons (.var 3) (.cons (.var 7) (.cons (.var 8) .nil))))) (.cons (.call 79 (.cons (.tup (.cons (.var 1) (.cons (.var 2) .nil))) (.cons (.var 3) (.cons (.var 8) (.cons (.var 7) .nil))))) .nil))))) (.cons (.ite (.not (.call 22 (.cons (.var 11) (.cons (.lst (.cons (.var 10) (.cons (.var 10) .nil))) .nil)))) (.cons (.ret (.bl false)) .nil) .nil) .nil)))) .nil)) (.cons (.ret (.bl true)) .nil)))))⟩
abbrev f_law_5 : Nat := 84
def d_law_5 : PDef := ⟨7, 1, [false], (.cons (.for (.nm 1) (.rng (.blt .max2 (.cons (.int 1) (.cons (.blt .min2 (.cons (.blt .len (.cons (.var 0) .nil)) (.cons (.int 2) .nil))) .nil)))) (.cons (.asg (.nm 2) (.call 20 (.cons (.call 19 (.cons (.var 0) (.cons (.var 1) .nil))) .nil))) (.cons (.for (.nm 3) (.rng (.int 3)) (.cons (.asg (.nm 6) (.frz (.op .add (.int 1) (.call 21 (.cons (.var 2) (.cons (.int 4) .nil)))))) (.cons (.asg (.nm 4) (.frz (.call 24 (.cons (.var 2) (.cons (.var 6) (.cons (.int 4) .nil)))))) (.cons (.asg (.nm 5) (.frz (.call 36 (.cons (.var 2) (.cons (.var 6) (.cons (.int 5) (.cons (.var 4) .nil))))))) (.cons (.ite (.and (.call 64 (.cons (.var 6) (.cons (.var 5) (.cons (.var 4) .nil)))) (.not (.call 83 (.cons (.var 2) (.cons (.var 6) (.cons (.var 5) (.cons (.var 4) .nil))))))) (.cons (.ret (.bl false)) .nil) .nil) .nil))))) (.cons (.asg (.nm 4) (.frz (.call 24 (.cons (.var 2) (.cons (.int 5) (.cons (.int 8) .nil)))))) (.cons (.asg (.nm 5) (.frz (.slH (.call 36 (.cons (.var 2) (.cons (.int 5) (.cons (.int 8) (.cons (.var 4) .nil))))) (.int 8)))) (.cons (.ite (.and (.call 64 (.cons (.int 5) (.cons (.var 5) (.cons (.var 4) .nil)))) (.not (.call 83 (.cons (.var 2) (.cons (.int 5) (.cons (.var 5) (.cons (.var 4) .nil))))))) (.cons (.ret (.bl false)) .nil) .nil) .nil)))))) (.cons (.ret (.bl true)) .nil))⟩
abbrev f_may_have : Nat := 85
def d_may_have : PDef := ⟨6, 5, [false, false, false, false, false], (.cons (.asg (.nm 5) (.frz (.call 57 (.cons (.ix (.var 0) (.int 1)) (.cons (.var 2) (.cons (.ix (.var 3) (.int 0)) (.cons (.ix (.var 3) (.int 1)) .nil))))))) (.cons (.ret (.ite (.isN (.var 5)) (.call 61 (.cons (.var 0) (.cons (.var 1) (.cons (.var 3) (.cons (.var 4) .nil))))) (.cmp .eq (.var 5) (.var 4)))) .nil))⟩
abbrev f_may_have_both : Nat := 86
def d_may_have_both : PDef := ⟨5, 5, [false, false, false, false, false], (.cons (.ite (.cmp .eq (.var 2) (.var 3)) (.cons (.ret (.cmp .eq (.ix (.var 4) (.int 0)) (.ix (.var 4) (.int 1)))) .nil) .nil) (.cons (.ret (.call 59 (.cons (.ix (.var 0) (.int 0)) (.cons (.call 55 (.cons (.call 55 (.cons (.ix (.var 0) (.int 1)) (.cons (.var 2) (.cons (.ix (.var 4) (.int 0)) .nil)))) (.cons (.var 3) (.cons (.ix (.var 4) (.int 1)) .nil)))) (.cons (.var 1) .nil))))) .nil))⟩
abbrev f_together : Nat := 87
def d_together : PDef := ⟨10, 4, [false, false, false, false], (.cons (.expr (.call 11 (.cons (.var 0) (.cons (.var 1) .nil)))) (.cons (.expr (.call 54 (.cons (.var 0) (.cons (.var 2) .nil)))) (.cons (.expr (.call 54 (.cons (.var 0) (.cons (.var 3) .nil)))) (.cons (.par2 7 8 (.frz (.call 60 (.cons (.var 0) (.cons (.var 1) .nil)))) (.lst .nil)) (.cons (.asg (.nm 4) (.frz (.lc (.var 6) (.nm 6) (.seq (.call 62 (.cons (.var 0) (.cons (.ix (.var 2) (.int 1)) .nil)))) (.cons (.call 85 (.cons (.var 0) (.cons (.var 1) (.cons (.var 7) (.cons (.var 2) (.cons (.var 6) .nil)))))) .nil) [6]))) (.cons (.asg (.nm 5) (.frz (.lc (.var 6) (.nm 6) (.seq (.call 62 (.cons (.var 0) (.cons (.ix (.var 3) (.int 1)) .nil)))) (.cons (.call 85 (.cons (.var 0) (.cons (.var 1) (.cons (.var 7) (.cons (.var 3) (.cons (.var 6) .nil)))))) .nil) [6]))) (.cons (.for (.nm 6) (.seq (.var 4)) (.cons (.ext 8 (.lc (.tup (.cons (.var 6) (.cons (.var 9) .nil))) (.nm 9) (.seq (.var 5)) (.cons (.not (.call 86 (.cons (.var 0) (.cons (.var 1) (.cons (.var 2) (.cons (.var 3) (.cons (.tup (.cons (.var 6) (.cons (.var 9) .nil))) .nil))))))) .nil) [9])) .nil)) (.cons (.ret (.blt .tuple (.cons (.var 8) .nil))) .nil))))))))⟩
abbrev f_l_can : Nat := 88
def d_l_can : PDef := ⟨7, 4, [false, false, false, false], (.cons (.for (.t3 (.nm 4) (.nm 5) (.nm 6)) (.seq (.var 3)) (.cons (.ite (.and (.notN (.ix (.ix (.var 1) (.var 4)) (.var 5))) (.cmp .ne (.ix (.ix (.var 1) (.var 4)) (.var 5)) (.var 6))) (.cons (.ret (.bl false)) .nil) .nil) (.cons (.asg (.nm 1) (.frz (.call 65 (.cons (.var 1) (.cons (.var 4) (.cons (.var 5) (.cons (.var 6) .nil))))))) .nil))) (.cons (.ret (.call 64 (.cons (.var 0) (.cons (.var 1) (.cons (.var 2) .nil))))) .nil))⟩
abbrev f_l_own : Nat := 89
def d_l_own : PDef := ⟨9, 4, [false, false, false, false], (.cons (.asg (.t2 (.nm 5) (.nm 6)) (.var 3)) (.cons (.asg (.nm 4) (.frz (.sset (.lc (.ix (.var 8) (.var 6)) (.nm 8) (.seq (.var 1)) (.cons (.notN (.ix (.var 8) (.var 6))) .nil) [8])))) (.cons (.ret (.lc (.var 7) (.nm 7) (.seq (.var 4)) (.cons (.call 88 (.cons (.var 0) (.cons (.var 1) (.cons (.var 2) (.cons (.lst (.cons (.tup (.cons (.var 5) (.cons (.var 6) (.cons (.var 7) .nil)))) .nil)) .nil))))) .nil) [7])) .nil)))⟩
abbrev f_l_due_3 : Nat := 90
def d_l_due_3 : PDef := ⟨9, 5, [false, false, false, false, false], (.cons (.asg (.nm 5) (.lst .nil)) (.cons (.asg (.nm 6) (.frz (.call 89 (.cons (.var 0) (.cons (.var 1) (.cons (.var 2) (.cons (.var 4) .nil))))))) (.cons (.for (.nm 7) (.seq (.call 89 (.cons (.var 0) (.cons (.var 1) (.cons (.var 2) (.cons (.var 3) .nil)))))) (.cons (.for (.nm 8) (.seq (.var 6)) (.cons (.ite (.not (.call 88 (.cons (.var 0) (.cons (.var 1) (.cons (.var 2) (.cons (.lst (.cons (.op .add (.var 3) (.tup (.cons (.var 7) .nil))) (.cons (.op .add (.var 4) (.tup (.cons (.var 8) .nil))) .nil))) .nil)))))) (.cons (.app 5 (.tup (.cons (.var 7) (.cons (.var 8) .nil)))) .nil) .nil) .nil)) .nil)) (.cons (.ret (.blt .tuple (.cons (.var 5) .nil))) .nil))))⟩
abbrev f_l_are_right_1 : Nat := 91
def d_l_are_right_1 : PDef := ⟨15, 5, [true, false, false, false, false], (.cons (.par2 6 7 (.frz (.blt .repr (.cons (.var 2) .nil))) (.tup (.cons (.var 1) (.cons (.var 2) .nil)))) (.cons (.for (.nm 5) (.rng (.ite (.cmp .ne (.var 2) (.tup .nil)) (.var 4) (.int 0))) (.cons (.asg (.nm 8) (.tup (.cons (.call 21 (.cons (.var 0) (.cons (.blt .len (.cons (.var 2) .nil)) .nil))) (.cons (.call 21 (.cons (.var 0) (.cons (.var 1) .nil))) .nil)))) (.cons (.asg (.nm 9) (.tup (.cons (.call 21 (.cons (.var 0) (.cons (.blt .len (.cons (.var 2) .nil)) .nil))) (.cons (.call 21 (.cons (.var 0) (.cons (.var 1) .nil))) .nil)))) (.cons (.ite (.cmp .eq (.var 5) (.int 0)) (.cons (.asg (.nm 9) (.var 8)) .nil) .nil) (.cons (.ite (.cmp .eq (.var 5) (.int 1)) (.cons (.asg (.nm 9) (.tup (.cons (.ix (.var 9) (.int 0)) (.cons (.ix (.var 8) (.int 1)) .nil)))) .nil) .nil) (.cons (.asg (.nm 10) (.frz (.call 90 (.cons (.var 1) (.cons (.var 2) (.cons (.var 3) (.cons (.var 8) (.cons (.var 9) .nil)))))))) (.cons (.asg (.nm 11) (.frz (.blt .tuple (.cons (.blt .sorted (.cons (.lc (.tup (.cons (.var 14) (.cons (.var 13) .nil))) (.t2 (.nm 13) (.nm 14)) (.seq (.var 10)) .nil [13, 14]) .nil)) .nil)))) (.cons (.asg (.nm 12) (.frz (.lst (.cons (.call 87 (.cons (.var 7) (.cons (.var 3) (.cons (.var 8) (.cons (.var 9) .nil))))) (.cons (.call 87 (.cons (.var 7) (.cons (.var 3) (.cons (.var 8) (.cons (.var 9) .nil))))) .nil))))) (.cons (.ite (.not (.call 22 (.cons (.op .add (.var 12) (.lst (.cons (.call 87 (.cons (.var 7) (.cons (.var 3) (.cons (.var 9) (.cons (.var 8) .nil))))) .nil))) (.cons (.lst (.cons (.var 10) (.cons (.var 10) (.cons (.var 11) .nil)))) .nil)))) (.cons (.ret (.bl false)) .nil) .nil) .nil))))))))) (.cons (.ret (.cmp .eq (.blt .repr (.cons (.var 2) .nil)) (.var 6))) .nil)))⟩
abbrev f_law_6 : Nat := 92
def d_law_6 : PDef := ⟨7, 1, [false], (.cons (.for (.nm 1) (.rng (.blt .max2 (.cons (.int 1) (.cons (.blt .min2 (.cons (.blt .len (.cons (.var 0) .nil)) (.cons (.int 2) .nil))) .nil)))) (.cons (.asg (.nm 2) (.call 20 (.cons (.call 19 (.cons (.var 0) (.cons (.var 1) .nil))) .nil))) (.cons (.for (.nm 3) (.rng (.int 4)) (.cons (.asg (.nm 6) (.frz (.op .add (.int 1) (.call 21 (.cons (.var 2) (.cons (.int 4) .nil)))))) (.cons (.asg (.nm 4) (.frz (.call 24 (.cons (.var 2) (.cons (.var 6) (.cons (.int 4) .nil)))))) (.cons (.asg (.nm 5) (.frz (.call 36 (.cons (.var 2) (.cons (.var 6) (.cons (.int 5) (.cons (.var 4) .nil))))))) (.cons (.ite (.and (.call 64 (.cons (.var 6) (.cons (.var 5) (.cons (.var 4) .nil)))) (.not (.call 91 (.cons (.var 2) (.cons (.var 6) (.cons (.var 5) (.cons (.var 4) (.cons (.int 8) .nil)))))))) (.cons (.ret (.bl false)) .nil) .nil) .nil))))) (.cons (.asg (.nm 4) (.frz (.call 24 (.cons (.var 2) (.cons (.int 5) (.cons (.int 6) .nil)))))) (.cons (.asg (.nm 5) (.frz (.slH (.call 36 (.cons (.var 2) (.cons (.int 5) (.cons (.int 8) (.cons (.var 4) .nil))))) (.int 8)))) (.cons (.ite (.and (.call 64 (.cons (.int 5) (.cons (.var 5) (.cons (.var 4) .nil)))) (.not (.call 91 (.cons (.var 2) (.cons (.int 5) (.cons (.var 5) (.cons (.var 4) (.cons (.int 4) .nil)))))))) (.cons (.ret (.bl false)) .nil) .nil) .nil)))))) (.cons (.ret (.bl true)) .nil))⟩
abbrev f_conflict_steps : Nat := 93
def d_conflict_steps : PDef := ⟨6, 3, [false, false, false], (.cons (.par2 4 5 (.frz (.call 43 (.cons (.var 0) (.cons (.var 1) .nil)))) (.lst .nil)) (.cons (.asg (.nm 3) (.frz (.call 46 (.cons (.var 4) (.cons (.var 2) (.cons (.blt .len (.cons (.var 1) .nil)) .nil)))))) (.cons (.whl (.notN (.var 3)) (.cons (.asg (.nm 4) (.frz (.call 47 (.cons (.var 4) (.cons (.var 2) (.cons (.var 3) .nil)))))) (.cons (.app 5 (.var 3)) (.cons (.ite (.call 58 (.cons (.var 1) (.cons (.var 4) .nil))) (.cons (.ret (.blt .tuple (.cons (.var 5) .nil))) .nil) .nil) (.cons (.asg (.nm 3) (.frz (.call 46 (.cons (.var 4) (.cons (.var 2) (.cons (.blt .len (.cons (.var 1) .nil)) .nil)))))) .nil))))) (.cons (.ret .non) .nil))))⟩
abbrev f_general_rows : Nat := 94
def d_general_rows : PDef := ⟨14, 4, [false, false, false, false], (.cons (.asg (.nm 4) (.frz (.call 49 (.cons (.var 0) (.cons (.var 1) (.cons (.var 2) .nil)))))) (.cons (.ite (.call 58 (.cons (.var 1) (.cons (.var 4) .nil))) (.cons (.ret .non) .nil) .nil) (.cons (.asg (.nm 5) (.frz (.lst (.star (.var 3) (.star (.lc2 (.var 13) (.nm 11) (.seq (.var 1)) .nil (.nm 13) (.seq (.var 11)) (.cons (.notN (.var 13)) .nil) [11, 13]) .nil))))) (.cons (.asg (.nm 6) (.frz (.lc (.var 10) (.nm 10) (.rng (.op .add (.blt .len (.cons (.var 5) .nil)) (.op .mul (.var 0) (.blt .len (.cons (.var 1) .nil))))) (.cons (.cmp .nin (.var 10) (.var 5)) .nil) [10]))) (.cons (.par2 8 9 (.var 1) .dnew) (.cons (.for (.nm 7) (.seq (.call 12 (.cons (.tup (.cons (.var 0) (.cons (.var 1) .nil))) (.cons (.bl true) .nil)))) (.cons (.asg (.t2 (.nm 11) (.nm 12)) (.var 7)) (.cons (.asg (.nm 10) (.frz (.call 57 (.cons (.var 1) (.cons (.var 4) (.cons (.var 11) (.cons (.var 12) .nil))))))) (.cons (.ite (.isN (.var 10)) (.cons (.asg (.nm 10) (.frz (.dsd 9 (.tup (.cons (.var 12) (.cons (.ix (.ix (.var 4) (.var 12)) (.var 11)) .nil))) (.ix (.var 6) (.dln 9))))) .nil) .nil) (.cons (.asg (.nm 8) (.frz (.call 55 (.cons (.var 8) (.cons (.var 7) (.cons (.var 10) .nil)))))) .nil))))) (.cons (.ret (.var 8)) .nil)))))))⟩
abbrev f_verdict : Nat := 95
def d_verdict : PDef := ⟨3, 2, [false, false], (.cons (.expr (.call 11 (.cons (.var 0) (.cons (.var 1) .nil)))) (.cons (.asg (.nm 2) (.frz (.call 93 (.cons (.ix (.var 0) (.int 0)) (.cons (.ix (.var 0) (.int 1)) (.cons (.var 1) .nil)))))) (.cons (.ite (.notN (.var 2)) (.cons (.ret (.tup (.cons (.glo 8) (.cons (.var 2) .nil)))) .nil) .nil) (.cons (.ret (.tup (.cons (.glo 7) (.cons (.tup (.cons (.ix (.var 0) (.int 0)) (.cons (.calld 94 (.cons (.ix (.var 0) (.int 0)) (.cons (.ix (.var 0) (.int 1)) (.cons (.var 1) .nil)))) .nil))) .nil)))) .nil))))⟩
abbrev f_l_is_number : Nat := 96
def d_l_is_number : PDef := ⟨3, 3, [false, false, false], (.cons (.ret (.and (.isi (.var 0) .int) (.and (.not (.isi (.var 0) .bool)) (.cmp2 .le .le (.var 1) (.var 0) (.var 2))))) .nil)⟩
abbrev f_l_is_step : Nat := 97
def d_l_is_step : PDef := ⟨3, 3, [false, false, false], (.cons (.ite (.or (.not (.isi (.var 2) .tuple)) (.cmp .ne (.blt .len (.cons (.var 2) .nil)) (.int 3))) (.cons (.ret (.bl false)) .nil) .nil) (.cons (.ite (.or (.not (.call 96 (.cons (.ix (.var 2) (.int 0)) (.cons (.int 0) (.cons (.op .sub (.blt .len (.cons (.var 1) .nil)) (.int 1)) .nil))))) (.not (.call 96 (.cons (.ix (.var 2) (.int 1)) (.cons (.int 0) (.cons (.op .sub (.blt .len (.cons (.var 0) .nil)) (.int 1)) .nil)))))) (.cons (.ret (.bl false)) .nil) .nil) (.cons (.ret (.and (.call 96 (.cons (.ix (.var 2) (.int 2)) (.cons (.int 0) (.cons (.op .sub (.blt .len (.cons (.var 0) .nil)) (.int 1)) .nil)))) (.cmp .lt (.ix (.var 2) (.int 1)) (.ix (.var 2) (.int 2))))) .nil)))⟩
abbrev f_l_walked : Nat := 98
def d_l_walked : PDef := ⟨13, 4, [false, false, false, false], (.cons (.ite (.not (.isi (.var 3) .tuple)) (.cons (.ret .non) .nil) .nil) (.cons (.asg (.nm 4) (.call 32 (.cons (.var 0) (.cons (.var 1) (.cons (.tup .nil) .nil))))) (.cons (.for (.nm 5) (.seq (.var 3)) (.cons (.ite (.not (.call 97 (.cons (.var 1) (.cons (.var 2) (.cons (.var 5) .nil))))) (.cons (.ret .non) .nil) .nil) (.cons (.asg (.t2 (.nm 7) (.nm 8)) (.ix (.var 2) (.ix (.var 5) (.int 0)))) (.cons (.ite (.cmp .ne (.lc (.int 1) (.nm 12) (.seq (.var 7)) (.cons (.cmp .ne (.ix (.ix (.var 4) (.var 12)) (.ix (.var 5) (.int 1))) (.ix (.ix (.var 4) (.var 12)) (.ix (.var 5) (.int 2)))) .nil) [12]) (.lst .nil)) (.cons (.ret .non) .nil) .nil) (.cons (.asg (.nm 6) (.ix (.var 4) (.var 8))) (.cons (.asg (.t2 (.nm 9) (.nm 10)) (.blt .sorted (.cons (.lst (.cons (.ix (.var 6) (.ix (.var 5) (.int 1))) (.cons (.ix (.var 6) (.ix (.var 5) (.int 2))) .nil))) .nil))) (.cons (.sti 4 (.var 8) (.lc (.ite (.cmp .eq (.var 11) (.var 10)) (.var 9) (.var 11)) (.nm 11) (.seq (.var 6)) .nil [11])) .nil))))))) (.cons (.ret (.var 4)) .nil))))⟩
abbrev f_l_is_right : Nat := 99
def d_l_is_right : PDef := ⟨6, 4, [false, false, false, false], (.cons (.asg (.nm 4) (.frz (.call 35 (.cons (.var 0) (.cons (.var 1) (.cons (.var 2) .nil)))))) (.cons (.ite (.notN (.var 4)) (.cons (.ret (.call 22 (.cons (.var 3) (.cons (.tup (.cons (.str "filling") (.cons (.tup (.cons (.var 0) (.cons (.var 4) .nil))) .nil))) .nil)))) .nil) .nil) (.cons (.ite (.or (.not (.isi (.var 3) .tuple)) (.or (.cmp .ne (.blt .len (.cons (.var 3) .nil)) (.int 2)) (.cmp .ne (.ix (.var 3) (.int 0)) (.str "conflict")))) (.cons (.ret (.bl false)) .nil) .nil) (.cons (.asg (.nm 5) (.frz (.call 98 (.cons (.var 0) (.cons (.var 1) (.cons (.var 2) (.cons (.ix (.var 3) (.int 1)) .nil))))))) (.cons (.ret (.and (.notN (.var 5)) (.call 34 (.cons (.var 1) (.cons (.var 5) .nil))))) .nil)))))⟩
abbrev f_law_7 : Nat := 100
def d_law_7 : PDef := ⟨8, 1, [false], (.cons (.for (.nm 1) (.rng (.blt .max2 (.cons (.int 1) (.cons (.blt .min2 (.cons (.blt .len (.cons (.var 0) .nil)) (.cons (.int 3) .nil))) .nil)))) (.cons (.asg (.nm 2) (.call 20 (.cons (.call 19 (.cons (.var 0) (.cons (.var 1) .nil))) .nil))) (.cons (.for (.nm 3) (.rng (.int 9)) (.cons (.asg (.nm 4) (.frz (.op .add (.int 1) (.call 21 (.cons (.var 2) (.cons (.int 5) .nil)))))) (.cons (.asg (.nm 5) (.frz (.call 24 (.cons (.var 2) (.cons (.var 4) (.cons (.int 8) .nil)))))) (.cons (.asg (.nm 6) (.frz (.call 36 (.cons (.var 2) (.cons (.var 4) (.cons (.int 8) (.cons (.var 5) .nil))))))) (.cons (.asg (.nm 7) (.frz (.call 95 (.cons (.tup (.cons (.var 4) (.cons (.var 6) .nil))) (.cons (.var 5) .nil))))) (.cons (.ite (.or (.not (.call 99 (.cons (.var 4) (.cons (.var 6) (.cons (.var 5) (.cons (.var 7) .nil)))))) (.not (.call 22 (.cons (.call 95 (.cons (.tup (.cons (.var 4) (.cons (.var 6) .nil))) (.cons (.var 5) .nil))) (.cons (.var 7) .nil))))) (.cons (.ret (.bl false)) .nil) .nil) .nil)))))) .nil))) (.cons (.ret (.bl true)) .nil))⟩
abbrev f_is_step : Nat := 101
def d_is_step : PDef := ⟨4, 3, [false, false, false], (.cons (.ite (.or (.not (.isi (.var 2) .tuple)) (.cmp .ne (.blt .len (.cons (.var 2) .nil)) (.int 3))) (.cons (.ret (.bl false)) .nil) .nil) (.cons (.ite (.not (.blt .all (.cons (.lc (.and (.isi (.var 3) .int) (.not (.isi (.var 3) .bool))) (.nm 3) (.seq (.var 2)) .nil [3]) .nil))) (.cons (.ret (.bl false)) .nil) .nil) (.cons (.ret (.and (.cmp2 .le .lt (.int 0) (.ix (.var 2) (.int 0)) (.blt .len (.cons (.var 0) .nil))) (.cmp3 .le .lt .lt (.int 0) (.ix (.var 2) (.int 1)) (.ix (.var 2) (.int 2)) (.var 1)))) .nil)))⟩
abbrev f_groups_behind : Nat := 102
def d_groups_behind : PDef := ⟨6, 4, [false, false, false, false], (.cons (.ite (.not (.isi (.var 3) .tuple)) (.cons (.ret .non) .nil) .nil) (.cons (.asg (.nm 4) (.frz (.call 43 (.cons (.var 0) (.cons (.var 1) .nil))))) (.cons (.for (.nm 5) (.seq (.var 3)) (.cons (.ite (.or (.not (.call 101 (.cons (.var 2) (.cons (.blt .len (.cons (.var 1) .nil)) (.cons (.var 5) .nil))))) (.not (.call 45 (.cons (.var 4) (.cons (.ix (.var 2) (.ix (.var 5) (.int 0))) (.cons (.ix (.var 5) (.int 1)) (.cons (.ix (.var 5) (.int 2)) .nil))))))) (.cons (.ret .non) .nil) .nil) (.cons (.asg (.nm 4) (.frz (.call 47 (.cons (.var 4) (.cons (.var 2) (.cons (.var 5) .nil)))))) .nil))) (.cons (.ret (.var 4)) .nil))))⟩
abbrev f_fits : Nat := 103
def d_fits : PDef := ⟨4, 2, [false, false], (.cons (.ret (.blt .all (.cons (.lc (.or (.isN (.var 2)) (.cmp .eq (.var 2) (.var 3))) (.t2 (.nm 2) (.nm 3)) (.zip (.var 0) (.var 1)) .nil [2, 3]) .nil))) .nil)⟩
abbrev f_is_filling : Nat := 104
def d_is_filling : PDef := ⟨5, 3, [false, false, false], (.cons (.ite (.or (.not (.call 6 (.cons (.var 2) .nil))) (.or (.cmp .ne (.ix (.var 2) (.int 0)) (.ix (.var 0) (.int 0))) (.cmp .ne (.blt .len (.cons (.ix (.var 2) (.int 1)) .nil)) (.blt .len (.cons (.ix (.var 0) (.int 1)) .nil))))) (.cons (.ret (.bl false)) .nil) .nil) (.cons (.ite (.or (.cmp .ne (.call 12 (.cons (.var 2) (.cons (.bl true) .nil))) (.tup .nil)) (.not (.blt .all (.cons (.lc (.call 103 (.cons (.var 3) (.cons (.var 4) .nil))) (.t2 (.nm 3) (.nm 4)) (.zip (.ix (.var 0) (.int 1)) (.ix (.var 2) (.int 1))) .nil [3, 4]) .nil)))) (.cons (.ret (.bl false)) .nil) .nil) (.cons (.ret (.call 15 (.cons (.ix (.var 2) (.int 1)) (.cons (.var 1) .nil)))) .nil)))⟩
abbrev f_shows_verdict : Nat := 105
def d_shows_verdict : PDef := ⟨4, 3, [false, false, false], (.cons (.expr (.call 11 (.cons (.var 0) (.cons (.var 1) .nil)))) (.cons (.ite (.or (.not (.isi (.var 2) .tuple)) (.or (.cmp .ne (.blt .len (.cons (.var 2) .nil)) (.int 2)) (.not (.isi (.ix (.var 2) (.int 0)) .str)))) (.cons (.ret (.bl false)) .nil) .nil) (.cons (.ite (.cmp .eq (.ix (.var 2) (.int 0)) (.glo 7)) (.cons (.ret (.call 104 (.cons (.var 0) (.cons (.var 1) (.cons (.ix (.var 2) (.int 1)) .nil))))) .nil) .nil) (.cons (.asg (.nm 3) (.frz (.call 102 (.cons (.ix (.var 0) (.int 0)) (.cons (.ix (.var 0) (.int 1)) (.cons (.var 1) (.cons (.ix (.var 2) (.int 1)) .nil))))))) (.cons (.ret (.and (.cmp .eq (.ix (.var 2) (.int 0)) (.glo 8)) (.and (.notN (.var 3)) (.call 58 (.cons (.ix (.var 0) (.int 1)) (.cons (.var 3) .nil)))))) .nil)))))⟩
abbrev f_certain_in : Nat := 106
def d_certain_in : PDef := ⟨7, 3, [false, false, false], (.cons (.asg (.nm 3) (.lst .nil)) (.cons (.for (.t2 (.nm 4) (.nm 5)) (.seq (.call 12 (.cons (.tup (.cons (.var 0) (.cons (.var 1) .nil))) (.cons (.bl true) .nil)))) (.cons (.asg (.nm 6) (.frz (.call 57 (.cons (.var 1) (.cons (.var 2) (.cons (.var 4) (.cons (.var 5) .nil))))))) (.cons (.ite (.notN (.var 6)) (.cons (.app 3 (.tup (.cons (.var 4) (.cons (.var 5) (.cons (.var 6) .nil))))) .nil) .nil) .nil))) (.cons (.ret (.blt .tuple (.cons (.var 3) .nil))) .nil)))⟩
abbrev f_certain : Nat := 107
def d_certain : PDef := ⟨2, 2, [false, false], (.cons (.expr (.call 11 (.cons (.var 0) (.cons (.var 1) .nil)))) (.cons (.ret (.call 106 (.cons (.ix (.var 0) (.int 0)) (.cons (.ix (.var 0) (.int 1)) (.cons (.call 60 (.cons (.var 0) (.cons (.var 1) .nil))) .nil))))) .nil))⟩
abbrev f_l_are_less_right : Nat := 108
def d_l_are_less_right : PDef := ⟨8, 4, [false, false, false, false], (.cons (.for (.nm 4) (.rng (.blt .len (.cons (.var 1) .nil))) (.cons (.asg (.nm 5) (.frz (.op .add (.slH (.var 1) (.var 4)) (.slL (.var 1) (.op .add (.var 4) (.int 1)))))) (.cons (.asg (.nm 6) (.frz (.op .add (.slH (.var 3) (.var 4)) (.slL (.var 3) (.op .add (.var 4) (.int 1)))))) (.cons (.ite (.isT true (.call 105 (.cons (.tup (.cons (.var 0) (.cons (.var 5) .nil))) (.cons (.var 2) (.cons (.tup (.cons (.str "filling") (.cons (.tup (.cons (.var 0) (.cons (.var 6) .nil))) .nil))) .nil))))) (.cons (.ret (.bl false)) .nil) .nil) .nil)))) (.cons (.for (.nm 4) (.rng (.blt .len (.cons (.var 2) .nil))) (.cons (.asg (.nm 7) (.frz (.op .add (.slH (.var 2) (.var 4)) (.slL (.var 2) (.op .add (.var 4) (.int 1)))))) (.cons (.ite (.isT true (.call 105 (.cons (.tup (.cons (.var 0) (.cons (.var 1) .nil))) (.cons (.var 7) (.cons (.tup (.cons (.str "filling") (.cons (.tup (.cons (.var 0) (.cons (.var 3) .nil))) .nil))) .nil))))) (.cons (.ret (.bl false)) .nil) .nil) .nil))) (.cons (.ret (.bl true)) .nil)))⟩
abbrev f_l_are_written_right : Nat := 109
def d_l_are_written_right : PDef := ⟨15, 4, [false, false, false, false], (.cons (.asg (.nm 4) (.frz (.call 107 (.cons (.tup (.cons (.var 0) (.cons (.var 1) .nil))) (.cons (.var 2) .nil))))) (.cons (.for (.t2 (.nm 5) (.nm 6)) (.enm (.var 1)) (.cons (.for (.t2 (.nm 7) (.nm 8)) (.enm (.var 6)) (.cons (.asg (.nm 9) (.frz (.call 65 (.cons (.var 1) (.cons (.var 5) (.cons (.var 7) (.cons (.ix (.ix (.var 3) (.var 5)) (.var 7)) .nil))))))) (.cons (.asg (.nm 10) (.frz (.call 95 (.cons (.tup (.cons (.var 0) (.cons (.var 9) .nil))) (.cons (.var 2) .nil))))) (.cons (.ite (.cmp .ne (.ix (.var 10) (.int 0)) (.str "filling")) (.cons (.ret (.bl false)) .nil) .nil) (.cons (.ite (.cmp .ne (.lc (.int 1) (.t3 (.nm 12) (.nm 13) (.nm 14)) (.seq (.var 4)) (.cons (.cmp .ne (.ix (.ix (.ix (.ix (.var 10) (.int 1)) (.int 1)) (.var 12)) (.var 13)) (.var 14)) .nil) [12, 13, 14]) (.lst .nil)) (.cons (.ret (.bl false)) .nil) .nil) (.cons (.asg (.nm 11) (.cmp .inn (.tup (.cons (.var 5) (.cons (.var 7) (.cons (.ix (.ix (.var 3) (.var 5)) (.var 7)) .nil)))) (.var 4))) (.cons (.ite (.and (.isN (.var 8)) (.and (.var 11) (.cmp .ne (.ix (.ix (.var 10) (.int 1)) (.int 1)) (.var 3)))) (.cons (.ret (.bl false)) .nil) .nil) .nil))))))) .nil)) (.cons (.ret (.bl true)) .nil)))⟩
abbrev f_law_8 : Nat := 110
def d_law_8 : PDef := ⟨12, 1, [false], (.cons (.for (.nm 1) (.rng (.blt .max2 (.cons (.int 1) (.cons (.blt .min2 (.cons (.blt .len (.cons (.var 0) .nil)) (.cons (.int 3) .nil))) .nil)))) (.cons (.asg (.nm 2) (.call 20 (.cons (.call 19 (.cons (.var 0) (.cons (.var 1) .nil))) .nil))) (.cons (.for (.nm 3) (.rng (.int 3)) (.cons (.asg (.nm 4) (.frz (.op .add (.int 1) (.call 21 (.cons (.var 2) (.cons (.int 5) .nil)))))) (.cons (.asg (.nm 5) (.frz (.call 24 (.cons (.var 2) (.cons (.var 4) (.cons (.int 5) .nil)))))) (.cons (.asg (.nm 6) (.frz (.call 36 (.cons (.var 2) (.cons (.var 4) (.cons (.int 6) (.cons (.var 5) .nil))))))) (.cons (.asg (.nm 7) (.frz (.call 95 (.cons (.tup (.cons (.var 4) (.cons (.var 6) .nil))) (.cons (.var 5) .nil))))) (.cons (.ite (.cmp .eq (.ix (.var 7) (.int 0)) (.str "filling")) (.cons (.asg (.nm 9) (.ix (.ix (.var 7) (.int 1)) (.int 1))) (.cons (.ite (.not (.call 108 (.cons (.var 4) (.cons (.var 6) (.cons (.var 5) (.cons (.var 9) .nil)))))) (.cons (.ret (.bl false)) .nil) .nil) (.cons (.ite (.or (.not (.call 109 (.cons (.var 4) (.cons (.var 6) (.cons (.var 5) (.cons (.var 9) .nil)))))) (.isT true (.call 17 (.cons (.ix (.var 7) (.int 1)) (.cons (.var 5) .nil))))) (.cons (.ret (.bl false)) .nil) .nil) .nil))) .nil) (.cons (.asg (.nm 8) (.frz (.blt .tuple (.cons (.lc (.blt .tuple (.cons (.lc (.or2 (.var 11) (.int 0)) (.nm 11) (.seq (.var 10)) .nil [11]) .nil)) (.nm 10) (.seq (.var 6)) .nil [10]) .nil)))) (.cons (.ite (.cmp .ne (.cmp .eq (.ix (.call 95 (.cons (.tup (.cons (.var 4) (.cons (.var 8) .nil))) (.cons (.var 5) .nil))) (.int 0)) (.str "filling")) (.call 17 (.cons (.tup (.cons (.var 4) (.cons (.var 8) .nil))) (.cons (.var 5) .nil)))) (.cons (.ret (.bl false)) .nil) .nil) .nil)))))))) .nil))) (.cons (.ret (.bl true)) .nil))⟩
abbrev f_l_ways : Nat := 111
def d_l_ways : PDef := ⟨9, 2, [false, false], (.cons (.asg (.nm 2) (.frz (.lst (.cons (.tup .nil) .nil)))) (.cons (.for (.nm 3) (.seq (.var 0)) (.cons (.for (.nm 4) (.seq (.var 3)) (.cons (.asg (.nm 5) (.frz (.ite (.notN (.var 4)) (.lst (.cons (.var 4) .nil)) (.var 1)))) (.cons (.asg (.nm 6) (.lst .nil)) (.cons (.for (.nm 7) (.seq (.var 2)) (.cons (.ext 6 (.lc (.op .add (.var 7) (.tup (.cons (.var 8) .nil))) (.nm 8) (.seq (.var 5)) .nil [8])) .nil)) (.cons (.asg (.nm 2) (.var 6)) .nil))))) .nil)) (.cons (.ret (.var 2)) .nil)))⟩
abbrev f_l_rows_of : Nat := 112
def d_l_rows_of : PDef := ⟨3, 2, [false, false], (.cons (.ret (.blt .tuple (.cons (.lc (.blt .tuple (.cons (.slB (.var 0) (.var 2) (.op .add (.var 2) (.var 1))) .nil)) (.nm 2) (.rng3 (.int 0) (.blt .len (.cons (.var 0) .nil)) (.var 1)) .nil [2]) .nil))) .nil)⟩
abbrev f_l_all_fillings : Nat := 113
def d_l_all_fillings : PDef := ⟨7, 4, [false, false, false, false], (.cons (.asg (.nm 4) (.lst .nil)) (.cons (.for (.nm 5) (.seq (.call 111 (.cons (.var 1) (.cons (.var 3) .nil)))) (.cons (.asg (.nm 6) (.frz (.call 112 (.cons (.var 5) (.cons (.var 0) .nil))))) (.cons (.ite (.call 37 (.cons (.var 6) (.cons (.var 2) .nil))) (.cons (.app 4 (.var 6)) .nil) .nil) .nil))) (.cons (.ret (.var 4)) .nil)))⟩
abbrev f_l_few_blanks : Nat := 114
def d_l_few_blanks : PDef := ⟨9, 4, [true, false, false, false], (.cons (.par2 5 6 (.int 0) (.lst .nil)) (.cons (.for (.nm 4) (.seq (.var 2)) (.cons (.asg (.nm 7) (.lst .nil)) (.cons (.for (.nm 8) (.seq (.var 4)) (.cons (.asg (.nm 5) (.frz (.op .add (.var 5) (.blt .int1 (.cons (.isN (.var 8)) .nil))))) (.cons (.app 7 (.ite (.and (.isN (.var 8)) (.cmp .gt (.var 5) (.var 3))) (.call 21 (.cons (.var 0) (.cons (.int 3) .nil))) (.var 8))) .nil))) (.cons (.app 6 (.blt .tuple (.cons (.var 7) .nil))) .nil)))) (.cons (.ret (.blt .tuple (.cons (.var 6) .nil))) .nil)))⟩
abbrev f_l_pool : Nat := 115
def d_l_pool : PDef := ⟨6, 2, [false, false], (.cons (.asg (.nm 2) (.lst .nil)) (.cons (.for (.nm 3) (.seq (.var 0)) (.cons (.ext 2 (.lc (.var 4) (.nm 4) (.seq (.var 3)) (.cons (.notN (.var 4)) .nil) [4])) .nil)) (.cons (.ret (.op .add (.sset (.var 2)) (.slH (.lc (.var 5) (.nm 5) (.rng (.int 100)) (.cons (.cmp .nin (.var 5) (.var 2)) .nil) [5]) (.var 1)))) .nil)))⟩
abbrev f_law_9 : Nat := 116
def d_law_9 : PDef := ⟨11, 1, [false], (.cons (.for (.nm 1) (.rng (.blt .max2 (.cons (.int 1) (.cons (.blt .min2 (.cons (.blt .len (.cons (.var 0) .nil)) (.cons (.int 3) .nil))) .nil)))) (.cons (.asg (.nm 2) (.call 20 (.cons (.call 19 (.cons (.var 0) (.cons (.var 1) .nil))) .nil))) (.cons (.for (.nm 3) (.rng (.int 4)) (.cons (.asg (.nm 4) (.frz (.op .add (.int 1) (.call 21 (.cons (.var 2) (.cons (.int 4) .nil)))))) (.cons (.asg (.nm 5) (.frz (.call 24 (.cons (.var 2) (.cons (.var 4) (.cons (.int 5) .nil)))))) (.cons (.asg (.nm 6) (.frz (.call 114 (.cons (.var 2) (.cons (.var 4) (.cons (.call 36 (.cons (.var 2) (.cons (.var 4) (.cons (.int 5) (.cons (.var 5) .nil))))) (.cons (.int 4) .nil))))))) (.cons (.ite (.cmp .gt (.blt .len (.cons (.call 115 (.cons (.var 6) (.cons (.int 4) .nil))) .nil)) (.int 8)) (.cons (.asg (.nm 6) (.frz (.call 114 (.cons (.var 2) (.cons (.var 4) (.cons (.var 6) (.cons (.int 2) .nil))))))) .nil) .nil) (.cons (.asg (.nm 7) (.frz (.call 113 (.cons (.var 4) (.cons (.var 6) (.cons (.var 5) (.cons (.call 115 (.cons (.var 6) (.cons (.int 4) .nil))) .nil))))))) (.cons (.par2 9 10 (.frz (.call 95 (.cons (.tup (.cons (.var 4) (.cons (.var 6) .nil))) (.cons (.var 5) .nil)))) (.ix (.lst (.cons (.str "conflict") (.cons (.str "filling") .nil))) (.blt .int1 (.cons (.cmp .ne (.var 7) (.lst .nil)) .nil)))) (.cons (.ite (.or (.cmp .ne (.ix (.var 9) (.int 0)) (.var 10)) (.isT true (.call 105 (.cons (.tup (.cons (.var 4) (.cons (.var 6) .nil))) (.cons (.var 5) (.cons (.var 9) .nil)))))) (.cons (.ret (.bl false)) .nil) .nil) (.cons (.for (.nm 8) (.seq (.slH (.var 7) (.int 5))) (.cons (.ite (.isT true (.call 105 (.cons (.tup (.cons (.var 4) (.cons (.var 6) .nil))) (.cons (.var 5) (.cons (.tup (.cons (.str "filling") (.cons (.tup (.cons (.var 4) (.cons (.var 8) .nil))) .nil))) .nil))))) (.cons (.ret (.bl false)) .nil) .nil) .nil)) .nil))))))))) .nil))) (.cons (.ret (.bl true)) .nil))⟩
abbrev f_need_many : Nat := 117
def d_need_many : PDef := ⟨1, 1, [false], (.cons (.ite (.not (.call 1 (.cons (.var 0) (.cons (.int 1) (.cons (.glo 0) .nil))))) (.cons .raise .nil) .nil) .nil)⟩
abbrev f_need_parts : Nat := 118
def d_need_parts : PDef := ⟨4, 2, [false, false], (.cons (.ite (.or (.not (.isi (.var 1) .tuple)) (.not (.cmp2 .le .le (.int 1) (.blt .len (.cons (.var 1) .nil)) (.glo 0)))) (.cons .raise .nil) .nil) (.cons (.ite (.not (.blt .all (.cons (.lc (.and (.call 2 (.cons (.var 2) (.cons (.op .sub (.var 0) (.int 1)) .nil))) (.cmp .ne (.var 2) (.tup .nil))) (.nm 2) (.seq (.var 1)) .nil [2]) .nil))) (.cons .raise .nil) .nil) (.cons (.ite (.not (.blt .all (.cons (.lc (.blt .any (.cons (.lc (.cmp .inn (.var 3) (.var 2)) (.nm 2) (.seq (.var 1)) .nil [2]) .nil)) (.nm 3) (.rng (.var 0)) .nil [3]) .nil))) (.cons .raise .nil) .nil) .nil)))⟩
abbrev f_small_rows : Nat := 119
def d_small_rows : PDef := ⟨4, 2, [false, false], (.cons (.ret (.blt .tuple (.cons (.lc (.blt .tuple (.cons (.lc (.ite (.cmp .inn (.var 3) (.var 2)) (.int 0) .non) (.nm 3) (.rng (.var 0)) .nil [3]) .nil)) (.nm 2) (.seq (.var 1)) .nil [2]) .nil))) .nil)⟩
abbrev f_is_complete : Nat := 120
def d_is_complete : PDef := ⟨4, 2, [false, false], (.cons (.for (.nm 2) (.rng (.blt .len (.cons (.var 0) .nil))) (.cons (.ite (.blt .all (.cons (.lc (.notN (.call 57 (.cons (.var 0) (.cons (.var 1) (.cons (.var 2) (.cons (.var 3) .nil)))))) (.nm 3) (.rng (.blt .len (.cons (.var 1) .nil))) .nil [3]) .nil)) (.cons (.ret (.bl true)) .nil) .nil) .nil)) (.cons (.ret (.bl false)) .nil))⟩
abbrev f_completing : Nat := 121
def d_completing : PDef := ⟨6, 3, [false, false, false], (.cons (.par2 3 4 (.frz (.call 43 (.cons (.var 0) (.cons (.var 1) .nil)))) (.lst .nil)) (.cons (.whl (.not (.call 120 (.cons (.var 1) (.cons (.var 3) .nil)))) (.cons (.asg (.nm 5) (.frz (.call 46 (.cons (.var 3) (.cons (.var 2) (.cons (.blt .len (.cons (.var 1) .nil)) .nil)))))) (.cons (.ite (.isN (.var 5)) (.cons (.ret .non) .nil) .nil) (.cons (.asg (.nm 3) (.frz (.call 47 (.cons (.var 3) (.cons (.var 2) (.cons (.var 5) .nil)))))) (.cons (.app 4 (.var 5)) .nil))))) (.cons (.ret (.blt .tuple (.cons (.var 4) .nil))) .nil)))⟩
abbrev f_split : Nat := 122
def d_split : PDef := ⟨5, 3, [false, false, false], (.cons (.expr (.call 117 (.cons (.var 0) .nil))) (.cons (.expr (.call 10 (.cons (.var 0) (.cons (.var 1) .nil)))) (.cons (.expr (.call 118 (.cons (.var 0) (.cons (.var 2) .nil)))) (.cons (.asg (.nm 3) (.frz (.call 119 (.cons (.var 0) (.cons (.var 2) .nil))))) (.cons (.asg (.nm 4) (.frz (.call 121 (.cons (.var 0) (.cons (.var 3) (.cons (.var 1) .nil)))))) (.cons (.ite (.notN (.var 4)) (.cons (.ret (.tup (.cons (.glo 9) (.cons (.var 4) .nil)))) .nil) .nil) (.cons (.ret (.tup (.cons (.glo 10) (.cons (.tup (.cons (.var 0) (.cons (.calld 94 (.cons (.var 0) (.cons (.var 3) (.cons (.var 1) .nil)))) .nil))) .nil)))) .nil)))))))⟩
abbrev f_l_is_whole : Nat := 123
def d_l_is_whole : PDef := ⟨2, 2, [false, false], (.cons (.ret (.and (.isi (.var 0) .int) (.and (.not (.isi (.var 0) .bool)) (.cmp2 .le .le (.int 0) (.var 0) (.var 1))))) .nil)⟩
abbrev f_l_is_full : Nat := 124
def d_l_is_full : PDef := ⟨4, 2, [false, false], (.cons (.ite (.or (.not (.isi (.var 1) .tuple)) (.or (.cmp .ne (.blt .len (.cons (.var 1) .nil)) (.int 2)) (.not (.isi (.ix (.var 1) (.int 1)) .tuple)))) (.cons (.ret (.bl false)) .nil) .nil) (.cons (.ite (.or (.not (.call 123 (.cons (.ix (.var 1) (.int 0)) (.cons (.int 5) .nil)))) (.or (.cmp .ne (.ix (.var 1) (.int 0)) (.var 0)) (.cmp .gt (.blt .len (.cons (.ix (.var 1) (.int 1)) .nil)) (.int 8)))) (.cons (.ret (.bl false)) .nil) .nil) (.cons (.for (.nm 2) (.seq (.ix (.var 1) (.int 1))) (.cons (.ite (.or (.not (.isi (.var 2) .tuple)) (.cmp .ne (.blt .len (.cons (.var 2) .nil)) (.var 0))) (.cons (.ret (.bl false)) .nil) .nil) (.cons (.ite (.cmp .ne (.lc (.int 1) (.nm 3) (.seq (.var 2)) (.cons (.not (.call 123 (.cons (.var 3) (.cons (.int 9999) .nil)))) .nil) [3]) (.lst .nil)) (.cons (.ret (.bl false)) .nil) .nil) .nil))) (.cons (.ret (.bl true)) .nil))))⟩
abbrev f_l_case : Nat := 125
def d_l_case : PDef := ⟨2, 1, [true], (.cons (.asg (.nm 1) (.frz (.op .add (.int 1) (.call 21 (.cons (.var 0) (.cons (.int 5) .nil)))))) (.cons (.ret (.tup (.cons (.var 1) (.cons (.call 24 (.cons (.var 0) (.cons (.var 1) (.cons (.int 8) .nil)))) .nil)))) .nil))⟩
abbrev f_l_parts : Nat := 126
def d_l_parts : PDef := ⟨7, 2, [true, false], (.cons (.asg (.nm 2) (.lst .nil)) (.cons (.for (.nm 3) (.rng (.op .add (.int 1) (.call 21 (.cons (.var 0) (.cons (.int 4) .nil))))) (.cons (.asg (.nm 5) (.frz (.blt .tuple (.cons (.lc (.var 6) (.nm 6) (.rng (.var 1)) (.cons (.cmp .eq (.call 21 (.cons (.var 0) (.cons (.int 2) .nil))) (.int 0)) .nil) [6]) .nil)))) (.cons (.app 2 (.ite (.cmp .ne (.var 5) (.tup .nil)) (.var 5) (.tup (.cons (.call 21 (.cons (.var 0) (.cons (.var 1) .nil))) .nil)))) .nil))) (.cons (.asg (.nm 4) (.frz (.lc (.var 6) (.nm 6) (.rng (.var 1)) (.cons (.cmp .eq (.lc (.int 1) (.nm 5) (.seq (.var 2)) (.cons (.cmp .inn (.var 6) (.var 5)) .nil) [5]) (.lst .nil)) .nil) [6]))) (.cons (.ite (.and (.cmp .ne (.var 4) (.lst .nil)) (.cmp .eq (.call 21 (.cons (.var 0) (.cons (.int 2) .nil))) (.int 0))) (.cons (.app 2 (.blt .tuple (.cons (.var 4) .nil))) .nil) (.cons (.sti 2 (.neg (.int 1)) (.blt .tuple (.cons (.blt .sorted (.cons (.op .add (.blt .list (.cons (.ix (.var 2) (.neg (.int 1))) .nil)) (.var 4)) .nil)) .nil))) .nil)) (.cons (.ret (.blt .tuple (.cons (.var 2) .nil))) .nil)))))⟩
abbrev f_l_put_together : Nat := 127
def d_l_put_together : PDef := ⟨13, 3, [false, false, false], (.cons (.asg (.nm 3) (.frz (.lst (.cons (.tup .nil) .nil)))) (.cons (.for (.nm 4) (.rng (.var 0)) (.cons (.par2 7 8 (.frz (.sset (.lc (.ix (.var 11) (.var 4)) (.nm 11) (.seq (.var 1)) .nil [11]))) (.lst .nil)) (.cons (.for (.nm 5) (.seq (.var 3)) (.cons (.ext 8 (.lc (.op .add (.var 5) (.tup (.cons (.var 10) .nil))) (.nm 10) (.seq (.var 7)) .nil [10])) .nil)) (.cons (.asg (.nm 3) (.var 8)) (.cons (.for (.nm 6) (.seq (.var 2)) (.cons (.ite (.cmp .eq (.ix (.var 6) (.neg (.int 1))) (.var 4)) (.cons (.asg (.nm 9) (.frz (.lc (.lc (.ix (.var 11) (.var 12)) (.nm 12) (.seq (.var 6)) .nil [12]) (.nm 11) (.seq (.var 1)) .nil [11]))) (.cons (.asg (.nm 3) (.frz (.lc (.var 5) (.nm 5) (.seq (.var 3)) (.cons (.cmp .inn (.lc (.ix (.var 5) (.var 12)) (.nm 12) (.seq (.var 6)) .nil [12]) (.var 9)) .nil) [5]))) .nil)) .nil) .nil)) .nil))))) (.cons (.ret (.blt .tuple (.cons (.blt .sorted (.cons (.var 3) .nil)) .nil))) .nil)))⟩
abbrev f_l_small : Nat := 128
def d_l_small : PDef := ⟨5, 2, [false, false], (.cons (.asg (.nm 2) (.lst .nil)) (.cons (.for (.nm 3) (.seq (.var 1)) (.cons (.app 2 (.blt .tuple (.cons (.lc (.ite (.cmp .inn (.var 4) (.var 3)) (.int 0) .non) (.nm 4) (.rng (.var 0)) .nil [4]) .nil))) .nil)) (.cons (.ret (.blt .tuple (.cons (.var 2) .nil))) .nil)))⟩
abbrev f_l_is_ready : Nat := 129
def d_l_is_ready : PDef := ⟨6, 2, [false, false], (.cons (.for (.nm 2) (.rng (.blt .len (.cons (.var 0) .nil))) (.cons (.asg (.nm 3) (.int 0)) (.cons (.for (.t2 (.nm 4) (.nm 5)) (.enm (.var 1)) (.cons (.ite (.cmp .eq (.call 33 (.cons (.var 0) (.cons (.var 1) (.cons (.var 4) (.cons (.ix (.var 5) (.var 2)) .nil))))) (.lst .nil)) (.cons (.asg (.nm 3) (.frz (.op .add (.var 3) (.int 1)))) .nil) .nil) .nil)) (.cons (.ite (.cmp .eq (.var 3) (.int 0)) (.cons (.ret (.bl true)) .nil) .nil) .nil)))) (.cons (.ret (.bl false)) .nil))⟩
abbrev f_l_is_step_1 : Nat := 130
def d_l_is_step_1 : PDef := ⟨3, 3, [false, false, false], (.cons (.ite (.or (.not (.isi (.var 2) .tuple)) (.cmp .ne (.blt .len (.cons (.var 2) .nil)) (.int 3))) (.cons (.ret (.bl false)) .nil) .nil) (.cons (.ite (.or (.not (.call 123 (.cons (.ix (.var 2) (.int 0)) (.cons (.op .sub (.blt .len (.cons (.var 0) .nil)) (.int 1)) .nil)))) (.not (.call 123 (.cons (.ix (.var 2) (.int 2)) (.cons (.op .sub (.var 1) (.int 1)) .nil))))) (.cons (.ret (.bl false)) .nil) .nil) (.cons (.ret (.call 123 (.cons (.ix (.var 2) (.int 1)) (.cons (.op .sub (.ix (.var 2) (.int 2)) (.int 1)) .nil)))) .nil)))⟩
abbrev f_l_behind : Nat := 131
def d_l_behind : PDef := ⟨15, 4, [false, false, false, false], (.cons (.ite (.not (.isi (.var 3) .tuple)) (.cons (.ret .non) .nil) .nil) (.cons (.asg (.nm 4) (.call 32 (.cons (.var 0) (.cons (.var 1) (.cons (.tup .nil) .nil))))) (.cons (.for (.nm 5) (.seq (.var 3)) (.cons (.ite (.not (.call 130 (.cons (.var 2) (.cons (.blt .len (.cons (.var 1) .nil)) (.cons (.var 5) .nil))))) (.cons (.ret .non) .nil) .nil) (.cons (.asg (.t3 (.nm 6) (.nm 7) (.nm 8)) (.var 5)) (.cons (.asg (.t2 (.nm 9) (.nm 10)) (.ix (.var 2) (.var 6))) (.cons (.ite (.cmp .ne (.lc (.int 1) (.nm 14) (.seq (.var 9)) (.cons (.cmp .ne (.ix (.ix (.var 4) (.var 14)) (.var 7)) (.ix (.ix (.var 4) (.var 14)) (.var 8))) .nil) [14]) (.lst .nil)) (.cons (.ret .non) .nil) .nil) (.cons (.par2 11 12 (.ix (.ix (.var 4) (.var 10)) (.var 7)) (.ix (.ix (.var 4) (.var 10)) (.var 8))) (.cons (.sti 4 (.var 10) (.lc (.ite (.cmp .inn (.var 13) (.tup (.cons (.var 11) (.cons (.var 12) .nil)))) (.blt .min2 (.cons (.var 11) (.cons (.var 12) .nil))) (.var 13)) (.nm 13) (.seq (.ix (.var 4) (.var 10))) .nil [13])) .nil))))))) (.cons (.ret (.var 4)) .nil))))⟩
abbrev f_l_is_shown : Nat := 132
def d_l_is_shown : PDef := ⟨9, 4, [false, false, false, false], (.cons (.ite (.or (.not (.isi (.var 3) .tuple)) (.or (.cmp .ne (.blt .len (.cons (.var 3) .nil)) (.int 2)) (.not (.isi (.ix (.var 3) (.int 0)) .str)))) (.cons (.ret (.bl false)) .nil) .nil) (.cons (.asg (.nm 4) (.frz (.call 128 (.cons (.var 0) (.cons (.var 2) .nil))))) (.cons (.ite (.cmp .eq (.ix (.var 3) (.int 0)) (.str "exact")) (.cons (.asg (.nm 7) (.frz (.call 131 (.cons (.var 0) (.cons (.var 4) (.cons (.var 1) (.cons (.ix (.var 3) (.int 1)) .nil))))))) (.cons (.ret (.and (.notN (.var 7)) (.call 129 (.cons (.var 4) (.cons (.var 7) .nil))))) .nil)) .nil) (.cons (.ite (.or (.cmp .ne (.ix (.var 3) (.int 0)) (.str "table")) (.not (.call 124 (.cons (.var 0) (.cons (.ix (.var 3) (.int 1)) .nil))))) (.cons (.ret (.bl false)) .nil) .nil) (.cons (.asg (.nm 5) (.ix (.ix (.var 3) (.int 1)) (.int 1))) (.cons (.asg (.nm 6) (.frz (.lc (.var 8) (.nm 8) (.seq (.call 127 (.cons (.var 0) (.cons (.var 5) (.cons (.var 2) .nil))))) (.cons (.cmp .nin (.var 8) (.var 5)) .nil) [8]))) (.cons (.ret (.and (.call 37 (.cons (.var 5) (.cons (.var 1) .nil))) (.cmp .ne (.var 6) (.lst .nil)))) .nil)))))))⟩
abbrev f_l_right_1 : Nat := 133
def d_l_right_1 : PDef := ⟨8, 1, [true], (.cons (.asg (.t2 (.nm 2) (.nm 3)) (.call 125 (.cons (.var 0) .nil))) (.cons (.for (.nm 1) (.rng (.int 3)) (.cons (.asg (.nm 4) (.frz (.call 126 (.cons (.var 0) (.cons (.var 2) .nil))))) (.cons (.par2 6 7 (.frz (.call 128 (.cons (.var 2) (.cons (.var 4) .nil)))) (.frz (.call 122 (.cons (.var 2) (.cons (.var 3) (.cons (.var 4) .nil)))))) (.cons (.asg (.nm 5) (.frz (.call 129 (.cons (.var 6) (.cons (.call 32 (.cons (.var 2) (.cons (.var 6) (.cons (.var 3) .nil)))) .nil))))) (.cons (.ite (.or (.not (.call 132 (.cons (.var 2) (.cons (.var 3) (.cons (.var 4) (.cons (.var 7) .nil)))))) (.cmp .ne (.cmp .eq (.ix (.var 7) (.int 0)) (.str "exact")) (.var 5))) (.cons (.ret (.bl false)) .nil) .nil) (.cons (.ite (.not (.call 22 (.cons (.call 122 (.cons (.var 2) (.cons (.var 3) (.cons (.var 4) .nil)))) (.cons (.var 7) .nil)))) (.cons (.ret (.bl false)) .nil) .nil) .nil)))))) (.cons (.ret (.bl true)) .nil)))⟩
abbrev f_law_10 : Nat := 134
def d_law_10 : PDef := ⟨4, 1, [false], (.cons (.for (.nm 1) (.rng (.blt .max2 (.cons (.int 1) (.cons (.blt .min2 (.cons (.blt .len (.cons (.var 0) .nil)) (.cons (.int 3) .nil))) .nil)))) (.cons (.asg (.nm 2) (.call 20 (.cons (.call 19 (.cons (.var 0) (.cons (.var 1) .nil))) .nil))) (.cons (.for (.nm 3) (.rng (.int 4)) (.cons (.ite (.not (.call 133 (.cons (.var 2) .nil))) (.cons (.ret (.bl false)) .nil) .nil) .nil)) .nil))) (.cons (.ret (.bl true)) .nil))⟩
abbrev f_sure_of : Nat := 135
def d_sure_of : PDef := ⟨7, 3, [false, false, false], (.cons (.asg (.nm 3) (.lst .nil)) (.cons (.for (.nm 4) (.rng (.blt .len (.cons (.ix (.var 0) (.int 1)) .nil))) (.cons (.asg (.nm 5) (.frz (.blt .tuple (.cons (.lc (.call 57 (.cons (.ix (.var 0) (.int 1)) (.cons (.var 1) (.cons (.var 4) (.cons (.var 6) .nil))))) (.nm 6) (.seq (.var 2)) .nil [6]) .nil)))) (.cons (.ite (.cmp .nin .non (.var 5)) (.cons (.app 3 (.var 5)) .nil) .nil) .nil))) (.cons (.ret (.blt .tuple (.cons (.sset (.var 3)) .nil))) .nil)))⟩
abbrev f_need_columns : Nat := 136
def d_need_columns : PDef := ⟨2, 2, [false, false], (.cons (.ite (.not (.call 2 (.cons (.var 1) (.cons (.op .sub (.var 0) (.int 1)) .nil)))) (.cons .raise .nil) .nil) .nil)⟩
abbrev f_need_asked : Nat := 137
def d_need_asked : PDef := ⟨5, 4, [false, false, false, false], (.cons (.expr (.call 11 (.cons (.var 0) (.cons (.var 1) .nil)))) (.cons (.expr (.call 136 (.cons (.ix (.var 0) (.int 0)) (.cons (.var 2) .nil)))) (.cons (.ite (.or (.not (.isi (.var 3) .tuple)) (.cmp .ne (.blt .len (.cons (.var 3) .nil)) (.blt .len (.cons (.var 2) .nil)))) (.cons .raise .nil) .nil) (.cons (.ite (.not (.blt .all (.cons (.lc (.call 1 (.cons (.var 4) (.cons (.int 0) (.cons (.glo 3) .nil)))) (.nm 4) (.seq (.var 3)) .nil [4]) .nil))) (.cons .raise .nil) .nil) .nil))))⟩
abbrev f_lacking : Nat := 138
def d_lacking : PDef := ⟨4, 4, [false, false, false, false], (.cons (.expr (.call 137 (.cons (.var 0) (.cons (.var 1) (.cons (.var 2) (.cons (.var 3) .nil)))))) (.cons (.ite (.cmp .inn (.var 3) (.call 135 (.cons (.var 0) (.cons (.call 60 (.cons (.var 0) (.cons (.var 1) .nil))) (.cons (.var 2) .nil))))) (.cons (.ret .non) .nil) .nil) (.cons (.ret (.tup (.cons (.ix (.var 0) (.int 0)) (.cons (.call 94 (.cons (.ix (.var 0) (.int 0)) (.cons (.ix (.var 0) (.int 1)) (.cons (.var 1) (.cons (.var 3) .nil))))) .nil)))) .nil)))⟩
abbrev f_l_is_row : Nat := 139
def d_l_is_row : PDef := ⟨3, 2, [false, false], (.cons (.ite (.or (.not (.isi (.var 1) .tuple)) (.cmp .ne (.blt .len (.cons (.var 1) .nil)) (.var 0))) (.cons (.ret (.bl false)) .nil) .nil) (.cons (.ret (.cmp .eq (.lc (.int 1) (.nm 2) (.seq (.var 1)) (.cons (.and (.notN (.var 2)) (.not (.call 96 (.cons (.var 2) (.cons (.int 0) (.cons (.int 9999) .nil)))))) .nil) [2]) (.lst .nil))) .nil))⟩
abbrev f_l_is_table : Nat := 140
def d_l_is_table : PDef := ⟨4, 1, [false], (.cons (.ite (.or (.not (.isi (.var 0) .tuple)) (.or (.cmp .ne (.blt .len (.cons (.var 0) .nil)) (.int 2)) (.not (.call 96 (.cons (.ix (.var 0) (.int 0)) (.cons (.int 1) (.cons (.int 5) .nil))))))) (.cons (.ret (.bl false)) .nil) .nil) (.cons (.asg (.t2 (.nm 1) (.nm 2)) (.var 0)) (.cons (.ite (.or (.not (.isi (.var 2) .tuple)) (.cmp .gt (.blt .len (.cons (.var 2) .nil)) (.int 8))) (.cons (.ret (.bl false)) .nil) .nil) (.cons (.ret (.cmp .eq (.lc (.int 1) (.nm 3) (.seq (.var 2)) (.cons (.not (.call 139 (.cons (.var 1) (.cons (.var 3) .nil)))) .nil) [3]) (.lst .nil))) .nil))))⟩
abbrev f_l_columns : Nat := 141
def d_l_columns : PDef := ⟨3, 2, [true, false], (.cons (.ret (.blt .tuple (.cons (.lc (.var 2) (.nm 2) (.rng (.var 1)) (.cons (.cmp .eq (.call 21 (.cons (.var 0) (.cons (.int 2) .nil))) (.int 0)) .nil) [2]) .nil))) .nil)⟩
abbrev f_l_sure : Nat := 142
def d_l_sure : PDef := ⟨10, 4, [false, false, false, false], (.cons (.par2 5 6 (.frz (.call 32 (.cons (.var 0) (.cons (.var 1) (.cons (.var 2) .nil))))) (.lst .nil)) (.cons (.for (.nm 4) (.rng (.blt .len (.cons (.var 1) .nil))) (.cons (.asg (.nm 7) (.frz (.lc (.call 33 (.cons (.var 1) (.cons (.var 5) (.cons (.var 8) (.cons (.ix (.ix (.var 5) (.var 8)) (.var 4)) .nil))))) (.nm 8) (.seq (.var 3)) .nil [8]))) (.cons (.ite (.cmp .nin (.lst .nil) (.var 7)) (.cons (.app 6 (.blt .tuple (.cons (.lc (.ix (.var 9) (.int 0)) (.nm 9) (.seq (.var 7)) .nil [9]) .nil))) .nil) .nil) .nil))) (.cons (.ret (.sset (.var 6))) .nil)))⟩
abbrev f_l_is_filling : Nat := 143
def d_l_is_filling : PDef := ⟨9, 4, [false, false, false, false], (.cons (.ite (.or (.not (.call 140 (.cons (.var 3) .nil))) (.or (.cmp .ne (.ix (.var 3) (.int 0)) (.var 0)) (.cmp .ne (.blt .len (.cons (.ix (.var 3) (.int 1)) .nil)) (.blt .len (.cons (.var 1) .nil))))) (.cons (.ret (.bl false)) .nil) .nil) (.cons (.for (.t2 (.nm 4) (.nm 5)) (.zip (.var 1) (.ix (.var 3) (.int 1))) (.cons (.asg (.nm 6) (.frz (.lc (.int 1) (.t2 (.nm 7) (.nm 8)) (.zip (.var 4) (.var 5)) (.cons (.and (.notN (.var 7)) (.cmp .ne (.var 7) (.var 8))) .nil) [7, 8]))) (.cons (.ite (.or (.cmp .inn .non (.var 5)) (.cmp .ne (.var 6) (.lst .nil))) (.cons (.ret (.bl false)) .nil) .nil) .nil))) (.cons (.ret (.call 37 (.cons (.ix (.var 3) (.int 1)) (.cons (.var 2) .nil)))) .nil)))⟩
abbrev f_l_asked : Nat := 144
def d_l_asked : PDef := ⟨14, 5, [true, false, false, false, false], (.cons (.par2 8 9 (.frz (.call 142 (.cons (.var 1) (.cons (.var 2) (.cons (.var 3) (.cons (.var 4) .nil)))))) (.lst (.cons (.int 0) (.cons (.int 1) (.cons (.int 7) .nil))))) (.cons (.for (.nm 5) (.seq (.var 2)) (.cons (.ext 9 (.lc (.var 12) (.nm 12) (.seq (.var 5)) (.cons (.notN (.var 12)) .nil) [12])) .nil)) (.cons (.asg (.nm 6) (.lc (.blt .tuple (.cons (.lc (.ix (.var 9) (.call 21 (.cons (.var 0) (.cons (.blt .len (.cons (.var 9) .nil)) .nil)))) (.nm 13) (.seq (.var 4)) .nil [13]) .nil)) (.nm 10) (.rng (.int 3)) .nil [10])) (.cons (.for (.nm 7) (.seq (.slH (.var 8) (.int 3))) (.cons (.app 6 (.var 7)) (.cons (.ite (.cmp .ne (.var 7) (.tup .nil)) (.cons (.asg (.nm 11) (.frz (.call 21 (.cons (.var 0) (.cons (.blt .len (.cons (.var 7) .nil)) .nil))))) (.cons (.app 6 (.op .add (.op .add (.slH (.var 7) (.var 11)) (.tup (.cons (.ix (.var 9) (.call 21 (.cons (.var 0) (.cons (.blt .len (.cons (.var 9) .nil)) .nil)))) .nil))) (.slL (.var 7) (.op .add (.var 11) (.int 1))))) .nil)) .nil) .nil))) (.cons (.ret (.var 6)) .nil)))))⟩
abbrev f_l_is_right_1 : Nat := 145
def d_l_is_right_1 : PDef := ⟨9, 4, [false, false, false, false], (.cons (.asg (.t2 (.nm 5) (.nm 6)) (.var 3)) (.cons (.asg (.nm 4) (.frz (.call 138 (.cons (.tup (.cons (.var 0) (.cons (.var 1) .nil))) (.cons (.var 2) (.cons (.var 5) (.cons (.var 6) .nil))))))) (.cons (.ite (.not (.call 22 (.cons (.call 138 (.cons (.tup (.cons (.var 0) (.cons (.var 1) .nil))) (.cons (.var 2) (.cons (.var 5) (.cons (.var 6) .nil))))) (.cons (.var 4) .nil)))) (.cons (.ret (.bl false)) .nil) .nil) (.cons (.ite (.cmp .inn (.var 6) (.call 142 (.cons (.var 0) (.cons (.var 1) (.cons (.var 2) (.cons (.var 5) .nil)))))) (.cons (.ret (.isN (.var 4))) .nil) .nil) (.cons (.ite (.not (.call 143 (.cons (.var 0) (.cons (.var 1) (.cons (.var 2) (.cons (.var 4) .nil)))))) (.cons (.ret (.bl false)) .nil) .nil) (.cons (.ret (.cmp .nin (.var 6) (.lc (.blt .tuple (.cons (.lc (.ix (.var 7) (.var 8)) (.nm 8) (.seq (.var 5)) .nil [8]) .nil)) (.nm 7) (.seq (.ix (.var 4) (.int 1))) .nil [7]))) .nil))))))⟩
abbrev f_law_11 : Nat := 146
def d_law_11 : PDef := ⟨9, 1, [false], (.cons (.for (.nm 1) (.rng (.blt .max2 (.cons (.int 1) (.cons (.blt .min2 (.cons (.blt .len (.cons (.var 0) .nil)) (.cons (.int 3) .nil))) .nil)))) (.cons (.asg (.nm 2) (.call 20 (.cons (.call 19 (.cons (.var 0) (.cons (.var 1) .nil))) .nil))) (.cons (.for (.nm 3) (.rng (.int 5)) (.cons (.asg (.nm 4) (.frz (.op .add (.int 1) (.call 21 (.cons (.var 2) (.cons (.int 5) .nil)))))) (.cons (.asg (.nm 5) (.frz (.call 24 (.cons (.var 2) (.cons (.var 4) (.cons (.int 5) .nil)))))) (.cons (.asg (.nm 6) (.frz (.call 36 (.cons (.var 2) (.cons (.var 4) (.cons (.int 7) (.cons (.var 5) .nil))))))) (.cons (.ite (.not (.call 64 (.cons (.var 4) (.cons (.var 6) (.cons (.var 5) .nil))))) (.cons .cnt .nil) .nil) (.cons (.for (.nm 7) (.seq (.lst (.cons (.tup .nil) (.cons (.trng (.var 4)) (.cons (.call 141 (.cons (.var 2) (.cons (.var 4) .nil))) .nil))))) (.cons (.for (.nm 8) (.seq (.call 144 (.cons (.var 2) (.cons (.var 4) (.cons (.var 6) (.cons (.var 5) (.cons (.var 7) .nil))))))) (.cons (.ite (.not (.call 145 (.cons (.var 4) (.cons (.var 6) (.cons (.var 5) (.cons (.tup (.cons (.var 7) (.cons (.var 8) .nil))) .nil)))))) (.cons (.ret (.bl false)) .nil) .nil) .nil)) .nil)) .nil)))))) .nil))) (.cons (.ret (.bl true)) .nil))⟩
def Γ : Tbl
  | 0 => some d_is_whole
  | 1 => some d_is_between
  | 2 => some d_is_set
  | 3 => some d_is_cell
  | 4 => some d_is_row
  | 5 => some d_are_rows
  | 6 => some d_is_table
  | 7 => some d_need_table
  | 8 => some d_is_rule
  | 9 => some d_are_rules_of
  | 10 => some d_need_rules
  | 11 => some d_need_both
  | 12 => some d_places_where
  | 13 => some d_are_equal
  | 14 => some d_rule_holds
  | 15 => some d_all_hold
  | 16 => some d_need_full
  | 17 => some d_holds
  | 18 => some d_breaking
  | 19 => some d_l_cell_at
  | 20 => some d_l_pen
  | 21 => some d_l_draw
  | 22 => some d_l_same
  | 23 => some d_l_rule
  | 24 => some d_l_rules
  | 25 => some d_l_pick_values
  | 26 => some d_l_full
  | 27 => some d_l_pairs
  | 28 => some d_l_right
  | 29 => some d_law
  | 30 => some d_blanks
  | 31 => some d_l_rows
  | 32 => some d_l_joined
  | 33 => some d_l_values
  | 34 => some d_l_is_clash
  | 35 => some d_l_general
  | 36 => some d_l_kind_rows
  | 37 => some d_l_all_hold
  | 38 => some d_l_places
  | 39 => some d_l_changed
  | 40 => some d_l_full_1
  | 41 => some d_law_1
  | 42 => some d_values_at
  | 43 => some d_first_groups
  | 44 => some d_merged
  | 45 => some d_is_possible
  | 46 => some d_next_step
  | 47 => some d_after_step
  | 48 => some d_close
  | 49 => some d_groups_of
  | 50 => some d_lots_in
  | 51 => some d_lots
  | 52 => some d_l_lots
  | 53 => some d_law_2
  | 54 => some d_need_place
  | 55 => some d_with_cell
  | 56 => some d_values_of
  | 57 => some d_value_in
  | 58 => some d_is_conflict
  | 59 => some d_has_filling
  | 60 => some d_need_groups
  | 61 => some d_may_be
  | 62 => some d_column_values
  | 63 => some d_choices
  | 64 => some d_l_has_filling
  | 65 => some d_l_with
  | 66 => some d_l_due
  | 67 => some d_law_3
  | 68 => some d_picks_of
  | 69 => some d_cleared
  | 70 => some d_clearing
  | 71 => some d_l_places_1
  | 72 => some d_l_picks
  | 73 => some d_l_due_1
  | 74 => some d_l_is_enough
  | 75 => some d_law_4
  | 76 => some d_may_meet
  | 77 => some d_are_able
  | 78 => some d_are_joined
  | 79 => some d_relation
  | 80 => some d_l_value
  | 81 => some d_l_meets
  | 82 => some d_l_due_2
  | 83 => some d_l_are_right
  | 84 => some d_law_5
  | 85 => some d_may_have
  | 86 => some d_may_have_both
  | 87 => some d_together
  | 88 => some d_l_can
  | 89 => some d_l_own
  | 90 => some d_l_due_3
  | 91 => some d_l_are_right_1
  | 92 => some d_law_6
  | 93 => some d_conflict_steps
  | 94 => some d_general_rows
  | 95 => some d_verdict
  | 96 => some d_l_is_number
  | 97 => some d_l_is_step
  | 98 => some d_l_walked
  | 99 => some d_l_is_right
  | 100 => some d_law_7
  | 101 => some d_is_step
  | 102 => some d_groups_behind
  | 103 => some d_fits
  | 104 => some d_is_filling
  | 105 => some d_shows_verdict
  | 106 => some d_certain_in
  | 107 => some d_certain
  | 108 => some d_l_are_less_right
  | 109 => some d_l_are_written_right
  | 110 => some d_law_8
  | 111 => some d_l_ways
  | 112 => some d_l_rows_of
  | 113 => some d_l_all_fillings
  | 114 => some d_l_few_blanks
  | 115 => some d_l_pool
  | 116 => some d_law_9
  | 117 => some d_need_many
  | 118 => some d_need_parts
  | 119 => some d_small_rows
  | 120 => some d_is_complete
  | 121 => some d_completing
  | 122 => some d_split
  | 123 => some d_l_is_whole
  | 124 => some d_l_is_full
  | 125 => some d_l_case
  | 126 => some d_l_parts
  | 127 => some d_l_put_together
  | 128 => some d_l_small
  | 129 => some d_l_is_ready
  | 130 => some d_l_is_step_1
  | 131 => some d_l_behind
  | 132 => some d_l_is_shown
  | 133 => some d_l_right_1
  | 134 => some d_law_10
  | 135 => some d_sure_of
  | 136 => some d_need_columns
  | 137 => some d_need_asked
  | 138 => some d_lacking
  | 139 => some d_l_is_row
  | 140 => some d_l_is_table
  | 141 => some d_l_columns
  | 142 => some d_l_sure
  | 143 => some d_l_is_filling
  | 144 => some d_l_asked
  | 145 => some d_l_is_right_1
  | 146 => some d_law_11
  | _ => none
theorem g_is_whole : Γ f_is_whole = some d_is_whole := rfl
@[simp] theorem mu0 : musOf Γ 0 = [false] := rfl
theorem g_is_between : Γ f_is_between = some d_is_between := rfl
@[simp] theorem mu1 : musOf Γ 1 = [false, false, false] := rfl
theorem g_is_set : Γ f_is_set = some d_is_set := rfl
@[simp] theorem mu2 : musOf Γ 2 = [false, false] := rfl
theorem g_is_cell : Γ f_is_cell = some d_is_cell := rfl
@[simp] theorem mu3 : musOf Γ 3 = [false] := rfl
theorem g_is_row : Γ f_is_row = some d_is_row := rfl
@[simp] theorem mu4 : musOf Γ 4 = [false, false] := rfl
theorem g_are_rows : Γ f_are_rows = some d_are_rows := rfl
@[simp] theorem mu5 : musOf Γ 5 = [false, false] := rfl
theorem g_is_table : Γ f_is_table = some d_is_table := rfl
@[simp] theorem mu6 : musOf Γ 6 = [false] := rfl
theorem g_need_table : Γ f_need_table = some d_need_table := rfl
@[simp] theorem mu7 : musOf Γ 7 = [false] := rfl
theorem g_is_rule : Γ f_is_rule = some d_is_rule := rfl
@[simp] theorem mu8 : musOf Γ 8 = [false, false] := rfl
theorem g_are_rules_of : Γ f_are_rules_of = some d_are_rules_of := rfl
@[simp] theorem mu9 : musOf Γ 9 = [false, false] := rfl
theorem g_need_rules : Γ f_need_rules = some d_need_rules := rfl
@[simp] theorem mu10 : musOf Γ 10 = [false, false] := rfl
theorem g_need_both : Γ f_need_both = some d_need_both := rfl
@[simp] theorem mu11 : musOf Γ 11 = [false, false] := rfl
theorem g_places_where : Γ f_places_where = some d_places_where := rfl
@[simp] theorem mu12 : musOf Γ 12 = [false, false] := rfl
theorem g_are_equal : Γ f_are_equal = some d_are_equal := rfl
@[simp] theorem mu13 : musOf Γ 13 = [false, false, false] := rfl
theorem g_rule_holds : Γ f_rule_holds = some d_rule_holds := rfl
@[simp] theorem mu14 : musOf Γ 14 = [false, false] := rfl
theorem g_all_hold : Γ f_all_hold = some d_all_hold := rfl
@[simp] theorem mu15 : musOf Γ 15 = [false, false] := rfl
theorem g_need_full : Γ f_need_full = some d_need_full := rfl
@[simp] theorem mu16 : musOf Γ 16 = [false] := rfl
theorem g_holds : Γ f_holds = some d_holds := rfl
@[simp] theorem mu17 : musOf Γ 17 = [false, false] := rfl
theorem g_breaking : Γ f_breaking = some d_breaking := rfl
@[simp] theorem mu18 : musOf Γ 18 = [false, false] := rfl
theorem g_l_cell_at : Γ f_l_cell_at = some d_l_cell_at := rfl
@[simp] theorem mu19 : musOf Γ 19 = [false, false] := rfl
theorem g_l_pen : Γ f_l_pen = some d_l_pen := rfl
@[simp] theorem mu20 : musOf Γ 20 = [false] := rfl
theorem g_l_draw : Γ f_l_draw = some d_l_draw := rfl
@[simp] theorem mu21 : musOf Γ 21 = [true, false] := rfl
theorem g_l_same : Γ f_l_same = some d_l_same := rfl
@[simp] theorem mu22 : musOf Γ 22 = [false, false] := rfl
theorem g_l_rule : Γ f_l_rule = some d_l_rule := rfl
@[simp] theorem mu23 : musOf Γ 23 = [true, false] := rfl
theorem g_l_rules : Γ f_l_rules = some d_l_rules := rfl
@[simp] theorem mu24 : musOf Γ 24 = [true, false, false] := rfl
theorem g_l_pick_values : Γ f_l_pick_values = some d_l_pick_values := rfl
@[simp] theorem mu25 : musOf Γ 25 = [true] := rfl
theorem g_l_full : Γ f_l_full = some d_l_full := rfl
@[simp] theorem mu26 : musOf Γ 26 = [true, false, false] := rfl
theorem g_l_pairs : Γ f_l_pairs = some d_l_pairs := rfl
@[simp] theorem mu27 : musOf Γ 27 = [false, false] := rfl
theorem g_l_right : Γ f_l_right = some d_l_right := rfl
@[simp] theorem mu28 : musOf Γ 28 = [true] := rfl
theorem g_law : Γ f_law = some d_law := rfl
@[simp] theorem mu29 : musOf Γ 29 = [false] := rfl
theorem g_blanks : Γ f_blanks = some d_blanks := rfl
@[simp] theorem mu30 : musOf Γ 30 = [false] := rfl
theorem g_l_rows : Γ f_l_rows = some d_l_rows := rfl
@[simp] theorem mu31 : musOf Γ 31 = [true, false, false] := rfl
theorem g_l_joined : Γ f_l_joined = some d_l_joined := rfl
@[simp] theorem mu32 : musOf Γ 32 = [false, false, false] := rfl
theorem g_l_values : Γ f_l_values = some d_l_values := rfl
@[simp] theorem mu33 : musOf Γ 33 = [false, false, false, false] := rfl
theorem g_l_is_clash : Γ f_l_is_clash = some d_l_is_clash := rfl
@[simp] theorem mu34 : musOf Γ 34 = [false, false] := rfl
theorem g_l_general : Γ f_l_general = some d_l_general := rfl
@[simp] theorem mu35 : musOf Γ 35 = [false, false, false] := rfl
theorem g_l_kind_rows : Γ f_l_kind_rows = some d_l_kind_rows := rfl
@[simp] theorem mu36 : musOf Γ 36 = [true, false, false, false] := rfl
theorem g_l_all_hold : Γ f_l_all_hold = some d_l_all_hold := rfl
@[simp] theorem mu37 : musOf Γ 37 = [false, false] := rfl
theorem g_l_places : Γ f_l_places = some d_l_places := rfl
@[simp] theorem mu38 : musOf Γ 38 = [false] := rfl
theorem g_l_changed : Γ f_l_changed = some d_l_changed := rfl
@[simp] theorem mu39 : musOf Γ 39 = [true, false] := rfl
theorem g_l_full_1 : Γ f_l_full_1 = some d_l_full_1 := rfl
@[simp] theorem mu40 : musOf Γ 40 = [true, false] := rfl
theorem g_law_1 : Γ f_law_1 = some d_law_1 := rfl
@[simp] theorem mu41 : musOf Γ 41 = [false] := rfl
theorem g_values_at : Γ f_values_at = some d_values_at := rfl
@[simp] theorem mu42 : musOf Γ 42 = [false, false] := rfl
theorem g_first_groups : Γ f_first_groups = some d_first_groups := rfl
@[simp] theorem mu43 : musOf Γ 43 = [false, false] := rfl
theorem g_merged : Γ f_merged = some d_merged := rfl
@[simp] theorem mu44 : musOf Γ 44 = [false, false, false] := rfl
theorem g_is_possible : Γ f_is_possible = some d_is_possible := rfl
@[simp] theorem mu45 : musOf Γ 45 = [false, false, false, false] := rfl
theorem g_next_step : Γ f_next_step = some d_next_step := rfl
@[simp] theorem mu46 : musOf Γ 46 = [false, false, false] := rfl
theorem g_after_step : Γ f_after_step = some d_after_step := rfl
@[simp] theorem mu47 : musOf Γ 47 = [false, false, false] := rfl
theorem g_close : Γ f_close = some d_close := rfl
@[simp] theorem mu48 : musOf Γ 48 = [false, false, false] := rfl
theorem g_groups_of : Γ f_groups_of = some d_groups_of := rfl
@[simp] theorem mu49 : musOf Γ 49 = [false, false, false] := rfl
theorem g_lots_in : Γ f_lots_in = some d_lots_in := rfl
@[simp] theorem mu50 : musOf Γ 50 = [false] := rfl
theorem g_lots : Γ f_lots = some d_lots := rfl
@[simp] theorem mu51 : musOf Γ 51 = [false, false] := rfl
theorem g_l_lots : Γ f_l_lots = some d_l_lots := rfl
@[simp] theorem mu52 : musOf Γ 52 = [false, false, false] := rfl
theorem g_law_2 : Γ f_law_2 = some d_law_2 := rfl
@[simp] theorem mu53 : musOf Γ 53 = [false] := rfl
theorem g_need_place : Γ f_need_place = some d_need_place := rfl
@[simp] theorem mu54 : musOf Γ 54 = [false, false] := rfl
theorem g_with_cell : Γ f_with_cell = some d_with_cell := rfl
@[simp] theorem mu55 : musOf Γ 55 = [false, false, false] := rfl
theorem g_values_of : Γ f_values_of = some d_values_of := rfl
@[simp] theorem mu56 : musOf Γ 56 = [false, false, false] := rfl
theorem g_value_in : Γ f_value_in = some d_value_in := rfl
@[simp] theorem mu57 : musOf Γ 57 = [false, false, false, false] := rfl
theorem g_is_conflict : Γ f_is_conflict = some d_is_conflict := rfl
@[simp] theorem mu58 : musOf Γ 58 = [false, false] := rfl
theorem g_has_filling : Γ f_has_filling = some d_has_filling := rfl
@[simp] theorem mu59 : musOf Γ 59 = [false, false, false] := rfl
theorem g_need_groups : Γ f_need_groups = some d_need_groups := rfl
@[simp] theorem mu60 : musOf Γ 60 = [false, false] := rfl
theorem g_may_be : Γ f_may_be = some d_may_be := rfl
@[simp] theorem mu61 : musOf Γ 61 = [false, false, false, false] := rfl
theorem g_column_values : Γ f_column_values = some d_column_values := rfl
@[simp] theorem mu62 : musOf Γ 62 = [false, false] := rfl
theorem g_choices : Γ f_choices = some d_choices := rfl
@[simp] theorem mu63 : musOf Γ 63 = [false, false, false] := rfl
theorem g_l_has_filling : Γ f_l_has_filling = some d_l_has_filling := rfl
@[simp] theorem mu64 : musOf Γ 64 = [false, false, false] := rfl
theorem g_l_with : Γ f_l_with = some d_l_with := rfl
@[simp] theorem mu65 : musOf Γ 65 = [false, false, false, false] := rfl
theorem g_l_due : Γ f_l_due = some d_l_due := rfl
@[simp] theorem mu66 : musOf Γ 66 = [false, false, false, false, false] := rfl
theorem g_law_3 : Γ f_law_3 = some d_law_3 := rfl
@[simp] theorem mu67 : musOf Γ 67 = [false] := rfl
theorem g_picks_of : Γ f_picks_of = some d_picks_of := rfl
@[simp] theorem mu68 : musOf Γ 68 = [false, false] := rfl
theorem g_cleared : Γ f_cleared = some d_cleared := rfl
@[simp] theorem mu69 : musOf Γ 69 = [false, false] := rfl
theorem g_clearing : Γ f_clearing = some d_clearing := rfl
@[simp] theorem mu70 : musOf Γ 70 = [false, false, false] := rfl
theorem g_l_places_1 : Γ f_l_places_1 = some d_l_places_1 := rfl
@[simp] theorem mu71 : musOf Γ 71 = [false] := rfl
theorem g_l_picks : Γ f_l_picks = some d_l_picks := rfl
@[simp] theorem mu72 : musOf Γ 72 = [false] := rfl
theorem g_l_due_1 : Γ f_l_due_1 = some d_l_due_1 := rfl
@[simp] theorem mu73 : musOf Γ 73 = [false, false, false] := rfl
theorem g_l_is_enough : Γ f_l_is_enough = some d_l_is_enough := rfl
@[simp] theorem mu74 : musOf Γ 74 = [false, false, false, false] := rfl
theorem g_law_4 : Γ f_law_4 = some d_law_4 := rfl
@[simp] theorem mu75 : musOf Γ 75 = [false] := rfl
theorem g_may_meet : Γ f_may_meet = some d_may_meet := rfl
@[simp] theorem mu76 : musOf Γ 76 = [false, false, false, false, false] := rfl
theorem g_are_able : Γ f_are_able = some d_are_able := rfl
@[simp] theorem mu77 : musOf Γ 77 = [false, false, false, false, false] := rfl
theorem g_are_joined : Γ f_are_joined = some d_are_joined := rfl
@[simp] theorem mu78 : musOf Γ 78 = [false, false, false, false] := rfl
theorem g_relation : Γ f_relation = some d_relation := rfl
@[simp] theorem mu79 : musOf Γ 79 = [false, false, false, false] := rfl
theorem g_l_value : Γ f_l_value = some d_l_value := rfl
@[simp] theorem mu80 : musOf Γ 80 = [false, false, false] := rfl
theorem g_l_meets : Γ f_l_meets = some d_l_meets := rfl
@[simp] theorem mu81 : musOf Γ 81 = [false, false, false, false, false] := rfl
theorem g_l_due_2 : Γ f_l_due_2 = some d_l_due_2 := rfl
@[simp] theorem mu82 : musOf Γ 82 = [false, false, false, false, false, false] := rfl
theorem g_l_are_right : Γ f_l_are_right = some d_l_are_right := rfl
@[simp] theorem mu83 : musOf Γ 83 = [true, false, false, false] := rfl
theorem g_law_5 : Γ f_law_5 = some d_law_5 := rfl
@[simp] theorem mu84 : musOf Γ 84 = [false] := rfl
theorem g_may_have : Γ f_may_have = some d_may_have := rfl
@[simp] theorem mu85 : musOf Γ 85 = [false, false, false, false, false] := rfl
theorem g_may_have_both : Γ f_may_have_both = some d_may_have_both := rfl
@[simp] theorem mu86 : musOf Γ 86 = [false, false, false, false, false] := rfl
theorem g_together : Γ f_together = some d_together := rfl
@[simp] theorem mu87 : musOf Γ 87 = [false, false, false, false] := rfl
theorem g_l_can : Γ f_l_can = some d_l_can := rfl
@[simp] theorem mu88 : musOf Γ 88 = [false, false, false, false] := rfl
theorem g_l_own : Γ f_l_own = some d_l_own := rfl
@[simp] theorem mu89 : musOf Γ 89 = [false, false, false, false] := rfl
theorem g_l_due_3 : Γ f_l_due_3 = some d_l_due_3 := rfl
@[simp] theorem mu90 : musOf Γ 90 = [false, false, false, false, false] := rfl
theorem g_l_are_right_1 : Γ f_l_are_right_1 = some d_l_are_right_1 := rfl
@[simp] theorem mu91 : musOf Γ 91 = [true, false, false, false, false] := rfl
theorem g_law_6 : Γ f_law_6 = some d_law_6 := rfl
@[simp] theorem mu92 : musOf Γ 92 = [false] := rfl
theorem g_conflict_steps : Γ f_conflict_steps = some d_conflict_steps := rfl
@[simp] theorem mu93 : musOf Γ 93 = [false, false, false] := rfl
theorem g_general_rows : Γ f_general_rows = some d_general_rows := rfl
@[simp] theorem mu94 : musOf Γ 94 = [false, false, false, false] := rfl
theorem g_verdict : Γ f_verdict = some d_verdict := rfl
@[simp] theorem mu95 : musOf Γ 95 = [false, false] := rfl
theorem g_l_is_number : Γ f_l_is_number = some d_l_is_number := rfl
@[simp] theorem mu96 : musOf Γ 96 = [false, false, false] := rfl
theorem g_l_is_step : Γ f_l_is_step = some d_l_is_step := rfl
@[simp] theorem mu97 : musOf Γ 97 = [false, false, false] := rfl
theorem g_l_walked : Γ f_l_walked = some d_l_walked := rfl
@[simp] theorem mu98 : musOf Γ 98 = [false, false, false, false] := rfl
theorem g_l_is_right : Γ f_l_is_right = some d_l_is_right := rfl
@[simp] theorem mu99 : musOf Γ 99 = [false, false, false, false] := rfl
theorem g_law_7 : Γ f_law_7 = some d_law_7 := rfl
@[simp] theorem mu100 : musOf Γ 100 = [false] := rfl
theorem g_is_step : Γ f_is_step = some d_is_step := rfl
@[simp] theorem mu101 : musOf Γ 101 = [false, false, false] := rfl
theorem g_groups_behind : Γ f_groups_behind = some d_groups_behind := rfl
@[simp] theorem mu102 : musOf Γ 102 = [false, false, false, false] := rfl
theorem g_fits : Γ f_fits = some d_fits := rfl
@[simp] theorem mu103 : musOf Γ 103 = [false, false] := rfl
theorem g_is_filling : Γ f_is_filling = some d_is_filling := rfl
@[simp] theorem mu104 : musOf Γ 104 = [false, false, false] := rfl
theorem g_shows_verdict : Γ f_shows_verdict = some d_shows_verdict := rfl
@[simp] theorem mu105 : musOf Γ 105 = [false, false, false] := rfl
theorem g_certain_in : Γ f_certain_in = some d_certain_in := rfl
@[simp] theorem mu106 : musOf Γ 106 = [false, false, false] := rfl
theorem g_certain : Γ f_certain = some d_certain := rfl
@[simp] theorem mu107 : musOf Γ 107 = [false, false] := rfl
theorem g_l_are_less_right : Γ f_l_are_less_right = some d_l_are_less_right := rfl
@[simp] theorem mu108 : musOf Γ 108 = [false, false, false, false] := rfl
theorem g_l_are_written_right : Γ f_l_are_written_right = some d_l_are_written_right := rfl
@[simp] theorem mu109 : musOf Γ 109 = [false, false, false, false] := rfl
theorem g_law_8 : Γ f_law_8 = some d_law_8 := rfl
@[simp] theorem mu110 : musOf Γ 110 = [false] := rfl
theorem g_l_ways : Γ f_l_ways = some d_l_ways := rfl
@[simp] theorem mu111 : musOf Γ 111 = [false, false] := rfl
theorem g_l_rows_of : Γ f_l_rows_of = some d_l_rows_of := rfl
@[simp] theorem mu112 : musOf Γ 112 = [false, false] := rfl
theorem g_l_all_fillings : Γ f_l_all_fillings = some d_l_all_fillings := rfl
@[simp] theorem mu113 : musOf Γ 113 = [false, false, false, false] := rfl
theorem g_l_few_blanks : Γ f_l_few_blanks = some d_l_few_blanks := rfl
@[simp] theorem mu114 : musOf Γ 114 = [true, false, false, false] := rfl
theorem g_l_pool : Γ f_l_pool = some d_l_pool := rfl
@[simp] theorem mu115 : musOf Γ 115 = [false, false] := rfl
theorem g_law_9 : Γ f_law_9 = some d_law_9 := rfl
@[simp] theorem mu116 : musOf Γ 116 = [false] := rfl
theorem g_need_many : Γ f_need_many = some d_need_many := rfl
@[simp] theorem mu117 : musOf Γ 117 = [false] := rfl
theorem g_need_parts : Γ f_need_parts = some d_need_parts := rfl
@[simp] theorem mu118 : musOf Γ 118 = [false, false] := rfl
theorem g_small_rows : Γ f_small_rows = some d_small_rows := rfl
@[simp] theorem mu119 : musOf Γ 119 = [false, false] := rfl
theorem g_is_complete : Γ f_is_complete = some d_is_complete := rfl
@[simp] theorem mu120 : musOf Γ 120 = [false, false] := rfl
theorem g_completing : Γ f_completing = some d_completing := rfl
@[simp] theorem mu121 : musOf Γ 121 = [false, false, false] := rfl
theorem g_split : Γ f_split = some d_split := rfl
@[simp] theorem mu122 : musOf Γ 122 = [false, false, false] := rfl
theorem g_l_is_whole : Γ f_l_is_whole = some d_l_is_whole := rfl
@[simp] theorem mu123 : musOf Γ 123 = [false, false] := rfl
theorem g_l_is_full : Γ f_l_is_full = some d_l_is_full := rfl
@[simp] theorem mu124 : musOf Γ 124 = [false, false] := rfl
theorem g_l_case : Γ f_l_case = some d_l_case := rfl
@[simp] theorem mu125 : musOf Γ 125 = [true] := rfl
theorem g_l_parts : Γ f_l_parts = some d_l_parts := rfl
@[simp] theorem mu126 : musOf Γ 126 = [true, false] := rfl
theorem g_l_put_together : Γ f_l_put_together = some d_l_put_together := rfl
@[simp] theorem mu127 : musOf Γ 127 = [false, false, false] := rfl
theorem g_l_small : Γ f_l_small = some d_l_small := rfl
@[simp] theorem mu128 : musOf Γ 128 = [false, false] := rfl
theorem g_l_is_ready : Γ f_l_is_ready = some d_l_is_ready := rfl
@[simp] theorem mu129 : musOf Γ 129 = [false, false] := rfl
theorem g_l_is_step_1 : Γ f_l_is_step_1 = some d_l_is_step_1 := rfl
@[simp] theorem mu130 : musOf Γ 130 = [false, false, false] := rfl
theorem g_l_behind : Γ f_l_behind = some d_l_behind := rfl
@[simp] theorem mu131 : musOf Γ 131 = [false, false, false, false] := rfl
theorem g_l_is_shown : Γ f_l_is_shown = some d_l_is_shown := rfl
@[simp] theorem mu132 : musOf Γ 132 = [false, false, false, false] := rfl
theorem g_l_right_1 : Γ f_l_right_1 = some d_l_right_1 := rfl
@[simp] theorem mu133 : musOf Γ 133 = [true] := rfl
theorem g_law_10 : Γ f_law_10 = some d_law_10 := rfl
@[simp] theorem mu134 : musOf Γ 134 = [false] := rfl
theorem g_sure_of : Γ f_sure_of = some d_sure_of := rfl
@[simp] theorem mu135 : musOf Γ 135 = [false, false, false] := rfl
theorem g_need_columns : Γ f_need_columns = some d_need_columns := rfl
@[simp] theorem mu136 : musOf Γ 136 = [false, false] := rfl
theorem g_need_asked : Γ f_need_asked = some d_need_asked := rfl
@[simp] theorem mu137 : musOf Γ 137 = [false, false, false, false] := rfl
theorem g_lacking : Γ f_lacking = some d_lacking := rfl
@[simp] theorem mu138 : musOf Γ 138 = [false, false, false, false] := rfl
theorem g_l_is_row : Γ f_l_is_row = some d_l_is_row := rfl
@[simp] theorem mu139 : musOf Γ 139 = [false, false] := rfl
theorem g_l_is_table : Γ f_l_is_table = some d_l_is_table := rfl
@[simp] theorem mu140 : musOf Γ 140 = [false] := rfl
theorem g_l_columns : Γ f_l_columns = some d_l_columns := rfl
@[simp] theorem mu141 : musOf Γ 141 = [true, false] := rfl
theorem g_l_sure : Γ f_l_sure = some d_l_sure := rfl
@[simp] theorem mu142 : musOf Γ 142 = [false, false, false, false] := rfl
theorem g_l_is_filling : Γ f_l_is_filling = some d_l_is_filling := rfl
@[simp] theorem mu143 : musOf Γ 143 = [false, false, false, false] := rfl
theorem g_l_asked : Γ f_l_asked = some d_l_asked := rfl
@[simp] theorem mu144 : musOf Γ 144 = [true, false, false, false, false] := rfl
theorem g_l_is_right_1 : Γ f_l_is_right_1 = some d_l_is_right_1 := rfl
@[simp] theorem mu145 : musOf Γ 145 = [false, false, false, false] := rfl
theorem g_law_11 : Γ f_law_11 = some d_law_11 := rfl
@[simp] theorem mu146 : musOf Γ 146 = [false] := rfl
def con : Nat → Option D
  | 0 => some (.int 5)
  | 1 => some (.int 8)
  | 2 => some (.int 8)
  | 3 => some (.int 9999)
  | 4 => some (.int 6)
  | 5 => some (.int 4)
  | 6 => some (.int 2)
  | 7 => some (.str "filling")
  | 8 => some (.str "conflict")
  | 9 => some (.str "exact")
  | 10 => some (.str "table")
  | _ => none
end MP
end

section
set_option Elab.async false
set_option linter.all false
set_option maxRecDepth 100000
set_option maxHeartbeats 8000000
namespace MP
open PySem
noncomputable section
def evD (C : Cfg) (e : E) : Env → Option (D × Env) := fun ρ => toD (ev C e ρ)
def evT (C : Cfg) (es : Es) : Env → Option (Bool × Env) := fun ρ => evTs C es ρ
def exB (C : Cfg) (b : Ss) : Env → Option Fl := fun ρ => execs C b ρ
def evB (C : Cfg) (e : E) : Env → Option (Bool × Env) := fun ρ => toB (ev C e ρ)
def evIn (C : Cfg) (elt : E) (tg : Tg) (it : It) (ifs : Es) : Env → Option (List D × Env) := fun ρ => (evI C it ρ).bind fun q => lcGo (evD C elt) (evT C ifs) tg (tgSlots tg) q.1 (wipeE q.2 (tgSlots tg))
@[simp] theorem ev_non (C : Cfg)  (ρ : Env) : ev C (.non) ρ = (some (.sh .none, ρ)) := rfl
@[simp] theorem ev_bl (C : Cfg) (b : Bool) (ρ : Env) : ev C (.bl b) ρ = (some (.sh (.bool b), ρ)) := rfl
@[simp] theorem ev_int (C : Cfg) (i : Int) (ρ : Env) : ev C (.int i) ρ = (some (.sh (.int i), ρ)) := rfl
@[simp] theorem ev_str (C : Cfg) (s : Str) (ρ : Env) : ev C (.str s) ρ = (some (.sh (.str s), ρ)) := rfl
@[simp] theorem ev_var (C : Cfg) (i : Nat) (ρ : Env) : ev C (.var i) ρ = ((evVar i ρ).bind fun p => some (.sh p.1, p.2)) := rfl
@[simp] theorem ev_glo (C : Cfg) (g : Nat) (ρ : Env) : ev C (.glo g) ρ = ((C.con g).bind fun d => some (.sh d, ρ)) := rfl
@[simp] theorem ev_op (C : Cfg) (o : O2) (a b : E) (ρ : Env) : ev C (.op o a b) ρ = ((toO a ρ (ev C a ρ)).bind fun p => (toO b p.2 (ev C b p.2)).bind fun q => (fetch q.2 p.1).bind fun x => (fetch q.2 q.1).bind fun y => (op2 o x y).bind fun v => some (v, q.2)) := rfl
@[simp] theorem ev_neg (C : Cfg) (a : E) (ρ : Env) : ev C (.neg a) ρ = ((toD (ev C a ρ)).bind fun p => (asI p.1).bind fun i => some (.sh (.int (-i)), p.2)) := rfl
@[simp] theorem ev_cmp (C : Cfg) (o : C2) (a b : E) (ρ : Env) : ev C (.cmp o a b) ρ = ((toO a ρ (ev C a ρ)).bind fun p => (toO b p.2 (ev C b p.2)).bind fun q => (fetch q.2 p.1).bind fun x => (fetch q.2 q.1).bind fun y => (cmpD o x y).bind fun c => some (.sh (.bool c), q.2)) := rfl
@[simp] theorem ev_cmp2 (C : Cfg) (o o' : C2) (a b c : E) (ρ : Env) : ev C (.cmp2 o o' a b c) ρ = ((toD (ev C a ρ)).bind fun p => (toD (ev C b p.2)).bind fun q => (cmpD o p.1 q.1).bind fun k =>
      if k then (toD (ev C c q.2)).bind fun r => (cmpD o' q.1 r.1).bind fun k' => some (.sh (.bool k'), r.2) else some (.sh (.bool false), q.2)) := rfl
@[simp] theorem ev_isN (C : Cfg) (a : E) (ρ : Env) : ev C (.isN a) ρ = ((toO a ρ (ev C a ρ)).bind fun p => (fetch p.2 p.1).bind fun x => some (.sh (.bool (isNoneD x)), p.2)) := rfl
@[simp] theorem ev_notN (C : Cfg) (a : E) (ρ : Env) : ev C (.notN a) ρ = ((toO a ρ (ev C a ρ)).bind fun p => (fetch p.2 p.1).bind fun x => some (.sh (.bool (!isNoneD x)), p.2)) := rfl
@[simp] theorem ev_not (C : Cfg) (a : E) (ρ : Env) : ev C (.not a) ρ = ((toB (ev C a ρ)).bind fun p => some (.sh (.bool (!p.1)), p.2)) := rfl
@[simp] theorem ev_and (C : Cfg) (a b : E) (ρ : Env) : ev C (.and a b) ρ = ((toB (ev C a ρ)).bind fun p => if p.1 then (toD (ev C b p.2)).bind fun q => some (.sh q.1, q.2) else some (.sh (.bool false), p.2)) := rfl
@[simp] theorem ev_or (C : Cfg) (a b : E) (ρ : Env) : ev C (.or a b) ρ = ((toB (ev C a ρ)).bind fun p => if p.1 then some (.sh (.bool true), p.2) else (toD (ev C b p.2)).bind fun q => some (.sh q.1, q.2)) := rfl
@[simp] theorem ev_ite (C : Cfg) (c a b : E) (ρ : Env) : ev C (.ite c a b) ρ = ((toB (ev C c ρ)).bind fun p => if p.1 then ev C a p.2 else ev C b p.2) := rfl
@[simp] theorem ev_tup (C : Cfg) (es : Es) (ρ : Env) : ev C (.tup es) ρ = ((evs C es ρ).bind fun p => if p.1.length ≤ lim then some (.sh (.tuple p.1), p.2) else none) := rfl
@[simp] theorem ev_lst (C : Cfg) (es : Es) (ρ : Env) : ev C (.lst es) ρ = ((evs C es ρ).bind fun p => if p.1.length ≤ lim then some (.ow (.lst p.1), p.2) else none) := rfl
@[simp] theorem ev_ix (C : Cfg) (a b : E) (ρ : Env) : ev C (.ix a b) ρ = ((toO a ρ (ev C a ρ)).bind fun p => (toD (ev C b p.2)).bind fun q => (fetch q.2 p.1).bind fun x => (ixD x q.1).bind fun d => some (.sh d, q.2)) := rfl
@[simp] theorem ev_slH (C : Cfg) (a hi : E) (ρ : Env) : ev C (.slH a hi) ρ = ((toO a ρ (ev C a ρ)).bind fun p => (toD (ev C hi p.2)).bind fun q => (fetch q.2 p.1).bind fun x => (asI q.1).bind fun j => (slD x none (some j)).bind fun v => some (v, q.2)) := rfl
@[simp] theorem ev_slL (C : Cfg) (a lo : E) (ρ : Env) : ev C (.slL a lo) ρ = ((toO a ρ (ev C a ρ)).bind fun p => (toD (ev C lo p.2)).bind fun q => (fetch q.2 p.1).bind fun x => (asI q.1).bind fun j => (slD x (some j) none).bind fun v => some (v, q.2)) := rfl
@[simp] theorem ev_slB (C : Cfg) (a lo hi : E) (ρ : Env) : ev C (.slB a lo hi) ρ = ((toO a ρ (ev C a ρ)).bind fun p => (toD (ev C lo p.2)).bind fun q => (toD (ev C hi q.2)).bind fun r => (fetch r.2 p.1).bind fun x => (asI q.1).bind fun i => (asI r.1).bind fun j => (slD x (some i) (some j)).bind fun v => some (v, r.2)) := rfl
@[simp] theorem ev_rev (C : Cfg) (a : E) (ρ : Env) : ev C (.rev a) ρ = ((toO a ρ (ev C a ρ)).bind fun p => (fetch p.2 p.1).bind fun x => (revD x).bind fun v => some (v, p.2)) := rfl
@[simp] theorem ev_call (C : Cfg) (f : Nat) (es : Es) (ρ : Env) : ev C (.call f es) ρ = ((evA C es (C.mus f) ρ).bind fun p => doCall C f p.1 p.2) := rfl
@[simp] theorem ev_blt (C : Cfg) (b : Blt) (es : Es) (ρ : Env) : ev C (.blt b es) ρ = ((evOs C es ρ).bind fun p => (fetchs p.2 p.1).bind fun xs => (bltD b xs).bind fun v => some (v, p.2)) := rfl
@[simp] theorem ev_isi (C : Cfg) (a : E) (t : Ty) (ρ : Env) : ev C (.isi a t) ρ = ((toO a ρ (ev C a ρ)).bind fun p => (fetch p.2 p.1).bind fun x => some (.sh (.bool (isiD x t)), p.2)) := rfl
@[simp] theorem ev_lc (C : Cfg) (elt : E) (tg : Tg) (it : It) (ifs : Es) (own : List Nat) (ρ : Env) : ev C (.lc elt tg it ifs own) ρ = ((evI C it ρ).bind fun p => if own.any (isBo p.2) then none else (ckN p.1.length).bind fun _ =>
      (lcGo (evD C elt) (evT C ifs) tg own p.1 (wipeE p.2 own)).bind fun r => some (.ow (.lst r.1), back p.2 r.2 own)) := rfl
@[simp] theorem ev_lc2 (C : Cfg) (elt : E) (tg : Tg) (it : It) (ifs : Es) (tg' : Tg) (it' : It) (ifs' : Es) (own : List Nat) (ρ : Env) : ev C (.lc2 elt tg it ifs tg' it' ifs' own) ρ = ((evI C it ρ).bind fun p => if own.any (isBo p.2) then none else
      (lcGo2 (evIn C elt tg' it' ifs') (evT C ifs) tg own p.1 (wipeE p.2 own)).bind fun r =>
        if r.1.length ≤ lim then some (.ow (.lst r.1), back p.2 r.2 own) else none) := rfl
@[simp] theorem ev_pop (C : Cfg) (i : Nat) (a : E) (ρ : Env) : ev C (.pop i a) ρ = (if isLst ρ i then (toD (ev C a ρ)).bind fun p => (asI p.1).bind fun k => (chg i (popOb k) p.2).bind fun q => some (.sh q.1, q.2) else none) := rfl
@[simp] theorem ev_idx (C : Cfg) (a b : E) (ρ : Env) : ev C (.idx a b) ρ = ((toO a ρ (ev C a ρ)).bind fun p => (fetch p.2 p.1).bind fun x0 => if !isLD x0 then none else (toD (ev C b p.2)).bind fun q => (fetch q.2 p.1).bind fun x => (idxD x q.1).bind fun d => some (.sh d, q.2)) := rfl
@[simp] theorem ev_dnew (C : Cfg)  (ρ : Env) : ev C (.dnew) ρ = (some (.ow (.dic []), ρ)) := rfl
@[simp] theorem ev_din (C : Cfg) (ng : Bool) (i : Nat) (k : E) (ρ : Env) : ev C (.din ng i k) ρ = ((toD (ev C k ρ)).bind fun p => (keyD p.1).bind fun ky => (dicAt p.2 i).bind fun kvs => some (.sh (.bool (if ng then !(kvGet kvs ky).isSome else (kvGet kvs ky).isSome)), p.2)) := rfl
@[simp] theorem ev_dget (C : Cfg) (i : Nat) (k : E) (ρ : Env) : ev C (.dget i k) ρ = ((dicAt ρ i).bind fun _ => (toD (ev C k ρ)).bind fun p => (keyD p.1).bind fun ky => (dicAt p.2 i).bind fun kvs => (kvGet kvs ky).bind fun d => some (.sh d, p.2)) := rfl
@[simp] theorem ev_dln (C : Cfg) (i : Nat) (ρ : Env) : ev C (.dln i) ρ = ((dicAt ρ i).bind fun kvs => some (.sh (.int kvs.length), ρ)) := rfl
@[simp] theorem ev_sset (C : Cfg) (a : E) (ρ : Env) : ev C (.sset a) ρ = ((toO a ρ (ev C a ρ)).bind fun p => (fetch p.2 p.1).bind fun x => (ssetD x).bind fun v => some (v, p.2)) := rfl
@[simp] theorem ev_frz (C : Cfg) (a : E) (ρ : Env) : ev C (.frz a) ρ = ((toD (ev C a ρ)).bind fun p => some (.sh p.1, p.2)) := rfl
@[simp] theorem ev_cmp3 (C : Cfg) (o o' o'' : C2) (a b c d : E) (ρ : Env) : ev C (.cmp3 o o' o'' a b c d) ρ = ((toD (ev C a ρ)).bind fun p => (toD (ev C b p.2)).bind fun q => (cmpD o p.1 q.1).bind fun k =>
      if k then (toD (ev C c q.2)).bind fun r => (cmpD o' q.1 r.1).bind fun k' => if k' then (toD (ev C d r.2)).bind fun t => (cmpD o'' r.1 t.1).bind fun k'' => some (.sh (.bool k''), t.2) else some (.sh (.bool false), r.2) else some (.sh (.bool false), q.2)) := rfl
@[simp] theorem ev_isT (C : Cfg) (ng : Bool) (a : E) (ρ : Env) : ev C (.isT ng a) ρ = ((toB (ev C a ρ)).bind fun p => some (.sh (.bool (if ng then !p.1 else p.1)), p.2)) := rfl
@[simp] theorem ev_or2 (C : Cfg) (a b : E) (ρ : Env) : ev C (.or2 a b) ρ = ((toD (ev C a ρ)).bind fun p => (truD p.1).bind fun k => if k then (asI p.1).bind fun i => some (.sh (.int i), p.2) else (toD (ev C b p.2)).bind fun q => (asI q.1).bind fun i => some (.sh (.int i), q.2)) := rfl
@[simp] theorem ev_lrng (C : Cfg) (a : E) (ρ : Env) : ev C (.lrng a) ρ = ((toD (ev C a ρ)).bind fun p => (asI p.1).bind fun n => (ckI n).bind fun _ => some (.ow (.lst (rngD 0 n)), p.2)) := rfl
@[simp] theorem ev_trng (C : Cfg) (a : E) (ρ : Env) : ev C (.trng a) ρ = ((toD (ev C a ρ)).bind fun p => (asI p.1).bind fun n => (ckI n).bind fun _ => some (.sh (.tuple (rngD 0 n)), p.2)) := rfl
@[simp] theorem ev_dsd (C : Cfg) (i : Nat) (k v : E) (ρ : Env) : ev C (.dsd i k v) ρ = ((dicAt ρ i).bind fun _ => (toD (ev C k ρ)).bind fun p => (keyD p.1).bind fun ky => (toD (ev C v p.2)).bind fun q => (chg i (sdOb ky q.1) q.2).bind fun r => some (.sh r.1, r.2)) := rfl
@[simp] theorem ev_calld (C : Cfg) (f : Nat) (es : Es) (ρ : Env) : ev C (.calld f es) ρ = ((evA C es (C.mus f) ρ).bind fun p => doCall C f (p.1 ++ [.d (.tuple [])]) p.2) := rfl
@[simp] theorem exec_par2 (C : Cfg) (i j : Nat) (a b : E) (ρ : Env) : exec C (.par2 i j a b) ρ = ((ev C a ρ).bind fun p => (ev C b p.2).bind fun q => (stV j q.1 q.2).bind fun ρ1 => (stV i p.1 ρ1).bind fun ρ2 => some (.nx ρ2)) := rfl
@[simp] theorem exec_par3 (C : Cfg) (i j k : Nat) (a b c : E) (ρ : Env) : exec C (.par3 i j k a b c) ρ = ((ev C a ρ).bind fun p => (ev C b p.2).bind fun q => (ev C c q.2).bind fun r => (stV k r.1 r.2).bind fun ρ1 => (stV j q.1 ρ1).bind fun ρ2 => (stV i p.1 ρ2).bind fun ρ3 => some (.nx ρ3)) := rfl
@[simp] theorem exec_expr (C : Cfg) (e : E) (ρ : Env) : exec C (.expr e) ρ = ((ev C e ρ).bind fun p => some (.nx p.2)) := rfl
@[simp] theorem exec_app (C : Cfg) (i : Nat) (e : E) (ρ : Env) : exec C (.app i e) ρ = (if !isLst ρ i then none else (toD (ev C e ρ)).bind fun p => (chg i (appOb p.1) p.2).bind fun q => some (.nx q.2)) := rfl
@[simp] theorem exec_ext (C : Cfg) (i : Nat) (e : E) (ρ : Env) : exec C (.ext i e) ρ = (if !isLst ρ i then none else (toD (ev C e ρ)).bind fun p => (items p.1).bind fun ys => (chg i (extOb ys) p.2).bind fun q => some (.nx q.2)) := rfl
@[simp] theorem exec_sti (C : Cfg) (i : Nat) (a e : E) (ρ : Env) : exec C (.sti i a e) ρ = ((toD (ev C e ρ)).bind fun p => if !isOwn (p.2.getD i .un) then none else (toD (ev C a p.2)).bind fun k => (chg i (stOb k.1 p.1) k.2).bind fun q => some (.nx q.2)) := rfl
@[simp] theorem exec_ite (C : Cfg) (c : E) (a b : Ss) (ρ : Env) : exec C (.ite c a b) ρ = ((toB (ev C c ρ)).bind fun p => if p.1 then execs C a p.2 else execs C b p.2) := rfl
@[simp] theorem exec_for (C : Cfg) (tg : Tg) (it : It) (b : Ss) (ρ : Env) : exec C (.for tg it b) ρ = ((evI C it ρ).bind fun p => forGo (exB C b) tg p.1 p.2) := rfl
@[simp] theorem exec_whl (C : Cfg) (c : E) (b : Ss) (ρ : Env) : exec C (.whl c b) ρ = (whlGo (evB C c) (exB C b) wfuel ρ) := rfl
@[simp] theorem exec_ret (C : Cfg) (e : E) (ρ : Env) : exec C (.ret e) ρ = ((retE C e ρ).bind fun p => some (.rt p.1 p.2)) := rfl
@[simp] theorem exec_retN (C : Cfg)  (ρ : Env) : exec C (.retN) ρ = (some (.rt (.sh .none) ρ)) := rfl
@[simp] theorem exec_pass (C : Cfg)  (ρ : Env) : exec C (.pass) ρ = (some (.nx ρ)) := rfl
@[simp] theorem exec_brk (C : Cfg)  (ρ : Env) : exec C (.brk) ρ = (some (.bk ρ)) := rfl
@[simp] theorem exec_cnt (C : Cfg)  (ρ : Env) : exec C (.cnt) ρ = (some (.ct ρ)) := rfl
@[simp] theorem exec_asg1 (C : Cfg) (i : Nat) (e : E) (ρ : Env) : exec C (.asg (.nm i) e) ρ = ((ev C e ρ).bind fun p => (stV i p.1 p.2).bind fun ρ' => some (.nx ρ')) := rfl
@[simp] theorem exec_asg2 (C : Cfg) (a b : Tg) (e : E) (ρ : Env) : exec C (.asg (.t2 a b) e) ρ = ((toD (ev C e ρ)).bind fun p => (stTg (.t2 a b) p.1 p.2).bind fun ρ' => some (.nx ρ')) := rfl
@[simp] theorem exec_asg3 (C : Cfg) (a b c : Tg) (e : E) (ρ : Env) : exec C (.asg (.t3 a b c) e) ρ = ((toD (ev C e ρ)).bind fun p => (stTg (.t3 a b c) p.1 p.2).bind fun ρ' => some (.nx ρ')) := rfl
@[simp] theorem exec_raise (C : Cfg) (ρ : Env) : exec C .raise ρ = none := rfl
def isBoE : Ent → Bool | .bo _ => true | _ => false
@[simp] theorem isBoE_un : isBoE .un = false := rfl
@[simp] theorem isBoE_sh (d : D) : isBoE (.sh d) = false := rfl
@[simp] theorem isBoE_ow (o : Ob) : isBoE (.ow o) = false := rfl
@[simp] theorem isBoE_bo (o : Ob) : isBoE (.bo o) = true := rfl
theorem isBo_eq (ρ : Env) (i : Nat) : isBo ρ i = isBoE (ρ.getD i .un) := by
  unfold isBo isBoE
  rfl
end
end MP
end

section
set_option Elab.async false
set_option linter.all false
set_option maxRecDepth 100000
set_option maxHeartbeats 8000000
namespace MP
open PySem

/-! ### the interpreter, step by step -/
theorem yin {i : Int} (h1 : -1000000 ≤ i) (h2 : i ≤ 1000000) : inLim i = true := by
  rw [inLim_def]
  simp [h1, h2]
theorem kI {i : Int} (h1 : -1000000 ≤ i) (h2 : i ≤ 1000000) : ckI i = some () := by
  unfold ckI
  rw [yin h1 h2]
  rfl
theorem kN {k : Nat} (h : k ≤ 1000000) : ckN k = some () := by
  unfold ckN
  exact if_pos h
theorem nlim {k : Nat} (h : k ≤ 1000000) : ¬ lim < k := by show ¬ 1000000 < k; omega
theorem ylim {k : Nat} (h : k ≤ 1000000) : k ≤ lim := h
theorem ylim' {k : Nat} (h : k < 1000000) : k < lim := h
@[simp] theorem lim_1 : 1 ≤ lim := by unfold lim; omega
@[simp] theorem lim_2 : 2 ≤ lim := by unfold lim; omega
@[simp] theorem lim_3 : 3 ≤ lim := by unfold lim; omega
@[simp] theorem lim_4 : 4 ≤ lim := by unfold lim; omega
@[simp] theorem lim_5 : 5 ≤ lim := by unfold lim; omega
@[simp] theorem lim_6 : 6 ≤ lim := by unfold lim; omega
@[simp] theorem lim_7 : 7 ≤ lim := by unfold lim; omega
@[simp] theorem lim_8 : 8 ≤ lim := by unfold lim; omega
@[simp] theorem op2_ai (a b : Int) : op2 .add (.int a) (.int b) = some (.sh (.int (a + b))) := by unfold op2; rfl
@[simp] theorem op2_at (a b : List D) : op2 .add (.tuple a) (.tuple b) = if a.length + b.length ≤ lim then some (.sh (.tuple (a ++ b))) else none := by unfold op2; rfl
@[simp] theorem op2_al (a b : List D) : op2 .add (.list a) (.list b) = if a.length + b.length ≤ lim then some (.ow (.lst (a ++ b))) else none := by unfold op2; rfl
@[simp] theorem op2_si (a b : Int) : op2 .sub (.int a) (.int b) = some (.sh (.int (a - b))) := by unfold op2; rfl
@[simp] theorem op2_mi (a b : Int) : op2 .mul (.int a) (.int b) = if mulOk a b then some (.sh (.int (a * b))) else none := by unfold op2; rfl
@[simp] theorem op2_fd (a b : Int) : op2 .fdiv (.int a) (.int b) = if fdOk b then some (.sh (.int (a / b))) else none := by unfold op2; rfl
@[simp] theorem op2_mo (a b : Int) : op2 .mod (.int a) (.int b) = if 0 < b then some (.sh (.int (a % b))) else none := by unfold op2; rfl
@[simp] theorem op2_mt (a : List D) (b : Int) : op2 .mul (.tuple a) (.int b) = if 2 ≤ b ∧ b ≤ 1000 ∧ a.length ≤ 1000 ∧ a ≠ [] then some (.sh (.tuple (List.replicate b.toNat a).flatten)) else none := by unfold op2; rfl
@[simp] theorem op2_p18 : op2 .pow (.int 10) (.int 18) = some (.sh (.int 1000000000000000000)) := by
  unfold op2
  simp only
  rw [if_pos (by decide)]
  rfl
@[simp] theorem st3_0 (v x y z : D) : stOb (.int 0) v (.lst [x, y, z]) = some ((), .lst [v, y, z]) := rfl
@[simp] theorem st3_2 (v x y z : D) : stOb (.int 2) v (.lst [x, y, z]) = some ((), .lst [x, y, v]) := rfl
def bkE : Ent → Ent | .sh d => .sh d | _ => .un
@[simp] theorem bkE_sh (d : D) : bkE (.sh d) = .sh d := rfl
@[simp] theorem bkE_un : bkE .un = .un := rfl
@[simp] theorem bkE_ow (o : Ob) : bkE (.ow o) = .un := rfl
@[simp] theorem bkE_bo (e : Ent) : isBoE (bkE e) = false := by cases e <;> rfl
@[simp] theorem back_nil (ρ ρ' : Env) : back ρ ρ' [] = ρ' := rfl
@[simp] theorem back_cons (ρ ρ' : Env) (i : Nat) (is : List Nat) : back ρ ρ' (i :: is) = (back ρ ρ' is).set i (bkE (ρ.getD i .un)) := by
  show (back ρ ρ' is).set i _ = _
  congr 1
theorem evc {n f : Nat} {p : PDef} {args : List Arg} (h : Γ f = some p) : evalCall Γ con (n + 1) f args = run ⟨evalCall Γ con n, con, musOf Γ⟩ p args := by
  simp only [evalCall, h, Option.bind_some]
theorem ixT (xs : List D) (k : Nat) : ixD (.tuple xs) (.int (k : Int)) = xs[k]? := by
  simp only [ixD, asI, items, Option.bind_eq_bind, Option.bind_some]
  unfold L2.atI L2.ixN
  by_cases h : k < xs.length
  · rw [if_pos (by omega), if_pos (by omega)]; simp
  · rw [if_pos (by omega), if_neg (by omega)]; simp; omega
theorem ixL (xs : List D) (k : Nat) : ixD (.list xs) (.int (k : Int)) = xs[k]? := by
  simp only [ixD, asI, items, Option.bind_eq_bind, Option.bind_some]
  unfold L2.atI L2.ixN
  by_cases h : k < xs.length
  · rw [if_pos (by omega), if_pos (by omega)]; simp
  · rw [if_pos (by omega), if_neg (by omega)]; simp; omega
@[simp] theorem ixT0 (xs : List D) : ixD (.tuple xs) (.int 0) = xs[0]? := ixT xs 0
@[simp] theorem ixT1 (xs : List D) : ixD (.tuple xs) (.int 1) = xs[1]? := ixT xs 1
@[simp] theorem ixT2 (xs : List D) : ixD (.tuple xs) (.int 2) = xs[2]? := ixT xs 2
@[simp] theorem ixL0 (xs : List D) : ixD (.list xs) (.int 0) = xs[0]? := ixL xs 0
@[simp] theorem ixL1 (xs : List D) : ixD (.list xs) (.int 1) = xs[1]? := ixL xs 1
@[simp] theorem ixL2 (xs : List D) : ixD (.list xs) (.int 2) = xs[2]? := ixL xs 2
@[simp] theorem isN_none : isNoneD .none = true := rfl
@[simp] theorem isN_int (i : Int) : isNoneD (.int i) = false := rfl
@[simp] theorem isN_bool (b : Bool) : isNoneD (.bool b) = false := rfl
@[simp] theorem isN_str (b : Str) : isNoneD (.str b) = false := rfl
@[simp] theorem isN_list (b : List D) : isNoneD (.list b) = false := rfl
@[simp] theorem isN_tup (b : List D) : isNoneD (.tuple b) = false := rfl
@[simp] theorem len_t (xs : List D) : bltD .len [.tuple xs] = some (.sh (.int xs.length)) := rfl
@[simp] theorem len_l (xs : List D) : bltD .len [.list xs] = some (.sh (.int xs.length)) := rfl
@[simp] theorem tup_t (xs : List D) : bltD .tuple [.tuple xs] = some (.sh (.tuple xs)) := rfl
@[simp] theorem tup_l (xs : List D) : bltD .tuple [.list xs] = some (.sh (.tuple xs)) := rfl
@[simp] theorem lst_t (xs : List D) : bltD .list [.tuple xs] = some (.ow (.lst xs)) := rfl
@[simp] theorem lst_l (xs : List D) : bltD .list [.list xs] = some (.ow (.lst xs)) := rfl
@[simp] theorem min_2 (a b : Int) : bltD .min2 [.int a, .int b] = some (.sh (.int (if b < a then b else a))) := rfl
@[simp] theorem max_2 (a b : Int) : bltD .max2 [.int a, .int b] = some (.sh (.int (if b > a then b else a))) := rfl
theorem beq_eq_decide {α : Type} [DecidableEq α] [BEq α] [LawfulBEq α] (a b : α) : (a == b) = decide (a = b) := by
  rw [Bool.eq_iff_iff]
  simp
@[simp] theorem eq_ii (a b : Int) : eqD (.int a) (.int b) = some (decide (a = b)) := by
  have e1 : shp (.int a) = true := by simp [shp, SeqAt.shaped, PyData.canLay0, PyData.depth]
  have e2 : shp (.int b) = true := by simp [shp, SeqAt.shaped, PyData.canLay0, PyData.depth]
  simp [eqD, e1, e2, PyData.eqv]
  exact beq_eq_decide ..
@[simp] theorem eq_bb (a b : Bool) : eqD (.bool a) (.bool b) = some (decide (a = b)) := by
  have e1 : ∀ c, shp (.bool c) = true := fun c => by simp [shp, SeqAt.shaped, PyData.canLay0, PyData.depth]
  simp [eqD, e1, PyData.eqv]
  exact beq_eq_decide ..
@[simp] theorem eq_ss (a b : Str) : eqD (.str a) (.str b) = some (decide (a = b)) := by
  simp [eqD, isSt, PyData.eqv]
  exact beq_eq_decide ..
@[simp] theorem lt_ii (a b : Int) : ltD (.int a) (.int b) = some (decide (a < b)) := rfl
/-- data of bounded depth, to be compared -/
def Flt (k : Nat) (d : D) : Prop := d.canLay0 = true ∧ d.depth ≤ k
theorem Flt.shp {k : Nat} {d : D} (h : Flt k d) (hk : k ≤ 64) : shp d = true := by
  simp only [MP.shp, SeqAt.shaped, h.1, Bool.true_and, decide_eq_true_eq]
  exact Nat.le_trans h.2 hk
theorem flt_int (k : Nat) (i : Int) : Flt k (.int i) := ⟨by simp [PyData.canLay0], by simp [PyData.depth]⟩
theorem flt_bool (k : Nat) (b : Bool) : Flt k (.bool b) := ⟨by simp [PyData.canLay0], by simp [PyData.depth]⟩
theorem flt_none (k : Nat) : Flt k .none := ⟨by simp [PyData.canLay0], by simp [PyData.depth]⟩
theorem flt_all {k : Nat} : ∀ {xs : List D}, (∀ x ∈ xs, Flt k x) → PyData.canLayAll0 xs = true ∧ PyData.depthAll xs ≤ k
  | [], _ => ⟨by simp [PyData.canLayAll0], by simp [PyData.depthAll]⟩
  | x :: xs, h => by
    obtain ⟨h1, h2⟩ := flt_all (xs := xs) fun y hy => h y (List.mem_cons_of_mem _ hy)
    obtain ⟨h3, h4⟩ := h x List.mem_cons_self
    refine ⟨by simp [PyData.canLayAll0, h1, h3], ?_⟩
    rw [PyData.depthAll]
    omega
theorem flt_tuple {k : Nat} {xs : List D} (h : ∀ x ∈ xs, Flt k x) : Flt (k + 1) (.tuple xs) := ⟨by simp [PyData.canLay0, (flt_all h).1], by rw [PyData.depth]; have := (flt_all h).2; omega⟩
theorem flt_list {k : Nat} {xs : List D} (h : ∀ x ∈ xs, Flt k x) : Flt (k + 1) (.list xs) := ⟨by simp [PyData.canLay0, (flt_all h).1], by rw [PyData.depth]; have := (flt_all h).2; omega⟩
theorem Flt.mono {k j : Nat} {d : D} (h : Flt k d) (hk : k ≤ j) : Flt j d := ⟨h.1, Nat.le_trans h.2 hk⟩
theorem eqD_flt {k j : Nat} {a b : D} (ha : Flt k a) (hb : Flt j b) (hk : k ≤ 64) (hj : j ≤ 64) : eqD a b = some (PyData.eqv a b) := by
  unfold eqD
  rw [ha.shp hk, hb.shp hj]
  simp
/-- comprehensions that leave all names as they are -/
theorem lcGo_pure {f : Env → Option (D × Env)} {t : Env → Option (Bool × Env)} {tg : Tg} {own : List Nat} {α : Type} (e : α → D) (b : α → Bool) (g : α → D) (ρ : Env) : ∀ l : List α,
    (∀ a ∈ l, ∃ ρ1 ρ2, stTg tg (e a) ρ = some ρ1 ∧ t ρ1 = some (b a, ρ2) ∧ (b a = true → ∃ ρ3, f ρ2 = some (g a, ρ3) ∧ wipeE ρ3 own = ρ) ∧ (b a = false → wipeE ρ2 own = ρ)) →
    lcGo f t tg own (l.map e) ρ = some ((l.filter b).map g, ρ)
  | [], _ => rfl
  | a :: l, h => by
    obtain ⟨ρ1, ρ2, h1, h2, h3, h4⟩ := h a List.mem_cons_self
    have ih := lcGo_pure e b g ρ l fun x hx => h x (List.mem_cons_of_mem _ hx)
    simp only [List.map_cons, lcGo, h1, h2, Option.bind_some]
    cases hb : b a with
    | true =>
      obtain ⟨ρ3, h5, h6⟩ := h3 hb
      simp only [if_true, h5, Option.bind_some, h6, ih, List.filter_cons, hb, List.map_cons]
    | false =>
      simp only [Bool.false_eq_true, if_false, h4 hb, ih, List.filter_cons, hb]
theorem lcGo_map {f : Env → Option (D × Env)} {t : Env → Option (Bool × Env)} {tg : Tg} {own : List Nat} {α : Type} (e : α → D) (g : α → D) (ρ : Env) (l : List α)
    (h : ∀ a ∈ l, ∃ ρ1, stTg tg (e a) ρ = some ρ1 ∧ t ρ1 = some (true, ρ1) ∧ ∃ ρ3, f ρ1 = some (g a, ρ3) ∧ wipeE ρ3 own = ρ) : lcGo f t tg own (l.map e) ρ = some (l.map g, ρ) := by
  have k := lcGo_pure (f := f) (t := t) (tg := tg) (own := own) e (fun _ => true) g ρ l fun a ha => by
    obtain ⟨ρ1, h1, h2, ρ3, h3, h4⟩ := h a ha
    exact ⟨ρ1, ρ1, h1, h2, fun _ => ⟨ρ3, h3, h4⟩, fun z => by cases z⟩
  rw [List.filter_eq_self.mpr (fun _ _ => rfl)] at k
  exact k
/-- a comprehension with a state -/
theorem lcGo_inv {f : Env → Option (D × Env)} {t : Env → Option (Bool × Env)} {tg : Tg} {own : List Nat} (P : List D → Env → Prop) (K : Nat) : ∀ (xs ys : List D) (ρ : Env), ys.length + xs.length ≤ K → P ys ρ →
    (∀ x ∈ xs, ∀ ys ρ, ys.length < K → P ys ρ → ∃ ρ1 y ρ3, stTg tg x ρ = some ρ1 ∧ t ρ1 = some (true, ρ1) ∧ f ρ1 = some (y, ρ3) ∧ P (ys ++ [y]) (wipeE ρ3 own)) →
    ∃ zs ρ', lcGo f t tg own xs ρ = some (zs, ρ') ∧ P (ys ++ zs) ρ' ∧ zs.length = xs.length
  | [], ys, ρ, _, h, _ => ⟨[], ρ, rfl, by simpa using h, rfl⟩
  | x :: xs, ys, ρ, hK, h, hs => by
    rw [List.length_cons] at hK
    obtain ⟨ρ1, y, ρ3, h1, h2, h3, h4⟩ := hs x List.mem_cons_self ys ρ (by omega) h
    obtain ⟨zs, ρ', h5, h6, h7⟩ := lcGo_inv P K xs (ys ++ [y]) _ (by rw [List.length_append, List.length_singleton]; omega) h4 fun x hx => hs x (List.mem_cons_of_mem _ hx)
    refine ⟨y :: zs, ρ', ?_, by simpa using h6, by simp [h7]⟩
    simp only [lcGo, h1, h2, h3, Option.bind_some, if_true, h5]
/-- a for that runs through -/
theorem forGo_inv {body : Env → Option Fl} {tg : Tg} {α : Type} (e : α → D) (P : List α → Env → Prop) : ∀ (l : List α) (dn : List α) (ρ : Env), P dn ρ →
    (∀ a dn ρ, (∃ r, dn ++ a :: r = dn ++ l ∨ True) → a ∈ l → P dn ρ → ∃ ρ1 ρ2, stTg tg (e a) ρ = some ρ1 ∧ (body ρ1 = some (.nx ρ2) ∨ body ρ1 = some (.ct ρ2)) ∧ P (dn ++ [a]) ρ2) →
    ∃ ρ', forGo body tg (l.map e) ρ = some (.nx ρ') ∧ P (dn ++ l) ρ'
  | [], dn, ρ, h, _ => ⟨ρ, rfl, by simpa using h⟩
  | a :: l, dn, ρ, h, hs => by
    obtain ⟨ρ1, ρ2, h1, h2, h3⟩ := hs a dn ρ ⟨[], .inr trivial⟩ List.mem_cons_self h
    obtain ⟨ρ', h4, h5⟩ := forGo_inv e P l (dn ++ [a]) ρ2 h3 fun a' dn' ρ' _ ha' hp => hs a' dn' ρ' ⟨[], .inr trivial⟩ (List.mem_cons_of_mem _ ha') hp
    refine ⟨ρ', ?_, by simpa using h5⟩
    simp only [List.map_cons, forGo, h1, Option.bind_some]
    rcases h2 with h2 | h2
    · simp only [h2, Option.bind_some, h4]
    · simp only [h2, Option.bind_some, h4]
/-- a for, by the places -/
theorem forGo_ix {body : Env → Option Fl} {tg : Tg} (xs : List D) (P : Nat → Env → Prop) (ρ : Env) (h0 : P 0 ρ)
    (hs : ∀ i (hi : i < xs.length) ρ, P i ρ → ∃ ρ1 ρ2, stTg tg xs[i] ρ = some ρ1 ∧ (body ρ1 = some (.nx ρ2) ∨ body ρ1 = some (.ct ρ2)) ∧ P (i + 1) ρ2) : ∃ ρ', forGo body tg xs ρ = some (.nx ρ') ∧ P xs.length ρ' := by
  have key : ∀ (m k : Nat) (ρ : Env), k + m = xs.length → P k ρ → ∃ ρ', forGo body tg (xs.drop k) ρ = some (.nx ρ') ∧ P xs.length ρ' := by
    intro m
    induction m with
    | zero =>
      intro k ρ hk hp
      have e : k = xs.length := by omega
      subst e
      exact ⟨ρ, by rw [List.drop_length]; rfl, hp⟩
    | succ m ih =>
      intro k ρ hk hp
      have hlt : k < xs.length := by omega
      obtain ⟨ρ1, ρ2, h1, h2, h3⟩ := hs k hlt ρ hp
      obtain ⟨ρ', h4, h5⟩ := ih (k + 1) ρ2 (by omega) h3
      refine ⟨ρ', ?_, h5⟩
      rw [List.drop_eq_getElem_cons hlt]
      simp only [forGo, h1, Option.bind_some]
      rcases h2 with h2 | h2
      · simp only [h2, Option.bind_some, h4]
      · simp only [h2, Option.bind_some, h4]
  exact key xs.length 0 ρ (by omega) h0
/-- a for that may return: at place i the body goes on while q i is false; the first i with q i returns -/
theorem forGo_find {body : Env → Option Fl} {tg : Tg} (xs : List D) (q : Nat → Bool) (R : Nat → Fl → Prop) (P : Nat → Env → Prop) (ρ : Env) (h0 : P 0 ρ)
    (hs : ∀ i (hi : i < xs.length) ρ, P i ρ → ∃ ρ1, stTg tg xs[i] ρ = some ρ1 ∧ ((q i = false ∧ ∃ ρ2, (body ρ1 = some (.nx ρ2) ∨ body ρ1 = some (.ct ρ2)) ∧ P (i + 1) ρ2) ∨ (q i = true ∧ ∃ v ρ2, body ρ1 = some (.rt v ρ2) ∧ R i (.rt v ρ2)))) :
    (∃ ρ', forGo body tg xs ρ = some (.nx ρ') ∧ P xs.length ρ' ∧ ∀ i < xs.length, q i = false) ∨ ∃ i fl, i < xs.length ∧ q i = true ∧ (∀ j < i, q j = false) ∧ forGo body tg xs ρ = some fl ∧ R i fl := by
  have key : ∀ (m k : Nat) (ρ : Env), k + m = xs.length → P k ρ → (∀ j < k, q j = false) → (∃ ρ', forGo body tg (xs.drop k) ρ = some (.nx ρ') ∧ P xs.length ρ' ∧ ∀ i < xs.length, q i = false) ∨ ∃ i fl, i < xs.length ∧ q i = true ∧ (∀ j < i, q j = false) ∧ forGo body tg (xs.drop k) ρ = some fl ∧ R i fl := by
    intro m
    induction m with
    | zero =>
      intro k ρ hk hp hq
      have e : k = xs.length := by omega
      subst e
      exact .inl ⟨ρ, by rw [List.drop_length]; rfl, hp, hq⟩
    | succ m ih =>
      intro k ρ hk hp hq
      have hlt : k < xs.length := by omega
      obtain ⟨ρ1, h1, h2⟩ := hs k hlt ρ hp
      rw [List.drop_eq_getElem_cons hlt]
      rcases h2 with ⟨q0, ρ2, h2, h3⟩ | ⟨q1, v, ρ2, h2, h3⟩
      · have hq' : ∀ j < k + 1, q j = false := fun j hj => by
          by_cases e : j = k
          · rw [e]; exact q0
          · exact hq j (by omega)
        have hh : ∀ r, forGo body tg (xs.drop (k + 1)) ρ2 = r → forGo body tg (xs[k] :: xs.drop (k + 1)) ρ = r := fun r hr => by
          simp only [forGo, h1, Option.bind_some]
          rcases h2 with h2 | h2
          · simp only [h2, Option.bind_some, hr]
          · simp only [h2, Option.bind_some, hr]
        rcases ih (k + 1) ρ2 (by omega) h3 hq' with ⟨ρ', h4, h5, h6⟩ | ⟨i, fl, h4, h5, h6, h7, h8⟩
        · exact .inl ⟨ρ', hh _ h4, h5, h6⟩
        · exact .inr ⟨i, fl, h4, h5, h6, hh _ h7, h8⟩
      · exact .inr ⟨k, _, hlt, q1, hq, by simp only [forGo, h1, Option.bind_some, h2], h3⟩
  exact key xs.length 0 ρ (by omega) h0 (fun j hj => by omega)
/-! ### what an evaluation gives -/
def Gets {β : Type} (o : Option β) (Z : β → Prop) : Prop := ∃ r, o = some r ∧ Z r
theorem gets_eq {β : Type} {o : Option β} {v : β} (h : Gets o (· = v)) : o = some v := by
  obtain ⟨r, h1, h2⟩ := h
  rw [h1, h2]
theorem gets_of {β : Type} {o : Option β} {v : β} {Z : β → Prop} (h : o = some v) (z : Z v) : Gets o Z := ⟨v, h, z⟩
theorem gets_some {β : Type} {v : β} {Z : β → Prop} (z : Z v) : Gets (some v) Z := ⟨v, rfl, z⟩
theorem gets_bind {α β : Type} {o : Option α} {f : α → Option β} {Y : α → Prop} {Z : β → Prop} (h : Gets o Y) (k : ∀ a, Y a → Gets (f a) Z) : Gets (o.bind f) Z := by
  obtain ⟨a, h1, h2⟩ := h
  rw [h1]
  exact k a h2
theorem Gets.imp {β : Type} {o : Option β} {Y Z : β → Prop} (h : Gets o Y) (k : ∀ a, Y a → Z a) : Gets o Z := by
  obtain ⟨a, h1, h2⟩ := h
  exact ⟨a, h1, k a h2⟩
def NxP (Q : Env → Prop) : Fl → Prop
  | .nx ρ => Q ρ
  | .ct ρ => Q ρ
  | _ => False
def NxR (Q : Env → Prop) (R : Val → Prop) : Fl → Prop
  | .nx ρ => Q ρ
  | .ct ρ => Q ρ
  | .rt v _ => R v
  | _ => False
@[simp] theorem NxP_nx (Q : Env → Prop) (ρ : Env) : NxP Q (.nx ρ) = Q ρ := rfl
@[simp] theorem NxR_nx (Q : Env → Prop) (R : Val → Prop) (ρ : Env) : NxR Q R (.nx ρ) = Q ρ := rfl
@[simp] theorem NxR_rt (Q : Env → Prop) (R : Val → Prop) (v : Val) (ρ : Env) : NxR Q R (.rt v ρ) = R v := rfl
@[simp] theorem Gets_some {β : Type} {v : β} {Z : β → Prop} : Gets (some v) Z ↔ Z v := ⟨fun ⟨r, h1, h2⟩ => by cases h1; exact h2, fun z => ⟨v, rfl, z⟩⟩
/-- what follows a statement -/
def NxZ (C : Cfg) (ss : Ss) (Z : Fl → Prop) : Fl → Prop
  | .nx ρ => Gets (execs C ss ρ) Z
  | fl => Z fl
@[simp] theorem NxZ_nx (C : Cfg) (ss : Ss) (Z : Fl → Prop) (ρ : Env) : NxZ C ss Z (.nx ρ) = Gets (execs C ss ρ) Z := rfl
@[simp] theorem NxZ_rt (C : Cfg) (ss : Ss) (Z : Fl → Prop) (v : Val) (ρ : Env) : NxZ C ss Z (.rt v ρ) = Z (.rt v ρ) := rfl
@[simp] theorem NxZ_ct (C : Cfg) (ss : Ss) (Z : Fl → Prop) (ρ : Env) : NxZ C ss Z (.ct ρ) = Z (.ct ρ) := rfl
@[simp] theorem Gets_nil (C : Cfg) (Z : Fl → Prop) (ρ : Env) : Gets (execs C .nil ρ) Z ↔ Z (.nx ρ) := by
  show Gets (some (Fl.nx ρ)) Z ↔ _
  simp
@[simp] theorem Gets_cons (C : Cfg) (s : S) (ss : Ss) (Z : Fl → Prop) (ρ : Env) : Gets (execs C (.cons s ss) ρ) Z ↔ Gets (exec C s ρ) (NxZ C ss Z) := by
  unfold execs
  constructor
  · rintro ⟨r, h1, h2⟩
    obtain ⟨fl, h3, h4⟩ := Option.bind_eq_some_iff.mp h1
    refine ⟨fl, h3, ?_⟩
    cases fl with
    | nx ρ1 => exact ⟨r, h4, h2⟩
    | rt v ρ1 => cases h4; exact h2
    | bk ρ1 => cases h4; exact h2
    | ct ρ1 => cases h4; exact h2
  · rintro ⟨fl, h1, h2⟩
    cases fl with
    | nx ρ1 =>
      obtain ⟨r, h3, h4⟩ := h2
      exact ⟨r, by rw [h1]; exact h3, h4⟩
    | rt v ρ1 => exact ⟨_, by rw [h1]; rfl, h2⟩
    | bk ρ1 => exact ⟨_, by rw [h1]; rfl, h2⟩
    | ct ρ1 => exact ⟨_, by rw [h1]; rfl, h2⟩
/-- what follows a body -/
def RunZ (args : List Arg) (Z : Val × List Ob → Prop) : Fl → Prop
  | .nx ρ => Gets ((outs args ρ).bind fun os => some (.sh .none, os)) Z
  | .rt v ρ => Gets ((outs args ρ).bind fun os => some (v, os)) Z
  | _ => False
@[simp] theorem RunZ_nx (args : List Arg) (Z : Val × List Ob → Prop) (ρ : Env) : RunZ args Z (.nx ρ) = Gets ((outs args ρ).bind fun os => some (.sh .none, os)) Z := rfl
@[simp] theorem RunZ_rt (args : List Arg) (Z : Val × List Ob → Prop) (v : Val) (ρ : Env) : RunZ args Z (.rt v ρ) = Gets ((outs args ρ).bind fun os => some (v, os)) Z := rfl
theorem gets_run {C : Cfg} {p : PDef} {args : List Arg} {Z : Val × List Ob → Prop} (hl : args.length = p.ar) (h : Gets (execs C p.body (start p args)) (RunZ args Z)) : Gets (run C p args) Z := by
  obtain ⟨fl, h1, h2⟩ := h
  unfold run
  rw [if_pos hl, h1]
  cases fl with
  | nx ρ => exact h2
  | rt v ρ => exact h2
  | bk ρ => exact h2.elim
  | ct ρ => exact h2.elim
/-- a call of a def -/
theorem gets_call {n f : Nat} {p : PDef} {args : List Arg} {Z : Val × List Ob → Prop} (h : Γ f = some p) (hl : args.length = p.ar) (k : Gets (execs ⟨evalCall Γ con n, con, musOf Γ⟩ p.body (start p args)) (RunZ args Z)) : Gets (evalCall Γ con (n + 1) f args) Z := by
  rw [evc h]
  exact gets_run hl k
theorem eq_call {n f : Nat} {p : PDef} {args : List Arg} {v : Val × List Ob} (h : Γ f = some p) (hl : args.length = p.ar) (k : Gets (execs ⟨evalCall Γ con n, con, musOf Γ⟩ p.body (start p args)) (RunZ args (· = v))) : evalCall Γ con (n + 1) f args = some v := gets_eq (gets_call h hl k)
theorem gets_for {body : Env → Option Fl} {tg : Tg} {xs : List D} {ρ : Env} {Z : Fl → Prop} (P : Nat → Env → Prop) (h0 : P 0 ρ)
    (hs : ∀ i (hi : i < xs.length) ρ, P i ρ → Gets ((stTg tg xs[i] ρ).bind body) (NxP (P (i + 1)))) (hk : ∀ ρ', P xs.length ρ' → Z (.nx ρ')) : Gets (forGo body tg xs ρ) Z := by
  obtain ⟨ρ', h1, h2⟩ := forGo_ix (body := body) (tg := tg) xs P ρ h0 fun i hi ρ hp => by
    obtain ⟨fl, h1, h2⟩ := hs i hi ρ hp
    obtain ⟨ρ1, h3, h4⟩ := Option.bind_eq_some_iff.mp h1
    cases fl with
    | nx ρ2 => exact ⟨ρ1, ρ2, h3, .inl h4, h2⟩
    | ct ρ2 => exact ⟨ρ1, ρ2, h3, .inr h4, h2⟩
    | rt v ρ2 => exact h2.elim
    | bk ρ2 => exact h2.elim
  exact ⟨_, h1, hk ρ' h2⟩
theorem gets_find {body : Env → Option Fl} {tg : Tg} {xs : List D} {ρ : Env} {Z : Fl → Prop} (q : Nat → Bool) (P : Nat → Env → Prop) (R : Nat → Val → Prop) (h0 : P 0 ρ)
    (hs : ∀ i (hi : i < xs.length) ρ, P i ρ → Gets ((stTg tg xs[i] ρ).bind body) (NxR (fun ρ' => q i = false ∧ P (i + 1) ρ') (fun v => q i = true ∧ R i v)))
    (hk : ∀ ρ', P xs.length ρ' → (∀ i < xs.length, q i = false) → Z (.nx ρ')) (hr : ∀ i v ρ', i < xs.length → q i = true → (∀ j < i, q j = false) → R i v → Z (.rt v ρ')) : Gets (forGo body tg xs ρ) Z := by
  rcases forGo_find (body := body) (tg := tg) xs q (fun i fl => ∃ v ρ2, fl = .rt v ρ2 ∧ R i v) P ρ h0 (fun i hi ρ hp => by
    obtain ⟨fl, h1, h2⟩ := hs i hi ρ hp
    obtain ⟨ρ1, h3, h4⟩ := Option.bind_eq_some_iff.mp h1
    refine ⟨ρ1, h3, ?_⟩
    cases fl with
    | nx ρ2 => exact .inl ⟨h2.1, ρ2, .inl h4, h2.2⟩
    | ct ρ2 => exact .inl ⟨h2.1, ρ2, .inr h4, h2.2⟩
    | rt v ρ2 => exact .inr ⟨h2.1, v, ρ2, h4, v, ρ2, rfl, h2.2⟩
    | bk ρ2 => exact h2.elim) with ⟨ρ', h1, h2, h3⟩ | ⟨i, fl, h1, h2, h3, h4, v, ρ2, rfl, h5⟩
  · exact ⟨_, h1, hk ρ' h2 h3⟩
  · exact ⟨_, h4, hr i v ρ2 h1 h2 h3 h5⟩
/-- a for whose body may return, by an invariant alone -/
theorem gets_forR {body : Env → Option Fl} {tg : Tg} {xs : List D} {ρ : Env} {Z : Fl → Prop} (P : Nat → Env → Prop) (R : Val → Prop) (h0 : P 0 ρ)
    (hs : ∀ i (hi : i < xs.length) ρ, P i ρ → Gets ((stTg tg xs[i] ρ).bind body) (NxR (P (i + 1)) R))
    (hk : ∀ ρ', P xs.length ρ' → Z (.nx ρ')) (hr : ∀ v ρ', R v → Z (.rt v ρ')) : Gets (forGo body tg xs ρ) Z := by
  have key : ∀ (m k : Nat) (ρ : Env), k + m = xs.length → P k ρ → (∃ ρ', forGo body tg (xs.drop k) ρ = some (.nx ρ') ∧ P xs.length ρ') ∨ ∃ v ρ', forGo body tg (xs.drop k) ρ = some (.rt v ρ') ∧ R v := by
    intro m
    induction m with
    | zero =>
      intro k ρ hk hp
      have e : k = xs.length := by omega
      subst e
      exact .inl ⟨ρ, by rw [List.drop_length]; rfl, hp⟩
    | succ m ih =>
      intro k ρ hk hp
      have hlt : k < xs.length := by omega
      obtain ⟨fl, h1, h2⟩ := hs k hlt ρ hp
      obtain ⟨ρ1, h3, h4⟩ := Option.bind_eq_some_iff.mp h1
      rw [List.drop_eq_getElem_cons hlt]
      simp only [forGo, h3, Option.bind_some, h4]
      cases fl with
      | nx ρ2 => exact ih (k + 1) ρ2 (by omega) h2
      | ct ρ2 => exact ih (k + 1) ρ2 (by omega) h2
      | rt v ρ2 => exact .inr ⟨v, ρ2, rfl, h2⟩
      | bk ρ2 => exact h2.elim
  rcases key xs.length 0 ρ (by omega) h0 with ⟨ρ', h1, h2⟩ | ⟨v, ρ', h1, h2⟩
  · rw [List.drop_zero] at h1; exact ⟨_, h1, hk ρ' h2⟩
  · rw [List.drop_zero] at h1; exact ⟨_, h1, hr v ρ' h2⟩
theorem gets_lcf {f : Env → Option (D × Env)} {t : Env → Option (Bool × Env)} {tg : Tg} {own : List Nat} {ρ : Env} {β : Type} {K : List D × Env → Option β} {Z : β → Prop} {α : Type} {l : List α} (e : α → D) (b : α → Bool) (g : α → D)
    (h : ∀ a ∈ l, ∃ ρ1 ρ2, stTg tg (e a) ρ = some ρ1 ∧ t ρ1 = some (b a, ρ2) ∧ (b a = true → ∃ ρ3, f ρ2 = some (g a, ρ3) ∧ wipeE ρ3 own = ρ) ∧ (b a = false → wipeE ρ2 own = ρ)) (hk : Gets (K ((l.filter b).map g, ρ)) Z) : Gets ((lcGo f t tg own (l.map e) ρ).bind K) Z := by
  rw [lcGo_pure e b g ρ l h]
  exact hk
theorem gets_lcm {f : Env → Option (D × Env)} {t : Env → Option (Bool × Env)} {tg : Tg} {own : List Nat} {ρ : Env} {β : Type} {K : List D × Env → Option β} {Z : β → Prop} {α : Type} {l : List α} (e : α → D) (g : α → D)
    (h : ∀ a ∈ l, ∃ ρ1, stTg tg (e a) ρ = some ρ1 ∧ t ρ1 = some (true, ρ1) ∧ ∃ ρ3, f ρ1 = some (g a, ρ3) ∧ wipeE ρ3 own = ρ) (hk : Gets (K (l.map g, ρ)) Z) : Gets ((lcGo f t tg own (l.map e) ρ).bind K) Z := by
  rw [lcGo_map e g ρ l h]
  exact hk
theorem lc_bind {f : Env → Option (D × Env)} {t : Env → Option (Bool × Env)} {tg : Tg} {own : List Nat} {ρ : Env} {β : Type} {K : List D × Env → Option β} {R : Option β} {α : Type} {l : List α} (e : α → D) (b : α → Bool) (g : α → D)
    (h : ∀ a ∈ l, ∃ ρ1 ρ2, stTg tg (e a) ρ = some ρ1 ∧ t ρ1 = some (b a, ρ2) ∧ (b a = true → ∃ ρ3, f ρ2 = some (g a, ρ3) ∧ wipeE ρ3 own = ρ) ∧ (b a = false → wipeE ρ2 own = ρ)) (hk : K ((l.filter b).map g, ρ) = R) : (lcGo f t tg own (l.map e) ρ).bind K = R := by
  rw [lcGo_pure e b g ρ l h]
  exact hk
theorem lcm_bind {f : Env → Option (D × Env)} {t : Env → Option (Bool × Env)} {tg : Tg} {own : List Nat} {ρ : Env} {β : Type} {K : List D × Env → Option β} {R : Option β} {α : Type} {l : List α} (e : α → D) (g : α → D)
    (h : ∀ a ∈ l, ∃ ρ1, stTg tg (e a) ρ = some ρ1 ∧ t ρ1 = some (true, ρ1) ∧ ∃ ρ3, f ρ1 = some (g a, ρ3) ∧ wipeE ρ3 own = ρ) (hk : K (l.map g, ρ) = R) : (lcGo f t tg own (l.map e) ρ).bind K = R := by
  rw [lcGo_map e g ρ l h]
  exact hk
theorem gets_lc {f : Env → Option (D × Env)} {t : Env → Option (Bool × Env)} {tg : Tg} {own : List Nat} {xs : List D} {ρ : Env} {β : Type} {K : List D × Env → Option β} {Z : β → Prop} (P : List D → Env → Prop) (h0 : P [] ρ)
    (hs : ∀ x ∈ xs, ∀ ys ρ, ys.length < xs.length → P ys ρ → ∃ ρ1 y ρ3, stTg tg x ρ = some ρ1 ∧ t ρ1 = some (true, ρ1) ∧ f ρ1 = some (y, ρ3) ∧ P (ys ++ [y]) (wipeE ρ3 own)) (hk : ∀ ys ρ', P ys ρ' → ys.length = xs.length → Gets (K (ys, ρ')) Z) : Gets ((lcGo f t tg own xs ρ).bind K) Z := by
  obtain ⟨zs, ρ', h1, h2, h3⟩ := lcGo_inv P xs.length xs [] ρ (by simp) h0 hs
  rw [h1]
  exact hk zs ρ' h2 h3
theorem bools_map {α : Type} (l : List α) (b : α → Bool) : bools (l.map fun a => .bool (b a)) = some (l.map b) := by
  induction l with
  | nil => rfl
  | cons a l ih => simp only [List.map_cons, bools, ih, Option.map_some]
theorem all_blt {α : Type} (l : List α) (b : α → Bool) : bltD .all [.list (l.map fun a => .bool (b a))] = some (.sh (.bool (l.all b))) := by
  simp only [bltD, bools_map, Option.map_some, List.all_map]
  rfl
theorem any_blt {α : Type} (l : List α) (b : α → Bool) : bltD .any [.list (l.map fun a => .bool (b a))] = some (.sh (.bool (l.any b))) := by
  simp only [bltD, bools_map, Option.map_some, List.any_map]
  rfl
@[simp] theorem all_tt {α : Type} (l : List α) : bltD .all [.list (l.map fun _ => .bool true)] = some (.sh (.bool true)) := by
  rw [all_blt l fun _ => true]
  simp
theorem intsD_map {α : Type} (l : List α) (b : α → Int) : intsD (l.map fun a => .int (b a)) = some (l.map b) := by
  induction l with
  | nil => rfl
  | cons a l ih => simp only [List.map_cons, intsD, ih, Option.map_some]
theorem rng0 (k : Nat) : rngD 0 (k : Int) = (List.range k).map fun (i : Nat) => (.int (i : Int) : D) := by
  unfold rngD
  simp
theorem enumD_map (xs : List D) : ∀ n : Nat, enumD n xs = (xs.zipIdx n).map fun p => .tuple [.int (p.2 : Nat), p.1] := by
  induction xs with
  | nil => intro n; rfl
  | cons x xs ih => intro n; simp only [enumD, List.zipIdx_cons, List.map_cons, ih]
theorem enumD_length (xs : List D) : ∀ n : Nat, (enumD n xs).length = xs.length := fun n => by rw [enumD_map]; simp
theorem enumD_at (xs : List D) (i : Nat) (h : i < (enumD 0 xs).length) : (enumD 0 xs)[i] = .tuple [.int (i : Nat), xs[i]'(by rw [enumD_length] at h; exact h)] := by
  simp only [enumD_map, List.getElem_map, List.getElem_zipIdx, Nat.zero_add]
/-- slices -/
theorem cut_hi (xs : List D) (k : Nat) : cutD xs none (some (k : Int)) = xs.take k := by
  unfold cutD
  rw [HT.sIx_none, HT.sIx_nat]
  simp [List.take_eq_take_iff]
theorem cut_lo (xs : List D) (k : Nat) : cutD xs (some (k : Int)) none = xs.drop k := by
  unfold cutD
  rw [HT.sIx_none, HT.sIx_nat]
  by_cases h : k ≤ xs.length
  · rw [Nat.min_eq_left h, List.take_of_length_le (by rw [List.length_drop]; omega)]
  · rw [Nat.min_eq_right (by omega)]; simp; omega
end MP
end

section
set_option Elab.async false
set_option linter.all false
set_option maxRecDepth 100000
set_option maxHeartbeats 8000000
namespace MP
open PySem
/-! ### tables as data -/
abbrev Cell := Option Int
abbrev Row := List Cell
def cD : Cell → D | none => .none | some v => .int v
def rowD (r : Row) : D := .tuple (r.map cD)
def rowsD (rs : List Row) : D := .tuple (rs.map rowD)
def tabD (m : Nat) (rs : List Row) : D := .tuple [.int (m : Int), rowsD rs]
abbrev Rule := List Nat × Nat
def nD (k : Nat) : D := .int (k : Int)
def natsD (g : List Nat) : D := .tuple (g.map nD)
def ruleD (r : Rule) : D := .tuple [natsD r.1, nD r.2]
def rulesD (rs : List Rule) : D := .tuple (rs.map ruleD)
def OkC (c : Cell) : Prop := ∀ v, c = some v → 0 ≤ v ∧ v ≤ 9999
def OkR (m : Nat) (r : Row) : Prop := r.length = m ∧ ∀ c ∈ r, OkC c
structure OkT (m : Nat) (rs : List Row) : Prop where
  lo : 1 ≤ m
  hi : m ≤ 5
  few : rs.length ≤ 8
  row : ∀ r ∈ rs, OkR m r
structure OkRule (m : Nat) (r : Rule) : Prop where
  asc : r.1.Pairwise (· < ·)
  inn : ∀ k ∈ r.1, k < m
  thn : r.2 < m
  nin : r.2 ∉ r.1
structure OkRs (m : Nat) (rs : List Rule) : Prop where
  few : rs.length ≤ 8
  rule : ∀ r ∈ rs, OkRule m r
variable {n : Nat}
/-! ### the checks -/
theorem sp_is_whole (d : D) : evalCall Γ con (n + 1) f_is_whole [.sh d] = some (.sh (.bool (match d with | .int _ => true | _ => false)), []) := by
  refine eq_call g_is_whole rfl ?_
  simp [start, entOf, retE, evs, evOs, evA, evTs, evI, toD, toO, toB, evVar, peek, fetch, fetchs, Val.d, asB, asI, items, stV, stTg, isBo_eq, doCall, argsOf, lents, giveBack, outs, isOwn, isLst, chg, appOb, extOb, cmpD, Option.bind_assoc, isiD, wipeE, con, List.replicate, -List.map_take, -List.map_drop, -List.map_reverse, -List.map_tail, d_is_whole]
  cases d <;> simp [isiD, toD, asB, Val.d, outs]
theorem sp_is_between (i a b : Int) : evalCall Γ con (n + 2) f_is_between [.sh (.int i), .sh (.int a), .sh (.int b)] = some (.sh (.bool (decide (a ≤ i ∧ i ≤ b))), []) := by
  refine eq_call g_is_between rfl ?_
  simp [start, entOf, retE, evs, evOs, evA, evTs, evI, toD, toO, toB, evVar, peek, fetch, fetchs, Val.d, asB, asI, items, stV, stTg, isBo_eq, doCall, argsOf, lents, giveBack, outs, isOwn, isLst, chg, appOb, extOb, cmpD, Option.bind_assoc, isiD, wipeE, con, List.replicate, -List.map_take, -List.map_drop, -List.map_reverse, -List.map_tail, d_is_between, sp_is_whole]
  by_cases h : a ≤ i
  · simp [start, entOf, retE, evs, evOs, evA, evTs, evI, toD, toO, toB, evVar, peek, fetch, fetchs, Val.d, asB, asI, items, stV, stTg, isBo_eq, doCall, argsOf, lents, giveBack, outs, isOwn, isLst, chg, appOb, extOb, cmpD, Option.bind_assoc, isiD, wipeE, con, List.replicate, -List.map_take, -List.map_drop, -List.map_reverse, -List.map_tail, h]
  · simp [start, entOf, retE, evs, evOs, evA, evTs, evI, toD, toO, toB, evVar, peek, fetch, fetchs, Val.d, asB, asI, items, stV, stTg, isBo_eq, doCall, argsOf, lents, giveBack, outs, isOwn, isLst, chg, appOb, extOb, cmpD, Option.bind_assoc, isiD, wipeE, con, List.replicate, -List.map_take, -List.map_drop, -List.map_reverse, -List.map_tail, h]
theorem sp_is_cell (c : Cell) (h : OkC c) : evalCall Γ con (n + 3) f_is_cell [.sh (cD c)] = some (.sh (.bool true), []) := by
  refine eq_call g_is_cell rfl ?_
  cases c with
  | none => simp [start, entOf, retE, evs, evOs, evA, evTs, evI, toD, toO, toB, evVar, peek, fetch, fetchs, Val.d, asB, asI, items, stV, stTg, isBo_eq, doCall, argsOf, lents, giveBack, outs, isOwn, isLst, chg, appOb, extOb, cmpD, Option.bind_assoc, isiD, wipeE, con, List.replicate, -List.map_take, -List.map_drop, -List.map_reverse, -List.map_tail, d_is_cell, cD]
  | some v =>
    have := h v rfl
    simp [start, entOf, retE, evs, evOs, evA, evTs, evI, toD, toO, toB, evVar, peek, fetch, fetchs, Val.d, asB, asI, items, stV, stTg, isBo_eq, doCall, argsOf, lents, giveBack, outs, isOwn, isLst, chg, appOb, extOb, cmpD, Option.bind_assoc, isiD, wipeE, con, List.replicate, -List.map_take, -List.map_drop, -List.map_reverse, -List.map_tail, d_is_cell, cD, sp_is_between, this]
theorem sp_is_row (m : Nat) (r : Row) (hm : m ≤ 5) (h : OkR m r) : evalCall Γ con (n + 4) f_is_row [.sh (.int m), .sh (rowD r)] = some (.sh (.bool true), []) := by
  refine eq_call g_is_row rfl ?_
  have hl := h.1
  simp [start, entOf, retE, evs, evOs, evA, evTs, evI, toD, toO, toB, evVar, peek, fetch, fetchs, Val.d, asB, asI, items, stV, stTg, isBo_eq, doCall, argsOf, lents, giveBack, outs, isOwn, isLst, chg, appOb, extOb, cmpD, Option.bind_assoc, isiD, wipeE, con, List.replicate, -List.map_take, -List.map_drop, -List.map_reverse, -List.map_tail, d_is_row, rowD, hl, kN (k := m) (by omega)]
  refine gets_lcm cD (fun _ => .bool true) (fun c hc => ?_) ?_
  · simp [start, entOf, retE, evs, evOs, evA, evTs, evI, toD, toO, toB, evVar, peek, fetch, fetchs, Val.d, asB, asI, items, stV, stTg, isBo_eq, doCall, argsOf, lents, giveBack, outs, isOwn, isLst, chg, appOb, extOb, cmpD, Option.bind_assoc, isiD, wipeE, con, List.replicate, -List.map_take, -List.map_drop, -List.map_reverse, -List.map_tail, evT, evD, sp_is_cell c (h.2 c hc)]
  · simp [start, entOf, retE, evs, evOs, evA, evTs, evI, toD, toO, toB, evVar, peek, fetch, fetchs, Val.d, asB, asI, items, stV, stTg, isBo_eq, doCall, argsOf, lents, giveBack, outs, isOwn, isLst, chg, appOb, extOb, cmpD, Option.bind_assoc, isiD, wipeE, con, List.replicate, -List.map_take, -List.map_drop, -List.map_reverse, -List.map_tail]
theorem sp_are_rows (m : Nat) (rs : List Row) (h : OkT m rs) : evalCall Γ con (n + 5) f_are_rows [.sh (.int m), .sh (rowsD rs)] = some (.sh (.bool true), []) := by
  refine eq_call g_are_rows rfl ?_
  have hl := h.few
  have hl2 : (rs.length : Int) ≤ 8 := by omega
  simp [start, entOf, retE, evs, evOs, evA, evTs, evI, toD, toO, toB, evVar, peek, fetch, fetchs, Val.d, asB, asI, items, stV, stTg, isBo_eq, doCall, argsOf, lents, giveBack, outs, isOwn, isLst, chg, appOb, extOb, cmpD, Option.bind_assoc, isiD, wipeE, con, List.replicate, -List.map_take, -List.map_drop, -List.map_reverse, -List.map_tail, d_are_rows, rowsD, kN (k := rs.length) (by omega), hl2]
  refine gets_lcm rowD (fun _ => .bool true) (fun r hr => ?_) ?_
  · simp [start, entOf, retE, evs, evOs, evA, evTs, evI, toD, toO, toB, evVar, peek, fetch, fetchs, Val.d, asB, asI, items, stV, stTg, isBo_eq, doCall, argsOf, lents, giveBack, outs, isOwn, isLst, chg, appOb, extOb, cmpD, Option.bind_assoc, isiD, wipeE, con, List.replicate, -List.map_take, -List.map_drop, -List.map_reverse, -List.map_tail, evT, evD, sp_is_row m r h.hi (h.row r hr)]
  · simp [start, entOf, retE, evs, evOs, evA, evTs, evI, toD, toO, toB, evVar, peek, fetch, fetchs, Val.d, asB, asI, items, stV, stTg, isBo_eq, doCall, argsOf, lents, giveBack, outs, isOwn, isLst, chg, appOb, extOb, cmpD, Option.bind_assoc, isiD, wipeE, con, List.replicate, -List.map_take, -List.map_drop, -List.map_reverse, -List.map_tail]
theorem sp_is_table (m : Nat) (rs : List Row) (h : OkT m rs) : evalCall Γ con (n + 6) f_is_table [.sh (tabD m rs)] = some (.sh (.bool true), []) := by
  refine eq_call g_is_table rfl ?_
  have h1 := h.lo
  have h2 := h.hi
  have h3 : (1 : Int) ≤ (m : Int) ∧ (m : Int) ≤ 5 := by omega
  simp [start, entOf, retE, evs, evOs, evA, evTs, evI, toD, toO, toB, evVar, peek, fetch, fetchs, Val.d, asB, asI, items, stV, stTg, isBo_eq, doCall, argsOf, lents, giveBack, outs, isOwn, isLst, chg, appOb, extOb, cmpD, Option.bind_assoc, isiD, wipeE, con, List.replicate, -List.map_take, -List.map_drop, -List.map_reverse, -List.map_tail, d_is_table, tabD, sp_is_between, sp_are_rows m rs h, h3]
theorem sp_need_table (m : Nat) (rs : List Row) (h : OkT m rs) : evalCall Γ con (n + 7) f_need_table [.sh (tabD m rs)] = some (.sh .none, []) := by
  refine eq_call g_need_table rfl ?_
  simp [start, entOf, retE, evs, evOs, evA, evTs, evI, toD, toO, toB, evVar, peek, fetch, fetchs, Val.d, asB, asI, items, stV, stTg, isBo_eq, doCall, argsOf, lents, giveBack, outs, isOwn, isLst, chg, appOb, extOb, cmpD, Option.bind_assoc, isiD, wipeE, con, List.replicate, -List.map_take, -List.map_drop, -List.map_reverse, -List.map_tail, d_need_table, sp_is_table m rs h]
theorem zip_tail : ∀ (g : List Nat), g.Pairwise (· < ·) → ∀ d ∈ zipD (g.map nD) (g.map nD).tail, ∃ a b : Nat, d = .tuple [nD a, nD b] ∧ a < b
  | [], _, d, h => by simp [zipD] at h
  | [a], _, d, h => by simp [zipD] at h
  | a :: b :: g, p, d, h => by
    simp only [List.map_cons, List.tail_cons, zipD, List.mem_cons] at h
    rcases h with h | h
    · exact ⟨a, b, h, (List.pairwise_cons.mp p).1 b List.mem_cons_self⟩
    · exact zip_tail (b :: g) (List.pairwise_cons.mp p).2 d (by simpa using h)
theorem sp_is_set (g : List Nat) (last : Int) (hl : g.length ≤ 100) (h1 : g.Pairwise (· < ·)) (h2 : ∀ k ∈ g, (k : Int) ≤ last) : evalCall Γ con (n + 3) f_is_set [.sh (natsD g), .sh (.int last)] = some (.sh (.bool true), []) := by
  refine eq_call g_is_set rfl ?_
  have hz : (zipD (g.map nD) (g.map nD).tail).length ≤ 1000000 := by
    have : ∀ a b : List D, (zipD a b).length ≤ a.length := fun a => by
      induction a with
      | nil => intro b; simp [zipD]
      | cons x a ih => intro b; cases b <;> simp [zipD]; exact ih _
    exact Nat.le_trans (this _ _) (by simp; omega)
  have hc := cut_lo (g.map nD) 1
  simp [start, entOf, retE, evs, evOs, evA, evTs, evI, toD, toO, toB, evVar, peek, fetch, fetchs, Val.d, asB, asI, items, stV, stTg, isBo_eq, doCall, argsOf, lents, giveBack, outs, isOwn, isLst, chg, appOb, extOb, cmpD, Option.bind_assoc, isiD, wipeE, con, List.replicate, -List.map_take, -List.map_drop, -List.map_reverse, -List.map_tail, d_is_set, natsD, kN (k := g.length) (by omega), slD, zipO]
  refine gets_lcm nD (fun _ => .bool true) (fun k hk => ?_) ?_
  · have := h2 k hk
    simp [start, entOf, retE, evs, evOs, evA, evTs, evI, toD, toO, toB, evVar, peek, fetch, fetchs, Val.d, asB, asI, items, stV, stTg, isBo_eq, doCall, argsOf, lents, giveBack, outs, isOwn, isLst, chg, appOb, extOb, cmpD, Option.bind_assoc, isiD, wipeE, con, List.replicate, -List.map_take, -List.map_drop, -List.map_reverse, -List.map_tail, evT, evD, nD, sp_is_between, this]
  · have hc' : cutD (g.map nD) (some 1) none = (g.map nD).tail := by rw [← List.drop_one]; exact hc
    simp [start, entOf, retE, evs, evOs, evA, evTs, evI, toD, toO, toB, evVar, peek, fetch, fetchs, Val.d, asB, asI, items, stV, stTg, isBo_eq, doCall, argsOf, lents, giveBack, outs, isOwn, isLst, chg, appOb, extOb, cmpD, Option.bind_assoc, isiD, wipeE, con, List.replicate, -List.map_take, -List.map_drop, -List.map_reverse, -List.map_tail, slD, zipO, hc', kN hz]
    have e : zipD (g.map nD) (g.map nD).tail = (zipD (g.map nD) (g.map nD).tail).map id := by simp
    rw [e]
    refine gets_lcm id (fun _ => .bool true) (fun d hd => ?_) ?_
    · obtain ⟨a, b, rfl, hab⟩ := zip_tail g h1 d hd
      simp [start, entOf, retE, evs, evOs, evA, evTs, evI, toD, toO, toB, evVar, peek, fetch, fetchs, Val.d, asB, asI, items, stV, stTg, isBo_eq, doCall, argsOf, lents, giveBack, outs, isOwn, isLst, chg, appOb, extOb, cmpD, Option.bind_assoc, isiD, wipeE, con, List.replicate, -List.map_take, -List.map_drop, -List.map_reverse, -List.map_tail, evT, evD, nD, hab]
    · simp [start, entOf, retE, evs, evOs, evA, evTs, evI, toD, toO, toB, evVar, peek, fetch, fetchs, Val.d, asB, asI, items, stV, stTg, isBo_eq, doCall, argsOf, lents, giveBack, outs, isOwn, isLst, chg, appOb, extOb, cmpD, Option.bind_assoc, isiD, wipeE, con, List.replicate, -List.map_take, -List.map_drop, -List.map_reverse, -List.map_tail]
theorem eqv_nD (a b : Nat) : PyData.eqv (nD a) (nD b) = decide (a = b) := by
  simp only [nD, PyData.eqv]
  rw [beq_eq_decide, decide_eq_decide]
  omega
theorem asc_len (m : Nat) : ∀ (g : List Nat) (lo : Nat), g.Pairwise (· < ·) → (∀ k ∈ g, lo ≤ k ∧ k < m) → g.length ≤ m - lo
  | [], _, _, _ => by simp
  | a :: g, lo, p, h => by
    obtain ⟨p1, p2⟩ := List.pairwise_cons.mp p
    have h1 := h a List.mem_cons_self
    have ih := asc_len m g (a + 1) p2 fun k hk => ⟨p1 k hk, (h k (List.mem_cons_of_mem _ hk)).2⟩
    rw [List.length_cons]
    omega
theorem sp_is_rule (m : Nat) (r : Rule) (hm : m ≤ 5) (h : OkRule m r) : evalCall Γ con (n + 4) f_is_rule [.sh (.int m), .sh (ruleD r)] = some (.sh (.bool true), []) := by
  refine eq_call g_is_rule rfl ?_
  have h1 := h.thn
  have hlen : r.1.length ≤ 100 := by
    have := asc_len m r.1 0 h.asc fun k hk => ⟨Nat.zero_le _, h.inn k hk⟩
    omega
  have h2 : ∀ k ∈ r.1, (k : Int) ≤ (m : Int) - 1 := fun k hk => by have := h.inn k hk; omega
  have h3 : (0 : Int) ≤ (r.2 : Int) ∧ (r.2 : Int) ≤ (m : Int) - 1 := by omega
  have e1 : inD (nD r.2) (natsD r.1) = some false := by
    have s1 : shp (nD r.2) = true := (flt_int 0 _).shp (by omega)
    have s2 : shp (natsD r.1) = true := (flt_tuple (k := 0) (by intro x hx; obtain ⟨k, _, rfl⟩ := List.mem_map.mp hx; exact flt_int 0 _)).shp (by omega)
    have s3 : shp (.tuple (r.1.map nD)) = true := s2
    simp only [inD, natsD, items, Option.bind_eq_bind, Option.bind_some, s1, s3, Bool.and_true, if_true, Option.some.injEq]
    rw [List.any_eq_false]
    intro x hx
    obtain ⟨k, hk, rfl⟩ := List.mem_map.mp hx
    rw [eqv_nD]
    simp
    intro z
    exact h.nin (z ▸ hk)
  simp [start, entOf, retE, evs, evOs, evA, evTs, evI, toD, toO, toB, evVar, peek, fetch, fetchs, Val.d, asB, asI, items, stV, stTg, isBo_eq, doCall, argsOf, lents, giveBack, outs, isOwn, isLst, chg, appOb, extOb, cmpD, Option.bind_assoc, isiD, wipeE, con, List.replicate, -List.map_take, -List.map_drop, -List.map_reverse, -List.map_tail, d_is_rule, ruleD, sp_is_set r.1 _ hlen h.asc h2, e1]
  simp only [nD] at e1 ⊢
  simp [start, entOf, retE, evs, evOs, evA, evTs, evI, toD, toO, toB, evVar, peek, fetch, fetchs, Val.d, asB, asI, items, stV, stTg, isBo_eq, doCall, argsOf, lents, giveBack, outs, isOwn, isLst, chg, appOb, extOb, cmpD, Option.bind_assoc, isiD, wipeE, con, List.replicate, -List.map_take, -List.map_drop, -List.map_reverse, -List.map_tail, sp_is_between, h3, e1]
theorem sp_are_rules_of (m : Nat) (rs : List Rule) (hm : m ≤ 5) (h : OkRs m rs) : evalCall Γ con (n + 5) f_are_rules_of [.sh (.int m), .sh (rulesD rs)] = some (.sh (.bool true), []) := by
  refine eq_call g_are_rules_of rfl ?_
  have hl := h.few
  have hl2 : (rs.length : Int) ≤ 8 := by omega
  simp [start, entOf, retE, evs, evOs, evA, evTs, evI, toD, toO, toB, evVar, peek, fetch, fetchs, Val.d, asB, asI, items, stV, stTg, isBo_eq, doCall, argsOf, lents, giveBack, outs, isOwn, isLst, chg, appOb, extOb, cmpD, Option.bind_assoc, isiD, wipeE, con, List.replicate, -List.map_take, -List.map_drop, -List.map_reverse, -List.map_tail, d_are_rules_of, rulesD, kN (k := rs.length) (by omega), hl2]
  refine gets_lcm ruleD (fun _ => .bool true) (fun r hr => ?_) ?_
  · simp [start, entOf, retE, evs, evOs, evA, evTs, evI, toD, toO, toB, evVar, peek, fetch, fetchs, Val.d, asB, asI, items, stV, stTg, isBo_eq, doCall, argsOf, lents, giveBack, outs, isOwn, isLst, chg, appOb, extOb, cmpD, Option.bind_assoc, isiD, wipeE, con, List.replicate, -List.map_take, -List.map_drop, -List.map_reverse, -List.map_tail, evT, evD, sp_is_rule m r hm (h.rule r hr)]
  · simp [start, entOf, retE, evs, evOs, evA, evTs, evI, toD, toO, toB, evVar, peek, fetch, fetchs, Val.d, asB, asI, items, stV, stTg, isBo_eq, doCall, argsOf, lents, giveBack, outs, isOwn, isLst, chg, appOb, extOb, cmpD, Option.bind_assoc, isiD, wipeE, con, List.replicate, -List.map_take, -List.map_drop, -List.map_reverse, -List.map_tail]
theorem sp_need_rules (m : Nat) (rs : List Rule) (hm : m ≤ 5) (h : OkRs m rs) : evalCall Γ con (n + 6) f_need_rules [.sh (.int m), .sh (rulesD rs)] = some (.sh .none, []) := by
  refine eq_call g_need_rules rfl ?_
  simp [start, entOf, retE, evs, evOs, evA, evTs, evI, toD, toO, toB, evVar, peek, fetch, fetchs, Val.d, asB, asI, items, stV, stTg, isBo_eq, doCall, argsOf, lents, giveBack, outs, isOwn, isLst, chg, appOb, extOb, cmpD, Option.bind_assoc, isiD, wipeE, con, List.replicate, -List.map_take, -List.map_drop, -List.map_reverse, -List.map_tail, d_need_rules, sp_are_rules_of m rs hm h]
theorem sp_need_both (m : Nat) (rows : List Row) (rs : List Rule) (ht : OkT m rows) (h : OkRs m rs) : evalCall Γ con (n + 8) f_need_both [.sh (tabD m rows), .sh (rulesD rs)] = some (.sh .none, []) := by
  refine eq_call g_need_both rfl ?_
  have e1 := sp_need_table (n := n) m rows ht
  have e2 := sp_need_rules (n := n + 1) m rs ht.hi h
  simp only [tabD] at e1 ⊢
  simp [start, entOf, retE, evs, evOs, evA, evTs, evI, toD, toO, toB, evVar, peek, fetch, fetchs, Val.d, asB, asI, items, stV, stTg, isBo_eq, doCall, argsOf, lents, giveBack, outs, isOwn, isLst, chg, appOb, extOb, cmpD, Option.bind_assoc, isiD, wipeE, con, List.replicate, -List.map_take, -List.map_drop, -List.map_reverse, -List.map_tail, d_need_both, e1, e2]
end MP
end

section
set_option Elab.async false
set_option linter.all false
set_option maxRecDepth 100000
set_option maxHeartbeats 8000000
namespace MP
open PySem
variable {n : Nat}
/-! ### places -/
abbrev Place := Nat × Nat
def plD (p : Place) : D := .tuple [nD p.1, nD p.2]
def rowPl (at_ : Nat) (b : Bool) (r : Row) : List Place := (r.zipIdx.filter fun p => p.1.isNone == b).map fun p => (at_, p.2)
def placesUp (rs : List Row) (b : Bool) : Nat → List Place
  | 0 => []
  | i + 1 => placesUp rs b i ++ rowPl i b (rs.getD i [])
def placesOf (rs : List Row) (b : Bool) : List Place := placesUp rs b rs.length
theorem placesUp_len (rs : List Row) (b : Bool) (h : ∀ r ∈ rs, r.length ≤ 5) : ∀ i, (placesUp rs b i).length ≤ 5 * i
  | 0 => by simp [placesUp]
  | i + 1 => by
    have ih := placesUp_len rs b h i
    have : (rowPl i b (rs.getD i [])).length ≤ 5 := by
      unfold rowPl
      rw [List.length_map]
      refine Nat.le_trans (List.length_filter_le _ _) ?_
      rw [List.length_zipIdx]
      by_cases hi : i < rs.length
      · rw [List.getD_eq_getElem?_getD, List.getElem?_eq_getElem hi]
        exact h _ (List.getElem_mem hi)
      · rw [List.getD_eq_getElem?_getD, List.getElem?_eq_none (by omega)]; simp
    simp only [placesUp, List.length_append]
    omega
theorem isNone_cD (c : Cell) : isNoneD (cD c) = c.isNone := by cases c <;> rfl
theorem enum_map {α : Type} (l : List α) (e : α → D) : enumD 0 (l.map e) = l.zipIdx.map fun p => .tuple [.int (p.2 : Nat), e p.1] := by
  rw [enumD_map, List.zipIdx_map, List.map_map]
  rfl
theorem sp_places_where (m : Nat) (rs : List Row) (b : Bool) (hr : rs.length ≤ 8) (h : ∀ r ∈ rs, r.length ≤ 5) : evalCall Γ con (n + 1) f_places_where [.sh (tabD m rs), .sh (.bool b)] = some (.sh (.tuple ((placesOf rs b).map plD)), []) := by
  refine eq_call g_places_where rfl ?_
  simp [start, entOf, retE, evs, evOs, evA, evTs, evI, toD, toO, toB, evVar, peek, fetch, fetchs, Val.d, asB, asI, items, stV, stTg, isBo_eq, doCall, argsOf, lents, giveBack, outs, isOwn, isLst, chg, appOb, extOb, cmpD, Option.bind_assoc, isiD, wipeE, con, List.replicate, -List.map_take, -List.map_drop, -List.map_reverse, -List.map_tail, d_places_where, tabD, rowsD]
  refine gets_for (fun i ρ => ∃ e3 e4, ρ = [.sh (.tuple [.int (m : Int), .tuple (rs.map rowD)]), .sh (.bool b), .ow (.lst ((placesUp rs b i).map plD)), e3, e4, .un, .un] ∧ isBoE e3 = false ∧ isBoE e4 = false) ⟨.un, .un, rfl, rfl, rfl⟩ ?_ ?_
  · intro i hi ρ ⟨e3, e4, hρ, b3, b4⟩
    subst hρ
    rw [enumD_length, List.length_map] at hi
    have hl := h _ (List.getElem_mem hi)
    have hu := placesUp_len rs b h i
    have hg : rs.getD i [] = rs[i] := by rw [List.getD_eq_getElem?_getD, List.getElem?_eq_getElem hi]; rfl
    simp [start, entOf, retE, evs, evOs, evA, evTs, evI, toD, toO, toB, evVar, peek, fetch, fetchs, Val.d, asB, asI, items, stV, stTg, isBo_eq, doCall, argsOf, lents, giveBack, outs, isOwn, isLst, chg, appOb, extOb, cmpD, Option.bind_assoc, isiD, wipeE, con, List.replicate, -List.map_take, -List.map_drop, -List.map_reverse, -List.map_tail, enumD_at, exB, b3, b4, rowD, enumD_length, kN (k := rs[i].length) (by omega), enum_map]
    refine gets_lcf _ (fun p => p.1.isNone == b) (fun p => plD (i, p.2)) (fun p _ => ?_) ?_
    · by_cases hb : p.1.isNone = b
      · simp [start, entOf, retE, evs, evOs, evA, evTs, evI, toD, toO, toB, evVar, peek, fetch, fetchs, Val.d, asB, asI, items, stV, stTg, isBo_eq, doCall, argsOf, lents, giveBack, outs, isOwn, isLst, chg, appOb, extOb, cmpD, Option.bind_assoc, isiD, wipeE, con, List.replicate, -List.map_take, -List.map_drop, -List.map_reverse, -List.map_tail, evT, evD, isNone_cD, plD, nD, lim, hb]
      · simp [start, entOf, retE, evs, evOs, evA, evTs, evI, toD, toO, toB, evVar, peek, fetch, fetchs, Val.d, asB, asI, items, stV, stTg, isBo_eq, doCall, argsOf, lents, giveBack, outs, isOwn, isLst, chg, appOb, extOb, cmpD, Option.bind_assoc, isiD, wipeE, con, List.replicate, -List.map_take, -List.map_drop, -List.map_reverse, -List.map_tail, evT, evD, isNone_cD, plD, nD, lim, hb]
    · have hf : (rs[i].zipIdx.filter fun p => p.1.isNone == b).length ≤ 5 := Nat.le_trans (List.length_filter_le _ _) (by rw [List.length_zipIdx]; exact hl)
      have hm : (placesUp rs b i).length + (rs[i].zipIdx.filter fun p => p.1.isNone == b).length ≤ lim := ylim (by omega)
      simp [start, entOf, retE, evs, evOs, evA, evTs, evI, toD, toO, toB, evVar, peek, fetch, fetchs, Val.d, asB, asI, items, stV, stTg, isBo_eq, doCall, argsOf, lents, giveBack, outs, isOwn, isLst, chg, appOb, extOb, cmpD, Option.bind_assoc, isiD, wipeE, con, List.replicate, -List.map_take, -List.map_drop, -List.map_reverse, -List.map_tail, hm]
      refine ⟨_, _, ⟨?_, rfl, rfl⟩, rfl, rfl⟩
      simp [placesUp, List.getElem?_eq_getElem hi, rowPl, Function.comp_def]
  · rintro ρ' ⟨e3, e4, rfl, b3, b4⟩
    simp [start, entOf, retE, evs, evOs, evA, evTs, evI, toD, toO, toB, evVar, peek, fetch, fetchs, Val.d, asB, asI, items, stV, stTg, isBo_eq, doCall, argsOf, lents, giveBack, outs, isOwn, isLst, chg, appOb, extOb, cmpD, Option.bind_assoc, isiD, wipeE, con, List.replicate, -List.map_take, -List.map_drop, -List.map_reverse, -List.map_tail, enumD_length, placesOf]

/-! ### rows -/
def cell (r : Row) (k : Nat) : Cell := r.getD k none
theorem ix_row {r : Row} {k : Nat} (h : k < r.length) : ixD (.tuple (r.map cD)) (.int (k : Int)) = some (cD (cell r k)) := by
  rw [ixT, List.getElem?_map, List.getElem?_eq_getElem h]
  simp [cell, List.getD_eq_getElem?_getD, List.getElem?_eq_getElem h]
theorem flt_c (c : Cell) : Flt 0 (cD c) := by cases c <;> first | exact flt_none 0 | exact flt_int 0 _
theorem eqv_cc (a b : Cell) : PyData.eqv (cD a) (cD b) = decide (a = b) := by
  cases a <;> cases b <;> simp [cD, PyData.eqv]
  exact beq_eq_decide ..
theorem eq_cc (a b : Cell) : eqD (cD a) (cD b) = some (decide (a = b)) := by
  rw [eqD_flt (flt_c a) (flt_c b) (by omega) (by omega), eqv_cc]
def eqCols (r s : Row) (g : List Nat) : Bool := g.all fun k => decide (cell r k = cell s k)
theorem sp_are_equal (r s : Row) (g : List Nat) (hg : g.length ≤ 100) (hr : ∀ k ∈ g, k < r.length) (hs : ∀ k ∈ g, k < s.length) : evalCall Γ con (n + 1) f_are_equal [.sh (rowD r), .sh (rowD s), .sh (natsD g)] = some (.sh (.bool (eqCols r s g)), []) := by
  refine eq_call g_are_equal rfl ?_
  simp [start, entOf, retE, evs, evOs, evA, evTs, evI, toD, toO, toB, evVar, peek, fetch, fetchs, Val.d, asB, asI, items, stV, stTg, isBo_eq, doCall, argsOf, lents, giveBack, outs, isOwn, isLst, chg, appOb, extOb, cmpD, Option.bind_assoc, isiD, wipeE, con, List.replicate, -List.map_take, -List.map_drop, -List.map_reverse, -List.map_tail, d_are_equal, rowD, natsD, kN (k := g.length) (by omega)]
  refine gets_lcm nD (fun k => .bool (decide (cell r k = cell s k))) (fun k hk => ?_) ?_
  · simp [start, entOf, retE, evs, evOs, evA, evTs, evI, toD, toO, toB, evVar, peek, fetch, fetchs, Val.d, asB, asI, items, stV, stTg, isBo_eq, doCall, argsOf, lents, giveBack, outs, isOwn, isLst, chg, appOb, extOb, cmpD, Option.bind_assoc, isiD, wipeE, con, List.replicate, -List.map_take, -List.map_drop, -List.map_reverse, -List.map_tail, evT, evD, nD, ix_row (hr k hk), ix_row (hs k hk), eq_cc]
  · simp [start, entOf, retE, evs, evOs, evA, evTs, evI, toD, toO, toB, evVar, peek, fetch, fetchs, Val.d, asB, asI, items, stV, stTg, isBo_eq, doCall, argsOf, lents, giveBack, outs, isOwn, isLst, chg, appOb, extOb, cmpD, Option.bind_assoc, isiD, wipeE, con, List.replicate, -List.map_take, -List.map_drop, -List.map_reverse, -List.map_tail, all_blt, eqCols]
def bad (r s : Row) (ru : Rule) : Bool := eqCols r s ru.1 && decide (cell r ru.2 ≠ cell s ru.2)
def badAt (rs : List Row) (ru : Rule) (i : Nat) : Bool := (rs.take i).any fun o => bad (rs.getD i []) o ru
def ruleHolds (rs : List Row) (ru : Rule) : Bool := (List.range rs.length).all fun i => !badAt rs ru i
theorem OkRule.len {m : Nat} {ru : Rule} (h : OkRule m ru) : ru.1.length ≤ m := by
  have := asc_len m ru.1 0 h.asc fun k hk => ⟨Nat.zero_le _, h.inn k hk⟩
  omega
theorem sp_rule_holds (m : Nat) (rs : List Row) (ru : Rule) (ht : OkT m rs) (h : OkRule m ru) : evalCall Γ con (n + 2) f_rule_holds [.sh (rowsD rs), .sh (ruleD ru)] = some (.sh (.bool (ruleHolds rs ru)), []) := by
  refine eq_call g_rule_holds rfl ?_
  have hm := ht.hi
  have hgl := h.len
  have hf := ht.few
  simp [start, entOf, retE, evs, evOs, evA, evTs, evI, toD, toO, toB, evVar, peek, fetch, fetchs, Val.d, asB, asI, items, stV, stTg, isBo_eq, doCall, argsOf, lents, giveBack, outs, isOwn, isLst, chg, appOb, extOb, cmpD, Option.bind_assoc, isiD, wipeE, con, List.replicate, -List.map_take, -List.map_drop, -List.map_reverse, -List.map_tail, d_rule_holds, rowsD, ruleD]
  refine gets_find (badAt rs ru) (fun i ρ => ∃ e4 e5, ρ = [.sh (.tuple (rs.map rowD)), .sh (.tuple [natsD ru.1, nD ru.2]), .sh (natsD ru.1), .sh (nD ru.2), e4, e5, .un] ∧ isBoE e4 = false ∧ isBoE e5 = false) (fun i v => v = .sh (.bool false)) ⟨.un, .un, rfl, rfl, rfl⟩ ?_ ?_ ?_
  · intro i hi ρ ⟨e4, e5, hρ, b4, b5⟩
    subst hρ
    rw [enumD_length, List.length_map] at hi
    have hri := ht.row _ (List.getElem_mem hi)
    have hc := cut_hi (rs.map rowD) i
    rw [← List.map_take] at hc
    have hl : min i rs.length ≤ 1000000 := by omega
    simp [start, entOf, retE, evs, evOs, evA, evTs, evI, toD, toO, toB, evVar, peek, fetch, fetchs, Val.d, asB, asI, items, stV, stTg, isBo_eq, doCall, argsOf, lents, giveBack, outs, isOwn, isLst, chg, appOb, extOb, cmpD, Option.bind_assoc, isiD, wipeE, con, List.replicate, -List.map_take, -List.map_drop, -List.map_reverse, -List.map_tail, enumD_at, exB, b4, b5, slD, hc, kN hl]
    refine gets_lcm rowD (fun o => .bool (bad rs[i] o ru)) (fun o ho => ?_) ?_
    · have hro := ht.row _ (List.mem_of_mem_take ho)
      have e1 := sp_are_equal (n := n) rs[i] o ru.1 (by omega) (fun k hk => by rw [hri.1]; exact h.inn k hk) (fun k hk => by rw [hro.1]; exact h.inn k hk)
      have e2 : ixD (rowD rs[i]) (nD ru.2) = some (cD (cell rs[i] ru.2)) := ix_row (by rw [hri.1]; exact h.thn)
      have e3 : ixD (rowD o) (nD ru.2) = some (cD (cell o ru.2)) := ix_row (by rw [hro.1]; exact h.thn)
      simp [start, entOf, retE, evs, evOs, evA, evTs, evI, toD, toO, toB, evVar, peek, fetch, fetchs, Val.d, asB, asI, items, stV, stTg, isBo_eq, doCall, argsOf, lents, giveBack, outs, isOwn, isLst, chg, appOb, extOb, cmpD, Option.bind_assoc, isiD, wipeE, con, List.replicate, -List.map_take, -List.map_drop, -List.map_reverse, -List.map_tail, evT, evD, e1]
      cases hq : eqCols rs[i] o ru.1 with
      | true => simp [start, entOf, retE, evs, evOs, evA, evTs, evI, toD, toO, toB, evVar, peek, fetch, fetchs, Val.d, asB, asI, items, stV, stTg, isBo_eq, doCall, argsOf, lents, giveBack, outs, isOwn, isLst, chg, appOb, extOb, cmpD, Option.bind_assoc, isiD, wipeE, con, List.replicate, -List.map_take, -List.map_drop, -List.map_reverse, -List.map_tail, e2, e3, eq_cc, bad, hq]
      | false => simp [start, entOf, retE, evs, evOs, evA, evTs, evI, toD, toO, toB, evVar, peek, fetch, fetchs, Val.d, asB, asI, items, stV, stTg, isBo_eq, doCall, argsOf, lents, giveBack, outs, isOwn, isLst, chg, appOb, extOb, cmpD, Option.bind_assoc, isiD, wipeE, con, List.replicate, -List.map_take, -List.map_drop, -List.map_reverse, -List.map_tail, bad, hq]
    · have hb : badAt rs ru i = (rs.take i).any fun o => bad rs[i] o ru := by
        unfold badAt
        rw [List.getD_eq_getElem?_getD, List.getElem?_eq_getElem hi]
        rfl
      have ea := any_blt (rs.take i) fun o => bad rs[i] o ru
      rw [← hb] at ea
      cases hq : badAt rs ru i with
      | true =>
        rw [hq] at ea
        simp [start, entOf, retE, evs, evOs, evA, evTs, evI, toD, toO, toB, evVar, peek, fetch, fetchs, Val.d, asB, asI, items, stV, stTg, isBo_eq, doCall, argsOf, lents, giveBack, outs, isOwn, isLst, chg, appOb, extOb, cmpD, Option.bind_assoc, isiD, wipeE, con, List.replicate, -List.map_take, -List.map_drop, -List.map_reverse, -List.map_tail, ea]
      | false =>
        rw [hq] at ea
        simp [start, entOf, retE, evs, evOs, evA, evTs, evI, toD, toO, toB, evVar, peek, fetch, fetchs, Val.d, asB, asI, items, stV, stTg, isBo_eq, doCall, argsOf, lents, giveBack, outs, isOwn, isLst, chg, appOb, extOb, cmpD, Option.bind_assoc, isiD, wipeE, con, List.replicate, -List.map_take, -List.map_drop, -List.map_reverse, -List.map_tail, ea]
        exact ⟨_, _, ⟨rfl, rfl⟩, rfl, rfl⟩
  · rintro ρ' ⟨e4, e5, rfl, b4, b5⟩ hq
    rw [enumD_length, List.length_map] at hq
    have : ruleHolds rs ru = true := by
      unfold ruleHolds
      rw [List.all_eq_true]
      intro i hi
      rw [hq i (List.mem_range.mp hi)]; rfl
    simp [start, entOf, retE, evs, evOs, evA, evTs, evI, toD, toO, toB, evVar, peek, fetch, fetchs, Val.d, asB, asI, items, stV, stTg, isBo_eq, doCall, argsOf, lents, giveBack, outs, isOwn, isLst, chg, appOb, extOb, cmpD, Option.bind_assoc, isiD, wipeE, con, List.replicate, -List.map_take, -List.map_drop, -List.map_reverse, -List.map_tail, this]
  · rintro i v ρ' hi hq hj rfl
    rw [enumD_length, List.length_map] at hi
    have : ruleHolds rs ru = false := by
      unfold ruleHolds
      rw [List.all_eq_false]
      exact ⟨i, List.mem_range.mpr hi, by rw [hq]; simp⟩
    simp [start, entOf, retE, evs, evOs, evA, evTs, evI, toD, toO, toB, evVar, peek, fetch, fetchs, Val.d, asB, asI, items, stV, stTg, isBo_eq, doCall, argsOf, lents, giveBack, outs, isOwn, isLst, chg, appOb, extOb, cmpD, Option.bind_assoc, isiD, wipeE, con, List.replicate, -List.map_take, -List.map_drop, -List.map_reverse, -List.map_tail, this]
def allHold (rs : List Row) (rules : List Rule) : Bool := rules.all fun ru => ruleHolds rs ru
theorem sp_all_hold (m : Nat) (rs : List Row) (rules : List Rule) (ht : OkT m rs) (h : OkRs m rules) : evalCall Γ con (n + 3) f_all_hold [.sh (rowsD rs), .sh (rulesD rules)] = some (.sh (.bool (allHold rs rules)), []) := by
  refine eq_call g_all_hold rfl ?_
  have hl := h.few
  simp [start, entOf, retE, evs, evOs, evA, evTs, evI, toD, toO, toB, evVar, peek, fetch, fetchs, Val.d, asB, asI, items, stV, stTg, isBo_eq, doCall, argsOf, lents, giveBack, outs, isOwn, isLst, chg, appOb, extOb, cmpD, Option.bind_assoc, isiD, wipeE, con, List.replicate, -List.map_take, -List.map_drop, -List.map_reverse, -List.map_tail, d_all_hold, rulesD, kN (k := rules.length) (by omega)]
  refine gets_lcm ruleD (fun ru => .bool (ruleHolds rs ru)) (fun ru hr => ?_) ?_
  · simp [start, entOf, retE, evs, evOs, evA, evTs, evI, toD, toO, toB, evVar, peek, fetch, fetchs, Val.d, asB, asI, items, stV, stTg, isBo_eq, doCall, argsOf, lents, giveBack, outs, isOwn, isLst, chg, appOb, extOb, cmpD, Option.bind_assoc, isiD, wipeE, con, List.replicate, -List.map_take, -List.map_drop, -List.map_reverse, -List.map_tail, evT, evD, sp_rule_holds m rs ru ht (h.rule ru hr)]
  · simp [start, entOf, retE, evs, evOs, evA, evTs, evI, toD, toO, toB, evVar, peek, fetch, fetchs, Val.d, asB, asI, items, stV, stTg, isBo_eq, doCall, argsOf, lents, giveBack, outs, isOwn, isLst, chg, appOb, extOb, cmpD, Option.bind_assoc, isiD, wipeE, con, List.replicate, -List.map_take, -List.map_drop, -List.map_reverse, -List.map_tail, all_blt, allHold]
def Full (rs : List Row) : Prop := ∀ r ∈ rs, none ∉ r
theorem rowPl_full {i : Nat} {r : Row} (h : none ∉ r) : rowPl i true r = [] := by
  unfold rowPl
  rw [List.map_eq_nil_iff, List.filter_eq_nil_iff]
  rintro ⟨c, k⟩ hp
  have := List.fst_mem_of_mem_zipIdx hp
  cases c with
  | none => exact absurd this h
  | some v => simp
theorem places_full {rs : List Row} (h : Full rs) : ∀ i, i ≤ rs.length → placesUp rs true i = []
  | 0, _ => rfl
  | i + 1, hi => by
    rw [placesUp, places_full h i (by omega), List.nil_append, List.getD_eq_getElem?_getD, List.getElem?_eq_getElem (by omega)]
    exact rowPl_full (h _ (List.getElem_mem (by omega)))
theorem eq_nil_tup : eqD (.tuple []) (.tuple []) = some true := by
  rw [eqD_flt (k := 1) (j := 1) (flt_tuple (by simp)) (flt_tuple (by simp)) (by omega) (by omega)]
  simp [PyData.eqv, PyData.eqvAll]
theorem OkT.le5 {m : Nat} {rs : List Row} (h : OkT m rs) : ∀ r ∈ rs, r.length ≤ 5 := fun r hr => by rw [(h.row r hr).1]; exact h.hi
theorem sp_need_full (m : Nat) (rs : List Row) (ht : OkT m rs) (hf : Full rs) : evalCall Γ con (n + 2) f_need_full [.sh (tabD m rs)] = some (.sh .none, []) := by
  refine eq_call g_need_full rfl ?_
  have e := sp_places_where (n := n) m rs true ht.few ht.le5
  rw [placesOf, places_full hf rs.length (Nat.le_refl _)] at e
  simp [start, entOf, retE, evs, evOs, evA, evTs, evI, toD, toO, toB, evVar, peek, fetch, fetchs, Val.d, asB, asI, items, stV, stTg, isBo_eq, doCall, argsOf, lents, giveBack, outs, isOwn, isLst, chg, appOb, extOb, cmpD, Option.bind_assoc, isiD, wipeE, con, List.replicate, -List.map_take, -List.map_drop, -List.map_reverse, -List.map_tail, d_need_full, e, lim, eq_nil_tup]
theorem sp_holds (m : Nat) (rs : List Row) (rules : List Rule) (ht : OkT m rs) (hf : Full rs) (h : OkRs m rules) : evalCall Γ con (n + 9) f_holds [.sh (tabD m rs), .sh (rulesD rules)] = some (.sh (.bool (allHold rs rules)), []) := by
  refine eq_call g_holds rfl ?_
  have e1 := sp_need_both (n := n) m rs rules ht h
  have e2 := sp_need_full (n := n + 6) m rs ht hf
  have e3 := sp_all_hold (n := n + 5) m rs rules ht h
  simp only [tabD] at e1 e2 ⊢
  simp [start, entOf, retE, evs, evOs, evA, evTs, evI, toD, toO, toB, evVar, peek, fetch, fetchs, Val.d, asB, asI, items, stV, stTg, isBo_eq, doCall, argsOf, lents, giveBack, outs, isOwn, isLst, chg, appOb, extOb, cmpD, Option.bind_assoc, isiD, wipeE, con, List.replicate, -List.map_take, -List.map_drop, -List.map_reverse, -List.map_tail, d_holds, e1, e2, e3]
end MP
end

section
set_option Elab.async false
set_option linter.all false
set_option maxRecDepth 100000
set_option maxHeartbeats 8000000
namespace MP
open PySem
variable {n : Nat}
/-! ### pairs of rows that break a rule -/
def badP (rs : List Row) (ru : Rule) (i j : Nat) : Bool := bad (rs.getD i []) (rs.getD j []) ru
def innUp (rs : List Row) (ru : Rule) (i : Nat) : Nat → List Place
  | 0 => []
  | k + 1 => innUp rs ru i k ++ if badP rs ru i (i + 1 + k) then [(i, i + 1 + k)] else []
def prsUp (rs : List Row) (ru : Rule) : Nat → List Place
  | 0 => []
  | i + 1 => prsUp rs ru i ++ innUp rs ru i (rs.length - (i + 1))
def pairsOf (rs : List Row) (ru : Rule) : List Place := prsUp rs ru rs.length
theorem innUp_len (rs : List Row) (ru : Rule) (i : Nat) : ∀ k, (innUp rs ru i k).length ≤ k
  | 0 => by simp [innUp]
  | k + 1 => by
    have := innUp_len rs ru i k
    simp only [innUp, List.length_append]
    split <;> simp <;> omega
theorem prsUp_len (rs : List Row) (ru : Rule) (h : rs.length ≤ 8) : ∀ i, (prsUp rs ru i).length ≤ 8 * i
  | 0 => by simp [prsUp]
  | i + 1 => by
    have := prsUp_len rs ru h i
    have := innUp_len rs ru i (rs.length - (i + 1))
    simp only [prsUp, List.length_append]
    omega
theorem rng_len (a b : Int) : (rngD a b).length = (b - a).toNat := by simp [rngD]
theorem rng_at (a b : Int) (k : Nat) (h : k < (rngD a b).length) : (rngD a b)[k] = .int (a + (k : Int)) := by simp [rngD]
theorem ix_rows {rs : List Row} {i : Nat} (h : i < rs.length) : ixD (.tuple (rs.map rowD)) (.int (i : Int)) = some (rowD rs[i]) := by
  rw [ixT, List.getElem?_map, List.getElem?_eq_getElem h]
  rfl
theorem getD_at {rs : List Row} {i : Nat} (h : i < rs.length) : rs.getD i [] = rs[i] := by
  rw [List.getD_eq_getElem?_getD, List.getElem?_eq_getElem h]
  rfl
theorem sp_breaking (m : Nat) (rs : List Row) (ru : Rule) (ht : OkT m rs) (hf : Full rs) (h : OkRule m ru) : evalCall Γ con (n + 8) f_breaking [.sh (tabD m rs), .sh (ruleD ru)] = some (.sh (.tuple ((pairsOf rs ru).map plD)), []) := by
  refine eq_call g_breaking rfl ?_
  have hm := ht.hi
  have hgl := h.len
  have hfw := ht.few
  have e1 := sp_need_table (n := n) m rs ht
  have e2 := sp_need_full (n := n + 5) m rs ht hf
  have e3 := sp_is_rule (n := n + 3) m ru ht.hi h
  simp only [tabD, ruleD] at e1 e2 e3 ⊢
  simp [start, entOf, retE, evs, evOs, evA, evTs, evI, toD, toO, toB, evVar, peek, fetch, fetchs, Val.d, asB, asI, items, stV, stTg, isBo_eq, doCall, argsOf, lents, giveBack, outs, isOwn, isLst, chg, appOb, extOb, cmpD, Option.bind_assoc, isiD, wipeE, con, List.replicate, -List.map_take, -List.map_drop, -List.map_reverse, -List.map_tail, d_breaking, e1, e2, e3]
  simp only [rowsD]
  simp [start, entOf, retE, evs, evOs, evA, evTs, evI, toD, toO, toB, evVar, peek, fetch, fetchs, Val.d, asB, asI, items, stV, stTg, isBo_eq, doCall, argsOf, lents, giveBack, outs, isOwn, isLst, chg, appOb, extOb, cmpD, Option.bind_assoc, isiD, wipeE, con, List.replicate, -List.map_take, -List.map_drop, -List.map_reverse, -List.map_tail]
  refine gets_for (fun i ρ => ∃ e4 e5 e6, ρ = [.sh (.tuple [.int (m : Int), .tuple (rs.map rowD)]), .sh (.tuple [natsD ru.1, nD ru.2]), .ow (.lst ((prsUp rs ru i).map plD)), .sh (.tuple (rs.map rowD)), e4, e5, e6, .sh (natsD ru.1), .sh (nD ru.2)] ∧ isBoE e4 = false ∧ isBoE e5 = false ∧ isBoE e6 = false) ⟨.un, .un, .un, rfl, rfl, rfl, rfl⟩ ?_ ?_
  · intro i hi ρ ⟨e4, e5, e6, hρ, b4, b5, b6⟩
    subst hρ
    rw [enumD_length, List.length_map] at hi
    have hri := ht.row _ (List.getElem_mem hi)
    have hl1 : ckI ((i : Int) + 1) = some () := kI (by omega) (by omega)
    have hl2 : ckI (rs.length : Int) = some () := kI (by omega) (by omega)
    simp [start, entOf, retE, evs, evOs, evA, evTs, evI, toD, toO, toB, evVar, peek, fetch, fetchs, Val.d, asB, asI, items, stV, stTg, isBo_eq, doCall, argsOf, lents, giveBack, outs, isOwn, isLst, chg, appOb, extOb, cmpD, Option.bind_assoc, isiD, wipeE, con, List.replicate, -List.map_take, -List.map_drop, -List.map_reverse, -List.map_tail, enumD_at, exB, b4, b5, hl1, hl2]
    refine gets_for (fun k ρ => ∃ e6, ρ = [.sh (.tuple [.int (m : Int), .tuple (rs.map rowD)]), .sh (.tuple [natsD ru.1, nD ru.2]), .ow (.lst ((prsUp rs ru i ++ innUp rs ru i k).map plD)), .sh (.tuple (rs.map rowD)), .sh (.int (i : Int)), .sh (rowD rs[i]), e6, .sh (natsD ru.1), .sh (nD ru.2)] ∧ isBoE e6 = false) ⟨e6, by simp [innUp], b6⟩ ?_ ?_
    · intro k hk ρ ⟨e6, hρ, b6⟩
      subst hρ
      rw [rng_len] at hk
      have hj : i + 1 + k < rs.length := by omega
      have hrj := ht.row _ (List.getElem_mem hj)
      have ej : (i : Int) + 1 + (k : Int) = ((i + 1 + k : Nat) : Int) := by omega
      have a1 := sp_are_equal (n := n + 6) rs[i] rs[i + 1 + k] ru.1 (by omega) (fun c hc => by rw [hri.1]; exact h.inn c hc) (fun c hc => by rw [hrj.1]; exact h.inn c hc)
      have a2 : ixD (rowD rs[i]) (nD ru.2) = some (cD (cell rs[i] ru.2)) := ix_row (by rw [hri.1]; exact h.thn)
      have a3 : ixD (rowD rs[i + 1 + k]) (nD ru.2) = some (cD (cell rs[i + 1 + k] ru.2)) := ix_row (by rw [hrj.1]; exact h.thn)
      have hb : badP rs ru i (i + 1 + k) = bad rs[i] rs[i + 1 + k] ru := by unfold badP; rw [getD_at hi, getD_at hj]
      have l1 := prsUp_len rs ru hfw i
      have l2 := innUp_len rs ru i k
      have hap : (prsUp rs ru i).length + (innUp rs ru i k).length < lim := ylim' (by omega)
      have hix : ixD (.tuple (rs.map rowD)) (.int ((i : Int) + 1 + (k : Int))) = some (rowD rs[i + 1 + k]) := by rw [ej]; exact ix_rows hj
      simp only [rng_at]
      simp [start, entOf, retE, evs, evOs, evA, evTs, evI, toD, toO, toB, evVar, peek, fetch, fetchs, Val.d, asB, asI, items, stV, stTg, isBo_eq, doCall, argsOf, lents, giveBack, outs, isOwn, isLst, chg, appOb, extOb, cmpD, Option.bind_assoc, isiD, wipeE, con, List.replicate, -List.map_take, -List.map_drop, -List.map_reverse, -List.map_tail, exB, b6, hix, a1]
      cases hq : eqCols rs[i] rs[i + 1 + k] ru.1 with
      | true =>
        simp [start, entOf, retE, evs, evOs, evA, evTs, evI, toD, toO, toB, evVar, peek, fetch, fetchs, Val.d, asB, asI, items, stV, stTg, isBo_eq, doCall, argsOf, lents, giveBack, outs, isOwn, isLst, chg, appOb, extOb, cmpD, Option.bind_assoc, isiD, wipeE, con, List.replicate, -List.map_take, -List.map_drop, -List.map_reverse, -List.map_tail, hix, a2, a3, eq_cc]
        by_cases hc : cell rs[i] ru.2 = cell rs[i + 1 + k] ru.2
        · simp [start, entOf, retE, evs, evOs, evA, evTs, evI, toD, toO, toB, evVar, peek, fetch, fetchs, Val.d, asB, asI, items, stV, stTg, isBo_eq, doCall, argsOf, lents, giveBack, outs, isOwn, isLst, chg, appOb, extOb, cmpD, Option.bind_assoc, isiD, wipeE, con, List.replicate, -List.map_take, -List.map_drop, -List.map_reverse, -List.map_tail, hc]
          refine ⟨_, ⟨?_, rfl⟩, rfl⟩
          simp [innUp, hb, bad, hq, hc]
        · simp [start, entOf, retE, evs, evOs, evA, evTs, evI, toD, toO, toB, evVar, peek, fetch, fetchs, Val.d, asB, asI, items, stV, stTg, isBo_eq, doCall, argsOf, lents, giveBack, outs, isOwn, isLst, chg, appOb, extOb, cmpD, Option.bind_assoc, isiD, wipeE, con, List.replicate, -List.map_take, -List.map_drop, -List.map_reverse, -List.map_tail, hc, hap]
          refine ⟨_, ⟨?_, rfl⟩, rfl⟩
          simp [innUp, hb, bad, hq, hc, plD, nD]
      | false =>
        simp [start, entOf, retE, evs, evOs, evA, evTs, evI, toD, toO, toB, evVar, peek, fetch, fetchs, Val.d, asB, asI, items, stV, stTg, isBo_eq, doCall, argsOf, lents, giveBack, outs, isOwn, isLst, chg, appOb, extOb, cmpD, Option.bind_assoc, isiD, wipeE, con, List.replicate, -List.map_take, -List.map_drop, -List.map_reverse, -List.map_tail]
        refine ⟨_, ⟨?_, rfl⟩, rfl⟩
        simp [innUp, hb, bad, hq]
    · rintro ρ' ⟨e6, rfl, b6⟩
      rw [rng_len]
      have e : ((rs.length : Int) - ((i : Int) + 1)).toNat = rs.length - (i + 1) := by omega
      rw [e]
      simp [start, entOf, retE, evs, evOs, evA, evTs, evI, toD, toO, toB, evVar, peek, fetch, fetchs, Val.d, asB, asI, items, stV, stTg, isBo_eq, doCall, argsOf, lents, giveBack, outs, isOwn, isLst, chg, appOb, extOb, cmpD, Option.bind_assoc, isiD, wipeE, con, List.replicate, -List.map_take, -List.map_drop, -List.map_reverse, -List.map_tail]
      exact ⟨_, _, _, ⟨by simp [prsUp], rfl, rfl, rfl⟩, rfl, rfl, b6⟩
  · rintro ρ' ⟨e4, e5, e6, rfl, b4, b5, b6⟩
    simp [start, entOf, retE, evs, evOs, evA, evTs, evI, toD, toO, toB, evVar, peek, fetch, fetchs, Val.d, asB, asI, items, stV, stTg, isBo_eq, doCall, argsOf, lents, giveBack, outs, isOwn, isLst, chg, appOb, extOb, cmpD, Option.bind_assoc, isiD, wipeE, con, List.replicate, -List.map_take, -List.map_drop, -List.map_reverse, -List.map_tail, enumD_length, pairsOf]
end MP
end

section
set_option Elab.async false
set_option linter.all false
set_option maxRecDepth 100000
set_option maxHeartbeats 8000000
namespace MP
open PySem
variable {n : Nat}
/-! ### the pen, and what is drawn with it -/
def Pen (B : Nat) (o : Ob) : Prop := ∃ a b c : Int, o = .lst [.int a, .int b, .int c] ∧ 0 ≤ a ∧ 0 ≤ b ∧ b < 1000000007 ∧ 0 ≤ c ∧ c ≤ (B : Int)
theorem Pen.mono {B B' : Nat} {o : Ob} (h : Pen B o) (hb : B ≤ B') : Pen B' o := by
  obtain ⟨a, b, c, h1, h2, h3, h4, h5, h6⟩ := h
  exact ⟨a, b, c, h1, h2, h3, h4, h5, by omega⟩
theorem mulR {a b : Int} (h1 : 0 ≤ b) (h2 : b < 18446744073709551616) : mulOk a b = true := by
  rw [mulOk_def]
  unfold mulOk0
  simp
  right
  constructor <;> omega
theorem mulL {a b : Int} (h1 : 0 ≤ a) (h2 : a < 18446744073709551616) : mulOk a b = true := by
  rw [mulOk_def]
  unfold mulOk0
  simp
  left
  constructor <;> omega
theorem sp_cell_at (ns : List Int) (k : Nat) : evalCall Γ con (n + 1) f_l_cell_at [.sh (.list (ns.map .int)), .sh (.int (k : Int))] = some (.sh (.int (ns.getD k 0)), []) := by
  refine eq_call g_l_cell_at rfl ?_
  by_cases h : k < ns.length
  · have e : ixD (.list (ns.map .int)) (.int (k : Int)) = some (.int ns[k]) := by rw [ixL, List.getElem?_map, List.getElem?_eq_getElem h]; rfl
    simp [start, entOf, retE, evs, evOs, evA, evTs, evI, toD, toO, toB, evVar, peek, fetch, fetchs, Val.d, asB, asI, items, stV, stTg, isBo_eq, doCall, argsOf, lents, giveBack, outs, isOwn, isLst, chg, appOb, extOb, cmpD, Option.bind_assoc, isiD, wipeE, con, List.replicate, -List.map_take, -List.map_drop, -List.map_reverse, -List.map_tail, d_l_cell_at, e, h]
  · have e : ns[k]? = none := List.getElem?_eq_none (by omega)
    simp [start, entOf, retE, evs, evOs, evA, evTs, evI, toD, toO, toB, evVar, peek, fetch, fetchs, Val.d, asB, asI, items, stV, stTg, isBo_eq, doCall, argsOf, lents, giveBack, outs, isOwn, isLst, chg, appOb, extOb, cmpD, Option.bind_assoc, isiD, wipeE, con, List.replicate, -List.map_take, -List.map_drop, -List.map_reverse, -List.map_tail, d_l_cell_at, h, e]
theorem sp_pen (z : Int) : ∃ o, Pen 0 o ∧ evalCall Γ con (n + 1) f_l_pen [.sh (.int z)] = some (.ow o, []) := by
  have e : evalCall Γ con (n + 1) f_l_pen [.sh (.int z)] = some (.ow (.lst [.int (if z - 1000000000000000000 > 0 then z - 1000000000000000000 else 0), .int (z % 1000000007), .int 0]), []) := by
    refine eq_call g_l_pen rfl ?_
    simp [start, entOf, retE, evs, evOs, evA, evTs, evI, toD, toO, toB, evVar, peek, fetch, fetchs, Val.d, asB, asI, items, stV, stTg, isBo_eq, doCall, argsOf, lents, giveBack, outs, isOwn, isLst, chg, appOb, extOb, cmpD, Option.bind_assoc, isiD, wipeE, con, List.replicate, -List.map_take, -List.map_drop, -List.map_reverse, -List.map_tail, d_l_pen]
  refine ⟨_, ⟨_, _, _, rfl, ?_, ?_, ?_, ?_, ?_⟩, e⟩
  · split <;> omega
  · omega
  · omega
  · omega
  · omega
theorem sp_draw (B m : Nat) (o : Ob) (h : Pen B o) (hB : B < 1000000000000) (h0 : 0 < m) (h1 : m ≤ 1000000) :
    ∃ (d : Nat) (o' : Ob), d < m ∧ Pen (B + 1) o' ∧ evalCall Γ con (n + 1) f_l_draw [.mu o, .sh (.int (m : Int))] = some (.sh (.int (d : Int)), [o']) := by
  obtain ⟨a, b, c, rfl, ha, hb, hb', hc, hc'⟩ := h
  have hm : (0 : Int) < (m : Int) := by omega
  have hf : fdOk (m : Int) = true := fdOk_iff.mpr ⟨by omega, by omega⟩
  have key : ∀ x : Int, ∃ d : Nat, d < m ∧ x % (m : Int) = (d : Int) := fun x => by
    have g1 := Int.emod_nonneg x (Int.ne_of_gt hm)
    have g2 := Int.emod_lt_of_pos x hm
    exact ⟨(x % (m : Int)).toNat, by omega, by omega⟩
  by_cases hq : 0 < a
  · obtain ⟨d, hd, e⟩ := key a
    refine ⟨d, .lst [.int (a / (m : Int)), .int b, .int c], hd, ⟨_, _, _, rfl, Int.ediv_nonneg ha (by omega), hb, hb', hc, by omega⟩, ?_⟩
    refine eq_call g_l_draw rfl ?_
    simp [start, entOf, retE, evs, evOs, evA, evTs, evI, toD, toO, toB, evVar, peek, fetch, fetchs, Val.d, asB, asI, items, stV, stTg, isBo_eq, doCall, argsOf, lents, giveBack, outs, isOwn, isLst, chg, appOb, extOb, cmpD, Option.bind_assoc, isiD, wipeE, con, List.replicate, -List.map_take, -List.map_drop, -List.map_reverse, -List.map_tail, d_l_draw, hq, hm, hf, e, h0]
  · have f32 : fdOk 32 = true := fdOk_iff.mpr ⟨by omega, by omega⟩
    have m1 : ∀ x, mulOk 17 x = true := fun x => mulL (by omega) (by omega)
    have m2 : ∀ x, mulOk 2 x = true := fun x => mulL (by omega) (by omega)
    have m3 : ∀ x, mulOk 40503 x = true := fun x => mulL (by omega) (by omega)
    have m4 : ∀ x, mulOk x 48271 = true := fun x => mulR (by omega) (by omega)
    have m5 : ∀ x, mulOk x (69621 + 2 * (c + 1)) = true := fun x => mulR (by omega) (by omega)
    have m6 : ∀ x y : Int, mulOk (x % 2147483647) y = true := fun x y => mulL (Int.emod_nonneg x (by omega)) (by omega)
    obtain ⟨d, hd, e⟩ := key ((((b + 17 * (c + 1)) * (69621 + 2 * (c + 1)) % 2147483647 * ((b + 17 * (c + 1)) * (69621 + 2 * (c + 1)) % 2147483647) + 40503 * (c + 1) + 5) % 2147483629) * 48271 % 2147483647 / 32)
    refine ⟨d, .lst [.int a, .int b, .int (c + 1)], hd, ⟨_, _, _, rfl, ha, hb, hb', by omega, by omega⟩, ?_⟩
    refine eq_call g_l_draw rfl ?_
    simp [start, entOf, retE, evs, evOs, evA, evTs, evI, toD, toO, toB, evVar, peek, fetch, fetchs, Val.d, asB, asI, items, stV, stTg, isBo_eq, doCall, argsOf, lents, giveBack, outs, isOwn, isLst, chg, appOb, extOb, cmpD, Option.bind_assoc, isiD, wipeE, con, List.replicate, -List.map_take, -List.map_drop, -List.map_reverse, -List.map_tail, d_l_draw, hq, hm, hf, h0, f32, m1, m2, m3, m4, m5, m6, e]
end MP
end

section
set_option Elab.async false
set_option linter.all false
set_option maxRecDepth 100000
set_option maxHeartbeats 8000000
namespace MP
open PySem
variable {n : Nat}
def sortN (g : List Nat) : List Nat := (sortI (g.map fun (k : Nat) => (k : Int))).map Int.toNat
theorem sortN_perm (g : List Nat) : (sortN g).Perm g := by
  have h := (sortI_perm (g.map fun (k : Nat) => (k : Int))).map Int.toNat
  rw [List.map_map] at h
  have e : Int.toNat ∘ (fun (k : Nat) => (k : Int)) = id := by funext k; simp
  rw [e, List.map_id] at h
  exact h
theorem sortN_cast (g : List Nat) : sortI (g.map fun (k : Nat) => (k : Int)) = (sortN g).map fun (k : Nat) => (k : Int) := by
  unfold sortN
  rw [List.map_map]
  have : ∀ l : List Int, (∀ x ∈ l, 0 ≤ x) → l = l.map ((fun (k : Nat) => (k : Int)) ∘ Int.toNat) := fun l hl => by
    induction l with
    | nil => rfl
    | cons a l ih =>
      have h1 := hl a List.mem_cons_self
      have h2 := ih fun x hx => hl x (List.mem_cons_of_mem _ hx)
      rw [List.map_cons, ← h2]
      congr 1
      simp
      omega
  apply this
  intro x hx
  obtain ⟨k, _, rfl⟩ := List.mem_map.mp ((sortI_perm _).mem_iff.mp hx)
  omega
theorem sortN_asc {g : List Nat} (h : g.Nodup) : (sortN g).Pairwise (· < ·) := by
  have hs : (sortN g).Pairwise (· ≤ ·) := by
    unfold sortN
    rw [List.pairwise_map]
    exact (sortI_sorted _).imp fun h => by omega
  have hn : (sortN g).Nodup := (sortN_perm g).nodup_iff.mpr h
  exact (hs.and hn).imp fun h => Nat.lt_of_le_of_ne h.1 h.2
theorem sorted_n (g : List Nat) : bltD .sorted [.list (g.map nD)] = some (.ow (.lst ((sortN g).map nD))) := by
  have e : (g.map nD) = g.map fun (a : Nat) => (.int (a : Int) : D) := rfl
  simp only [bltD, e, sortD]
  rw [intsD_map g fun (k : Nat) => (k : Int)]
  simp only [sortN_cast, List.map_map]
  rfl
theorem sizes (z : Nat) (h : z < 7) : ∃ s : Nat, s ≤ 4 ∧ ixD (.list [.int 1, .int 1, .int 2, .int 1, .int 0, .int 3, .int 4]) (.int (z : Int)) = some (.int (s : Int)) := by
  match z, h with
  | 0, _ => exact ⟨1, by omega, rfl⟩
  | 1, _ => exact ⟨1, by omega, rfl⟩
  | 2, _ => exact ⟨2, by omega, rfl⟩
  | 3, _ => exact ⟨1, by omega, rfl⟩
  | 4, _ => exact ⟨0, by omega, rfl⟩
  | 5, _ => exact ⟨3, by omega, rfl⟩
  | 6, _ => exact ⟨4, by omega, rfl⟩
theorem erase_map {α β : Type} (f : α → β) : ∀ (l : List α) (k : Nat), (l.map f).eraseIdx k = (l.eraseIdx k).map f
  | [], k => by simp
  | a :: l, 0 => by simp
  | a :: l, k + 1 => by simp [erase_map f l k]
theorem erase_perm {α : Type} : ∀ (l : List α) (k : Nat) (h : k < l.length), ([l[k]] ++ l.eraseIdx k).Perm l
  | [], k, h => by cases h
  | a :: l, 0, h => by simp
  | a :: l, k + 1, h => by
    have ih := erase_perm l k (by simpa using h)
    simp only [List.getElem_cons_succ, List.eraseIdx_cons_succ, List.singleton_append] at ih ⊢
    exact (List.Perm.swap a _ _).trans (ih.cons a)
theorem pop_n (l : List Nat) (k : Nat) (h : k < l.length) (hl : l.length ≤ 1000) : popOb (k : Int) (.lst (l.map nD)) = some (nD l[k], .lst ((l.eraseIdx k).map nD)) := by
  unfold popOb
  simp only
  rw [if_pos (ylim (by rw [List.length_map]; omega))]
  unfold L2.ixN
  rw [if_pos (by omega), if_pos (by rw [List.length_map]; omega)]
  simp [List.getElem?_eq_getElem h, erase_map]
/-- what a call answers that draws -/
def DrewZ {α : Type} (v : α → D) (ok : α → Prop) (B : Nat) (r : Val × List Ob) : Prop := ∃ x o', ok x ∧ Pen B o' ∧ r = (.sh (v x), [o'])
theorem drew {α : Type} {v : α → D} {ok : α → Prop} {B : Nat} {c : Option (Val × List Ob)} (h : Gets c (DrewZ v ok B)) : ∃ x o', ok x ∧ Pen B o' ∧ c = some (.sh (v x), [o']) := by
  obtain ⟨r, e, x, o', h1, h2, rfl⟩ := h
  exact ⟨x, o', h1, h2, e⟩
theorem sp_rule (B m : Nat) (o : Ob) (hp : Pen B o) (hB : B + 10 < 1000000000000) (h0 : 0 < m) (hm : m ≤ 5) :
    ∃ (ru : Rule) (o' : Ob), OkRule m ru ∧ Pen (B + 6) o' ∧ evalCall Γ con (n + 2) f_l_rule [.mu o, .sh (.int (m : Int))] = some (.sh (ruleD ru), [o']) := by
  refine drew (gets_call g_l_rule rfl ?_)
  obtain ⟨t, o1, ht, hp1, e1⟩ := sp_draw (n := n) B m o hp (by omega) h0 (by omega)
  obtain ⟨z, o2, hz, hp2, e2⟩ := sp_draw (n := n) (B + 1) 7 o1 hp1 (by omega) (by omega) (by omega)
  have e2' : evalCall Γ con (n + 1) f_l_draw [.mu o1, .sh (.int 7)] = some (.sh (.int (z : Int)), [o2]) := e2
  obtain ⟨s, hs, e3⟩ := sizes z hz
  simp [start, entOf, retE, evs, evOs, evA, evTs, evI, toD, toO, toB, evVar, peek, fetch, fetchs, Val.d, asB, asI, items, stV, stTg, isBo_eq, doCall, argsOf, lents, giveBack, outs, isOwn, isLst, chg, appOb, extOb, cmpD, Option.bind_assoc, isiD, wipeE, con, List.replicate, -List.map_take, -List.map_drop, -List.map_reverse, -List.map_tail, d_l_rule, e1, kI (i := (m : Int)) (by omega) (by omega), kN (k := m) (by omega), rng0]
  refine gets_lcf (fun (i : Nat) => (.int (i : Int) : D)) (fun i => decide (i ≠ t)) nD (fun i hi => ?_) ?_
  · by_cases hb : i = t
    · simp [start, entOf, retE, evs, evOs, evA, evTs, evI, toD, toO, toB, evVar, peek, fetch, fetchs, Val.d, asB, asI, items, stV, stTg, isBo_eq, doCall, argsOf, lents, giveBack, outs, isOwn, isLst, chg, appOb, extOb, cmpD, Option.bind_assoc, isiD, wipeE, con, List.replicate, -List.map_take, -List.map_drop, -List.map_reverse, -List.map_tail, evT, evD, hb, nD]
    · have hb' : ¬ (i : Int) = (t : Int) := by omega
      simp [start, entOf, retE, evs, evOs, evA, evTs, evI, toD, toO, toB, evVar, peek, fetch, fetchs, Val.d, asB, asI, items, stV, stTg, isBo_eq, doCall, argsOf, lents, giveBack, outs, isOwn, isLst, chg, appOb, extOb, cmpD, Option.bind_assoc, isiD, wipeE, con, List.replicate, -List.map_take, -List.map_drop, -List.map_reverse, -List.map_tail, evT, evD, hb, hb', nD]
  obtain ⟨os, hos⟩ : ∃ os, os = (List.range m).filter (fun i => decide (i ≠ t)) := ⟨_, rfl⟩
  rw [← hos]
  have ho1 : os.length ≤ 5 := by rw [hos]; exact Nat.le_trans (List.length_filter_le _ _) (by rw [List.length_range]; exact hm)
  have ho2 : os.Nodup := by rw [hos]; exact List.nodup_range.filter _
  have ho3 : ∀ x ∈ os, x < m ∧ x ≠ t := fun x hx => by rw [hos] at hx; simpa using hx
  have hmin : (if os.length < s then (os.length : Int) else (s : Int)) = ((min s os.length : Nat) : Int) := by
    split <;> omega
  have hlm : ckI ((min s os.length : Nat) : Int) = some () := kI (by omega) (by omega)
  simp [start, entOf, retE, evs, evOs, evA, evTs, evI, toD, toO, toB, evVar, peek, fetch, fetchs, Val.d, asB, asI, items, stV, stTg, isBo_eq, doCall, argsOf, lents, giveBack, outs, isOwn, isLst, chg, appOb, extOb, cmpD, Option.bind_assoc, isiD, wipeE, con, List.replicate, -List.map_take, -List.map_drop, -List.map_reverse, -List.map_tail, e2', e3]
  rw [hmin, hlm, Option.bind_some]
  refine gets_for (fun i ρ => ∃ o3 L G e6, ρ = [.bo o3, .sh (.int (m : Int)), .sh (.int (t : Int)), .ow (.lst (L.map nD)), .sh (.int (s : Int)), .ow (.lst (G.map nD)), e6, .un] ∧ isBoE e6 = false ∧ Pen (B + 2 + i) o3 ∧ (G ++ L).Perm os ∧ G.length = i) ⟨o2, os, [], .un, rfl, rfl, hp2, .refl _, rfl⟩ ?_ ?_
  · rintro i hi ρ ⟨o3, L, G, e6, rfl, b6, hp3, hpm, hgl⟩
    rw [rng_len] at hi
    have hll := hpm.length_eq
    rw [List.length_append] at hll
    obtain ⟨k, o4, hk, hp4, e4⟩ := sp_draw (n := n) (B + 2 + i) L.length o3 hp3 (by omega) (by omega) (by omega)
    have hgl' : G.length < lim := ylim' (by omega)
    simp only [rng_at]
    simp [start, entOf, retE, evs, evOs, evA, evTs, evI, toD, toO, toB, evVar, peek, fetch, fetchs, Val.d, asB, asI, items, stV, stTg, isBo_eq, doCall, argsOf, lents, giveBack, outs, isOwn, isLst, chg, appOb, extOb, cmpD, Option.bind_assoc, isiD, wipeE, con, List.replicate, -List.map_take, -List.map_drop, -List.map_reverse, -List.map_tail, exB, b6, e4, pop_n L k hk (by omega), hgl']
    refine ⟨o4, L.eraseIdx k, G ++ [L[k]], _, ⟨rfl, rfl, by simp, rfl⟩, rfl, hp4, ?_, by simp [hgl]⟩
    refine List.Perm.trans ?_ hpm
    rw [List.append_assoc]
    exact List.Perm.append_left G (erase_perm L k hk)
  · rintro ρ' ⟨o3, L, G, e6, rfl, b6, hp3, hpm, hgl⟩
    rw [rng_len] at hp3 hgl
    have nd : (G ++ L).Nodup := hpm.nodup_iff.mpr ho2
    have ndG : G.Nodup := (List.nodup_append.mp nd).1
    have inG : ∀ x ∈ sortN G, x < m ∧ x ≠ t := fun x hx => ho3 x (hpm.mem_iff.mp (List.mem_append_left _ ((sortN_perm G).mem_iff.mp hx)))
    simp [start, entOf, retE, evs, evOs, evA, evTs, evI, toD, toO, toB, evVar, peek, fetch, fetchs, Val.d, asB, asI, items, stV, stTg, isBo_eq, doCall, argsOf, lents, giveBack, outs, isOwn, isLst, chg, appOb, extOb, cmpD, Option.bind_assoc, isiD, wipeE, con, List.replicate, -List.map_take, -List.map_drop, -List.map_reverse, -List.map_tail, sorted_n]
    exact ⟨(sortN G, t), o3, ⟨sortN_asc ndG, fun k hk => (inG k hk).1, ht, fun hx => (inG t hx).2 rfl⟩, hp3.mono (by omega), rfl⟩
theorem gets_lcd {f : Env → Option (D × Env)} {t : Env → Option (Bool × Env)} {tg : Tg} {own : List Nat} {xs : List D} {o : Ob} {β : Type} {K : List D × Env → Option β} {Z : β → Prop} {α : Type} (v : α → D) (env : Ob → Env) (ok : α → Prop) (B c : Nat) (h0 : Pen B o)
    (hs : ∀ x ∈ xs, ∀ k < xs.length, ∀ o, Pen (B + c * k) o → ∃ a o', ok a ∧ Pen (B + c * k + c) o' ∧ ∃ ρ1 ρ3, stTg tg x (env o) = some ρ1 ∧ t ρ1 = some (true, ρ1) ∧ f ρ1 = some (v a, ρ3) ∧ wipeE ρ3 own = env o')
    (hk : ∀ (as : List α) (o' : Ob), (∀ a ∈ as, ok a) → as.length = xs.length → Pen (B + c * xs.length) o' → Gets (K (as.map v, env o')) Z) : Gets ((lcGo f t tg own xs (env o)).bind K) Z := by
  refine gets_lc (fun ys ρ => ∃ (as : List α) (o2 : Ob), ys = as.map v ∧ ρ = env o2 ∧ Pen (B + c * as.length) o2 ∧ ∀ a ∈ as, ok a) ⟨[], o, rfl, rfl, h0, fun r hr => by cases hr⟩ ?_ ?_
  · rintro x hx ys ρ hl ⟨as, o2, rfl, rfl, hp2, hr⟩
    rw [List.length_map] at hl
    obtain ⟨a, o', h1, h2, ρ1, ρ3, h3, h4, h5, h6⟩ := hs x hx as.length hl o2 hp2
    refine ⟨ρ1, v a, ρ3, h3, h4, h5, as ++ [a], o', by simp, h6, ?_, ?_⟩
    · rw [List.length_append, List.length_singleton, Nat.mul_add, Nat.mul_one, ← Nat.add_assoc]
      exact h2
    · intro b hb
      rcases List.mem_append.mp hb with hb | hb
      · exact hr b hb
      · rw [List.mem_singleton.mp hb]
        exact h1
  · rintro ys ρ' ⟨as, o2, rfl, rfl, hp2, hr⟩ hl
    rw [List.length_map] at hl
    rw [hl] at hp2
    exact hk as o2 hr hl hp2
theorem sp_rules (B m N : Nat) (o : Ob) (hp : Pen B o) (hB : B + 100 < 1000000000000) (h0 : 0 < m) (hm : m ≤ 5) (hN : N ≤ 8) :
    ∃ (rs : List Rule) (o' : Ob), OkRs m rs ∧ Pen (B + 49) o' ∧ evalCall Γ con (n + 3) f_l_rules [.mu o, .sh (.int (m : Int)), .sh (.int (N : Int))] = some (.sh (rulesD rs), [o']) := by
  refine drew (gets_call g_l_rules rfl ?_)
  obtain ⟨t, o1, ht, hp1, e1⟩ := sp_draw (n := n + 1) B (N + 1) o hp (by omega) (by omega) (by omega)
  have e1' : evalCall Γ con (n + 2) f_l_draw [.mu o, .sh (.int ((N : Int) + 1))] = some (.sh (.int (t : Int)), [o1]) := e1
  simp [start, entOf, retE, evs, evOs, evA, evTs, evI, toD, toO, toB, evVar, peek, fetch, fetchs, Val.d, asB, asI, items, stV, stTg, isBo_eq, doCall, argsOf, lents, giveBack, outs, isOwn, isLst, chg, appOb, extOb, cmpD, Option.bind_assoc, isiD, wipeE, con, List.replicate, -List.map_take, -List.map_drop, -List.map_reverse, -List.map_tail, d_l_rules, e1', kI (i := (t : Int)) (by omega) (by omega), kN (k := t) (by omega), rng0]
  refine gets_lcd ruleD (fun o => [.bo o, .sh (.int (m : Int)), .sh (.int (N : Int)), .un]) (OkRule m) (B + 1) 6 hp1 ?_ ?_
  · intro x hx k hk o2 hp2
    rw [List.length_map, List.length_range] at hk
    obtain ⟨i, hi, rfl⟩ := List.mem_map.mp hx
    obtain ⟨ru, o3, hru, hp3, e3⟩ := sp_rule (n := n) (B + 1 + 6 * k) m o2 hp2 (by omega) h0 hm
    refine ⟨ru, o3, hru, hp3, ?_⟩
    simp [start, entOf, retE, evs, evOs, evA, evTs, evI, toD, toO, toB, evVar, peek, fetch, fetchs, Val.d, asB, asI, items, stV, stTg, isBo_eq, doCall, argsOf, lents, giveBack, outs, isOwn, isLst, chg, appOb, extOb, cmpD, Option.bind_assoc, isiD, wipeE, con, List.replicate, -List.map_take, -List.map_drop, -List.map_reverse, -List.map_tail, evT, evD, e3]
  · intro rs o2 hr hl hp2
    rw [List.length_map, List.length_range] at hl hp2
    simp [start, entOf, retE, evs, evOs, evA, evTs, evI, toD, toO, toB, evVar, peek, fetch, fetchs, Val.d, asB, asI, items, stV, stTg, isBo_eq, doCall, argsOf, lents, giveBack, outs, isOwn, isLst, chg, appOb, extOb, cmpD, Option.bind_assoc, isiD, wipeE, con, List.replicate, -List.map_take, -List.map_drop, -List.map_reverse, -List.map_tail]
    exact ⟨rs, o2, ⟨by omega, hr⟩, hp2.mono (by omega), rfl⟩
theorem picks (z : Nat) (h : z < 4) : ∃ vs : List Int, vs ≠ [] ∧ vs.length ≤ 4 ∧ (∀ v ∈ vs, 0 ≤ v ∧ v ≤ 9999) ∧ ixD (.list [.list [.int 0], .list [.int 0, .int 1], .list [.int 3, .int 1, .int 2], .list [.int 9999, .int 10, .int 100, .int 2]]) (.int (z : Int)) = some (.list (vs.map .int)) := by
  match z, h with
  | 0, _ => exact ⟨[0], by simp, by simp, by simp, rfl⟩
  | 1, _ => exact ⟨[0, 1], by simp, by simp, by simp, rfl⟩
  | 2, _ => exact ⟨[3, 1, 2], by simp, by simp, by simp, rfl⟩
  | 3, _ => exact ⟨[9999, 10, 100, 2], by simp, by simp, by simp, rfl⟩
def OkVs (vs : List Int) : Prop := vs ≠ [] ∧ vs.length ≤ 4 ∧ ∀ v ∈ vs, 0 ≤ v ∧ v ≤ 9999
def valsD (vs : List Int) : D := .list (vs.map .int)
theorem sp_pick (B : Nat) (o : Ob) (hp : Pen B o) (hB : B + 10 < 1000000000000) :
    ∃ (vs : List Int) (o' : Ob), OkVs vs ∧ Pen (B + 1) o' ∧ evalCall Γ con (n + 2) f_l_pick_values [.mu o] = some (.sh (valsD vs), [o']) := by
  refine drew (gets_call g_l_pick_values rfl ?_)
  obtain ⟨z, o2, hz, hp2, e2⟩ := sp_draw (n := n) B 4 o hp (by omega) (by omega) (by omega)
  have e2' : evalCall Γ con (n + 1) f_l_draw [.mu o, .sh (.int 4)] = some (.sh (.int (z : Int)), [o2]) := e2
  obtain ⟨vs, h1, h2, h3, e3⟩ := picks z hz
  simp [start, entOf, retE, evs, evOs, evA, evTs, evI, toD, toO, toB, evVar, peek, fetch, fetchs, Val.d, asB, asI, items, stV, stTg, isBo_eq, doCall, argsOf, lents, giveBack, outs, isOwn, isLst, chg, appOb, extOb, cmpD, Option.bind_assoc, isiD, wipeE, con, List.replicate, -List.map_take, -List.map_drop, -List.map_reverse, -List.map_tail, d_l_pick_values, e2', e3]
  exact ⟨vs, o2, ⟨h1, h2, h3⟩, hp2, rfl⟩
def intsRow (vs : List Int) : Row := vs.map some
theorem vals_at (vs : List Int) (k : Nat) (h : k < vs.length) : ixD (.list (vs.map .int)) (.int (k : Int)) = some (.int vs[k]) := by
  rw [ixL, List.getElem?_map, List.getElem?_eq_getElem h]
  rfl
theorem sp_full (B m N : Nat) (o : Ob) (hp : Pen B o) (hB : B + 100 < 1000000000000) (h0 : 0 < m) (hm : m ≤ 5) (hN : N ≤ 8) :
    ∃ (rs : List Row) (o' : Ob), (OkT m rs ∧ Full rs) ∧ Pen (B + 42) o' ∧ evalCall Γ con (n + 3) f_l_full [.mu o, .sh (.int (m : Int)), .sh (.int (N : Int))] = some (.sh (rowsD rs), [o']) := by
  refine drew (gets_call g_l_full rfl ?_)
  obtain ⟨vs, o1, ⟨hv1, hv2, hv3⟩, hp1, e1⟩ := sp_pick (n := n) B o hp (by omega)
  have hv0 : 0 < vs.length := by
    cases vs with
    | nil => exact absurd rfl hv1
    | cons a l => simp
  obtain ⟨t, o2, ht, hp2, e2⟩ := sp_draw (n := n + 1) (B + 1) (N + 1) o1 hp1 (by omega) (by omega) (by omega)
  have e2' : evalCall Γ con (n + 2) f_l_draw [.mu o1, .sh (.int ((N : Int) + 1))] = some (.sh (.int (t : Int)), [o2]) := e2
  simp [start, entOf, retE, evs, evOs, evA, evTs, evI, toD, toO, toB, evVar, peek, fetch, fetchs, Val.d, asB, asI, items, stV, stTg, isBo_eq, doCall, argsOf, lents, giveBack, outs, isOwn, isLst, chg, appOb, extOb, cmpD, Option.bind_assoc, isiD, wipeE, con, List.replicate, -List.map_take, -List.map_drop, -List.map_reverse, -List.map_tail, d_l_full, e1, e2', kI (i := (t : Int)) (by omega) (by omega), valsD]
  refine gets_for (fun i ρ => ∃ o3 rs e3, ρ = [.bo o3, .sh (.int (m : Int)), .sh (.int (N : Int)), e3, .sh (.list (vs.map .int)), .ow (.lst (rs.map rowD)), .un] ∧ isBoE e3 = false ∧ Pen (B + 2 + 5 * i) o3 ∧ rs.length = i ∧ ∀ r ∈ rs, OkR m r ∧ none ∉ r) ⟨o2, [], .un, rfl, rfl, hp2, rfl, fun r hr => by cases hr⟩ ?_ ?_
  · rintro i hi ρ ⟨o3, rs, e3, rfl, b3, hp3, hl, hr⟩
    rw [rng_len] at hi
    have hlm : rs.length < lim := ylim' (by omega)
    simp only [rng_at]
    simp [start, entOf, retE, evs, evOs, evA, evTs, evI, toD, toO, toB, evVar, peek, fetch, fetchs, Val.d, asB, asI, items, stV, stTg, isBo_eq, doCall, argsOf, lents, giveBack, outs, isOwn, isLst, chg, appOb, extOb, cmpD, Option.bind_assoc, isiD, wipeE, con, List.replicate, -List.map_take, -List.map_drop, -List.map_reverse, -List.map_tail, exB, b3, kI (i := (m : Int)) (by omega) (by omega), kN (k := m) (by omega), rng0]
    refine gets_lcd (fun (v : Int) => (.int v : D)) (fun o => [.bo o, .sh (.int (m : Int)), .sh (.int (N : Int)), .sh (.int (i : Int)), .sh (.list (vs.map .int)), .ow (.lst (rs.map rowD)), .un]) (fun v => 0 ≤ v ∧ v ≤ 9999) (B + 2 + 5 * i) 1 hp3 ?_ ?_
    · intro x hx k hk o4 hp4
      rw [List.length_map, List.length_range] at hk
      obtain ⟨j, hj, rfl⟩ := List.mem_map.mp hx
      obtain ⟨d, o5, hd, hp5, e5⟩ := sp_draw (n := n + 1) (B + 2 + 5 * i + 1 * k) vs.length o4 hp4 (by omega) hv0 (by omega)
      refine ⟨vs[d], o5, hv3 _ (List.getElem_mem hd), hp5, ?_⟩
      simp [start, entOf, retE, evs, evOs, evA, evTs, evI, toD, toO, toB, evVar, peek, fetch, fetchs, Val.d, asB, asI, items, stV, stTg, isBo_eq, doCall, argsOf, lents, giveBack, outs, isOwn, isLst, chg, appOb, extOb, cmpD, Option.bind_assoc, isiD, wipeE, con, List.replicate, -List.map_take, -List.map_drop, -List.map_reverse, -List.map_tail, evT, evD, e5, vals_at vs d hd]
    · intro as o4 has hal hp4
      rw [List.length_map, List.length_range] at hal hp4
      simp [start, entOf, retE, evs, evOs, evA, evTs, evI, toD, toO, toB, evVar, peek, fetch, fetchs, Val.d, asB, asI, items, stV, stTg, isBo_eq, doCall, argsOf, lents, giveBack, outs, isOwn, isLst, chg, appOb, extOb, cmpD, Option.bind_assoc, isiD, wipeE, con, List.replicate, -List.map_take, -List.map_drop, -List.map_reverse, -List.map_tail, hlm]
      refine ⟨o4, rs ++ [intsRow as], _, ⟨rfl, rfl, ?_⟩, rfl, hp4.mono (by omega), by simp [hl], ?_⟩
      · simp [rowD, intsRow, cD]
      · intro r hr'
        rcases List.mem_append.mp hr' with h | h
        · exact hr r h
        · rw [List.mem_singleton.mp h]
          refine ⟨⟨by simp [intsRow, hal], fun c hc v hv => ?_⟩, by simp [intsRow]⟩
          obtain ⟨w, hw, rfl⟩ := List.mem_map.mp hc
          cases hv
          exact has _ hw
  · rintro ρ' ⟨o3, rs, e3, rfl, b3, hp3, hl, hr⟩
    rw [rng_len] at hp3 hl
    simp [start, entOf, retE, evs, evOs, evA, evTs, evI, toD, toO, toB, evVar, peek, fetch, fetchs, Val.d, asB, asI, items, stV, stTg, isBo_eq, doCall, argsOf, lents, giveBack, outs, isOwn, isLst, chg, appOb, extOb, cmpD, Option.bind_assoc, isiD, wipeE, con, List.replicate, -List.map_take, -List.map_drop, -List.map_reverse, -List.map_tail]
    exact ⟨rs, o3, ⟨⟨h0, hm, by omega, fun r h => (hr r h).1⟩, fun r h => (hr r h).2⟩, hp3.mono (by omega), rfl⟩
end MP
end

section
set_option Elab.async false
set_option linter.all false
set_option maxRecDepth 100000
set_option maxHeartbeats 8000000
namespace MP
open PySem
variable {n : Nat}
/-! ### data small enough to be written -/
structure Sm (k w : Nat) (d : D) : Prop where
  lay : d.canLay0 = true
  dep : d.depth ≤ k
  wt : d.weight ≤ w
  sht : d.intsShort 13 = true
  shw : d.showable = true
theorem Sm.mono {k w k' w' : Nat} {d : D} (h : Sm k w d) (hk : k ≤ k') (hw : w ≤ w') : Sm k' w' d := ⟨h.lay, Nat.le_trans h.dep hk, Nat.le_trans h.wt hw, h.sht, h.shw⟩
theorem sm_none : Sm 0 0 .none := ⟨by simp [PyData.canLay0], by simp [PyData.depth], by simp [PyData.weight], by simp [PyData.intsShort], by simp [PyData.showable]⟩
theorem sm_bool (b : Bool) : Sm 0 0 (.bool b) := ⟨by simp [PyData.canLay0], by simp [PyData.depth], by simp [PyData.weight], by simp [PyData.intsShort], by simp [PyData.showable]⟩
theorem sm_int {i : Int} (h : i.natAbs < 1000000) : Sm 0 20 (.int i) := by
  have hl : i ≠ 0 → i.natAbs.log2 < 20 := fun h0 => (Nat.log2_lt (by omega)).mpr (Nat.lt_trans h (by decide))
  refine ⟨by simp [PyData.canLay0], by simp [PyData.depth], ?_, ?_, ?_⟩
  · rw [PyData.weight]
    by_cases h0 : i = 0
    · rw [if_pos (by rw [h0]; rfl)]
      omega
    · rw [if_neg (by simpa using h0)]
      have := hl h0
      omega
  · rw [PyData.intsShort]
    exact decide_eq_true (PyData.shown_int_le (Nat.lt_trans h (by decide)))
  · rw [PyData.showable]
    apply decide_eq_true
    by_cases h0 : i = 0
    · rw [h0]
      decide
    · have := hl h0
      omega
theorem sm_all {k w : Nat} : ∀ {xs : List D}, (∀ x ∈ xs, Sm k w x) → PyData.canLayAll0 xs = true ∧ PyData.depthAll xs ≤ k ∧ PyData.weightAll xs ≤ (w + 1) * xs.length ∧ PyData.intsShortAll 13 xs = true ∧ PyData.showableAll xs = true
  | [], _ => by simp [PyData.canLayAll0, PyData.depthAll, PyData.weightAll, PyData.intsShortAll, PyData.showableAll]
  | x :: xs, h => by
    obtain ⟨h1, h2, h3, h4, h5⟩ := sm_all (k := k) (w := w) (xs := xs) fun y hy => h y (List.mem_cons_of_mem _ hy)
    have hx := h x List.mem_cons_self
    refine ⟨by simp [PyData.canLayAll0, hx.lay, h1], ?_, ?_, by simp [PyData.intsShortAll, hx.sht, h4], by simp [PyData.showableAll, hx.shw, h5]⟩
    · rw [PyData.depthAll]
      have := hx.dep
      omega
    · rw [PyData.weightAll, List.length_cons, Nat.mul_add]
      have := hx.wt
      omega
theorem sm_tuple {k w N : Nat} {xs : List D} (h : ∀ x ∈ xs, Sm k w x) (hn : xs.length ≤ N) : Sm (k + 1) ((w + 1) * N) (.tuple xs) := by
  obtain ⟨h1, h2, h3, h4, h5⟩ := sm_all h
  have := Nat.mul_le_mul_left (w + 1) hn
  exact ⟨by simp [PyData.canLay0, h1], by rw [PyData.depth]; omega, by rw [PyData.weight]; omega, by simp [PyData.intsShort, h4], by simp [PyData.showable, h5]⟩
theorem sm_list {k w N : Nat} {xs : List D} (h : ∀ x ∈ xs, Sm k w x) (hn : xs.length ≤ N) : Sm (k + 1) ((w + 1) * N) (.list xs) := by
  obtain ⟨h1, h2, h3, h4, h5⟩ := sm_all h
  have := Nat.mul_le_mul_left (w + 1) hn
  exact ⟨by simp [PyData.canLay0, h1], by rw [PyData.depth]; omega, by rw [PyData.weight]; omega, by simp [PyData.intsShort, h4], by simp [PyData.showable, h5]⟩
theorem Sm.ok {k w : Nat} {d : D} (h : Sm k w d) (hk : k ≤ 64) (hw : w ≤ 1048576) : reprOk d = true := by
  unfold reprOk PyData.layable0
  have h1 := h.dep
  have h2 := h.wt
  simp [h.lay, h.sht, h.shw]
  omega
theorem Sm.flt {k w : Nat} {d : D} (h : Sm k w d) : Flt k d := ⟨h.lay, h.dep⟩
/-! the values of this program -/
theorem sm_cell {c : Cell} (h : OkC c) : Sm 0 20 (cD c) := by
  cases c with
  | none => exact sm_none.mono (by omega) (by omega)
  | some v =>
    have := h v rfl
    exact sm_int (by omega)
theorem sm_nat {k : Nat} (h : k < 1000000) : Sm 0 20 (nD k) := sm_int (by omega)
theorem sm_row {m : Nat} {r : Row} (hm : m ≤ 5) (h : OkR m r) : Sm 1 105 (rowD r) := sm_tuple (N := 5) (fun x hx => by
  obtain ⟨c, hc, rfl⟩ := List.mem_map.mp hx
  exact sm_cell (h.2 c hc)) (by rw [List.length_map, h.1]; exact hm)
theorem sm_rows {m : Nat} {rs : List Row} (h : OkT m rs) : Sm 2 848 (rowsD rs) := sm_tuple (N := 8) (fun x hx => by
  obtain ⟨r, hr, rfl⟩ := List.mem_map.mp hx
  exact sm_row h.hi (h.row r hr)) (by rw [List.length_map]; exact h.few)
theorem sm_two {k w : Nat} {a b : D} (ha : Sm k w a) (hb : Sm k w b) : Sm (k + 1) ((w + 1) * 2) (.tuple [a, b]) := sm_tuple (fun x hx => by
  simp at hx
  rcases hx with rfl | rfl
  · exact ha
  · exact hb) (by simp)
theorem sm_twoL {k w : Nat} {a b : D} (ha : Sm k w a) (hb : Sm k w b) : Sm (k + 1) ((w + 1) * 2) (.list [a, b]) := sm_list (fun x hx => by
  simp at hx
  rcases hx with rfl | rfl
  · exact ha
  · exact hb) (by simp)
theorem sm_tab {m : Nat} {rs : List Row} (h : OkT m rs) : Sm 3 1700 (tabD m rs) := (sm_two (k := 2) (w := 848) ((sm_nat (by have := h.hi; omega)).mono (by omega) (by omega)) (sm_rows h)).mono (by omega) (by omega)
theorem sm_rule {m : Nat} {ru : Rule} (hm : m ≤ 5) (h : OkRule m ru) : Sm 2 250 (ruleD ru) := by
  have := h.len
  refine (sm_two (k := 1) (w := 105) (sm_tuple (k := 0) (w := 20) (N := 5) (fun x hx => ?_) ?_) ((sm_nat (by have := h.thn; omega)).mono (by omega) (by omega))).mono (by omega) (by omega)
  · obtain ⟨c, hc, rfl⟩ := List.mem_map.mp hx
    exact sm_nat (by have := h.inn c hc; omega)
  · rw [List.length_map]
    omega
theorem sm_rules {m : Nat} {rs : List Rule} (hm : m ≤ 5) (h : OkRs m rs) : Sm 3 2008 (rulesD rs) := sm_tuple (N := 8) (fun x hx => by
  obtain ⟨r, hr, rfl⟩ := List.mem_map.mp hx
  exact sm_rule hm (h.rule r hr)) (by rw [List.length_map]; exact h.few)
theorem sp_same {k w : Nat} {d : D} (h : Sm k w d) (hk : k ≤ 64) (hw : w ≤ 1048576) : evalCall Γ con (n + 1) f_l_same [.sh d, .sh d] = some (.sh (.bool true), []) := by
  refine eq_call g_l_same rfl ?_
  simp [start, entOf, retE, evs, evOs, evA, evTs, evI, toD, toO, toB, evVar, peek, fetch, fetchs, Val.d, asB, asI, items, stV, stTg, isBo_eq, doCall, argsOf, lents, giveBack, outs, isOwn, isLst, chg, appOb, extOb, cmpD, Option.bind_assoc, isiD, wipeE, con, List.replicate, -List.map_take, -List.map_drop, -List.map_reverse, -List.map_tail, d_l_same, bltD, h.ok hk hw]
end MP
end

section
set_option Elab.async false
set_option linter.all false
set_option maxRecDepth 100000
set_option maxHeartbeats 8000000
namespace MP
open PySem
variable {n : Nat}
/-! ### the law's own pairs -/
theorem eqvAll_nil (xs : List D) : PyData.eqvAll xs [] = xs.isEmpty := by
  cases xs <;> rfl
theorem eqL_nil {k : Nat} {xs : List D} (h : Flt k (.list xs)) (hk : k ≤ 64) : eqD (.list xs) (.list []) = some xs.isEmpty := by
  rw [eqD_flt h (flt_list (k := 0) (xs := []) (fun x hx => by cases hx)) hk (by omega)]
  rw [PyData.eqv, eqvAll_nil]
theorem eqT_nil {k : Nat} {xs : List D} (h : Flt k (.tuple xs)) (hk : k ≤ 64) : eqD (.tuple xs) (.tuple []) = some xs.isEmpty := by
  rw [eqD_flt h (flt_tuple (k := 0) (xs := []) (fun x hx => by cases hx)) hk (by omega)]
  rw [PyData.eqv, eqvAll_nil]
theorem flt_ones {α : Type} (l : List α) : Flt 1 (.list (l.map fun _ => .int 1)) := flt_list fun x hx => by
  obtain ⟨_, _, rfl⟩ := List.mem_map.mp hx
  exact flt_int 0 1
theorem apart_nil (r s : Row) (g : List Nat) : (g.filter fun c => !decide (cell r c = cell s c)).isEmpty = eqCols r s g := by
  rw [Bool.eq_iff_iff, List.isEmpty_iff, List.filter_eq_nil_iff]
  unfold eqCols
  simp
theorem sp_pairs (m : Nat) (rs : List Row) (ru : Rule) (ht : OkT m rs) (h : OkRule m ru) : evalCall Γ con (n + 1) f_l_pairs [.sh (rowsD rs), .sh (ruleD ru)] = some (.sh (.tuple ((pairsOf rs ru).map plD)), []) := by
  refine eq_call g_l_pairs rfl ?_
  have hm := ht.hi
  have hgl := h.len
  have hfw := ht.few
  have hl2 : ckI (rs.length : Int) = some () := kI (by omega) (by omega)
  simp only [rowsD, ruleD]
  simp [start, entOf, retE, evs, evOs, evA, evTs, evI, toD, toO, toB, evVar, peek, fetch, fetchs, Val.d, asB, asI, items, stV, stTg, isBo_eq, doCall, argsOf, lents, giveBack, outs, isOwn, isLst, chg, appOb, extOb, cmpD, Option.bind_assoc, isiD, wipeE, con, List.replicate, -List.map_take, -List.map_drop, -List.map_reverse, -List.map_tail, d_l_pairs, hl2]
  refine gets_for (fun i ρ => ∃ e3 e6 e7, ρ = [.sh (.tuple (rs.map rowD)), .sh (.tuple [natsD ru.1, nD ru.2]), .ow (.lst ((prsUp rs ru i).map plD)), e3, .sh (natsD ru.1), .sh (nD ru.2), e6, e7, .un] ∧ isBoE e3 = false ∧ isBoE e6 = false ∧ isBoE e7 = false) ⟨.un, .un, .un, rfl, rfl, rfl, rfl⟩ ?_ ?_
  · rintro i hi ρ ⟨e3, e6, e7, rfl, b3, b6, b7⟩
    rw [rng_len] at hi
    have hi : i < rs.length := by omega
    have hri := ht.row _ (List.getElem_mem hi)
    have hl1 : ckI ((i : Int) + 1) = some () := kI (by omega) (by omega)
    simp only [rng_at]
    simp [start, entOf, retE, evs, evOs, evA, evTs, evI, toD, toO, toB, evVar, peek, fetch, fetchs, Val.d, asB, asI, items, stV, stTg, isBo_eq, doCall, argsOf, lents, giveBack, outs, isOwn, isLst, chg, appOb, extOb, cmpD, Option.bind_assoc, isiD, wipeE, con, List.replicate, -List.map_take, -List.map_drop, -List.map_reverse, -List.map_tail, exB, b3, hl1, hl2]
    refine gets_for (fun k ρ => ∃ e6 e7, ρ = [.sh (.tuple (rs.map rowD)), .sh (.tuple [natsD ru.1, nD ru.2]), .ow (.lst ((prsUp rs ru i ++ innUp rs ru i k).map plD)), .sh (.int (i : Int)), .sh (natsD ru.1), .sh (nD ru.2), e6, e7, .un] ∧ isBoE e6 = false ∧ isBoE e7 = false) ⟨e6, e7, by simp [innUp], b6, b7⟩ ?_ ?_
    · rintro k hk ρ ⟨e6, e7, rfl, b6, b7⟩
      rw [rng_len] at hk
      have hj : i + 1 + k < rs.length := by omega
      have hrj := ht.row _ (List.getElem_mem hj)
      have ej : (i : Int) + 1 + (k : Int) = ((i + 1 + k : Nat) : Int) := by omega
      have a1 : ∀ c ∈ ru.1, ixD (rowD rs[i]) (nD c) = some (cD (cell rs[i] c)) := fun c hc => ix_row (by rw [hri.1]; exact h.inn c hc)
      have a1' : ∀ c ∈ ru.1, ixD (rowD rs[i + 1 + k]) (nD c) = some (cD (cell rs[i + 1 + k] c)) := fun c hc => ix_row (by rw [hrj.1]; exact h.inn c hc)
      have a2 : ixD (rowD rs[i]) (nD ru.2) = some (cD (cell rs[i] ru.2)) := ix_row (by rw [hri.1]; exact h.thn)
      have a3 : ixD (rowD rs[i + 1 + k]) (nD ru.2) = some (cD (cell rs[i + 1 + k] ru.2)) := ix_row (by rw [hrj.1]; exact h.thn)
      have hb : badP rs ru i (i + 1 + k) = bad rs[i] rs[i + 1 + k] ru := by unfold badP; rw [getD_at hi, getD_at hj]
      have l1 := prsUp_len rs ru hfw i
      have l2 := innUp_len rs ru i k
      have hap : (prsUp rs ru i).length + (innUp rs ru i k).length < lim := ylim' (by omega)
      have hix : ixD (.tuple (rs.map rowD)) (.int ((i : Int) + 1 + (k : Int))) = some (rowD rs[i + 1 + k]) := by rw [ej]; exact ix_rows hj
      simp only [rng_at]
      simp [start, entOf, retE, evs, evOs, evA, evTs, evI, toD, toO, toB, evVar, peek, fetch, fetchs, Val.d, asB, asI, items, stV, stTg, isBo_eq, doCall, argsOf, lents, giveBack, outs, isOwn, isLst, chg, appOb, extOb, cmpD, Option.bind_assoc, isiD, wipeE, con, List.replicate, -List.map_take, -List.map_drop, -List.map_reverse, -List.map_tail, exB, b6, natsD, kN (k := ru.1.length) (by omega)]
      refine gets_lcf nD (fun c => !decide (cell rs[i] c = cell rs[i + 1 + k] c)) (fun _ => .int 1) (fun c hc => ?_) ?_
      · by_cases hcc : cell rs[i] c = cell rs[i + 1 + k] c
        · simp [start, entOf, retE, evs, evOs, evA, evTs, evI, toD, toO, toB, evVar, peek, fetch, fetchs, Val.d, asB, asI, items, stV, stTg, isBo_eq, doCall, argsOf, lents, giveBack, outs, isOwn, isLst, chg, appOb, extOb, cmpD, Option.bind_assoc, isiD, wipeE, con, List.replicate, -List.map_take, -List.map_drop, -List.map_reverse, -List.map_tail, evT, evD, hix, ix_rows hi, a1 c hc, a1' c hc, eq_cc, hcc]
        · simp [start, entOf, retE, evs, evOs, evA, evTs, evI, toD, toO, toB, evVar, peek, fetch, fetchs, Val.d, asB, asI, items, stV, stTg, isBo_eq, doCall, argsOf, lents, giveBack, outs, isOwn, isLst, chg, appOb, extOb, cmpD, Option.bind_assoc, isiD, wipeE, con, List.replicate, -List.map_take, -List.map_drop, -List.map_reverse, -List.map_tail, evT, evD, hix, ix_rows hi, a1 c hc, a1' c hc, eq_cc, hcc]
      · have q := eqL_nil (flt_ones (ru.1.filter fun c => !decide (cell rs[i] c = cell rs[i + 1 + k] c))) (by omega)
        rw [List.isEmpty_map, apart_nil] at q
        cases hq : eqCols rs[i] rs[i + 1 + k] ru.1 with
        | true =>
          rw [hq] at q
          by_cases hc : cell rs[i] ru.2 = cell rs[i + 1 + k] ru.2
          · simp [start, entOf, retE, evs, evOs, evA, evTs, evI, toD, toO, toB, evVar, peek, fetch, fetchs, Val.d, asB, asI, items, stV, stTg, isBo_eq, doCall, argsOf, lents, giveBack, outs, isOwn, isLst, chg, appOb, extOb, cmpD, Option.bind_assoc, isiD, wipeE, con, List.replicate, -List.map_take, -List.map_drop, -List.map_reverse, -List.map_tail, b7, q, hix, ix_rows hi, a2, a3, eq_cc, hc]
            refine ⟨_, _, ⟨?_, rfl, rfl⟩, rfl, rfl⟩
            simp [innUp, hb, bad, hq, hc]
          · simp [start, entOf, retE, evs, evOs, evA, evTs, evI, toD, toO, toB, evVar, peek, fetch, fetchs, Val.d, asB, asI, items, stV, stTg, isBo_eq, doCall, argsOf, lents, giveBack, outs, isOwn, isLst, chg, appOb, extOb, cmpD, Option.bind_assoc, isiD, wipeE, con, List.replicate, -List.map_take, -List.map_drop, -List.map_reverse, -List.map_tail, b7, q, hix, ix_rows hi, a2, a3, eq_cc, hc, hap]
            refine ⟨_, _, ⟨?_, rfl, rfl⟩, rfl, rfl⟩
            simp [innUp, hb, bad, hq, hc, plD, nD]
        | false =>
          rw [hq] at q
          simp [start, entOf, retE, evs, evOs, evA, evTs, evI, toD, toO, toB, evVar, peek, fetch, fetchs, Val.d, asB, asI, items, stV, stTg, isBo_eq, doCall, argsOf, lents, giveBack, outs, isOwn, isLst, chg, appOb, extOb, cmpD, Option.bind_assoc, isiD, wipeE, con, List.replicate, -List.map_take, -List.map_drop, -List.map_reverse, -List.map_tail, b7, q]
          refine ⟨_, _, ⟨?_, rfl, rfl⟩, rfl, rfl⟩
          simp [innUp, hb, bad, hq]
    · rintro ρ' ⟨e6, e7, rfl, b6, b7⟩
      rw [rng_len]
      have e : ((rs.length : Int) - ((i : Int) + 1)).toNat = rs.length - (i + 1) := by omega
      rw [e]
      simp [start, entOf, retE, evs, evOs, evA, evTs, evI, toD, toO, toB, evVar, peek, fetch, fetchs, Val.d, asB, asI, items, stV, stTg, isBo_eq, doCall, argsOf, lents, giveBack, outs, isOwn, isLst, chg, appOb, extOb, cmpD, Option.bind_assoc, isiD, wipeE, con, List.replicate, -List.map_take, -List.map_drop, -List.map_reverse, -List.map_tail]
      exact ⟨_, _, _, ⟨by simp [prsUp], rfl, rfl, rfl⟩, rfl, b6, b7⟩
  · rintro ρ' ⟨e3, e6, e7, rfl, b3, b6, b7⟩
    simp [start, entOf, retE, evs, evOs, evA, evTs, evI, toD, toO, toB, evVar, peek, fetch, fetchs, Val.d, asB, asI, items, stV, stTg, isBo_eq, doCall, argsOf, lents, giveBack, outs, isOwn, isLst, chg, appOb, extOb, cmpD, Option.bind_assoc, isiD, wipeE, con, List.replicate, -List.map_take, -List.map_drop, -List.map_reverse, -List.map_tail, rng_len, pairsOf]
end MP
end

section
set_option Elab.async false
set_option linter.all false
set_option maxRecDepth 100000
set_option maxHeartbeats 8000000
namespace MP
open PySem
variable {n : Nat}
/-! ### plain: no pairs, and the rule holds -/
theorem bad_comm (r s : Row) (ru : Rule) : bad r s ru = bad s r ru := by
  unfold bad eqCols
  rw [Bool.eq_iff_iff]
  simp only [Bool.and_eq_true, List.all_eq_true, decide_eq_true_eq]
  constructor
  · rintro ⟨h1, h2⟩
    exact ⟨fun c hc => (h1 c hc).symm, fun e => h2 e.symm⟩
  · rintro ⟨h1, h2⟩
    exact ⟨fun c hc => (h1 c hc).symm, fun e => h2 e.symm⟩
theorem innUp_nil (rs : List Row) (ru : Rule) (i : Nat) : ∀ k, innUp rs ru i k = [] ↔ ∀ j < k, badP rs ru i (i + 1 + j) = false
  | 0 => by simp [innUp]
  | k + 1 => by
    rw [innUp, List.append_eq_nil_iff, innUp_nil rs ru i k]
    constructor
    · rintro ⟨h1, h2⟩ j hj
      by_cases e : j = k
      · subst e
        cases hb : badP rs ru i (i + 1 + j) with
        | false => rfl
        | true => rw [hb] at h2; simp at h2
      · exact h1 j (by omega)
    · intro h
      refine ⟨fun j hj => h j (by omega), ?_⟩
      rw [h k (by omega)]
      simp
theorem prsUp_nil (rs : List Row) (ru : Rule) : ∀ n, prsUp rs ru n = [] ↔ ∀ i < n, innUp rs ru i (rs.length - (i + 1)) = []
  | 0 => by simp [prsUp]
  | n + 1 => by
    rw [prsUp, List.append_eq_nil_iff, prsUp_nil rs ru n]
    constructor
    · rintro ⟨h1, h2⟩ i hi
      by_cases e : i = n
      · subst e
        exact h2
      · exact h1 i (by omega)
    · intro h
      exact ⟨fun i hi => h i (by omega), h n (by omega)⟩
theorem pairs_nil (rs : List Row) (ru : Rule) : (pairsOf rs ru).isEmpty = ruleHolds rs ru := by
  rw [Bool.eq_iff_iff, List.isEmpty_iff]
  unfold pairsOf
  rw [prsUp_nil]
  unfold ruleHolds
  rw [List.all_eq_true]
  constructor
  · intro h i hi
    have hi : i < rs.length := List.mem_range.mp hi
    unfold badAt
    rw [Bool.not_eq_true', List.any_eq_false]
    intro o ho
    obtain ⟨j, hj, rfl⟩ := List.getElem_of_mem ho
    rw [List.length_take] at hj
    have hj' : j < i := by omega
    have h1 := (innUp_nil rs ru j _).mp (h j (by omega)) (i - (j + 1)) (by omega)
    have e : j + 1 + (i - (j + 1)) = i := by omega
    rw [e] at h1
    unfold badP at h1
    rw [List.getElem_take, bad_comm, getD_at hi]
    rw [getD_at hi, getD_at (show j < rs.length by omega)] at h1
    simp [h1]
  · intro h i hi
    rw [innUp_nil]
    intro j hj
    have hk : i + 1 + j < rs.length := by omega
    have h1 := h (i + 1 + j) (List.mem_range.mpr hk)
    unfold badAt at h1
    rw [Bool.not_eq_true', List.any_eq_false] at h1
    have h2 := h1 rs[i] (List.mem_take_iff_getElem.mpr ⟨i, by omega, rfl⟩)
    unfold badP
    rw [bad_comm]
    rw [← getD_at hi] at h2
    simpa using h2
theorem innUp_mem (rs : List Row) (ru : Rule) (i : Nat) : ∀ k, ∀ p ∈ innUp rs ru i k, p.1 = i ∧ p.2 < i + 1 + k
  | 0, p, hp => by cases hp
  | k + 1, p, hp => by
    rw [innUp] at hp
    rcases List.mem_append.mp hp with h | h
    · have := innUp_mem rs ru i k p h
      omega
    · split at h
      · rw [List.mem_singleton.mp h]
        exact ⟨rfl, by simp only; omega⟩
      · cases h
theorem prsUp_mem (rs : List Row) (ru : Rule) : ∀ n, n ≤ rs.length → ∀ p ∈ prsUp rs ru n, p.1 < rs.length ∧ p.2 < rs.length
  | 0, _, p, hp => by cases hp
  | n + 1, hn, p, hp => by
    rw [prsUp] at hp
    rcases List.mem_append.mp hp with h | h
    · exact prsUp_mem rs ru n (by omega) p h
    · have := innUp_mem rs ru n _ p h
      omega
theorem sm_pl {p : Place} (h1 : p.1 < 1000) (h2 : p.2 < 1000) : Sm 1 42 (plD p) := sm_two (sm_nat (by omega)) (sm_nat (by omega))
theorem sm_prs {rs : List Row} (ru : Rule) (h : rs.length ≤ 8) : Sm 2 2752 (.tuple ((pairsOf rs ru).map plD)) := sm_tuple (N := 64) (fun x hx => by
  obtain ⟨p, hp, rfl⟩ := List.mem_map.mp hx
  have := prsUp_mem rs ru rs.length (Nat.le_refl _) p hp
  exact sm_pl (p := p) (by omega) (by omega)) (by
  rw [List.length_map]
  have := prsUp_len rs ru h rs.length
  show (prsUp rs ru rs.length).length ≤ 64
  omega)
def everyUp (rs : List Row) (rules : List Rule) (i : Nat) : List Place := ((rules.take i).map fun ru => pairsOf rs ru).flatten
theorem everyUp_succ (rs : List Row) (rules : List Rule) (i : Nat) (h : i < rules.length) : everyUp rs rules (i + 1) = everyUp rs rules i ++ pairsOf rs rules[i] := by
  unfold everyUp
  rw [← List.take_append_getElem h]
  simp only [List.map_append, List.flatten_append, List.map_cons, List.map_nil, List.flatten_cons, List.flatten_nil, List.append_nil]
theorem everyUp_len (rs : List Row) (rules : List Rule) (h : rs.length ≤ 8) : ∀ i, (everyUp rs rules i).length ≤ 64 * i
  | 0 => by simp [everyUp]
  | i + 1 => by
    by_cases hi : i < rules.length
    · rw [everyUp_succ rs rules i hi, List.length_append]
      have h1 := everyUp_len rs rules h i
      have h2 := prsUp_len rs rules[i] h rs.length
      unfold pairsOf
      omega
    · have e : everyUp rs rules (i + 1) = everyUp rs rules i := by
        unfold everyUp
        rw [List.take_of_length_le (by omega), List.take_of_length_le (by omega)]
      rw [e]
      have h1 := everyUp_len rs rules h i
      omega
theorem every_nil (rs : List Row) (rules : List Rule) : (everyUp rs rules rules.length).isEmpty = allHold rs rules := by
  unfold everyUp allHold
  rw [List.take_length, Bool.eq_iff_iff, List.isEmpty_iff, List.flatten_eq_nil_iff, List.all_eq_true]
  constructor
  · intro h ru hr
    rw [← pairs_nil, List.isEmpty_iff]
    exact h _ (List.mem_map_of_mem hr)
  · intro h x hx
    obtain ⟨ru, hr, rfl⟩ := List.mem_map.mp hx
    have := h ru hr
    rw [← pairs_nil, List.isEmpty_iff] at this
    exact this
theorem flt_pls (l : List Place) : Flt 2 (.list (l.map plD)) := flt_list fun x hx => by
  obtain ⟨p, hp, rfl⟩ := List.mem_map.mp hx
  exact flt_tuple fun y hy => by
    simp at hy
    rcases hy with rfl | rfl <;> exact flt_int 0 _
theorem flt_plsT (l : List Place) : Flt 2 (.tuple (l.map plD)) := flt_tuple fun x hx => by
  obtain ⟨p, hp, rfl⟩ := List.mem_map.mp hx
  exact flt_tuple fun y hy => by
    simp at hy
    rcases hy with rfl | rfl <;> exact flt_int 0 _
theorem ok_one {m : Nat} {ru : Rule} (h : OkRule m ru) : OkRs m [ru] := ⟨by simp, fun r hr => by rw [List.mem_singleton.mp hr]; exact h⟩
def boolD (b : Bool) : D := .bool b
theorem sp_right (B : Nat) (o : Ob) (hp : Pen B o) (hB : B + 200 < 1000000000000) :
    ∃ (b : Bool) (o' : Ob), b = true ∧ Pen (B + 100) o' ∧ evalCall Γ con (n + 10) f_l_right [.mu o] = some (.sh (boolD b), [o']) := by
  refine drew (gets_call g_l_right rfl ?_)
  obtain ⟨d, o1, hd, hp1, e1⟩ := sp_draw (n := n + 8) B 5 o hp (by omega) (by omega) (by omega)
  have e1' : evalCall Γ con (n + 9) f_l_draw [.mu o, .sh (.int 5)] = some (.sh (.int (d : Int)), [o1]) := e1
  obtain ⟨m, hm⟩ : ∃ m, m = 1 + d := ⟨_, rfl⟩
  have hm' : (1 : Int) + (d : Int) = (m : Int) := by omega
  obtain ⟨rs, o2, ⟨ht, hf⟩, hp2, e2⟩ := sp_full (n := n + 6) (B + 1) m 8 o1 hp1 (by omega) (by omega) (by omega) (by omega)
  have e2' : evalCall Γ con (n + 9) f_l_full [.mu o1, .sh (.int (m : Int)), .sh (.int 8)] = some (.sh (rowsD rs), [o2]) := e2
  obtain ⟨rules, o3, hr, hp3, e3⟩ := sp_rules (n := n + 6) (B + 1 + 42) m 8 o2 hp2 (by omega) (by omega) (by omega) (by omega)
  have e3' : evalCall Γ con (n + 9) f_l_rules [.mu o2, .sh (.int (m : Int)), .sh (.int 8)] = some (.sh (rulesD rules), [o3]) := e3
  have hsm : reprOk (.tuple [tabD m rs, rulesD rules]) = true := (sm_two (k := 3) (w := 2008) ((sm_tab ht).mono (by omega) (by omega)) (sm_rules ht.hi hr)).ok (by omega) (by omega)
  have e4 : bltD .repr [.tuple [.tuple [.int (m : Int), rowsD rs], rulesD rules]] = some (.sh (.str (PyData.tuple [tabD m rs, rulesD rules]).shown)) := by
    simp only [tabD] at hsm ⊢
    simp only [bltD]
    rw [if_pos hsm]
  obtain ⟨kept, hkept⟩ : ∃ kept, kept = (PyData.tuple [tabD m rs, rulesD rules]).shown := ⟨_, rfl⟩
  rw [← hkept] at e4
  have hrl := hr.few
  have hrs := ht.few
  simp [start, entOf, retE, evs, evOs, evA, evTs, evI, toD, toO, toB, evVar, peek, fetch, fetchs, Val.d, asB, asI, items, stV, stTg, isBo_eq, doCall, argsOf, lents, giveBack, outs, isOwn, isLst, chg, appOb, extOb, cmpD, Option.bind_assoc, isiD, wipeE, con, List.replicate, -List.map_take, -List.map_drop, -List.map_reverse, -List.map_tail, d_l_right, e1', hm', e2', e3', e4]
  simp only [rulesD]
  simp [start, entOf, retE, evs, evOs, evA, evTs, evI, toD, toO, toB, evVar, peek, fetch, fetchs, Val.d, asB, asI, items, stV, stTg, isBo_eq, doCall, argsOf, lents, giveBack, outs, isOwn, isLst, chg, appOb, extOb, cmpD, Option.bind_assoc, isiD, wipeE, con, List.replicate, -List.map_take, -List.map_drop, -List.map_reverse, -List.map_tail]
  refine gets_for (fun i ρ => ∃ e2 e7, ρ = [.bo o3, .sh (.int (m : Int)), e2, .sh (.tuple [.int (m : Int), rowsD rs]), .sh (.tuple (rules.map ruleD)), .sh (.str kept), .ow (.lst ((everyUp rs rules i).map plD)), e7] ∧ isBoE e2 = false ∧ isBoE e7 = false) ⟨.un, .un, by simp [everyUp], rfl, rfl⟩ ?_ ?_
  · rintro i hi ρ ⟨e2, e7, rfl, b2, b7⟩
    rw [List.length_map] at hi
    have hri := hr.rule _ (List.getElem_mem hi)
    have hev := everyUp_len rs rules hrs i
    have hpr := prsUp_len rs rules[i] hrs rs.length
    have hlm : (everyUp rs rules i).length + (pairsOf rs rules[i]).length ≤ lim := ylim (by unfold pairsOf; omega)
    have a1 := sp_pairs (n := n + 8) m rs rules[i] ht hri
    have a2 := sp_breaking (n := n + 1) m rs rules[i] ht hf hri
    have hs := sm_prs (rs := rs) rules[i] hrs
    have a3 := sp_same (n := n + 8) (sm_twoL hs hs) (by omega) (by omega)
    have a4 := sp_holds (n := n) m rs [rules[i]] ht hf (ok_one hri)
    have a5 := eqT_nil (flt_plsT (pairsOf rs rules[i])) (by omega)
    rw [List.isEmpty_map, pairs_nil] at a5
    have a6 := sp_same (n := n + 8) (sm_bool (ruleHolds rs rules[i])) (by omega) (by omega)
    simp only [tabD, rulesD, List.map_cons, List.map_nil, allHold, List.all_cons, List.all_nil, Bool.and_true] at a2 a4
    simp [start, entOf, retE, evs, evOs, evA, evTs, evI, toD, toO, toB, evVar, peek, fetch, fetchs, Val.d, asB, asI, items, stV, stTg, isBo_eq, doCall, argsOf, lents, giveBack, outs, isOwn, isLst, chg, appOb, extOb, cmpD, Option.bind_assoc, isiD, wipeE, con, List.replicate, -List.map_take, -List.map_drop, -List.map_reverse, -List.map_tail, exB, b2, b7, a1, a2, a3, a4, a5, a6, hlm]
    refine ⟨_, _, ⟨rfl, ?_, rfl⟩, rfl, rfl⟩
    simp [everyUp_succ rs rules i hi]
  · rintro ρ' ⟨e2, e7, rfl, b2, b7⟩
    rw [List.length_map]
    have a4 := sp_holds (n := n) m rs rules ht hf hr
    simp only [tabD, rulesD] at a4 e4
    have a5 := eqL_nil (flt_pls (everyUp rs rules rules.length)) (by omega)
    rw [List.isEmpty_map, every_nil] at a5
    have a6 := sp_same (n := n + 8) (sm_bool (allHold rs rules)) (by omega) (by omega)
    simp [start, entOf, retE, evs, evOs, evA, evTs, evI, toD, toO, toB, evVar, peek, fetch, fetchs, Val.d, asB, asI, items, stV, stTg, isBo_eq, doCall, argsOf, lents, giveBack, outs, isOwn, isLst, chg, appOb, extOb, cmpD, Option.bind_assoc, isiD, wipeE, con, List.replicate, -List.map_take, -List.map_drop, -List.map_reverse, -List.map_tail, a4, a5, a6, e4]
    exact ⟨true, o3, rfl, hp3.mono (by omega), rfl⟩
theorem law_k53 : ∀ ns : List Int, ns.length ≤ 63 → evalCall Γ con 40 f_law [.sh (.list (ns.map .int))] = some (.sh (.bool true), []) := by
  intro ns hns
  refine eq_call (n := 39) g_law rfl ?_
  obtain ⟨L, hL⟩ : ∃ L : Int, L = (if 1 < (if 3 < (ns.length : Int) then 3 else (ns.length : Int)) then (if 3 < (ns.length : Int) then 3 else (ns.length : Int)) else 1) := ⟨_, rfl⟩
  have hk : ckI L = some () := by
    rw [hL]
    apply kI <;> (repeat' split) <;> omega
  have hk8 : ckI 8 = some () := kI (by omega) (by omega)
  simp [start, entOf, retE, evs, evOs, evA, evTs, evI, toD, toO, toB, evVar, peek, fetch, fetchs, Val.d, asB, asI, items, stV, stTg, isBo_eq, doCall, argsOf, lents, giveBack, outs, isOwn, isLst, chg, appOb, extOb, cmpD, Option.bind_assoc, isiD, wipeE, con, List.replicate, -List.map_take, -List.map_drop, -List.map_reverse, -List.map_tail, d_law]
  rw [← hL, hk, Option.bind_some]
  refine gets_for (fun i ρ => ∃ e1 e2 e3, ρ = [.sh (.list (ns.map .int)), e1, e2, e3] ∧ isBoE e1 = false ∧ isBoE e2 = false ∧ isBoE e3 = false) ⟨.un, .un, .un, rfl, rfl, rfl, rfl⟩ ?_ ?_
  · rintro k hk ρ ⟨e1, e2, e3, rfl, b1, b2, b3⟩
    simp only [rng_at, Int.zero_add]
    have ec := sp_cell_at (n := 38) ns k
    obtain ⟨c, hc⟩ : ∃ c, c = ns.getD k 0 := ⟨_, rfl⟩
    rw [← hc] at ec
    obtain ⟨o, hp, ep⟩ := sp_pen (n := 38) c
    simp [start, entOf, retE, evs, evOs, evA, evTs, evI, toD, toO, toB, evVar, peek, fetch, fetchs, Val.d, asB, asI, items, stV, stTg, isBo_eq, doCall, argsOf, lents, giveBack, outs, isOwn, isLst, chg, appOb, extOb, cmpD, Option.bind_assoc, isiD, wipeE, con, List.replicate, -List.map_take, -List.map_drop, -List.map_reverse, -List.map_tail, exB, b1, b2, ec, ep, hk8]
    refine gets_for (fun i ρ => ∃ o e3, ρ = [.sh (.list (ns.map .int)), .sh (.int (k : Int)), .ow o, e3] ∧ isBoE e3 = false ∧ Pen (100 * i) o) ⟨o, e3, rfl, b3, hp⟩ ?_ ?_
    · rintro i hi ρ ⟨o, e3, rfl, b3, hp⟩
      rw [rng_len] at hi
      simp only [rng_at, Int.zero_add]
      obtain ⟨b, o', hb, hp', e⟩ := sp_right (n := 29) (100 * i) o hp (by omega)
      rw [hb] at e
      simp only [boolD] at e
      simp [start, entOf, retE, evs, evOs, evA, evTs, evI, toD, toO, toB, evVar, peek, fetch, fetchs, Val.d, asB, asI, items, stV, stTg, isBo_eq, doCall, argsOf, lents, giveBack, outs, isOwn, isLst, chg, appOb, extOb, cmpD, Option.bind_assoc, isiD, wipeE, con, List.replicate, -List.map_take, -List.map_drop, -List.map_reverse, -List.map_tail, exB, b3, e]
      exact ⟨_, _, ⟨rfl, rfl⟩, rfl, hp'⟩
    · rintro ρ' ⟨o, e3, rfl, b3, hp⟩
      simp [start, entOf, retE, evs, evOs, evA, evTs, evI, toD, toO, toB, evVar, peek, fetch, fetchs, Val.d, asB, asI, items, stV, stTg, isBo_eq, doCall, argsOf, lents, giveBack, outs, isOwn, isLst, chg, appOb, extOb, cmpD, Option.bind_assoc, isiD, wipeE, con, List.replicate, -List.map_take, -List.map_drop, -List.map_reverse, -List.map_tail]
      exact ⟨_, _, _, ⟨rfl, rfl, rfl⟩, rfl, rfl, b3⟩
  · rintro ρ' ⟨e1, e2, e3, rfl, b1, b2, b3⟩
    simp [start, entOf, retE, evs, evOs, evA, evTs, evI, toD, toO, toB, evVar, peek, fetch, fetchs, Val.d, asB, asI, items, stV, stTg, isBo_eq, doCall, argsOf, lents, giveBack, outs, isOwn, isLst, chg, appOb, extOb, cmpD, Option.bind_assoc, isiD, wipeE, con, List.replicate, -List.map_take, -List.map_drop, -List.map_reverse, -List.map_tail]
end MP
end

section
set_option Elab.async false
set_option linter.all false
set_option maxRecDepth 100000
set_option maxHeartbeats 8000000
namespace MP
open PySem
/-! ### plain: the least family of equivalences that the rules ask, and groups that stand for it -/
def cellAt (rs : List Row) (i c : Nat) : Cell := cell (rs.getD i []) c
def gAt (gs : List (List Nat)) (c i : Nat) : Nat := (gs.getD c []).getD i 0
inductive LR (rs : List Row) (rules : List Rule) : Nat → Nat → Nat → Prop
  | init {c i j : Nat} {v : Int} : i < rs.length → j < rs.length → cellAt rs i c = some v → cellAt rs j c = some v → LR rs rules c i j
  | refl {c i : Nat} : LR rs rules c i i
  | symm {c i j : Nat} : LR rs rules c i j → LR rs rules c j i
  | trans {c i j k : Nat} : LR rs rules c i j → LR rs rules c j k → LR rs rules c i k
  | rule {ru : Rule} {i j : Nat} : ru ∈ rules → i < rs.length → j < rs.length → (∀ c ∈ ru.1, LR rs rules c i j) → LR rs rules ru.2 i j
structure GInv (m : Nat) (rs : List Row) (rules : List Rule) (gs : List (List Nat)) : Prop where
  len : gs.length = m
  row : ∀ g ∈ gs, g.length = rs.length
  le : ∀ c < m, ∀ i < rs.length, gAt gs c i ≤ i
  idem : ∀ c < m, ∀ i < rs.length, gAt gs c (gAt gs c i) = gAt gs c i
  snd : ∀ c < m, ∀ i < rs.length, LR rs rules c i (gAt gs c i)
  ini : ∀ c < m, ∀ i j v, i < rs.length → j < rs.length → cellAt rs i c = some v → cellAt rs j c = some v → gAt gs c i = gAt gs c j
def able (gs : List (List Nat)) (ru : Rule) (i j : Nat) : Bool := ru.1.all fun c => decide (gAt gs c i = gAt gs c j)
def Closed (rs : List Row) (rules : List Rule) (gs : List (List Nat)) : Prop := ∀ ru ∈ rules, ∀ j < rs.length, ∀ i < j, able gs ru i j = true → gAt gs ru.2 i = gAt gs ru.2 j
def FinG (m : Nat) (rs : List Row) (rules : List Rule) (gs : List (List Nat)) : Prop := GInv m rs rules gs ∧ Closed rs rules gs
theorem able_comm (gs : List (List Nat)) (ru : Rule) (i j : Nat) : able gs ru i j = able gs ru j i := by
  unfold able
  rw [Bool.eq_iff_iff]
  simp only [List.all_eq_true, decide_eq_true_eq]
  exact ⟨fun h c hc => (h c hc).symm, fun h c hc => (h c hc).symm⟩
theorem Closed.all {rs : List Row} {rules : List Rule} {gs : List (List Nat)} (h : Closed rs rules gs) {ru : Rule} (hr : ru ∈ rules) {i j : Nat} (hi : i < rs.length) (hj : j < rs.length) (ha : able gs ru i j = true) : gAt gs ru.2 i = gAt gs ru.2 j := by
  rcases Nat.lt_trichotomy i j with hlt | he | hgt
  · exact h ru hr j hj i hlt ha
  · rw [he]
  · rw [able_comm] at ha
    exact (h ru hr i hi j hgt ha).symm
theorem FinG.cmp {m : Nat} {rs : List Row} {rules : List Rule} {gs : List (List Nat)} (hf : FinG m rs rules gs) (hr : OkRs m rules) {c i j : Nat} (h : LR rs rules c i j) : i = j ∨ (i < rs.length ∧ j < rs.length ∧ (c < m → gAt gs c i = gAt gs c j)) := by
  induction h with
  | init h1 h2 h3 h4 => exact .inr ⟨h1, h2, fun hc => hf.1.ini _ hc _ _ _ h1 h2 h3 h4⟩
  | refl => exact .inl rfl
  | symm _ ih =>
    rcases ih with ih | ⟨h1, h2, h3⟩
    · exact .inl ih.symm
    · exact .inr ⟨h2, h1, fun hc => (h3 hc).symm⟩
  | trans _ _ ih1 ih2 =>
    rcases ih1 with rfl | ⟨h1, h2, h3⟩
    · exact ih2
    · rcases ih2 with rfl | ⟨h4, h5, h6⟩
      · exact .inr ⟨h1, h2, h3⟩
      · exact .inr ⟨h1, h5, fun hc => (h3 hc).trans (h6 hc)⟩
  | @rule ru i j hru hi hj _ ih =>
    refine .inr ⟨hi, hj, fun _ => hf.2.all hru hi hj ?_⟩
    unfold able
    rw [List.all_eq_true]
    intro c hc
    rw [decide_eq_true_eq]
    rcases ih c hc with h | ⟨_, _, h⟩
    · rw [h]
    · exact h ((hr.rule ru hru).inn c hc)
theorem FinG.iff {m : Nat} {rs : List Row} {rules : List Rule} {gs : List (List Nat)} (hf : FinG m rs rules gs) (hr : OkRs m rules) {c i j : Nat} (hc : c < m) (hi : i < rs.length) (hj : j < rs.length) : gAt gs c i = gAt gs c j ↔ LR rs rules c i j := by
  constructor
  · intro h
    refine .trans (hf.1.snd c hc i hi) ?_
    rw [h]
    exact .symm (hf.1.snd c hc j hj)
  · intro h
    rcases hf.cmp hr h with h | ⟨_, _, h⟩
    · rw [h]
    · exact h hc
theorem FinG.le_of {m : Nat} {rs : List Row} {rules : List Rule} {gs gs' : List (List Nat)} (hf : FinG m rs rules gs) (hf' : FinG m rs rules gs') (hr : OkRs m rules) {c i : Nat} (hc : c < m) (hi : i < rs.length) : gAt gs' c i ≤ gAt gs c i := by
  have h1 := hf.1.le c hc i hi
  have h2 : gAt gs c i < rs.length := by omega
  rw [(hf'.iff hr hc hi h2).mpr (hf.1.snd c hc i hi)]
  exact hf'.1.le c hc _ h2
theorem gs_ext {m k : Nat} {gs gs' : List (List Nat)} (h1 : gs.length = m) (h2 : gs'.length = m) (r1 : ∀ g ∈ gs, g.length = k) (r2 : ∀ g ∈ gs', g.length = k) (h : ∀ c < m, ∀ i < k, gAt gs c i = gAt gs' c i) : gs = gs' := by
  refine List.ext_getElem (by rw [h1, h2]) fun c hc hc' => ?_
  have l1 := r1 _ (List.getElem_mem hc)
  have l2 := r2 _ (List.getElem_mem hc')
  refine List.ext_getElem (by rw [l1, l2]) fun i hi hi' => ?_
  have := h c (by omega) i (by omega)
  unfold gAt at this
  simpa [List.getD_eq_getElem?_getD, List.getElem?_eq_getElem hc, List.getElem?_eq_getElem hc', List.getElem?_eq_getElem hi, List.getElem?_eq_getElem hi'] using this
/-- the groups are determined -/
theorem FinG.eq {m : Nat} {rs : List Row} {rules : List Rule} {gs gs' : List (List Nat)} (hf : FinG m rs rules gs) (hf' : FinG m rs rules gs') (hr : OkRs m rules) : gs = gs' :=
  gs_ext hf.1.len hf'.1.len hf.1.row hf'.1.row fun c hc i hi => Nat.le_antisymm (hf'.le_of hf hr hc hi) (hf.le_of hf' hr hc hi)
/-! a step -/
def mergeL (g : List Nat) (l h : Nat) : List Nat := g.map fun x => if x = h then l else x
def stepG (gs : List (List Nat)) (c i j : Nat) : List (List Nat) := gs.set c (mergeL (gs.getD c []) (min (gAt gs c i) (gAt gs c j)) (max (gAt gs c i) (gAt gs c j)))
theorem gAt_step {gs : List (List Nat)} {c i j : Nat} (hc : c < gs.length) {k : Nat} (hk : k < (gs.getD c []).length) : gAt (stepG gs c i j) c k = if gAt gs c k = max (gAt gs c i) (gAt gs c j) then min (gAt gs c i) (gAt gs c j) else gAt gs c k := by
  unfold gAt stepG mergeL
  simp only [List.getD_eq_getElem?_getD, List.getElem?_set, hc, if_true, Option.getD_some, List.getElem?_map]
  simp only [List.getD_eq_getElem?_getD] at hk
  rw [List.getElem?_eq_getElem hk]
  rfl
theorem gAt_step_ne {gs : List (List Nat)} {c i j c' : Nat} (h : c' ≠ c) (k : Nat) : gAt (stepG gs c i j) c' k = gAt gs c' k := by
  unfold gAt stepG
  simp only [List.getD_eq_getElem?_getD]
  rw [List.getElem?_set_ne (Ne.symm h)]
theorem GInv.glen {m : Nat} {rs : List Row} {rules : List Rule} {gs : List (List Nat)} (h : GInv m rs rules gs) {c : Nat} (hc : c < m) : (gs.getD c []).length = rs.length := by
  have hc' : c < gs.length := by rw [h.len]; exact hc
  rw [List.getD_eq_getElem?_getD, List.getElem?_eq_getElem hc']
  exact h.row _ (List.getElem_mem hc')
theorem GInv.step {m : Nat} {rs : List Row} {rules : List Rule} {gs : List (List Nat)} (h : GInv m rs rules gs) {ru : Rule} (hru : ru ∈ rules) (ht : ru.2 < m) {i j : Nat} (hi : i < rs.length) (hj : j < rs.length) (hin : ∀ c ∈ ru.1, c < m) (ha : able gs ru i j = true) (hne : gAt gs ru.2 i ≠ gAt gs ru.2 j) : GInv m rs rules (stepG gs ru.2 i j) := by
  have hc' : ru.2 < gs.length := by rw [h.len]; exact ht
  have hgl := h.glen ht
  have e1 : ∀ k < rs.length, gAt (stepG gs ru.2 i j) ru.2 k = if gAt gs ru.2 k = max (gAt gs ru.2 i) (gAt gs ru.2 j) then min (gAt gs ru.2 i) (gAt gs ru.2 j) else gAt gs ru.2 k := fun k hk => gAt_step hc' (by rw [hgl]; exact hk)
  have li := h.le _ ht i hi
  have lj := h.le _ ht j hj
  have di := h.idem _ ht i hi
  have dj := h.idem _ ht j hj
  have hlr : LR rs rules ru.2 i j := .rule hru hi hj fun c hc => by
    have hcm := hin c hc
    have hb : gAt gs c i = gAt gs c j := by
      unfold able at ha
      rw [List.all_eq_true] at ha
      simpa using ha c hc
    refine .trans (h.snd c hcm i hi) ?_
    rw [hb]
    exact .symm (h.snd c hcm j hj)
  have hLab : LR rs rules ru.2 (gAt gs ru.2 i) (gAt gs ru.2 j) := .trans (.symm (h.snd _ ht i hi)) (.trans hlr (h.snd _ ht j hj))
  have hLmm : LR rs rules ru.2 (max (gAt gs ru.2 i) (gAt gs ru.2 j)) (min (gAt gs ru.2 i) (gAt gs ru.2 j)) := by
    rcases Nat.le_total (gAt gs ru.2 i) (gAt gs ru.2 j) with hle | hle
    · rw [Nat.max_eq_right hle, Nat.min_eq_left hle]
      exact .symm hLab
    · rw [Nat.max_eq_left hle, Nat.min_eq_right hle]
      exact hLab
  have hmin : gAt gs ru.2 (min (gAt gs ru.2 i) (gAt gs ru.2 j)) = min (gAt gs ru.2 i) (gAt gs ru.2 j) := by
    rcases Nat.le_total (gAt gs ru.2 i) (gAt gs ru.2 j) with hle | hle
    · rw [Nat.min_eq_left hle, di]
    · rw [Nat.min_eq_right hle, dj]
  refine ⟨by unfold stepG; rw [List.length_set]; exact h.len, ?_, ?_, ?_, ?_, ?_⟩
  · intro g hg
    unfold stepG at hg
    rcases List.mem_or_eq_of_mem_set hg with hg | hg
    · exact h.row g hg
    · rw [hg]
      unfold mergeL
      rw [List.length_map]
      exact hgl
  · intro c hc k hk
    by_cases e : c = ru.2
    · subst e
      rw [e1 k hk]
      have := h.le _ ht k hk
      split <;> omega
    · rw [gAt_step_ne e]
      exact h.le c hc k hk
  · intro c hc k hk
    by_cases e : c = ru.2
    · subst e
      have lk := h.le _ ht k hk
      rw [e1 k hk]
      split
      · rw [e1 _ (by omega), hmin, if_neg (by omega)]
      · rename_i hn
        rw [e1 _ (by omega), h.idem _ ht k hk, if_neg hn]
    · rw [gAt_step_ne e, gAt_step_ne e]
      exact h.idem c hc k hk
  · intro c hc k hk
    by_cases e : c = ru.2
    · subst e
      rw [e1 k hk]
      have hs := h.snd _ ht k hk
      split
      · rename_i he
        rw [he] at hs
        exact .trans hs hLmm
      · exact hs
    · rw [gAt_step_ne e]
      exact h.snd c hc k hk
  · intro c hc k k' v hk hk' h1 h2
    have hv := h.ini c hc k k' v hk hk' h1 h2
    by_cases e : c = ru.2
    · subst e
      rw [e1 k hk, e1 k' hk', hv]
    · rw [gAt_step_ne e, gAt_step_ne e]
      exact hv
/-! the measure -/
def gSum (gs : List (List Nat)) : Nat := (gs.map List.sum).sum
theorem merge_le (l h : Nat) (hl : l ≤ h) : ∀ g : List Nat, (mergeL g l h).sum ≤ g.sum
  | [] => by simp [mergeL]
  | x :: g => by
    have ih := merge_le l h hl g
    unfold mergeL at ih ⊢
    rw [List.map_cons, List.sum_cons, List.sum_cons]
    split <;> omega
theorem merge_lt (l h : Nat) (hl : l < h) : ∀ g : List Nat, h ∈ g → (mergeL g l h).sum < g.sum
  | x :: g, hm => by
    have ih := merge_le l h (by omega) g
    have ih' := merge_lt l h hl g
    unfold mergeL at ih ih' ⊢
    rw [List.map_cons, List.sum_cons, List.sum_cons]
    rcases List.mem_cons.mp hm with e | e
    · rw [if_pos e.symm]
      omega
    · have := ih' e
      split <;> omega
theorem set_sum : ∀ (gs : List (List Nat)) (c : Nat) (g : List Nat) (hc : c < gs.length), g.sum < gs[c].sum → gSum (gs.set c g) < gSum gs
  | [], c, g, hc, _ => by cases hc
  | x :: gs, 0, g, hc, h => by
    simp [gSum] at h ⊢
    omega
  | x :: gs, c + 1, g, hc, h => by
    have ih := set_sum gs c g (by simpa using hc) (by simpa using h)
    simp [gSum] at ih ⊢
    omega
theorem GInv.lt {m : Nat} {rs : List Row} {rules : List Rule} {gs : List (List Nat)} (h : GInv m rs rules gs) {c : Nat} (hc : c < m) {i j : Nat} (hi : i < rs.length) (hj : j < rs.length) (hne : gAt gs c i ≠ gAt gs c j) : gSum (stepG gs c i j) < gSum gs := by
  have hc' : c < gs.length := by rw [h.len]; exact hc
  have hgl := h.glen hc
  have e : gs.getD c [] = gs[c] := by rw [List.getD_eq_getElem?_getD, List.getElem?_eq_getElem hc']; rfl
  unfold stepG
  refine set_sum gs c _ hc' ?_
  rw [e]
  have hmem : ∀ k < rs.length, gAt gs c k ∈ gs[c] := fun k hk => by
    have hk' : k < gs[c].length := by rw [← e, hgl]; exact hk
    unfold gAt
    rw [e, List.getD_eq_getElem?_getD, List.getElem?_eq_getElem hk']
    exact List.getElem_mem hk'
  refine merge_lt _ _ (by omega) _ ?_
  rcases Nat.le_total (gAt gs c i) (gAt gs c j) with hle | hle
  · rw [Nat.max_eq_right hle]
    exact hmem j hj
  · rw [Nat.max_eq_left hle]
    exact hmem i hi
end MP
end

section
set_option Elab.async false
set_option linter.all false
set_option maxRecDepth 100000
set_option maxHeartbeats 8000000
namespace MP
open PySem
variable {n : Nat}
theorem gets_whl {c : Env → Option (Bool × Env)} {body : Env → Option Fl} {Z : Fl → Prop} (P : Nat → Env → Prop)
    (hs : ∀ k ρ, P k ρ → ∃ b ρ1, c ρ = some (b, ρ1) ∧ (b = false → Z (.nx ρ1)) ∧ (b = true → 0 < k ∧ Gets (body ρ1) (NxP (P (k - 1))))) :
    ∀ (n k : Nat) (ρ : Env), k < n → P k ρ → Gets (whlGo c body n ρ) Z
  | 0, k, ρ, hk, _ => by omega
  | n + 1, k, ρ, hk, hp => by
    obtain ⟨b, ρ1, h1, h2, h3⟩ := hs k ρ hp
    rw [whlGo, h1, Option.bind_some]
    cases b with
    | false => exact ⟨_, rfl, h2 rfl⟩
    | true =>
      obtain ⟨h4, fl, h5, h6⟩ := h3 rfl
      simp only [if_true]
      rw [h5, Option.bind_some]
      cases fl with
      | nx ρ2 => exact gets_whl P hs n (k - 1) ρ2 (by omega) h6
      | ct ρ2 => exact gets_whl P hs n (k - 1) ρ2 (by omega) h6
      | rt v ρ2 => exact h6.elim
      | bk ρ2 => exact h6.elim
/-! ### the first groups -/
def colOf (rs : List Row) (c : Nat) : List Cell := rs.map fun r => cell r c
def firstOf (cs : List Cell) (p : Cell × Nat) : Nat := match p.1 with
  | none => p.2
  | some v => cs.findIdx fun x => decide (x = some v)
def iniG (cs : List Cell) : List Nat := cs.zipIdx.map (firstOf cs)
def iniGs (m : Nat) (rs : List Row) : List (List Nat) := (List.range m).map fun c => iniG (colOf rs c)
def grpD (g : List Nat) : D := .list (g.map nD)
theorem iniG_at (cs : List Cell) (i : Nat) (h : i < cs.length) : (iniG cs).getD i 0 = firstOf cs (cs[i], i) := by
  unfold iniG
  rw [List.getD_eq_getElem?_getD, List.getElem?_map, List.getElem?_eq_getElem (by rw [List.length_zipIdx]; exact h)]
  simp
theorem iniGs_at (m : Nat) (rs : List Row) (c i : Nat) (hc : c < m) (hi : i < rs.length) : gAt (iniGs m rs) c i = firstOf (colOf rs c) (cellAt rs i c, i) := by
  unfold gAt iniGs
  rw [List.getD_eq_getElem?_getD (l := (List.range m).map _), List.getElem?_map, List.getElem?_range hc]
  simp only [Option.map_some, Option.getD_some]
  rw [iniG_at _ i (by unfold colOf; rw [List.length_map]; exact hi)]
  unfold cellAt colOf
  rw [getD_at hi]
  simp
theorem col_at (rs : List Row) (c i : Nat) (h : i < (colOf rs c).length) : (colOf rs c)[i] = cellAt rs i c := by
  have h' : i < rs.length := by unfold colOf at h; rw [List.length_map] at h; exact h
  unfold cellAt
  rw [getD_at h']
  simp [colOf]
theorem first_some (rs : List Row) (c i : Nat) (v : Int) (hi : i < rs.length) (h : cellAt rs i c = some v) : firstOf (colOf rs c) (some v, i) ≤ i ∧ cellAt rs (firstOf (colOf rs c) (some v, i)) c = some v := by
  have hl : (colOf rs c).length = rs.length := by unfold colOf; rw [List.length_map]
  have hi' : i < (colOf rs c).length := by omega
  have hf : (colOf rs c).findIdx (fun x => decide (x = some v)) ≤ i := Nat.le_of_not_lt fun hlt => by
    have := List.not_of_lt_findIdx hlt
    rw [col_at, h] at this
    simp at this
  have hlt : (colOf rs c).findIdx (fun x => decide (x = some v)) < (colOf rs c).length := by omega
  have hg := List.findIdx_getElem (w := hlt)
  rw [decide_eq_true_eq, col_at] at hg
  exact ⟨hf, hg⟩
theorem iniGs_inv (m : Nat) (rs : List Row) (rules : List Rule) : GInv m rs rules (iniGs m rs) := by
  refine ⟨by simp [iniGs], ?_, ?_, ?_, ?_, ?_⟩
  · intro g hg
    obtain ⟨c, _, rfl⟩ := List.mem_map.mp hg
    simp [iniG, colOf]
  · intro c hc i hi
    rw [iniGs_at m rs c i hc hi]
    cases h : cellAt rs i c with
    | none => exact Nat.le_refl _
    | some v => exact (first_some rs c i v hi h).1
  · intro c hc i hi
    rw [iniGs_at m rs c i hc hi]
    cases h : cellAt rs i c with
    | none =>
      show gAt (iniGs m rs) c i = i
      rw [iniGs_at m rs c i hc hi, h]
      rfl
    | some v =>
      have hv := first_some rs c i v hi h
      rw [iniGs_at m rs c _ hc (by omega), hv.2]
      rfl
  · intro c hc i hi
    rw [iniGs_at m rs c i hc hi]
    cases h : cellAt rs i c with
    | none => exact .refl
    | some v =>
      have hv := first_some rs c i v hi h
      exact .init hi (by omega) h hv.2
  · intro c hc i j v hi hj h1 h2
    rw [iniGs_at m rs c i hc hi, iniGs_at m rs c j hc hj, h1, h2]
    rfl
theorem idx_c (cs : List Cell) (v : Int) (h : some v ∈ cs) : idxD (.list (cs.map cD)) (cD (some v)) = some (.int ((cs.findIdx fun x => decide (x = some v) : Nat) : Int)) := by
  unfold idxD
  simp only
  have s1 : shp (.list (cs.map cD)) = true := (flt_list (k := 0) fun x hx => by
    obtain ⟨c, _, rfl⟩ := List.mem_map.mp hx
    exact flt_c c).shp (by omega)
  rw [s1, (flt_c (some v)).shp (by omega), List.findIdx?_map]
  have e : ((fun z => PyData.eqv z (cD (some v))) ∘ cD) = fun x => decide (x = some v) := by
    funext x
    simp only [Function.comp_apply, eqv_cc]
  rw [e]
  have hlt : cs.findIdx (fun x => decide (x = some v)) < cs.length := List.findIdx_lt_length.mpr ⟨_, h, by simp⟩
  rw [List.findIdx?_eq_some_iff_findIdx_eq.mpr ⟨hlt, rfl⟩]
  rfl
theorem grp_at {gs : List (List Nat)} {c : Nat} (h : c < gs.length) : ixD (.list (gs.map grpD)) (.int (c : Int)) = some (grpD (gs.getD c [])) := by
  rw [ixL, List.getElem?_map, List.getElem?_eq_getElem h, List.getD_eq_getElem?_getD, List.getElem?_eq_getElem h]
  rfl
theorem lab_at {gs : List (List Nat)} {c i : Nat} (h : i < (gs.getD c []).length) : ixD (grpD (gs.getD c [])) (.int (i : Int)) = some (nD (gAt gs c i)) := by
  unfold grpD gAt
  rw [ixL, List.getElem?_map, List.getElem?_eq_getElem h, List.getD_eq_getElem?_getD (l := gs.getD c []), List.getElem?_eq_getElem h]
  rfl
theorem st_at {xs : List D} {c : Nat} (v : D) (h : c < xs.length) : stOb (.int (c : Int)) v (.lst xs) = some ((), .lst (xs.set c v)) := by
  unfold stOb
  simp only [asI, Option.bind_some]
  unfold L2.ixN
  rw [if_pos (by omega), if_pos (by omega)]
  simp
theorem gSum_le {m k : Nat} {gs : List (List Nat)} (h1 : gs.length = m) (h2 : ∀ g ∈ gs, g.sum ≤ k) : gSum gs ≤ m * k := by
  subst h1
  induction gs with
  | nil => simp [gSum]
  | cons g gs ih =>
    have := ih fun x hx => h2 x (List.mem_cons_of_mem _ hx)
    have := h2 g List.mem_cons_self
    simp [gSum, Nat.add_mul] at *
    omega
def jEnv (m : Nat) (rs : List Row) (rules : List Rule) (gs : List (List Nat)) (a : Bool) (e4 e6 e7 e8 e9 e11 e12 e13 e16 e17 : Ent) : Env :=
  [.sh (.int (m : Int)), .sh (.tuple (rs.map rowD)), .sh (.tuple (rules.map ruleD)), .ow (.lst (gs.map grpD)), e4, .sh (.bool a), e6, e7, e8, e9, .un, e11, e12, e13, .un, .un, e16, e17, .un]
theorem able_nil (gs : List (List Nat)) (ru : Rule) (i j : Nat) : (ru.1.filter fun c => !decide (gAt gs c i = gAt gs c j)).isEmpty = able gs ru i j := by
  rw [Bool.eq_iff_iff, List.isEmpty_iff, List.filter_eq_nil_iff]
  unfold able
  simp
theorem min_cast (a b : Nat) : (if (b : Int) < (a : Int) then (b : Int) else (a : Int)) = ((min a b : Nat) : Int) := by split <;> omega
theorem max_cast (a b : Nat) : (if (b : Int) > (a : Int) then (b : Int) else (a : Int)) = ((max a b : Nat) : Int) := by split <;> omega
/-- one look of the law at a pair of rows -/
def jBody : Ss := match d_l_joined.body with
  | .cons _ (.cons _ (.cons _ (.cons (.whl _ (.cons _ (.cons (.for _ _ (.cons (.for _ _ (.cons (.for _ _ b) _)) _)) _))) _))) => b
  | _ => .nil
def JPost (m : Nat) (rs : List Row) (rules : List Rule) (gs : List (List Nat)) (a : Bool) (e6 e7 e8 e9 e11 : Ent) (ρ : Env) : Prop :=
  ∃ e4 e12 e13 e16 e17, isBoE e4 = false ∧ isBoE e12 = false ∧ isBoE e13 = false ∧ isBoE e16 = false ∧ isBoE e17 = false ∧ ρ = jEnv m rs rules gs a e4 e6 e7 e8 e9 e11 e12 e13 e16 e17
def stepped (gs : List (List Nat)) (ru : Rule) (i j : Nat) : Bool := able gs ru i j && decide (gAt gs ru.2 i ≠ gAt gs ru.2 j)
def lookG (gs : List (List Nat)) (ru : Rule) (i j : Nat) : List (List Nat) := if stepped gs ru i j then stepG gs ru.2 i j else gs
theorem set_grp (gs : List (List Nat)) (c : Nat) (g : List Nat) : (gs.map grpD).set c (grpD g) = (gs.set c g).map grpD := by
  rw [List.map_set]
theorem j_step (C : Cfg) (m : Nat) (rs : List Row) (rules : List Rule) (gs : List (List Nat)) (a : Bool) (ru : Rule) (ht : OkT m rs) (hru : OkRule m ru) (hg : GInv m rs rules gs) (i j : Nat) (hi : i < rs.length) (hj : j < rs.length) (e4 e6 e12 e13 e16 e17 : Ent)
    (b4 : isBoE e4 = false) (b12 : isBoE e12 = false) (b13 : isBoE e13 = false) (b16 : isBoE e16 = false) (b17 : isBoE e17 = false) :
    Gets (execs C jBody (jEnv m rs rules gs a e4 e6 (.sh (natsD ru.1)) (.sh (nD ru.2)) (.sh (nD j)) (.sh (nD i)) e12 e13 e16 e17)) (NxP (JPost m rs rules (lookG gs ru i j) (stepped gs ru i j || a) e6 (.sh (natsD ru.1)) (.sh (nD ru.2)) (.sh (nD j)) (.sh (nD i)))) := by
  have hm := ht.hi
  have hgl := hru.len
  have hfw := ht.few
  have hc2 : ru.2 < gs.length := by rw [hg.len]; exact hru.thn
  have g2 := grp_at hc2
  have l2 := hg.glen hru.thn
  have a1 : ixD (grpD (gs.getD ru.2 [])) (.int (i : Int)) = some (nD (gAt gs ru.2 i)) := lab_at (by omega)
  have a2 : ixD (grpD (gs.getD ru.2 [])) (.int (j : Int)) = some (nD (gAt gs ru.2 j)) := lab_at (by omega)
  have hx : ∀ c ∈ ru.1, ∃ G, ixD (.list (gs.map grpD)) (.int (c : Int)) = some (grpD G) ∧ ixD (grpD G) (.int (i : Int)) = some (nD (gAt gs c i)) ∧ ixD (grpD G) (.int (j : Int)) = some (nD (gAt gs c j)) := fun c hc => by
    have hcm := hru.inn c hc
    have := hg.glen hcm
    exact ⟨gs.getD c [], grp_at (by rw [hg.len]; exact hcm), lab_at (by omega), lab_at (by omega)⟩
  have hst : stepG gs ru.2 i j = gs.set ru.2 (mergeL (gs.getD ru.2 []) (min (gAt gs ru.2 i) (gAt gs ru.2 j)) (max (gAt gs ru.2 i) (gAt gs ru.2 j))) := rfl
  obtain ⟨G, hG⟩ : ∃ G, G = gs.getD ru.2 [] := ⟨_, rfl⟩
  rw [← hG] at g2 l2 a1 a2 hst
  obtain ⟨Q, hQ⟩ : ∃ Q, Q = JPost m rs rules (lookG gs ru i j) (stepped gs ru i j || a) e6 (.sh (natsD ru.1)) (.sh (nD ru.2)) (.sh (nD j)) (.sh (nD i)) := ⟨_, rfl⟩
  rw [← hQ]
  unfold jBody d_l_joined
  simp only [jEnv]
  simp [start, entOf, retE, evs, evOs, evA, evTs, evI, toD, toO, toB, evVar, peek, fetch, fetchs, Val.d, asB, asI, items, stV, stTg, isBo_eq, doCall, argsOf, lents, giveBack, outs, isOwn, isLst, chg, appOb, extOb, cmpD, Option.bind_assoc, isiD, wipeE, con, List.replicate, -List.map_take, -List.map_drop, -List.map_reverse, -List.map_tail, nD, natsD, g2, b4, b12, kN (k := ru.1.length) (by omega)]
  refine gets_lcf nD (fun c => !decide (gAt gs c i = gAt gs c j)) (fun _ => .int 1) (fun c hc => ?_) ?_
  · obtain ⟨H, x1, x2, x3⟩ := hx c hc
    by_cases hcc : gAt gs c i = gAt gs c j
    · simp [start, entOf, retE, evs, evOs, evA, evTs, evI, toD, toO, toB, evVar, peek, fetch, fetchs, Val.d, asB, asI, items, stV, stTg, isBo_eq, doCall, argsOf, lents, giveBack, outs, isOwn, isLst, chg, appOb, extOb, cmpD, Option.bind_assoc, isiD, wipeE, con, List.replicate, -List.map_take, -List.map_drop, -List.map_reverse, -List.map_tail, evT, evD, nD, x1, x2, x3, hcc]
    · have hcc' : ¬ (gAt gs c i : Int) = (gAt gs c j : Int) := by omega
      simp [start, entOf, retE, evs, evOs, evA, evTs, evI, toD, toO, toB, evVar, peek, fetch, fetchs, Val.d, asB, asI, items, stV, stTg, isBo_eq, doCall, argsOf, lents, giveBack, outs, isOwn, isLst, chg, appOb, extOb, cmpD, Option.bind_assoc, isiD, wipeE, con, List.replicate, -List.map_take, -List.map_drop, -List.map_reverse, -List.map_tail, evT, evD, nD, x1, x2, x3, hcc, hcc']
  have q := eqL_nil (flt_ones (ru.1.filter fun c => !decide (gAt gs c i = gAt gs c j))) (by omega)
  rw [List.isEmpty_map, able_nil] at q
  have b4' : isBoE (bkE e4) = false := bkE_bo e4
  cases hab : able gs ru i j with
  | false =>
    rw [hab] at q
    simp [start, entOf, retE, evs, evOs, evA, evTs, evI, toD, toO, toB, evVar, peek, fetch, fetchs, Val.d, asB, asI, items, stV, stTg, isBo_eq, doCall, argsOf, lents, giveBack, outs, isOwn, isLst, chg, appOb, extOb, cmpD, Option.bind_assoc, isiD, wipeE, con, List.replicate, -List.map_take, -List.map_drop, -List.map_reverse, -List.map_tail, q, b13]
    rw [hQ]
    have hsp : stepped gs ru i j = false := by unfold stepped; rw [hab]; rfl
    refine ⟨bkE e4, .sh (grpD G), .sh (.bool false), e16, e17, b4', rfl, rfl, b16, b17, ?_⟩
    simp [jEnv, lookG, hsp, natsD, nD]
  | true =>
    rw [hab] at q
    by_cases hne : gAt gs ru.2 i = gAt gs ru.2 j
    · simp [start, entOf, retE, evs, evOs, evA, evTs, evI, toD, toO, toB, evVar, peek, fetch, fetchs, Val.d, asB, asI, items, stV, stTg, isBo_eq, doCall, argsOf, lents, giveBack, outs, isOwn, isLst, chg, appOb, extOb, cmpD, Option.bind_assoc, isiD, wipeE, con, List.replicate, -List.map_take, -List.map_drop, -List.map_reverse, -List.map_tail, q, b13, a1, a2, hne, nD]
      rw [hQ]
      have hsp : stepped gs ru i j = false := by unfold stepped; rw [hab]; simp [hne]
      refine ⟨bkE e4, .sh (grpD G), .sh (.bool true), e16, e17, b4', rfl, rfl, b16, b17, ?_⟩
      simp [jEnv, lookG, hsp, natsD, nD]
    · have hne' : ¬ (gAt gs ru.2 i : Int) = (gAt gs ru.2 j : Int) := by omega
      have hsp : stepped gs ru i j = true := by unfold stepped; rw [hab]; simp [hne]
      simp [start, entOf, retE, evs, evOs, evA, evTs, evI, toD, toO, toB, evVar, peek, fetch, fetchs, Val.d, asB, asI, items, stV, stTg, isBo_eq, doCall, argsOf, lents, giveBack, outs, isOwn, isLst, chg, appOb, extOb, cmpD, Option.bind_assoc, isiD, wipeE, con, List.replicate, -List.map_take, -List.map_drop, -List.map_reverse, -List.map_tail, q, b13, a1, a2, hne, hne', nD, b16, b17]
      simp only [grpD]
      simp [start, entOf, retE, evs, evOs, evA, evTs, evI, toD, toO, toB, evVar, peek, fetch, fetchs, Val.d, asB, asI, items, stV, stTg, isBo_eq, doCall, argsOf, lents, giveBack, outs, isOwn, isLst, chg, appOb, extOb, cmpD, Option.bind_assoc, isiD, wipeE, con, List.replicate, -List.map_take, -List.map_drop, -List.map_reverse, -List.map_tail, kN (k := G.length) (by omega)]
      obtain ⟨lo, hlo⟩ : ∃ lo, lo = min (gAt gs ru.2 i) (gAt gs ru.2 j) := ⟨_, rfl⟩
      obtain ⟨up, hup⟩ : ∃ up, up = max (gAt gs ru.2 i) (gAt gs ru.2 j) := ⟨_, rfl⟩
      have q1 : (if gAt gs ru.2 j < gAt gs ru.2 i then (gAt gs ru.2 j : Int) else (gAt gs ru.2 i : Int)) = (lo : Int) := by split <;> omega
      have q2 : (if gAt gs ru.2 i < gAt gs ru.2 j then (gAt gs ru.2 j : Int) else (gAt gs ru.2 i : Int)) = (up : Int) := by split <;> omega
      rw [q1, q2]
      refine gets_lcm nD (fun x => nD (if x = up then lo else x)) (fun x hx => ?_) ?_
      · by_cases hc : x = up
        · simp [start, entOf, retE, evs, evOs, evA, evTs, evI, toD, toO, toB, evVar, peek, fetch, fetchs, Val.d, asB, asI, items, stV, stTg, isBo_eq, doCall, argsOf, lents, giveBack, outs, isOwn, isLst, chg, appOb, extOb, cmpD, Option.bind_assoc, isiD, wipeE, con, List.replicate, -List.map_take, -List.map_drop, -List.map_reverse, -List.map_tail, evT, evD, nD, hc]
        · have hc' : ¬ (x : Int) = (up : Int) := by omega
          simp [start, entOf, retE, evs, evOs, evA, evTs, evI, toD, toO, toB, evVar, peek, fetch, fetchs, Val.d, asB, asI, items, stV, stTg, isBo_eq, doCall, argsOf, lents, giveBack, outs, isOwn, isLst, chg, appOb, extOb, cmpD, Option.bind_assoc, isiD, wipeE, con, List.replicate, -List.map_take, -List.map_drop, -List.map_reverse, -List.map_tail, evT, evD, nD, hc, hc']
      · simp [start, entOf, retE, evs, evOs, evA, evTs, evI, toD, toO, toB, evVar, peek, fetch, fetchs, Val.d, asB, asI, items, stV, stTg, isBo_eq, doCall, argsOf, lents, giveBack, outs, isOwn, isLst, chg, appOb, extOb, cmpD, Option.bind_assoc, isiD, wipeE, con, List.replicate, -List.map_take, -List.map_drop, -List.map_reverse, -List.map_tail, st_at _ (show ru.2 < (gs.map grpD).length by rw [List.length_map]; exact hc2)]
        rw [hQ]
        refine ⟨bkE e4, .sh (grpD G), .sh (.bool true), .sh (.int (lo : Int)), .sh (.int (up : Int)), b4', rfl, rfl, rfl, rfl, ?_⟩
        simp only [lookG, hsp, if_true, hst, ← hlo, ← hup, ← set_grp, mergeL]
        simp [jEnv, natsD, nD, grpD, Function.comp_def]
/-! the law's loop, plainly -/
def Seen (gs : List (List Nat)) (ru : Rule) (i j : Nat) : Prop := stepped gs ru i j = false
/-- either something was joined since gs0, or nothing was, and all pairs so far are seen -/
def Walked (m : Nat) (rs : List Row) (rules : List Rule) (gs0 gs : List (List Nat)) (a : Bool) (S : Prop) : Prop :=
  GInv m rs rules gs ∧ ((a = true ∧ gSum gs < gSum gs0) ∨ (a = false ∧ gs = gs0 ∧ S))
theorem Walked.look {m : Nat} {rs : List Row} {rules : List Rule} {gs0 gs : List (List Nat)} {a : Bool} {S S' : Prop} (h : Walked m rs rules gs0 gs a S) {ru : Rule} (hru : ru ∈ rules) (ho : OkRule m ru) {i j : Nat} (hi : i < rs.length) (hj : j < rs.length) (hS : S → Seen gs0 ru i j → S') :
    Walked m rs rules gs0 (lookG gs ru i j) (stepped gs ru i j || a) S' := by
  obtain ⟨hg, h⟩ := h
  unfold lookG
  cases hs : stepped gs ru i j with
  | true =>
    have hs' := hs
    unfold stepped at hs'
    rw [Bool.and_eq_true, decide_eq_true_eq] at hs'
    have hl := hg.lt ho.thn hi hj hs'.2
    refine ⟨hg.step hru ho.thn hi hj ho.inn hs'.1 hs'.2, .inl ⟨rfl, ?_⟩⟩
    rcases h with ⟨_, h⟩ | ⟨_, h, _⟩
    · simp only [if_true]
      omega
    · subst h
      exact hl
  | false =>
    refine ⟨hg, ?_⟩
    rcases h with ⟨h1, h2⟩ | ⟨h1, h2, h3⟩
    · exact .inl ⟨by rw [h1]; rfl, h2⟩
    · exact .inr ⟨by rw [h1]; rfl, h2, hS h3 (by rw [← h2]; exact hs)⟩
theorem Walked.mono {m : Nat} {rs : List Row} {rules : List Rule} {gs0 gs : List (List Nat)} {a : Bool} {S S' : Prop} (h : Walked m rs rules gs0 gs a S) (hS : S → S') : Walked m rs rules gs0 gs a S' := by
  obtain ⟨hg, h⟩ := h
  refine ⟨hg, ?_⟩
  rcases h with h | ⟨h1, h2, h3⟩
  · exact .inl h
  · exact .inr ⟨h1, h2, hS h3⟩
theorem closed_of_seen {rs : List Row} {rules : List Rule} {gs : List (List Nat)} (h : ∀ r (hr : r < rules.length), ∀ j < rs.length, ∀ i < j, Seen gs rules[r] i j) : Closed rs rules gs := by
  intro ru hru j hj i hi ha
  obtain ⟨r, hr, rfl⟩ := List.getElem_of_mem hru
  have := h r hr j hj i hi
  unfold Seen stepped at this
  rw [ha] at this
  simpa using this
def NB (es : List Ent) : Prop := ∀ e ∈ es, isBoE e = false
def jLo : S := match d_l_joined.body with
  | .cons _ (.cons _ (.cons _ (.cons (.whl _ (.cons _ (.cons (.for _ _ (.cons (.for _ _ (.cons s _)) _)) _))) _))) => s
  | _ => .pass
def jHi : S := match d_l_joined.body with
  | .cons _ (.cons _ (.cons _ (.cons (.whl _ (.cons _ (.cons (.for _ _ (.cons s _)) _))) _))) => s
  | _ => .pass
def jRu : S := match d_l_joined.body with
  | .cons _ (.cons _ (.cons _ (.cons (.whl _ (.cons _ (.cons s _))) _))) => s
  | _ => .pass
/-- some environment of the loop -/
def JAny (m : Nat) (rs : List Row) (rules : List Rule) (e6 : Ent) (W : List (List Nat) → Bool → Prop) (ρ : Env) : Prop :=
  ∃ gs a e4 e7 e8 e9 e11 e12 e13 e16 e17, W gs a ∧ isBoE e4 = false ∧ isBoE e7 = false ∧ isBoE e8 = false ∧ isBoE e9 = false ∧ isBoE e11 = false ∧ isBoE e12 = false ∧ isBoE e13 = false ∧ isBoE e16 = false ∧ isBoE e17 = false ∧ ρ = jEnv m rs rules gs a e4 e6 e7 e8 e9 e11 e12 e13 e16 e17
theorem j_lo (C : Cfg) (m : Nat) (rs : List Row) (rules : List Rule) (gs0 gs : List (List Nat)) (a : Bool) (ru : Rule) (ht : OkT m rs) (hin : ru ∈ rules) (hru : OkRule m ru) (S : Prop) (hw : Walked m rs rules gs0 gs a S) (j : Nat) (hj : j < rs.length) (e4 e6 e11 e12 e13 e16 e17 : Ent)
    (b4 : isBoE e4 = false) (b11 : isBoE e11 = false) (b12 : isBoE e12 = false) (b13 : isBoE e13 = false) (b16 : isBoE e16 = false) (b17 : isBoE e17 = false) :
    Gets (exec C jLo (jEnv m rs rules gs a e4 e6 (.sh (natsD ru.1)) (.sh (nD ru.2)) (.sh (nD j)) e11 e12 e13 e16 e17)) (NxP fun ρ =>
      ∃ gs' a' e4 e11 e12 e13 e16 e17, Walked m rs rules gs0 gs' a' (S ∧ ∀ i < j, Seen gs0 ru i j) ∧ isBoE e4 = false ∧ isBoE e11 = false ∧ isBoE e12 = false ∧ isBoE e13 = false ∧ isBoE e16 = false ∧ isBoE e17 = false ∧ ρ = jEnv m rs rules gs' a' e4 e6 (.sh (natsD ru.1)) (.sh (nD ru.2)) (.sh (nD j)) e11 e12 e13 e16 e17) := by
  have hfw := ht.few
  have hl : ckI (j : Int) = some () := kI (by omega) (by omega)
  have he : exec C jLo (jEnv m rs rules gs a e4 e6 (.sh (natsD ru.1)) (.sh (nD ru.2)) (.sh (nD j)) e11 e12 e13 e16 e17) = forGo (exB C jBody) (.nm 11) (rngD 0 (j : Int)) (jEnv m rs rules gs a e4 e6 (.sh (natsD ru.1)) (.sh (nD ru.2)) (.sh (nD j)) e11 e12 e13 e16 e17) := by
    unfold jLo jBody d_l_joined
    simp only [jEnv]
    simp [start, entOf, retE, evs, evOs, evA, evTs, evI, toD, toO, toB, evVar, peek, fetch, fetchs, Val.d, asB, asI, items, stV, stTg, isBo_eq, doCall, argsOf, lents, giveBack, outs, isOwn, isLst, chg, appOb, extOb, cmpD, Option.bind_assoc, isiD, wipeE, con, List.replicate, -List.map_take, -List.map_drop, -List.map_reverse, -List.map_tail, nD, hl]
  rw [he]
  refine gets_for (fun i ρ => ∃ gs' a' e4 e11 e12 e13 e16 e17, Walked m rs rules gs0 gs' a' (S ∧ ∀ i' < i, Seen gs0 ru i' j) ∧ isBoE e4 = false ∧ isBoE e11 = false ∧ isBoE e12 = false ∧ isBoE e13 = false ∧ isBoE e16 = false ∧ isBoE e17 = false ∧ ρ = jEnv m rs rules gs' a' e4 e6 (.sh (natsD ru.1)) (.sh (nD ru.2)) (.sh (nD j)) e11 e12 e13 e16 e17) ⟨gs, a, e4, e11, e12, e13, e16, e17, hw.mono fun hs => ⟨hs, fun i hi => by omega⟩, b4, b11, b12, b13, b16, b17, rfl⟩ ?_ ?_
  · rintro i hi ρ ⟨gs', a', e4, e11, e12, e13, e16, e17, hw, b4, b11, b12, b13, b16, b17, rfl⟩
    rw [rng_len] at hi
    have hi' : i < rs.length := by omega
    have hst : stTg (.nm 11) ((rngD 0 (j : Int))[i]'(by rw [rng_len]; exact hi)) (jEnv m rs rules gs' a' e4 e6 (.sh (natsD ru.1)) (.sh (nD ru.2)) (.sh (nD j)) e11 e12 e13 e16 e17) = some (jEnv m rs rules gs' a' e4 e6 (.sh (natsD ru.1)) (.sh (nD ru.2)) (.sh (nD j)) (.sh (nD i)) e12 e13 e16 e17) := by
      simp only [rng_at, jEnv]
      simp [start, entOf, retE, evs, evOs, evA, evTs, evI, toD, toO, toB, evVar, peek, fetch, fetchs, Val.d, asB, asI, items, stV, stTg, isBo_eq, doCall, argsOf, lents, giveBack, outs, isOwn, isLst, chg, appOb, extOb, cmpD, Option.bind_assoc, isiD, wipeE, con, List.replicate, -List.map_take, -List.map_drop, -List.map_reverse, -List.map_tail, b11, nD]
    rw [hst, Option.bind_some]
    obtain ⟨fl, h1, h2⟩ := j_step C m rs rules gs' a' ru ht hru hw.1 i j hi' hj e4 e6 e12 e13 e16 e17 b4 b12 b13 b16 b17
    refine ⟨fl, h1, ?_⟩
    have key : ∀ ρ, JPost m rs rules (lookG gs' ru i j) (stepped gs' ru i j || a') e6 (.sh (natsD ru.1)) (.sh (nD ru.2)) (.sh (nD j)) (.sh (nD i)) ρ → ∃ gs' a' e4 e11 e12 e13 e16 e17, Walked m rs rules gs0 gs' a' (S ∧ ∀ i' < i + 1, Seen gs0 ru i' j) ∧ isBoE e4 = false ∧ isBoE e11 = false ∧ isBoE e12 = false ∧ isBoE e13 = false ∧ isBoE e16 = false ∧ isBoE e17 = false ∧ ρ = jEnv m rs rules gs' a' e4 e6 (.sh (natsD ru.1)) (.sh (nD ru.2)) (.sh (nD j)) e11 e12 e13 e16 e17 := by
      rintro ρ ⟨e4, e12, e13, e16, e17, c4, c12, c13, c16, c17, rfl⟩
      refine ⟨_, _, e4, _, e12, e13, e16, e17, hw.look hin hru hi' hj ?_, c4, rfl, c12, c13, c16, c17, rfl⟩
      rintro ⟨hs, hall⟩ hn
      refine ⟨hs, fun i' hi' => ?_⟩
      by_cases e : i' = i
      · rw [e]
        exact hn
      · exact hall i' (by omega)
    cases fl with
    | nx ρ => exact key ρ h2
    | ct ρ => exact key ρ h2
    | rt v ρ => exact h2.elim
    | bk ρ => exact h2.elim
  · rintro ρ' ⟨gs', a', e4, e11, e12, e13, e16, e17, hw, b4, b11, b12, b13, b16, b17, rfl⟩
    rw [rng_len] at hw
    refine ⟨gs', a', e4, e11, e12, e13, e16, e17, hw.mono fun hs => ⟨hs.1, fun i hi => hs.2 i (by omega)⟩, b4, b11, b12, b13, b16, b17, rfl⟩
end MP
end

section
set_option Elab.async false
set_option linter.all false
set_option maxRecDepth 100000
set_option maxHeartbeats 8000000
namespace MP
open PySem
variable {n : Nat}
theorem nxp_mono {P Q : Env → Prop} {fl : Fl} (h : NxP P fl) (k : ∀ ρ, P ρ → Q ρ) : NxP Q fl := by
  cases fl with
  | nx ρ => exact k ρ h
  | ct ρ => exact k ρ h
  | rt v ρ => exact h.elim
  | bk ρ => exact h.elim
/-- a body of one statement -/
theorem gets_one {C : Cfg} {s : S} {ρ : Env} {P : Env → Prop} (h : Gets (exec C s ρ) (NxP P)) : Gets (execs C (.cons s .nil) ρ) (NxP P) := by
  rw [Gets_cons]
  obtain ⟨fl, h1, h2⟩ := h
  refine ⟨fl, h1, ?_⟩
  cases fl with
  | nx ρ => exact (Gets_nil _ _ _).mpr h2
  | ct ρ => exact h2
  | rt v ρ => exact h2.elim
  | bk ρ => exact h2.elim
theorem j_hi (C : Cfg) (m : Nat) (rs : List Row) (rules : List Rule) (gs0 gs : List (List Nat)) (a : Bool) (ru : Rule) (ht : OkT m rs) (hin : ru ∈ rules) (hru : OkRule m ru) (S : Prop) (hw : Walked m rs rules gs0 gs a S) (e4 e6 e9 e11 e12 e13 e16 e17 : Ent)
    (b4 : isBoE e4 = false) (b9 : isBoE e9 = false) (b11 : isBoE e11 = false) (b12 : isBoE e12 = false) (b13 : isBoE e13 = false) (b16 : isBoE e16 = false) (b17 : isBoE e17 = false) :
    Gets (exec C jHi (jEnv m rs rules gs a e4 e6 (.sh (natsD ru.1)) (.sh (nD ru.2)) e9 e11 e12 e13 e16 e17)) (NxP fun ρ =>
      ∃ gs' a' e4 e9 e11 e12 e13 e16 e17, Walked m rs rules gs0 gs' a' (S ∧ ∀ j < rs.length, ∀ i < j, Seen gs0 ru i j) ∧ isBoE e4 = false ∧ isBoE e9 = false ∧ isBoE e11 = false ∧ isBoE e12 = false ∧ isBoE e13 = false ∧ isBoE e16 = false ∧ isBoE e17 = false ∧ ρ = jEnv m rs rules gs' a' e4 e6 (.sh (natsD ru.1)) (.sh (nD ru.2)) e9 e11 e12 e13 e16 e17) := by
  have hfw := ht.few
  have hl : ckI (rs.length : Int) = some () := kI (by omega) (by omega)
  have he : exec C jHi (jEnv m rs rules gs a e4 e6 (.sh (natsD ru.1)) (.sh (nD ru.2)) e9 e11 e12 e13 e16 e17) = forGo (exB C (.cons jLo .nil)) (.nm 9) (rngD 0 (rs.length : Int)) (jEnv m rs rules gs a e4 e6 (.sh (natsD ru.1)) (.sh (nD ru.2)) e9 e11 e12 e13 e16 e17) := by
    unfold jHi jLo d_l_joined
    simp only [jEnv]
    simp [start, entOf, retE, evs, evOs, evA, evTs, evI, toD, toO, toB, evVar, peek, fetch, fetchs, Val.d, asB, asI, items, stV, stTg, isBo_eq, doCall, argsOf, lents, giveBack, outs, isOwn, isLst, chg, appOb, extOb, cmpD, Option.bind_assoc, isiD, wipeE, con, List.replicate, -List.map_take, -List.map_drop, -List.map_reverse, -List.map_tail, nD, hl]
  rw [he]
  refine gets_for (fun j ρ => ∃ gs' a' e4 e9 e11 e12 e13 e16 e17, Walked m rs rules gs0 gs' a' (S ∧ ∀ j' < j, ∀ i < j', Seen gs0 ru i j') ∧ isBoE e4 = false ∧ isBoE e9 = false ∧ isBoE e11 = false ∧ isBoE e12 = false ∧ isBoE e13 = false ∧ isBoE e16 = false ∧ isBoE e17 = false ∧ ρ = jEnv m rs rules gs' a' e4 e6 (.sh (natsD ru.1)) (.sh (nD ru.2)) e9 e11 e12 e13 e16 e17) ⟨gs, a, e4, e9, e11, e12, e13, e16, e17, hw.mono fun hs => ⟨hs, fun j hj => by omega⟩, b4, b9, b11, b12, b13, b16, b17, rfl⟩ ?_ ?_
  · rintro j hj ρ ⟨gs', a', e4, e9, e11, e12, e13, e16, e17, hw, b4, b9, b11, b12, b13, b16, b17, rfl⟩
    rw [rng_len] at hj
    have hj' : j < rs.length := by omega
    have hst : stTg (.nm 9) ((rngD 0 (rs.length : Int))[j]'(by rw [rng_len]; exact hj)) (jEnv m rs rules gs' a' e4 e6 (.sh (natsD ru.1)) (.sh (nD ru.2)) e9 e11 e12 e13 e16 e17) = some (jEnv m rs rules gs' a' e4 e6 (.sh (natsD ru.1)) (.sh (nD ru.2)) (.sh (nD j)) e11 e12 e13 e16 e17) := by
      simp only [rng_at, jEnv]
      simp [start, entOf, retE, evs, evOs, evA, evTs, evI, toD, toO, toB, evVar, peek, fetch, fetchs, Val.d, asB, asI, items, stV, stTg, isBo_eq, doCall, argsOf, lents, giveBack, outs, isOwn, isLst, chg, appOb, extOb, cmpD, Option.bind_assoc, isiD, wipeE, con, List.replicate, -List.map_take, -List.map_drop, -List.map_reverse, -List.map_tail, b9, nD]
    rw [hst, Option.bind_some]
    refine gets_one ?_
    obtain ⟨fl, h1, h2⟩ := j_lo C m rs rules gs0 gs' a' ru ht hin hru _ hw j hj' e4 e6 e11 e12 e13 e16 e17 b4 b11 b12 b13 b16 b17
    refine ⟨fl, h1, nxp_mono h2 ?_⟩
    rintro ρ ⟨gs2, a2, e4, e11, e12, e13, e16, e17, hw2, c4, c11, c12, c13, c16, c17, rfl⟩
    refine ⟨gs2, a2, e4, _, e11, e12, e13, e16, e17, hw2.mono ?_, c4, rfl, c11, c12, c13, c16, c17, rfl⟩
    rintro ⟨⟨hs, h1⟩, h2⟩
    refine ⟨hs, fun j' hj' => ?_⟩
    by_cases e : j' = j
    · rw [e]
      exact h2
    · exact h1 j' (by omega)
  · rintro ρ' ⟨gs', a', e4, e9, e11, e12, e13, e16, e17, hw, b4, b9, b11, b12, b13, b16, b17, rfl⟩
    rw [rng_len] at hw
    refine ⟨gs', a', e4, e9, e11, e12, e13, e16, e17, hw.mono fun hs => ⟨hs.1, fun j hj => hs.2 j (by omega)⟩, b4, b9, b11, b12, b13, b16, b17, rfl⟩
theorem j_ru (C : Cfg) (m : Nat) (rs : List Row) (rules : List Rule) (gs : List (List Nat)) (ht : OkT m rs) (hr : OkRs m rules) (hg : GInv m rs rules gs) (e4 e6 e7 e8 e9 e11 e12 e13 e16 e17 : Ent)
    (b4 : isBoE e4 = false) (b7 : isBoE e7 = false) (b8 : isBoE e8 = false) (b9 : isBoE e9 = false) (b11 : isBoE e11 = false) (b12 : isBoE e12 = false) (b13 : isBoE e13 = false) (b16 : isBoE e16 = false) (b17 : isBoE e17 = false) :
    Gets (exec C jRu (jEnv m rs rules gs false e4 e6 e7 e8 e9 e11 e12 e13 e16 e17)) (NxP (JAny m rs rules e6 fun gs' a' => Walked m rs rules gs gs' a' (Closed rs rules gs))) := by
  have hfw := ht.few
  have he : exec C jRu (jEnv m rs rules gs false e4 e6 e7 e8 e9 e11 e12 e13 e16 e17) = forGo (exB C (.cons jHi .nil)) (.t2 (.nm 7) (.nm 8)) (rules.map ruleD) (jEnv m rs rules gs false e4 e6 e7 e8 e9 e11 e12 e13 e16 e17) := by
    unfold jRu jHi d_l_joined
    simp only [jEnv]
    simp [start, entOf, retE, evs, evOs, evA, evTs, evI, toD, toO, toB, evVar, peek, fetch, fetchs, Val.d, asB, asI, items, stV, stTg, isBo_eq, doCall, argsOf, lents, giveBack, outs, isOwn, isLst, chg, appOb, extOb, cmpD, Option.bind_assoc, isiD, wipeE, con, List.replicate, -List.map_take, -List.map_drop, -List.map_reverse, -List.map_tail]
  rw [he]
  refine gets_for (fun r ρ => JAny m rs rules e6 (fun gs' a' => Walked m rs rules gs gs' a' (∀ r' (hr : r' < rules.length), r' < r → ∀ j < rs.length, ∀ i < j, Seen gs rules[r'] i j)) ρ) ⟨gs, false, e4, e7, e8, e9, e11, e12, e13, e16, e17, ⟨hg, .inr ⟨rfl, rfl, fun r' _ h => by omega⟩⟩, b4, b7, b8, b9, b11, b12, b13, b16, b17, rfl⟩ ?_ ?_
  · rintro r hrl ρ ⟨gs', a', e4, e7, e8, e9, e11, e12, e13, e16, e17, hw, b4, b7, b8, b9, b11, b12, b13, b16, b17, rfl⟩
    have hrl' : r < rules.length := by rw [List.length_map] at hrl; exact hrl
    have hru := hr.rule _ (List.getElem_mem hrl')
    have hst : stTg (.t2 (.nm 7) (.nm 8)) ((rules.map ruleD)[r]) (jEnv m rs rules gs' a' e4 e6 e7 e8 e9 e11 e12 e13 e16 e17) = some (jEnv m rs rules gs' a' e4 e6 (.sh (natsD rules[r].1)) (.sh (nD rules[r].2)) e9 e11 e12 e13 e16 e17) := by
      simp only [List.getElem_map, jEnv, ruleD]
      simp [start, entOf, retE, evs, evOs, evA, evTs, evI, toD, toO, toB, evVar, peek, fetch, fetchs, Val.d, asB, asI, items, stV, stTg, isBo_eq, doCall, argsOf, lents, giveBack, outs, isOwn, isLst, chg, appOb, extOb, cmpD, Option.bind_assoc, isiD, wipeE, con, List.replicate, -List.map_take, -List.map_drop, -List.map_reverse, -List.map_tail, b7, b8]
    rw [hst, Option.bind_some]
    refine gets_one ?_
    obtain ⟨fl, h1, h2⟩ := j_hi C m rs rules gs gs' a' rules[r] ht (List.getElem_mem hrl') hru _ hw e4 e6 e9 e11 e12 e13 e16 e17 b4 b9 b11 b12 b13 b16 b17
    refine ⟨fl, h1, nxp_mono h2 ?_⟩
    rintro ρ ⟨gs2, a2, e4, e9, e11, e12, e13, e16, e17, hw2, c4, c9, c11, c12, c13, c16, c17, rfl⟩
    refine ⟨gs2, a2, e4, _, _, e9, e11, e12, e13, e16, e17, hw2.mono ?_, c4, rfl, rfl, c9, c11, c12, c13, c16, c17, rfl⟩
    rintro ⟨h1, h2⟩ r' hr' hlt
    by_cases e : r' = r
    · subst e
      exact h2
    · exact h1 r' hr' (by omega)
  · rintro ρ' ⟨gs', a', e4, e7, e8, e9, e11, e12, e13, e16, e17, hw, b4, b7, b8, b9, b11, b12, b13, b16, b17, rfl⟩
    rw [List.length_map] at hw
    refine ⟨gs', a', e4, e7, e8, e9, e11, e12, e13, e16, e17, hw.mono fun hs => closed_of_seen fun r hr => hs r hr hr, b4, b7, b8, b9, b11, b12, b13, b16, b17, rfl⟩
def jWh : S := match d_l_joined.body with
  | .cons _ (.cons _ (.cons _ (.cons s _))) => s
  | _ => .pass
theorem j_wh (C : Cfg) (m : Nat) (rs : List Row) (rules : List Rule) (gs : List (List Nat)) (ht : OkT m rs) (hr : OkRs m rules) (hg : GInv m rs rules gs) (hs : gSum gs < 1000) (e4 e6 e7 e8 e9 e11 e12 e13 e16 e17 : Ent)
    (b4 : isBoE e4 = false) (b7 : isBoE e7 = false) (b8 : isBoE e8 = false) (b9 : isBoE e9 = false) (b11 : isBoE e11 = false) (b12 : isBoE e12 = false) (b13 : isBoE e13 = false) (b16 : isBoE e16 = false) (b17 : isBoE e17 = false) :
    Gets (exec C jWh (jEnv m rs rules gs true e4 e6 e7 e8 e9 e11 e12 e13 e16 e17)) (fun fl => ∃ ρ, fl = .nx ρ ∧ JAny m rs rules e6 (fun gs' a' => FinG m rs rules gs') ρ) := by
  have he : ∀ ρ, exec C jWh ρ = whlGo (evB C (.var 5)) (exB C (.cons (.asg (.nm 5) (.bl false)) (.cons jRu .nil))) wfuel ρ := fun ρ => rfl
  rw [he]
  refine gets_whl (fun k ρ => JAny m rs rules e6 (fun gs' a' => GInv m rs rules gs' ∧ (a' = true → gSum gs' + 1 ≤ k) ∧ (a' = false → Closed rs rules gs')) ρ) ?_ wfuel (gSum gs + 1) _ (by unfold wfuel; omega) ⟨gs, true, e4, e7, e8, e9, e11, e12, e13, e16, e17, ⟨hg, fun _ => Nat.le_refl _, fun h => by cases h⟩, b4, b7, b8, b9, b11, b12, b13, b16, b17, rfl⟩
  rintro k ρ ⟨gs', a', e4, e7, e8, e9, e11, e12, e13, e16, e17, ⟨hg, h1, h2⟩, b4, b7, b8, b9, b11, b12, b13, b16, b17, rfl⟩
  refine ⟨a', jEnv m rs rules gs' a' e4 e6 e7 e8 e9 e11 e12 e13 e16 e17, by simp only [jEnv]; simp [start, entOf, retE, evs, evOs, evA, evTs, evI, toD, toO, toB, evVar, peek, fetch, fetchs, Val.d, asB, asI, items, stV, stTg, isBo_eq, doCall, argsOf, lents, giveBack, outs, isOwn, isLst, chg, appOb, extOb, cmpD, Option.bind_assoc, isiD, wipeE, con, List.replicate, -List.map_take, -List.map_drop, -List.map_reverse, -List.map_tail, evB], ?_, ?_⟩
  · intro ha
    exact ⟨_, rfl, gs', a', e4, e7, e8, e9, e11, e12, e13, e16, e17, ⟨hg, h2 ha⟩, b4, b7, b8, b9, b11, b12, b13, b16, b17, rfl⟩
  · intro ha
    have hk := h1 ha
    refine ⟨by omega, ?_⟩
    have e1 : exec C (.asg (.nm 5) (.bl false)) (jEnv m rs rules gs' a' e4 e6 e7 e8 e9 e11 e12 e13 e16 e17) = some (.nx (jEnv m rs rules gs' false e4 e6 e7 e8 e9 e11 e12 e13 e16 e17)) := by
      simp only [jEnv]
      simp [start, entOf, retE, evs, evOs, evA, evTs, evI, toD, toO, toB, evVar, peek, fetch, fetchs, Val.d, asB, asI, items, stV, stTg, isBo_eq, doCall, argsOf, lents, giveBack, outs, isOwn, isLst, chg, appOb, extOb, cmpD, Option.bind_assoc, isiD, wipeE, con, List.replicate, -List.map_take, -List.map_drop, -List.map_reverse, -List.map_tail]
    show Gets (execs C _ _) _
    rw [Gets_cons, e1]
    refine ⟨_, rfl, ?_⟩
    rw [NxZ_nx]
    refine gets_one ?_
    obtain ⟨fl, h3, h4⟩ := j_ru C m rs rules gs' ht hr hg e4 e6 e7 e8 e9 e11 e12 e13 e16 e17 b4 b7 b8 b9 b11 b12 b13 b16 b17
    refine ⟨fl, h3, nxp_mono h4 ?_⟩
    rintro ρ ⟨gs2, a2, e4, e7, e8, e9, e11, e12, e13, e16, e17, ⟨hg2, hw⟩, b4, b7, b8, b9, b11, b12, b13, b16, b17, rfl⟩
    refine ⟨gs2, a2, e4, e7, e8, e9, e11, e12, e13, e16, e17, ⟨hg2, ?_, ?_⟩, b4, b7, b8, b9, b11, b12, b13, b16, b17, rfl⟩
    · intro h
      rcases hw with ⟨_, hw⟩ | ⟨hw, _⟩
      · omega
      · rw [h] at hw
        cases hw
    · intro h
      rcases hw with ⟨hw, _⟩ | ⟨_, hw, hc⟩
      · rw [h] at hw
        cases hw
      · rw [hw]
        exact hc
end MP
end

section
set_option Elab.async false
set_option linter.all false
set_option maxRecDepth 100000
set_option maxHeartbeats 8000000
namespace MP
open PySem
variable {n : Nat}
theorem sum_le (k : Nat) : ∀ g : List Nat, (∀ x ∈ g, x ≤ k) → g.sum ≤ k * g.length
  | [], _ => by simp
  | x :: g, h => by
    have h1 := sum_le k g fun y hy => h y (List.mem_cons_of_mem _ hy)
    have h2 := h x List.mem_cons_self
    rw [List.sum_cons, List.length_cons, Nat.mul_add]
    omega
theorem GInv.mem {m : Nat} {rs : List Row} {rules : List Rule} {gs : List (List Nat)} (h : GInv m rs rules gs) {g : List Nat} (hg : g ∈ gs) {x : Nat} (hx : x ∈ g) : x < rs.length := by
  obtain ⟨c, hc, rfl⟩ := List.getElem_of_mem hg
  obtain ⟨i, hi, rfl⟩ := List.getElem_of_mem hx
  have hl := h.row _ hg
  have := h.le c (by rw [← h.len]; exact hc) i (by omega)
  unfold gAt at this
  simp [List.getD_eq_getElem?_getD, List.getElem?_eq_getElem hc, List.getElem?_eq_getElem hi] at this
  omega
theorem GInv.small {m : Nat} {rs : List Row} {rules : List Rule} {gs : List (List Nat)} (h : GInv m rs rules gs) (ht : OkT m rs) : gSum gs < 1000 := by
  have hm := ht.hi
  have hf := ht.few
  have := gSum_le (k := 64) h.len fun g hg => by
    have h1 := sum_le 8 g fun x hx => by have := h.mem hg hx; omega
    have h2 := h.row g hg
    omega
  omega
theorem col_cells (rs : List Row) (c : Nat) : (colOf rs c).length = rs.length := by unfold colOf; rw [List.length_map]
theorem enum_c (cs : List Cell) : enumD 0 (cs.map cD) = cs.zipIdx.map fun p => .tuple [.int ((p.2 : Nat) : Int), cD p.1] := by
  rw [enumD_map, List.zipIdx_map, List.map_map]
  rfl
theorem zip_mem {cs : List Cell} {p : Cell × Nat} (h : p ∈ cs.zipIdx) : p.1 ∈ cs := by
  obtain ⟨a, b⟩ := p
  exact List.fst_mem_of_mem_zipIdx h
theorem sp_joined (m : Nat) (rs : List Row) (rules : List Rule) (ht : OkT m rs) (hr : OkRs m rules) :
    ∃ gs, FinG m rs rules gs ∧ evalCall Γ con (n + 1) f_l_joined [.sh (.int (m : Int)), .sh (rowsD rs), .sh (rulesD rules)] = some (.ow (.lst (gs.map grpD)), []) := by
  suffices h : Gets (evalCall Γ con (n + 1) f_l_joined [.sh (.int (m : Int)), .sh (rowsD rs), .sh (rulesD rules)]) fun r => ∃ gs, FinG m rs rules gs ∧ r = (.ow (.lst (gs.map grpD)), []) by
    obtain ⟨r, h1, gs, h2, rfl⟩ := h
    exact ⟨gs, h2, h1⟩
  refine gets_call g_l_joined rfl ?_
  obtain ⟨Z, hZ⟩ : ∃ Z : Val × List Ob → Prop, Z = fun r => ∃ gs, FinG m rs rules gs ∧ r = (.ow (.lst (gs.map grpD)), []) := ⟨_, rfl⟩
  rw [← hZ]
  have hm := ht.hi
  have hfw := ht.few
  have hl : ckI (m : Int) = some () := kI (by omega) (by omega)
  simp only [rowsD, rulesD]
  have hb : d_l_joined.body = .cons (.asg (.nm 3) (.lst .nil)) (.cons (.for (.nm 4) (.rng (.var 0)) (.cons (.asg (.nm 6) (.frz (.lc (.ix (.var 10) (.var 4)) (.nm 10) (.seq (.var 1)) .nil [10]))) (.cons (.app 3 (.lc (.ite (.isN (.var 15)) (.var 14) (.idx (.var 6) (.var 15))) (.t2 (.nm 14) (.nm 15)) (.enm (.var 6)) .nil [14, 15])) .nil))) (.cons (.asg (.nm 5) (.bl true)) (.cons jWh (.cons (.ret (.var 3)) .nil)))) := rfl
  rw [hb]
  have hsl : d_l_joined.sl = 19 := rfl
  obtain ⟨W, hW⟩ : ∃ W, W = jWh := ⟨_, rfl⟩
  rw [← hW]
  simp [start, entOf, retE, evs, evOs, evA, evTs, evI, toD, toO, toB, evVar, peek, fetch, fetchs, Val.d, asB, asI, items, stV, stTg, isBo_eq, doCall, argsOf, lents, giveBack, outs, isOwn, isLst, chg, appOb, extOb, cmpD, Option.bind_assoc, isiD, wipeE, con, List.replicate, -List.map_take, -List.map_drop, -List.map_reverse, -List.map_tail, hsl, hl]
  refine gets_for (fun c ρ => ∃ e4 e6, isBoE e4 = false ∧ isBoE e6 = false ∧ ρ = [.sh (.int (m : Int)), .sh (.tuple (rs.map rowD)), .sh (.tuple (rules.map ruleD)), .ow (.lst ((iniGs c rs).map grpD)), e4, .un, e6, .un, .un, .un, .un, .un, .un, .un, .un, .un, .un, .un, .un]) ⟨.un, .un, rfl, rfl, rfl⟩ ?_ ?_
  · rintro c hc ρ ⟨e4, e6, b4, b6, rfl⟩
    rw [rng_len] at hc
    have hc' : c < m := by omega
    simp only [rng_at]
    simp [start, entOf, retE, evs, evOs, evA, evTs, evI, toD, toO, toB, evVar, peek, fetch, fetchs, Val.d, asB, asI, items, stV, stTg, isBo_eq, doCall, argsOf, lents, giveBack, outs, isOwn, isLst, chg, appOb, extOb, cmpD, Option.bind_assoc, isiD, wipeE, con, List.replicate, -List.map_take, -List.map_drop, -List.map_reverse, -List.map_tail, exB, b4, kN (k := rs.length) (by omega)]
    refine gets_lcm rowD (fun r => cD (cell r c)) (fun r hr' => ?_) ?_
    · have hrow := ht.row r hr'
      have hix : ixD (rowD r) (.int (c : Int)) = some (cD (cell r c)) := ix_row (by rw [hrow.1]; exact hc')
      simp [start, entOf, retE, evs, evOs, evA, evTs, evI, toD, toO, toB, evVar, peek, fetch, fetchs, Val.d, asB, asI, items, stV, stTg, isBo_eq, doCall, argsOf, lents, giveBack, outs, isOwn, isLst, chg, appOb, extOb, cmpD, Option.bind_assoc, isiD, wipeE, con, List.replicate, -List.map_take, -List.map_drop, -List.map_reverse, -List.map_tail, evT, evD, hix]
    · have ecol : (rs.map fun r => cD (cell r c)) = (colOf rs c).map cD := by simp [colOf]
      have hcl := col_cells rs c
      have hap : c < lim := ylim' (by omega)
      rw [ecol]
      simp [start, entOf, retE, evs, evOs, evA, evTs, evI, toD, toO, toB, evVar, peek, fetch, fetchs, Val.d, asB, asI, items, stV, stTg, isBo_eq, doCall, argsOf, lents, giveBack, outs, isOwn, isLst, chg, appOb, extOb, cmpD, Option.bind_assoc, isiD, wipeE, con, List.replicate, -List.map_take, -List.map_drop, -List.map_reverse, -List.map_tail, b6, enumD_length, kN (k := (colOf rs c).length) (by omega), enum_c]
      refine gets_lcm _ (fun p => nD (firstOf (colOf rs c) p)) (fun p hp => ?_) ?_
      · obtain ⟨x, at_⟩ := p
        cases x with
        | none => simp [start, entOf, retE, evs, evOs, evA, evTs, evI, toD, toO, toB, evVar, peek, fetch, fetchs, Val.d, asB, asI, items, stV, stTg, isBo_eq, doCall, argsOf, lents, giveBack, outs, isOwn, isLst, chg, appOb, extOb, cmpD, Option.bind_assoc, isiD, wipeE, con, List.replicate, -List.map_take, -List.map_drop, -List.map_reverse, -List.map_tail, evT, evD, cD, firstOf, nD]
        | some v =>
          have hi := idx_c (colOf rs c) v (zip_mem hp)
          simp only [cD] at hi
          simp [start, entOf, retE, evs, evOs, evA, evTs, evI, toD, toO, toB, evVar, peek, fetch, fetchs, Val.d, asB, asI, items, stV, stTg, isBo_eq, doCall, argsOf, lents, giveBack, outs, isOwn, isLst, chg, appOb, extOb, cmpD, Option.bind_assoc, isiD, wipeE, con, List.replicate, -List.map_take, -List.map_drop, -List.map_reverse, -List.map_tail, evT, evD, cD, firstOf, nD, isLD, hi]
      · have hil : (iniGs c rs).length < lim := by simp only [iniGs, List.length_map, List.length_range]; exact hap
        simp [start, entOf, retE, evs, evOs, evA, evTs, evI, toD, toO, toB, evVar, peek, fetch, fetchs, Val.d, asB, asI, items, stV, stTg, isBo_eq, doCall, argsOf, lents, giveBack, outs, isOwn, isLst, chg, appOb, extOb, cmpD, Option.bind_assoc, isiD, wipeE, con, List.replicate, -List.map_take, -List.map_drop, -List.map_reverse, -List.map_tail, hil]
        refine ⟨_, rfl, _, rfl, ⟨?_, rfl, rfl⟩⟩
        simp [iniGs, List.range_succ, grpD, iniG, Function.comp_def]
  · rintro ρ' ⟨e4, e6, b4, b6, rfl⟩
    rw [rng_len]
    have e : ((m : Int) - 0).toNat = m := by omega
    rw [e]
    simp [start, entOf, retE, evs, evOs, evA, evTs, evI, toD, toO, toB, evVar, peek, fetch, fetchs, Val.d, asB, asI, items, stV, stTg, isBo_eq, doCall, argsOf, lents, giveBack, outs, isOwn, isLst, chg, appOb, extOb, cmpD, Option.bind_assoc, isiD, wipeE, con, List.replicate, -List.map_take, -List.map_drop, -List.map_reverse, -List.map_tail]
    have hg := iniGs_inv m rs rules
    obtain ⟨fl, h1, ρ, rfl, gs, a, e4, e7, e8, e9, e11, e12, e13, e16, e17, hF, c4, c7, c8, c9, c11, c12, c13, c16, c17, rfl⟩ := j_wh ⟨evalCall Γ con n, con, musOf Γ⟩ m rs rules (iniGs m rs) ht hr hg (hg.small ht) e4 e6 .un .un .un .un .un .un .un .un b4 rfl rfl rfl rfl rfl rfl rfl rfl
    rw [hW]
    refine ⟨_, h1, ?_⟩
    simp only [jEnv]
    simp [start, entOf, retE, evs, evOs, evA, evTs, evI, toD, toO, toB, evVar, peek, fetch, fetchs, Val.d, asB, asI, items, stV, stTg, isBo_eq, doCall, argsOf, lents, giveBack, outs, isOwn, isLst, chg, appOb, extOb, cmpD, Option.bind_assoc, isiD, wipeE, con, List.replicate, -List.map_take, -List.map_drop, -List.map_reverse, -List.map_tail]
    rw [hZ]
    exact ⟨gs, hF, rfl⟩
end MP
end

section
set_option Elab.async false
set_option linter.all false
set_option maxRecDepth 100000
set_option maxHeartbeats 8000000
namespace MP
open PySem
variable {n : Nat}
/-! ### the law's values of a group, clash -/
def valsUp (rs : List Row) (gs : List (List Nat)) (c f : Nat) : Nat → List Int
  | 0 => []
  | i + 1 => match cellAt rs i c with
    | none => valsUp rs gs c f i
    | some v => if gAt gs c i = f ∧ v ∉ valsUp rs gs c f i then valsUp rs gs c f i ++ [v] else valsUp rs gs c f i
def valsOf (rs : List Row) (gs : List (List Nat)) (c f : Nat) : List Int := valsUp rs gs c f rs.length
theorem valsUp_len (rs : List Row) (gs : List (List Nat)) (c f : Nat) : ∀ i, (valsUp rs gs c f i).length ≤ i
  | 0 => by simp [valsUp]
  | i + 1 => by
    have := valsUp_len rs gs c f i
    rw [valsUp]
    split
    · omega
    · split
      · rw [List.length_append, List.length_singleton]
        omega
      · omega
theorem valsUp_ok {m : Nat} {rs : List Row} (ht : OkT m rs) (gs : List (List Nat)) (c f : Nat) : ∀ i, i ≤ rs.length → ∀ v ∈ valsUp rs gs c f i, 0 ≤ v ∧ v ≤ 9999
  | 0, _, v, hv => by cases hv
  | i + 1, hi, v, hv => by
    have ih := valsUp_ok ht gs c f i (by omega)
    rw [valsUp] at hv
    split at hv
    · exact ih v hv
    · rename_i w hw
      split at hv
      · rcases List.mem_append.mp hv with h | h
        · exact ih v h
        · rw [List.mem_singleton.mp h]
          have hi' : i < rs.length := by omega
          unfold cellAt cell at hw
          rw [getD_at hi'] at hw
          have hrow := ht.row _ (List.getElem_mem hi')
          rw [List.getD_eq_getElem?_getD] at hw
          cases hq : rs[i][c]? with
          | none => rw [hq] at hw; cases hw
          | some x =>
            rw [hq] at hw
            exact hrow.2 x (List.mem_of_getElem? hq) w hw
      · exact ih v hv
theorem in_ints (v : Int) (p : List Int) : inD (.int v) (.list (p.map .int)) = some (decide (v ∈ p)) := by
  unfold inD
  have s1 : shp (.list (p.map .int)) = true := (flt_list (k := 0) fun x hx => by
    obtain ⟨c, _, rfl⟩ := List.mem_map.mp hx
    exact flt_int 0 c).shp (by omega)
  have s2 : shp (.int v) = true := (flt_int 0 v).shp (by omega)
  simp only [items, Option.bind_eq_bind, Option.bind_some, s1, s2, Bool.and_self, if_true, List.any_map]
  congr 1
  rw [Bool.eq_iff_iff]
  simp only [List.any_eq_true, Function.comp_apply, PyData.eqv, decide_eq_true_eq]
  constructor
  · rintro ⟨x, hx, e⟩
    rw [beq_iff_eq] at e
    rw [← e]
    exact hx
  · intro h
    exact ⟨v, h, by simp⟩
theorem ix_rowAt {m : Nat} {rs : List Row} (ht : OkT m rs) {i c : Nat} (hi : i < rs.length) (hc : c < m) : ixD (rowD rs[i]) (.int (c : Int)) = some (cD (cellAt rs i c)) := by
  unfold cellAt
  rw [getD_at hi]
  exact ix_row (by rw [(ht.row _ (List.getElem_mem hi)).1]; exact hc)
theorem sp_values (m : Nat) (rs : List Row) (rules : List Rule) (gs : List (List Nat)) (ht : OkT m rs) (hg : GInv m rs rules gs) (c f : Nat) (hc : c < m) : evalCall Γ con (n + 1) f_l_values [.sh (rowsD rs), .sh (.list (gs.map grpD)), .sh (.int (c : Int)), .sh (.int (f : Int))] = some (.ow (.lst ((valsOf rs gs c f).map .int)), []) := by
  refine eq_call g_l_values rfl ?_
  have hm := ht.hi
  have hfw := ht.few
  simp only [rowsD]
  simp [start, entOf, retE, evs, evOs, evA, evTs, evI, toD, toO, toB, evVar, peek, fetch, fetchs, Val.d, asB, asI, items, stV, stTg, isBo_eq, doCall, argsOf, lents, giveBack, outs, isOwn, isLst, chg, appOb, extOb, cmpD, Option.bind_assoc, isiD, wipeE, con, List.replicate, -List.map_take, -List.map_drop, -List.map_reverse, -List.map_tail, d_l_values]
  refine gets_for (fun i ρ => ∃ e5 e6, isBoE e5 = false ∧ isBoE e6 = false ∧ ρ = [.sh (.tuple (rs.map rowD)), .sh (.list (gs.map grpD)), .sh (.int (c : Int)), .sh (.int (f : Int)), .ow (.lst ((valsUp rs gs c f i).map .int)), e5, e6]) ⟨.un, .un, rfl, rfl, rfl⟩ ?_ ?_
  · rintro i hi ρ ⟨e5, e6, b5, b6, rfl⟩
    rw [enumD_length, List.length_map] at hi
    have hgl := hg.glen hc
    have g1 : ixD (.list (gs.map grpD)) (.int (c : Int)) = some (grpD (gs.getD c [])) := grp_at (by rw [hg.len]; exact hc)
    have g2 : ixD (grpD (gs.getD c [])) (.int (i : Int)) = some (nD (gAt gs c i)) := lab_at (by omega)
    have g3 := ix_rowAt ht hi hc
    have hvl := valsUp_len rs gs c f i
    have hap : (valsUp rs gs c f i).length < lim := ylim' (by omega)
    obtain ⟨G, hG⟩ : ∃ G, G = gs.getD c [] := ⟨_, rfl⟩
    rw [← hG] at g1 g2
    by_cases hf : gAt gs c i = f
    · cases hv : cellAt rs i c with
      | none =>
        rw [hv] at g3
        simp only [cD] at g3
        simp [start, entOf, retE, evs, evOs, evA, evTs, evI, toD, toO, toB, evVar, peek, fetch, fetchs, Val.d, asB, asI, items, stV, stTg, isBo_eq, doCall, argsOf, lents, giveBack, outs, isOwn, isLst, chg, appOb, extOb, cmpD, Option.bind_assoc, isiD, wipeE, con, List.replicate, -List.map_take, -List.map_drop, -List.map_reverse, -List.map_tail, enumD_at, exB, b5, b6, g1, g2, g3, nD, hf]
        refine ⟨_, rfl, _, rfl, ⟨?_, rfl, rfl⟩⟩
        simp [valsUp, hv]
      | some v =>
        rw [hv] at g3
        simp only [cD] at g3
        by_cases hin : v ∈ valsUp rs gs c f i
        · simp [start, entOf, retE, evs, evOs, evA, evTs, evI, toD, toO, toB, evVar, peek, fetch, fetchs, Val.d, asB, asI, items, stV, stTg, isBo_eq, doCall, argsOf, lents, giveBack, outs, isOwn, isLst, chg, appOb, extOb, cmpD, Option.bind_assoc, isiD, wipeE, con, List.replicate, -List.map_take, -List.map_drop, -List.map_reverse, -List.map_tail, enumD_at, exB, b5, b6, g1, g2, g3, nD, hf, in_ints, hin]
          refine ⟨_, rfl, _, rfl, ⟨?_, rfl, rfl⟩⟩
          simp [valsUp, hv, hin]
        · simp [start, entOf, retE, evs, evOs, evA, evTs, evI, toD, toO, toB, evVar, peek, fetch, fetchs, Val.d, asB, asI, items, stV, stTg, isBo_eq, doCall, argsOf, lents, giveBack, outs, isOwn, isLst, chg, appOb, extOb, cmpD, Option.bind_assoc, isiD, wipeE, con, List.replicate, -List.map_take, -List.map_drop, -List.map_reverse, -List.map_tail, enumD_at, exB, b5, b6, g1, g2, g3, nD, hf, in_ints, hin, hap]
          refine ⟨_, rfl, _, rfl, ⟨?_, rfl, rfl⟩⟩
          simp [valsUp, hv, hin, hf]
    · have hf' : ¬ (gAt gs c i : Int) = (f : Int) := by omega
      simp [start, entOf, retE, evs, evOs, evA, evTs, evI, toD, toO, toB, evVar, peek, fetch, fetchs, Val.d, asB, asI, items, stV, stTg, isBo_eq, doCall, argsOf, lents, giveBack, outs, isOwn, isLst, chg, appOb, extOb, cmpD, Option.bind_assoc, isiD, wipeE, con, List.replicate, -List.map_take, -List.map_drop, -List.map_reverse, -List.map_tail, enumD_at, exB, b5, b6, g1, g2, g3, nD, hf, hf']
      refine ⟨_, rfl, _, rfl, ⟨?_, rfl, rfl⟩⟩
      rw [valsUp]
      split
      · rfl
      · rw [if_neg (fun h => hf h.1)]
  · rintro ρ' ⟨e5, e6, b5, b6, rfl⟩
    rw [enumD_length, List.length_map]
    simp [start, entOf, retE, evs, evOs, evA, evTs, evI, toD, toO, toB, evVar, peek, fetch, fetchs, Val.d, asB, asI, items, stV, stTg, isBo_eq, doCall, argsOf, lents, giveBack, outs, isOwn, isLst, chg, appOb, extOb, cmpD, Option.bind_assoc, isiD, wipeE, con, List.replicate, -List.map_take, -List.map_drop, -List.map_reverse, -List.map_tail, valsOf]
def clash (m : Nat) (rs : List Row) (gs : List (List Nat)) : Bool := (List.range m).any fun c => (gs.getD c []).any fun f => decide (1 < (valsOf rs gs c f).length)
def clashAt (rs : List Row) (gs : List (List Nat)) (c : Nat) : Bool := (gs.getD c []).any fun f => decide (1 < (valsOf rs gs c f).length)
theorem clash_nil (rs : List Row) (gs : List (List Nat)) (c : Nat) (G : List Nat) (hG : G = gs.getD c []) : (G.filter fun f => decide (1 < (valsOf rs gs c f).length)).isEmpty = !clashAt rs gs c := by
  unfold clashAt
  rw [← hG, Bool.eq_iff_iff, List.isEmpty_iff, List.filter_eq_nil_iff, Bool.not_eq_true', List.any_eq_false]
theorem sp_clash (m : Nat) (rs : List Row) (rules : List Rule) (gs : List (List Nat)) (ht : OkT m rs) (hg : GInv m rs rules gs) : evalCall Γ con (n + 2) f_l_is_clash [.sh (rowsD rs), .sh (.list (gs.map grpD))] = some (.sh (.bool (clash m rs gs)), []) := by
  refine eq_call g_l_is_clash rfl ?_
  have hm := ht.hi
  have hfw := ht.few
  simp [start, entOf, retE, evs, evOs, evA, evTs, evI, toD, toO, toB, evVar, peek, fetch, fetchs, Val.d, asB, asI, items, stV, stTg, isBo_eq, doCall, argsOf, lents, giveBack, outs, isOwn, isLst, chg, appOb, extOb, cmpD, Option.bind_assoc, isiD, wipeE, con, List.replicate, -List.map_take, -List.map_drop, -List.map_reverse, -List.map_tail, d_l_is_clash]
  refine gets_find (fun c => clashAt rs gs c) (fun c ρ => ∃ e2 e3, isBoE e2 = false ∧ isBoE e3 = false ∧ ρ = [.sh (rowsD rs), .sh (.list (gs.map grpD)), e2, e3, .un]) (fun _ v => v = .sh (.bool true)) ⟨.un, .un, rfl, rfl, rfl⟩ ?_ ?_ ?_
  · rintro c hc ρ ⟨e2, e3, b2, b3, rfl⟩
    rw [enumD_length, List.length_map, hg.len] at hc
    have hc' : c < gs.length := by rw [hg.len]; exact hc
    have hgl := hg.glen hc
    obtain ⟨G, hG⟩ : ∃ G, G = gs.getD c [] := ⟨_, rfl⟩
    have eG : gs[c] = G := by rw [hG, List.getD_eq_getElem?_getD, List.getElem?_eq_getElem hc']; rfl
    rw [← hG] at hgl
    simp [start, entOf, retE, evs, evOs, evA, evTs, evI, toD, toO, toB, evVar, peek, fetch, fetchs, Val.d, asB, asI, items, stV, stTg, isBo_eq, doCall, argsOf, lents, giveBack, outs, isOwn, isLst, chg, appOb, extOb, cmpD, Option.bind_assoc, isiD, wipeE, con, List.replicate, -List.map_take, -List.map_drop, -List.map_reverse, -List.map_tail, enumD_at, exB, b2, b3, eG]
    simp only [grpD]
    simp [start, entOf, retE, evs, evOs, evA, evTs, evI, toD, toO, toB, evVar, peek, fetch, fetchs, Val.d, asB, asI, items, stV, stTg, isBo_eq, doCall, argsOf, lents, giveBack, outs, isOwn, isLst, chg, appOb, extOb, cmpD, Option.bind_assoc, isiD, wipeE, con, List.replicate, -List.map_take, -List.map_drop, -List.map_reverse, -List.map_tail, kN (k := G.length) (by omega)]
    have q := eqL_nil (flt_ones (G.filter fun f => decide (1 < (valsOf rs gs c f).length))) (by omega)
    rw [List.isEmpty_map, clash_nil rs gs c G hG] at q
    refine gets_lcf nD (fun f => decide (1 < (valsOf rs gs c f).length)) (fun _ => .int 1) (fun f hf => ?_) ?_
    · have hv := sp_values (n := n) m rs rules gs ht hg c f hc
      by_cases hl : 1 < (valsOf rs gs c f).length
      · have hl' : (1 : Int) < ((valsOf rs gs c f).length : Int) := by omega
        simp [start, entOf, retE, evs, evOs, evA, evTs, evI, toD, toO, toB, evVar, peek, fetch, fetchs, Val.d, asB, asI, items, stV, stTg, isBo_eq, doCall, argsOf, lents, giveBack, outs, isOwn, isLst, chg, appOb, extOb, cmpD, Option.bind_assoc, isiD, wipeE, con, List.replicate, -List.map_take, -List.map_drop, -List.map_reverse, -List.map_tail, evT, evD, nD, hv, hl, hl']
      · have hl' : ¬ (1 : Int) < ((valsOf rs gs c f).length : Int) := by omega
        simp [start, entOf, retE, evs, evOs, evA, evTs, evI, toD, toO, toB, evVar, peek, fetch, fetchs, Val.d, asB, asI, items, stV, stTg, isBo_eq, doCall, argsOf, lents, giveBack, outs, isOwn, isLst, chg, appOb, extOb, cmpD, Option.bind_assoc, isiD, wipeE, con, List.replicate, -List.map_take, -List.map_drop, -List.map_reverse, -List.map_tail, evT, evD, nD, hv, hl, hl']
    · cases hcl : clashAt rs gs c with
      | true =>
        rw [hcl] at q
        simp [start, entOf, retE, evs, evOs, evA, evTs, evI, toD, toO, toB, evVar, peek, fetch, fetchs, Val.d, asB, asI, items, stV, stTg, isBo_eq, doCall, argsOf, lents, giveBack, outs, isOwn, isLst, chg, appOb, extOb, cmpD, Option.bind_assoc, isiD, wipeE, con, List.replicate, -List.map_take, -List.map_drop, -List.map_reverse, -List.map_tail, q]
      | false =>
        rw [hcl] at q
        simp [start, entOf, retE, evs, evOs, evA, evTs, evI, toD, toO, toB, evVar, peek, fetch, fetchs, Val.d, asB, asI, items, stV, stTg, isBo_eq, doCall, argsOf, lents, giveBack, outs, isOwn, isLst, chg, appOb, extOb, cmpD, Option.bind_assoc, isiD, wipeE, con, List.replicate, -List.map_take, -List.map_drop, -List.map_reverse, -List.map_tail, q]
  · rintro ρ' ⟨e2, e3, b2, b3, rfl⟩ hall
    rw [enumD_length, List.length_map, hg.len] at hall
    have : clash m rs gs = false := by
      unfold clash
      rw [List.any_eq_false]
      intro c hc
      have := hall c (List.mem_range.mp hc)
      unfold clashAt at this
      rw [this]
      simp
    simp [start, entOf, retE, evs, evOs, evA, evTs, evI, toD, toO, toB, evVar, peek, fetch, fetchs, Val.d, asB, asI, items, stV, stTg, isBo_eq, doCall, argsOf, lents, giveBack, outs, isOwn, isLst, chg, appOb, extOb, cmpD, Option.bind_assoc, isiD, wipeE, con, List.replicate, -List.map_take, -List.map_drop, -List.map_reverse, -List.map_tail, this]
  · rintro c v ρ' hc hq _ rfl
    rw [enumD_length, List.length_map, hg.len] at hc
    have : clash m rs gs = true := by
      unfold clash
      rw [List.any_eq_true]
      exact ⟨c, List.mem_range.mpr hc, hq⟩
    simp [start, entOf, retE, evs, evOs, evA, evTs, evI, toD, toO, toB, evVar, peek, fetch, fetchs, Val.d, asB, asI, items, stV, stTg, isBo_eq, doCall, argsOf, lents, giveBack, outs, isOwn, isLst, chg, appOb, extOb, cmpD, Option.bind_assoc, isiD, wipeE, con, List.replicate, -List.map_take, -List.map_drop, -List.map_reverse, -List.map_tail, this]
end MP
end

section
set_option Elab.async false
set_option linter.all false
set_option maxRecDepth 100000
set_option maxHeartbeats 8000000
namespace MP
open PySem
variable {n : Nat}
/-! ### the law's general filling -/
abbrev Given := List ((Nat × Nat) × Int)
def genSt (rs : List Row) (gs : List (List Nat)) (fresh : List Int) (st : Given) (c i : Nat) : Given := match valsOf rs gs c (gAt gs c i) with
  | _ :: _ => st
  | [] => match st.lookup (c, gAt gs c i) with
    | some _ => st
    | none => st ++ [((c, gAt gs c i), fresh.getD st.length 0)]
def genVal (rs : List Row) (gs : List (List Nat)) (fresh : List Int) (st : Given) (c i : Nat) : Int := match valsOf rs gs c (gAt gs c i) with
  | v :: _ => v
  | [] => match st.lookup (c, gAt gs c i) with
    | some v => v
    | none => fresh.getD st.length 0
def genRow (rs : List Row) (gs : List (List Nat)) (fresh : List Int) (i : Nat) : Nat → Given → List Int × Given
  | 0, st => ([], st)
  | c + 1, st => ((genRow rs gs fresh i c st).1 ++ [genVal rs gs fresh (genRow rs gs fresh i c st).2 c i], genSt rs gs fresh (genRow rs gs fresh i c st).2 c i)
def genUp (m : Nat) (rs : List Row) (gs : List (List Nat)) (fresh : List Int) : Nat → List (List Int) × Given
  | 0 => ([], [])
  | i + 1 => ((genUp m rs gs fresh i).1 ++ [(genRow rs gs fresh i m (genUp m rs gs fresh i).2).1], (genRow rs gs fresh i m (genUp m rs gs fresh i).2).2)
def hadOf (rs : List Row) : List Int := (rs.map fun r => r.filterMap id).flatten
def freshOf (rs : List Row) : List Int := ((List.range 100).map fun (k : Nat) => (k : Int)).filter fun v => !decide (v ∈ hadOf rs)
def genRows (m : Nat) (rs : List Row) (gs : List (List Nat)) : List Row := (genUp m rs gs (freshOf rs) rs.length).1.map intsRow
theorem genSt_len (rs : List Row) (gs : List (List Nat)) (fresh : List Int) (st : Given) (c i : Nat) : (genSt rs gs fresh st c i).length ≤ st.length + 1 := by
  unfold genSt
  split
  · omega
  · split
    · omega
    · rw [List.length_append, List.length_singleton]
      omega
theorem genRow_len (rs : List Row) (gs : List (List Nat)) (fresh : List Int) (i : Nat) (st : Given) : ∀ c, (genRow rs gs fresh i c st).1.length = c ∧ (genRow rs gs fresh i c st).2.length ≤ st.length + c
  | 0 => ⟨rfl, Nat.le_refl _⟩
  | c + 1 => by
    have ih := genRow_len rs gs fresh i st c
    have h := genSt_len rs gs fresh (genRow rs gs fresh i c st).2 c i
    constructor
    · rw [genRow, List.length_append, List.length_singleton, ih.1]
    · rw [genRow]
      simp only
      omega
theorem genUp_len (m : Nat) (rs : List Row) (gs : List (List Nat)) (fresh : List Int) : ∀ i, (genUp m rs gs fresh i).1.length = i ∧ (genUp m rs gs fresh i).2.length ≤ m * i
  | 0 => ⟨rfl, Nat.le_refl _⟩
  | i + 1 => by
    have ih := genUp_len m rs gs fresh i
    have h := (genRow_len rs gs fresh i (genUp m rs gs fresh i).2 m).2
    constructor
    · rw [genUp, List.length_append, List.length_singleton, ih.1]
    · rw [genUp, Nat.mul_add]
      simp only
      omega
def kvD (st : Given) : List (List Int × D) := st.map fun p => ([(p.1.1 : Int), (p.1.2 : Int)], .int p.2)
theorem kv_get (st : Given) (a b : Nat) : kvGet (kvD st) [(a : Int), (b : Int)] = (st.lookup (a, b)).map fun v => .int v := by
  unfold kvGet kvD
  induction st with
  | nil => rfl
  | cons p st ih =>
    obtain ⟨⟨x, y⟩, v⟩ := p
    rw [List.map_cons, List.find?_cons, List.lookup_cons]
    by_cases h : (a, b) = (x, y)
    · cases h
      simp
    · have h1 : ((a, b) == (x, y)) = false := by
        rw [beq_eq_false_iff_ne]
        exact h
      have h2 : ¬ ([(x : Int), (y : Int)] = [(a : Int), (b : Int)]) := by
        intro e
        apply h
        simp at e
        rw [Prod.mk.injEq]
        omega
      simp only [h1, h2, decide_false]
      exact ih
theorem kv_put (st : Given) (a b : Nat) (v : Int) (h : st.lookup (a, b) = none) : kvPut (kvD st) [(a : Int), (b : Int)] (.int v) = kvD (st ++ [((a, b), v)]) := by
  have h0 : (kvD st).any (fun kv => decide (kv.1 = [(a : Int), (b : Int)])) = false := by
    have := kv_get st a b
    rw [h] at this
    unfold kvGet at this
    simp only [Option.map_none, Option.map_eq_none_iff] at this
    rw [List.find?_eq_none] at this
    rw [List.any_eq_false]
    exact this
  unfold kvPut
  rw [h0]
  simp [kvD]
/-! enough fresh values -/
theorem nodup_len {α : Type} [DecidableEq α] : ∀ (l s : List α), l.Nodup → (∀ x ∈ l, x ∈ s) → l.length ≤ s.length
  | [], s, _, _ => by simp
  | a :: l, s, hn, h => by
    obtain ⟨h1, h2⟩ := List.nodup_cons.mp hn
    have ha := h a List.mem_cons_self
    have ih := nodup_len l (s.erase a) h2 fun x hx => (List.mem_erase_of_ne (fun e => h1 (by rw [← e]; exact hx))).mpr (h x (List.mem_cons_of_mem _ hx))
    rw [List.length_erase_of_mem ha] at ih
    have : 0 < s.length := List.length_pos_of_mem ha
    rw [List.length_cons]
    omega
theorem filter_len {α : Type} (p : α → Bool) : ∀ l : List α, (l.filter p).length + (l.filter fun x => !p x).length = l.length
  | [] => rfl
  | a :: l => by
    have ih := filter_len p l
    cases h : p a <;> simp [List.filter_cons, h] <;> omega
theorem had_len {m : Nat} {rs : List Row} (ht : OkT m rs) : (hadOf rs).length ≤ 40 := by
  have : ∀ l : List Row, (∀ r ∈ l, r.length ≤ 5) → ((l.map fun r => r.filterMap id).flatten).length ≤ 5 * l.length := fun l hl => by
    induction l with
    | nil => simp
    | cons r l ih =>
      have h1 := ih fun x hx => hl x (List.mem_cons_of_mem _ hx)
      have h2 := hl r List.mem_cons_self
      have h3 := List.length_filterMap_le id r
      rw [List.map_cons, List.flatten_cons, List.length_append, List.length_cons]
      omega
  have h := this rs ht.le5
  have := ht.few
  unfold hadOf
  omega
theorem fresh_len {m : Nat} {rs : List Row} (ht : OkT m rs) : 60 ≤ (freshOf rs).length := by
  have hl := had_len ht
  have h1 := filter_len (fun v => !decide (v ∈ hadOf rs)) ((List.range 100).map fun (k : Nat) => (k : Int))
  have hn : ((List.range 100).map fun (k : Nat) => (k : Int)).Nodup := List.Pairwise.map _ (fun a b h => by omega) (List.nodup_range (n := 100))
  have h2 := nodup_len (((List.range 100).map fun (k : Nat) => (k : Int)).filter fun v => !!decide (v ∈ hadOf rs)) (hadOf rs) (hn.filter _) fun x hx => by
    have := (List.mem_filter.mp hx).2
    simpa using this
  rw [List.length_map, List.length_range] at h1
  unfold freshOf
  omega
theorem fresh_ok {rs : List Row} {v : Int} (h : v ∈ freshOf rs) : 0 ≤ v ∧ v ≤ 9999 := by
  unfold freshOf at h
  obtain ⟨k, hk, rfl⟩ := List.mem_map.mp (List.mem_filter.mp h).1
  have := List.mem_range.mp hk
  omega
end MP
end

section
set_option Elab.async false
set_option linter.all false
set_option maxRecDepth 100000
set_option maxHeartbeats 8000000
namespace MP
open PySem
variable {n : Nat}
theorem some_cells (r : Row) : (r.filter fun c => c.isSome).map cD = (r.filterMap id).map .int := by
  induction r with
  | nil => rfl
  | cons c r ih =>
    cases c with
    | none => simpa using ih
    | some v => simp [cD, ih]
def hadUp (rs : List Row) (i : Nat) : List Int := ((rs.take i).map fun r => r.filterMap id).flatten
theorem hadUp_succ (rs : List Row) (i : Nat) (h : i < rs.length) : hadUp rs (i + 1) = hadUp rs i ++ rs[i].filterMap id := by
  unfold hadUp
  rw [← List.take_append_getElem h]
  simp only [List.map_append, List.flatten_append, List.map_cons, List.map_nil, List.flatten_cons, List.flatten_nil, List.append_nil]
theorem hadUp_len {rs : List Row} (h : ∀ r ∈ rs, r.length ≤ 5) : ∀ i, (hadUp rs i).length ≤ 5 * i
  | 0 => by simp [hadUp]
  | i + 1 => by
    have ih := hadUp_len h i
    by_cases hi : i < rs.length
    · rw [hadUp_succ rs i hi, List.length_append]
      have h1 := h _ (List.getElem_mem hi)
      have h3 := List.length_filterMap_le id rs[i]
      omega
    · have e : hadUp rs (i + 1) = hadUp rs i := by
        unfold hadUp
        rw [List.take_of_length_le (by omega), List.take_of_length_le (by omega)]
      rw [e]
      omega
theorem flt_ints (l : List Int) : Flt 1 (.list (l.map .int)) := flt_list fun x hx => by
  obtain ⟨_, _, rfl⟩ := List.mem_map.mp hx
  exact flt_int 0 _
theorem key_2 (a b : Int) : keyD (.tuple [.int a, .int b]) = some [a, b] := rfl
theorem notN_cD (c : Cell) : isNoneD (cD c) = !c.isSome := by cases c <;> rfl
theorem set_mid {α : Type} (p q : List α) (x v : α) : (p ++ x :: q).set p.length v = p ++ v :: q := by
  rw [List.set_append_right _ _ (Nat.le_refl _)]
  simp
theorem rng100 : rngD 0 100 = ((List.range 100).map fun (k : Nat) => (k : Int)).map .int := by
  unfold rngD
  rw [List.map_map]
  simp [Function.comp_def]
theorem cells_set (p : List Int) (r : Row) (c : Nat) (hp : p.length = c) (hc : c < r.length) (v : Int) : (p.map PyData.int ++ (r.drop c).map cD).set c (.int v) = p.map .int ++ .int v :: (r.drop (c + 1)).map cD := by
  rw [List.drop_eq_getElem_cons hc, List.map_cons]
  have h := set_mid (p.map PyData.int) ((r.drop (c + 1)).map cD) (cD r[c]) (.int v)
  rw [List.length_map, hp] at h
  exact h
theorem sp_general (m : Nat) (rs : List Row) (rules : List Rule) (ht : OkT m rs) (hr : OkRs m rules) (gs : List (List Nat)) (hF : FinG m rs rules gs) :
    evalCall Γ con (n + 3) f_l_general [.sh (.int (m : Int)), .sh (rowsD rs), .sh (rulesD rules)] = some (.sh (if clash m rs gs then .none else rowsD (genRows m rs gs)), []) := by
  refine eq_call g_l_general rfl ?_
  have hm := ht.hi
  have hfw := ht.few
  obtain ⟨gs', hF', e1⟩ := sp_joined (n := n + 1) m rs rules ht hr
  have hgg := hF'.eq hF hr
  subst hgg
  have hg := hF'.1
  have e2 := sp_clash (n := n) m rs rules gs' ht hg
  have hlm : ckI (m : Int) = some () := kI (by omega) (by omega)
  have hl100 : ckI 100 = some () := kI (by omega) (by omega)
  have hn100 : ckN 100 = some () := kN (by omega)
  obtain ⟨G, hG⟩ : ∃ G : D, G = .list (gs'.map grpD) := ⟨_, rfl⟩
  rw [← hG] at e2
  cases hcl : clash m rs gs' with
  | true =>
    rw [hcl] at e2
    simp [start, entOf, retE, evs, evOs, evA, evTs, evI, toD, toO, toB, evVar, peek, fetch, fetchs, Val.d, asB, asI, items, stV, stTg, isBo_eq, doCall, argsOf, lents, giveBack, outs, isOwn, isLst, chg, appOb, extOb, cmpD, Option.bind_assoc, isiD, wipeE, con, List.replicate, -List.map_take, -List.map_drop, -List.map_reverse, -List.map_tail, d_l_general, e1, ← hG, e2]
  | false =>
    rw [hcl] at e2
    simp [start, entOf, retE, evs, evOs, evA, evTs, evI, toD, toO, toB, evVar, peek, fetch, fetchs, Val.d, asB, asI, items, stV, stTg, isBo_eq, doCall, argsOf, lents, giveBack, outs, isOwn, isLst, chg, appOb, extOb, cmpD, Option.bind_assoc, isiD, wipeE, con, List.replicate, -List.map_take, -List.map_drop, -List.map_reverse, -List.map_tail, d_l_general, e1, ← hG, e2]
    simp only [rowsD]
    simp [start, entOf, retE, evs, evOs, evA, evTs, evI, toD, toO, toB, evVar, peek, fetch, fetchs, Val.d, asB, asI, items, stV, stTg, isBo_eq, doCall, argsOf, lents, giveBack, outs, isOwn, isLst, chg, appOb, extOb, cmpD, Option.bind_assoc, isiD, wipeE, con, List.replicate, -List.map_take, -List.map_drop, -List.map_reverse, -List.map_tail]
    refine gets_for (fun i ρ => ∃ e5, isBoE e5 = false ∧ ρ = [.sh (.int (m : Int)), .sh (.tuple (rs.map rowD)), .sh (rulesD rules), .sh G, .ow (.lst ((hadUp rs i).map .int)), e5, .un, .un, .un, .un, .un, .un, .un, .un, .un, .un]) ⟨.un, rfl, rfl⟩ ?_ ?_
    · rintro i hi ρ ⟨e5, b5, rfl⟩
      rw [List.length_map] at hi
      have hrow := ht.row _ (List.getElem_mem hi)
      have hl := hadUp_len ht.le5 i
      have hrl : rs[i].length ≤ 5 := ht.le5 _ (List.getElem_mem hi)
      simp only [List.getElem_map]
      simp [start, entOf, retE, evs, evOs, evA, evTs, evI, toD, toO, toB, evVar, peek, fetch, fetchs, Val.d, asB, asI, items, stV, stTg, isBo_eq, doCall, argsOf, lents, giveBack, outs, isOwn, isLst, chg, appOb, extOb, cmpD, Option.bind_assoc, isiD, wipeE, con, List.replicate, -List.map_take, -List.map_drop, -List.map_reverse, -List.map_tail, exB, b5, rowD, kN (k := rs[i].length) (by omega)]
      refine gets_lcf cD (fun c => c.isSome) cD (fun c hc => ?_) ?_
      · cases c <;> simp [start, entOf, retE, evs, evOs, evA, evTs, evI, toD, toO, toB, evVar, peek, fetch, fetchs, Val.d, asB, asI, items, stV, stTg, isBo_eq, doCall, argsOf, lents, giveBack, outs, isOwn, isLst, chg, appOb, extOb, cmpD, Option.bind_assoc, isiD, wipeE, con, List.replicate, -List.map_take, -List.map_drop, -List.map_reverse, -List.map_tail, evT, evD, cD]
      · rw [some_cells]
        have h3 := List.length_filterMap_le id rs[i]
        have hap : (hadUp rs i).length + (rs[i].filterMap id).length ≤ lim := ylim (by omega)
        simp [start, entOf, retE, evs, evOs, evA, evTs, evI, toD, toO, toB, evVar, peek, fetch, fetchs, Val.d, asB, asI, items, stV, stTg, isBo_eq, doCall, argsOf, lents, giveBack, outs, isOwn, isLst, chg, appOb, extOb, cmpD, Option.bind_assoc, isiD, wipeE, con, List.replicate, -List.map_take, -List.map_drop, -List.map_reverse, -List.map_tail, hap]
        simp [hadUp_succ rs i hi]
    · rintro ρ' ⟨e5, b5, rfl⟩
      have eh : hadUp rs (rs.map rowD).length = hadOf rs := by
        unfold hadUp hadOf
        rw [List.length_map, List.take_length]
      rw [eh]
      simp [start, entOf, retE, evs, evOs, evA, evTs, evI, toD, toO, toB, evVar, peek, fetch, fetchs, Val.d, asB, asI, items, stV, stTg, isBo_eq, doCall, argsOf, lents, giveBack, outs, isOwn, isLst, chg, appOb, extOb, cmpD, Option.bind_assoc, isiD, wipeE, con, List.replicate, -List.map_take, -List.map_drop, -List.map_reverse, -List.map_tail, hl100]
      rw [rng100, List.length_map, List.length_map, List.length_range, hn100, Option.bind_some]
      refine gets_lcf (fun (v : Int) => (.int v : D)) (fun v => !decide (v ∈ hadOf rs)) (fun (v : Int) => (.int v : D)) (fun v hv => ?_) ?_
      · by_cases hin : v ∈ hadOf rs
        · simp [start, entOf, retE, evs, evOs, evA, evTs, evI, toD, toO, toB, evVar, peek, fetch, fetchs, Val.d, asB, asI, items, stV, stTg, isBo_eq, doCall, argsOf, lents, giveBack, outs, isOwn, isLst, chg, appOb, extOb, cmpD, Option.bind_assoc, isiD, wipeE, con, List.replicate, -List.map_take, -List.map_drop, -List.map_reverse, -List.map_tail, evT, evD, in_ints, hin]
        · simp [start, entOf, retE, evs, evOs, evA, evTs, evI, toD, toO, toB, evVar, peek, fetch, fetchs, Val.d, asB, asI, items, stV, stTg, isBo_eq, doCall, argsOf, lents, giveBack, outs, isOwn, isLst, chg, appOb, extOb, cmpD, Option.bind_assoc, isiD, wipeE, con, List.replicate, -List.map_take, -List.map_drop, -List.map_reverse, -List.map_tail, evT, evD, in_ints, hin]
      have efr : (((List.range 100).map fun (k : Nat) => (k : Int)).filter fun v => !decide (v ∈ hadOf rs)) = freshOf rs := rfl
      rw [efr]
      have hfl := fresh_len ht
      obtain ⟨F, hFr⟩ : ∃ F, F = freshOf rs := ⟨_, rfl⟩
      rw [← hFr] at hfl ⊢
      obtain ⟨H, hH⟩ : ∃ H : D, H = .list ((hadOf rs).map .int) := ⟨_, rfl⟩
      simp [start, entOf, retE, evs, evOs, evA, evTs, evI, toD, toO, toB, evVar, peek, fetch, fetchs, Val.d, asB, asI, items, stV, stTg, isBo_eq, doCall, argsOf, lents, giveBack, outs, isOwn, isLst, chg, appOb, extOb, cmpD, Option.bind_assoc, isiD, wipeE, con, List.replicate, -List.map_take, -List.map_drop, -List.map_reverse, -List.map_tail]
      refine gets_for (fun i ρ => ∃ e5 e9 e10 e11 e12 e14, isBoE e5 = false ∧ isBoE e9 = false ∧ isBoE e10 = false ∧ isBoE e11 = false ∧ isBoE e12 = false ∧ isBoE e14 = false ∧ ρ = [.sh (.int (m : Int)), .sh (.tuple (rs.map rowD)), .sh (rulesD rules), .sh G, .ow (.lst ((hadOf rs).map .int)), e5, .sh (.list (F.map .int)), .ow (.dic (kvD (genUp m rs gs' F i).2)), .ow (.lst (((genUp m rs gs' F i).1.map intsRow).map rowD)), e9, e10, e11, e12, .un, e14, .un]) ⟨e5, .un, .un, .un, .un, .un, b5, rfl, rfl, rfl, rfl, rfl, rfl⟩ ?_ ?_
      · rintro i hi ρ ⟨e5, e9, e10, e11, e12, e14, b5, b9, b10, b11, b12, b14, rfl⟩
        rw [enumD_length, List.length_map] at hi
        have hul := genUp_len m rs gs' F i
        have hfd : (genUp m rs gs' F i).1.length < lim := ylim' (by omega)
        have hgi : (genUp m rs gs' F (i + 1)) = ((genUp m rs gs' F i).1 ++ [(genRow rs gs' F i m (genUp m rs gs' F i).2).1], (genRow rs gs' F i m (genUp m rs gs' F i).2).2) := rfl
        rw [hgi]
        obtain ⟨⟨fd, st⟩, hst⟩ : ∃ p, p = genUp m rs gs' F i := ⟨_, rfl⟩
        rw [← hst] at hul hfd ⊢
        simp only at hul hfd ⊢
        have hrow := ht.row _ (List.getElem_mem hi)
        have hstl : st.length ≤ 35 := by
          have := Nat.mul_le_mul hm (show i ≤ 7 by omega)
          omega
        have elst : bltD .list [rowD rs[i]] = some (.ow (.lst (rs[i].map cD))) := rfl
        simp [start, entOf, retE, evs, evOs, evA, evTs, evI, toD, toO, toB, evVar, peek, fetch, fetchs, Val.d, asB, asI, items, stV, stTg, isBo_eq, doCall, argsOf, lents, giveBack, outs, isOwn, isLst, chg, appOb, extOb, cmpD, Option.bind_assoc, isiD, wipeE, con, List.replicate, -List.map_take, -List.map_drop, -List.map_reverse, -List.map_tail, enumD_at, exB, b5, b9, b10, elst, hlm]
        obtain ⟨R, hR⟩ : ∃ R, R = rs[i] := ⟨_, rfl⟩
        have hRl : R.length = m := by rw [hR]; exact hrow.1
        obtain ⟨FD, hFD⟩ : ∃ FD, FD = List.map (rowD ∘ intsRow) fd := ⟨_, rfl⟩
        have hFDl : FD.length < lim := by rw [hFD, List.length_map]; exact hfd
        rw [← hFD, ← hR]
        refine gets_for (fun c ρ => ∃ e11 e12 e14, isBoE e11 = false ∧ isBoE e12 = false ∧ isBoE e14 = false ∧ ρ = [.sh (.int (m : Int)), .sh (.tuple (rs.map rowD)), .sh (rulesD rules), .sh G, .ow (.lst ((hadOf rs).map .int)), .sh (rowD R), .sh (.list (F.map .int)), .ow (.dic (kvD (genRow rs gs' F i c st).2)), .ow (.lst FD), .sh (.int (i : Int)), .ow (.lst ((genRow rs gs' F i c st).1.map .int ++ (R.drop c).map cD)), e11, e12, .un, e14, .un]) ⟨e11, e12, e14, b11, b12, b14, rfl⟩ ?_ ?_
        · rintro c hc ρ ⟨e11, e12, e14, b11, b12, b14, rfl⟩
          rw [rng_len] at hc
          have hc' : c < m := by omega
          have hgl := hg.glen hc'
          have g1 : ixD G (.int (c : Int)) = some (grpD (gs'.getD c [])) := by rw [hG]; exact grp_at (by rw [hg.len]; exact hc')
          have g2 : ixD (grpD (gs'.getD c [])) (.int (i : Int)) = some (nD (gAt gs' c i)) := lab_at (by omega)
          obtain ⟨f, hf⟩ : ∃ f, f = gAt gs' c i := ⟨_, rfl⟩
          obtain ⟨GG, hGG⟩ : ∃ GG, GG = gs'.getD c [] := ⟨_, rfl⟩
          rw [← hf, ← hGG] at g2
          rw [← hGG] at g1
          have hv := sp_values (n := n + 1) m rs rules gs' ht hg c f hc'
          rw [← hG] at hv
          simp only [rowsD] at hv
          have q := eqL_nil (flt_ints (valsOf rs gs' c f)) (by omega)
          rw [List.isEmpty_map] at q
          have hrl := genRow_len rs gs' F i st c
          have hgr : genRow rs gs' F i (c + 1) st = ((genRow rs gs' F i c st).1 ++ [genVal rs gs' F (genRow rs gs' F i c st).2 c i], genSt rs gs' F (genRow rs gs' F i c st).2 c i) := rfl
          rw [hgr]
          obtain ⟨⟨pr, su⟩, hps⟩ : ∃ p, p = genRow rs gs' F i c st := ⟨_, rfl⟩
          rw [← hps] at hrl ⊢
          simp only at hrl ⊢
          have hset := fun v => cells_set pr R c hrl.1 (by omega) v
          have hsl := fun v : D => st_at (c := c) (xs := pr.map PyData.int ++ (R.drop c).map cD) v (by rw [List.length_append, List.length_map, List.length_map, List.length_drop]; omega)
          have hsu : su.length < lim := ylim' (by omega)
          have hkl : (kvD su).length = su.length := by unfold kvD; rw [List.length_map]
          have hfx : ixD (.list (F.map .int)) (.int (su.length : Int)) = some (.int (F.getD su.length 0)) := by
            have hlt : su.length < F.length := by omega
            rw [vals_at F su.length hlt, List.getD_eq_getElem?_getD, List.getElem?_eq_getElem hlt]
            rfl
          simp only [rng_at]
          cases hvs : valsOf rs gs' c f with
          | cons v vs =>
            have e1 : genVal rs gs' F su c i = v := by unfold genVal; rw [← hf, hvs]
            have e2 : genSt rs gs' F su c i = su := by unfold genSt; rw [← hf, hvs]
            rw [hvs] at hv q
            simp only [List.map_cons, List.isEmpty_cons] at hv q
            simp [start, entOf, retE, evs, evOs, evA, evTs, evI, toD, toO, toB, evVar, peek, fetch, fetchs, Val.d, asB, asI, items, stV, stTg, isBo_eq, doCall, argsOf, lents, giveBack, outs, isOwn, isLst, chg, appOb, extOb, cmpD, Option.bind_assoc, isiD, wipeE, con, List.replicate, -List.map_take, -List.map_drop, -List.map_reverse, -List.map_tail, exB, b11, b12, g1, g2, nD, hv, q, e1, e2, hsl, hset]
            exact ⟨_, rfl, _, rfl, _, b14, rfl, rfl, rfl⟩
          | nil =>
            rw [hvs] at hv q
            simp only [List.map_nil, List.isEmpty_nil] at hv q
            cases hlk : su.lookup (c, f) with
            | some w =>
              have e1 : genVal rs gs' F su c i = w := by unfold genVal; rw [← hf, hvs]; simp only [hlk]
              have e2 : genSt rs gs' F su c i = su := by unfold genSt; rw [← hf, hvs]; simp only [hlk]
              have hk := kv_get su c f
              rw [hlk] at hk
              simp [start, entOf, retE, evs, evOs, evA, evTs, evI, toD, toO, toB, evVar, peek, fetch, fetchs, Val.d, asB, asI, items, stV, stTg, isBo_eq, doCall, argsOf, lents, giveBack, outs, isOwn, isLst, chg, appOb, extOb, cmpD, Option.bind_assoc, isiD, wipeE, con, List.replicate, -List.map_take, -List.map_drop, -List.map_reverse, -List.map_tail, exB, b11, b12, b14, g1, g2, nD, hv, q, e1, e2, hsl, hset, key_2, dicAt, hk]
              exact ⟨_, rfl, _, rfl, _, rfl, rfl, rfl, rfl⟩
            | none =>
              have e1 : genVal rs gs' F su c i = F.getD su.length 0 := by unfold genVal; rw [← hf, hvs]; simp only [hlk]
              have e2 : genSt rs gs' F su c i = su ++ [((c, f), F.getD su.length 0)] := by unfold genSt; rw [← hf, hvs]; simp only [hlk]
              have hk := kv_get su c f
              rw [hlk] at hk
              obtain ⟨w, hw⟩ : ∃ w, w = F.getD su.length 0 := ⟨_, rfl⟩
              rw [← hw] at e1 e2 hfx
              have hp := kv_put su c f w hlk
              have hk2 : kvGet (kvD (su ++ [((c, f), w)])) [(c : Int), (f : Int)] = some (.int w) := by
                rw [kv_get, List.lookup_append, hlk]
                simp
              obtain ⟨su2, hsu2⟩ : ∃ su2, su2 = kvD (su ++ [((c, f), w)]) := ⟨_, rfl⟩
              rw [e2]
              rw [← hsu2] at hp hk2 ⊢
              have hso : stOb (.tuple [.int (c : Int), .int (f : Int)]) (.int w) (.dic (kvD su)) = some ((), .dic su2) := by
                unfold stOb
                simp only [key_2, Option.bind_some]
                rw [if_pos (by rw [hkl]; exact hsu), hp]
              simp [start, entOf, retE, evs, evOs, evA, evTs, evI, toD, toO, toB, evVar, peek, fetch, fetchs, Val.d, asB, asI, items, stV, stTg, isBo_eq, doCall, argsOf, lents, giveBack, outs, isOwn, isLst, chg, appOb, extOb, cmpD, Option.bind_assoc, isiD, wipeE, con, List.replicate, -List.map_take, -List.map_drop, -List.map_reverse, -List.map_tail, exB, b11, b12, b14, g1, g2, nD, hv, q, e1, hsl, hset, key_2, dicAt, hk, hkl, hfx, hso, hk2]
              exact ⟨_, rfl, _, rfl, _, rfl, rfl, rfl, rfl⟩
        · rintro ρ' ⟨e11, e12, e14, b11, b12, b14, rfl⟩
          rw [rng_len]
          have e : ((m : Int) - 0).toNat = m := by omega
          rw [e, List.drop_of_length_le (by omega)]
          simp [start, entOf, retE, evs, evOs, evA, evTs, evI, toD, toO, toB, evVar, peek, fetch, fetchs, Val.d, asB, asI, items, stV, stTg, isBo_eq, doCall, argsOf, lents, giveBack, outs, isOwn, isLst, chg, appOb, extOb, cmpD, Option.bind_assoc, isiD, wipeE, con, List.replicate, -List.map_take, -List.map_drop, -List.map_reverse, -List.map_tail, hFDl]
          refine ⟨_, rfl, _, rfl, _, rfl, _, b11, _, b12, _, b14, rfl, ?_, rfl, rfl, rfl, rfl, rfl⟩
          simp [rowD, intsRow, cD]
      · rintro ρ' ⟨e5, e9, e10, e11, e12, e14, b5, b9, b10, b11, b12, b14, rfl⟩
        rw [enumD_length, List.length_map]
        simp [start, entOf, retE, evs, evOs, evA, evTs, evI, toD, toO, toB, evVar, peek, fetch, fetchs, Val.d, asB, asI, items, stV, stTg, isBo_eq, doCall, argsOf, lents, giveBack, outs, isOwn, isLst, chg, appOb, extOb, cmpD, Option.bind_assoc, isiD, wipeE, con, List.replicate, -List.map_take, -List.map_drop, -List.map_reverse, -List.map_tail, genRows, ← hFr]
end MP
end

section
set_option Elab.async false
set_option linter.all false
set_option maxRecDepth 100000
set_option maxHeartbeats 8000000
namespace MP
open PySem
variable {n : Nat}
def OkV (v : Int) : Prop := 0 ≤ v ∧ v ≤ 9999
theorem lookup_mem {st : Given} {k : Nat × Nat} {v : Int} (h : st.lookup k = some v) : (k, v) ∈ st := by
  induction st with
  | nil => cases h
  | cons p st ih =>
    obtain ⟨a, b⟩ := p
    rw [List.lookup_cons] at h
    by_cases hk : (k == a) = true
    · rw [hk] at h
      cases h
      rw [beq_iff_eq] at hk
      rw [hk]
      exact List.mem_cons_self
    · rw [Bool.not_eq_true] at hk
      rw [hk] at h
      exact List.mem_cons_of_mem _ (ih h)
theorem getD_P {P : Int → Prop} {F : List Int} (h : ∀ v ∈ F, P v) (h0 : P 0) (k : Nat) : P (F.getD k 0) := by
  rw [List.getD_eq_getElem?_getD]
  cases hq : F[k]? with
  | none => exact h0
  | some v => exact h v (List.mem_of_getElem? hq)
theorem genVal_ok {P : Int → Prop} {rs : List Row} {gs : List (List Nat)} (hV : ∀ c f, ∀ v ∈ valsOf rs gs c f, P v) (h0 : P 0) {F : List Int} (hF : ∀ v ∈ F, P v) {st : Given} (hs : ∀ p ∈ st, P p.2) (c i : Nat) : P (genVal rs gs F st c i) := by
  unfold genVal
  split
  · rename_i v vs hv
    exact hV c _ v (by rw [hv]; exact List.mem_cons_self)
  · split
    · rename_i v hv
      exact hs _ (lookup_mem hv)
    · exact getD_P hF h0 _
theorem genSt_ok {P : Int → Prop} {rs : List Row} (gs : List (List Nat)) (h0 : P 0) {F : List Int} (hF : ∀ v ∈ F, P v) {st : Given} (hs : ∀ p ∈ st, P p.2) (c i : Nat) : ∀ p ∈ genSt rs gs F st c i, P p.2 := by
  unfold genSt
  split
  · exact hs
  · split
    · exact hs
    · intro p hp
      rcases List.mem_append.mp hp with h | h
      · exact hs p h
      · rw [List.mem_singleton.mp h]
        exact getD_P hF h0 _
theorem genRow_ok {P : Int → Prop} {rs : List Row} {gs : List (List Nat)} (hV : ∀ c f, ∀ v ∈ valsOf rs gs c f, P v) (h0 : P 0) {F : List Int} (hF : ∀ v ∈ F, P v) (i : Nat) {st : Given} (hs : ∀ p ∈ st, P p.2) : ∀ c, (∀ v ∈ (genRow rs gs F i c st).1, P v) ∧ ∀ p ∈ (genRow rs gs F i c st).2, P p.2
  | 0 => ⟨fun v hv => (by cases hv), hs⟩
  | c + 1 => by
    have ih := genRow_ok hV h0 hF i hs c
    rw [genRow]
    refine ⟨fun v hv => ?_, genSt_ok gs h0 hF ih.2 c i⟩
    rcases List.mem_append.mp hv with h | h
    · exact ih.1 v h
    · rw [List.mem_singleton.mp h]
      exact genVal_ok hV h0 hF ih.2 c i
theorem genUp_ok {P : Int → Prop} {m : Nat} {rs : List Row} {gs : List (List Nat)} (hV : ∀ c f, ∀ v ∈ valsOf rs gs c f, P v) (h0 : P 0) {F : List Int} (hF : ∀ v ∈ F, P v) : ∀ i, (∀ r ∈ (genUp m rs gs F i).1, r.length = m ∧ ∀ v ∈ r, P v) ∧ ∀ p ∈ (genUp m rs gs F i).2, P p.2
  | 0 => ⟨fun v hv => (by cases hv), fun p hp => (by cases hp)⟩
  | i + 1 => by
    have ih := genUp_ok (m := m) hV h0 hF i
    have hr := genRow_ok hV h0 hF i ih.2 m
    rw [genUp]
    refine ⟨fun r h => ?_, hr.2⟩
    rcases List.mem_append.mp h with h | h
    · exact ih.1 r h
    · rw [List.mem_singleton.mp h]
      exact ⟨(genRow_len rs gs F i _ m).1, hr.1⟩
theorem okR_ints {m : Nat} {vs : List Int} (hl : vs.length = m) (h : ∀ v ∈ vs, OkV v) : OkR m (intsRow vs) ∧ none ∉ intsRow vs := by
  refine ⟨⟨by simp [intsRow, hl], fun c hc v hv => ?_⟩, by simp [intsRow]⟩
  obtain ⟨w, hw, rfl⟩ := List.mem_map.mp hc
  cases hv
  exact h _ hw
theorem gen_ok {m : Nat} {rs : List Row} (ht : OkT m rs) (gs : List (List Nat)) : OkT m (genRows m rs gs) ∧ Full (genRows m rs gs) := by
  have h := (genUp_ok (P := OkV) (m := m) (fun c f => valsUp_ok ht gs c f rs.length (Nat.le_refl _)) ⟨by omega, by omega⟩ (F := freshOf rs) (fun v hv => fresh_ok hv) rs.length).1
  have hl := (genUp_len m rs gs (freshOf rs) rs.length).1
  have key : ∀ r ∈ genRows m rs gs, OkR m r ∧ none ∉ r := fun r hr => by
    obtain ⟨vs, hv, rfl⟩ := List.mem_map.mp hr
    exact okR_ints (h vs hv).1 (h vs hv).2
  exact ⟨⟨ht.lo, ht.hi, by unfold genRows; rw [List.length_map, hl]; exact ht.few, fun r hr => (key r hr).1⟩, fun r hr => (key r hr).2⟩
theorem gen_len {m : Nat} {rs : List Row} (gs : List (List Nat)) : (genRows m rs gs).length = rs.length := by
  unfold genRows
  rw [List.length_map]
  exact (genUp_len m rs gs (freshOf rs) rs.length).1
/-- values that are drawn or new: never 5000 -/
def LoV (v : Int) : Prop := OkV v ∧ (v ≤ 100 ∨ v = 9999)
def LoC (x : Cell) : Prop := ∀ v, x = some v → LoV v
def LoR (rs : List Row) : Prop := ∀ r ∈ rs, ∀ x ∈ r, LoC x
theorem LoR.at {rs : List Row} (h : LoR rs) {i c : Nat} {v : Int} (e : cellAt rs i c = some v) : LoV v := by
  unfold cellAt cell at e
  by_cases hi : i < rs.length
  · rw [getD_at hi, List.getD_eq_getElem?_getD] at e
    cases hq : rs[i][c]? with
    | none => rw [hq] at e; cases e
    | some x =>
      rw [hq] at e
      exact h _ (List.getElem_mem hi) x (List.mem_of_getElem? hq) v e
  · have e' : rs.getD i [] = [] := by rw [List.getD_eq_getElem?_getD, List.getElem?_eq_none (by omega)]; rfl
    rw [e'] at e
    simp at e
theorem valsUp_cell {rs : List Row} {gs : List (List Nat)} {c f : Nat} {v : Int} : ∀ i, v ∈ valsUp rs gs c f i → ∃ k, cellAt rs k c = some v
  | 0, h => by cases h
  | i + 1, h => by
    rw [valsUp] at h
    split at h
    · exact valsUp_cell i h
    · rename_i w hw
      split at h
      · rcases List.mem_append.mp h with h | h
        · exact valsUp_cell i h
        · rw [List.mem_singleton.mp h]
          exact ⟨i, hw⟩
      · exact valsUp_cell i h
theorem gen_lo {m : Nat} {rs : List Row} (h : LoR rs) (gs : List (List Nat)) : LoR (genRows m rs gs) := by
  have hh := (genUp_ok (P := LoV) (m := m) (gs := gs) (rs := rs) (fun c f v hv => by
    obtain ⟨k, e⟩ := valsUp_cell _ hv
    exact h.at e) ⟨⟨by omega, by omega⟩, by omega⟩ (F := freshOf rs) (fun v hv => by
    unfold freshOf at hv
    obtain ⟨k, hk, rfl⟩ := List.mem_map.mp (List.mem_filter.mp hv).1
    have := List.mem_range.mp hk
    exact ⟨⟨by omega, by omega⟩, by omega⟩) rs.length).1
  intro r hr x hx v hv
  obtain ⟨vs, hvs, rfl⟩ := List.mem_map.mp hr
  obtain ⟨w, hw, rfl⟩ := List.mem_map.mp hx
  cases hv
  exact (hh vs hvs).2 v hw
/-! ### drawn rows with blanks -/
def cellsD (r : Row) : D := .tuple (r.map cD)
theorem three (z : Nat) (h : z < 4) : ∃ vs : List Int, vs.length = 3 ∧ (∀ v ∈ vs, LoV v) ∧ ixD (.list [.list [.int 0, .int 1, .int 2], .list [.int 0, .int 1, .int 2], .list [.int 2, .int 10, .int 100], .list [.int 9999, .int 30, .int 4]]) (.int (z : Int)) = some (.list (vs.map .int)) := by
  match z, h with
  | 0, _ => exact ⟨[0, 1, 2], rfl, by simp [LoV, OkV], rfl⟩
  | 1, _ => exact ⟨[0, 1, 2], rfl, by simp [LoV, OkV], rfl⟩
  | 2, _ => exact ⟨[2, 10, 100], rfl, by simp [LoV, OkV], rfl⟩
  | 3, _ => exact ⟨[9999, 30, 4], rfl, by simp [LoV, OkV], rfl⟩
theorem sp_rowsN (B m N : Nat) (o : Ob) (hp : Pen B o) (hB : B + 200 < 1000000000000) (h0 : 0 < m) (hm : m ≤ 5) (hN : N ≤ 8) :
    ∃ (rs : List Row) (o' : Ob), (OkT m rs ∧ rs.length ≤ N ∧ LoR rs) ∧ Pen (B + 84) o' ∧ evalCall Γ con (n + 2) f_l_rows [.mu o, .sh (.int (m : Int)), .sh (.int (N : Int))] = some (.sh (rowsD rs), [o']) := by
  refine drew (gets_call g_l_rows rfl ?_)
  obtain ⟨k, o1, hk, hp1, e1⟩ := sp_draw (n := n) B 3 o hp (by omega) (by omega) (by omega)
  have e1' : evalCall Γ con (n + 1) f_l_draw [.mu o, .sh (.int 3)] = some (.sh (.int (k : Int)), [o1]) := e1
  obtain ⟨s, o2, hs, hp2, e2⟩ := sp_draw (n := n) (B + 1) 4 o1 hp1 (by omega) (by omega) (by omega)
  have e2' : evalCall Γ con (n + 1) f_l_draw [.mu o1, .sh (.int 4)] = some (.sh (.int (s : Int)), [o2]) := e2
  obtain ⟨z, o3, hz, hp3, e3⟩ := sp_draw (n := n) (B + 1 + 1) 4 o2 hp2 (by omega) (by omega) (by omega)
  have e3' : evalCall Γ con (n + 1) f_l_draw [.mu o2, .sh (.int 4)] = some (.sh (.int (z : Int)), [o3]) := e3
  obtain ⟨vs, hvl, hvo, ez⟩ := three z hz
  obtain ⟨t, o4, ht, hp4, e4⟩ := sp_draw (n := n) (B + 1 + 1 + 1) (N + 1) o3 hp3 (by omega) (by omega) (by omega)
  have e4' : evalCall Γ con (n + 1) f_l_draw [.mu o3, .sh (.int ((N : Int) + 1))] = some (.sh (.int (t : Int)), [o4]) := e4
  have hkk : (1 : Int) + (k : Int) = ((k + 1 : Nat) : Int) := by omega
  simp [start, entOf, retE, evs, evOs, evA, evTs, evI, toD, toO, toB, evVar, peek, fetch, fetchs, Val.d, asB, asI, items, stV, stTg, isBo_eq, doCall, argsOf, lents, giveBack, outs, isOwn, isLst, chg, appOb, extOb, cmpD, Option.bind_assoc, isiD, wipeE, con, List.replicate, -List.map_take, -List.map_drop, -List.map_reverse, -List.map_tail, d_l_rows, e1', e2', e3', ez, e4', kI (i := (t : Int)) (by omega) (by omega)]
  obtain ⟨K, hK⟩ : ∃ K, K = k + 1 := ⟨_, rfl⟩
  have hKc : (1 : Int) + (k : Int) = (K : Int) := by omega
  rw [hKc]
  have hp4' : Pen (B + 4 + 10 * 0) o4 := hp4.mono (by omega)
  refine gets_for (fun i ρ => ∃ o5 rs e3 e8 e9, ρ = [.bo o5, .sh (.int (m : Int)), .sh (.int (N : Int)), e3, .sh (.int (K : Int)), .sh (.int (s : Int)), .sh (.list (vs.map .int)), .ow (.lst (rs.map rowD)), e8, e9] ∧ isBoE e3 = false ∧ isBoE e8 = false ∧ isBoE e9 = false ∧ Pen (B + 4 + 10 * i) o5 ∧ rs.length = i ∧ ∀ r ∈ rs, r.length = m ∧ ∀ x ∈ r, LoC x) ⟨o4, [], .un, .un, .un, rfl, rfl, rfl, rfl, hp4', rfl, fun r hr => by cases hr⟩ ?_ ?_
  · rintro i hi ρ ⟨o5, rs, e3, e8, e9, rfl, b3, b8, b9, hp5, hl, hr⟩
    rw [rng_len] at hi
    have hlm : rs.length < lim := ylim' (by omega)
    simp only [rng_at]
    simp [start, entOf, retE, evs, evOs, evA, evTs, evI, toD, toO, toB, evVar, peek, fetch, fetchs, Val.d, asB, asI, items, stV, stTg, isBo_eq, doCall, argsOf, lents, giveBack, outs, isOwn, isLst, chg, appOb, extOb, cmpD, Option.bind_assoc, isiD, wipeE, con, List.replicate, -List.map_take, -List.map_drop, -List.map_reverse, -List.map_tail, exB, b3, b8, kI (i := (m : Int)) (by omega) (by omega)]
    refine gets_for (fun c ρ => ∃ o6 r e9, ρ = [.bo o6, .sh (.int (m : Int)), .sh (.int (N : Int)), .sh (.int (i : Int)), .sh (.int (K : Int)), .sh (.int (s : Int)), .sh (.list (vs.map .int)), .ow (.lst (rs.map rowD)), .ow (.lst (List.map cD r)), e9] ∧ isBoE e9 = false ∧ Pen (B + 4 + 10 * i + 2 * c) o6 ∧ r.length = c ∧ ∀ x ∈ r, LoC x) ⟨o5, [], e9, rfl, b9, hp5, rfl, fun r hr => by cases hr⟩ ?_ ?_
    · rintro c hc ρ ⟨o6, r, e9, rfl, b9, hp6, hrl, hro⟩
      rw [rng_len] at hc
      have hlr : r.length < lim := ylim' (by omega)
      obtain ⟨d, o7, hd, hp7, e7⟩ := sp_draw (n := n) (B + 4 + 10 * i + 2 * c) 4 o6 hp6 (by omega) (by omega) (by omega)
      have e7' : evalCall Γ con (n + 1) f_l_draw [.mu o6, .sh (.int 4)] = some (.sh (.int (d : Int)), [o7]) := e7
      obtain ⟨d2, o8, hd2, hp8, e8'⟩ := sp_draw (n := n) (B + 4 + 10 * i + 2 * c + 1) K o7 hp7 (by omega) (by omega) (by omega)
      simp only [rng_at]
      by_cases hds : d < s
      · simp [start, entOf, retE, evs, evOs, evA, evTs, evI, toD, toO, toB, evVar, peek, fetch, fetchs, Val.d, asB, asI, items, stV, stTg, isBo_eq, doCall, argsOf, lents, giveBack, outs, isOwn, isLst, chg, appOb, extOb, cmpD, Option.bind_assoc, isiD, wipeE, con, List.replicate, -List.map_take, -List.map_drop, -List.map_reverse, -List.map_tail, exB, b9, e7', hds, hlr]
        exact ⟨o7, r ++ [none], _, ⟨rfl, by simp [cD], rfl⟩, rfl, hp7.mono (by omega), by simp [hrl], fun x hx => by
          rcases List.mem_append.mp hx with h | h
          · exact hro x h
          · rw [List.mem_singleton.mp h]
            intro v hv
            cases hv⟩
      · have hd3 : d2 < vs.length := by omega
        simp [start, entOf, retE, evs, evOs, evA, evTs, evI, toD, toO, toB, evVar, peek, fetch, fetchs, Val.d, asB, asI, items, stV, stTg, isBo_eq, doCall, argsOf, lents, giveBack, outs, isOwn, isLst, chg, appOb, extOb, cmpD, Option.bind_assoc, isiD, wipeE, con, List.replicate, -List.map_take, -List.map_drop, -List.map_reverse, -List.map_tail, exB, b9, e7', hds, hlr, e8', vals_at vs d2 hd3]
        exact ⟨o8, r ++ [some vs[d2]], _, ⟨rfl, by simp [cD], rfl⟩, rfl, hp8.mono (by omega), by simp [hrl], fun x hx => by
          rcases List.mem_append.mp hx with h | h
          · exact hro x h
          · rw [List.mem_singleton.mp h]
            intro v hv
            cases hv
            exact hvo _ (List.getElem_mem hd3)⟩
    · rintro ρ' ⟨o6, r, e9, rfl, b9, hp6, hrl, hro⟩
      rw [rng_len] at hp6 hrl
      simp [start, entOf, retE, evs, evOs, evA, evTs, evI, toD, toO, toB, evVar, peek, fetch, fetchs, Val.d, asB, asI, items, stV, stTg, isBo_eq, doCall, argsOf, lents, giveBack, outs, isOwn, isLst, chg, appOb, extOb, cmpD, Option.bind_assoc, isiD, wipeE, con, List.replicate, -List.map_take, -List.map_drop, -List.map_reverse, -List.map_tail, hlm]
      refine ⟨o6, rs ++ [r], _, _, _, ⟨rfl, rfl, ?_, rfl, rfl⟩, rfl, rfl, b9, hp6.mono (by omega), by simp [hl], fun x hx => ?_⟩
      · simp [rowD]
      · rcases List.mem_append.mp hx with h | h
        · exact hr x h
        · rw [List.mem_singleton.mp h]
          exact ⟨by omega, hro⟩
  · rintro ρ' ⟨o5, rs, e3, e8, e9, rfl, b3, b8, b9, hp5, hl, hr⟩
    rw [rng_len] at hp5 hl
    simp [start, entOf, retE, evs, evOs, evA, evTs, evI, toD, toO, toB, evVar, peek, fetch, fetchs, Val.d, asB, asI, items, stV, stTg, isBo_eq, doCall, argsOf, lents, giveBack, outs, isOwn, isLst, chg, appOb, extOb, cmpD, Option.bind_assoc, isiD, wipeE, con, List.replicate, -List.map_take, -List.map_drop, -List.map_reverse, -List.map_tail]
    exact ⟨rs, o5, ⟨⟨h0, hm, by omega, fun r h => ⟨(hr r h).1, fun x hx v hv => ((hr r h).2 x hx v hv).1⟩⟩, by omega, fun r h => (hr r h).2⟩, hp5.mono (by omega), rfl⟩
theorem sp_rows (B m N : Nat) (o : Ob) (hp : Pen B o) (hB : B + 200 < 1000000000000) (h0 : 0 < m) (hm : m ≤ 5) (hN : N ≤ 8) :
    ∃ (rs : List Row) (o' : Ob), OkT m rs ∧ Pen (B + 84) o' ∧ evalCall Γ con (n + 2) f_l_rows [.mu o, .sh (.int (m : Int)), .sh (.int (N : Int))] = some (.sh (rowsD rs), [o']) := by
  obtain ⟨rs, o', h, hp', e⟩ := sp_rowsN (n := n) B m N o hp hB h0 hm hN
  exact ⟨rs, o', h.1, hp', e⟩
end MP
end

section
set_option Elab.async false
set_option linter.all false
set_option maxRecDepth 100000
set_option maxHeartbeats 8000000
namespace MP
open PySem
variable {n : Nat}
theorem sp_kindN (B m N : Nat) (o : Ob) (rules : List Rule) (hr : OkRs m rules) (hp : Pen B o) (hB : B + 300 < 1000000000000) (h0 : 0 < m) (hm : m ≤ 5) (hN : N ≤ 8) :
    ∃ (rs : List Row) (o' : Ob), (OkT m rs ∧ rs.length ≤ N ∧ LoR rs) ∧ Pen (B + 130) o' ∧ evalCall Γ con (n + 4) f_l_kind_rows [.mu o, .sh (.int (m : Int)), .sh (.int (N : Int)), .sh (rulesD rules)] = some (.sh (rowsD rs), [o']) := by
  refine drew (gets_call g_l_kind_rows rfl ?_)
  obtain ⟨rs, o1, ⟨ht, hlN, hlo⟩, hp1, e1⟩ := sp_rowsN (n := n + 1) B m N o hp (by omega) h0 hm hN
  obtain ⟨gs, hF, _⟩ := sp_joined (n := n) m rs rules ht hr
  have e2 := sp_general (n := n) m rs rules ht hr gs hF
  obtain ⟨d, o2, hd, hp2, e3⟩ := sp_draw (n := n + 2) (B + 84) 3 o1 hp1 (by omega) (by omega) (by omega)
  have e3' : evalCall Γ con (n + 3) f_l_draw [.mu o1, .sh (.int 3)] = some (.sh (.int (d : Int)), [o2]) := e3
  cases hcl : clash m rs gs with
  | true =>
    rw [hcl] at e2
    simp only [if_true] at e2
    simp [start, entOf, retE, evs, evOs, evA, evTs, evI, toD, toO, toB, evVar, peek, fetch, fetchs, Val.d, asB, asI, items, stV, stTg, isBo_eq, doCall, argsOf, lents, giveBack, outs, isOwn, isLst, chg, appOb, extOb, cmpD, Option.bind_assoc, isiD, wipeE, con, List.replicate, -List.map_take, -List.map_drop, -List.map_reverse, -List.map_tail, d_l_kind_rows, e1, e2]
    exact ⟨rs, o1, ⟨ht, hlN, hlo⟩, hp1.mono (by omega), rfl⟩
  | false =>
    rw [hcl] at e2
    simp only [Bool.false_eq_true, if_false] at e2
    have hg := gen_ok ht gs
    have hgl := gen_len (m := m) (rs := rs) gs
    have hglo := gen_lo (m := m) hlo gs
    obtain ⟨W, hW⟩ : ∃ W, W = genRows m rs gs := ⟨_, rfl⟩
    rw [← hW] at e2 hg hgl hglo
    have hnn : isNoneD (rowsD W) = false := rfl
    by_cases hd0 : d = 0
    · subst hd0
      have e3'' : evalCall Γ con (n + 3) f_l_draw [.mu o1, .sh (.int 3)] = some (.sh (.int 0), [o2]) := e3'
      simp [start, entOf, retE, evs, evOs, evA, evTs, evI, toD, toO, toB, evVar, peek, fetch, fetchs, Val.d, asB, asI, items, stV, stTg, isBo_eq, doCall, argsOf, lents, giveBack, outs, isOwn, isLst, chg, appOb, extOb, cmpD, Option.bind_assoc, isiD, wipeE, con, List.replicate, -List.map_take, -List.map_drop, -List.map_reverse, -List.map_tail, d_l_kind_rows, e1, e2, hnn, e3'']
      exact ⟨rs, o2, ⟨ht, hlN, hlo⟩, hp2.mono (by omega), rfl⟩
    · have hd1 : ¬ (d : Int) = 0 := by omega
      obtain ⟨z, o3, hz, hp3, e4⟩ := sp_draw (n := n + 2) (B + 84 + 1) 3 o2 hp2 (by omega) (by omega) (by omega)
      have e4' : evalCall Γ con (n + 3) f_l_draw [.mu o2, .sh (.int 3)] = some (.sh (.int (z : Int)), [o3]) := e4
      simp [start, entOf, retE, evs, evOs, evA, evTs, evI, toD, toO, toB, evVar, peek, fetch, fetchs, Val.d, asB, asI, items, stV, stTg, isBo_eq, doCall, argsOf, lents, giveBack, outs, isOwn, isLst, chg, appOb, extOb, cmpD, Option.bind_assoc, isiD, wipeE, con, List.replicate, -List.map_take, -List.map_drop, -List.map_reverse, -List.map_tail, d_l_kind_rows, e1, e2, hnn, e3', hd1, hd0, e4']
      obtain ⟨Y, hY⟩ : ∃ Y : Int, Y = 1 + (z : Int) := ⟨_, rfl⟩
      rw [← hY]
      simp only [rowsD]
      simp [start, entOf, retE, evs, evOs, evA, evTs, evI, toD, toO, toB, evVar, peek, fetch, fetchs, Val.d, asB, asI, items, stV, stTg, isBo_eq, doCall, argsOf, lents, giveBack, outs, isOwn, isLst, chg, appOb, extOb, cmpD, Option.bind_assoc, isiD, wipeE, con, List.replicate, -List.map_take, -List.map_drop, -List.map_reverse, -List.map_tail]
      have hwf := hg.1.few
      refine gets_for (fun i ρ => ∃ o4 us e8, ρ = [.bo o4, .sh (.int (m : Int)), .sh (.int (N : Int)), .sh (rulesD rules), .sh (.tuple (rs.map rowD)), .sh (.tuple (W.map rowD)), .sh (.int Y), .ow (.lst (List.map rowD us)), e8, .un] ∧ isBoE e8 = false ∧ Pen (B + 86 + 5 * i) o4 ∧ us.length = i ∧ ∀ r ∈ us, r.length = m ∧ ∀ x ∈ r, LoC x) ⟨o3, [], .un, rfl, rfl, hp3, rfl, fun r hr => by cases hr⟩ ?_ ?_
      · rintro i hi ρ ⟨o4, us, e8, rfl, b8, hp4, hl, hu⟩
        rw [List.length_map] at hi
        have hrow := hg.1.row _ (List.getElem_mem hi)
        have hlm : us.length < lim := ylim' (by omega)
        have hrl := hrow.1
        simp only [List.getElem_map]
        obtain ⟨R, hR⟩ : ∃ R, R = W[i] := ⟨_, rfl⟩
        have hRlo := hglo _ (List.getElem_mem hi)
        rw [← hR] at hrow hrl hRlo ⊢
        simp [start, entOf, retE, evs, evOs, evA, evTs, evI, toD, toO, toB, evVar, peek, fetch, fetchs, Val.d, asB, asI, items, stV, stTg, isBo_eq, doCall, argsOf, lents, giveBack, outs, isOwn, isLst, chg, appOb, extOb, cmpD, Option.bind_assoc, isiD, wipeE, con, List.replicate, -List.map_take, -List.map_drop, -List.map_reverse, -List.map_tail, exB, b8, rowD, kN (k := R.length) (by omega)]
        refine gets_lcd cD (fun o => [.bo o, .sh (.int (m : Int)), .sh (.int (N : Int)), .sh (rulesD rules), .sh (.tuple (rs.map rowD)), .sh (.tuple (W.map rowD)), .sh (.int Y), .ow (.lst (List.map rowD us)), .sh (.tuple (R.map cD)), .un]) LoC (B + 86 + 5 * i) 1 hp4 ?_ ?_
        · intro x hx k hk o5 hp5
          rw [List.length_map] at hk
          obtain ⟨c, hc, rfl⟩ := List.mem_map.mp hx
          obtain ⟨q, o6, hq, hp6, e6⟩ := sp_draw (n := n + 2) (B + 86 + 5 * i + 1 * k) 5 o5 hp5 (by omega) (by omega) (by omega)
          have e6' : evalCall Γ con (n + 3) f_l_draw [.mu o5, .sh (.int 5)] = some (.sh (.int (q : Int)), [o6]) := e6
          by_cases hqs : (q : Int) < Y
          · refine ⟨none, o6, (fun v hv => by cases hv), hp6, ?_⟩
            simp [start, entOf, retE, evs, evOs, evA, evTs, evI, toD, toO, toB, evVar, peek, fetch, fetchs, Val.d, asB, asI, items, stV, stTg, isBo_eq, doCall, argsOf, lents, giveBack, outs, isOwn, isLst, chg, appOb, extOb, cmpD, Option.bind_assoc, isiD, wipeE, con, List.replicate, -List.map_take, -List.map_drop, -List.map_reverse, -List.map_tail, evT, evD, e6', hqs, cD]
          · refine ⟨c, o6, hRlo c hc, hp6, ?_⟩
            simp [start, entOf, retE, evs, evOs, evA, evTs, evI, toD, toO, toB, evVar, peek, fetch, fetchs, Val.d, asB, asI, items, stV, stTg, isBo_eq, doCall, argsOf, lents, giveBack, outs, isOwn, isLst, chg, appOb, extOb, cmpD, Option.bind_assoc, isiD, wipeE, con, List.replicate, -List.map_take, -List.map_drop, -List.map_reverse, -List.map_tail, evT, evD, e6', hqs]
        · intro as o5 has hal hp5
          rw [List.length_map] at hal hp5
          simp [start, entOf, retE, evs, evOs, evA, evTs, evI, toD, toO, toB, evVar, peek, fetch, fetchs, Val.d, asB, asI, items, stV, stTg, isBo_eq, doCall, argsOf, lents, giveBack, outs, isOwn, isLst, chg, appOb, extOb, cmpD, Option.bind_assoc, isiD, wipeE, con, List.replicate, -List.map_take, -List.map_drop, -List.map_reverse, -List.map_tail, hlm]
          refine ⟨o5, us ++ [as], _, ⟨rfl, ?_, rfl⟩, rfl, hp5.mono (by omega), by simp [hl], fun r hr' => ?_⟩
          · simp [rowD]
          · rcases List.mem_append.mp hr' with h | h
            · exact hu r h
            · rw [List.mem_singleton.mp h]
              exact ⟨by omega, has⟩
      · rintro ρ' ⟨o4, us, e8, rfl, b8, hp4, hl, hu⟩
        rw [List.length_map] at hp4 hl
        simp [start, entOf, retE, evs, evOs, evA, evTs, evI, toD, toO, toB, evVar, peek, fetch, fetchs, Val.d, asB, asI, items, stV, stTg, isBo_eq, doCall, argsOf, lents, giveBack, outs, isOwn, isLst, chg, appOb, extOb, cmpD, Option.bind_assoc, isiD, wipeE, con, List.replicate, -List.map_take, -List.map_drop, -List.map_reverse, -List.map_tail]
        exact ⟨us, o4, ⟨⟨h0, hm, by omega, fun r h => ⟨(hu r h).1, fun x hx v hv => ((hu r h).2 x hx v hv).1⟩⟩, by omega, fun r h => (hu r h).2⟩, hp4.mono (by omega), rfl⟩
theorem sp_kind (B m N : Nat) (o : Ob) (rules : List Rule) (hr : OkRs m rules) (hp : Pen B o) (hB : B + 300 < 1000000000000) (h0 : 0 < m) (hm : m ≤ 5) (hN : N ≤ 8) :
    ∃ (rs : List Row) (o' : Ob), OkT m rs ∧ Pen (B + 130) o' ∧ evalCall Γ con (n + 4) f_l_kind_rows [.mu o, .sh (.int (m : Int)), .sh (.int (N : Int)), .sh (rulesD rules)] = some (.sh (rowsD rs), [o']) := by
  obtain ⟨rs, o', h, hp', e⟩ := sp_kindN (n := n) B m N o rules hr hp hB h0 hm hN
  exact ⟨rs, o', h.1, hp', e⟩
end MP
end

section
set_option Elab.async false
set_option linter.all false
set_option maxRecDepth 100000
set_option maxHeartbeats 8000000
namespace MP
open PySem
/-- an entry that is not lent -/
structure NBE where
  e : Ent
  h : isBoE e = false
@[simp] theorem NBE.bo (x : NBE) : isBoE x.e = false := x.h
def nUn : NBE := ⟨.un, rfl⟩
def nSh (d : D) : NBE := ⟨.sh d, rfl⟩
def nOw (o : Ob) : NBE := ⟨.ow o, rfl⟩
@[simp] theorem nUn_e : nUn.e = .un := rfl
@[simp] theorem nSh_e (d : D) : (nSh d).e = .sh d := rfl
@[simp] theorem nOw_e (o : Ob) : (nOw o).e = .ow o := rfl
@[simp] theorem ex_sh (d : D) : ∃ x : NBE, Ent.sh d = x.e := ⟨nSh d, rfl⟩
@[simp] theorem ex_ow (o : Ob) : ∃ x : NBE, Ent.ow o = x.e := ⟨nOw o, rfl⟩
@[simp] theorem ex_un : ∃ x : NBE, Ent.un = x.e := ⟨nUn, rfl⟩
@[simp] theorem ex_x (y : NBE) : ∃ x : NBE, y.e = x.e := ⟨y, rfl⟩
@[simp] theorem ex_bk (e : Ent) : ∃ x : NBE, bkE e = x.e := ⟨⟨bkE e, bkE_bo e⟩, rfl⟩
end MP
end

section
set_option Elab.async false
set_option linter.all false
set_option maxRecDepth 100000
set_option maxHeartbeats 8000000
namespace MP
open PySem
variable {n : Nat}
def gsD (gs : List (List Nat)) : D := .list (gs.map grpD)
/-! ### the program's joining -/
theorem ecol (rs : List Row) (c : Nat) : (rs.map fun r => cD (cell r c)) = (colOf rs c).map cD := by simp [colOf]
theorem sp_values_at {m : Nat} {rs : List Row} (ht : OkT m rs) {c : Nat} (hc : c < m) : evalCall Γ con (n + 1) f_values_at [.sh (rowsD rs), .sh (.int (c : Int))] = some (.ow (.lst ((colOf rs c).map cD)), []) := by
  refine eq_call g_values_at rfl ?_
  have hf := ht.few
  simp [start, entOf, retE, evs, evOs, evA, evTs, evI, toD, toO, toB, evVar, peek, fetch, fetchs, Val.d, asB, asI, items, stV, stTg, isBo_eq, doCall, argsOf, lents, giveBack, outs, isOwn, isLst, chg, appOb, extOb, cmpD, Option.bind_assoc, isiD, wipeE, con, List.replicate, -List.map_take, -List.map_drop, -List.map_reverse, -List.map_tail, d_values_at, rowsD, kN (k := rs.length) (by omega)]
  refine gets_lcm rowD (fun r => cD (cell r c)) (fun r hr => ?_) ?_
  · have hix : ixD (rowD r) (.int (c : Int)) = some (cD (cell r c)) := ix_row (by rw [(ht.row r hr).1]; exact hc)
    simp [start, entOf, retE, evs, evOs, evA, evTs, evI, toD, toO, toB, evVar, peek, fetch, fetchs, Val.d, asB, asI, items, stV, stTg, isBo_eq, doCall, argsOf, lents, giveBack, outs, isOwn, isLst, chg, appOb, extOb, cmpD, Option.bind_assoc, isiD, wipeE, con, List.replicate, -List.map_take, -List.map_drop, -List.map_reverse, -List.map_tail, evT, evD, hix]
  · rw [ecol]
    simp [start, entOf, retE, evs, evOs, evA, evTs, evI, toD, toO, toB, evVar, peek, fetch, fetchs, Val.d, asB, asI, items, stV, stTg, isBo_eq, doCall, argsOf, lents, giveBack, outs, isOwn, isLst, chg, appOb, extOb, cmpD, Option.bind_assoc, isiD, wipeE, con, List.replicate, -List.map_take, -List.map_drop, -List.map_reverse, -List.map_tail]
theorem sp_first_groups {m : Nat} {rs : List Row} (ht : OkT m rs) : evalCall Γ con (n + 2) f_first_groups [.sh (.int (m : Int)), .sh (rowsD rs)] = some (.ow (.lst ((iniGs m rs).map grpD)), []) := by
  refine eq_call g_first_groups rfl ?_
  have hm := ht.hi
  have hfw := ht.few
  have hl : ckI (m : Int) = some () := kI (by omega) (by omega)
  simp [start, entOf, retE, evs, evOs, evA, evTs, evI, toD, toO, toB, evVar, peek, fetch, fetchs, Val.d, asB, asI, items, stV, stTg, isBo_eq, doCall, argsOf, lents, giveBack, outs, isOwn, isLst, chg, appOb, extOb, cmpD, Option.bind_assoc, isiD, wipeE, con, List.replicate, -List.map_take, -List.map_drop, -List.map_reverse, -List.map_tail, d_first_groups, hl]
  refine gets_for (fun c ρ => ∃ e3 e4 : NBE, ρ = [.sh (.int (m : Int)), .sh (rowsD rs), .ow (.lst ((iniGs c rs).map grpD)), e3.e, e4.e, .un, .un]) ⟨nUn, nUn, rfl⟩ ?_ ?_
  · rintro c hc ρ ⟨e3, e4, rfl⟩
    rw [rng_len] at hc
    have hc' : c < m := by omega
    have e1 := sp_values_at (n := n) ht hc'
    have hcl := col_cells rs c
    have hap : c < lim := ylim' (by omega)
    simp only [rng_at, Int.zero_add]
    simp [start, entOf, retE, evs, evOs, evA, evTs, evI, toD, toO, toB, evVar, peek, fetch, fetchs, Val.d, asB, asI, items, stV, stTg, isBo_eq, doCall, argsOf, lents, giveBack, outs, isOwn, isLst, chg, appOb, extOb, cmpD, Option.bind_assoc, isiD, wipeE, con, List.replicate, -List.map_take, -List.map_drop, -List.map_reverse, -List.map_tail, exB, e1, enumD_length, kN (k := (colOf rs c).length) (by omega), enum_c]
    refine gets_lcm _ (fun p => nD (firstOf (colOf rs c) p)) (fun p hp => ?_) ?_
    · obtain ⟨x, at_⟩ := p
      cases x with
      | none => simp [start, entOf, retE, evs, evOs, evA, evTs, evI, toD, toO, toB, evVar, peek, fetch, fetchs, Val.d, asB, asI, items, stV, stTg, isBo_eq, doCall, argsOf, lents, giveBack, outs, isOwn, isLst, chg, appOb, extOb, cmpD, Option.bind_assoc, isiD, wipeE, con, List.replicate, -List.map_take, -List.map_drop, -List.map_reverse, -List.map_tail, evT, evD, cD, firstOf, nD]
      | some v =>
        have hi := idx_c (colOf rs c) v (zip_mem hp)
        simp only [cD] at hi
        simp [start, entOf, retE, evs, evOs, evA, evTs, evI, toD, toO, toB, evVar, peek, fetch, fetchs, Val.d, asB, asI, items, stV, stTg, isBo_eq, doCall, argsOf, lents, giveBack, outs, isOwn, isLst, chg, appOb, extOb, cmpD, Option.bind_assoc, isiD, wipeE, con, List.replicate, -List.map_take, -List.map_drop, -List.map_reverse, -List.map_tail, evT, evD, cD, firstOf, nD, isLD, hi]
    · have hil : (iniGs c rs).length < lim := by simp only [iniGs, List.length_map, List.length_range]; exact hap
      simp [start, entOf, retE, evs, evOs, evA, evTs, evI, toD, toO, toB, evVar, peek, fetch, fetchs, Val.d, asB, asI, items, stV, stTg, isBo_eq, doCall, argsOf, lents, giveBack, outs, isOwn, isLst, chg, appOb, extOb, cmpD, Option.bind_assoc, isiD, wipeE, con, List.replicate, -List.map_take, -List.map_drop, -List.map_reverse, -List.map_tail, hil]
      simp [iniGs, List.range_succ, grpD, iniG, Function.comp_def]
  · rintro ρ' ⟨e3, e4, rfl⟩
    rw [rng_len]
    have e : ((m : Int) - 0).toNat = m := by omega
    rw [e]
    simp [start, entOf, retE, evs, evOs, evA, evTs, evI, toD, toO, toB, evVar, peek, fetch, fetchs, Val.d, asB, asI, items, stV, stTg, isBo_eq, doCall, argsOf, lents, giveBack, outs, isOwn, isLst, chg, appOb, extOb, cmpD, Option.bind_assoc, isiD, wipeE, con, List.replicate, -List.map_take, -List.map_drop, -List.map_reverse, -List.map_tail]
theorem sort2 (a b : Nat) : bltD .sorted [.list [nD a, nD b]] = some (.ow (.lst [nD (min a b), nD (max a b)])) := by
  simp only [bltD, sortD, nD, intsD, Option.map_some, sortI, insI]
  by_cases h : (a : Int) ≤ (b : Int)
  · rw [if_pos h, Nat.min_eq_left (by omega), Nat.max_eq_right (by omega)]
    rfl
  · rw [if_neg h, Nat.min_eq_right (by omega), Nat.max_eq_left (by omega)]
    rfl
theorem lab_L {g : List Nat} {i : Nat} (h : i < g.length) : ixD (grpD g) (.int (i : Int)) = some (nD (g.getD i 0)) := by
  unfold grpD
  rw [ixL, List.getElem?_map, List.getElem?_eq_getElem h, List.getD_eq_getElem?_getD, List.getElem?_eq_getElem h]
  rfl
theorem sp_merged (g : List Nat) (i j : Nat) (hi : i < g.length) (hj : j < g.length) (hg : g.length ≤ 8) : evalCall Γ con (n + 1) f_merged [.sh (grpD g), .sh (.int (i : Int)), .sh (.int (j : Int))] = some (.ow (.lst ((mergeL g (min (g.getD i 0) (g.getD j 0)) (max (g.getD i 0) (g.getD j 0))).map nD)), []) := by
  refine eq_call g_merged rfl ?_
  have e1 := lab_L hi
  have e2 := lab_L hj
  have e3 := sort2 (g.getD i 0) (g.getD j 0)
  obtain ⟨lo, hlo⟩ : ∃ lo, lo = min (g.getD i 0) (g.getD j 0) := ⟨_, rfl⟩
  obtain ⟨up, hup⟩ : ∃ up, up = max (g.getD i 0) (g.getD j 0) := ⟨_, rfl⟩
  obtain ⟨a, ha⟩ : ∃ a, a = g.getD i 0 := ⟨_, rfl⟩
  obtain ⟨b, hb⟩ : ∃ b, b = g.getD j 0 := ⟨_, rfl⟩
  rw [← hlo, ← hup] at e3 ⊢
  rw [← ha] at e1 e3
  rw [← hb] at e2 e3
  simp [start, entOf, retE, evs, evOs, evA, evTs, evI, toD, toO, toB, evVar, peek, fetch, fetchs, Val.d, asB, asI, items, stV, stTg, isBo_eq, doCall, argsOf, lents, giveBack, outs, isOwn, isLst, chg, appOb, extOb, cmpD, Option.bind_assoc, isiD, wipeE, con, List.replicate, -List.map_take, -List.map_drop, -List.map_reverse, -List.map_tail, d_merged, e1, e2, e3]
  simp only [grpD, nD]
  simp [start, entOf, retE, evs, evOs, evA, evTs, evI, toD, toO, toB, evVar, peek, fetch, fetchs, Val.d, asB, asI, items, stV, stTg, isBo_eq, doCall, argsOf, lents, giveBack, outs, isOwn, isLst, chg, appOb, extOb, cmpD, Option.bind_assoc, isiD, wipeE, con, List.replicate, -List.map_take, -List.map_drop, -List.map_reverse, -List.map_tail, kN (k := g.length) (by omega)]
  refine gets_lcm nD (fun x => nD (if x = up then lo else x)) (fun x hx => ?_) ?_
  · by_cases hc : x = up
    · simp [start, entOf, retE, evs, evOs, evA, evTs, evI, toD, toO, toB, evVar, peek, fetch, fetchs, Val.d, asB, asI, items, stV, stTg, isBo_eq, doCall, argsOf, lents, giveBack, outs, isOwn, isLst, chg, appOb, extOb, cmpD, Option.bind_assoc, isiD, wipeE, con, List.replicate, -List.map_take, -List.map_drop, -List.map_reverse, -List.map_tail, evT, evD, nD, hc]
    · have hc' : ¬ (x : Int) = (up : Int) := by omega
      simp [start, entOf, retE, evs, evOs, evA, evTs, evI, toD, toO, toB, evVar, peek, fetch, fetchs, Val.d, asB, asI, items, stV, stTg, isBo_eq, doCall, argsOf, lents, giveBack, outs, isOwn, isLst, chg, appOb, extOb, cmpD, Option.bind_assoc, isiD, wipeE, con, List.replicate, -List.map_take, -List.map_drop, -List.map_reverse, -List.map_tail, evT, evD, nD, hc, hc']
  · simp [start, entOf, retE, evs, evOs, evA, evTs, evI, toD, toO, toB, evVar, peek, fetch, fetchs, Val.d, asB, asI, items, stV, stTg, isBo_eq, doCall, argsOf, lents, giveBack, outs, isOwn, isLst, chg, appOb, extOb, cmpD, Option.bind_assoc, isiD, wipeE, con, List.replicate, -List.map_take, -List.map_drop, -List.map_reverse, -List.map_tail, mergeL, Function.comp_def]
/-- the shape of groups -/
structure Shp (m N : Nat) (gs : List (List Nat)) : Prop where
  len : gs.length = m
  row : ∀ g ∈ gs, g.length = N
  lab : ∀ g ∈ gs, ∀ x ∈ g, x < N
theorem Shp.glen {m N : Nat} {gs : List (List Nat)} (h : Shp m N gs) {c : Nat} (hc : c < m) : (gs.getD c []).length = N := by
  have hc' : c < gs.length := by rw [h.len]; exact hc
  rw [List.getD_eq_getElem?_getD, List.getElem?_eq_getElem hc']
  exact h.row _ (List.getElem_mem hc')
theorem Shp.lt {m N : Nat} {gs : List (List Nat)} (h : Shp m N gs) {c i : Nat} (hc : c < m) (hi : i < N) : gAt gs c i < N := by
  have hc' : c < gs.length := by rw [h.len]; exact hc
  have hl := h.row _ (List.getElem_mem hc')
  unfold gAt
  rw [List.getD_eq_getElem?_getD (l := gs), List.getElem?_eq_getElem hc', Option.getD_some, List.getD_eq_getElem?_getD, List.getElem?_eq_getElem (by omega)]
  exact h.lab _ (List.getElem_mem hc') _ (List.getElem_mem _)
theorem Shp.step {m N : Nat} {gs : List (List Nat)} (h : Shp m N gs) {c i j : Nat} (hc : c < m) (hi : i < N) (hj : j < N) : Shp m N (stepG gs c i j) := by
  have hc' : c < gs.length := by rw [h.len]; exact hc
  have e : gs.getD c [] = gs[c] := by rw [List.getD_eq_getElem?_getD, List.getElem?_eq_getElem hc']; rfl
  have l1 := h.lt hc hi
  have l2 := h.lt hc hj
  unfold stepG
  rw [e]
  refine ⟨by rw [List.length_set]; exact h.len, fun g hg => ?_, fun g hg => ?_⟩
  · rcases List.mem_or_eq_of_mem_set hg with hg | hg
    · exact h.row g hg
    · rw [hg]
      unfold mergeL
      rw [List.length_map]
      exact h.row _ (List.getElem_mem hc')
  · rcases List.mem_or_eq_of_mem_set hg with hg | hg
    · exact h.lab g hg
    · rw [hg]
      intro x hx
      unfold mergeL at hx
      obtain ⟨y, hy, rfl⟩ := List.mem_map.mp hx
      have := h.lab _ (List.getElem_mem hc') y hy
      split <;> omega
theorem GInv.shp {m : Nat} {rs : List Row} {rules : List Rule} {gs : List (List Nat)} (h : GInv m rs rules gs) : Shp m rs.length gs := ⟨h.len, h.row, fun g hg x hx => h.mem hg hx⟩
theorem sp_is_possible {m N : Nat} {gs : List (List Nat)} (hs : Shp m N gs) {ru : Rule} (hru : OkRule m ru) (hm : m ≤ 5) {i j : Nat} (hi : i < N) (hj : j < N) : evalCall Γ con (n + 1) f_is_possible [.sh (gsD gs), .sh (ruleD ru), .sh (.int (i : Int)), .sh (.int (j : Int))] = some (.sh (.bool (able gs ru i j)), []) := by
  refine eq_call g_is_possible rfl ?_
  have hgl := hru.len
  simp only [gsD, ruleD]
  simp [start, entOf, retE, evs, evOs, evA, evTs, evI, toD, toO, toB, evVar, peek, fetch, fetchs, Val.d, asB, asI, items, stV, stTg, isBo_eq, doCall, argsOf, lents, giveBack, outs, isOwn, isLst, chg, appOb, extOb, cmpD, Option.bind_assoc, isiD, wipeE, con, List.replicate, -List.map_take, -List.map_drop, -List.map_reverse, -List.map_tail, d_is_possible]
  simp only [natsD]
  simp [start, entOf, retE, evs, evOs, evA, evTs, evI, toD, toO, toB, evVar, peek, fetch, fetchs, Val.d, asB, asI, items, stV, stTg, isBo_eq, doCall, argsOf, lents, giveBack, outs, isOwn, isLst, chg, appOb, extOb, cmpD, Option.bind_assoc, isiD, wipeE, con, List.replicate, -List.map_take, -List.map_drop, -List.map_reverse, -List.map_tail, kN (k := ru.1.length) (by omega)]
  refine gets_lcm nD (fun c => .bool (decide (gAt gs c i = gAt gs c j))) (fun c hc => ?_) ?_
  · have hcm := hru.inn c hc
    have hl := hs.glen hcm
    have x1 : ixD (.list (gs.map grpD)) (.int (c : Int)) = some (grpD (gs.getD c [])) := grp_at (by rw [hs.len]; exact hcm)
    have x2 : ixD (grpD (gs.getD c [])) (.int (i : Int)) = some (nD (gAt gs c i)) := lab_at (by omega)
    have x3 : ixD (grpD (gs.getD c [])) (.int (j : Int)) = some (nD (gAt gs c j)) := lab_at (by omega)
    obtain ⟨G, hG⟩ : ∃ G, G = gs.getD c [] := ⟨_, rfl⟩
    rw [← hG] at x1 x2 x3
    simp [start, entOf, retE, evs, evOs, evA, evTs, evI, toD, toO, toB, evVar, peek, fetch, fetchs, Val.d, asB, asI, items, stV, stTg, isBo_eq, doCall, argsOf, lents, giveBack, outs, isOwn, isLst, chg, appOb, extOb, cmpD, Option.bind_assoc, isiD, wipeE, con, List.replicate, -List.map_take, -List.map_drop, -List.map_reverse, -List.map_tail, evT, evD, nD, x1, x2, x3, Int.natCast_inj]
  · simp [start, entOf, retE, evs, evOs, evA, evTs, evI, toD, toO, toB, evVar, peek, fetch, fetchs, Val.d, asB, asI, items, stV, stTg, isBo_eq, doCall, argsOf, lents, giveBack, outs, isOwn, isLst, chg, appOb, extOb, cmpD, Option.bind_assoc, isiD, wipeE, con, List.replicate, -List.map_take, -List.map_drop, -List.map_reverse, -List.map_tail, all_blt, able]
end MP
end

section
set_option Elab.async false
set_option linter.all false
set_option maxRecDepth 100000
set_option maxHeartbeats 8000000
namespace MP
open PySem
variable {n : Nat}
/-! ### the next step, the step -/
def stepD (s : Nat × Nat × Nat) : D := .tuple [nD s.1, nD s.2.1, nD s.2.2]
structure OkStep (rules : List Rule) (N : Nat) (gs : List (List Nat)) (s : Nat × Nat × Nat) : Prop where
  num : s.1 < rules.length
  lt : s.2.1 < s.2.2
  hi : s.2.2 < N
  able : able gs (rules.getD s.1 ([], 0)) s.2.1 s.2.2 = true
  ne : gAt gs (rules.getD s.1 ([], 0)).2 s.2.1 ≠ gAt gs (rules.getD s.1 ([], 0)).2 s.2.2
def NextZ (rules : List Rule) (N : Nat) (gs : List (List Nat)) (r : Val × List Ob) : Prop :=
  (r = (.sh .none, []) ∧ ∀ k < rules.length, ∀ j < N, ∀ i < j, stepped gs (rules.getD k ([], 0)) i j = false) ∨ ∃ s, OkStep rules N gs s ∧ r = (.sh (stepD s), [])
theorem ru_at {rules : List Rule} {k : Nat} (h : k < rules.length) : rules.getD k ([], 0) = rules[k] := by
  rw [List.getD_eq_getElem?_getD, List.getElem?_eq_getElem h]
  rfl
theorem sp_next_step {m N : Nat} {gs : List (List Nat)} (hs : Shp m N gs) {rules : List Rule} (hr : OkRs m rules) (hm : m ≤ 5) (hN : N ≤ 8) : Gets (evalCall Γ con (n + 2) f_next_step [.sh (gsD gs), .sh (rulesD rules), .sh (.int (N : Int))]) (NextZ rules N gs) := by
  refine gets_call g_next_step rfl ?_
  have hl : ckI (N : Int) = some () := kI (by omega) (by omega)
  obtain ⟨Z, hZ⟩ : ∃ Z, Z = NextZ rules N gs := ⟨_, rfl⟩
  rw [← hZ]
  simp only [gsD, rulesD]
  simp [start, entOf, retE, evs, evOs, evA, evTs, evI, toD, toO, toB, evVar, peek, fetch, fetchs, Val.d, asB, asI, items, stV, stTg, isBo_eq, doCall, argsOf, lents, giveBack, outs, isOwn, isLst, chg, appOb, extOb, cmpD, Option.bind_assoc, isiD, wipeE, con, List.replicate, -List.map_take, -List.map_drop, -List.map_reverse, -List.map_tail, d_next_step]
  refine gets_forR (fun k ρ => (∃ e3 e4 e5 e6 e7 : NBE, ρ = [.sh (.list (gs.map grpD)), .sh (.tuple (rules.map ruleD)), .sh (.int (N : Int)), e3.e, e4.e, e5.e, e6.e, e7.e]) ∧ ∀ k' < k, ∀ j < N, ∀ i < j, stepped gs (rules.getD k' ([], 0)) i j = false) (fun v => ∃ s, OkStep rules N gs s ∧ v = .sh (stepD s)) ⟨⟨nUn, nUn, nUn, nUn, nUn, rfl⟩, fun k' h => by omega⟩ ?_ ?_ ?_
  · rintro k hk ρ ⟨⟨e3, e4, e5, e6, e7, rfl⟩, hq⟩
    rw [enumD_length, List.length_map] at hk
    have hru := hr.rule _ (List.getElem_mem hk)
    have erk := ru_at hk
    obtain ⟨ru, hru'⟩ : ∃ ru, ru = rules[k] := ⟨_, rfl⟩
    rw [← hru'] at hru erk
    have hcl : ru.2 < gs.length := by rw [hs.len]; exact hru.thn
    have g1 : ixD (.list (gs.map grpD)) (.int (ru.2 : Int)) = some (grpD (gs.getD ru.2 [])) := grp_at hcl
    have hgl := hs.glen hru.thn
    have g2 : ∀ i < N, ixD (grpD (gs.getD ru.2 [])) (.int (i : Int)) = some (nD (gAt gs ru.2 i)) := fun i hi => lab_at (by omega)
    obtain ⟨G, hG⟩ : ∃ G, G = gs.getD ru.2 [] := ⟨_, rfl⟩
    rw [← hG] at g1 g2
    have eru : ruleD ru = .tuple [natsD ru.1, nD ru.2] := rfl
    simp [start, entOf, retE, evs, evOs, evA, evTs, evI, toD, toO, toB, evVar, peek, fetch, fetchs, Val.d, asB, asI, items, stV, stTg, isBo_eq, doCall, argsOf, lents, giveBack, outs, isOwn, isLst, chg, appOb, extOb, cmpD, Option.bind_assoc, isiD, wipeE, con, List.replicate, -List.map_take, -List.map_drop, -List.map_reverse, -List.map_tail, enumD_at, exB, ← hru']
    rw [eru]
    simp [start, entOf, retE, evs, evOs, evA, evTs, evI, toD, toO, toB, evVar, peek, fetch, fetchs, Val.d, asB, asI, items, stV, stTg, isBo_eq, doCall, argsOf, lents, giveBack, outs, isOwn, isLst, chg, appOb, extOb, cmpD, Option.bind_assoc, isiD, wipeE, con, List.replicate, -List.map_take, -List.map_drop, -List.map_reverse, -List.map_tail, nD, g1, hl]
    refine gets_forR (fun j ρ => (∃ e6 e7 : NBE, ρ = [.sh (.list (gs.map grpD)), .sh (.tuple (rules.map ruleD)), .sh (.int (N : Int)), .sh (.int (k : Int)), .sh (ruleD ru), .sh (grpD G), e6.e, e7.e]) ∧ ∀ j' < j, ∀ i < j', stepped gs ru i j' = false) (fun v => ∃ s, OkStep rules N gs s ∧ v = .sh (stepD s)) ⟨⟨e6, e7, rfl⟩, fun j' h => by omega⟩ ?_ ?_ ?_
    · rintro j hj ρ ⟨⟨e6, e7, rfl⟩, hq2⟩
      rw [rng_len] at hj
      have hj' : j < N := by omega
      have hlj : ckI (j : Int) = some () := kI (by omega) (by omega)
      simp only [rng_at, Int.zero_add]
      simp [start, entOf, retE, evs, evOs, evA, evTs, evI, toD, toO, toB, evVar, peek, fetch, fetchs, Val.d, asB, asI, items, stV, stTg, isBo_eq, doCall, argsOf, lents, giveBack, outs, isOwn, isLst, chg, appOb, extOb, cmpD, Option.bind_assoc, isiD, wipeE, con, List.replicate, -List.map_take, -List.map_drop, -List.map_reverse, -List.map_tail, exB, hlj]
      refine gets_forR (fun i ρ => (∃ e7 : NBE, ρ = [.sh (.list (gs.map grpD)), .sh (.tuple (rules.map ruleD)), .sh (.int (N : Int)), .sh (.int (k : Int)), .sh (ruleD ru), .sh (grpD G), .sh (.int (j : Int)), e7.e]) ∧ ∀ i' < i, stepped gs ru i' j = false) (fun v => ∃ s, OkStep rules N gs s ∧ v = .sh (stepD s)) ⟨⟨e7, rfl⟩, fun i' h => by omega⟩ ?_ ?_ ?_
      · rintro i hi ρ ⟨⟨e7, rfl⟩, hq3⟩
        rw [rng_len] at hi
        have hi' : i < N := by omega
        have p1 := sp_is_possible (n := n) hs hru hm hi' hj'
        simp only [gsD] at p1
        have x1 := g2 i hi'
        have x2 := g2 j hj'
        simp only [rng_at, Int.zero_add]
        have more : stepped gs ru i j = false → ∀ i' < i + 1, stepped gs ru i' j = false := fun h i' hi' => by
          by_cases e : i' = i
          · rw [e]; exact h
          · exact hq3 i' (by omega)
        by_cases hne : gAt gs ru.2 i = gAt gs ru.2 j
        · have hsp : stepped gs ru i j = false := by unfold stepped; simp [hne]
          simp [start, entOf, retE, evs, evOs, evA, evTs, evI, toD, toO, toB, evVar, peek, fetch, fetchs, Val.d, asB, asI, items, stV, stTg, isBo_eq, doCall, argsOf, lents, giveBack, outs, isOwn, isLst, chg, appOb, extOb, cmpD, Option.bind_assoc, isiD, wipeE, con, List.replicate, -List.map_take, -List.map_drop, -List.map_reverse, -List.map_tail, exB, x1, x2, nD, hne]
          exact more hsp
        · have hne' : ¬ (gAt gs ru.2 i : Int) = (gAt gs ru.2 j : Int) := by omega
          cases hab : able gs ru i j with
          | false =>
            rw [hab] at p1
            have hsp : stepped gs ru i j = false := by unfold stepped; simp [hab]
            simp [start, entOf, retE, evs, evOs, evA, evTs, evI, toD, toO, toB, evVar, peek, fetch, fetchs, Val.d, asB, asI, items, stV, stTg, isBo_eq, doCall, argsOf, lents, giveBack, outs, isOwn, isLst, chg, appOb, extOb, cmpD, Option.bind_assoc, isiD, wipeE, con, List.replicate, -List.map_take, -List.map_drop, -List.map_reverse, -List.map_tail, exB, x1, x2, nD, hne, hne', p1]
            exact more hsp
          | true =>
            rw [hab] at p1
            simp [start, entOf, retE, evs, evOs, evA, evTs, evI, toD, toO, toB, evVar, peek, fetch, fetchs, Val.d, asB, asI, items, stV, stTg, isBo_eq, doCall, argsOf, lents, giveBack, outs, isOwn, isLst, chg, appOb, extOb, cmpD, Option.bind_assoc, isiD, wipeE, con, List.replicate, -List.map_take, -List.map_drop, -List.map_reverse, -List.map_tail, exB, x1, x2, nD, hne, hne', p1]
            have hij : i < j := by omega
            exact ⟨k, i, j, ⟨hk, hij, hj', by rw [erk]; exact hab, by rw [erk]; exact hne⟩, rfl⟩
      · rintro ρ' ⟨⟨e7, rfl⟩, hq3⟩
        rw [rng_len] at hq3
        simp [start, entOf, retE, evs, evOs, evA, evTs, evI, toD, toO, toB, evVar, peek, fetch, fetchs, Val.d, asB, asI, items, stV, stTg, isBo_eq, doCall, argsOf, lents, giveBack, outs, isOwn, isLst, chg, appOb, extOb, cmpD, Option.bind_assoc, isiD, wipeE, con, List.replicate, -List.map_take, -List.map_drop, -List.map_reverse, -List.map_tail]
        intro j' h i hi
        by_cases e : j' = j
        · subst e
          exact hq3 i (by omega)
        · exact hq2 j' (by omega) i hi
      · rintro v ρ' ⟨s, h1, h2⟩
        simp [start, entOf, retE, evs, evOs, evA, evTs, evI, toD, toO, toB, evVar, peek, fetch, fetchs, Val.d, asB, asI, items, stV, stTg, isBo_eq, doCall, argsOf, lents, giveBack, outs, isOwn, isLst, chg, appOb, extOb, cmpD, Option.bind_assoc, isiD, wipeE, con, List.replicate, -List.map_take, -List.map_drop, -List.map_reverse, -List.map_tail]
        exact ⟨_, _, _, h1, h2⟩
    · rintro ρ' ⟨⟨e6, e7, rfl⟩, hq2⟩
      rw [rng_len] at hq2
      simp [start, entOf, retE, evs, evOs, evA, evTs, evI, toD, toO, toB, evVar, peek, fetch, fetchs, Val.d, asB, asI, items, stV, stTg, isBo_eq, doCall, argsOf, lents, giveBack, outs, isOwn, isLst, chg, appOb, extOb, cmpD, Option.bind_assoc, isiD, wipeE, con, List.replicate, -List.map_take, -List.map_drop, -List.map_reverse, -List.map_tail]
      intro k' h j hj i hi
      by_cases e : k' = k
      · subst e
        rw [← List.getD_eq_getElem?_getD, erk]
        exact hq2 j (by omega) i hi
      · have := hq k' (by omega) j hj i hi
        rw [List.getD_eq_getElem?_getD] at this
        exact this
    · rintro v ρ' ⟨s, h1, h2⟩
      simp [start, entOf, retE, evs, evOs, evA, evTs, evI, toD, toO, toB, evVar, peek, fetch, fetchs, Val.d, asB, asI, items, stV, stTg, isBo_eq, doCall, argsOf, lents, giveBack, outs, isOwn, isLst, chg, appOb, extOb, cmpD, Option.bind_assoc, isiD, wipeE, con, List.replicate, -List.map_take, -List.map_drop, -List.map_reverse, -List.map_tail]
      exact ⟨_, _, _, h1, h2⟩
  · rintro ρ' ⟨⟨e3, e4, e5, e6, e7, rfl⟩, hq⟩
    rw [enumD_length, List.length_map] at hq
    simp [start, entOf, retE, evs, evOs, evA, evTs, evI, toD, toO, toB, evVar, peek, fetch, fetchs, Val.d, asB, asI, items, stV, stTg, isBo_eq, doCall, argsOf, lents, giveBack, outs, isOwn, isLst, chg, appOb, extOb, cmpD, Option.bind_assoc, isiD, wipeE, con, List.replicate, -List.map_take, -List.map_drop, -List.map_reverse, -List.map_tail]
    rw [hZ]
    exact .inl ⟨rfl, hq⟩
  · rintro v ρ' ⟨s, h1, rfl⟩
    simp [start, entOf, retE, evs, evOs, evA, evTs, evI, toD, toO, toB, evVar, peek, fetch, fetchs, Val.d, asB, asI, items, stV, stTg, isBo_eq, doCall, argsOf, lents, giveBack, outs, isOwn, isLst, chg, appOb, extOb, cmpD, Option.bind_assoc, isiD, wipeE, con, List.replicate, -List.map_take, -List.map_drop, -List.map_reverse, -List.map_tail]
    rw [hZ]
    exact .inr ⟨s, h1, rfl⟩
theorem stepG_map (gs : List (List Nat)) (c i j : Nat) (hc : c < gs.length) : stepG gs c i j = gs.zipIdx.map fun p => if p.2 = c then mergeL p.1 (min (p.1.getD i 0) (p.1.getD j 0)) (max (p.1.getD i 0) (p.1.getD j 0)) else p.1 := by
  have e : gs.getD c [] = gs[c] := by rw [List.getD_eq_getElem?_getD, List.getElem?_eq_getElem hc]; rfl
  unfold stepG gAt
  rw [e]
  refine List.ext_getElem (by simp) fun k h1 h2 => ?_
  rw [List.getElem_set]
  simp only [List.getElem_map, List.getElem_zipIdx, Nat.zero_add]
  by_cases hk : c = k
  · subst hk
    simp
  · rw [if_neg hk, if_neg (Ne.symm hk)]
theorem enum_g (gs : List (List Nat)) : enumD 0 (gs.map grpD) = gs.zipIdx.map fun p => .tuple [.int ((p.2 : Nat) : Int), grpD p.1] := by
  rw [enumD_map, List.zipIdx_map, List.map_map]
  rfl
theorem sp_after_step {m N : Nat} {gs : List (List Nat)} (hs : Shp m N gs) {rules : List Rule} (hr : OkRs m rules) (hm : m ≤ 5) (hN : N ≤ 8) {k i j : Nat} (hk : k < rules.length) (hi : i < N) (hj : j < N) : evalCall Γ con (n + 2) f_after_step [.sh (gsD gs), .sh (rulesD rules), .sh (stepD (k, i, j))] = some (.ow (.lst ((stepG gs (rules.getD k ([], 0)).2 i j).map grpD)), []) := by
  refine eq_call g_after_step rfl ?_
  have hru := hr.rule _ (List.getElem_mem hk)
  have erk := ru_at hk
  obtain ⟨ru, hru'⟩ : ∃ ru, ru = rules[k] := ⟨_, rfl⟩
  have e1 : ixD (.tuple (rules.map ruleD)) (.int (k : Int)) = some (ruleD ru) := by
    rw [ixT, List.getElem?_map, List.getElem?_eq_getElem hk, hru']
    rfl
  rw [← hru'] at hru erk
  rw [erk]
  have eru : ruleD ru = .tuple [natsD ru.1, nD ru.2] := rfl
  have hc : ru.2 < gs.length := by rw [hs.len]; exact hru.thn
  have hl := hs.len
  rw [stepG_map gs ru.2 i j hc]
  simp only [gsD, rulesD, stepD]
  simp [start, entOf, retE, evs, evOs, evA, evTs, evI, toD, toO, toB, evVar, peek, fetch, fetchs, Val.d, asB, asI, items, stV, stTg, isBo_eq, doCall, argsOf, lents, giveBack, outs, isOwn, isLst, chg, appOb, extOb, cmpD, Option.bind_assoc, isiD, wipeE, con, List.replicate, -List.map_take, -List.map_drop, -List.map_reverse, -List.map_tail, d_after_step, nD, e1]
  rw [eru]
  simp [start, entOf, retE, evs, evOs, evA, evTs, evI, toD, toO, toB, evVar, peek, fetch, fetchs, Val.d, asB, asI, items, stV, stTg, isBo_eq, doCall, argsOf, lents, giveBack, outs, isOwn, isLst, chg, appOb, extOb, cmpD, Option.bind_assoc, isiD, wipeE, con, List.replicate, -List.map_take, -List.map_drop, -List.map_reverse, -List.map_tail, nD, enumD_length, kN (k := gs.length) (by omega), enum_g]
  refine gets_lcm _ (fun p => grpD (if p.2 = ru.2 then mergeL p.1 (min (p.1.getD i 0) (p.1.getD j 0)) (max (p.1.getD i 0) (p.1.getD j 0)) else p.1)) (fun p hp => ?_) ?_
  · obtain ⟨g, c⟩ := p
    have hg : g ∈ gs := List.fst_mem_of_mem_zipIdx hp
    have hgl := hs.row g hg
    have e2 := sp_merged (n := n) g i j (by omega) (by omega) (by omega)
    by_cases hcc : c = ru.2
    · simp [start, entOf, retE, evs, evOs, evA, evTs, evI, toD, toO, toB, evVar, peek, fetch, fetchs, Val.d, asB, asI, items, stV, stTg, isBo_eq, doCall, argsOf, lents, giveBack, outs, isOwn, isLst, chg, appOb, extOb, cmpD, Option.bind_assoc, isiD, wipeE, con, List.replicate, -List.map_take, -List.map_drop, -List.map_reverse, -List.map_tail, evT, evD, hcc, e2]
      exact ⟨_, ⟨rfl, rfl⟩, rfl⟩
    · have hcc' : ¬ (c : Int) = (ru.2 : Int) := by omega
      simp [start, entOf, retE, evs, evOs, evA, evTs, evI, toD, toO, toB, evVar, peek, fetch, fetchs, Val.d, asB, asI, items, stV, stTg, isBo_eq, doCall, argsOf, lents, giveBack, outs, isOwn, isLst, chg, appOb, extOb, cmpD, Option.bind_assoc, isiD, wipeE, con, List.replicate, -List.map_take, -List.map_drop, -List.map_reverse, -List.map_tail, evT, evD, hcc, hcc']
  · simp [start, entOf, retE, evs, evOs, evA, evTs, evI, toD, toO, toB, evVar, peek, fetch, fetchs, Val.d, asB, asI, items, stV, stTg, isBo_eq, doCall, argsOf, lents, giveBack, outs, isOwn, isLst, chg, appOb, extOb, cmpD, Option.bind_assoc, isiD, wipeE, con, List.replicate, -List.map_take, -List.map_drop, -List.map_reverse, -List.map_tail, Function.comp_def]
end MP
end

section
set_option Elab.async false
set_option linter.all false
set_option maxRecDepth 100000
set_option maxHeartbeats 8000000
namespace MP
open PySem
variable {n : Nat}
theorem Shp.small {m N : Nat} {gs : List (List Nat)} (h : Shp m N gs) (hm : m ≤ 5) (hN : N ≤ 8) : gSum gs < 1000 := by
  have := gSum_le (k := 64) h.len fun g hg => by
    have h1 := sum_le 8 g fun x hx => by have := h.lab g hg x hx; omega
    have h2 := h.row g hg
    omega
  omega
theorem Shp.lt_sum {m N : Nat} {gs : List (List Nat)} (h : Shp m N gs) {c : Nat} (hc : c < m) {i j : Nat} (hi : i < N) (hj : j < N) (hne : gAt gs c i ≠ gAt gs c j) : gSum (stepG gs c i j) < gSum gs := by
  have hc' : c < gs.length := by rw [h.len]; exact hc
  have hgl := h.glen hc
  have e : gs.getD c [] = gs[c] := by rw [List.getD_eq_getElem?_getD, List.getElem?_eq_getElem hc']; rfl
  unfold stepG
  refine set_sum gs c _ hc' ?_
  rw [e]
  have hmem : ∀ k < N, gAt gs c k ∈ gs[c] := fun k hk => by
    have hk' : k < gs[c].length := by rw [← e, hgl]; exact hk
    unfold gAt
    rw [e, List.getD_eq_getElem?_getD, List.getElem?_eq_getElem hk']
    exact List.getElem_mem hk'
  refine merge_lt _ _ (by omega) _ ?_
  rcases Nat.le_total (gAt gs c i) (gAt gs c j) with hle | hle
  · rw [Nat.max_eq_right hle]
    exact hmem j hj
  · rw [Nat.max_eq_left hle]
    exact hmem i hi
/-- all steps are done -/
def NoStep (rules : List Rule) (N : Nat) (gs : List (List Nat)) : Prop := ∀ k < rules.length, ∀ j < N, ∀ i < j, stepped gs (rules.getD k ([], 0)) i j = false
/-- closing keeps what each step keeps -/
theorem sp_close {m N : Nat} {rules : List Rule} (hr : OkRs m rules) (hm : m ≤ 5) (hN : N ≤ 8) (I : List (List Nat) → Prop)
    (hI : ∀ gs ru i j, I gs → ru ∈ rules → i < j → j < N → able gs ru i j = true → gAt gs ru.2 i ≠ gAt gs ru.2 j → I (stepG gs ru.2 i j)) {gs : List (List Nat)} (hs : Shp m N gs) (h0 : I gs) :
    ∃ gs', Shp m N gs' ∧ I gs' ∧ NoStep rules N gs' ∧ evalCall Γ con (n + 3) f_close [.sh (gsD gs), .sh (rulesD rules), .sh (.int (N : Int))] = some (.sh (gsD gs'), []) := by
  suffices h : Gets (evalCall Γ con (n + 3) f_close [.sh (gsD gs), .sh (rulesD rules), .sh (.int (N : Int))]) fun r => ∃ gs', Shp m N gs' ∧ I gs' ∧ NoStep rules N gs' ∧ r = (.sh (gsD gs'), []) by
    obtain ⟨r, h1, gs', h2, h3, h4, rfl⟩ := h
    exact ⟨gs', h2, h3, h4, h1⟩
  refine gets_call g_close rfl ?_
  obtain ⟨Z, hZ⟩ : ∃ Z : Val × List Ob → Prop, Z = fun r => ∃ gs', Shp m N gs' ∧ I gs' ∧ NoStep rules N gs' ∧ r = (.sh (gsD gs'), []) := ⟨_, rfl⟩
  rw [← hZ]
  have look : ∀ gs, Shp m N gs → ∃ d : D, evalCall Γ con (n + 2) f_next_step [.sh (gsD gs), .sh (rulesD rules), .sh (.int (N : Int))] = some (.sh d, []) ∧ ((d = .none ∧ NoStep rules N gs) ∨ ∃ s, OkStep rules N gs s ∧ d = stepD s) := fun gs hs => by
    obtain ⟨r, h1, h2⟩ := sp_next_step (n := n) hs hr hm hN
    rcases h2 with ⟨rfl, h2⟩ | ⟨s, h2, rfl⟩
    · exact ⟨.none, h1, .inl ⟨rfl, h2⟩⟩
    · exact ⟨_, h1, .inr ⟨s, h2, rfl⟩⟩
  obtain ⟨d, e1, hd⟩ := look gs hs
  have eG : gsD gs = .list (gs.map grpD) := rfl
  simp [start, entOf, retE, evs, evOs, evA, evTs, evI, toD, toO, toB, evVar, peek, fetch, fetchs, Val.d, asB, asI, items, stV, stTg, isBo_eq, doCall, argsOf, lents, giveBack, outs, isOwn, isLst, chg, appOb, extOb, cmpD, Option.bind_assoc, isiD, wipeE, con, List.replicate, -List.map_take, -List.map_drop, -List.map_reverse, -List.map_tail, d_close, e1]
  refine gets_whl (fun k ρ => ∃ gs d, ρ = [.sh (gsD gs), .sh (rulesD rules), .sh (.int (N : Int)), .sh d] ∧ Shp m N gs ∧ I gs ∧ gSum gs ≤ k ∧ ((d = .none ∧ NoStep rules N gs) ∨ ∃ s, OkStep rules N gs s ∧ d = stepD s)) ?_ wfuel (gSum gs) _ ?_ ⟨gs, d, rfl, hs, h0, Nat.le_refl _, hd⟩
  · rintro k ρ ⟨gs, d, rfl, hs, h0, hk, hd⟩
    rcases hd with ⟨rfl, hd⟩ | ⟨⟨num, i, j⟩, hd, rfl⟩
    · refine ⟨false, [.sh (gsD gs), .sh (rulesD rules), .sh (.int (N : Int)), .sh .none], by simp [start, entOf, retE, evs, evOs, evA, evTs, evI, toD, toO, toB, evVar, peek, fetch, fetchs, Val.d, asB, asI, items, stV, stTg, isBo_eq, doCall, argsOf, lents, giveBack, outs, isOwn, isLst, chg, appOb, extOb, cmpD, Option.bind_assoc, isiD, wipeE, con, List.replicate, -List.map_take, -List.map_drop, -List.map_reverse, -List.map_tail, evB], fun _ => ?_, fun h => by cases h⟩
      simp [start, entOf, retE, evs, evOs, evA, evTs, evI, toD, toO, toB, evVar, peek, fetch, fetchs, Val.d, asB, asI, items, stV, stTg, isBo_eq, doCall, argsOf, lents, giveBack, outs, isOwn, isLst, chg, appOb, extOb, cmpD, Option.bind_assoc, isiD, wipeE, con, List.replicate, -List.map_take, -List.map_drop, -List.map_reverse, -List.map_tail]
      rw [hZ]
      exact ⟨gs, hs, h0, hd, rfl⟩
    · refine ⟨true, [.sh (gsD gs), .sh (rulesD rules), .sh (.int (N : Int)), .sh (stepD (num, i, j))], by simp only [stepD]; simp [start, entOf, retE, evs, evOs, evA, evTs, evI, toD, toO, toB, evVar, peek, fetch, fetchs, Val.d, asB, asI, items, stV, stTg, isBo_eq, doCall, argsOf, lents, giveBack, outs, isOwn, isLst, chg, appOb, extOb, cmpD, Option.bind_assoc, isiD, wipeE, con, List.replicate, -List.map_take, -List.map_drop, -List.map_reverse, -List.map_tail, evB], fun h => (by cases h), fun _ => ?_⟩
      have h1 := hd.num
      have h2 := hd.lt
      have h3 := hd.hi
      simp only at h1 h2 h3
      have erk := ru_at h1
      have h4 : able gs (rules.getD num ([], 0)) i j = true := hd.able
      have h5 : gAt gs (rules.getD num ([], 0)).2 i ≠ gAt gs (rules.getD num ([], 0)).2 j := hd.ne
      have hmem : rules.getD num ([], 0) ∈ rules := by rw [erk]; exact List.getElem_mem h1
      have e2 := sp_after_step (n := n) hs hr hm hN h1 (show i < N by omega) h3
      have hru := hr.rule _ hmem
      obtain ⟨ru, hru'⟩ : ∃ ru, ru = rules.getD num ([], 0) := ⟨_, rfl⟩
      rw [← hru'] at h4 h5 hmem e2 hru
      have hl := hs.lt_sum hru.thn (show i < N by omega) h3 h5
      have hs2 := hs.step hru.thn (show i < N by omega) h3
      have hI2 := hI gs ru i j h0 hmem h2 h3 h4 h5
      obtain ⟨gs2, hg2⟩ : ∃ gs2, gs2 = stepG gs ru.2 i j := ⟨_, rfl⟩
      rw [← hg2] at hl hs2 hI2 e2
      obtain ⟨d2, e3, hd2⟩ := look gs2 hs2
      refine ⟨by omega, ?_⟩
      simp only [gsD] at e2 e3
      simp [start, entOf, retE, evs, evOs, evA, evTs, evI, toD, toO, toB, evVar, peek, fetch, fetchs, Val.d, asB, asI, items, stV, stTg, isBo_eq, doCall, argsOf, lents, giveBack, outs, isOwn, isLst, chg, appOb, extOb, cmpD, Option.bind_assoc, isiD, wipeE, con, List.replicate, -List.map_take, -List.map_drop, -List.map_reverse, -List.map_tail, exB, gsD, e2, e3]
      exact ⟨gs2, d2, ⟨rfl, rfl⟩, hs2, hI2, by omega, by simpa using hd2⟩
  · have := hs.small hm hN
    unfold wfuel
    omega
theorem noStep_closed {m : Nat} {rs : List Row} {rules : List Rule} {gs : List (List Nat)} (h : NoStep rules rs.length gs) : Closed rs rules gs := closed_of_seen fun r hr j hj i hi => by
  have := h r hr j hj i hi
  rw [ru_at hr] at this
  exact this
theorem sp_groups_of {m : Nat} {rs : List Row} {rules : List Rule} (ht : OkT m rs) (hr : OkRs m rules) : ∃ gs, FinG m rs rules gs ∧ evalCall Γ con (n + 4) f_groups_of [.sh (.int (m : Int)), .sh (rowsD rs), .sh (rulesD rules)] = some (.sh (gsD gs), []) := by
  have e1 := sp_first_groups (n := n + 1) ht
  have hg := iniGs_inv m rs rules
  obtain ⟨gs, hs, hI, hn, e2⟩ := sp_close (n := n) hr ht.hi ht.few (fun gs => GInv m rs rules gs) (fun gs ru i j h hru hij hj ha hne => h.step hru (hr.rule ru hru).thn (by omega) hj (hr.rule ru hru).inn ha hne) hg.shp hg
  refine ⟨gs, ⟨hI, noStep_closed (m := m) hn⟩, ?_⟩
  refine eq_call g_groups_of rfl ?_
  obtain ⟨R, hR⟩ : ∃ R, R = rowsD rs := ⟨_, rfl⟩
  have hlen : bltD .len [R] = some (.sh (.int rs.length)) := by rw [hR]; simp [rowsD]
  rw [← hR] at e1 ⊢
  simp only [gsD] at e2
  simp [start, entOf, retE, evs, evOs, evA, evTs, evI, toD, toO, toB, evVar, peek, fetch, fetchs, Val.d, asB, asI, items, stV, stTg, isBo_eq, doCall, argsOf, lents, giveBack, outs, isOwn, isLst, chg, appOb, extOb, cmpD, Option.bind_assoc, isiD, wipeE, con, List.replicate, -List.map_take, -List.map_drop, -List.map_reverse, -List.map_tail, d_groups_of, e1, hlen, e2, gsD]
/-- the groups of a table, named -/
theorem groups_val {m : Nat} {rs : List Row} {rules : List Rule} (ht : OkT m rs) (hr : OkRs m rules) {gs : List (List Nat)} (hF : FinG m rs rules gs) : evalCall Γ con (n + 4) f_groups_of [.sh (.int (m : Int)), .sh (rowsD rs), .sh (rulesD rules)] = some (.sh (gsD gs), []) := by
  obtain ⟨gs', hF', e⟩ := sp_groups_of (n := n) ht hr
  rw [hF'.eq hF hr] at e
  exact e
theorem joined_val {m : Nat} {rs : List Row} {rules : List Rule} (ht : OkT m rs) (hr : OkRs m rules) {gs : List (List Nat)} (hF : FinG m rs rules gs) : evalCall Γ con (n + 1) f_l_joined [.sh (.int (m : Int)), .sh (rowsD rs), .sh (rulesD rules)] = some (.ow (.lst (gs.map grpD)), []) := by
  obtain ⟨gs', hF', e⟩ := sp_joined (n := n) m rs rules ht hr
  rw [hF'.eq hF hr] at e
  exact e
/-- there are groups -/
theorem fin_ex {m : Nat} {rs : List Row} {rules : List Rule} (ht : OkT m rs) (hr : OkRs m rules) : ∃ gs, FinG m rs rules gs := by
  obtain ⟨gs, h, _⟩ := sp_joined (n := 0) m rs rules ht hr
  exact ⟨gs, h⟩
end MP
end

section
set_option Elab.async false
set_option linter.all false
set_option maxRecDepth 100000
set_option maxHeartbeats 8000000
namespace MP
open PySem
variable {n : Nat}
/-! ### lots -/
def lotOf (g : List Nat) (f : Nat) : List Nat := (g.zipIdx.filter fun p => decide (p.1 = f)).map (·.2)
def firstsOf (g : List Nat) : List Nat := (g.zipIdx.filter fun p => decide (p.1 = p.2)).map (·.2)
def lotsOf (g : List Nat) : List (List Nat) := (firstsOf g).map (lotOf g)
def lotsD (ls : List (List Nat)) : D := .tuple (ls.map natsD)
theorem enum_n (g : List Nat) : enumD 0 (g.map nD) = g.zipIdx.map fun p => .tuple [.int ((p.2 : Nat) : Int), nD p.1] := by
  rw [enumD_map, List.zipIdx_map, List.map_map]
  rfl
theorem asc_ext : ∀ {a b : List Int}, a.Pairwise (· < ·) → b.Pairwise (· < ·) → (∀ x, x ∈ a ↔ x ∈ b) → a = b
  | [], [], _, _, _ => rfl
  | [], y :: b, _, _, h => by have := (h y).mpr List.mem_cons_self; cases this
  | x :: a, [], _, _, h => by have := (h x).mp List.mem_cons_self; cases this
  | x :: a, y :: b, ha, hb, h => by
    obtain ⟨a1, a2⟩ := List.pairwise_cons.mp ha
    obtain ⟨b1, b2⟩ := List.pairwise_cons.mp hb
    have hxy : x = y := by
      rcases List.mem_cons.mp ((h x).mp List.mem_cons_self) with e | e
      · exact e
      · rcases List.mem_cons.mp ((h y).mpr List.mem_cons_self) with e' | e'
        · exact e'.symm
        · have := b1 x e
          have := a1 y e'
          omega
    subst hxy
    congr 1
    refine asc_ext a2 b2 fun z => ?_
    constructor
    · intro hz
      have hlt := a1 z hz
      rcases List.mem_cons.mp ((h z).mp (List.mem_cons_of_mem _ hz)) with e | e
      · omega
      · exact e
    · intro hz
      have hlt := b1 z hz
      rcases List.mem_cons.mp ((h z).mpr (List.mem_cons_of_mem _ hz)) with e | e
      · omega
      · exact e
theorem once_mem : ∀ (l : List Int) (x : Int), x ∈ onceI l ↔ x ∈ l
  | [], x => by simp [onceI]
  | a :: l, x => by
    have ih := once_mem l x
    simp only [onceI, List.mem_cons, List.mem_filter, ih, decide_eq_true_eq]
    constructor
    · rintro (h | h)
      · exact .inl h
      · exact .inr h.1
    · rintro (h | h)
      · exact .inl h
      · by_cases e : x = a
        · exact .inl e
        · exact .inr ⟨h, e⟩
theorem once_nodup : ∀ l : List Int, (onceI l).Nodup
  | [] => by simp [onceI]
  | a :: l => by
    simp only [onceI, List.nodup_cons]
    exact ⟨fun h => by simpa using (List.mem_filter.mp h).2, (once_nodup l).filter _⟩
theorem sort_asc (l : List Int) (h : l.Nodup) : (sortI l).Pairwise (· < ·) := by
  have h1 := sortI_sorted l
  have h2 : (sortI l).Nodup := (sortI_perm l).nodup_iff.mpr h
  exact (h1.and h2).imp fun h => by omega
theorem sort_mem (l : List Int) (x : Int) : x ∈ sortI l ↔ x ∈ l := (sortI_perm l).mem_iff
/-- the labels of groups that stand at their own place -/
theorem firsts_eq {g : List Nat} (hi : ∀ i (h : i < g.length), g[i] < g.length ∧ g.getD g[i] 0 = g[i]) : sortI (onceI (g.map fun (k : Nat) => (k : Int))) = (firstsOf g).map fun (k : Nat) => (k : Int) := by
  refine asc_ext (sort_asc _ (once_nodup _)) ?_ fun x => ?_
  · unfold firstsOf
    rw [List.pairwise_map, List.pairwise_map]
    refine List.Pairwise.filter _ ?_
    refine List.Pairwise.imp (R := fun a b => a.2 < b.2) (fun h => by omega) ?_
    rw [← List.pairwise_map (f := Prod.snd) (R := fun a b => a < b), List.zipIdx_map_snd]
    exact List.pairwise_lt_range'
  · rw [sort_mem, once_mem]
    unfold firstsOf
    simp only [List.mem_map, List.mem_filter, decide_eq_true_eq]
    constructor
    · rintro ⟨k, hk, rfl⟩
      obtain ⟨i, h, rfl⟩ := List.getElem_of_mem hk
      obtain ⟨h1, h2⟩ := hi i h
      refine ⟨g[i], ⟨(g[i], g[i]), ⟨?_, rfl⟩, rfl⟩, rfl⟩
      rw [List.mem_zipIdx_iff_getElem?]
      rw [List.getD_eq_getElem?_getD, List.getElem?_eq_getElem h1] at h2
      rw [List.getElem?_eq_getElem h1]
      simpa using h2
    · rintro ⟨k, ⟨⟨a, b⟩, ⟨h1, h2⟩, h3⟩, rfl⟩
      simp only at h2 h3
      subst h3
      exact ⟨a, List.fst_mem_of_mem_zipIdx h1, by rw [h2]⟩
theorem sset_n (g : List Nat) (hl : g.length < 64) (hi : ∀ i (h : i < g.length), g[i] < g.length ∧ g.getD g[i] 0 = g[i]) : ssetD (.list (g.map nD)) = some (.ow (.lst ((firstsOf g).map nD))) := by
  have e : (g.map nD) = g.map fun (a : Nat) => (.int (a : Int) : D) := rfl
  simp only [ssetD, e]
  rw [intsD_map g fun (k : Nat) => (k : Int), Option.bind_some, List.length_map, if_pos hl, firsts_eq hi, List.map_map]
  rfl
theorem lotD (g : List Nat) (f : Nat) : PyData.tuple ((g.zipIdx.filter fun p => decide (p.1 = f)).map fun p => nD p.2) = natsD (lotOf g f) := by
  simp [natsD, lotOf, Function.comp_def]
theorem firsts_len (g : List Nat) : (firstsOf g).length ≤ g.length := by
  unfold firstsOf
  rw [List.length_map]
  exact Nat.le_trans (List.length_filter_le _ _) (by rw [List.length_zipIdx]; exact Nat.le_refl _)
theorem lot_len (g : List Nat) (f : Nat) : (lotOf g f).length ≤ g.length := by
  unfold lotOf
  rw [List.length_map]
  exact Nat.le_trans (List.length_filter_le _ _) (by rw [List.length_zipIdx]; exact Nat.le_refl _)
theorem sp_lots_in (g : List Nat) (hl : g.length ≤ 8) (hi : ∀ i (h : i < g.length), g[i] < g.length ∧ g.getD g[i] 0 = g[i]) : evalCall Γ con (n + 1) f_lots_in [.sh (grpD g)] = some (.sh (lotsD (lotsOf g)), []) := by
  refine eq_call g_lots_in rfl ?_
  have hf := firsts_len g
  simp only [grpD]
  simp [start, entOf, retE, evs, evOs, evA, evTs, evI, toD, toO, toB, evVar, peek, fetch, fetchs, Val.d, asB, asI, items, stV, stTg, isBo_eq, doCall, argsOf, lents, giveBack, outs, isOwn, isLst, chg, appOb, extOb, cmpD, Option.bind_assoc, isiD, wipeE, con, List.replicate, -List.map_take, -List.map_drop, -List.map_reverse, -List.map_tail, d_lots_in, sset_n g (by omega) hi, kN (k := (firstsOf g).length) (by omega)]
  refine gets_lcm nD (fun f => natsD (lotOf g f)) (fun f hf => ?_) ?_
  · simp [start, entOf, retE, evs, evOs, evA, evTs, evI, toD, toO, toB, evVar, peek, fetch, fetchs, Val.d, asB, asI, items, stV, stTg, isBo_eq, doCall, argsOf, lents, giveBack, outs, isOwn, isLst, chg, appOb, extOb, cmpD, Option.bind_assoc, isiD, wipeE, con, List.replicate, -List.map_take, -List.map_drop, -List.map_reverse, -List.map_tail, evT, evD, enumD_length, kN (k := g.length) (by omega), enum_n]
    refine ⟨_, lc_bind _ (fun p => decide (p.1 = f)) (fun p => nD p.2) (fun p hp => ?_) (congrArg (fun t => some (t, _)) (lotD g f)), rfl⟩
    by_cases hb : p.1 = f
    · simp [start, entOf, retE, evs, evOs, evA, evTs, evI, toD, toO, toB, evVar, peek, fetch, fetchs, Val.d, asB, asI, items, stV, stTg, isBo_eq, doCall, argsOf, lents, giveBack, outs, isOwn, isLst, chg, appOb, extOb, cmpD, Option.bind_assoc, isiD, wipeE, con, List.replicate, -List.map_take, -List.map_drop, -List.map_reverse, -List.map_tail, evT, evD, nD, hb]
    · have hb' : ¬ (p.1 : Int) = (f : Int) := by omega
      simp [start, entOf, retE, evs, evOs, evA, evTs, evI, toD, toO, toB, evVar, peek, fetch, fetchs, Val.d, asB, asI, items, stV, stTg, isBo_eq, doCall, argsOf, lents, giveBack, outs, isOwn, isLst, chg, appOb, extOb, cmpD, Option.bind_assoc, isiD, wipeE, con, List.replicate, -List.map_take, -List.map_drop, -List.map_reverse, -List.map_tail, evT, evD, nD, hb, hb']
  · simp [start, entOf, retE, evs, evOs, evA, evTs, evI, toD, toO, toB, evVar, peek, fetch, fetchs, Val.d, asB, asI, items, stV, stTg, isBo_eq, doCall, argsOf, lents, giveBack, outs, isOwn, isLst, chg, appOb, extOb, cmpD, Option.bind_assoc, isiD, wipeE, con, List.replicate, -List.map_take, -List.map_drop, -List.map_reverse, -List.map_tail, lotsD, lotsOf, Function.comp_def]
/-- groups whose labels stand at their own place -/
theorem FinG.idem {m : Nat} {rs : List Row} {rules : List Rule} {gs : List (List Nat)} (hF : FinG m rs rules gs) {g : List Nat} (hg : g ∈ gs) : ∀ i (h : i < g.length), g[i] < g.length ∧ g.getD g[i] 0 = g[i] := by
  intro i h
  obtain ⟨c, hc, rfl⟩ := List.getElem_of_mem hg
  have hl := hF.1.row _ hg
  have hcm : c < m := by rw [← hF.1.len]; exact hc
  have h1 := hF.1.le c hcm i (by omega)
  have h2 := hF.1.idem c hcm i (by omega)
  have e : ∀ k, gAt gs c k = gs[c].getD k 0 := fun k => by
    unfold gAt
    rw [List.getD_eq_getElem?_getD (l := gs), List.getElem?_eq_getElem hc]
    rfl
  rw [e, e] at h2
  rw [e] at h1
  rw [List.getD_eq_getElem?_getD, List.getElem?_eq_getElem h, Option.getD_some] at h1
  have e3 : gs[c].getD i 0 = gs[c][i] := by rw [List.getD_eq_getElem?_getD, List.getElem?_eq_getElem h]; rfl
  rw [e3] at h2
  exact ⟨by omega, h2⟩
def allLotsD (gs : List (List Nat)) : D := .tuple (gs.map fun g => lotsD (lotsOf g))
theorem sp_lots {m : Nat} {rs : List Row} {rules : List Rule} (ht : OkT m rs) (hr : OkRs m rules) {gs : List (List Nat)} (hF : FinG m rs rules gs) : evalCall Γ con (n + 9) f_lots [.sh (tabD m rs), .sh (rulesD rules)] = some (.sh (allLotsD gs), []) := by
  refine eq_call g_lots rfl ?_
  have e1 := sp_need_both (n := n) m rs rules ht hr
  have e2 := groups_val (n := n + 4) ht hr hF
  have hfew := ht.few
  have hl : gs.length ≤ 1000000 := by have := hF.1.len; have := ht.hi; omega
  simp only [tabD, gsD] at e1 e2 ⊢
  simp [start, entOf, retE, evs, evOs, evA, evTs, evI, toD, toO, toB, evVar, peek, fetch, fetchs, Val.d, asB, asI, items, stV, stTg, isBo_eq, doCall, argsOf, lents, giveBack, outs, isOwn, isLst, chg, appOb, extOb, cmpD, Option.bind_assoc, isiD, wipeE, con, List.replicate, -List.map_take, -List.map_drop, -List.map_reverse, -List.map_tail, d_lots, e1, e2, kN hl]
  refine gets_lcm grpD (fun g => lotsD (lotsOf g)) (fun g hg => ?_) ?_
  · have e3 := sp_lots_in (n := n + 7) g (by rw [hF.1.row g hg]; exact hfew) (hF.idem hg)
    simp [start, entOf, retE, evs, evOs, evA, evTs, evI, toD, toO, toB, evVar, peek, fetch, fetchs, Val.d, asB, asI, items, stV, stTg, isBo_eq, doCall, argsOf, lents, giveBack, outs, isOwn, isLst, chg, appOb, extOb, cmpD, Option.bind_assoc, isiD, wipeE, con, List.replicate, -List.map_take, -List.map_drop, -List.map_reverse, -List.map_tail, evT, evD, e3]
  · simp [start, entOf, retE, evs, evOs, evA, evTs, evI, toD, toO, toB, evVar, peek, fetch, fetchs, Val.d, asB, asI, items, stV, stTg, isBo_eq, doCall, argsOf, lents, giveBack, outs, isOwn, isLst, chg, appOb, extOb, cmpD, Option.bind_assoc, isiD, wipeE, con, List.replicate, -List.map_take, -List.map_drop, -List.map_reverse, -List.map_tail, allLotsD]
theorem firstsD (g : List Nat) : (g.zipIdx.filter fun p => decide (p.1 = p.2)).map (fun p => nD p.2) = (firstsOf g).map nD := by
  simp [firstsOf, Function.comp_def]
theorem sp_l_lots {m : Nat} {rs : List Row} {rules : List Rule} (ht : OkT m rs) (hr : OkRs m rules) {gs : List (List Nat)} (hF : FinG m rs rules gs) : evalCall Γ con (n + 2) f_l_lots [.sh (.int (m : Int)), .sh (rowsD rs), .sh (rulesD rules)] = some (.sh (allLotsD gs), []) := by
  refine eq_call g_l_lots rfl ?_
  have e2 := joined_val (n := n) ht hr hF
  have hfew := ht.few
  have hhi := ht.hi
  have hlen := hF.1.len
  simp [start, entOf, retE, evs, evOs, evA, evTs, evI, toD, toO, toB, evVar, peek, fetch, fetchs, Val.d, asB, asI, items, stV, stTg, isBo_eq, doCall, argsOf, lents, giveBack, outs, isOwn, isLst, chg, appOb, extOb, cmpD, Option.bind_assoc, isiD, wipeE, con, List.replicate, -List.map_take, -List.map_drop, -List.map_reverse, -List.map_tail, d_l_lots, e2]
  refine gets_for (fun c ρ => ∃ e4 e5 : NBE, ρ = [.sh (.int (m : Int)), .sh (rowsD rs), .sh (rulesD rules), .ow (.lst ((gs.take c).map fun g => lotsD (lotsOf g))), e4.e, e5.e, .un, .un, .un]) ⟨nUn, nUn, rfl⟩ ?_ ?_
  · rintro c hc ρ ⟨e4, e5, rfl⟩
    rw [List.length_map] at hc
    have hgl := hF.1.row _ (List.getElem_mem hc)
    have hcl : c < lim := ylim' (by omega)
    have hcl2 : min c gs.length < lim := ylim' (by omega)
    simp only [List.getElem_map]
    have htk : gs.take (c + 1) = gs.take c ++ [gs[c]] := (List.take_append_getElem hc).symm
    rw [htk]
    obtain ⟨g, hg⟩ : ∃ g, g = gs[c] := ⟨_, rfl⟩
    rw [← hg] at hgl ⊢
    have hfl := firsts_len g
    simp only [grpD]
    simp [start, entOf, retE, evs, evOs, evA, evTs, evI, toD, toO, toB, evVar, peek, fetch, fetchs, Val.d, asB, asI, items, stV, stTg, isBo_eq, doCall, argsOf, lents, giveBack, outs, isOwn, isLst, chg, appOb, extOb, cmpD, Option.bind_assoc, isiD, wipeE, con, List.replicate, -List.map_take, -List.map_drop, -List.map_reverse, -List.map_tail, exB, enumD_length, kN (k := g.length) (by omega), enum_n]
    refine gets_lcf _ (fun p => decide (p.1 = p.2)) (fun p => nD p.2) (fun p hp => ?_) ?_
    · by_cases hb : p.1 = p.2
      · simp [start, entOf, retE, evs, evOs, evA, evTs, evI, toD, toO, toB, evVar, peek, fetch, fetchs, Val.d, asB, asI, items, stV, stTg, isBo_eq, doCall, argsOf, lents, giveBack, outs, isOwn, isLst, chg, appOb, extOb, cmpD, Option.bind_assoc, isiD, wipeE, con, List.replicate, -List.map_take, -List.map_drop, -List.map_reverse, -List.map_tail, evT, evD, nD, hb]
      · have hb' : ¬ (p.1 : Int) = (p.2 : Int) := by omega
        simp [start, entOf, retE, evs, evOs, evA, evTs, evI, toD, toO, toB, evVar, peek, fetch, fetchs, Val.d, asB, asI, items, stV, stTg, isBo_eq, doCall, argsOf, lents, giveBack, outs, isOwn, isLst, chg, appOb, extOb, cmpD, Option.bind_assoc, isiD, wipeE, con, List.replicate, -List.map_take, -List.map_drop, -List.map_reverse, -List.map_tail, evT, evD, nD, hb, hb']
    · rw [firstsD]
      simp [start, entOf, retE, evs, evOs, evA, evTs, evI, toD, toO, toB, evVar, peek, fetch, fetchs, Val.d, asB, asI, items, stV, stTg, isBo_eq, doCall, argsOf, lents, giveBack, outs, isOwn, isLst, chg, appOb, extOb, cmpD, Option.bind_assoc, isiD, wipeE, con, List.replicate, -List.map_take, -List.map_drop, -List.map_reverse, -List.map_tail, kN (k := (firstsOf g).length) (by omega)]
      refine gets_lcm nD (fun f => natsD (lotOf g f)) (fun f hf => ?_) ?_
      · simp [start, entOf, retE, evs, evOs, evA, evTs, evI, toD, toO, toB, evVar, peek, fetch, fetchs, Val.d, asB, asI, items, stV, stTg, isBo_eq, doCall, argsOf, lents, giveBack, outs, isOwn, isLst, chg, appOb, extOb, cmpD, Option.bind_assoc, isiD, wipeE, con, List.replicate, -List.map_take, -List.map_drop, -List.map_reverse, -List.map_tail, evT, evD, enumD_length, kN (k := g.length) (by omega), enum_n]
        refine ⟨_, lc_bind _ (fun p => decide (p.1 = f)) (fun p => nD p.2) (fun p hp => ?_) (congrArg (fun t => some (t, _)) (lotD g f)), rfl⟩
        by_cases hb : p.1 = f
        · simp [start, entOf, retE, evs, evOs, evA, evTs, evI, toD, toO, toB, evVar, peek, fetch, fetchs, Val.d, asB, asI, items, stV, stTg, isBo_eq, doCall, argsOf, lents, giveBack, outs, isOwn, isLst, chg, appOb, extOb, cmpD, Option.bind_assoc, isiD, wipeE, con, List.replicate, -List.map_take, -List.map_drop, -List.map_reverse, -List.map_tail, evT, evD, nD, hb]
        · have hb' : ¬ (p.1 : Int) = (f : Int) := by omega
          simp [start, entOf, retE, evs, evOs, evA, evTs, evI, toD, toO, toB, evVar, peek, fetch, fetchs, Val.d, asB, asI, items, stV, stTg, isBo_eq, doCall, argsOf, lents, giveBack, outs, isOwn, isLst, chg, appOb, extOb, cmpD, Option.bind_assoc, isiD, wipeE, con, List.replicate, -List.map_take, -List.map_drop, -List.map_reverse, -List.map_tail, evT, evD, nD, hb, hb']
      · simp [start, entOf, retE, evs, evOs, evA, evTs, evI, toD, toO, toB, evVar, peek, fetch, fetchs, Val.d, asB, asI, items, stV, stTg, isBo_eq, doCall, argsOf, lents, giveBack, outs, isOwn, isLst, chg, appOb, extOb, cmpD, Option.bind_assoc, isiD, wipeE, con, List.replicate, -List.map_take, -List.map_drop, -List.map_reverse, -List.map_tail, hcl2, lotsD, lotsOf, Function.comp_def]
  · rintro ρ' ⟨e4, e5, rfl⟩
    simp [start, entOf, retE, evs, evOs, evA, evTs, evI, toD, toO, toB, evVar, peek, fetch, fetchs, Val.d, asB, asI, items, stV, stTg, isBo_eq, doCall, argsOf, lents, giveBack, outs, isOwn, isLst, chg, appOb, extOb, cmpD, Option.bind_assoc, isiD, wipeE, con, List.replicate, -List.map_take, -List.map_drop, -List.map_reverse, -List.map_tail, allLotsD]
end MP
end

section
set_option Elab.async false
set_option linter.all false
set_option maxRecDepth 100000
set_option maxHeartbeats 8000000
namespace MP
open PySem
variable {n : Nat}
theorem sm_nats {g : List Nat} (hl : g.length ≤ 8) (h : ∀ x ∈ g, x < 1000000) : Sm 1 168 (natsD g) := sm_tuple (k := 0) (w := 20) (N := 8) (fun x hx => by
  obtain ⟨k, hk, rfl⟩ := List.mem_map.mp hx
  exact sm_nat (h k hk)) (by rw [List.length_map]; exact hl)
theorem lot_in {g : List Nat} {f x : Nat} (h : x ∈ lotOf g f) : x < g.length := by
  unfold lotOf at h
  obtain ⟨⟨a, b⟩, h1, rfl⟩ := List.mem_map.mp h
  have := List.snd_lt_of_mem_zipIdx (List.mem_filter.mp h1).1
  simpa using this
theorem sm_lots {m : Nat} {rs : List Row} {rules : List Rule} (ht : OkT m rs) {gs : List (List Nat)} (hF : FinG m rs rules gs) : Sm 3 6765 (allLotsD gs) := by
  have hfew := ht.few
  refine sm_tuple (k := 2) (w := 1352) (N := 5) (fun x hx => ?_) (by rw [List.length_map, hF.1.len]; exact ht.hi)
  obtain ⟨g, hg, rfl⟩ := List.mem_map.mp hx
  have hgl := hF.1.row g hg
  have hfl := firsts_len g
  refine sm_tuple (k := 1) (w := 168) (N := 8) (fun x hx => ?_) (by rw [List.length_map]; unfold lotsOf; rw [List.length_map]; omega)
  obtain ⟨l, hl, rfl⟩ := List.mem_map.mp hx
  unfold lotsOf at hl
  obtain ⟨f, hf, rfl⟩ := List.mem_map.mp hl
  have := lot_len g f
  exact sm_nats (by omega) fun x hx => by have := lot_in hx; omega
theorem cells3 (ns : List Int) : ∃ L : Nat, L ≤ 3 ∧ (if 1 < (if 3 < (ns.length : Int) then 3 else (ns.length : Int)) then (if 3 < (ns.length : Int) then 3 else (ns.length : Int)) else 1) = (L : Int) := by
  refine ⟨if 1 < (if 3 < ns.length then 3 else ns.length) then (if 3 < ns.length then 3 else ns.length) else 1, ?_, ?_⟩ <;> (repeat' split) <;> omega
theorem law_k04 : ∀ ns : List Int, ns.length ≤ 63 → evalCall Γ con 40 f_law_2 [.sh (.list (ns.map .int))] = some (.sh (.bool true), []) := by
  intro ns hns
  refine eq_call (n := 39) g_law_2 rfl ?_
  obtain ⟨L, hL3, hL⟩ := cells3 ns
  have hk : ckI (L : Int) = some () := kI (by omega) (by omega)
  have hk9 : ckI 9 = some () := kI (by omega) (by omega)
  have hk2 : ckI 2 = some () := kI (by omega) (by omega)
  simp [start, entOf, retE, evs, evOs, evA, evTs, evI, toD, toO, toB, evVar, peek, fetch, fetchs, Val.d, asB, asI, items, stV, stTg, isBo_eq, doCall, argsOf, lents, giveBack, outs, isOwn, isLst, chg, appOb, extOb, cmpD, Option.bind_assoc, isiD, wipeE, con, List.replicate, -List.map_take, -List.map_drop, -List.map_reverse, -List.map_tail, d_law_2]
  rw [hL, hk, Option.bind_some]
  refine gets_for (fun i ρ => ∃ e1 e2 e3 e4 e5 e6 e7 e8 e9 : NBE, ρ = [.sh (.list (ns.map .int)), e1.e, e2.e, e3.e, e4.e, e5.e, e6.e, e7.e, e8.e, e9.e, .un]) ⟨nUn, nUn, nUn, nUn, nUn, nUn, nUn, nUn, nUn, rfl⟩ ?_ ?_
  · rintro k hk ρ ⟨e1, e2, e3, e4, e5, e6, e7, e8, e9, rfl⟩
    simp only [rng_at, Int.zero_add]
    have ec := sp_cell_at (n := 38) ns k
    obtain ⟨c, hc⟩ : ∃ c, c = ns.getD k 0 := ⟨_, rfl⟩
    rw [← hc] at ec
    obtain ⟨o, hp, ep⟩ := sp_pen (n := 38) c
    simp [start, entOf, retE, evs, evOs, evA, evTs, evI, toD, toO, toB, evVar, peek, fetch, fetchs, Val.d, asB, asI, items, stV, stTg, isBo_eq, doCall, argsOf, lents, giveBack, outs, isOwn, isLst, chg, appOb, extOb, cmpD, Option.bind_assoc, isiD, wipeE, con, List.replicate, -List.map_take, -List.map_drop, -List.map_reverse, -List.map_tail, exB, ec, ep, hk9]
    refine gets_for (fun i ρ => ∃ o, ∃ e3 e4 e5 e6 e7 e8 e9 : NBE, ρ = [.sh (.list (ns.map .int)), .sh (.int (k : Int)), .ow o, e3.e, e4.e, e5.e, e6.e, e7.e, e8.e, e9.e, .un] ∧ Pen (300 * i) o) ⟨o, e3, e4, e5, e6, e7, e8, e9, rfl, hp⟩ ?_ ?_
    · rintro i hi ρ ⟨o, e3, e4, e5, e6, e7, e8, e9, rfl, hp⟩
      rw [rng_len] at hi
      simp only [rng_at, Int.zero_add]
      obtain ⟨d, o1, hd, hp1, f1⟩ := sp_draw (n := 38) (300 * i) 5 o hp (by omega) (by omega) (by omega)
      have f1' : evalCall Γ con 39 f_l_draw [.mu o, .sh (.int 5)] = some (.sh (.int (d : Int)), [o1]) := f1
      obtain ⟨m, hm⟩ : ∃ m, m = 1 + d := ⟨_, rfl⟩
      have hm' : (1 : Int) + (d : Int) = (m : Int) := by omega
      obtain ⟨rules, o2, hr, hp2, f2⟩ := sp_rules (n := 36) (300 * i + 1) m 8 o1 hp1 (by omega) (by omega) (by omega) (by omega)
      have f2' : evalCall Γ con 39 f_l_rules [.mu o1, .sh (.int (m : Int)), .sh (.int 8)] = some (.sh (rulesD rules), [o2]) := f2
      obtain ⟨rs, o3, ht, hp3, f3⟩ := sp_kind (n := 35) (300 * i + 1 + 49) m 8 o2 rules hr hp2 (by omega) (by omega) (by omega) (by omega)
      have f3' : evalCall Γ con 39 f_l_kind_rows [.mu o2, .sh (.int (m : Int)), .sh (.int 8), .sh (rulesD rules)] = some (.sh (rowsD rs), [o3]) := f3
      obtain ⟨gs, hF⟩ := fin_ex ht hr
      have f4 := sp_l_lots (n := 37) ht hr hF
      have f5 : bltD .repr [rowsD rs] = some (.sh (.str (rowsD rs).shown)) := by
        simp only [bltD]
        rw [if_pos ((sm_rows ht).ok (by omega) (by omega))]
      have f6 := sp_lots (n := 30) ht hr hF
      have f7 := sp_same (n := 38) (sm_twoL (sm_lots ht hF) (sm_lots ht hF)) (by omega) (by omega)
      simp only [tabD] at f6
      obtain ⟨P, hP⟩ : ∃ P : D, P = allLotsD gs := ⟨_, rfl⟩
      obtain ⟨sh, hsh⟩ : ∃ sh, sh = (rowsD rs).shown := ⟨_, rfl⟩
      rw [← hP] at f4 f6 f7
      rw [← hsh] at f5
      have hr2 : rngD 0 2 = [.int 0, .int 1] := rfl
      simp [start, entOf, retE, evs, evOs, evA, evTs, evI, toD, toO, toB, evVar, peek, fetch, fetchs, Val.d, asB, asI, items, stV, stTg, isBo_eq, doCall, argsOf, lents, giveBack, outs, isOwn, isLst, chg, appOb, extOb, cmpD, Option.bind_assoc, isiD, wipeE, con, List.replicate, -List.map_take, -List.map_drop, -List.map_reverse, -List.map_tail, exB, f1', hm', f2', f3', f4, f5, hk2, hr2, lcGo, kN, ckN, evT, evD, f6, f7]
      exact hp3.mono (by omega)
    · rintro ρ' ⟨o, e3, e4, e5, e6, e7, e8, e9, rfl, hp⟩
      simp [start, entOf, retE, evs, evOs, evA, evTs, evI, toD, toO, toB, evVar, peek, fetch, fetchs, Val.d, asB, asI, items, stV, stTg, isBo_eq, doCall, argsOf, lents, giveBack, outs, isOwn, isLst, chg, appOb, extOb, cmpD, Option.bind_assoc, isiD, wipeE, con, List.replicate, -List.map_take, -List.map_drop, -List.map_reverse, -List.map_tail]
  · rintro ρ' ⟨e1, e2, e3, e4, e5, e6, e7, e8, e9, rfl⟩
    simp [start, entOf, retE, evs, evOs, evA, evTs, evI, toD, toO, toB, evVar, peek, fetch, fetchs, Val.d, asB, asI, items, stV, stTg, isBo_eq, doCall, argsOf, lents, giveBack, outs, isOwn, isLst, chg, appOb, extOb, cmpD, Option.bind_assoc, isiD, wipeE, con, List.replicate, -List.map_take, -List.map_drop, -List.map_reverse, -List.map_tail]
end MP
end

section
set_option Elab.async false
set_option linter.all false
set_option maxRecDepth 100000
set_option maxHeartbeats 8000000
namespace MP
open PySem
variable {n : Nat}
/-! ### the values of a group -/
def rawUp (rs : List Row) (gs : List (List Nat)) (c f i : Nat) : List Int := (List.range i).filterMap fun k => if gAt gs c k = f then cellAt rs k c else none
def rawOf (rs : List Row) (gs : List (List Nat)) (c f : Nat) : List Int := rawUp rs gs c f rs.length
def pvals (rs : List Row) (gs : List (List Nat)) (c f : Nat) : List Int := sortI (onceI (rawOf rs gs c f))
theorem once_snoc : ∀ (l : List Int) (v : Int), onceI (l ++ [v]) = if v ∈ l then onceI l else onceI l ++ [v]
  | [], v => by simp [onceI]
  | a :: l, v => by
    have ih := once_snoc l v
    simp only [List.cons_append, onceI, ih, List.mem_cons]
    by_cases h : v ∈ l
    · simp [h]
    · by_cases e : v = a
      · subst e
        simp [h]
      · simp [h, e]
theorem vals_once (rs : List Row) (gs : List (List Nat)) (c f : Nat) : ∀ i, valsUp rs gs c f i = onceI (rawUp rs gs c f i)
  | 0 => rfl
  | i + 1 => by
    have ih := vals_once rs gs c f i
    have e : rawUp rs gs c f (i + 1) = rawUp rs gs c f i ++ (if gAt gs c i = f then cellAt rs i c else none).toList := by
      unfold rawUp
      rw [List.range_succ, List.filterMap_append]
      congr 1
    rw [e, valsUp]
    cases hv : cellAt rs i c with
    | none => simp [ih]
    | some v =>
      by_cases hf : gAt gs c i = f
      · simp only [hf, if_true, Option.toList_some, once_snoc, true_and, ih, once_mem]
        by_cases h : v ∈ rawUp rs gs c f i <;> simp [h]
      · simp [hf, ih]
theorem vals_eq (rs : List Row) (gs : List (List Nat)) (c f : Nat) : valsOf rs gs c f = onceI (rawOf rs gs c f) := vals_once rs gs c f rs.length
theorem pvals_eq (rs : List Row) (gs : List (List Nat)) (c f : Nat) : pvals rs gs c f = sortI (valsOf rs gs c f) := by rw [vals_eq]; rfl
theorem pvals_len (rs : List Row) (gs : List (List Nat)) (c f : Nat) : (pvals rs gs c f).length = (valsOf rs gs c f).length := by
  rw [pvals_eq]
  exact (sortI_perm _).length_eq
theorem pvals_one {rs : List Row} {gs : List (List Nat)} {c f : Nat} (h : (valsOf rs gs c f).length ≤ 1) : pvals rs gs c f = valsOf rs gs c f := by
  rw [pvals_eq]
  match valsOf rs gs c f, h with
  | [], _ => rfl
  | [v], _ => rfl
theorem zipD_map {α β : Type} (f : α → D) (g : β → D) : ∀ (xs : List α) (ys : List β), zipD (xs.map f) (ys.map g) = (xs.zip ys).map fun p => .tuple [f p.1, g p.2]
  | [], ys => by simp [zipD]
  | x :: xs, [] => by simp [zipD]
  | x :: xs, y :: ys => by simp [zipD, zipD_map f g xs ys]
theorem zip_cells {m : Nat} {rs : List Row} {gs : List (List Nat)} (hs : Shp m rs.length gs) {c : Nat} (hc : c < m) : (colOf rs c).zip (gs.getD c []) = (List.range rs.length).map fun i => (cellAt rs i c, gAt gs c i) := by
  have h1 := col_cells rs c
  have h2 := hs.glen hc
  refine List.ext_getElem (by rw [List.length_zip, List.length_map, List.length_range, h1, h2]; omega) fun i hi hi' => ?_
  rw [List.length_map, List.length_range] at hi'
  rw [List.getElem_zip, List.getElem_map, List.getElem_range, col_at]
  congr 1
  unfold gAt
  rw [List.getD_eq_getElem?_getD (l := gs.getD c []), List.getElem?_eq_getElem (by omega)]
  rfl
theorem filter_raw (rs : List Row) (gs : List (List Nat)) (c f : Nat) (l : List Nat) : (l.filter fun i => decide (gAt gs c i = f) && (cellAt rs i c).isSome).map (fun i => PyData.int ((cellAt rs i c).getD 0)) = (l.filterMap fun k => if gAt gs c k = f then cellAt rs k c else none).map .int := by
  induction l with
  | nil => rfl
  | cons i l ih =>
    by_cases hf : gAt gs c i = f
    · cases hv : cellAt rs i c with
      | none =>
        rw [List.filter_cons_of_neg (by simp [hv]), ih, List.filterMap_cons_none (by simp [hf, hv])]
      | some v =>
        rw [List.filter_cons_of_pos (by simp [hf, hv]), List.map_cons, ih, List.filterMap_cons_some (b := v) (by simp [hf, hv]), List.map_cons, hv]
        rfl
    · rw [List.filter_cons_of_neg (by simp [hf]), ih, List.filterMap_cons_none (by simp [hf])]
theorem raw_len (rs : List Row) (gs : List (List Nat)) (c f : Nat) : (rawOf rs gs c f).length ≤ rs.length := by
  unfold rawOf rawUp
  exact Nat.le_trans (List.length_filterMap_le _ _) (by rw [List.length_range]; exact Nat.le_refl _)
theorem sset_i (l : List Int) (h : l.length < 64) : ssetD (.list (l.map .int)) = some (.ow (.lst ((sortI (onceI l)).map .int))) := by
  simp only [ssetD]
  rw [intsD_map l fun k => k, Option.bind_some, List.map_id', if_pos h]
theorem sp_values_of {m : Nat} {rs : List Row} {gs : List (List Nat)} (ht : OkT m rs) (hs : Shp m rs.length gs) {c f : Nat} (hc : c < m) : evalCall Γ con (n + 1) f_values_of [.sh (.list ((colOf rs c).map cD)), .sh (grpD (gs.getD c [])), .sh (.int (f : Int))] = some (.ow (.lst ((pvals rs gs c f).map .int)), []) := by
  refine eq_call g_values_of rfl ?_
  have hfew := ht.few
  have h1 := col_cells rs c
  have hz : zipO (.list ((colOf rs c).map cD)) (grpD (gs.getD c [])) = some ((List.range rs.length).map fun i => .tuple [cD (cellAt rs i c), nD (gAt gs c i)]) := by
    unfold grpD
    simp only [zipO]
    rw [zipD_map, zip_cells hs hc, List.map_map]
    rfl
  obtain ⟨G, hG⟩ : ∃ G, G = grpD (gs.getD c []) := ⟨_, rfl⟩
  rw [← hG] at hz ⊢
  simp [start, entOf, retE, evs, evOs, evA, evTs, evI, toD, toO, toB, evVar, peek, fetch, fetchs, Val.d, asB, asI, items, stV, stTg, isBo_eq, doCall, argsOf, lents, giveBack, outs, isOwn, isLst, chg, appOb, extOb, cmpD, Option.bind_assoc, isiD, wipeE, con, List.replicate, -List.map_take, -List.map_drop, -List.map_reverse, -List.map_tail, d_values_of, hz, kN (k := rs.length) (by omega)]
  refine gets_lcf _ (fun i => decide (gAt gs c i = f) && (cellAt rs i c).isSome) (fun i => .int ((cellAt rs i c).getD 0)) (fun i hi => ?_) ?_
  · by_cases hf : gAt gs c i = f
    · cases hv : cellAt rs i c with
      | none => simp [start, entOf, retE, evs, evOs, evA, evTs, evI, toD, toO, toB, evVar, peek, fetch, fetchs, Val.d, asB, asI, items, stV, stTg, isBo_eq, doCall, argsOf, lents, giveBack, outs, isOwn, isLst, chg, appOb, extOb, cmpD, Option.bind_assoc, isiD, wipeE, con, List.replicate, -List.map_take, -List.map_drop, -List.map_reverse, -List.map_tail, evT, evD, nD, hf, hv, cD]
      | some v => simp [start, entOf, retE, evs, evOs, evA, evTs, evI, toD, toO, toB, evVar, peek, fetch, fetchs, Val.d, asB, asI, items, stV, stTg, isBo_eq, doCall, argsOf, lents, giveBack, outs, isOwn, isLst, chg, appOb, extOb, cmpD, Option.bind_assoc, isiD, wipeE, con, List.replicate, -List.map_take, -List.map_drop, -List.map_reverse, -List.map_tail, evT, evD, nD, hf, hv, cD]
    · have hf' : ¬ (gAt gs c i : Int) = (f : Int) := by omega
      simp [start, entOf, retE, evs, evOs, evA, evTs, evI, toD, toO, toB, evVar, peek, fetch, fetchs, Val.d, asB, asI, items, stV, stTg, isBo_eq, doCall, argsOf, lents, giveBack, outs, isOwn, isLst, chg, appOb, extOb, cmpD, Option.bind_assoc, isiD, wipeE, con, List.replicate, -List.map_take, -List.map_drop, -List.map_reverse, -List.map_tail, evT, evD, nD, hf, hf']
  · rw [filter_raw]
    have hl := raw_len rs gs c f
    have e : (List.range rs.length).filterMap (fun k => if gAt gs c k = f then cellAt rs k c else none) = rawOf rs gs c f := rfl
    rw [e]
    simp [start, entOf, retE, evs, evOs, evA, evTs, evI, toD, toO, toB, evVar, peek, fetch, fetchs, Val.d, asB, asI, items, stV, stTg, isBo_eq, doCall, argsOf, lents, giveBack, outs, isOwn, isLst, chg, appOb, extOb, cmpD, Option.bind_assoc, isiD, wipeE, con, List.replicate, -List.map_take, -List.map_drop, -List.map_reverse, -List.map_tail, sset_i _ (show (rawOf rs gs c f).length < 64 by omega), pvals]
def valIn (rs : List Row) (gs : List (List Nat)) (c i : Nat) : Cell := (pvals rs gs c (gAt gs c i)).head?
theorem eqL_ints (l : List Int) : eqD (.list (l.map .int)) (.list []) = some l.isEmpty := by
  have q := eqL_nil (flt_ints l) (by omega)
  rw [List.isEmpty_map] at q
  exact q
theorem sp_value_in {m : Nat} {rs : List Row} {gs : List (List Nat)} (ht : OkT m rs) (hs : Shp m rs.length gs) {c i : Nat} (hc : c < m) (hi : i < rs.length) : evalCall Γ con (n + 2) f_value_in [.sh (rowsD rs), .sh (gsD gs), .sh (.int (i : Int)), .sh (.int (c : Int))] = some (.sh (cD (valIn rs gs c i)), []) := by
  refine eq_call g_value_in rfl ?_
  have e1 := sp_values_at (n := n) ht hc
  have e2 := sp_values_of (n := n) (f := gAt gs c i) ht hs hc
  have hl := hs.glen hc
  have x1 : ixD (gsD gs) (.int (c : Int)) = some (grpD (gs.getD c [])) := grp_at (by rw [hs.len]; exact hc)
  have x2 : ixD (grpD (gs.getD c [])) (.int (i : Int)) = some (nD (gAt gs c i)) := lab_at (by omega)
  obtain ⟨G, hG⟩ : ∃ G, G = grpD (gs.getD c []) := ⟨_, rfl⟩
  rw [← hG] at x1 x2 e2
  unfold valIn
  have q := eqL_ints (pvals rs gs c (gAt gs c i))
  cases hp : pvals rs gs c (gAt gs c i) with
  | nil =>
    rw [hp] at e2 q
    simp only [List.map_nil, List.isEmpty_nil] at e2 q
    simp [start, entOf, retE, evs, evOs, evA, evTs, evI, toD, toO, toB, evVar, peek, fetch, fetchs, Val.d, asB, asI, items, stV, stTg, isBo_eq, doCall, argsOf, lents, giveBack, outs, isOwn, isLst, chg, appOb, extOb, cmpD, Option.bind_assoc, isiD, wipeE, con, List.replicate, -List.map_take, -List.map_drop, -List.map_reverse, -List.map_tail, d_value_in, e1, x1, x2, nD, e2, q, cD]
  | cons v vs =>
    rw [hp] at e2 q
    simp only [List.map_cons, List.isEmpty_cons] at e2 q
    simp [start, entOf, retE, evs, evOs, evA, evTs, evI, toD, toO, toB, evVar, peek, fetch, fetchs, Val.d, asB, asI, items, stV, stTg, isBo_eq, doCall, argsOf, lents, giveBack, outs, isOwn, isLst, chg, appOb, extOb, cmpD, Option.bind_assoc, isiD, wipeE, con, List.replicate, -List.map_take, -List.map_drop, -List.map_reverse, -List.map_tail, d_value_in, e1, x1, x2, nD, e2, q, cD]
theorem sp_is_conflict {m : Nat} {rs : List Row} {gs : List (List Nat)} (ht : OkT m rs) (hs : Shp m rs.length gs) : evalCall Γ con (n + 2) f_is_conflict [.sh (rowsD rs), .sh (gsD gs)] = some (.sh (.bool (clash m rs gs)), []) := by
  refine eq_call g_is_conflict rfl ?_
  have hm := ht.hi
  have hfw := ht.few
  simp only [gsD]
  simp [start, entOf, retE, evs, evOs, evA, evTs, evI, toD, toO, toB, evVar, peek, fetch, fetchs, Val.d, asB, asI, items, stV, stTg, isBo_eq, doCall, argsOf, lents, giveBack, outs, isOwn, isLst, chg, appOb, extOb, cmpD, Option.bind_assoc, isiD, wipeE, con, List.replicate, -List.map_take, -List.map_drop, -List.map_reverse, -List.map_tail, d_is_conflict]
  refine gets_find (fun c => clashAt rs gs c) (fun c ρ => ∃ e2 e3 e4 : NBE, ρ = [.sh (rowsD rs), .sh (.list (gs.map grpD)), e2.e, e3.e, e4.e, .un]) (fun _ v => v = .sh (.bool true)) ⟨nUn, nUn, nUn, rfl⟩ ?_ ?_ ?_
  · rintro c hc ρ ⟨e2, e3, e4, rfl⟩
    rw [enumD_length, List.length_map, hs.len] at hc
    have hc' : c < gs.length := by rw [hs.len]; exact hc
    have hgl := hs.glen hc
    have f1 := sp_values_at (n := n) ht hc
    have f2 := fun f => sp_values_of (n := n) (f := f) ht hs hc
    obtain ⟨G, hG⟩ : ∃ G, G = gs.getD c [] := ⟨_, rfl⟩
    have eG : gs[c] = G := by rw [hG, List.getD_eq_getElem?_getD, List.getElem?_eq_getElem hc']; rfl
    have eC : clashAt rs gs c = G.any fun f => decide (1 < (valsOf rs gs c f).length) := by unfold clashAt; rw [← hG]
    rw [← hG] at hgl f2
    simp only [grpD] at f2
    simp [start, entOf, retE, evs, evOs, evA, evTs, evI, toD, toO, toB, evVar, peek, fetch, fetchs, Val.d, asB, asI, items, stV, stTg, isBo_eq, doCall, argsOf, lents, giveBack, outs, isOwn, isLst, chg, appOb, extOb, cmpD, Option.bind_assoc, isiD, wipeE, con, List.replicate, -List.map_take, -List.map_drop, -List.map_reverse, -List.map_tail, enumD_at, exB, eG, f1]
    simp only [grpD]
    simp [start, entOf, retE, evs, evOs, evA, evTs, evI, toD, toO, toB, evVar, peek, fetch, fetchs, Val.d, asB, asI, items, stV, stTg, isBo_eq, doCall, argsOf, lents, giveBack, outs, isOwn, isLst, chg, appOb, extOb, cmpD, Option.bind_assoc, isiD, wipeE, con, List.replicate, -List.map_take, -List.map_drop, -List.map_reverse, -List.map_tail, kN (k := G.length) (by omega)]
    refine gets_lcm nD (fun f => .bool (decide (1 < (valsOf rs gs c f).length))) (fun f hf => ?_) ?_
    · have hv := f2 f
      have hpl := pvals_len rs gs c f
      by_cases hl : 1 < (valsOf rs gs c f).length
      · have hl' : (1 : Int) < ((valsOf rs gs c f).length : Int) := by omega
        simp [start, entOf, retE, evs, evOs, evA, evTs, evI, toD, toO, toB, evVar, peek, fetch, fetchs, Val.d, asB, asI, items, stV, stTg, isBo_eq, doCall, argsOf, lents, giveBack, outs, isOwn, isLst, chg, appOb, extOb, cmpD, Option.bind_assoc, isiD, wipeE, con, List.replicate, -List.map_take, -List.map_drop, -List.map_reverse, -List.map_tail, evT, evD, nD, hv, hpl, hl, hl']
      · have hl' : ¬ (1 : Int) < ((valsOf rs gs c f).length : Int) := by omega
        simp [start, entOf, retE, evs, evOs, evA, evTs, evI, toD, toO, toB, evVar, peek, fetch, fetchs, Val.d, asB, asI, items, stV, stTg, isBo_eq, doCall, argsOf, lents, giveBack, outs, isOwn, isLst, chg, appOb, extOb, cmpD, Option.bind_assoc, isiD, wipeE, con, List.replicate, -List.map_take, -List.map_drop, -List.map_reverse, -List.map_tail, evT, evD, nD, hv, hpl, hl, hl']
    · have ea := any_blt G fun f => decide (1 < (valsOf rs gs c f).length)
      rw [← eC] at ea
      cases hq : clashAt rs gs c with
      | true =>
        rw [hq] at ea
        simp [start, entOf, retE, evs, evOs, evA, evTs, evI, toD, toO, toB, evVar, peek, fetch, fetchs, Val.d, asB, asI, items, stV, stTg, isBo_eq, doCall, argsOf, lents, giveBack, outs, isOwn, isLst, chg, appOb, extOb, cmpD, Option.bind_assoc, isiD, wipeE, con, List.replicate, -List.map_take, -List.map_drop, -List.map_reverse, -List.map_tail, ea]
      | false =>
        rw [hq] at ea
        simp [start, entOf, retE, evs, evOs, evA, evTs, evI, toD, toO, toB, evVar, peek, fetch, fetchs, Val.d, asB, asI, items, stV, stTg, isBo_eq, doCall, argsOf, lents, giveBack, outs, isOwn, isLst, chg, appOb, extOb, cmpD, Option.bind_assoc, isiD, wipeE, con, List.replicate, -List.map_take, -List.map_drop, -List.map_reverse, -List.map_tail, ea]
  · rintro ρ' ⟨e2, e3, e4, rfl⟩ hall
    rw [enumD_length, List.length_map, hs.len] at hall
    have : clash m rs gs = false := by
      unfold clash
      rw [List.any_eq_false]
      intro c hc
      have := hall c (List.mem_range.mp hc)
      unfold clashAt at this
      rw [this]
      simp
    simp [start, entOf, retE, evs, evOs, evA, evTs, evI, toD, toO, toB, evVar, peek, fetch, fetchs, Val.d, asB, asI, items, stV, stTg, isBo_eq, doCall, argsOf, lents, giveBack, outs, isOwn, isLst, chg, appOb, extOb, cmpD, Option.bind_assoc, isiD, wipeE, con, List.replicate, -List.map_take, -List.map_drop, -List.map_reverse, -List.map_tail, this]
  · rintro c v ρ' hc hq _ rfl
    rw [enumD_length, List.length_map, hs.len] at hc
    have : clash m rs gs = true := by
      unfold clash
      rw [List.any_eq_true]
      exact ⟨c, List.mem_range.mpr hc, hq⟩
    simp [start, entOf, retE, evs, evOs, evA, evTs, evI, toD, toO, toB, evVar, peek, fetch, fetchs, Val.d, asB, asI, items, stV, stTg, isBo_eq, doCall, argsOf, lents, giveBack, outs, isOwn, isLst, chg, appOb, extOb, cmpD, Option.bind_assoc, isiD, wipeE, con, List.replicate, -List.map_take, -List.map_drop, -List.map_reverse, -List.map_tail, this]
/-! ### has_filling, both -/
theorem sp_has_filling {m : Nat} {rs : List Row} {rules : List Rule} (ht : OkT m rs) (hr : OkRs m rules) {gs : List (List Nat)} (hF : FinG m rs rules gs) : evalCall Γ con (n + 5) f_has_filling [.sh (.int (m : Int)), .sh (rowsD rs), .sh (rulesD rules)] = some (.sh (.bool (!clash m rs gs)), []) := by
  refine eq_call g_has_filling rfl ?_
  have e1 := groups_val (n := n) ht hr hF
  have e2 := sp_is_conflict (n := n + 2) ht hF.1.shp
  simp [start, entOf, retE, evs, evOs, evA, evTs, evI, toD, toO, toB, evVar, peek, fetch, fetchs, Val.d, asB, asI, items, stV, stTg, isBo_eq, doCall, argsOf, lents, giveBack, outs, isOwn, isLst, chg, appOb, extOb, cmpD, Option.bind_assoc, isiD, wipeE, con, List.replicate, -List.map_take, -List.map_drop, -List.map_reverse, -List.map_tail, d_has_filling, e1, e2]
theorem sp_l_has_filling {m : Nat} {rs : List Row} {rules : List Rule} (ht : OkT m rs) (hr : OkRs m rules) {gs : List (List Nat)} (hF : FinG m rs rules gs) : evalCall Γ con (n + 3) f_l_has_filling [.sh (.int (m : Int)), .sh (rowsD rs), .sh (rulesD rules)] = some (.sh (.bool (!clash m rs gs)), []) := by
  refine eq_call g_l_has_filling rfl ?_
  have e1 := joined_val (n := n + 1) ht hr hF
  have e2 := sp_clash (n := n) m rs rules gs ht hF.1
  simp [start, entOf, retE, evs, evOs, evA, evTs, evI, toD, toO, toB, evVar, peek, fetch, fetchs, Val.d, asB, asI, items, stV, stTg, isBo_eq, doCall, argsOf, lents, giveBack, outs, isOwn, isLst, chg, appOb, extOb, cmpD, Option.bind_assoc, isiD, wipeE, con, List.replicate, -List.map_take, -List.map_drop, -List.map_reverse, -List.map_tail, d_l_has_filling, e1, e2]
/-- there is a filling, as a truth of the table -/
noncomputable def fillable (m : Nat) (rs : List Row) (rules : List Rule) : Bool := by
  classical
  exact if h : ∃ gs, FinG m rs rules gs then !clash m rs (Classical.choose h) else false
theorem fillable_eq {m : Nat} {rs : List Row} {rules : List Rule} (hr : OkRs m rules) {gs : List (List Nat)} (hF : FinG m rs rules gs) : fillable m rs rules = !clash m rs gs := by
  have h : ∃ gs, FinG m rs rules gs := ⟨gs, hF⟩
  unfold fillable
  rw [dif_pos h, (Classical.choose_spec h).eq hF hr]
theorem has_val {m : Nat} {rs : List Row} {rules : List Rule} (ht : OkT m rs) (hr : OkRs m rules) : evalCall Γ con (n + 5) f_has_filling [.sh (.int (m : Int)), .sh (rowsD rs), .sh (rulesD rules)] = some (.sh (.bool (fillable m rs rules)), []) := by
  obtain ⟨gs, hF⟩ := fin_ex ht hr
  rw [fillable_eq hr hF]
  exact sp_has_filling ht hr hF
theorem l_has_val {m : Nat} {rs : List Row} {rules : List Rule} (ht : OkT m rs) (hr : OkRs m rules) : evalCall Γ con (n + 3) f_l_has_filling [.sh (.int (m : Int)), .sh (rowsD rs), .sh (rulesD rules)] = some (.sh (.bool (fillable m rs rules)), []) := by
  obtain ⟨gs, hF⟩ := fin_ex ht hr
  rw [fillable_eq hr hF]
  exact sp_l_has_filling ht hr hF
/-! ### a cell written -/
def setCell (rs : List Row) (i c : Nat) (v : Cell) : List Row := rs.set i ((rs.getD i []).set c v)
theorem set_cut {α : Type} : ∀ (l : List α) (k : Nat) (v : α), k < l.length → l.take k ++ v :: l.drop (k + 1) = l.set k v
  | [], k, v, h => by simp at h
  | a :: l, 0, v, h => by simp
  | a :: l, k + 1, v, h => by
    have ih := set_cut l k v (by simpa using h)
    simp [ih]
theorem setCell_ok {m : Nat} {rs : List Row} (ht : OkT m rs) {i c : Nat} (hi : i < rs.length) (hc : c < m) {v : Cell} (hv : OkC v) : OkT m (setCell rs i c v) := by
  refine ⟨ht.lo, ht.hi, by unfold setCell; rw [List.length_set]; exact ht.few, fun r hr => ?_⟩
  unfold setCell at hr
  rcases List.mem_or_eq_of_mem_set hr with h | h
  · exact ht.row r h
  · have hrow := ht.row _ (List.getElem_mem hi)
    rw [h, getD_at hi]
    refine ⟨by rw [List.length_set]; exact hrow.1, fun x hx => ?_⟩
    rcases List.mem_or_eq_of_mem_set hx with h | h
    · exact hrow.2 x h
    · rw [h]
      exact hv
theorem sp_with_cell {m : Nat} {rs : List Row} (ht : OkT m rs) {i c : Nat} (hi : i < rs.length) (hc : c < m) (v : Cell) : evalCall Γ con (n + 1) f_with_cell [.sh (rowsD rs), .sh (plD (i, c)), .sh (cD v)] = some (.sh (rowsD (setCell rs i c v)), []) := by
  refine eq_call g_with_cell rfl ?_
  have hrow := ht.row _ (List.getElem_mem hi)
  have hfew := ht.few
  have hhi := ht.hi
  obtain ⟨R, hR⟩ : ∃ R, R = rs[i] := ⟨_, rfl⟩
  have hix := ix_rows hi
  rw [← hR] at hrow hix
  have hrl := hrow.1
  have c1 := cut_hi (R.map cD) c
  have c2 := cut_lo (R.map cD) (c + 1)
  have c3 := cut_hi (rs.map rowD) i
  have c4 := cut_lo (rs.map rowD) (i + 1)
  have l1 : min c R.length + 1 ≤ lim := ylim (by omega)
  have l2 : min c R.length + 1 + (R.length - (c + 1)) ≤ lim := ylim (by omega)
  have l3 : min i rs.length + 1 ≤ lim := ylim (by omega)
  have l4 : min i rs.length + 1 + (rs.length - (i + 1)) ≤ lim := ylim (by omega)
  have q1 : (R.map cD).take c ++ cD v :: (R.map cD).drop (c + 1) = (R.set c v).map cD := by
    rw [set_cut _ _ _ (by rw [List.length_map]; omega), List.map_set]
  have q2 : (rs.map rowD).take i ++ rowD (R.set c v) :: (rs.map rowD).drop (i + 1) = (setCell rs i c v).map rowD := by
    rw [set_cut _ _ _ (by rw [List.length_map]; omega)]
    unfold setCell
    rw [List.map_set, getD_at hi, hR]
  have c2' : cutD (R.map cD) (some ((c : Int) + 1)) none = (R.map cD).drop (c + 1) := c2
  have c4' : cutD (rs.map rowD) (some ((i : Int) + 1)) none = (rs.map rowD).drop (i + 1) := c4
  simp only [rowD] at q2 hix
  simp only [rowsD, plD, nD, rowD] at hix c3 c4' q2 ⊢
  simp [start, entOf, retE, evs, evOs, evA, evTs, evI, toD, toO, toB, evVar, peek, fetch, fetchs, Val.d, asB, asI, items, stV, stTg, isBo_eq, doCall, argsOf, lents, giveBack, outs, isOwn, isLst, chg, appOb, extOb, cmpD, Option.bind_assoc, isiD, wipeE, con, List.replicate, -List.map_take, -List.map_drop, -List.map_reverse, -List.map_tail, d_with_cell, hix, slD, c1, c2', l1, l2, q1]
  simp [start, entOf, retE, evs, evOs, evA, evTs, evI, toD, toO, toB, evVar, peek, fetch, fetchs, Val.d, asB, asI, items, stV, stTg, isBo_eq, doCall, argsOf, lents, giveBack, outs, isOwn, isLst, chg, appOb, extOb, cmpD, Option.bind_assoc, isiD, wipeE, con, List.replicate, -List.map_take, -List.map_drop, -List.map_reverse, -List.map_tail, c3, c4', l3, l4]
  simp only [List.map_set] at q2
  exact q2
theorem sp_l_with {m : Nat} {rs : List Row} (ht : OkT m rs) {i c : Nat} (hi : i < rs.length) (hc : c < m) (v : Cell) : evalCall Γ con (n + 1) f_l_with [.sh (rowsD rs), .sh (.int (i : Int)), .sh (.int (c : Int)), .sh (cD v)] = some (.sh (rowsD (setCell rs i c v)), []) := by
  refine eq_call g_l_with rfl ?_
  have hrow := ht.row _ (List.getElem_mem hi)
  have hfew := ht.few
  have hhi := ht.hi
  obtain ⟨R, hR⟩ : ∃ R, R = rs[i] := ⟨_, rfl⟩
  have hix := ix_rows hi
  rw [← hR] at hrow hix
  have hrl := hrow.1
  have c1 := cut_hi (R.map cD) c
  have c2 := cut_lo (R.map cD) (c + 1)
  have c3 := cut_hi (rs.map rowD) i
  have c4 := cut_lo (rs.map rowD) (i + 1)
  have l1 : min c R.length + 1 ≤ lim := ylim (by omega)
  have l2 : min c R.length + 1 + (R.length - (c + 1)) ≤ lim := ylim (by omega)
  have l3 : min i rs.length + 1 ≤ lim := ylim (by omega)
  have l4 : min i rs.length + 1 + (rs.length - (i + 1)) ≤ lim := ylim (by omega)
  have q1 : (R.map cD).take c ++ cD v :: (R.map cD).drop (c + 1) = (R.set c v).map cD := by
    rw [set_cut _ _ _ (by rw [List.length_map]; omega), List.map_set]
  have q2 : (rs.map rowD).take i ++ rowD (R.set c v) :: (rs.map rowD).drop (i + 1) = (setCell rs i c v).map rowD := by
    rw [set_cut _ _ _ (by rw [List.length_map]; omega)]
    unfold setCell
    rw [List.map_set, getD_at hi, hR]
  have c2' : cutD (R.map cD) (some ((c : Int) + 1)) none = (R.map cD).drop (c + 1) := c2
  have c4' : cutD (rs.map rowD) (some ((i : Int) + 1)) none = (rs.map rowD).drop (i + 1) := c4
  simp only [rowD] at q2 hix
  simp only [rowsD, plD, nD, rowD] at hix c3 c4' q2 ⊢
  simp [start, entOf, retE, evs, evOs, evA, evTs, evI, toD, toO, toB, evVar, peek, fetch, fetchs, Val.d, asB, asI, items, stV, stTg, isBo_eq, doCall, argsOf, lents, giveBack, outs, isOwn, isLst, chg, appOb, extOb, cmpD, Option.bind_assoc, isiD, wipeE, con, List.replicate, -List.map_take, -List.map_drop, -List.map_reverse, -List.map_tail, d_l_with, hix, slD, c1, c2', l1, l2, q1]
  simp [start, entOf, retE, evs, evOs, evA, evTs, evI, toD, toO, toB, evVar, peek, fetch, fetchs, Val.d, asB, asI, items, stV, stTg, isBo_eq, doCall, argsOf, lents, giveBack, outs, isOwn, isLst, chg, appOb, extOb, cmpD, Option.bind_assoc, isiD, wipeE, con, List.replicate, -List.map_take, -List.map_drop, -List.map_reverse, -List.map_tail, c3, c4', l3, l4]
  simp only [List.map_set] at q2
  exact q2
end MP
end

section
set_option Elab.async false
set_option linter.all false
set_option maxRecDepth 100000
set_option maxHeartbeats 8000000
namespace MP
open PySem
variable {n : Nat}
/-! ### plain: joined cells and values -/
theorem cellAt_lt {m : Nat} {rs : List Row} (ht : OkT m rs) {i c : Nat} {v : Int} (h : cellAt rs i c = some v) : i < rs.length ∧ c < m := by
  unfold cellAt cell at h
  by_cases hi : i < rs.length
  · rw [getD_at hi] at h
    refine ⟨hi, ?_⟩
    rw [← (ht.row _ (List.getElem_mem hi)).1]
    rw [List.getD_eq_getElem?_getD] at h
    cases hq : rs[i][c]? with
    | none => rw [hq] at h; cases h
    | some x => exact (List.getElem?_eq_some_iff.mp hq).1
  · have e : rs.getD i [] = [] := by rw [List.getD_eq_getElem?_getD, List.getElem?_eq_none (by omega)]; rfl
    rw [e] at h
    simp at h
theorem cellAt_ok {m : Nat} {rs : List Row} (ht : OkT m rs) {i c : Nat} {v : Int} (h : cellAt rs i c = some v) : 0 ≤ v ∧ v ≤ 9999 := by
  obtain ⟨hi, hc⟩ := cellAt_lt ht h
  have hrow := ht.row _ (List.getElem_mem hi)
  unfold cellAt cell at h
  rw [getD_at hi, List.getD_eq_getElem?_getD, List.getElem?_eq_getElem (by rw [hrow.1]; exact hc)] at h
  exact hrow.2 _ (List.getElem_mem _) v h
theorem raw_mem {rs : List Row} {gs : List (List Nat)} {c f : Nat} {v : Int} : v ∈ rawOf rs gs c f ↔ ∃ i, i < rs.length ∧ gAt gs c i = f ∧ cellAt rs i c = some v := by
  unfold rawOf rawUp
  rw [List.mem_filterMap]
  constructor
  · rintro ⟨i, hi, h⟩
    refine ⟨i, List.mem_range.mp hi, ?_⟩
    by_cases hf : gAt gs c i = f
    · rw [if_pos hf] at h
      exact ⟨hf, h⟩
    · rw [if_neg hf] at h
      cases h
  · rintro ⟨i, hi, hf, h⟩
    exact ⟨i, List.mem_range.mpr hi, by rw [if_pos hf]; exact h⟩
theorem vals_mem {rs : List Row} {gs : List (List Nat)} {c f : Nat} {v : Int} : v ∈ valsOf rs gs c f ↔ ∃ i, i < rs.length ∧ gAt gs c i = f ∧ cellAt rs i c = some v := by
  rw [vals_eq, once_mem, raw_mem]
theorem two_of_long {l : List Int} (hn : l.Nodup) (h : 1 < l.length) : ∃ v ∈ l, ∃ w ∈ l, v ≠ w := by
  match l, hn, h with
  | a :: b :: r, hn, _ =>
    refine ⟨a, List.mem_cons_self, b, List.mem_cons_of_mem _ List.mem_cons_self, ?_⟩
    intro e
    exact (List.nodup_cons.mp hn).1 (by rw [e]; exact List.mem_cons_self)
theorem long_of_two {l : List Int} {v w : Int} (hv : v ∈ l) (hw : w ∈ l) (h : v ≠ w) : 1 < l.length := by
  match l, hv, hw with
  | [a], hv, hw =>
    rw [List.mem_singleton] at hv hw
    exact absurd (hv.trans hw.symm) h
  | a :: b :: r, _, _ => simp
theorem clash_iff {m : Nat} {rs : List Row} {gs : List (List Nat)} (hs : Shp m rs.length gs) : clash m rs gs = true ↔ ∃ c i j v w, c < m ∧ i < rs.length ∧ j < rs.length ∧ cellAt rs i c = some v ∧ cellAt rs j c = some w ∧ gAt gs c i = gAt gs c j ∧ v ≠ w := by
  unfold clash
  rw [List.any_eq_true]
  constructor
  · rintro ⟨c, hc, h⟩
    rw [List.any_eq_true] at h
    obtain ⟨f, hf, h⟩ := h
    rw [decide_eq_true_eq] at h
    obtain ⟨v, hv, w, hw, hne⟩ := two_of_long (by rw [vals_eq]; exact once_nodup _) h
    obtain ⟨i, hi, e1, e2⟩ := vals_mem.mp hv
    obtain ⟨j, hj, e3, e4⟩ := vals_mem.mp hw
    exact ⟨c, i, j, v, w, List.mem_range.mp hc, hi, hj, e2, e4, by rw [e1, e3], hne⟩
  · rintro ⟨c, i, j, v, w, hc, hi, hj, e2, e4, e, hne⟩
    refine ⟨c, List.mem_range.mpr hc, ?_⟩
    rw [List.any_eq_true]
    refine ⟨gAt gs c i, ?_, ?_⟩
    · have hl := hs.glen hc
      unfold gAt
      rw [List.getD_eq_getElem?_getD (l := gs.getD c []), List.getElem?_eq_getElem (by omega)]
      exact List.getElem_mem _
    · rw [decide_eq_true_eq]
      exact long_of_two (vals_mem.mpr ⟨i, hi, rfl, e2⟩) (vals_mem.mpr ⟨j, hj, e.symm, e4⟩) hne
/-- no two different values are joined -/
def Cons (m : Nat) (rs : List Row) (rules : List Rule) : Prop := ∀ c < m, ∀ i j v w, i < rs.length → j < rs.length → cellAt rs i c = some v → cellAt rs j c = some w → LR rs rules c i j → v = w
theorem clash_cons {m : Nat} {rs : List Row} {rules : List Rule} (hr : OkRs m rules) {gs : List (List Nat)} (hF : FinG m rs rules gs) : clash m rs gs = false ↔ Cons m rs rules := by
  rw [← Bool.not_eq_true, clash_iff hF.1.shp]
  constructor
  · intro h c hc i j v w hi hj e1 e2 hl
    apply Classical.byContradiction
    intro hne
    exact h ⟨c, i, j, v, w, hc, hi, hj, e1, e2, (hF.iff hr hc hi hj).mpr hl, hne⟩
  · rintro h ⟨c, i, j, v, w, hc, hi, hj, e1, e2, e3, hne⟩
    exact hne (h c hc i j v w hi hj e1 e2 ((hF.iff hr hc hi hj).mp e3))
theorem fillable_cons {m : Nat} {rs : List Row} {rules : List Rule} (ht : OkT m rs) (hr : OkRs m rules) : fillable m rs rules = true ↔ Cons m rs rules := by
  obtain ⟨gs, hF⟩ := fin_ex ht hr
  rw [fillable_eq hr hF, Bool.not_eq_true', clash_cons hr hF]
/-- the value of a group without clash -/
theorem valIn_some {m : Nat} {rs : List Row} {rules : List Rule} (hr : OkRs m rules) {gs : List (List Nat)} (hF : FinG m rs rules gs) {c i : Nat} (hc : c < m) (hi : i < rs.length) {v : Int} (h : valIn rs gs c i = some v) : ∃ j, j < rs.length ∧ LR rs rules c i j ∧ cellAt rs j c = some v := by
  unfold valIn at h
  have hv : v ∈ pvals rs gs c (gAt gs c i) := List.mem_of_mem_head? (by rw [h]; exact rfl)
  rw [pvals_eq, sort_mem] at hv
  obtain ⟨j, hj, e1, e2⟩ := vals_mem.mp hv
  exact ⟨j, hj, (hF.iff hr hc hi hj).mp e1.symm, e2⟩
theorem valIn_none {m : Nat} {rs : List Row} {rules : List Rule} (hr : OkRs m rules) {gs : List (List Nat)} (hF : FinG m rs rules gs) {c i : Nat} (hc : c < m) (hi : i < rs.length) (h : valIn rs gs c i = none) : ∀ j, j < rs.length → LR rs rules c i j → cellAt rs j c = none := by
  intro j hj hl
  unfold valIn at h
  rw [List.head?_eq_none_iff] at h
  cases hv : cellAt rs j c with
  | none => rfl
  | some v =>
    have : v ∈ pvals rs gs c (gAt gs c i) := by
      rw [pvals_eq, sort_mem]
      exact vals_mem.mpr ⟨j, hj, ((hF.iff hr hc hi hj).mpr hl).symm, hv⟩
    rw [h] at this
    cases this
/-- the law's first value of a group is the program's -/
theorem vals_head {m : Nat} {rs : List Row} {rules : List Rule} (hr : OkRs m rules) {gs : List (List Nat)} (hF : FinG m rs rules gs) (hcl : clash m rs gs = false) {c i : Nat} (hc : c < m) (hi : i < rs.length) : valsOf rs gs c (gAt gs c i) = (valIn rs gs c i).toList := by
  have hlen : (valsOf rs gs c (gAt gs c i)).length ≤ 1 := by
    apply Classical.byContradiction
    intro h
    have h1 : 1 < (valsOf rs gs c (gAt gs c i)).length := by omega
    obtain ⟨v, hv, w, hw, hne⟩ := two_of_long (by rw [vals_eq]; exact once_nodup _) h1
    obtain ⟨k, hk, e1, e2⟩ := vals_mem.mp hv
    obtain ⟨j, hj, e3, e4⟩ := vals_mem.mp hw
    have := (clash_iff hF.1.shp).mpr ⟨c, k, j, v, w, hc, hk, hj, e2, e4, by rw [e1, e3], hne⟩
    rw [hcl] at this
    cases this
  unfold valIn
  rw [pvals_one hlen]
  match valsOf rs gs c (gAt gs c i), hlen with
  | [], _ => rfl
  | [v], _ => rfl
/-! more known -/
structure Less (rs rs' : List Row) : Prop where
  len : rs'.length = rs.length
  cell : ∀ i c v, cellAt rs i c = some v → cellAt rs' i c = some v
theorem Less.lr {rs rs' : List Row} {rules : List Rule} (h : Less rs rs') {c i j : Nat} (hl : LR rs rules c i j) : LR rs' rules c i j := by
  induction hl with
  | init h1 h2 h3 h4 => exact .init (by rw [h.len]; exact h1) (by rw [h.len]; exact h2) (h.cell _ _ _ h3) (h.cell _ _ _ h4)
  | refl => exact .refl
  | symm _ ih => exact .symm ih
  | trans _ _ ih1 ih2 => exact .trans ih1 ih2
  | rule hr hi hj _ ih => exact .rule hr (by rw [h.len]; exact hi) (by rw [h.len]; exact hj) ih
theorem Less.cons {m : Nat} {rs rs' : List Row} {rules : List Rule} (h : Less rs rs') (hc : Cons m rs' rules) : Cons m rs rules := fun c hcm i j v w hi hj e1 e2 hl =>
  hc c hcm i j v w (by rw [h.len]; exact hi) (by rw [h.len]; exact hj) (h.cell _ _ _ e1) (h.cell _ _ _ e2) (h.lr hl)
theorem Less.trans {a b c : List Row} (h1 : Less a b) (h2 : Less b c) : Less a c := ⟨h2.len.trans h1.len, fun i k v h => h2.cell _ _ _ (h1.cell _ _ _ h)⟩
/-- joined by what is joined already: any relation that is an equivalence, keeps the rules and has the equal cells -/
theorem LR.sub {rs : List Row} {rules : List Rule} (P : Nat → Nat → Nat → Prop) (h0 : ∀ c i, P c i i) (h1 : ∀ c i j, P c i j → P c j i) (h2 : ∀ c i j k, P c i j → P c j k → P c i k)
    (h3 : ∀ c i j v, i < rs.length → j < rs.length → cellAt rs i c = some v → cellAt rs j c = some v → P c i j) (h4 : ∀ ru ∈ rules, ∀ i j, i < rs.length → j < rs.length → (∀ c ∈ ru.1, P c i j) → P ru.2 i j) {c i j : Nat} (h : LR rs rules c i j) : P c i j := by
  induction h with
  | init a b e1 e2 => exact h3 _ _ _ _ a b e1 e2
  | refl => exact h0 _ _
  | symm _ ih => exact h1 _ _ _ ih
  | trans _ _ a b => exact h2 _ _ _ _ a b
  | rule hr hi hj _ ih => exact h4 _ hr _ _ hi hj ih
theorem cell_set {m : Nat} {rs : List Row} (ht : OkT m rs) {i c : Nat} (hi : i < rs.length) (hc : c < m) (v : Cell) (k d : Nat) : cellAt (setCell rs i c v) k d = if k = i ∧ d = c then v else cellAt rs k d := by
  have hrow := ht.row _ (List.getElem_mem hi)
  unfold cellAt cell setCell
  rw [getD_at hi]
  simp only [List.getD_eq_getElem?_getD]
  by_cases hk : k = i
  · subst hk
    rw [List.getElem?_set_self hi, List.getElem?_eq_getElem hi]
    simp only [Option.getD_some, true_and]
    by_cases hd : d = c
    · subst hd
      rw [if_pos rfl, List.getElem?_set_self (by rw [hrow.1]; exact hc)]
      rfl
    · rw [if_neg hd, List.getElem?_set_ne (Ne.symm hd)]
  · rw [List.getElem?_set_ne (Ne.symm hk), if_neg (fun h => hk h.1)]
theorem set_len (rs : List Row) (i c : Nat) (v : Cell) : (setCell rs i c v).length = rs.length := by
  unfold setCell
  rw [List.length_set]
theorem set_less {m : Nat} {rs : List Row} (ht : OkT m rs) {i c : Nat} (hi : i < rs.length) (hc : c < m) (v : Int) (h : cellAt rs i c = none ∨ cellAt rs i c = some v) : Less rs (setCell rs i c (some v)) := by
  refine ⟨set_len _ _ _ _, fun k d w hw => ?_⟩
  rw [cell_set ht hi hc]
  by_cases he : k = i ∧ d = c
  · rw [if_pos he]
    rw [he.1, he.2] at hw
    rcases h with h | h
    · rw [h] at hw; cases hw
    · rw [h] at hw; exact hw
  · rw [if_neg he]
    exact hw
/-- a blank with a new value: nothing more is joined -/
theorem lr_new {m : Nat} {rs : List Row} {rules : List Rule} (ht : OkT m rs) {i c : Nat} (hi : i < rs.length) (hc : c < m) {v : Int} (hv : ∀ j, cellAt rs j c ≠ some v) {d a b : Nat} (h : LR (setCell rs i c (some v)) rules d a b) : LR rs rules d a b := by
  refine LR.sub (fun d a b => LR rs rules d a b) (fun _ _ => .refl) (fun _ _ _ => .symm) (fun _ _ _ _ => .trans) (fun d a b w ha hb e1 e2 => ?_) (fun ru hr a b ha hb hh => .rule hr (by rw [set_len] at ha; exact ha) (by rw [set_len] at hb; exact hb) hh) h
  rw [set_len] at ha hb
  rw [cell_set ht hi hc] at e1 e2
  by_cases q1 : a = i ∧ d = c
  · by_cases q2 : b = i ∧ d = c
    · rw [q1.1, q2.1]
      exact .refl
    · rw [if_pos q1] at e1
      rw [if_neg q2] at e2
      cases e1
      rw [q1.2] at e2
      exact absurd e2 (hv b)
  · rw [if_neg q1] at e1
    by_cases q2 : b = i ∧ d = c
    · rw [if_pos q2] at e2
      cases e2
      rw [q2.2] at e1
      exact absurd e1 (hv a)
    · rw [if_neg q2] at e2
      exact .init ha hb e1 e2
/-- the group of a cell has no value -/
def Bare (rs : List Row) (rules : List Rule) (c i : Nat) : Prop := ∀ j, j < rs.length → LR rs rules c i j → cellAt rs j c = none
/-- the group of a cell has a value -/
def Has (rs : List Row) (rules : List Rule) (c i : Nat) (v : Int) : Prop := ∃ j, j < rs.length ∧ LR rs rules c i j ∧ cellAt rs j c = some v
theorem cons_new {m : Nat} {rs : List Row} {rules : List Rule} (ht : OkT m rs) {i c : Nat} (hi : i < rs.length) (hc : c < m) (hb : Bare rs rules c i) (hC : Cons m rs rules) {v : Int} (hv : ∀ j, cellAt rs j c ≠ some v) : Cons m (setCell rs i c (some v)) rules := by
  intro d hd a b x y ha hb' e1 e2 hl
  rw [set_len] at ha hb'
  have hl' := lr_new ht hi hc hv hl
  rw [cell_set ht hi hc] at e1 e2
  by_cases q1 : a = i ∧ d = c
  · by_cases q2 : b = i ∧ d = c
    · rw [if_pos q1] at e1
      rw [if_pos q2] at e2
      cases e1
      cases e2
      rfl
    · rw [if_neg q2] at e2
      rw [q1.1, q1.2] at hl'
      rw [q1.2, hb b hb' hl'] at e2
      cases e2
  · rw [if_neg q1] at e1
    by_cases q2 : b = i ∧ d = c
    · rw [q2.1, q2.2] at hl'
      rw [q2.2, hb a ha (.symm hl')] at e1
      cases e1
    · rw [if_neg q2] at e2
      exact hC d hd a b x y ha hb' e1 e2 hl'
/-- a cell with the value that it has anyway -/
theorem lr_own {m : Nat} {rs : List Row} {rules : List Rule} (ht : OkT m rs) {i c : Nat} (hi : i < rs.length) (hc : c < m) {v : Int} (hv : Has rs rules c i v) {d a b : Nat} (h : LR (setCell rs i c (some v)) rules d a b) : LR rs rules d a b := by
  obtain ⟨k, hk, hik, hkv⟩ := hv
  refine LR.sub (fun d a b => LR rs rules d a b) (fun _ _ => .refl) (fun _ _ _ => .symm) (fun _ _ _ _ => .trans) (fun d a b w ha hb e1 e2 => ?_) (fun ru hr a b ha hb hh => .rule hr (by rw [set_len] at ha; exact ha) (by rw [set_len] at hb; exact hb) hh) h
  rw [set_len] at ha hb
  rw [cell_set ht hi hc] at e1 e2
  by_cases q1 : a = i ∧ d = c
  · by_cases q2 : b = i ∧ d = c
    · rw [q1.1, q2.1]
      exact .refl
    · rw [if_pos q1] at e1
      rw [if_neg q2] at e2
      cases e1
      obtain ⟨rfl, rfl⟩ := q1
      exact .trans hik (.init hk hb hkv e2)
  · rw [if_neg q1] at e1
    by_cases q2 : b = i ∧ d = c
    · rw [if_pos q2] at e2
      cases e2
      obtain ⟨rfl, rfl⟩ := q2
      exact .symm (.trans hik (.init hk ha hkv e1))
    · rw [if_neg q2] at e2
      exact .init ha hb e1 e2
theorem cons_own {m : Nat} {rs : List Row} {rules : List Rule} (ht : OkT m rs) {i c : Nat} (hi : i < rs.length) (hc : c < m) (hC : Cons m rs rules) {v : Int} (hv : Has rs rules c i v) : Cons m (setCell rs i c (some v)) rules := by
  intro d hd a b x y ha hb e1 e2 hl
  rw [set_len] at ha hb
  have hl' := lr_own ht hi hc hv hl
  obtain ⟨k, hk, hik, hkv⟩ := hv
  rw [cell_set ht hi hc] at e1 e2
  by_cases q1 : a = i ∧ d = c
  · rw [if_pos q1] at e1
    cases e1
    obtain ⟨rfl, rfl⟩ := q1
    by_cases q2 : b = a ∧ d = d
    · rw [if_pos q2] at e2
      cases e2
      rfl
    · rw [if_neg q2] at e2
      exact hC d hd k b v y hk hb hkv e2 (.trans (.symm hik) hl')
  · rw [if_neg q1] at e1
    by_cases q2 : b = i ∧ d = c
    · rw [if_pos q2] at e2
      cases e2
      obtain ⟨rfl, rfl⟩ := q2
      exact hC d hd a k x v ha hk e1 hkv (.trans hl' hik)
    · rw [if_neg q2] at e2
      exact hC d hd a b x y ha hb e1 e2 hl'
/-- another value than its own -/
theorem cons_other {m : Nat} {rs : List Row} {rules : List Rule} (ht : OkT m rs) {i c : Nat} (hi : i < rs.length) (hc : c < m) {v w : Int} (hv : Has rs rules c i v) (hw : cellAt rs i c = none ∨ cellAt rs i c = some w) (hC : Cons m (setCell rs i c (some w)) rules) : v = w := by
  obtain ⟨k, hk, hik, hkv⟩ := hv
  have hl := set_less ht hi hc w hw
  refine hC c hc k i v w (by rw [set_len]; exact hk) (by rw [set_len]; exact hi) (hl.cell _ _ _ hkv) ?_ (hl.lr (.symm hik))
  rw [cell_set ht hi hc, if_pos ⟨rfl, rfl⟩]
end MP
end

section
set_option Elab.async false
set_option linter.all false
set_option maxRecDepth 100000
set_option maxHeartbeats 8000000
namespace MP
open PySem
variable {n : Nat}
theorem sp_need_place {m : Nat} {rs : List Row} {i c : Nat} (hi : i < rs.length) (hc : c < m) : evalCall Γ con (n + 3) f_need_place [.sh (tabD m rs), .sh (plD (i, c))] = some (.sh .none, []) := by
  refine eq_call g_need_place rfl ?_
  have h1 : (0 : Int) ≤ (i : Int) ∧ (i : Int) ≤ (rs.length : Int) - 1 := by omega
  have h2 : (0 : Int) ≤ (c : Int) ∧ (c : Int) ≤ (m : Int) - 1 := by omega
  simp only [tabD, plD, nD, rowsD]
  simp [start, entOf, retE, evs, evOs, evA, evTs, evI, toD, toO, toB, evVar, peek, fetch, fetchs, Val.d, asB, asI, items, stV, stTg, isBo_eq, doCall, argsOf, lents, giveBack, outs, isOwn, isLst, chg, appOb, extOb, cmpD, Option.bind_assoc, isiD, wipeE, con, List.replicate, -List.map_take, -List.map_drop, -List.map_reverse, -List.map_tail, d_need_place, sp_is_between, h1, h2]
theorem sp_need_groups {m : Nat} {rs : List Row} {rules : List Rule} (ht : OkT m rs) (hr : OkRs m rules) {gs : List (List Nat)} (hF : FinG m rs rules gs) (hcl : clash m rs gs = false) : evalCall Γ con (n + 5) f_need_groups [.sh (tabD m rs), .sh (rulesD rules)] = some (.sh (gsD gs), []) := by
  refine eq_call g_need_groups rfl ?_
  have e1 := groups_val (n := n) ht hr hF
  have e2 := sp_is_conflict (n := n + 2) ht hF.1.shp
  rw [hcl] at e2
  obtain ⟨G, hG⟩ : ∃ G, G = gsD gs := ⟨_, rfl⟩
  rw [← hG] at e1 e2 ⊢
  simp only [tabD]
  simp [start, entOf, retE, evs, evOs, evA, evTs, evI, toD, toO, toB, evVar, peek, fetch, fetchs, Val.d, asB, asI, items, stV, stTg, isBo_eq, doCall, argsOf, lents, giveBack, outs, isOwn, isLst, chg, appOb, extOb, cmpD, Option.bind_assoc, isiD, wipeE, con, List.replicate, -List.map_take, -List.map_drop, -List.map_reverse, -List.map_tail, d_need_groups, e1, e2]
theorem sp_may_be {m : Nat} {rs : List Row} {rules : List Rule} (ht : OkT m rs) (hr : OkRs m rules) {i c : Nat} (hi : i < rs.length) (hc : c < m) {v : Int} (hv : 0 ≤ v ∧ v ≤ 9999) : evalCall Γ con (n + 6) f_may_be [.sh (tabD m rs), .sh (rulesD rules), .sh (plD (i, c)), .sh (.int v)] = some (.sh (.bool (fillable m (setCell rs i c (some v)) rules)), []) := by
  refine eq_call g_may_be rfl ?_
  have e1 := sp_with_cell (n := n + 4) ht hi hc (some v)
  have e2 := has_val (n := n) (setCell_ok ht hi hc (v := some v) (fun w hw => by cases hw; exact hv)) hr
  simp only [tabD, cD] at e1 ⊢
  simp [start, entOf, retE, evs, evOs, evA, evTs, evI, toD, toO, toB, evVar, peek, fetch, fetchs, Val.d, asB, asI, items, stV, stTg, isBo_eq, doCall, argsOf, lents, giveBack, outs, isOwn, isLst, chg, appOb, extOb, cmpD, Option.bind_assoc, isiD, wipeE, con, List.replicate, -List.map_take, -List.map_drop, -List.map_reverse, -List.map_tail, d_may_be, e1, e2]
/-- the values of a column, ascending -/
def colVals (rs : List Row) (c : Nat) : List Int := sortI (onceI ((colOf rs c).filterMap id))
theorem colVals_mem {rs : List Row} {c : Nat} {v : Int} : v ∈ colVals rs c ↔ ∃ i, i < rs.length ∧ cellAt rs i c = some v := by
  unfold colVals
  rw [sort_mem, once_mem, List.mem_filterMap]
  constructor
  · rintro ⟨x, hx, h⟩
    obtain ⟨i, hi, rfl⟩ := List.getElem_of_mem hx
    rw [col_cells] at hi
    refine ⟨i, hi, ?_⟩
    rw [col_at] at h
    exact h
  · rintro ⟨i, hi, h⟩
    refine ⟨some v, ?_, rfl⟩
    have hi' : i < (colOf rs c).length := by rw [col_cells]; exact hi
    rw [← h, ← col_at rs c i hi']
    exact List.getElem_mem hi'
theorem colVals_asc (rs : List Row) (c : Nat) : (colVals rs c).Pairwise (· < ·) := sort_asc _ (once_nodup _)
theorem once_len : ∀ l : List Int, (onceI l).length ≤ l.length
  | [] => by simp [onceI]
  | a :: l => by
    have := once_len l
    have := List.length_filter_le (fun b => decide (b ≠ a)) (onceI l)
    simp only [onceI, List.length_cons]
    omega
theorem colVals_len (rs : List Row) (c : Nat) : (colVals rs c).length ≤ rs.length := by
  unfold colVals
  rw [(sortI_perm _).length_eq]
  refine Nat.le_trans (once_len _) (Nat.le_trans (List.length_filterMap_le _ _) ?_)
  rw [col_cells]
  exact Nat.le_refl _
theorem some_cells' (l : List Cell) : (l.filter fun c => c.isSome).map cD = (l.filterMap id).map .int := some_cells l
theorem sp_column_values {m : Nat} {rs : List Row} (ht : OkT m rs) {c : Nat} (hc : c < m) : evalCall Γ con (n + 2) f_column_values [.sh (tabD m rs), .sh (.int (c : Int))] = some (.ow (.lst ((colVals rs c).map .int)), []) := by
  refine eq_call g_column_values rfl ?_
  have hfew := ht.few
  have e1 := sp_values_at (n := n) ht hc
  have hl := col_cells rs c
  simp only [tabD]
  simp [start, entOf, retE, evs, evOs, evA, evTs, evI, toD, toO, toB, evVar, peek, fetch, fetchs, Val.d, asB, asI, items, stV, stTg, isBo_eq, doCall, argsOf, lents, giveBack, outs, isOwn, isLst, chg, appOb, extOb, cmpD, Option.bind_assoc, isiD, wipeE, con, List.replicate, -List.map_take, -List.map_drop, -List.map_reverse, -List.map_tail, d_column_values, e1, kN (k := (colOf rs c).length) (by omega)]
  refine gets_lcf cD (fun x => x.isSome) cD (fun x hx => ?_) ?_
  · cases x <;> simp [start, entOf, retE, evs, evOs, evA, evTs, evI, toD, toO, toB, evVar, peek, fetch, fetchs, Val.d, asB, asI, items, stV, stTg, isBo_eq, doCall, argsOf, lents, giveBack, outs, isOwn, isLst, chg, appOb, extOb, cmpD, Option.bind_assoc, isiD, wipeE, con, List.replicate, -List.map_take, -List.map_drop, -List.map_reverse, -List.map_tail, evT, evD, cD]
  · rw [some_cells']
    have h2 : ((colOf rs c).filterMap id).length < 64 := Nat.lt_of_le_of_lt (List.length_filterMap_le _ _) (by omega)
    simp [start, entOf, retE, evs, evOs, evA, evTs, evI, toD, toO, toB, evVar, peek, fetch, fetchs, Val.d, asB, asI, items, stV, stTg, isBo_eq, doCall, argsOf, lents, giveBack, outs, isOwn, isLst, chg, appOb, extOb, cmpD, Option.bind_assoc, isiD, wipeE, con, List.replicate, -List.map_take, -List.map_drop, -List.map_reverse, -List.map_tail, sset_i _ h2, colVals]
def choD (d : Cell) (l : List Int) : D := match d with
  | some v => .tuple [.str "only", .int v]
  | none => .tuple [.str "all but", .tuple (l.map .int)]
theorem sp_choices {m : Nat} {rs : List Row} {rules : List Rule} (ht : OkT m rs) (hr : OkRs m rules) {gs : List (List Nat)} (hF : FinG m rs rules gs) (hcl : clash m rs gs = false) {i c : Nat} (hi : i < rs.length) (hc : c < m) :
    evalCall Γ con (n + 10) f_choices [.sh (tabD m rs), .sh (rulesD rules), .sh (plD (i, c))] = some (.sh (choD (valIn rs gs c i) ((colVals rs c).filter fun v => !fillable m (setCell rs i c (some v)) rules)), []) := by
  refine eq_call g_choices rfl ?_
  have e1 := sp_need_both (n := n + 1) m rs rules ht hr
  have e2 := sp_need_place (n := n + 6) (m := m) (rs := rs) hi hc
  have e3 := sp_need_groups (n := n + 4) ht hr hF hcl
  have e4 := sp_value_in (n := n + 7) ht hF.1.shp hc hi
  have e5 := sp_column_values (n := n + 7) ht hc
  have hfew := ht.few
  have hl := colVals_len rs c
  obtain ⟨G, hG⟩ : ∃ G, G = gsD gs := ⟨_, rfl⟩
  rw [← hG] at e3 e4
  obtain ⟨T, hT⟩ : ∃ T, T = tabD m rs := ⟨_, rfl⟩
  have hT1 : ixD T (.int 1) = some (rowsD rs) := by rw [hT]; unfold tabD; rw [ixT1]; rfl
  have e6 : ∀ v ∈ colVals rs c, evalCall Γ con (n + 9) f_may_be [.sh T, .sh (rulesD rules), .sh (plD (i, c)), .sh (.int v)] = some (.sh (.bool (fillable m (setCell rs i c (some v)) rules)), []) := fun v hv => by
    obtain ⟨k, hk, e⟩ := colVals_mem.mp hv
    rw [hT]
    exact sp_may_be (n := n + 3) ht hr hi hc (cellAt_ok ht e)
  rw [← hT] at e1 e2 e3 e5 ⊢
  simp only [plD, nD] at e2 e6 ⊢
  cases hv : valIn rs gs c i with
  | some v =>
    rw [hv] at e4
    simp only [cD] at e4
    simp [start, entOf, retE, evs, evOs, evA, evTs, evI, toD, toO, toB, evVar, peek, fetch, fetchs, Val.d, asB, asI, items, stV, stTg, isBo_eq, doCall, argsOf, lents, giveBack, outs, isOwn, isLst, chg, appOb, extOb, cmpD, Option.bind_assoc, isiD, wipeE, con, List.replicate, -List.map_take, -List.map_drop, -List.map_reverse, -List.map_tail, d_choices, e1, e2, e3, hT1, e4, choD]
  | none =>
    rw [hv] at e4
    simp only [cD] at e4
    simp [start, entOf, retE, evs, evOs, evA, evTs, evI, toD, toO, toB, evVar, peek, fetch, fetchs, Val.d, asB, asI, items, stV, stTg, isBo_eq, doCall, argsOf, lents, giveBack, outs, isOwn, isLst, chg, appOb, extOb, cmpD, Option.bind_assoc, isiD, wipeE, con, List.replicate, -List.map_take, -List.map_drop, -List.map_reverse, -List.map_tail, d_choices, e1, e2, e3, hT1, e4, e5, kN (k := (colVals rs c).length) (by omega)]
    refine gets_lcf PyData.int (fun v => !fillable m (setCell rs i c (some v)) rules) PyData.int (fun v hv => ?_) ?_
    · have e7 := e6 v hv
      cases hq : fillable m (setCell rs i c (some v)) rules with
      | true =>
        rw [hq] at e7
        simp [start, entOf, retE, evs, evOs, evA, evTs, evI, toD, toO, toB, evVar, peek, fetch, fetchs, Val.d, asB, asI, items, stV, stTg, isBo_eq, doCall, argsOf, lents, giveBack, outs, isOwn, isLst, chg, appOb, extOb, cmpD, Option.bind_assoc, isiD, wipeE, con, List.replicate, -List.map_take, -List.map_drop, -List.map_reverse, -List.map_tail, evT, evD, e7]
      | false =>
        rw [hq] at e7
        simp [start, entOf, retE, evs, evOs, evA, evTs, evI, toD, toO, toB, evVar, peek, fetch, fetchs, Val.d, asB, asI, items, stV, stTg, isBo_eq, doCall, argsOf, lents, giveBack, outs, isOwn, isLst, chg, appOb, extOb, cmpD, Option.bind_assoc, isiD, wipeE, con, List.replicate, -List.map_take, -List.map_drop, -List.map_reverse, -List.map_tail, evT, evD, e7]
    · simp [start, entOf, retE, evs, evOs, evA, evTs, evI, toD, toO, toB, evVar, peek, fetch, fetchs, Val.d, asB, asI, items, stV, stTg, isBo_eq, doCall, argsOf, lents, giveBack, outs, isOwn, isLst, chg, appOb, extOb, cmpD, Option.bind_assoc, isiD, wipeE, con, List.replicate, -List.map_take, -List.map_drop, -List.map_reverse, -List.map_tail, choD]
/-! the law's due -/
def had2 (rs : List Row) : List Int := sortI (onceI ([0, 1] ++ hadOf rs))
theorem had_mem {m : Nat} {rs : List Row} (ht : OkT m rs) {v : Int} : v ∈ hadOf rs ↔ ∃ i c, cellAt rs i c = some v := by
  unfold hadOf
  rw [List.mem_flatten]
  constructor
  · rintro ⟨l, hl, hv⟩
    obtain ⟨r, hr, rfl⟩ := List.mem_map.mp hl
    obtain ⟨x, hx, h⟩ := List.mem_filterMap.mp hv
    obtain ⟨i, hi, rfl⟩ := List.getElem_of_mem hr
    obtain ⟨c, hc, rfl⟩ := List.getElem_of_mem hx
    refine ⟨i, c, ?_⟩
    unfold cellAt cell
    rw [getD_at hi, List.getD_eq_getElem?_getD, List.getElem?_eq_getElem hc]
    exact h
  · rintro ⟨i, c, h⟩
    obtain ⟨hi, hc⟩ := cellAt_lt ht h
    refine ⟨_, List.mem_map.mpr ⟨rs[i], List.getElem_mem hi, rfl⟩, List.mem_filterMap.mpr ⟨some v, ?_, rfl⟩⟩
    unfold cellAt cell at h
    have hrow := ht.row _ (List.getElem_mem hi)
    rw [getD_at hi, List.getD_eq_getElem?_getD, List.getElem?_eq_getElem (by rw [hrow.1]; exact hc)] at h
    rw [← show rs[i][c]'(by rw [hrow.1]; exact hc) = some v from h]
    exact List.getElem_mem _
theorem barred_eq {m : Nat} {rs : List Row} {rules : List Rule} (ht : OkT m rs) (hr : OkRs m rules) {i c : Nat} (hi : i < rs.length) (hc : c < m) (hb : Bare rs rules c i) (hC : Cons m rs rules) :
    (had2 rs).filter (fun v => !fillable m (setCell rs i c (some v)) rules) = (colVals rs c).filter fun v => !fillable m (setCell rs i c (some v)) rules := by
  refine asc_ext ((sort_asc _ (once_nodup _)).filter _) ((colVals_asc rs c).filter _) fun v => ?_
  rw [List.mem_filter, List.mem_filter]
  constructor
  · rintro ⟨h1, h2⟩
    refine ⟨?_, h2⟩
    apply Classical.byContradiction
    intro hn
    have hv : ∀ j, cellAt rs j c ≠ some v := fun j e => hn (colVals_mem.mpr ⟨j, (cellAt_lt ht e).1, e⟩)
    have hvo : 0 ≤ v ∧ v ≤ 9999 := by
      unfold had2 at h1
      rw [sort_mem, once_mem] at h1
      rcases List.mem_append.mp h1 with h | h
      · simp at h
        omega
      · obtain ⟨k, d, e⟩ := (had_mem ht).mp h
        exact cellAt_ok ht e
    have := (fillable_cons (setCell_ok ht hi hc (v := some v) (fun w hw => by cases hw; exact hvo)) hr).mpr (cons_new ht hi hc hb hC hv)
    rw [this] at h2
    cases h2
  · rintro ⟨h1, h2⟩
    refine ⟨?_, h2⟩
    obtain ⟨k, _, e⟩ := colVals_mem.mp h1
    unfold had2
    rw [sort_mem, once_mem]
    exact List.mem_append_right _ ((had_mem ht).mpr ⟨k, c, e⟩)
theorem had2_ok {m : Nat} {rs : List Row} (ht : OkT m rs) {v : Int} (h1 : v ∈ had2 rs) : 0 ≤ v ∧ v ≤ 9999 := by
  unfold had2 at h1
  rw [sort_mem, once_mem] at h1
  rcases List.mem_append.mp h1 with h | h
  · simp at h
    omega
  · obtain ⟨k, d, e⟩ := (had_mem ht).mp h
    exact cellAt_ok ht e
theorem filter_take {α : Type} (l : List α) (p : α → Bool) (k : Nat) (hk : k < l.length) : (l.take (k + 1)).filter p = (l.take k).filter p ++ (if p l[k] then [l[k]] else []) := by
  rw [← List.take_append_getElem hk, List.filter_append]
  congr 1
  cases h : p l[k] <;> simp [h]
theorem sp_l_due {m : Nat} {rs : List Row} {rules : List Rule} (ht : OkT m rs) (hr : OkRs m rules) {gs : List (List Nat)} (hF : FinG m rs rules gs) (hcl : clash m rs gs = false) {i c : Nat} (hi : i < rs.length) (hc : c < m) :
    evalCall Γ con (n + 4) f_l_due [.sh (.int (m : Int)), .sh (rowsD rs), .sh (rulesD rules), .sh (.int (i : Int)), .sh (.int (c : Int))] = some (.sh (choD (valIn rs gs c i) ((had2 rs).filter fun v => !fillable m (setCell rs i c (some v)) rules)), []) := by
  refine eq_call g_l_due rfl ?_
  have e1 := joined_val (n := n + 2) ht hr hF
  have e2 := sp_values (n := n + 2) m rs rules gs ht hF.1 c (gAt gs c i) hc
  rw [vals_head hr hF hcl hc hi] at e2
  have hl := hF.1.glen hc
  have x1 : ixD (.list (gs.map grpD)) (.int (c : Int)) = some (grpD (gs.getD c [])) := grp_at (by rw [hF.1.len]; exact hc)
  have x2 : ixD (grpD (gs.getD c [])) (.int (i : Int)) = some (nD (gAt gs c i)) := lab_at (by omega)
  obtain ⟨G, hG⟩ : ∃ G, G = grpD (gs.getD c []) := ⟨_, rfl⟩
  rw [← hG] at x1 x2
  have hfew := ht.few
  cases hv : valIn rs gs c i with
  | some v =>
    rw [hv] at e2
    simp only [Option.toList_some, List.map_cons, List.map_nil] at e2
    have q := eqL_ints [v]
    simp only [List.map_cons, List.map_nil, List.isEmpty_cons] at q
    simp [start, entOf, retE, evs, evOs, evA, evTs, evI, toD, toO, toB, evVar, peek, fetch, fetchs, Val.d, asB, asI, items, stV, stTg, isBo_eq, doCall, argsOf, lents, giveBack, outs, isOwn, isLst, chg, appOb, extOb, cmpD, Option.bind_assoc, isiD, wipeE, con, List.replicate, -List.map_take, -List.map_drop, -List.map_reverse, -List.map_tail, d_l_due, e1, x1, x2, nD, e2, q, choD]
  | none =>
    rw [hv] at e2
    simp only [Option.toList_none, List.map_nil] at e2
    have q := eqL_ints []
    simp only [List.map_nil, List.isEmpty_nil] at q
    simp only [rowsD] at e1 e2 ⊢
    simp [start, entOf, retE, evs, evOs, evA, evTs, evI, toD, toO, toB, evVar, peek, fetch, fetchs, Val.d, asB, asI, items, stV, stTg, isBo_eq, doCall, argsOf, lents, giveBack, outs, isOwn, isLst, chg, appOb, extOb, cmpD, Option.bind_assoc, isiD, wipeE, con, List.replicate, -List.map_take, -List.map_drop, -List.map_reverse, -List.map_tail, d_l_due, e1, x1, x2, nD, e2, q]
    obtain ⟨GS, hGS⟩ : ∃ GS : D, GS = .list (gs.map grpD) := ⟨_, rfl⟩
    rw [← hGS]
    refine gets_for (fun k ρ => ∃ e8 : NBE, ρ = [.sh (.int (m : Int)), .sh (.tuple (rs.map rowD)), .sh (rulesD rules), .sh (.int (i : Int)), .sh (.int (c : Int)), .sh GS, .sh (.list []), .ow (.lst (([0, 1] ++ hadUp rs k).map .int)), e8.e, .un, .un, .un]) ⟨nUn, rfl⟩ ?_ ?_
    · rintro k hk ρ ⟨e8, rfl⟩
      rw [List.length_map] at hk
      have hh := hadUp_len ht.le5 k
      have hrl : rs[k].length ≤ 5 := ht.le5 _ (List.getElem_mem hk)
      simp only [List.getElem_map]
      simp [start, entOf, retE, evs, evOs, evA, evTs, evI, toD, toO, toB, evVar, peek, fetch, fetchs, Val.d, asB, asI, items, stV, stTg, isBo_eq, doCall, argsOf, lents, giveBack, outs, isOwn, isLst, chg, appOb, extOb, cmpD, Option.bind_assoc, isiD, wipeE, con, List.replicate, -List.map_take, -List.map_drop, -List.map_reverse, -List.map_tail, exB, rowD, kN (k := rs[k].length) (by omega)]
      refine gets_lcf cD (fun c => c.isSome) cD (fun c hc => ?_) ?_
      · cases c <;> simp [start, entOf, retE, evs, evOs, evA, evTs, evI, toD, toO, toB, evVar, peek, fetch, fetchs, Val.d, asB, asI, items, stV, stTg, isBo_eq, doCall, argsOf, lents, giveBack, outs, isOwn, isLst, chg, appOb, extOb, cmpD, Option.bind_assoc, isiD, wipeE, con, List.replicate, -List.map_take, -List.map_drop, -List.map_reverse, -List.map_tail, evT, evD, cD]
      · rw [some_cells]
        have h3 := List.length_filterMap_le id rs[k]
        have hap : (hadUp rs k).length + 1 + 1 + (rs[k].filterMap id).length ≤ lim := ylim (by omega)
        simp [start, entOf, retE, evs, evOs, evA, evTs, evI, toD, toO, toB, evVar, peek, fetch, fetchs, Val.d, asB, asI, items, stV, stTg, isBo_eq, doCall, argsOf, lents, giveBack, outs, isOwn, isLst, chg, appOb, extOb, cmpD, Option.bind_assoc, isiD, wipeE, con, List.replicate, -List.map_take, -List.map_drop, -List.map_reverse, -List.map_tail, hap]
        simp [hadUp_succ rs k hk]
    · rintro ρ' ⟨e8, rfl⟩
      have eh : hadUp rs (rs.map rowD).length = hadOf rs := by
        unfold hadUp hadOf
        rw [List.length_map, List.take_length]
      rw [eh]
      have hhl := had_len ht
      have hss := sset_i ([0, 1] ++ hadOf rs) (by simp; omega)
      have h2l : (had2 rs).length ≤ 42 := by
        unfold had2
        rw [(sortI_perm _).length_eq]
        refine Nat.le_trans (once_len _) ?_
        simp
        omega
      have hss' : ssetD (.list (([0, 1] ++ hadOf rs).map .int)) = some (.ow (.lst ((had2 rs).map .int))) := hss
      obtain ⟨A, hA⟩ : ∃ A, A = ([0, 1] ++ hadOf rs).map PyData.int := ⟨_, rfl⟩
      rw [← hA] at hss' ⊢
      simp [start, entOf, retE, evs, evOs, evA, evTs, evI, toD, toO, toB, evVar, peek, fetch, fetchs, Val.d, asB, asI, items, stV, stTg, isBo_eq, doCall, argsOf, lents, giveBack, outs, isOwn, isLst, chg, appOb, extOb, cmpD, Option.bind_assoc, isiD, wipeE, con, List.replicate, -List.map_take, -List.map_drop, -List.map_reverse, -List.map_tail, hss']
      refine gets_for (fun k ρ => ∃ e8 e10 : NBE, ρ = [.sh (.int (m : Int)), .sh (.tuple (rs.map rowD)), .sh (rulesD rules), .sh (.int (i : Int)), .sh (.int (c : Int)), .sh GS, .sh (.list []), .ow (.lst A), e8.e, .ow (.lst ((((had2 rs).take k).filter fun v => !fillable m (setCell rs i c (some v)) rules).map .int)), e10.e, .un]) ⟨e8, nUn, rfl⟩ ?_ ?_
      · rintro k hk ρ ⟨e8, e10, rfl⟩
        rw [List.length_map] at hk
        have hvo := had2_ok ht (List.getElem_mem hk)
        have hft := filter_take (had2 rs) (fun v => !fillable m (setCell rs i c (some v)) rules) k hk
        rw [hft]
        have hfl : ((((had2 rs).take k).filter fun v => !fillable m (setCell rs i c (some v)) rules)).length ≤ k := Nat.le_trans (List.length_filter_le _ _) (by rw [List.length_take]; omega)
        have hfl' : ((((had2 rs).take k).filter fun v => !fillable m (setCell rs i c (some v)) rules)).length < lim := ylim' (by omega)
        simp only [List.getElem_map]
        obtain ⟨v, hv⟩ : ∃ v, v = (had2 rs)[k] := ⟨_, rfl⟩
        rw [← hv] at hvo ⊢
        obtain ⟨F, hFl⟩ : ∃ F, F = (((had2 rs).take k).filter fun v => !fillable m (setCell rs i c (some v)) rules) := ⟨_, rfl⟩
        rw [← hFl] at hfl' ⊢
        have f1 := sp_l_with (n := n + 2) ht hi hc (some v)
        have f2 := l_has_val (n := n) (setCell_ok ht hi hc (v := some v) (fun w hw => by cases hw; exact hvo)) hr
        simp only [cD] at f1
        have er : rowsD rs = .tuple (rs.map rowD) := rfl
        rw [er] at f1
        cases hq : fillable m (setCell rs i c (some v)) rules with
        | true =>
          rw [hq] at f2
          simp [start, entOf, retE, evs, evOs, evA, evTs, evI, toD, toO, toB, evVar, peek, fetch, fetchs, Val.d, asB, asI, items, stV, stTg, isBo_eq, doCall, argsOf, lents, giveBack, outs, isOwn, isLst, chg, appOb, extOb, cmpD, Option.bind_assoc, isiD, wipeE, con, List.replicate, -List.map_take, -List.map_drop, -List.map_reverse, -List.map_tail, exB, f1, f2]
        | false =>
          rw [hq] at f2
          simp [start, entOf, retE, evs, evOs, evA, evTs, evI, toD, toO, toB, evVar, peek, fetch, fetchs, Val.d, asB, asI, items, stV, stTg, isBo_eq, doCall, argsOf, lents, giveBack, outs, isOwn, isLst, chg, appOb, extOb, cmpD, Option.bind_assoc, isiD, wipeE, con, List.replicate, -List.map_take, -List.map_drop, -List.map_reverse, -List.map_tail, exB, f1, f2, hfl']
      · rintro ρ' ⟨e8, e10, rfl⟩
        rw [List.length_map, List.take_length]
        simp [start, entOf, retE, evs, evOs, evA, evTs, evI, toD, toO, toB, evVar, peek, fetch, fetchs, Val.d, asB, asI, items, stV, stTg, isBo_eq, doCall, argsOf, lents, giveBack, outs, isOwn, isLst, chg, appOb, extOb, cmpD, Option.bind_assoc, isiD, wipeE, con, List.replicate, -List.map_take, -List.map_drop, -List.map_reverse, -List.map_tail, choD]
end MP
end

section
set_option Elab.async false
set_option linter.all false
set_option maxRecDepth 100000
set_option maxHeartbeats 8000000
namespace MP
open PySem
variable {n : Nat}
theorem sm_str {s : Str} (h1 : PyData.strOk s = true) (h2 : s.cps.size ≤ 20) : Sm 0 20 (.str s) := ⟨by simp [PyData.canLay0, h1], by simp [PyData.depth], by rw [PyData.weight]; exact h2, by simp [PyData.intsShort], by simp [PyData.showable]⟩
theorem sm_val {v : Int} (h : 0 ≤ v ∧ v ≤ 9999) : Sm 0 20 (.int v) := sm_int (by omega)
theorem sm_cho {x : Cell} {l : List Int} (hx : OkC x) (hl : l.length ≤ 60) (h : ∀ v ∈ l, 0 ≤ v ∧ v ≤ 9999) : Sm 2 2522 (choD x l) := by
  cases x with
  | some v => exact (sm_two (k := 0) (w := 20) (sm_str (by decide +kernel) (by decide +kernel)) (sm_val (hx v rfl))).mono (by omega) (by omega)
  | none =>
    refine sm_two (k := 1) (w := 1260) ((sm_str (by decide +kernel) (by decide +kernel)).mono (by omega) (by omega)) (sm_tuple (k := 0) (w := 20) (N := 60) (fun y hy => ?_) (by rw [List.length_map]; exact hl))
    obtain ⟨v, hv, rfl⟩ := List.mem_map.mp hy
    exact sm_val (h v hv)
theorem valIn_ok {m : Nat} {rs : List Row} (ht : OkT m rs) (gs : List (List Nat)) (c i : Nat) : OkC (valIn rs gs c i) := by
  intro v hv
  unfold valIn at hv
  have hm : v ∈ pvals rs gs c (gAt gs c i) := List.mem_of_mem_head? (by rw [hv]; exact rfl)
  rw [pvals_eq, sort_mem] at hm
  obtain ⟨j, _, _, e⟩ := vals_mem.mp hm
  exact cellAt_ok ht e
/-- the program and the law say the same of a place -/
theorem cho_both {m : Nat} {rs : List Row} {rules : List Rule} (ht : OkT m rs) (hr : OkRs m rules) (hf : fillable m rs rules = true) {i c : Nat} (hi : i < rs.length) (hc : c < m) :
    ∃ d : D, evalCall Γ con 39 f_choices [.sh (.tuple [.int (m : Int), rowsD rs]), .sh (rulesD rules), .sh (.tuple [.int (i : Int), .int (c : Int)])] = some (.sh d, []) ∧ evalCall Γ con 39 f_l_due [.sh (.int (m : Int)), .sh (rowsD rs), .sh (rulesD rules), .sh (.int (i : Int)), .sh (.int (c : Int))] = some (.sh d, []) ∧
      evalCall Γ con 39 f_l_same [.sh d, .sh d] = some (.sh (.bool true), []) := by
  obtain ⟨gs, hF⟩ := fin_ex ht hr
  have hC := (fillable_cons ht hr).mp hf
  have hcl := (clash_cons hr hF).mpr hC
  have e1 := sp_choices (n := 29) ht hr hF hcl hi hc
  have e2 := sp_l_due (n := 35) ht hr hF hcl hi hc
  have hcv := colVals_len rs c
  have hfew := ht.few
  have heq : choD (valIn rs gs c i) ((had2 rs).filter fun v => !fillable m (setCell rs i c (some v)) rules) = choD (valIn rs gs c i) ((colVals rs c).filter fun v => !fillable m (setCell rs i c (some v)) rules) := by
    cases hv : valIn rs gs c i with
    | some v => rfl
    | none =>
      unfold choD
      rw [barred_eq ht hr hi hc (valIn_none hr hF hc hi hv) hC]
  rw [heq] at e2
  refine ⟨_, e1, e2, sp_same (n := 38) (sm_cho (valIn_ok ht gs c i) (Nat.le_trans (List.length_filter_le _ _) (by omega)) fun v hv => ?_) (by omega) (by omega)⟩
  obtain ⟨k, _, e⟩ := colVals_mem.mp (List.mem_filter.mp hv).1
  exact cellAt_ok ht e
theorem rows_more {m : Nat} {rs : List Row} (ht : OkT m rs) (hl : rs.length ≤ 7) {r : Row} (hr : OkR m r) : OkT m (rs ++ [r]) := ⟨ht.lo, ht.hi, by simp; omega, fun x hx => by
  rcases List.mem_append.mp hx with h | h
  · exact ht.row x h
  · rw [List.mem_singleton.mp h]
    exact hr⟩
theorem law_k10 : ∀ ns : List Int, ns.length ≤ 63 → evalCall Γ con 40 f_law_3 [.sh (.list (ns.map .int))] = some (.sh (.bool true), []) := by
  intro ns hns
  refine eq_call (n := 39) g_law_3 rfl ?_
  obtain ⟨L, hL3, hL⟩ := cells3 ns
  have hk : ckI (L : Int) = some () := kI (by omega) (by omega)
  have hk3 : ckI 3 = some () := kI (by omega) (by omega)
  have hk4 : ckI 4 = some () := kI (by omega) (by omega)
  simp [start, entOf, retE, evs, evOs, evA, evTs, evI, toD, toO, toB, evVar, peek, fetch, fetchs, Val.d, asB, asI, items, stV, stTg, isBo_eq, doCall, argsOf, lents, giveBack, outs, isOwn, isLst, chg, appOb, extOb, cmpD, Option.bind_assoc, isiD, wipeE, con, List.replicate, -List.map_take, -List.map_drop, -List.map_reverse, -List.map_tail, d_law_3]
  rw [hL, hk, Option.bind_some]
  refine gets_for (fun i ρ => ∃ e1 e2 e3 e4 e5 e6 e7 e8 e9 e10 : NBE, ρ = [.sh (.list (ns.map .int)), e1.e, e2.e, e3.e, e4.e, e5.e, e6.e, e7.e, e8.e, e9.e, e10.e]) ⟨nUn, nUn, nUn, nUn, nUn, nUn, nUn, nUn, nUn, nUn, rfl⟩ ?_ ?_
  · rintro k hk ρ ⟨e1, e2, e3, e4, e5, e6, e7, e8, e9, e10, rfl⟩
    simp only [rng_at, Int.zero_add]
    have ec := sp_cell_at (n := 38) ns k
    obtain ⟨c, hc⟩ : ∃ c, c = ns.getD k 0 := ⟨_, rfl⟩
    rw [← hc] at ec
    obtain ⟨o, hp, ep⟩ := sp_pen (n := 38) c
    simp [start, entOf, retE, evs, evOs, evA, evTs, evI, toD, toO, toB, evVar, peek, fetch, fetchs, Val.d, asB, asI, items, stV, stTg, isBo_eq, doCall, argsOf, lents, giveBack, outs, isOwn, isLst, chg, appOb, extOb, cmpD, Option.bind_assoc, isiD, wipeE, con, List.replicate, -List.map_take, -List.map_drop, -List.map_reverse, -List.map_tail, exB, ec, ep, hk3]
    refine gets_for (fun i ρ => ∃ o, ∃ e3 e4 e5 e6 e7 e8 e9 e10 : NBE, ρ = [.sh (.list (ns.map .int)), .sh (.int (k : Int)), .ow o, e3.e, e4.e, e5.e, e6.e, e7.e, e8.e, e9.e, e10.e] ∧ Pen (300 * i) o) ⟨o, e3, e4, e5, e6, e7, e8, e9, e10, rfl, hp⟩ ?_ ?_
    · rintro i hi ρ ⟨o, e3, e4, e5, e6, e7, e8, e9, e10, rfl, hp⟩
      rw [rng_len] at hi
      simp only [rng_at, Int.zero_add]
      obtain ⟨d, o1, hd, hp1, f1⟩ := sp_draw (n := 38) (300 * i) 5 o hp (by omega) (by omega) (by omega)
      have f1' : evalCall Γ con 39 f_l_draw [.mu o, .sh (.int 5)] = some (.sh (.int (d : Int)), [o1]) := f1
      obtain ⟨m, hm⟩ : ∃ m, m = 1 + d := ⟨_, rfl⟩
      have hm' : (1 : Int) + (d : Int) = (m : Int) := by omega
      obtain ⟨rules, o2, hr, hp2, f2⟩ := sp_rules (n := 36) (300 * i + 1) m 4 o1 hp1 (by omega) (by omega) (by omega) (by omega)
      have f2' : evalCall Γ con 39 f_l_rules [.mu o1, .sh (.int (m : Int)), .sh (.int 4)] = some (.sh (rulesD rules), [o2]) := f2
      obtain ⟨rs, o3, ht, hp3, f3⟩ := sp_rows (n := 37) (300 * i + 1 + 49) m 5 o2 hp2 (by omega) (by omega) (by omega) (by omega)
      have f3' : evalCall Γ con 39 f_l_rows [.mu o2, .sh (.int (m : Int)), .sh (.int 5)] = some (.sh (rowsD rs), [o3]) := f3
      have f4 := l_has_val (n := 36) ht hr
      have hfew := ht.few
      have hp3' : Pen (300 * (i + 1)) o3 := hp3.mono (by omega)
      have hlen : bltD .len [rowsD rs] = some (.sh (.int rs.length)) := by simp [rowsD]
      have hkl : ckI (rs.length : Int) = some () := kI (by omega) (by omega)
      have hkm : ckI (m : Int) = some () := kI (by omega) (by omega)
      cases hf : fillable m rs rules with
      | false =>
        rw [hf] at f4
        simp [start, entOf, retE, evs, evOs, evA, evTs, evI, toD, toO, toB, evVar, peek, fetch, fetchs, Val.d, asB, asI, items, stV, stTg, isBo_eq, doCall, argsOf, lents, giveBack, outs, isOwn, isLst, chg, appOb, extOb, cmpD, Option.bind_assoc, isiD, wipeE, con, List.replicate, -List.map_take, -List.map_drop, -List.map_reverse, -List.map_tail, exB, f1', hm', f2', f3', f4]
        exact hp3'
      | true =>
        rw [hf] at f4
        simp [start, entOf, retE, evs, evOs, evA, evTs, evI, toD, toO, toB, evVar, peek, fetch, fetchs, Val.d, asB, asI, items, stV, stTg, isBo_eq, doCall, argsOf, lents, giveBack, outs, isOwn, isLst, chg, appOb, extOb, cmpD, Option.bind_assoc, isiD, wipeE, con, List.replicate, -List.map_take, -List.map_drop, -List.map_reverse, -List.map_tail, exB, f1', hm', f2', f3', f4, hlen, hkl]
        refine gets_for (fun a ρ => ∃ e8 e9 e10 : NBE, ρ = [.sh (.list (ns.map .int)), .sh (.int (k : Int)), .ow o3, .sh (.int (i : Int)), .sh (rulesD rules), .sh (rowsD rs), .sh (.int (m : Int)), e7.e, e8.e, e9.e, e10.e]) ⟨e8, e9, e10, rfl⟩ ?_ ?_
        · rintro a ha ρ ⟨e8, e9, e10, rfl⟩
          rw [rng_len] at ha
          simp only [rng_at, Int.zero_add]
          simp [start, entOf, retE, evs, evOs, evA, evTs, evI, toD, toO, toB, evVar, peek, fetch, fetchs, Val.d, asB, asI, items, stV, stTg, isBo_eq, doCall, argsOf, lents, giveBack, outs, isOwn, isLst, chg, appOb, extOb, cmpD, Option.bind_assoc, isiD, wipeE, con, List.replicate, -List.map_take, -List.map_drop, -List.map_reverse, -List.map_tail, exB, hkm]
          refine gets_for (fun b ρ => ∃ e9 e10 : NBE, ρ = [.sh (.list (ns.map .int)), .sh (.int (k : Int)), .ow o3, .sh (.int (i : Int)), .sh (rulesD rules), .sh (rowsD rs), .sh (.int (m : Int)), e7.e, .sh (.int (a : Int)), e9.e, e10.e]) ⟨e9, e10, rfl⟩ ?_ ?_
          · rintro b hb ρ ⟨e9, e10, rfl⟩
            rw [rng_len] at hb
            simp only [rng_at, Int.zero_add]
            obtain ⟨D, g1, g2, g3⟩ := cho_both ht hr hf (show a < rs.length by omega) (show b < m by omega)
            simp [start, entOf, retE, evs, evOs, evA, evTs, evI, toD, toO, toB, evVar, peek, fetch, fetchs, Val.d, asB, asI, items, stV, stTg, isBo_eq, doCall, argsOf, lents, giveBack, outs, isOwn, isLst, chg, appOb, extOb, cmpD, Option.bind_assoc, isiD, wipeE, con, List.replicate, -List.map_take, -List.map_drop, -List.map_reverse, -List.map_tail, exB, g1, g2, g3]
          · rintro ρ' ⟨e9, e10, rfl⟩
            simp [start, entOf, retE, evs, evOs, evA, evTs, evI, toD, toO, toB, evVar, peek, fetch, fetchs, Val.d, asB, asI, items, stV, stTg, isBo_eq, doCall, argsOf, lents, giveBack, outs, isOwn, isLst, chg, appOb, extOb, cmpD, Option.bind_assoc, isiD, wipeE, con, List.replicate, -List.map_take, -List.map_drop, -List.map_reverse, -List.map_tail]
        · rintro ρ' ⟨e8, e9, e10, rfl⟩
          simp [start, entOf, retE, evs, evOs, evA, evTs, evI, toD, toO, toB, evVar, peek, fetch, fetchs, Val.d, asB, asI, items, stV, stTg, isBo_eq, doCall, argsOf, lents, giveBack, outs, isOwn, isLst, chg, appOb, extOb, cmpD, Option.bind_assoc, isiD, wipeE, con, List.replicate, -List.map_take, -List.map_drop, -List.map_reverse, -List.map_tail]
          exact hp3'
    · rintro ρ' ⟨o, e3, e4, e5, e6, e7, e8, e9, e10, rfl, hp⟩
      rw [rng_len] at hp
      obtain ⟨rules, o2, hr, hp2, f2⟩ := sp_rules (n := 36) 900 5 8 o (hp.mono (by omega)) (by omega) (by omega) (by omega) (by omega)
      have f2' : evalCall Γ con 39 f_l_rules [.mu o, .sh (.int 5), .sh (.int 8)] = some (.sh (rulesD rules), [o2]) := f2
      obtain ⟨rs0, o3, ⟨ht0, hl0, _⟩, hp3, f3⟩ := sp_rowsN (n := 37) (900 + 49) 5 7 o2 hp2 (by omega) (by omega) (by omega) (by omega)
      have f3' : evalCall Γ con 39 f_l_rows [.mu o2, .sh (.int 5), .sh (.int 7)] = some (.sh (rowsD rs0), [o3]) := f3
      have ht : OkT 5 (rs0 ++ [[none, none, none, none, none]]) := rows_more ht0 hl0 ⟨rfl, fun c hc v hv => by
        simp at hc
        rw [hc] at hv
        cases hv⟩
      have hadd : op2 .add (rowsD rs0) (.tuple [.tuple [.none, .none, .none, .none, .none]]) = some (.sh (rowsD (rs0 ++ [[none, none, none, none, none]]))) := by
        have hq : rs0.length + 1 ≤ lim := ylim (by omega)
        simp [rowsD, hq, rowD, cD]
      have hpos : 0 < (rs0 ++ [[none, none, none, none, none]] : List Row).length := by simp
      obtain ⟨rs, hrs⟩ : ∃ rs : List Row, rs = rs0 ++ [[none, none, none, none, none]] := ⟨_, rfl⟩
      rw [← hrs] at ht hadd hpos
      have hfew := ht.few
      have f4 := l_has_val (n := 36) ht hr
      have f4' : evalCall Γ con 39 f_l_has_filling [.sh (.int 5), .sh (rowsD rs), .sh (rulesD rules)] = some (.sh (.bool (fillable 5 rs rules)), []) := f4
      have hlen : bltD .len [rowsD rs] = some (.sh (.int rs.length)) := by simp [rowsD]
      have hmul : (List.replicate (Int.toNat 5) [PyData.none]).flatten = [.none, .none, .none, .none, .none] := rfl
      cases hf : fillable 5 rs rules with
      | false =>
        rw [hf] at f4'
        simp [start, entOf, retE, evs, evOs, evA, evTs, evI, toD, toO, toB, evVar, peek, fetch, fetchs, Val.d, asB, asI, items, stV, stTg, isBo_eq, doCall, argsOf, lents, giveBack, outs, isOwn, isLst, chg, appOb, extOb, cmpD, Option.bind_assoc, isiD, wipeE, con, List.replicate, -List.map_take, -List.map_drop, -List.map_reverse, -List.map_tail, f2', f3', hmul, hadd, f4']
      | true =>
        rw [hf] at f4'
        simp [start, entOf, retE, evs, evOs, evA, evTs, evI, toD, toO, toB, evVar, peek, fetch, fetchs, Val.d, asB, asI, items, stV, stTg, isBo_eq, doCall, argsOf, lents, giveBack, outs, isOwn, isLst, chg, appOb, extOb, cmpD, Option.bind_assoc, isiD, wipeE, con, List.replicate, -List.map_take, -List.map_drop, -List.map_reverse, -List.map_tail, f2', f3', hmul, hadd, f4', hk4]
        refine gets_for (fun t ρ => ∃ o, ∃ e7 e8 e9 e10 : NBE, ρ = [.sh (.list (ns.map .int)), .sh (.int (k : Int)), .ow o, e3.e, .sh (rulesD rules), .sh (rowsD rs), e6.e, e7.e, e8.e, e9.e, e10.e] ∧ Pen (1100 + 2 * t) o) ⟨o3, e7, e8, e9, e10, rfl, hp3.mono (by omega)⟩ ?_ ?_
        · rintro t htt ρ ⟨o, e7, e8, e9, e10, rfl, hp⟩
          rw [rng_len] at htt
          obtain ⟨a, o4, ha, hp4, f5⟩ := sp_draw (n := 38) (1100 + 2 * t) rs.length o hp (by omega) hpos (by omega)
          obtain ⟨b, o5, hb, hp5, f6⟩ := sp_draw (n := 38) (1100 + 2 * t + 1) 5 o4 hp4 (by omega) (by omega) (by omega)
          have f6' : evalCall Γ con 39 f_l_draw [.mu o4, .sh (.int 5)] = some (.sh (.int (b : Int)), [o5]) := f6
          obtain ⟨D, g1, g2, g3⟩ := cho_both ht hr hf ha hb
          have g1' : evalCall Γ con 39 f_choices [.sh (.tuple [.int 5, rowsD rs]), .sh (rulesD rules), .sh (.tuple [.int (a : Int), .int (b : Int)])] = some (.sh D, []) := g1
          have g2' : evalCall Γ con 39 f_l_due [.sh (.int 5), .sh (rowsD rs), .sh (rulesD rules), .sh (.int (a : Int)), .sh (.int (b : Int))] = some (.sh D, []) := g2
          simp only [rng_at, Int.zero_add]
          simp [start, entOf, retE, evs, evOs, evA, evTs, evI, toD, toO, toB, evVar, peek, fetch, fetchs, Val.d, asB, asI, items, stV, stTg, isBo_eq, doCall, argsOf, lents, giveBack, outs, isOwn, isLst, chg, appOb, extOb, cmpD, Option.bind_assoc, isiD, wipeE, con, List.replicate, -List.map_take, -List.map_drop, -List.map_reverse, -List.map_tail, exB, hlen, f5, f6', g1', g2', g3]
          exact hp5.mono (by omega)
        · rintro ρ' ⟨o, e7, e8, e9, e10, rfl, hp⟩
          simp [start, entOf, retE, evs, evOs, evA, evTs, evI, toD, toO, toB, evVar, peek, fetch, fetchs, Val.d, asB, asI, items, stV, stTg, isBo_eq, doCall, argsOf, lents, giveBack, outs, isOwn, isLst, chg, appOb, extOb, cmpD, Option.bind_assoc, isiD, wipeE, con, List.replicate, -List.map_take, -List.map_drop, -List.map_reverse, -List.map_tail]
  · rintro ρ' ⟨e1, e2, e3, e4, e5, e6, e7, e8, e9, e10, rfl⟩
    simp [start, entOf, retE, evs, evOs, evA, evTs, evI, toD, toO, toB, evVar, peek, fetch, fetchs, Val.d, asB, asI, items, stV, stTg, isBo_eq, doCall, argsOf, lents, giveBack, outs, isOwn, isLst, chg, appOb, extOb, cmpD, Option.bind_assoc, isiD, wipeE, con, List.replicate, -List.map_take, -List.map_drop, -List.map_reverse, -List.map_tail]
end MP
end

section
set_option Elab.async false
set_option linter.all false
set_option maxRecDepth 100000
set_option maxHeartbeats 8000000
namespace MP
open PySem
variable {n : Nat}
/-- two fors in one comprehension that leave all names as they are -/
theorem lcGo2_map {g : Env → Option (List D × Env)} {t : Env → Option (Bool × Env)} {tg : Tg} {own : List Nat} {α : Type} (e : α → D) (h : α → List D) (ρ : Env) : ∀ l : List α,
    (∀ a ∈ l, ∃ ρ1, stTg tg (e a) ρ = some ρ1 ∧ t ρ1 = some (true, ρ1) ∧ ∃ ρ3, g ρ1 = some (h a, ρ3) ∧ wipeE ρ3 own = ρ) →
    lcGo2 g t tg own (l.map e) ρ = some (l.flatMap h, ρ)
  | [], _ => rfl
  | a :: l, hh => by
    obtain ⟨ρ1, h1, h2, ρ3, h3, h4⟩ := hh a List.mem_cons_self
    have ih := lcGo2_map e h ρ l fun x hx => hh x (List.mem_cons_of_mem _ hx)
    simp only [List.map_cons, lcGo2, h1, h2, Option.bind_some, if_true, h3, h4, ih, List.flatMap_cons]
theorem lc2_bind {g : Env → Option (List D × Env)} {t : Env → Option (Bool × Env)} {tg : Tg} {own : List Nat} {ρ : Env} {β : Type} {K : List D × Env → Option β} {R : Option β} {α : Type} {l : List α} (e : α → D) (h : α → List D)
    (hh : ∀ a ∈ l, ∃ ρ1, stTg tg (e a) ρ = some ρ1 ∧ t ρ1 = some (true, ρ1) ∧ ∃ ρ3, g ρ1 = some (h a, ρ3) ∧ wipeE ρ3 own = ρ) (hk : K (l.flatMap h, ρ) = R) : (lcGo2 g t tg own (l.map e) ρ).bind K = R := by
  rw [lcGo2_map e h ρ l hh]
  exact hk
theorem gets_lc2 {g : Env → Option (List D × Env)} {t : Env → Option (Bool × Env)} {tg : Tg} {own : List Nat} {ρ : Env} {β : Type} {K : List D × Env → Option β} {Z : β → Prop} {α : Type} {l : List α} (e : α → D) (h : α → List D)
    (hh : ∀ a ∈ l, ∃ ρ1, stTg tg (e a) ρ = some ρ1 ∧ t ρ1 = some (true, ρ1) ∧ ∃ ρ3, g ρ1 = some (h a, ρ3) ∧ wipeE ρ3 own = ρ) (hk : Gets (K (l.flatMap h, ρ)) Z) : Gets ((lcGo2 g t tg own (l.map e) ρ).bind K) Z := by
  rw [lcGo2_map e h ρ l hh]
  exact hk
/-! ### picks -/
abbrev Pick := List Place
def pkD (p : Pick) : D := .tuple (p.map plD)
def plLt (a b : Place) : Bool := HT.lexLt [(a.1 : Int), (a.2 : Int)] [(b.1 : Int), (b.2 : Int)]
def okNext (row : Pick) (t : Place) : Bool := match row.getLast? with
  | none => true
  | some z => plLt z t
def extP (things : List Place) (row : Pick) : List Pick := (things.filter (okNext row)).map fun t => row ++ [t]
def picksN (things : List Place) : Nat → List Pick
  | 0 => [[]]
  | k + 1 => (picksN things k).flatMap (extP things)
theorem picks_one (things : List Place) : picksN things 1 = things.map fun t => [t] := by
  have e : okNext [] = fun _ => true := rfl
  simp only [picksN, List.flatMap_cons, List.flatMap_nil, List.append_nil, extP, e, List.nil_append]
  rw [List.filter_eq_self.mpr fun _ _ => rfl]
theorem picks_two (things : List Place) : picksN things 2 = things.flatMap fun a => (things.filter (plLt a)).map fun b => [a, b] := by
  show (picksN things 1).flatMap (extP things) = _
  rw [picks_one]
  rw [List.flatMap_map]
  rfl
theorem picks_len (things : List Place) (h : things.length ≤ 40) : ∀ k, k ≤ 2 → (picksN things k).length ≤ 1600 ∧ ∀ p ∈ picksN things k, p.length = k := by
  intro k hk
  match k, hk with
  | 0, _ => simp [picksN]
  | 1, _ =>
    rw [picks_one]
    refine ⟨by rw [List.length_map]; omega, fun p hp => ?_⟩
    obtain ⟨t, _, rfl⟩ := List.mem_map.mp hp
    rfl
  | 2, _ =>
    rw [picks_two]
    refine ⟨?_, fun p hp => ?_⟩
    · have : ∀ l : List Place, (l.flatMap fun a => (things.filter (plLt a)).map fun b => [a, b]).length ≤ 40 * l.length := by
        intro l
        induction l with
        | nil => simp
        | cons a l ih =>
          rw [List.flatMap_cons, List.length_append, List.length_map, List.length_cons]
          have := List.length_filter_le (plLt a) things
          omega
      have := this things
      omega
    · obtain ⟨a, _, h2⟩ := List.mem_flatMap.mp hp
      obtain ⟨b, _, rfl⟩ := List.mem_map.mp h2
      rfl
theorem picks_mem (things : List Place) : ∀ k p, p ∈ picksN things k → ∀ t ∈ p, t ∈ things
  | 0, p, h, t, ht => by
    rw [picksN, List.mem_singleton] at h
    subst h
    cases ht
  | k + 1, p, h, t, ht => by
    obtain ⟨q, h1, h2⟩ := List.mem_flatMap.mp h
    obtain ⟨z, h3, rfl⟩ := List.mem_map.mp h2
    rcases List.mem_append.mp ht with w | w
    · exact picks_mem things k q h1 t w
    · rw [List.mem_singleton.mp w]
      exact (List.mem_filter.mp h3).1
theorem gt_pl (a b : Place) : cmpD .gt (plD a) (plD b) = some (plLt b a) := by
  simp [plD, nD, cmpD, intsD, plLt]
theorem flat_map (things : List Place) (l : List Pick) : (l.flatMap fun row => (extP things row).map pkD) = (l.flatMap (extP things)).map pkD := by
  rw [List.map_flatMap]
theorem sp_picks_of (things : List Place) (h : things.length ≤ 40) {k : Nat} (hk : k ≤ 2) : evalCall Γ con (n + 1) f_picks_of [.sh (.tuple (things.map plD)), .sh (.int (k : Int))] = some (.sh (.list ((picksN things k).map pkD)), []) := by
  refine eq_call g_picks_of rfl ?_
  have hkk : ckI (k : Int) = some () := kI (by omega) (by omega)
  have h0 : (PyData.list [.tuple []] : D) = .list ((picksN things 0).map pkD) := rfl
  simp [start, entOf, retE, evs, evOs, evA, evTs, evI, toD, toO, toB, evVar, peek, fetch, fetchs, Val.d, asB, asI, items, stV, stTg, isBo_eq, doCall, argsOf, lents, giveBack, outs, isOwn, isLst, chg, appOb, extOb, cmpD, Option.bind_assoc, isiD, wipeE, con, List.replicate, -List.map_take, -List.map_drop, -List.map_reverse, -List.map_tail, d_picks_of, hkk]
  rw [h0]
  refine gets_for (fun i ρ => ∃ e3 : NBE, ρ = [.sh (.tuple (things.map plD)), .sh (.int (k : Int)), .sh (.list ((picksN things i).map pkD)), e3.e, .un, .un]) ⟨nUn, rfl⟩ ?_ ?_
  · rintro i hi ρ ⟨e3, rfl⟩
    rw [rng_len] at hi
    have hl := (picks_len things h i (by omega)).1
    have hp := (picks_len things h i (by omega)).2
    have hl1 := (picks_len things h (i + 1) (by omega)).1
    simp only [rng_at, Int.zero_add]
    simp [start, entOf, retE, evs, evOs, evA, evTs, evI, toD, toO, toB, evVar, peek, fetch, fetchs, Val.d, asB, asI, items, stV, stTg, isBo_eq, doCall, argsOf, lents, giveBack, outs, isOwn, isLst, chg, appOb, extOb, cmpD, Option.bind_assoc, isiD, wipeE, con, List.replicate, -List.map_take, -List.map_drop, -List.map_reverse, -List.map_tail, exB]
    refine gets_lc2 pkD (fun row => (extP things row).map pkD) (fun row hrow => ?_) ?_
    · simp [start, entOf, retE, evs, evOs, evA, evTs, evI, toD, toO, toB, evVar, peek, fetch, fetchs, Val.d, asB, asI, items, stV, stTg, isBo_eq, doCall, argsOf, lents, giveBack, outs, isOwn, isLst, chg, appOb, extOb, cmpD, Option.bind_assoc, isiD, wipeE, con, List.replicate, -List.map_take, -List.map_drop, -List.map_reverse, -List.map_tail, evT, evD, exB, pkD, evIn]
      refine ⟨[.sh (.tuple (things.map plD)), .sh (.int (k : Int)), .sh (.list ((picksN things i).map pkD)), .sh (.int (i : Int)), .sh (.tuple (row.map plD)), .un], ?_, rfl⟩
      rw [extP, List.map_map]
      have hr := hp row hrow
      refine lcGo_pure (own := [5]) plD (okNext row) (pkD ∘ fun t => row ++ [t]) [.sh (.tuple (things.map plD)), .sh (.int (k : Int)), .sh (.list ((picksN things i).map pkD)), .sh (.int (i : Int)), .sh (.tuple (row.map plD)), .un] things fun t ht => ?_
      match row, hr with
      | [], hr =>
        have e2 : eqD (.tuple []) (.tuple []) = some true := rfl
        simp [start, entOf, retE, evs, evOs, evA, evTs, evI, toD, toO, toB, evVar, peek, fetch, fetchs, Val.d, asB, asI, items, stV, stTg, isBo_eq, doCall, argsOf, lents, giveBack, outs, isOwn, isLst, chg, appOb, extOb, cmpD, Option.bind_assoc, isiD, wipeE, con, List.replicate, -List.map_take, -List.map_drop, -List.map_reverse, -List.map_tail, evT, evD, exB, pkD, okNext, e2]
      | [z], hr =>
        have e2 : eqD (.tuple [.tuple [.int (z.1 : Int), .int (z.2 : Int)]]) (.tuple []) = some false := rfl
        have e3 : ixD (.tuple [.tuple [.int (z.1 : Int), .int (z.2 : Int)]]) (.int (-1)) = some (.tuple [.int (z.1 : Int), .int (z.2 : Int)]) := rfl
        cases hz : plLt z t with
        | true =>
          have hz' := hz
          simp only [plLt] at hz'
          simp [start, entOf, retE, evs, evOs, evA, evTs, evI, toD, toO, toB, evVar, peek, fetch, fetchs, Val.d, asB, asI, items, stV, stTg, isBo_eq, doCall, argsOf, lents, giveBack, outs, isOwn, isLst, chg, appOb, extOb, cmpD, Option.bind_assoc, isiD, wipeE, con, List.replicate, -List.map_take, -List.map_drop, -List.map_reverse, -List.map_tail, evT, evD, exB, pkD, okNext, plD, nD, intsD, e2, e3, hz, hz']
        | false =>
          have hz' := hz
          simp only [plLt] at hz'
          simp [start, entOf, retE, evs, evOs, evA, evTs, evI, toD, toO, toB, evVar, peek, fetch, fetchs, Val.d, asB, asI, items, stV, stTg, isBo_eq, doCall, argsOf, lents, giveBack, outs, isOwn, isLst, chg, appOb, extOb, cmpD, Option.bind_assoc, isiD, wipeE, con, List.replicate, -List.map_take, -List.map_drop, -List.map_reverse, -List.map_tail, evT, evD, exB, pkD, okNext, plD, nD, intsD, e2, e3, hz, hz']
      | a :: b :: r, hr =>
        rw [List.length_cons, List.length_cons] at hr
        omega
    · rw [flat_map, show (picksN things i).flatMap (extP things) = picksN things (i + 1) from rfl]
      have hq : (picksN things (i + 1)).length ≤ lim := ylim (by omega)
      simp [start, entOf, retE, evs, evOs, evA, evTs, evI, toD, toO, toB, evVar, peek, fetch, fetchs, Val.d, asB, asI, items, stV, stTg, isBo_eq, doCall, argsOf, lents, giveBack, outs, isOwn, isLst, chg, appOb, extOb, cmpD, Option.bind_assoc, isiD, wipeE, con, List.replicate, -List.map_take, -List.map_drop, -List.map_reverse, -List.map_tail, hq]
  · rintro ρ' ⟨e3, rfl⟩
    rw [rng_len]
    simp [start, entOf, retE, evs, evOs, evA, evTs, evI, toD, toO, toB, evVar, peek, fetch, fetchs, Val.d, asB, asI, items, stV, stTg, isBo_eq, doCall, argsOf, lents, giveBack, outs, isOwn, isLst, chg, appOb, extOb, cmpD, Option.bind_assoc, isiD, wipeE, con, List.replicate, -List.map_take, -List.map_drop, -List.map_reverse, -List.map_tail]
end MP
end

section
set_option Elab.async false
set_option linter.all false
set_option maxRecDepth 100000
set_option maxHeartbeats 8000000
namespace MP
open PySem
variable {n : Nat}
/-! ### the program's general filling: plain part -/
def pfP (rs : List Row) (gs : List (List Nat)) (F : List Int) (s : List Row × Given) (t : Place) : List Row × Given := (setCell s.1 t.1 t.2 (some (genVal rs gs F s.2 t.2 t.1)), genSt rs gs F s.2 t.2 t.1)
def plUp (i : Nat) (r : Row) (c : Nat) : List Place := ((r.take c).zipIdx.filter fun p => p.1.isNone == true).map fun p => (i, p.2)
theorem plUp_succ (i : Nat) (r : Row) (c : Nat) (h : c < r.length) : plUp i r (c + 1) = plUp i r c ++ (if (r[c]).isNone then [(i, c)] else []) := by
  unfold plUp
  rw [List.take_succ_eq_append_getElem h, List.zipIdx_append, List.filter_append, List.map_append]
  congr 1
  have hl : (r.take c).length = c := by rw [List.length_take]; omega
  cases e : r[c] with
  | none => simp [hl]
  | some v => simp [hl]
theorem plUp_all (i : Nat) (r : Row) : plUp i r r.length = rowPl i true r := by
  unfold plUp rowPl
  rw [List.take_length]
/-- the rows when so much is filled -/
def mixR (A : List (List Int)) (p : List Int) (r : Row) (c : Nat) (C : List Row) : List Row := A.map intsRow ++ (intsRow p ++ r.drop c) :: C
theorem mix_set (A : List (List Int)) (p : List Int) (r : Row) (C : List Row) (v : Int) (h : p.length < r.length) : setCell (mixR A p r p.length C) A.length p.length (some v) = mixR A (p ++ [v]) r (p.length + 1) C := by
  unfold mixR setCell
  have hA : (A.map intsRow).length = A.length := List.length_map ..
  have e1 : (A.map intsRow ++ (intsRow p ++ r.drop p.length) :: C).getD A.length [] = intsRow p ++ r.drop p.length := by
    rw [List.getD_eq_getElem?_getD, List.getElem?_append_right (by omega), hA]
    simp
  rw [e1]
  have e2 : (intsRow p ++ r.drop p.length).set p.length (some v) = intsRow (p ++ [v]) ++ r.drop (p.length + 1) := by
    rw [List.drop_eq_getElem_cons h]
    have := set_mid (intsRow p) (r.drop (p.length + 1)) r[p.length] (some v)
    have hl : (intsRow p).length = p.length := by unfold intsRow; rw [List.length_map]
    rw [hl] at this
    rw [this]
    simp [intsRow]
  rw [e2]
  have := set_mid (A.map intsRow) C (intsRow p ++ r.drop p.length) (intsRow (p ++ [v]) ++ r.drop (p.length + 1))
  rw [hA] at this
  exact this
theorem mix_same (A : List (List Int)) (p : List Int) (r : Row) (C : List Row) (v : Int) (h : p.length < r.length) (e : r[p.length] = some v) : mixR A p r p.length C = mixR A (p ++ [v]) r (p.length + 1) C := by
  unfold mixR
  rw [List.drop_eq_getElem_cons h, e]
  simp [intsRow]
theorem fold_row {m : Nat} {rs : List Row} {gs : List (List Nat)} (F : List Int) {i : Nat} (hi : i < rs.length) (hlen : rs[i].length = m) (hown : ∀ c v, c < m → cellAt rs i c = some v → valsOf rs gs c (gAt gs c i) = [v]) (A : List (List Int)) (hA : A.length = i) (st : Given) (C : List Row) :
    ∀ c, c ≤ m → (plUp i rs[i] c).foldl (pfP rs gs F) (mixR A [] rs[i] 0 C, st) = (mixR A (genRow rs gs F i c st).1 rs[i] c C, (genRow rs gs F i c st).2)
  | 0, _ => rfl
  | c + 1, hc => by
    have ih := fold_row F hi hlen hown A hA st C c (by omega)
    have hcl : c < rs[i].length := by omega
    have hgl := (genRow_len rs gs F i st c).1
    rw [plUp_succ i rs[i] c hcl, List.foldl_append, ih]
    have hca : cellAt rs i c = rs[i][c] := by
      unfold cellAt cell
      rw [getD_at hi, List.getD_eq_getElem?_getD, List.getElem?_eq_getElem hcl]
      rfl
    have hg : genRow rs gs F i (c + 1) st = ((genRow rs gs F i c st).1 ++ [genVal rs gs F (genRow rs gs F i c st).2 c i], genSt rs gs F (genRow rs gs F i c st).2 c i) := rfl
    rw [hg]
    obtain ⟨⟨p, su⟩, hps⟩ : ∃ q, q = genRow rs gs F i c st := ⟨_, rfl⟩
    rw [← hps] at hgl ⊢
    simp only at hgl ⊢
    subst hgl
    cases hr : rs[i][p.length] with
    | none =>
      simp only [Option.isNone_none, if_true, List.foldl_cons, List.foldl_nil, pfP]
      have ms := mix_set A p rs[i] C (genVal rs gs F su p.length i) hcl
      rw [hA] at ms
      rw [ms]
    | some v =>
      have hv := hown p.length v (by omega) (by rw [hca]; exact hr)
      have e1 : genVal rs gs F su p.length i = v := by unfold genVal; rw [hv]
      have e2 : genSt rs gs F su p.length i = su := by unfold genSt; rw [hv]
      rw [e1, e2]
      simp only [Option.isNone_some, Bool.false_eq_true, if_false, List.foldl_nil]
      rw [mix_same A p rs[i] C v hcl hr]
theorem fold_all {m : Nat} {rs : List Row} {gs : List (List Nat)} (F : List Int) (hlen : ∀ r ∈ rs, r.length = m) (hown : ∀ i c v, i < rs.length → c < m → cellAt rs i c = some v → valsOf rs gs c (gAt gs c i) = [v]) :
    ∀ i, i ≤ rs.length → (placesUp rs true i).foldl (pfP rs gs F) (rs, []) = ((genUp m rs gs F i).1.map intsRow ++ rs.drop i, (genUp m rs gs F i).2)
  | 0, _ => by simp [placesUp, genUp]
  | i + 1, hi => by
    have ih := fold_all F hlen hown i (by omega)
    have hi' : i < rs.length := by omega
    have hl := hlen _ (List.getElem_mem hi')
    have hul := (genUp_len m rs gs F i).1
    show (placesUp rs true i ++ rowPl i true (rs.getD i [])).foldl _ _ = _
    rw [List.foldl_append, ih, getD_at hi', ← plUp_all, List.drop_eq_getElem_cons hi']
    have hf := fold_row F hi' hl (fun c v hc hv => hown i c v hi' hc hv) (genUp m rs gs F i).1 hul (genUp m rs gs F i).2 (rs.drop (i + 1)) m (Nat.le_refl _)
    rw [hl]
    have e0 : mixR (genUp m rs gs F i).1 [] rs[i] 0 (rs.drop (i + 1)) = (genUp m rs gs F i).1.map intsRow ++ rs[i] :: rs.drop (i + 1) := by
      simp [mixR, intsRow]
    rw [← e0, hf]
    have e1 : genUp m rs gs F (i + 1) = ((genUp m rs gs F i).1 ++ [(genRow rs gs F i m (genUp m rs gs F i).2).1], (genRow rs gs F i m (genUp m rs gs F i).2).2) := rfl
    rw [e1]
    refine Prod.ext ?_ rfl
    show mixR _ _ _ _ _ = _
    unfold mixR
    rw [List.drop_of_length_le (by omega), List.append_nil, List.map_append, List.map_cons, List.map_nil, List.append_assoc]
    rfl
/-! two lists of fresh values that agree far enough -/
theorem genSt_F {rs : List Row} {gs : List (List Nat)} {F F' : List Int} {st : Given} {c i : Nat} (h : F.getD st.length 0 = F'.getD st.length 0) : genSt rs gs F st c i = genSt rs gs F' st c i ∧ genVal rs gs F st c i = genVal rs gs F' st c i := by
  unfold genSt genVal
  rw [h]
  exact ⟨rfl, rfl⟩
theorem genRow_F {rs : List Row} {gs : List (List Nat)} {F F' : List Int} {i B : Nat} (h : ∀ k < B, F.getD k 0 = F'.getD k 0) (st : Given) : ∀ c, st.length + c ≤ B → genRow rs gs F i c st = genRow rs gs F' i c st
  | 0, _ => rfl
  | c + 1, hB => by
    have ih := genRow_F (rs := rs) (gs := gs) (i := i) h st c (by omega)
    have hl := (genRow_len rs gs F' i st c).2
    have hs := genSt_F (rs := rs) (gs := gs) (F := F) (F' := F') (st := (genRow rs gs F' i c st).2) (c := c) (i := i) (h _ (by omega))
    simp only [genRow]
    rw [ih, hs.1, hs.2]
theorem genUp_F {m : Nat} {rs : List Row} {gs : List (List Nat)} {F F' : List Int} {B : Nat} (h : ∀ k < B, F.getD k 0 = F'.getD k 0) : ∀ i, m * i ≤ B → genUp m rs gs F i = genUp m rs gs F' i
  | 0, _ => rfl
  | i + 1, hB => by
    rw [Nat.mul_succ] at hB
    have ih := genUp_F (m := m) (rs := rs) (gs := gs) h i (by omega)
    have hl := (genUp_len m rs gs F' i).2
    simp only [genUp]
    rw [ih, genRow_F h (genUp m rs gs F' i).2 m (by omega)]
/-- the first so many naturals that are not had -/
def frsOf (had : List Int) (K : Nat) : List Int := ((List.range K).map fun (k : Nat) => (k : Int)).filter fun v => !decide (v ∈ had)
theorem fr_len (had : List Int) (K B : Nat) (h : had.length + B ≤ K) : B ≤ (frsOf had K).length := by
  have h1 := filter_len (fun v => !decide (v ∈ had)) ((List.range K).map fun (k : Nat) => (k : Int))
  have hn : ((List.range K).map fun (k : Nat) => (k : Int)).Nodup := List.Pairwise.map _ (fun a b h => by omega) (List.nodup_range (n := K))
  have h2 := nodup_len (((List.range K).map fun (k : Nat) => (k : Int)).filter fun v => !!decide (v ∈ had)) had (hn.filter _) fun x hx => by
    have := (List.mem_filter.mp hx).2
    simpa using this
  rw [List.length_map, List.length_range] at h1
  unfold frsOf
  omega
theorem fr_more (had : List Int) (K d : Nat) : ∃ l, frsOf had (K + d) = frsOf had K ++ l := by
  unfold frsOf
  rw [List.range_add, List.map_append, List.filter_append]
  exact ⟨_, rfl⟩
theorem fr_agree {had : List Int} {K K' k : Nat} (h1 : k < (frsOf had K).length) (h2 : k < (frsOf had K').length) : (frsOf had K).getD k 0 = (frsOf had K').getD k 0 := by
  have key : ∀ {K K' : Nat}, K ≤ K' → k < (frsOf had K).length → (frsOf had K).getD k 0 = (frsOf had K').getD k 0 := fun {K K'} h hk => by
    obtain ⟨l, hl⟩ := fr_more had K (K' - K)
    rw [show K + (K' - K) = K' by omega] at hl
    rw [hl, List.getD_eq_getElem?_getD, List.getD_eq_getElem?_getD, List.getElem?_append_left hk]
  rcases Nat.le_total K K' with h | h
  · exact key h h1
  · exact (key h h2).symm
theorem fr_ok {had : List Int} {K : Nat} {v : Int} (h : v ∈ frsOf had K) : 0 ≤ v ∧ v < K := by
  unfold frsOf at h
  obtain ⟨k, hk, rfl⟩ := List.mem_map.mp (List.mem_filter.mp h).1
  have := List.mem_range.mp hk
  omega
end MP
end

section
set_option Elab.async false
set_option linter.all false
set_option maxRecDepth 100000
set_option maxHeartbeats 8000000
namespace MP
open PySem
variable {n : Nat}
theorem isEmpty_nin (v : Int) (l : List Int) : inD (.int v) (.list (l.map .int)) = some (decide (v ∈ l)) := in_ints v l
def hadB (bar : List Int) (rs : List Row) : List Int := bar ++ hadOf rs
def fresB (m : Nat) (bar : List Int) (rs : List Row) : List Int := frsOf (hadB bar rs) ((hadB bar rs).length + m * rs.length)
def genB (m : Nat) (rs : List Row) (gs : List (List Nat)) (bar : List Int) : List Row := (genUp m rs gs (fresB m bar rs) rs.length).1.map intsRow
theorem genB_nil {m : Nat} {rs : List Row} (ht : OkT m rs) (gs : List (List Nat)) : genB m rs gs [] = genRows m rs gs := by
  unfold genB genRows
  have h1 : ∀ k < m * rs.length, (fresB m [] rs).getD k 0 = (freshOf rs).getD k 0 := fun k hk => by
    have a1 := fr_len (hadB [] rs) ((hadB [] rs).length + m * rs.length) (m * rs.length) (Nat.le_refl _)
    have a2 := fresh_len ht
    have a3 := Nat.mul_le_mul ht.hi ht.few
    have a4 : freshOf rs = frsOf (hadB [] rs) 100 := rfl
    rw [a4] at a2 ⊢
    exact fr_agree (by omega) (by omega)
  rw [genUp_F h1 rs.length (Nat.le_refl _)]
theorem st_len {rs : List Row} {gs : List (List Nat)} {F : List Int} : ∀ (l : List Place) (s : List Row × Given), (l.foldl (pfP rs gs F) s).2.length ≤ s.2.length + l.length
  | [], s => Nat.le_refl _
  | t :: l, s => by
    have ih := st_len (rs := rs) (gs := gs) (F := F) l (pfP rs gs F s t)
    have h := genSt_len rs gs F s.2 t.2 t.1
    rw [List.foldl_cons, List.length_cons]
    have : (pfP rs gs F s t).2 = genSt rs gs F s.2 t.2 t.1 := rfl
    rw [this] at ih
    omega
/-- every value that is given is a small one -/
def GivOk (st : Given) : Prop := ∀ p ∈ st, 0 ≤ p.2 ∧ p.2 ≤ 9999
theorem look_mem2 {st : Given} {k : Nat × Nat} {v : Int} (h : st.lookup k = some v) : (k, v) ∈ st := by
  induction st with
  | nil => cases h
  | cons p st ih =>
    obtain ⟨a, b⟩ := p
    rw [List.lookup_cons] at h
    cases e : k == a with
    | true =>
      rw [e] at h
      have h1 : b = v := Option.some.inj h
      have h2 : k = a := by simpa using e
      rw [h1, h2]
      exact List.mem_cons_self
    | false =>
      rw [e] at h
      exact List.mem_cons_of_mem _ (ih h)
theorem pf_step {m : Nat} {rs : List Row} {gs : List (List Nat)} {F : List Int} (ht : OkT m rs) (hFv : ∀ v ∈ F, 0 ≤ v ∧ v ≤ 9999) {s : List Row × Given} {t : Place} (hs : OkT m s.1 ∧ s.1.length = rs.length ∧ GivOk s.2) (hi : t.1 < rs.length ∧ t.2 < m) : (0 ≤ genVal rs gs F s.2 t.2 t.1 ∧ genVal rs gs F s.2 t.2 t.1 ≤ 9999) ∧ OkT m (pfP rs gs F s t).1 ∧ (pfP rs gs F s t).1.length = rs.length ∧ GivOk (pfP rs gs F s t).2 := by
  have hfr : 0 ≤ F.getD s.2.length 0 ∧ F.getD s.2.length 0 ≤ 9999 := by
    by_cases h : s.2.length < F.length
    · rw [List.getD_eq_getElem?_getD, List.getElem?_eq_getElem h]
      exact hFv _ (List.getElem_mem h)
    · rw [List.getD_eq_getElem?_getD, List.getElem?_eq_none (by omega)]
      exact ⟨by simp, by simp⟩
  have hv : 0 ≤ genVal rs gs F s.2 t.2 t.1 ∧ genVal rs gs F s.2 t.2 t.1 ≤ 9999 := by
    unfold genVal
    split
    · rename_i v vs e
      have : v ∈ valsOf rs gs t.2 (gAt gs t.2 t.1) := by rw [e]; exact List.mem_cons_self
      obtain ⟨j, _, _, e2⟩ := vals_mem.mp this
      exact cellAt_ok ht e2
    · split
      · rename_i v e
        exact hs.2.2 _ (look_mem2 e)
      · exact hfr
  refine ⟨hv, ?_, ?_, ?_⟩
  · exact setCell_ok hs.1 (by rw [hs.2.1]; exact hi.1) hi.2 fun w hw => by cases hw; exact hv
  · exact (set_len _ _ _ _).trans hs.2.1
  · show GivOk (genSt rs gs F s.2 t.2 t.1)
    unfold genSt
    split
    · exact hs.2.2
    · split
      · exact hs.2.2
      · intro p hp
        rcases List.mem_append.mp hp with h | h
        · exact hs.2.2 p h
        · rw [List.mem_singleton.mp h]
          exact hfr
theorem pf_ok {m : Nat} {rs : List Row} {gs : List (List Nat)} {F : List Int} (ht : OkT m rs) (hFv : ∀ v ∈ F, 0 ≤ v ∧ v ≤ 9999) : ∀ (l : List Place) (s : List Row × Given), (∀ t ∈ l, t.1 < rs.length ∧ t.2 < m) → (OkT m s.1 ∧ s.1.length = rs.length ∧ GivOk s.2) → OkT m (l.foldl (pfP rs gs F) s).1 ∧ (l.foldl (pfP rs gs F) s).1.length = rs.length ∧ GivOk (l.foldl (pfP rs gs F) s).2
  | [], s, _, hs => hs
  | t :: l, s, hl, hs => pf_ok ht hFv l (pfP rs gs F s t) (fun x hx => hl x (List.mem_cons_of_mem _ hx)) (pf_step ht hFv hs (hl t List.mem_cons_self)).2
theorem pl_in (rs : List Row) (b : Bool) : ∀ i, ∀ t ∈ placesUp rs b i, t.1 < i ∧ t.2 < (rs.getD t.1 []).length
  | 0, t, h => by cases h
  | i + 1, t, h => by
    rcases List.mem_append.mp h with w | w
    · have := pl_in rs b i t w
      exact ⟨by omega, this.2⟩
    · unfold rowPl at w
      obtain ⟨⟨a, j⟩, h1, rfl⟩ := List.mem_map.mp w
      have := List.snd_lt_of_mem_zipIdx (List.mem_filter.mp h1).1
      exact ⟨by simp, by simpa using this⟩
theorem pl_ok {m : Nat} {rs : List Row} (ht : OkT m rs) (b : Bool) : ∀ t ∈ placesOf rs b, t.1 < rs.length ∧ t.2 < m := fun t h => by
  have h1 := pl_in rs b rs.length t h
  have h2 : rs.getD t.1 [] = rs[t.1] := by rw [List.getD_eq_getElem?_getD, List.getElem?_eq_getElem h1.1]; rfl
  have h3 := (ht.row _ (List.getElem_mem h1.1)).1
  rw [h2, h3] at h1
  exact h1
theorem plUp_len {m : Nat} {rs : List Row} (ht : OkT m rs) (b : Bool) : ∀ i, i ≤ rs.length → (placesUp rs b i).length ≤ m * i
  | 0, _ => by simp [placesUp]
  | i + 1, hi => by
    have ih := plUp_len ht b i (by omega)
    show (placesUp rs b i ++ rowPl i b (rs.getD i [])).length ≤ _
    rw [List.length_append, Nat.mul_succ, getD_at (by omega)]
    have h3 := (ht.row rs[i] (List.getElem_mem (by omega))).1
    have : (rowPl i b rs[i]).length ≤ m := by
      unfold rowPl
      rw [List.length_map]
      refine Nat.le_trans (List.length_filter_le _ _) ?_
      rw [List.length_zipIdx, h3]
      exact Nat.le_refl _
    omega
theorem cells_flat (rs : List Row) : (rs.flatMap fun r => (r.filterMap id).map (PyData.int : Int → D)) = (hadOf rs).map .int := by
  unfold hadOf
  rw [List.map_flatten, List.map_map, List.flatMap_def]
  rfl
theorem rngK (K : Nat) : rngD 0 (K : Int) = ((List.range K).map fun (k : Nat) => (k : Int)).map .int := by
  unfold rngD
  rw [List.map_map]
  simp [Function.comp_def]
theorem sp_general_rows {m : Nat} {rs : List Row} {rules : List Rule} (ht : OkT m rs) (hr : OkRs m rules) {gs : List (List Nat)} (hF : FinG m rs rules gs) {bar : List Int} (hbl : bar.length ≤ 100) :
    evalCall Γ con (n + 5) f_general_rows [.sh (.int (m : Int)), .sh (rowsD rs), .sh (rulesD rules), .sh (.tuple (bar.map .int))] = some (.sh (if clash m rs gs then .none else rowsD (genB m rs gs bar)), []) := by
  refine eq_call g_general_rows rfl ?_
  have e1 := groups_val (n := n) ht hr hF
  have e2 := sp_is_conflict (n := n + 2) ht hF.1.shp
  have hfew := ht.few
  have hhi := ht.hi
  obtain ⟨G, hG⟩ : ∃ G, G = gsD gs := ⟨_, rfl⟩
  rw [← hG] at e1 e2
  cases hcl : clash m rs gs with
  | true =>
    rw [hcl] at e2
    simp [start, entOf, retE, evs, evOs, evA, evTs, evI, toD, toO, toB, evVar, peek, fetch, fetchs, Val.d, asB, asI, items, stV, stTg, isBo_eq, doCall, argsOf, lents, giveBack, outs, isOwn, isLst, chg, appOb, extOb, cmpD, Option.bind_assoc, isiD, wipeE, con, List.replicate, -List.map_take, -List.map_drop, -List.map_reverse, -List.map_tail, d_general_rows, e1, e2]
  | false =>
    rw [hcl] at e2
    have hhl := had_len ht
    have hml := Nat.mul_le_mul ht.hi ht.few
    have hHl : (hadB bar rs).length ≤ 140 := by unfold hadB; rw [List.length_append]; omega
    have hrl : rs.length ≤ lim := ylim (by omega)
    have er : rowsD rs = .tuple (rs.map rowD) := rfl
    simp [start, entOf, retE, evs, evOs, evA, evTs, evI, toD, toO, toB, evVar, peek, fetch, fetchs, Val.d, asB, asI, items, stV, stTg, isBo_eq, doCall, argsOf, lents, giveBack, outs, isOwn, isLst, chg, appOb, extOb, cmpD, Option.bind_assoc, isiD, wipeE, con, List.replicate, -List.map_take, -List.map_drop, -List.map_reverse, -List.map_tail, d_general_rows, e1, e2]
    rw [er]
    simp [start, entOf, retE, evs, evOs, evA, evTs, evI, toD, toO, toB, evVar, peek, fetch, fetchs, Val.d, asB, asI, items, stV, stTg, isBo_eq, doCall, argsOf, lents, giveBack, outs, isOwn, isLst, chg, appOb, extOb, cmpD, Option.bind_assoc, isiD, wipeE, con, List.replicate, -List.map_take, -List.map_drop, -List.map_reverse, -List.map_tail]
    refine gets_lc2 rowD (fun r => (r.filterMap id).map .int) (fun r hrr => ?_) ?_
    · have hl5 := ht.le5 r hrr
      simp [start, entOf, retE, evs, evOs, evA, evTs, evI, toD, toO, toB, evVar, peek, fetch, fetchs, Val.d, asB, asI, items, stV, stTg, isBo_eq, doCall, argsOf, lents, giveBack, outs, isOwn, isLst, chg, appOb, extOb, cmpD, Option.bind_assoc, isiD, wipeE, con, List.replicate, -List.map_take, -List.map_drop, -List.map_reverse, -List.map_tail, evT, evD, exB, evIn, rowD]
      refine ⟨[.sh (.int (m : Int)), .sh (.tuple (rs.map rowD)), .sh (rulesD rules), .sh (.tuple (bar.map .int)), .sh G, .un, .un, .un, .un, .un, .un, .sh (.tuple (r.map cD)), .un, .un], ?_, rfl⟩
      rw [← some_cells]
      refine lcGo_pure (own := [13]) cD (fun c => c.isSome) cD [.sh (.int (m : Int)), .sh (.tuple (rs.map rowD)), .sh (rulesD rules), .sh (.tuple (bar.map .int)), .sh G, .un, .un, .un, .un, .un, .un, .sh (.tuple (r.map cD)), .un, .un] r fun c hc => ?_
      cases c <;> simp [start, entOf, retE, evs, evOs, evA, evTs, evI, toD, toO, toB, evVar, peek, fetch, fetchs, Val.d, asB, asI, items, stV, stTg, isBo_eq, doCall, argsOf, lents, giveBack, outs, isOwn, isLst, chg, appOb, extOb, cmpD, Option.bind_assoc, isiD, wipeE, con, List.replicate, -List.map_take, -List.map_drop, -List.map_reverse, -List.map_tail, evT, evD, cD]
    · rw [cells_flat]
      have hl1 : (hadOf rs).length ≤ lim := ylim (by omega)
      have hl2 : bar.length + (hadOf rs).length ≤ lim := ylim (by omega)
      have hH : bar.map (PyData.int : Int → D) ++ (hadOf rs).map .int = (hadB bar rs).map .int := by unfold hadB; rw [List.map_append]
      have hHe : (hadB bar rs).length = bar.length + (hadOf rs).length := by unfold hadB; rw [List.length_append]
      obtain ⟨K, hKK⟩ : ∃ K, K = (hadB bar rs).length + m * rs.length := ⟨_, rfl⟩
      have hK : (bar.length : Int) + ((hadOf rs).length : Int) + (m : Int) * (rs.length : Int) = (K : Int) := by
        rw [hKK, hHe]
        push_cast
        rfl
      have hmul : mulOk (m : Int) (rs.length : Int) = true := mulL (by omega) (by omega)
      have hck : ckI (K : Int) = some () := kI (by omega) (by omega)
      have hcn : ckN K = some () := kN (by omega)
      simp [start, entOf, retE, evs, evOs, evA, evTs, evI, toD, toO, toB, evVar, peek, fetch, fetchs, Val.d, asB, asI, items, stV, stTg, isBo_eq, doCall, argsOf, lents, giveBack, outs, isOwn, isLst, chg, appOb, extOb, cmpD, Option.bind_assoc, isiD, wipeE, con, List.replicate, -List.map_take, -List.map_drop, -List.map_reverse, -List.map_tail, hl1, hl2, hmul, hK, hck]
      rw [hH]
      obtain ⟨H, hHH⟩ : ∃ H, H = hadB bar rs := ⟨_, rfl⟩
      have eF : fresB m bar rs = frsOf H K := by rw [hHH, hKK]; rfl
      rw [← hHH] at hHl hKK ⊢
      rw [rngK, List.length_map, List.length_map, List.length_range, hcn, Option.bind_some]
      refine gets_lcf (fun (v : Int) => (.int v : D)) (fun v => !decide (v ∈ H)) (fun (v : Int) => (.int v : D)) (fun v hv => ?_) ?_
      · by_cases hin : v ∈ H
        · simp [start, entOf, retE, evs, evOs, evA, evTs, evI, toD, toO, toB, evVar, peek, fetch, fetchs, Val.d, asB, asI, items, stV, stTg, isBo_eq, doCall, argsOf, lents, giveBack, outs, isOwn, isLst, chg, appOb, extOb, cmpD, Option.bind_assoc, isiD, wipeE, con, List.replicate, -List.map_take, -List.map_drop, -List.map_reverse, -List.map_tail, evT, evD, in_ints, hin]
        · simp [start, entOf, retE, evs, evOs, evA, evTs, evI, toD, toO, toB, evVar, peek, fetch, fetchs, Val.d, asB, asI, items, stV, stTg, isBo_eq, doCall, argsOf, lents, giveBack, outs, isOwn, isLst, chg, appOb, extOb, cmpD, Option.bind_assoc, isiD, wipeE, con, List.replicate, -List.map_take, -List.map_drop, -List.map_reverse, -List.map_tail, evT, evD, in_ints, hin]
      have efr : (((List.range K).map fun (k : Nat) => (k : Int)).filter fun v => !decide (v ∈ H)) = fresB m bar rs := eF.symm
      rw [efr]
      have hfl : m * rs.length ≤ (fresB m bar rs).length := by rw [eF]; exact fr_len H K _ (by omega)
      have hFv : ∀ v ∈ fresB m bar rs, 0 ≤ v ∧ v ≤ 9999 := fun v hv => by
        rw [eF] at hv
        have := fr_ok hv
        omega
      have hgen : genB m rs gs bar = (genUp m rs gs (fresB m bar rs) rs.length).1.map intsRow := rfl
      rw [hgen]
      obtain ⟨F, hFF⟩ : ∃ F, F = fresB m bar rs := ⟨_, rfl⟩
      rw [← hFF] at hfl hFv ⊢
      have hvh := fun i c (hi : i < rs.length) (hc : c < m) => vals_head hr hF hcl hc hi
      have hC := (clash_cons hr hF).mp hcl
      have hall := fold_all (gs := gs) F (fun r h => (ht.row r h).1) (fun i c v hi hc hv => by
        have hm : v ∈ valsOf rs gs c (gAt gs c i) := vals_mem.mpr ⟨i, hi, rfl, hv⟩
        rw [hvh i c hi hc] at hm ⊢
        have : valIn rs gs c i = some v := by simpa using hm
        rw [this]
        rfl) rs.length (Nat.le_refl _)
      rw [List.drop_length, List.append_nil] at hall
      have hall' : ((placesOf rs true).foldl (pfP rs gs F) (rs, [])).1 = (genUp m rs gs F rs.length).1.map intsRow := by
        unfold placesOf
        rw [hall]
      rw [← hall']
      have e3 := sp_places_where (n := n + 3) m rs true ht.few ht.le5
      have hTi := pl_ok ht true
      have hTl : (placesOf rs true).length ≤ m * rs.length := plUp_len ht true rs.length (Nat.le_refl _)
      obtain ⟨T, hT⟩ : ∃ T, T = placesOf rs true := ⟨_, rfl⟩
      rw [← hT] at e3 hTi hTl ⊢
      simp only [tabD, rowsD] at e3
      simp [start, entOf, retE, evs, evOs, evA, evTs, evI, toD, toO, toB, evVar, peek, fetch, fetchs, Val.d, asB, asI, items, stV, stTg, isBo_eq, doCall, argsOf, lents, giveBack, outs, isOwn, isLst, chg, appOb, extOb, cmpD, Option.bind_assoc, isiD, wipeE, con, List.replicate, -List.map_take, -List.map_drop, -List.map_reverse, -List.map_tail, e3]
      have er' : PyData.tuple (rs.map rowD) = rowsD rs := rfl
      refine gets_for (fun i ρ => ∃ e7 e10 e11 e12 : NBE, ρ = [.sh (.int (m : Int)), .sh (.tuple (rs.map rowD)), .sh (rulesD rules), .sh (.tuple (bar.map .int)), .sh G, .sh (.list (H.map .int)), .sh (.list (F.map .int)), e7.e, .sh (rowsD ((T.take i).foldl (pfP rs gs F) (rs, [])).1), .ow (.dic (kvD ((T.take i).foldl (pfP rs gs F) (rs, [])).2)), e10.e, e11.e, e12.e, .un]) ⟨nUn, nUn, nUn, nUn, rfl⟩ ?_ ?_
      · rintro i hi ρ ⟨e7, e10, e11, e12, rfl⟩
        rw [List.length_map] at hi
        have hti := hTi _ (List.getElem_mem hi)
        have hok := pf_ok (gs := gs) (F := F) ht hFv (T.take i) (rs, []) (fun x hx => hTi x (List.mem_of_mem_take hx)) ⟨ht, rfl, fun p hp => by cases hp⟩
        have hsl := st_len (rs := rs) (gs := gs) (F := F) (T.take i) (rs, [])
        have hst : (T.take (i + 1)).foldl (pfP rs gs F) (rs, []) = pfP rs gs F ((T.take i).foldl (pfP rs gs F) (rs, [])) T[i] := by
          rw [List.take_succ_eq_append_getElem hi, List.foldl_append]
          rfl
        rw [hst, List.getElem_map]
        obtain ⟨⟨fd, su⟩, hfs⟩ : ∃ p, p = (T.take i).foldl (pfP rs gs F) (rs, []) := ⟨_, rfl⟩
        rw [← hfs] at hok hsl ⊢
        obtain ⟨⟨a, c⟩, hac⟩ : ∃ t, t = T[i] := ⟨_, rfl⟩
        rw [← hac] at hti ⊢
        simp only at hok hsl hti ⊢
        have hsl' : su.length ≤ i := by
          have : (T.take i).length ≤ i := by rw [List.length_take]; omega
          simp at hsl
          omega
        have hw := (pf_step (gs := gs) (F := F) (s := (fd, su)) (t := (a, c)) ht hFv hok hti).1
        simp only at hw
        have e4 := sp_value_in (n := n + 2) ht hF.1.shp hti.2 hti.1
        have e5 := sp_with_cell (n := n + 3) hok.1 (i := a) (c := c) (by rw [hok.2.1]; exact hti.1) hti.2 (some (genVal rs gs F su c a))
        have hvv := hvh a c hti.1 hti.2
        rw [← hG] at e4
        have hgl := hF.1.glen hti.2
        have g1 : ixD G (.int (c : Int)) = some (grpD (gs.getD c [])) := by rw [hG]; exact grp_at (by rw [hF.1.len]; exact hti.2)
        have g2 : ixD (grpD (gs.getD c [])) (.int (a : Int)) = some (nD (gAt gs c a)) := lab_at (by omega)
        obtain ⟨f, hf⟩ : ∃ f, f = gAt gs c a := ⟨_, rfl⟩
        obtain ⟨GG, hGG⟩ : ∃ GG, GG = grpD (gs.getD c []) := ⟨_, rfl⟩
        rw [← hf, ← hGG] at g2
        rw [← hGG] at g1
        rw [← hf] at hvv
        have epf : pfP rs gs F (fd, su) (a, c) = (setCell fd a c (some (genVal rs gs F su c a)), genSt rs gs F su c a) := rfl
        rw [epf]
        simp only [cD, plD, nD] at e5
        simp only [rowsD] at e4
        have hkl : (kvD su).length = su.length := by unfold kvD; rw [List.length_map]
        have hsu : su.length < lim := ylim' (by omega)
        cases hvi : valIn rs gs c a with
        | some v =>
          rw [hvi] at e4 hvv
          simp only [cD] at e4
          simp only [Option.toList_some] at hvv
          have x1 : genVal rs gs F su c a = v := by unfold genVal; rw [← hf, hvv]
          have x2 : genSt rs gs F su c a = su := by unfold genSt; rw [← hf, hvv]
          rw [x1] at e5
          rw [x1, x2]
          obtain ⟨A, hA⟩ : ∃ A, A = setCell fd a c (some v) := ⟨_, rfl⟩
          rw [← hA] at e5 ⊢
          simp [start, entOf, retE, evs, evOs, evA, evTs, evI, toD, toO, toB, evVar, peek, fetch, fetchs, Val.d, asB, asI, items, stV, stTg, isBo_eq, doCall, argsOf, lents, giveBack, outs, isOwn, isLst, chg, appOb, extOb, cmpD, Option.bind_assoc, isiD, wipeE, con, List.replicate, -List.map_take, -List.map_drop, -List.map_reverse, -List.map_tail, exB, plD, nD, e4, e5]
        | none =>
          rw [hvi] at e4 hvv
          simp only [cD] at e4
          simp only [Option.toList_none] at hvv
          have hfx : ixD (.list (F.map .int)) (.int (su.length : Int)) = some (.int (F.getD su.length 0)) := by
            have hlt : su.length < F.length := by omega
            rw [vals_at F su.length hlt, List.getD_eq_getElem?_getD, List.getElem?_eq_getElem hlt]
            rfl
          have hk := kv_get su c f
          cases hlk : su.lookup (c, f) with
          | some w =>
            have x1 : genVal rs gs F su c a = w := by unfold genVal; rw [← hf, hvv]; simp only [hlk]
            have x2 : genSt rs gs F su c a = su := by unfold genSt; rw [← hf, hvv]; simp only [hlk]
            rw [x1] at e5
            rw [x1, x2]
            rw [hlk] at hk
            obtain ⟨A, hA⟩ : ∃ A, A = setCell fd a c (some w) := ⟨_, rfl⟩
            rw [← hA] at e5 ⊢
            have hso : sdOb [(c : Int), (f : Int)] (.int (F.getD su.length 0)) (.dic (kvD su)) = some (.int w, .dic (kvD su)) := by
              unfold sdOb
              simp only
              rw [if_pos (by rw [hkl]; exact hsu), hk]
              rfl
            obtain ⟨z, hz⟩ : ∃ z, z = F.getD su.length 0 := ⟨_, rfl⟩
            rw [← hz] at hso hfx
            simp [start, entOf, retE, evs, evOs, evA, evTs, evI, toD, toO, toB, evVar, peek, fetch, fetchs, Val.d, asB, asI, items, stV, stTg, isBo_eq, doCall, argsOf, lents, giveBack, outs, isOwn, isLst, chg, appOb, extOb, cmpD, Option.bind_assoc, isiD, wipeE, con, List.replicate, -List.map_take, -List.map_drop, -List.map_reverse, -List.map_tail, exB, plD, nD, e4, g1, g2, key_2, dicAt, hkl, hfx, hso, e5]
          | none =>
            have x1 : genVal rs gs F su c a = F.getD su.length 0 := by unfold genVal; rw [← hf, hvv]; simp only [hlk]
            have x2 : genSt rs gs F su c a = su ++ [((c, f), F.getD su.length 0)] := by unfold genSt; rw [← hf, hvv]; simp only [hlk]
            rw [x1] at e5
            rw [x1, x2]
            rw [hlk] at hk
            obtain ⟨z, hz⟩ : ∃ z, z = F.getD su.length 0 := ⟨_, rfl⟩
            rw [← hz] at hfx e5 ⊢
            have hp := kv_put su c f z hlk
            obtain ⟨A, hA⟩ : ∃ A, A = setCell fd a c (some z) := ⟨_, rfl⟩
            rw [← hA] at e5 ⊢
            obtain ⟨su2, hsu2⟩ : ∃ su2, su2 = kvD (su ++ [((c, f), z)]) := ⟨_, rfl⟩
            rw [← hsu2] at hp ⊢
            have hso : sdOb [(c : Int), (f : Int)] (.int z) (.dic (kvD su)) = some (.int z, .dic su2) := by
              unfold sdOb
              simp only
              rw [if_pos (by rw [hkl]; exact hsu), hk, ← hp]
              rfl
            simp [start, entOf, retE, evs, evOs, evA, evTs, evI, toD, toO, toB, evVar, peek, fetch, fetchs, Val.d, asB, asI, items, stV, stTg, isBo_eq, doCall, argsOf, lents, giveBack, outs, isOwn, isLst, chg, appOb, extOb, cmpD, Option.bind_assoc, isiD, wipeE, con, List.replicate, -List.map_take, -List.map_drop, -List.map_reverse, -List.map_tail, exB, plD, nD, e4, g1, g2, key_2, dicAt, hkl, hfx, hso, e5]
      · rintro ρ' ⟨e7, e10, e11, e12, rfl⟩
        rw [List.length_map, List.take_length]
        simp [start, entOf, retE, evs, evOs, evA, evTs, evI, toD, toO, toB, evVar, peek, fetch, fetchs, Val.d, asB, asI, items, stV, stTg, isBo_eq, doCall, argsOf, lents, giveBack, outs, isOwn, isLst, chg, appOb, extOb, cmpD, Option.bind_assoc, isiD, wipeE, con, List.replicate, -List.map_take, -List.map_drop, -List.map_reverse, -List.map_tail]
end MP
end

section
set_option Elab.async false
set_option linter.all false
set_option maxRecDepth 100000
set_option maxHeartbeats 8000000
namespace MP
open PySem
variable {n : Nat}
/-- a while whose body may return -/
theorem gets_whlR {c : Env → Option (Bool × Env)} {body : Env → Option Fl} {Z : Fl → Prop} (P : Nat → Env → Prop) (R : Val → Prop)
    (hs : ∀ k ρ, P k ρ → ∃ b ρ1, c ρ = some (b, ρ1) ∧ (b = false → Z (.nx ρ1)) ∧ (b = true → 0 < k ∧ Gets (body ρ1) (NxR (P (k - 1)) R))) (hr : ∀ v ρ', R v → Z (.rt v ρ')) :
    ∀ (n k : Nat) (ρ : Env), k < n → P k ρ → Gets (whlGo c body n ρ) Z
  | 0, k, ρ, hk, _ => by omega
  | n + 1, k, ρ, hk, hp => by
    obtain ⟨b, ρ1, h1, h2, h3⟩ := hs k ρ hp
    rw [whlGo, h1, Option.bind_some]
    cases b with
    | false => exact ⟨_, rfl, h2 rfl⟩
    | true =>
      obtain ⟨h4, fl, h5, h6⟩ := h3 rfl
      simp only [if_true]
      rw [h5, Option.bind_some]
      cases fl with
      | nx ρ2 => exact gets_whlR P R hs hr n (k - 1) ρ2 (by omega) h6
      | ct ρ2 => exact gets_whlR P R hs hr n (k - 1) ρ2 (by omega) h6
      | rt v ρ2 => exact ⟨_, rfl, hr v ρ2 h6⟩
      | bk ρ2 => exact h6.elim
theorem ini_clash {m : Nat} (rs : List Row) : clash m rs (iniGs m rs) = false := by
  have hs : Shp m rs.length (iniGs m rs) := (iniGs_inv m rs []).shp
  cases h : clash m rs (iniGs m rs) with
  | false => rfl
  | true =>
    obtain ⟨c, i, j, v, w, hc, hi, hj, e1, e2, e3, e4⟩ := (clash_iff hs).mp h
    rw [iniGs_at m rs c i hc hi, iniGs_at m rs c j hc hj, e1, e2] at e3
    simp only [firstOf] at e3
    have key : ∀ (k : Nat) (u : Int), k < rs.length → cellAt rs k c = some u → (colOf rs c)[(colOf rs c).findIdx fun x => decide (x = some u)]? = some (some u) := fun k u hk e => by
      have hm : some u ∈ colOf rs c := by
        unfold colOf
        refine List.mem_map.mpr ⟨rs[k], List.getElem_mem hk, ?_⟩
        unfold cellAt at e
        rw [getD_at hk] at e
        exact e
      have hlt : ((colOf rs c).findIdx fun x => decide (x = some u)) < (colOf rs c).length := List.findIdx_lt_length_of_exists ⟨some u, hm, by simp⟩
      have := List.findIdx_getElem (w := hlt)
      rw [List.getElem?_eq_getElem hlt]
      simpa using this
    have k1 := key i v hi e1
    have k2 := key j w hj e2
    rw [e3] at k1
    rw [k1] at k2
    simp at k2
    exact absurd k2 e4
abbrev Stp := Nat × Nat × Nat
def walkG (rules : List Rule) (gs : List (List Nat)) (S : List Stp) : List (List Nat) := S.foldl (fun gs s => stepG gs (rules.getD s.1 ([], 0)).2 s.2.1 s.2.2) gs
def WOk (rules : List Rule) (N : Nat) (gs : List (List Nat)) (S : List Stp) : Prop := ∀ i (h : i < S.length), OkStep rules N (walkG rules gs (S.take i)) S[i]
theorem walk_snoc (rules : List Rule) (gs : List (List Nat)) (S : List Stp) (s : Stp) : walkG rules gs (S ++ [s]) = stepG (walkG rules gs S) (rules.getD s.1 ([], 0)).2 s.2.1 s.2.2 := by
  unfold walkG
  rw [List.foldl_append]
  rfl
theorem WOk.snoc {rules : List Rule} {N : Nat} {gs : List (List Nat)} {S : List Stp} (h : WOk rules N gs S) {s : Stp} (hs : OkStep rules N (walkG rules gs S) s) : WOk rules N gs (S ++ [s]) := by
  intro i hi
  rw [List.length_append, List.length_singleton] at hi
  by_cases e : i < S.length
  · rw [List.take_append_of_le_length (by omega), List.getElem_append_left e]
    exact h i e
  · have e' : i = S.length := by omega
    subst e'
    rw [List.take_append_of_le_length (Nat.le_refl _), List.take_length, List.getElem_append_right (Nat.le_refl _)]
    simpa using hs
def StepsZ (m : Nat) (rs : List Row) (rules : List Rule) (r : Val × List Ob) : Prop :=
  (∃ gs, FinG m rs rules gs ∧ clash m rs gs = false ∧ r = (.sh .none, [])) ∨ ∃ S, S.length ≤ 1000 ∧ WOk rules rs.length (iniGs m rs) S ∧ GInv m rs rules (walkG rules (iniGs m rs) S) ∧ clash m rs (walkG rules (iniGs m rs) S) = true ∧ r = (.sh (.tuple (S.map stepD)), [])
theorem sp_conflict_steps {m : Nat} {rs : List Row} {rules : List Rule} (ht : OkT m rs) (hr : OkRs m rules) : Gets (evalCall Γ con (n + 4) f_conflict_steps [.sh (.int (m : Int)), .sh (rowsD rs), .sh (rulesD rules)]) (StepsZ m rs rules) := by
  refine gets_call g_conflict_steps rfl ?_
  obtain ⟨Z, hZ⟩ : ∃ Z, Z = StepsZ m rs rules := ⟨_, rfl⟩
  rw [← hZ]
  have hm := ht.hi
  have hN := ht.few
  have e0 := sp_first_groups (n := n + 1) ht
  have hI0 := iniGs_inv m rs rules
  have hc0 := ini_clash (m := m) rs
  have hsm := hI0.shp.small hm hN
  have hlen : bltD .len [rowsD rs] = some (.sh (.int rs.length)) := by simp [rowsD]
  have look : ∀ gs, Shp m rs.length gs → ∃ d : D, evalCall Γ con (n + 3) f_next_step [.sh (gsD gs), .sh (rulesD rules), .sh (.int (rs.length : Int))] = some (.sh d, []) ∧ ((d = .none ∧ NoStep rules rs.length gs) ∨ ∃ s, OkStep rules rs.length gs s ∧ d = stepD s) := fun gs hs => by
    obtain ⟨r, h1, h2⟩ := sp_next_step (n := n + 1) hs hr hm hN
    rcases h2 with ⟨rfl, h2⟩ | ⟨s, h2, rfl⟩
    · exact ⟨.none, h1, .inl ⟨rfl, h2⟩⟩
    · exact ⟨_, h1, .inr ⟨s, h2, rfl⟩⟩
  obtain ⟨I, hI⟩ : ∃ I, I = iniGs m rs := ⟨_, rfl⟩
  rw [← hI] at e0 hI0 hc0 hsm
  obtain ⟨d, e1, hd⟩ := look I hI0.shp
  simp only [gsD] at e1
  have hw0 : WOk rules rs.length I [] := fun i h => by cases h
  simp [start, entOf, retE, evs, evOs, evA, evTs, evI, toD, toO, toB, evVar, peek, fetch, fetchs, Val.d, asB, asI, items, stV, stTg, isBo_eq, doCall, argsOf, lents, giveBack, outs, isOwn, isLst, chg, appOb, extOb, cmpD, Option.bind_assoc, isiD, wipeE, con, List.replicate, -List.map_take, -List.map_drop, -List.map_reverse, -List.map_tail, d_conflict_steps, e0, hlen, e1]
  refine gets_whlR (fun k ρ => ∃ gs d S, ρ = [.sh (.int (m : Int)), .sh (rowsD rs), .sh (rulesD rules), .sh d, .sh (gsD gs), .ow (.lst (S.map stepD))] ∧ gs = walkG rules I S ∧ WOk rules rs.length I S ∧ GInv m rs rules gs ∧ clash m rs gs = false ∧ S.length + gSum gs ≤ gSum I ∧ gSum gs ≤ k ∧ ((d = .none ∧ NoStep rules rs.length gs) ∨ ∃ s, OkStep rules rs.length gs s ∧ d = stepD s))
    (fun v => ∃ S, S.length ≤ 1000 ∧ WOk rules rs.length I S ∧ GInv m rs rules (walkG rules I S) ∧ clash m rs (walkG rules I S) = true ∧ v = .sh (.tuple (S.map stepD))) ?_ ?_ wfuel (gSum I) _ ?_ ⟨I, d, [], rfl, rfl, hw0, hI0, hc0, Nat.le_of_eq (Nat.zero_add _), Nat.le_refl _, hd⟩
  · rintro k ρ ⟨gs, d, S, rfl, hg, hw, hG, hcl, hS, hk, hd⟩
    rcases hd with ⟨rfl, hd⟩ | ⟨⟨num, i, j⟩, hd, rfl⟩
    · refine ⟨false, [.sh (.int (m : Int)), .sh (rowsD rs), .sh (rulesD rules), .sh .none, .sh (gsD gs), .ow (.lst (S.map stepD))], by simp [start, entOf, retE, evs, evOs, evA, evTs, evI, toD, toO, toB, evVar, peek, fetch, fetchs, Val.d, asB, asI, items, stV, stTg, isBo_eq, doCall, argsOf, lents, giveBack, outs, isOwn, isLst, chg, appOb, extOb, cmpD, Option.bind_assoc, isiD, wipeE, con, List.replicate, -List.map_take, -List.map_drop, -List.map_reverse, -List.map_tail, evB], fun _ => ?_, fun h => by cases h⟩
      simp [start, entOf, retE, evs, evOs, evA, evTs, evI, toD, toO, toB, evVar, peek, fetch, fetchs, Val.d, asB, asI, items, stV, stTg, isBo_eq, doCall, argsOf, lents, giveBack, outs, isOwn, isLst, chg, appOb, extOb, cmpD, Option.bind_assoc, isiD, wipeE, con, List.replicate, -List.map_take, -List.map_drop, -List.map_reverse, -List.map_tail]
      rw [hZ]
      exact .inl ⟨gs, ⟨hG, noStep_closed (m := m) hd⟩, hcl, rfl⟩
    · refine ⟨true, [.sh (.int (m : Int)), .sh (rowsD rs), .sh (rulesD rules), .sh (stepD (num, i, j)), .sh (gsD gs), .ow (.lst (S.map stepD))], by simp only [stepD]; simp [start, entOf, retE, evs, evOs, evA, evTs, evI, toD, toO, toB, evVar, peek, fetch, fetchs, Val.d, asB, asI, items, stV, stTg, isBo_eq, doCall, argsOf, lents, giveBack, outs, isOwn, isLst, chg, appOb, extOb, cmpD, Option.bind_assoc, isiD, wipeE, con, List.replicate, -List.map_take, -List.map_drop, -List.map_reverse, -List.map_tail, evB], fun h => (by cases h), fun _ => ?_⟩
      have hs := hG.shp
      have h1 := hd.num
      have h2 := hd.lt
      have h3 := hd.hi
      simp only at h1 h2 h3
      have erk := ru_at h1
      have h4 : able gs (rules.getD num ([], 0)) i j = true := hd.able
      have h5 : gAt gs (rules.getD num ([], 0)).2 i ≠ gAt gs (rules.getD num ([], 0)).2 j := hd.ne
      have hmem : rules.getD num ([], 0) ∈ rules := by rw [erk]; exact List.getElem_mem h1
      have e2 := sp_after_step (n := n + 1) hs hr hm hN h1 (show i < rs.length by omega) h3
      have hru := hr.rule _ hmem
      have hgw : stepG gs (rules.getD num ([], 0)).2 i j = walkG rules I (S ++ [(num, i, j)]) := by
        rw [walk_snoc, ← hg]
      have hwS : WOk rules rs.length I (S ++ [(num, i, j)]) := hw.snoc (by rw [← hg]; exact hd)
      have hG2 := hG.step hmem hru.thn (show i < rs.length by omega) h3 hru.inn h4 h5
      have hl := hs.lt_sum hru.thn (show i < rs.length by omega) h3 h5
      have hs2 := hs.step hru.thn (show i < rs.length by omega) h3
      obtain ⟨gs2, hg2⟩ : ∃ gs2, gs2 = stepG gs (rules.getD num ([], 0)).2 i j := ⟨_, rfl⟩
      rw [← hg2] at hl hs2 hG2 e2 hgw
      have e3 := sp_is_conflict (n := n + 1) ht hs2
      obtain ⟨d2, e4, hd2⟩ := look gs2 hs2
      refine ⟨by omega, ?_⟩
      have hSl : S.length < lim := ylim' (by omega)
      have hSD : (S.map stepD) ++ [stepD (num, i, j)] = (S ++ [(num, i, j)]).map stepD := by rw [List.map_append]; rfl
      simp only [gsD] at e2 e3 e4
      obtain ⟨sd, hsd⟩ : ∃ sd, sd = stepD (num, i, j) := ⟨_, rfl⟩
      rw [← hsd] at e2 hSD ⊢
      obtain ⟨S2, hS2⟩ : ∃ S2, S2 = S ++ [(num, i, j)] := ⟨_, rfl⟩
      have hS2l : S2.length = S.length + 1 := by rw [hS2]; simp
      rw [← hS2] at hgw hwS hSD
      cases hc2 : clash m rs gs2 with
      | true =>
        rw [hc2] at e3
        simp [start, entOf, retE, evs, evOs, evA, evTs, evI, toD, toO, toB, evVar, peek, fetch, fetchs, Val.d, asB, asI, items, stV, stTg, isBo_eq, doCall, argsOf, lents, giveBack, outs, isOwn, isLst, chg, appOb, extOb, cmpD, Option.bind_assoc, isiD, wipeE, con, List.replicate, -List.map_take, -List.map_drop, -List.map_reverse, -List.map_tail, exB, gsD, e2, hSl, e3]
        rw [hgw] at hG2 hc2
        exact ⟨S2, by omega, hwS, hG2, hc2, hSD⟩
      | false =>
        rw [hc2] at e3
        simp [start, entOf, retE, evs, evOs, evA, evTs, evI, toD, toO, toB, evVar, peek, fetch, fetchs, Val.d, asB, asI, items, stV, stTg, isBo_eq, doCall, argsOf, lents, giveBack, outs, isOwn, isLst, chg, appOb, extOb, cmpD, Option.bind_assoc, isiD, wipeE, con, List.replicate, -List.map_take, -List.map_drop, -List.map_reverse, -List.map_tail, exB, gsD, e2, hSl, e3, e4, hlen]
        exact ⟨gs2, d2, S2, ⟨rfl, rfl, hSD⟩, hgw, hwS, hG2, hc2, by omega, by omega, by simpa using hd2⟩
  · rintro v ρ' ⟨S, h1, h2, h3, h4, rfl⟩
    simp [start, entOf, retE, evs, evOs, evA, evTs, evI, toD, toO, toB, evVar, peek, fetch, fetchs, Val.d, asB, asI, items, stV, stTg, isBo_eq, doCall, argsOf, lents, giveBack, outs, isOwn, isLst, chg, appOb, extOb, cmpD, Option.bind_assoc, isiD, wipeE, con, List.replicate, -List.map_take, -List.map_drop, -List.map_reverse, -List.map_tail]
    rw [hZ]
    rw [hI] at h2 h3 h4
    exact .inr ⟨S, h1, h2, h3, h4, rfl⟩
  · unfold wfuel
    omega
theorem clash_up {m : Nat} {rs : List Row} {rules : List Rule} (hr : OkRs m rules) {gs g2 : List (List Nat)} (hF : FinG m rs rules gs) (hG : GInv m rs rules g2) (h : clash m rs g2 = true) : clash m rs gs = true := by
  obtain ⟨c, i, j, v, w, hc, hi, hj, e1, e2, e3, e4⟩ := (clash_iff hG.shp).mp h
  cases hq : clash m rs gs with
  | true => rfl
  | false =>
    have hC := (clash_cons hr hF).mp hq
    have h1 := hG.snd c hc i hi
    have h2 := hG.snd c hc j hj
    rw [← e3] at h2
    exact absurd (hC c hc i j v w hi hj e1 e2 (.trans h1 (.symm h2))) e4
def verD (m : Nat) (rs : List Row) (gs : List (List Nat)) : D := .tuple [.str "filling", .tuple [.int (m : Int), rowsD (genRows m rs gs)]]
def conD (S : List Stp) : D := .tuple [.str "conflict", .tuple (S.map stepD)]
theorem sp_verdict {m : Nat} {rs : List Row} {rules : List Rule} (ht : OkT m rs) (hr : OkRs m rules) {gs : List (List Nat)} (hF : FinG m rs rules gs) :
    (clash m rs gs = false ∧ evalCall Γ con (n + 9) f_verdict [.sh (tabD m rs), .sh (rulesD rules)] = some (.sh (verD m rs gs), [])) ∨
    (clash m rs gs = true ∧ ∃ S, S.length ≤ 1000 ∧ WOk rules rs.length (iniGs m rs) S ∧ GInv m rs rules (walkG rules (iniGs m rs) S) ∧ clash m rs (walkG rules (iniGs m rs) S) = true ∧ evalCall Γ con (n + 9) f_verdict [.sh (tabD m rs), .sh (rulesD rules)] = some (.sh (conD S), [])) := by
  have e1 := sp_need_both (n := n) m rs rules ht hr
  obtain ⟨r, e2, hz⟩ := sp_conflict_steps (n := n + 4) ht hr
  have hT1 : ixD (tabD m rs) (.int 1) = some (rowsD rs) := by unfold tabD; rw [ixT1]; rfl
  have hT0 : ixD (tabD m rs) (.int 0) = some (.int (m : Int)) := by unfold tabD; rw [ixT0]; rfl
  rcases hz with ⟨gs', hF', hcl, rfl⟩ | ⟨S, h1, h2, h3, h4, rfl⟩
  · have hgg := hF'.eq hF hr
    subst hgg
    refine .inl ⟨hcl, eq_call g_verdict rfl ?_⟩
    have e3 := sp_general_rows (n := n + 3) ht hr hF' (bar := []) (by simp)
    rw [hcl, genB_nil ht] at e3
    simp only [Bool.false_eq_true, if_false, List.map_nil] at e3
    unfold verD
    obtain ⟨W, hW⟩ : ∃ W, W = rowsD (genRows m rs gs') := ⟨_, rfl⟩
    rw [← hW] at e3 ⊢
    obtain ⟨T, hT⟩ : ∃ T, T = tabD m rs := ⟨_, rfl⟩
    rw [← hT] at e1 hT0 hT1 ⊢
    simp [start, entOf, retE, evs, evOs, evA, evTs, evI, toD, toO, toB, evVar, peek, fetch, fetchs, Val.d, asB, asI, items, stV, stTg, isBo_eq, doCall, argsOf, lents, giveBack, outs, isOwn, isLst, chg, appOb, extOb, cmpD, Option.bind_assoc, isiD, wipeE, con, List.replicate, -List.map_take, -List.map_drop, -List.map_reverse, -List.map_tail, d_verdict, e1, hT0, hT1, e2, e3, con]
  · refine .inr ⟨clash_up hr hF h3 h4, S, h1, h2, h3, h4, eq_call g_verdict rfl ?_⟩
    unfold conD
    obtain ⟨W, hW⟩ : ∃ W, W = S.map stepD := ⟨_, rfl⟩
    rw [← hW] at e2 ⊢
    obtain ⟨T, hT⟩ : ∃ T, T = tabD m rs := ⟨_, rfl⟩
    rw [← hT] at e1 hT0 hT1 ⊢
    simp [start, entOf, retE, evs, evOs, evA, evTs, evI, toD, toO, toB, evVar, peek, fetch, fetchs, Val.d, asB, asI, items, stV, stTg, isBo_eq, doCall, argsOf, lents, giveBack, outs, isOwn, isLst, chg, appOb, extOb, cmpD, Option.bind_assoc, isiD, wipeE, con, List.replicate, -List.map_take, -List.map_drop, -List.map_reverse, -List.map_tail, d_verdict, e1, hT0, hT1, e2, con]
end MP
end

section
set_option Elab.async false
set_option linter.all false
set_option maxRecDepth 100000
set_option maxHeartbeats 8000000
namespace MP
open PySem
variable {n : Nat}
theorem sp_l_number (x a b : Int) : evalCall Γ con (n + 1) f_l_is_number [.sh (.int x), .sh (.int a), .sh (.int b)] = some (.sh (.bool (decide (a ≤ x) && decide (x ≤ b))), []) := by
  refine eq_call g_l_is_number rfl ?_
  by_cases h1 : a ≤ x
  · by_cases h2 : x ≤ b
    · simp [start, entOf, retE, evs, evOs, evA, evTs, evI, toD, toO, toB, evVar, peek, fetch, fetchs, Val.d, asB, asI, items, stV, stTg, isBo_eq, doCall, argsOf, lents, giveBack, outs, isOwn, isLst, chg, appOb, extOb, cmpD, Option.bind_assoc, isiD, wipeE, con, List.replicate, -List.map_take, -List.map_drop, -List.map_reverse, -List.map_tail, d_l_is_number, isiD, h1, h2]
    · simp [start, entOf, retE, evs, evOs, evA, evTs, evI, toD, toO, toB, evVar, peek, fetch, fetchs, Val.d, asB, asI, items, stV, stTg, isBo_eq, doCall, argsOf, lents, giveBack, outs, isOwn, isLst, chg, appOb, extOb, cmpD, Option.bind_assoc, isiD, wipeE, con, List.replicate, -List.map_take, -List.map_drop, -List.map_reverse, -List.map_tail, d_l_is_number, isiD, h1, h2]
  · simp [start, entOf, retE, evs, evOs, evA, evTs, evI, toD, toO, toB, evVar, peek, fetch, fetchs, Val.d, asB, asI, items, stV, stTg, isBo_eq, doCall, argsOf, lents, giveBack, outs, isOwn, isLst, chg, appOb, extOb, cmpD, Option.bind_assoc, isiD, wipeE, con, List.replicate, -List.map_take, -List.map_drop, -List.map_reverse, -List.map_tail, d_l_is_number, isiD, h1]
theorem sp_l_step {m : Nat} {rs : List Row} {rules : List Rule} {k i j : Nat} (hk : k < rules.length) (hij : i < j) (hj : j < rs.length) : evalCall Γ con (n + 2) f_l_is_step [.sh (rowsD rs), .sh (rulesD rules), .sh (stepD (k, i, j))] = some (.sh (.bool true), []) := by
  refine eq_call g_l_is_step rfl ?_
  have e1 := sp_l_number (n := n) (k : Int) 0 ((rules.length : Int) - 1)
  have e2 := sp_l_number (n := n) (i : Int) 0 ((rs.length : Int) - 1)
  have e3 := sp_l_number (n := n) (j : Int) 0 ((rs.length : Int) - 1)
  rw [decide_eq_true (by omega), decide_eq_true (by omega)] at e1 e2 e3
  simp only [Bool.and_true] at e1 e2 e3
  have hl1 : bltD .len [rowsD rs] = some (.sh (.int rs.length)) := by simp [rowsD]
  have hl2 : bltD .len [rulesD rules] = some (.sh (.int rules.length)) := by simp [rulesD]
  have hlt : (i : Int) < (j : Int) := by omega
  have x0 : ixD (.tuple [.int (k : Int), .int (i : Int), .int (j : Int)]) (.int 0) = some (.int (k : Int)) := rfl
  have x1 : ixD (.tuple [.int (k : Int), .int (i : Int), .int (j : Int)]) (.int 1) = some (.int (i : Int)) := rfl
  have x2 : ixD (.tuple [.int (k : Int), .int (i : Int), .int (j : Int)]) (.int 2) = some (.int (j : Int)) := rfl
  simp only [stepD, nD]
  simp [start, entOf, retE, evs, evOs, evA, evTs, evI, toD, toO, toB, evVar, peek, fetch, fetchs, Val.d, asB, asI, items, stV, stTg, isBo_eq, doCall, argsOf, lents, giveBack, outs, isOwn, isLst, chg, appOb, extOb, cmpD, Option.bind_assoc, isiD, wipeE, con, List.replicate, -List.map_take, -List.map_drop, -List.map_reverse, -List.map_tail, d_l_is_step, isiD, x0, x1, x2, hl1, hl2, e1, e2, e3, hlt, hij]
theorem ini_fin {m : Nat} (rs : List Row) : FinG m rs [] (iniGs m rs) := ⟨iniGs_inv m rs [], fun ru h => by cases h⟩
theorem walk_shp {m : Nat} {rs : List Row} {rules : List Rule} (hr : OkRs m rules) {I : List (List Nat)} (hI : Shp m rs.length I) {S : List Stp} (hS : WOk rules rs.length I S) : ∀ k, k ≤ S.length → Shp m rs.length (walkG rules I (S.take k))
  | 0, _ => hI
  | k + 1, hk => by
    have ih := walk_shp hr hI hS k (by omega)
    have h := hS k (by omega)
    rw [List.take_succ_eq_append_getElem (by omega), walk_snoc]
    have h1 := h.num
    have hmem : rules.getD S[k].1 ([], 0) ∈ rules := by rw [ru_at h1]; exact List.getElem_mem h1
    exact ih.step (hr.rule _ hmem).thn (by have := h.lt; have := h.hi; omega) h.hi
theorem okrs_nil (m : Nat) : OkRs m [] := ⟨by simp, fun ru h => by cases h⟩
theorem st_grp {gs : List (List Nat)} {c : Nat} (g : List Nat) (h : c < gs.length) : stOb (.int (c : Int)) (grpD g) (.lst (gs.map grpD)) = some ((), .lst ((gs.set c g).map grpD)) := by
  rw [← set_grp]
  exact st_at (grpD g) (by rw [List.length_map]; exact h)
theorem sp_l_walked {m : Nat} {rs : List Row} {rules : List Rule} (ht : OkT m rs) (hr : OkRs m rules) {S : List Stp} (hS : WOk rules rs.length (iniGs m rs) S) :
    evalCall Γ con (n + 3) f_l_walked [.sh (.int (m : Int)), .sh (rowsD rs), .sh (rulesD rules), .sh (.tuple (S.map stepD))] = some (.ow (.lst ((walkG rules (iniGs m rs) S).map grpD)), []) := by
  refine eq_call g_l_walked rfl ?_
  have e0 := joined_val (n := n + 1) ht (okrs_nil m) (ini_fin rs)
  have e0' : evalCall Γ con (n + 2) f_l_joined [.sh (.int (m : Int)), .sh (rowsD rs), .sh (.tuple [])] = some (.ow (.lst ((iniGs m rs).map grpD)), []) := e0
  have hIs : Shp m rs.length (iniGs m rs) := (iniGs_inv m rs []).shp
  obtain ⟨I, hI⟩ : ∃ I, I = iniGs m rs := ⟨_, rfl⟩
  rw [← hI] at e0' hS hIs ⊢
  have hm := ht.hi
  have hN := ht.few
  simp [start, entOf, retE, evs, evOs, evA, evTs, evI, toD, toO, toB, evVar, peek, fetch, fetchs, Val.d, asB, asI, items, stV, stTg, isBo_eq, doCall, argsOf, lents, giveBack, outs, isOwn, isLst, chg, appOb, extOb, cmpD, Option.bind_assoc, isiD, wipeE, con, List.replicate, -List.map_take, -List.map_drop, -List.map_reverse, -List.map_tail, d_l_walked, isiD, e0']
  refine gets_for (fun k ρ => ∃ e5 e6 e7 e8 e9 e10 : NBE, ρ = [.sh (.int (m : Int)), .sh (rowsD rs), .sh (rulesD rules), .sh (.tuple (S.map stepD)), .ow (.lst ((walkG rules I (S.take k)).map grpD)), e5.e, e6.e, e7.e, e8.e, e9.e, e10.e, .un, .un]) ⟨nUn, nUn, nUn, nUn, nUn, nUn, rfl⟩ ?_ ?_
  · rintro k hk ρ ⟨e5, e6, e7, e8, e9, e10, rfl⟩
    rw [List.length_map] at hk
    have hs := walk_shp hr hIs hS k (by omega)
    have hok := hS k hk
    have hwk : walkG rules I (S.take (k + 1)) = stepG (walkG rules I (S.take k)) (rules.getD S[k].1 ([], 0)).2 S[k].2.1 S[k].2.2 := by
      rw [List.take_succ_eq_append_getElem hk, walk_snoc]
    rw [hwk, List.getElem_map]
    obtain ⟨gs, hgs⟩ : ∃ gs, gs = walkG rules I (S.take k) := ⟨_, rfl⟩
    obtain ⟨⟨num, i, j⟩, hsk⟩ : ∃ s, s = S[k] := ⟨_, rfl⟩
    rw [← hgs] at hs hok ⊢
    rw [← hsk] at hok ⊢
    have h1 := hok.num
    have h2 := hok.lt
    have h3 := hok.hi
    have h4 := hok.able
    simp only at h1 h2 h3 h4 ⊢
    have erk := ru_at h1
    have hmem : rules.getD num ([], 0) ∈ rules := by rw [erk]; exact List.getElem_mem h1
    have hru := hr.rule _ hmem
    have hixr : ixD (rulesD rules) (.int (num : Int)) = some (ruleD (rules.getD num ([], 0))) := by
      rw [erk]
      unfold rulesD
      rw [ixT, List.getElem?_map, List.getElem?_eq_getElem h1]
      rfl
    obtain ⟨ru, hru'⟩ : ∃ ru, ru = rules.getD num ([], 0) := ⟨_, rfl⟩
    rw [← hru'] at h4 hru hixr ⊢
    have f1 := sp_l_step (n := n) (m := m) (rs := rs) (rules := rules) h1 h2 h3
    have hct := hru.thn
    have g1 : ixD (.list (gs.map grpD)) (.int (ru.2 : Int)) = some (grpD (gs.getD ru.2 [])) := grp_at (by rw [hs.len]; exact hct)
    have hgl := hs.glen hct
    have g2 : ixD (grpD (gs.getD ru.2 [])) (.int (i : Int)) = some (nD (gAt gs ru.2 i)) := lab_at (by omega)
    have g3 : ixD (grpD (gs.getD ru.2 [])) (.int (j : Int)) = some (nD (gAt gs ru.2 j)) := lab_at (by omega)
    have hq : ∀ c ∈ ru.1, ixD (.list (gs.map grpD)) (.int (c : Int)) = some (grpD (gs.getD c [])) ∧ ixD (grpD (gs.getD c [])) (.int (i : Int)) = some (nD (gAt gs c i)) ∧ ixD (grpD (gs.getD c [])) (.int (j : Int)) = some (nD (gAt gs c i)) := fun c hc => by
      have hcm := hru.inn c hc
      have hcl := hs.glen hcm
      have hab : gAt gs c i = gAt gs c j := by
        have := List.all_eq_true.mp h4 c hc
        simpa using this
      refine ⟨grp_at (by rw [hs.len]; exact hcm), lab_at (by omega), ?_⟩
      rw [hab]
      exact lab_at (by omega)
    have hst : stepG gs ru.2 i j = gs.set ru.2 (mergeL (gs.getD ru.2 []) (min (gAt gs ru.2 i) (gAt gs ru.2 j)) (max (gAt gs ru.2 i) (gAt gs ru.2 j))) := rfl
    rw [hst]
    have hso := fun g => st_grp (gs := gs) (c := ru.2) g (by rw [hs.len]; exact hct)
    have s2 := sort2 (gAt gs ru.2 i) (gAt gs ru.2 j)
    have eru : ruleD ru = .tuple [natsD ru.1, nD ru.2] := rfl
    have x0 : ixD (stepD (num, i, j)) (.int 0) = some (.int (num : Int)) := rfl
    have x1 : ixD (stepD (num, i, j)) (.int 1) = some (.int (i : Int)) := rfl
    have x2 : ixD (stepD (num, i, j)) (.int 2) = some (.int (j : Int)) := rfl
    have hgl5 := hru.len
    obtain ⟨sd, hsd⟩ : ∃ sd, sd = stepD (num, i, j) := ⟨_, rfl⟩
    rw [← hsd] at f1 x0 x1 x2 ⊢
    obtain ⟨g, hg⟩ : ∃ g, g = gs.getD ru.2 [] := ⟨_, rfl⟩
    rw [← hg] at g1 g2 g3 hgl ⊢
    obtain ⟨lo, hlo⟩ : ∃ lo, lo = min (gAt gs ru.2 i) (gAt gs ru.2 j) := ⟨_, rfl⟩
    obtain ⟨hi', hhi⟩ : ∃ hi', hi' = max (gAt gs ru.2 i) (gAt gs ru.2 j) := ⟨_, rfl⟩
    rw [← hlo, ← hhi] at s2 ⊢
    simp only [nD] at s2 g2 g3
    have hso' := hso (mergeL g lo hi')
    simp [start, entOf, retE, evs, evOs, evA, evTs, evI, toD, toO, toB, evVar, peek, fetch, fetchs, Val.d, asB, asI, items, stV, stTg, isBo_eq, doCall, argsOf, lents, giveBack, outs, isOwn, isLst, chg, appOb, extOb, cmpD, Option.bind_assoc, isiD, wipeE, con, List.replicate, -List.map_take, -List.map_drop, -List.map_reverse, -List.map_tail, exB, f1, x0, hixr]
    rw [eru]
    simp only [natsD]
    simp [start, entOf, retE, evs, evOs, evA, evTs, evI, toD, toO, toB, evVar, peek, fetch, fetchs, Val.d, asB, asI, items, stV, stTg, isBo_eq, doCall, argsOf, lents, giveBack, outs, isOwn, isLst, chg, appOb, extOb, cmpD, Option.bind_assoc, isiD, wipeE, con, List.replicate, -List.map_take, -List.map_drop, -List.map_reverse, -List.map_tail, nD, kN (k := ru.1.length) (by omega)]
    refine gets_lcf nD (fun _ => false) (fun _ => .int 1) (fun c hc => ?_) ?_
    · obtain ⟨q1, q2, q3⟩ := hq c hc
      simp only [nD] at q2 q3
      obtain ⟨GG, hGG⟩ : ∃ GG, GG = gs.getD c [] := ⟨_, rfl⟩
      rw [← hGG] at q1 q2 q3
      simp [start, entOf, retE, evs, evOs, evA, evTs, evI, toD, toO, toB, evVar, peek, fetch, fetchs, Val.d, asB, asI, items, stV, stTg, isBo_eq, doCall, argsOf, lents, giveBack, outs, isOwn, isLst, chg, appOb, extOb, cmpD, Option.bind_assoc, isiD, wipeE, con, List.replicate, -List.map_take, -List.map_drop, -List.map_reverse, -List.map_tail, evT, evD, nD, q1, x1, x2, q2, q3]
    · have e0 : eqD (.list []) (.list []) = some true := rfl
      have hfe : (ru.1.filter fun _ => false) = [] := List.filter_eq_nil_iff.mpr fun _ _ => by simp
      rw [hfe]
      simp [start, entOf, retE, evs, evOs, evA, evTs, evI, toD, toO, toB, evVar, peek, fetch, fetchs, Val.d, asB, asI, items, stV, stTg, isBo_eq, doCall, argsOf, lents, giveBack, outs, isOwn, isLst, chg, appOb, extOb, cmpD, Option.bind_assoc, isiD, wipeE, con, List.replicate, -List.map_take, -List.map_drop, -List.map_reverse, -List.map_tail, e0, g1, x1, x2, g2, g3, s2]
      simp only [grpD]
      simp [start, entOf, retE, evs, evOs, evA, evTs, evI, toD, toO, toB, evVar, peek, fetch, fetchs, Val.d, asB, asI, items, stV, stTg, isBo_eq, doCall, argsOf, lents, giveBack, outs, isOwn, isLst, chg, appOb, extOb, cmpD, Option.bind_assoc, isiD, wipeE, con, List.replicate, -List.map_take, -List.map_drop, -List.map_reverse, -List.map_tail, kN (k := g.length) (by omega)]
      refine gets_lcm nD (fun x => nD (if x = hi' then lo else x)) (fun x hx => ?_) ?_
      · by_cases hx2 : x = hi'
        · simp [start, entOf, retE, evs, evOs, evA, evTs, evI, toD, toO, toB, evVar, peek, fetch, fetchs, Val.d, asB, asI, items, stV, stTg, isBo_eq, doCall, argsOf, lents, giveBack, outs, isOwn, isLst, chg, appOb, extOb, cmpD, Option.bind_assoc, isiD, wipeE, con, List.replicate, -List.map_take, -List.map_drop, -List.map_reverse, -List.map_tail, evT, evD, nD, hx2]
        · have hx3 : ¬ (x : Int) = (hi' : Int) := by omega
          simp [start, entOf, retE, evs, evOs, evA, evTs, evI, toD, toO, toB, evVar, peek, fetch, fetchs, Val.d, asB, asI, items, stV, stTg, isBo_eq, doCall, argsOf, lents, giveBack, outs, isOwn, isLst, chg, appOb, extOb, cmpD, Option.bind_assoc, isiD, wipeE, con, List.replicate, -List.map_take, -List.map_drop, -List.map_reverse, -List.map_tail, evT, evD, nD, hx2, hx3]
      · have hM : (g.map fun x => nD (if x = hi' then lo else x)) = (mergeL g lo hi').map nD := by
          unfold mergeL
          rw [List.map_map]
          rfl
        rw [hM]
        have hso2 : stOb (.int (ru.2 : Int)) (.list ((mergeL g lo hi').map nD)) (.lst (gs.map grpD)) = some ((), .lst ((gs.set ru.2 (mergeL g lo hi')).map grpD)) := hso'
        obtain ⟨M, hMM⟩ : ∃ M, M = mergeL g lo hi' := ⟨_, rfl⟩
        rw [← hMM] at hso2 ⊢
        simp [start, entOf, retE, evs, evOs, evA, evTs, evI, toD, toO, toB, evVar, peek, fetch, fetchs, Val.d, asB, asI, items, stV, stTg, isBo_eq, doCall, argsOf, lents, giveBack, outs, isOwn, isLst, chg, appOb, extOb, cmpD, Option.bind_assoc, isiD, wipeE, con, List.replicate, -List.map_take, -List.map_drop, -List.map_reverse, -List.map_tail, hso2]
        rfl
  · rintro ρ' ⟨e5, e6, e7, e8, e9, e10, rfl⟩
    rw [List.length_map, List.take_length]
    simp [start, entOf, retE, evs, evOs, evA, evTs, evI, toD, toO, toB, evVar, peek, fetch, fetchs, Val.d, asB, asI, items, stV, stTg, isBo_eq, doCall, argsOf, lents, giveBack, outs, isOwn, isLst, chg, appOb, extOb, cmpD, Option.bind_assoc, isiD, wipeE, con, List.replicate, -List.map_take, -List.map_drop, -List.map_reverse, -List.map_tail]
theorem sm_ver {m : Nat} {rs : List Row} (ht : OkT m rs) (gs : List (List Nat)) : Sm 4 4000 (verD m rs gs) := by
  have h1 := (sm_tab (gen_ok ht gs).1)
  exact (sm_two (k := 3) (w := 1700) ((sm_str (by decide +kernel) (by decide +kernel)).mono (by omega) (by omega)) h1).mono (by omega) (by omega)
theorem sm_con {rules : List Rule} {N : Nat} {I : List (List Nat)} {S : List Stp} (hr : rules.length ≤ 8) (hN : N ≤ 8) (hS : WOk rules N I S) (hl : S.length ≤ 1000) : Sm 3 200000 (conD S) := by
  refine (sm_two (k := 2) (w := 64000) ((sm_str (by decide +kernel) (by decide +kernel)).mono (by omega) (by omega)) (sm_tuple (k := 1) (w := 63) (N := 1000) (fun x hx => ?_) (by rw [List.length_map]; exact hl))).mono (by omega) (by omega)
  obtain ⟨s, hs, rfl⟩ := List.mem_map.mp hx
  obtain ⟨i, hi, rfl⟩ := List.getElem_of_mem hs
  have h := hS i hi
  have h1 := h.num
  have h2 := h.lt
  have h3 := h.hi
  refine sm_tuple (k := 0) (w := 20) (N := 3) (fun y hy => ?_) (by simp)
  simp only [List.mem_cons, List.not_mem_nil, or_false] at hy
  rcases hy with rfl | rfl | rfl
  · exact sm_nat (by omega)
  · exact sm_nat (by omega)
  · exact sm_nat (by omega)
/-- all of one lap of the law -/
theorem ver_all {m : Nat} {rs : List Row} {rules : List Rule} (ht : OkT m rs) (hr : OkRs m rules) :
    ∃ d : D, evalCall Γ con (n + 9) f_verdict [.sh (tabD m rs), .sh (rulesD rules)] = some (.sh d, []) ∧ evalCall Γ con (n + 9) f_l_is_right [.sh (.int (m : Int)), .sh (rowsD rs), .sh (rulesD rules), .sh d] = some (.sh (.bool true), []) ∧ evalCall Γ con (n + 9) f_l_same [.sh d, .sh d] = some (.sh (.bool true), []) := by
  obtain ⟨gs, hF⟩ := fin_ex ht hr
  have e1 := sp_general (n := n + 5) m rs rules ht hr gs hF
  rcases sp_verdict (n := n) ht hr hF with ⟨hcl, e2⟩ | ⟨hcl, S, hSl, hS, hG, hc2, e2⟩
  · refine ⟨_, e2, ?_, sp_same (n := n + 8) (sm_ver ht gs) (by omega) (by omega)⟩
    have e3 := sp_same (n := n + 7) (sm_ver ht gs) (by omega) (by omega)
    refine eq_call g_l_is_right rfl ?_
    rw [hcl] at e1
    simp only [Bool.false_eq_true, if_false] at e1
    unfold verD at e3 ⊢
    simp only [rowsD] at e1 e3 ⊢
    obtain ⟨W, hW⟩ : ∃ W, W = (genRows m rs gs).map rowD := ⟨_, rfl⟩
    rw [← hW] at e1 e3 ⊢
    simp [start, entOf, retE, evs, evOs, evA, evTs, evI, toD, toO, toB, evVar, peek, fetch, fetchs, Val.d, asB, asI, items, stV, stTg, isBo_eq, doCall, argsOf, lents, giveBack, outs, isOwn, isLst, chg, appOb, extOb, cmpD, Option.bind_assoc, isiD, wipeE, con, List.replicate, -List.map_take, -List.map_drop, -List.map_reverse, -List.map_tail, d_l_is_right, e1, e3]
  · refine ⟨_, e2, ?_, sp_same (n := n + 8) (sm_con hr.few ht.few hS hSl) (by omega) (by omega)⟩
    refine eq_call g_l_is_right rfl ?_
    rw [hcl] at e1
    simp only [if_true] at e1
    have e3 := sp_l_walked (n := n + 5) ht hr hS
    have e4 := sp_clash (n := n + 6) m rs rules _ ht hG
    rw [hc2] at e4
    unfold conD
    obtain ⟨g2, hg2⟩ : ∃ g2, g2 = (walkG rules (iniGs m rs) S).map grpD := ⟨_, rfl⟩
    rw [← hg2] at e3 e4
    obtain ⟨W, hW⟩ : ∃ W, W = S.map stepD := ⟨_, rfl⟩
    rw [← hW] at e3 ⊢
    have x0 : ixD (.tuple [.str "conflict", .tuple W]) (.int 0) = some (.str "conflict") := rfl
    have x1 : ixD (.tuple [.str "conflict", .tuple W]) (.int 1) = some (.tuple W) := rfl
    simp [start, entOf, retE, evs, evOs, evA, evTs, evI, toD, toO, toB, evVar, peek, fetch, fetchs, Val.d, asB, asI, items, stV, stTg, isBo_eq, doCall, argsOf, lents, giveBack, outs, isOwn, isLst, chg, appOb, extOb, cmpD, Option.bind_assoc, isiD, wipeE, con, List.replicate, -List.map_take, -List.map_drop, -List.map_reverse, -List.map_tail, d_l_is_right, e1, isiD, x0, x1, e3, e4]
theorem law_k06 : ∀ ns : List Int, ns.length ≤ 63 → evalCall Γ con 40 f_law_7 [.sh (.list (ns.map .int))] = some (.sh (.bool true), []) := by
  intro ns hns
  refine eq_call (n := 39) g_law_7 rfl ?_
  obtain ⟨L, hL3, hL⟩ := cells3 ns
  have hk : ckI (L : Int) = some () := kI (by omega) (by omega)
  have hk9 : ckI 9 = some () := kI (by omega) (by omega)
  simp [start, entOf, retE, evs, evOs, evA, evTs, evI, toD, toO, toB, evVar, peek, fetch, fetchs, Val.d, asB, asI, items, stV, stTg, isBo_eq, doCall, argsOf, lents, giveBack, outs, isOwn, isLst, chg, appOb, extOb, cmpD, Option.bind_assoc, isiD, wipeE, con, List.replicate, -List.map_take, -List.map_drop, -List.map_reverse, -List.map_tail, d_law_7]
  rw [hL, hk, Option.bind_some]
  refine gets_for (fun i ρ => ∃ e1 e2 e3 e4 e5 e6 e7 : NBE, ρ = [.sh (.list (ns.map .int)), e1.e, e2.e, e3.e, e4.e, e5.e, e6.e, e7.e]) ⟨nUn, nUn, nUn, nUn, nUn, nUn, nUn, rfl⟩ ?_ ?_
  · rintro k hk ρ ⟨e1, e2, e3, e4, e5, e6, e7, rfl⟩
    simp only [rng_at, Int.zero_add]
    have ec := sp_cell_at (n := 38) ns k
    obtain ⟨c, hc⟩ : ∃ c, c = ns.getD k 0 := ⟨_, rfl⟩
    rw [← hc] at ec
    obtain ⟨o, hp, ep⟩ := sp_pen (n := 38) c
    simp [start, entOf, retE, evs, evOs, evA, evTs, evI, toD, toO, toB, evVar, peek, fetch, fetchs, Val.d, asB, asI, items, stV, stTg, isBo_eq, doCall, argsOf, lents, giveBack, outs, isOwn, isLst, chg, appOb, extOb, cmpD, Option.bind_assoc, isiD, wipeE, con, List.replicate, -List.map_take, -List.map_drop, -List.map_reverse, -List.map_tail, exB, ec, ep, hk9]
    refine gets_for (fun i ρ => ∃ o, ∃ e3 e4 e5 e6 e7 : NBE, ρ = [.sh (.list (ns.map .int)), .sh (.int (k : Int)), .ow o, e3.e, e4.e, e5.e, e6.e, e7.e] ∧ Pen (300 * i) o) ⟨o, e3, e4, e5, e6, e7, rfl, hp⟩ ?_ ?_
    · rintro i hi ρ ⟨o, e3, e4, e5, e6, e7, rfl, hp⟩
      rw [rng_len] at hi
      simp only [rng_at, Int.zero_add]
      obtain ⟨d, o1, hd, hp1, f1⟩ := sp_draw (n := 38) (300 * i) 5 o hp (by omega) (by omega) (by omega)
      have f1' : evalCall Γ con 39 f_l_draw [.mu o, .sh (.int 5)] = some (.sh (.int (d : Int)), [o1]) := f1
      obtain ⟨m, hm⟩ : ∃ m, m = 1 + d := ⟨_, rfl⟩
      have hm' : (1 : Int) + (d : Int) = (m : Int) := by omega
      obtain ⟨rules, o2, hr, hp2, f2⟩ := sp_rules (n := 36) (300 * i + 1) m 8 o1 hp1 (by omega) (by omega) (by omega) (by omega)
      have f2' : evalCall Γ con 39 f_l_rules [.mu o1, .sh (.int (m : Int)), .sh (.int 8)] = some (.sh (rulesD rules), [o2]) := f2
      obtain ⟨rs, o3, ht, hp3, f3⟩ := sp_kind (n := 35) (300 * i + 1 + 49) m 8 o2 rules hr hp2 (by omega) (by omega) (by omega) (by omega)
      have f3' : evalCall Γ con 39 f_l_kind_rows [.mu o2, .sh (.int (m : Int)), .sh (.int 8), .sh (rulesD rules)] = some (.sh (rowsD rs), [o3]) := f3
      obtain ⟨v, g1, g2, g3⟩ := ver_all (n := 30) ht hr
      simp only [tabD] at g1
      simp [start, entOf, retE, evs, evOs, evA, evTs, evI, toD, toO, toB, evVar, peek, fetch, fetchs, Val.d, asB, asI, items, stV, stTg, isBo_eq, doCall, argsOf, lents, giveBack, outs, isOwn, isLst, chg, appOb, extOb, cmpD, Option.bind_assoc, isiD, wipeE, con, List.replicate, -List.map_take, -List.map_drop, -List.map_reverse, -List.map_tail, exB, f1', hm', f2', f3', g1, g2, g3]
      exact hp3.mono (by omega)
    · rintro ρ' ⟨o, e3, e4, e5, e6, e7, rfl, hp⟩
      simp [start, entOf, retE, evs, evOs, evA, evTs, evI, toD, toO, toB, evVar, peek, fetch, fetchs, Val.d, asB, asI, items, stV, stTg, isBo_eq, doCall, argsOf, lents, giveBack, outs, isOwn, isLst, chg, appOb, extOb, cmpD, Option.bind_assoc, isiD, wipeE, con, List.replicate, -List.map_take, -List.map_drop, -List.map_reverse, -List.map_tail]
  · rintro ρ' ⟨e1, e2, e3, e4, e5, e6, e7, rfl⟩
    simp [start, entOf, retE, evs, evOs, evA, evTs, evI, toD, toO, toB, evVar, peek, fetch, fetchs, Val.d, asB, asI, items, stV, stTg, isBo_eq, doCall, argsOf, lents, giveBack, outs, isOwn, isLst, chg, appOb, extOb, cmpD, Option.bind_assoc, isiD, wipeE, con, List.replicate, -List.map_take, -List.map_drop, -List.map_reverse, -List.map_tail]
end MP
end

set_option Elab.async false
set_option linter.all false
set_option maxRecDepth 100000
namespace Lw
open PySem PySem.Spec PyProof.Rows L2 MP
abbrev R : PySem.W.OpenRow := PySem.W.OpenLaw.row PySem.Challenge.rw_blankcells_k06_verdicts_told
def ds : List DI := [
  ⟨0, "is_whole", 9, ["thing"], false⟩,
  ⟨1, "is_between", 10, ["thing", "low", "high"], false⟩,
  ⟨2, "is_set", 11, ["thing", "last", "one", "later"], false⟩,
  ⟨3, "is_cell", 12, ["thing"], false⟩,
  ⟨4, "is_row", 13, ["many", "thing", "cell"], false⟩,
  ⟨5, "are_rows", 14, ["many", "thing", "row"], false⟩,
  ⟨6, "is_table", 15, ["thing"], false⟩,
  ⟨7, "need_table", 16, ["thing"], false⟩,
  ⟨8, "is_rule", 17, ["many", "thing"], false⟩,
  ⟨9, "are_rules_of", 18, ["many", "thing", "rule"], false⟩,
  ⟨10, "need_rules", 19, ["many", "thing"], false⟩,
  ⟨11, "need_both", 20, ["table", "rules"], false⟩,
  ⟨12, "places_where", 21, ["table", "blank", "found", "at", "row", "column", "cell"], false⟩,
  ⟨55, "with_cell", 22, ["rows", "place", "cell", "row", "at", "column"], false⟩,
  ⟨42, "values_at", 24, ["rows", "column", "row"], false⟩,
  ⟨43, "first_groups", 25, ["many", "rows", "found", "column", "cells", "at", "cell"], false⟩,
  ⟨44, "merged", 26, ["group", "row", "other", "low", "high", "first"], false⟩,
  ⟨45, "is_possible", 27, ["groups", "rule", "row", "other", "column"], false⟩,
  ⟨46, "next_step", 28, ["groups", "rules", "size", "number", "rule", "group", "other", "row"], false⟩,
  ⟨47, "after_step", 29, ["groups", "rules", "step", "then", "number", "row", "other", "column", "group"], false⟩,
  ⟨56, "values_of", 30, ["cells", "group", "first", "cell", "own"], false⟩,
  ⟨57, "value_in", 31, ["rows", "groups", "row", "column", "found"], false⟩,
  ⟨58, "is_conflict", 32, ["rows", "groups", "column", "group", "cells", "first"], false⟩,
  ⟨48, "close", 33, ["groups", "rules", "size", "step"], false⟩,
  ⟨49, "groups_of", 34, ["many", "rows", "rules"], false⟩,
  ⟨93, "conflict_steps", 35, ["many", "rows", "rules", "step", "groups", "found"], false⟩,
  ⟨94, "general_rows", 39, ["many", "rows", "rules", "barred", "groups", "had", "fresh", "place", "found", "given", "value", "row", "column", "cell"], true⟩,
  ⟨95, "verdict", 40, ["table", "rules", "steps"], false⟩,
  ⟨32, "_law_joined", 42, ["_law_many", "_law_rows_here", "_law_rules_here", "_law_groups", "_law_column", "_law_again", "_law_cells", "_law_given", "_law_then", "_law_high", "_law_row", "_law_low", "_law_group", "_law_is_able", "_law_at", "_law_cell", "_law_least", "_law_most", "_law_one"], false⟩,
  ⟨33, "_law_values", 43, ["_law_rows_here", "_law_groups", "_law_column", "_law_first", "_law_found", "_law_at", "_law_row"], false⟩,
  ⟨34, "_law_is_clash", 44, ["_law_rows_here", "_law_groups", "_law_column", "_law_group", "_law_first"], false⟩,
  ⟨35, "_law_general", 45, ["_law_many", "_law_rows_here", "_law_rules_here", "_law_groups", "_law_had", "_law_row", "_law_fresh", "_law_given", "_law_found", "_law_at", "_law_cells", "_law_column", "_law_own", "_law_value", "_law_key", "_law_cell"], false⟩,
  ⟨22, "_law_same", 46, ["_law_found", "_law_due"], false⟩,
  ⟨20, "_law_pen", 47, ["_law_cell"], false⟩,
  ⟨19, "_law_cell_at", 48, ["_law_script", "_law_k"], false⟩,
  ⟨21, "_law_draw", 49, ["_law_pen_here", "_law_many", "_law_stir", "_law_digit"], false⟩,
  ⟨23, "_law_rule", 50, ["_law_pen_here", "_law_many", "_law_then", "_law_others", "_law_size", "_law_given", "_law_lap", "_law_column"], false⟩,
  ⟨24, "_law_rules", 51, ["_law_pen_here", "_law_many", "_law_most", "_law_lap"], false⟩,
  ⟨31, "_law_rows", 52, ["_law_pen_here", "_law_many", "_law_most", "_law_lap", "_law_kinds", "_law_share", "_law_values_here", "_law_found", "_law_cells", "_law_column"], false⟩,
  ⟨36, "_law_kind_rows", 53, ["_law_pen_here", "_law_many", "_law_most", "_law_rules_here", "_law_rows_here", "_law_whole", "_law_share", "_law_found", "_law_row", "_law_cell"], false⟩,
  ⟨96, "_law_is_number", 54, ["_law_value", "_law_low", "_law_high"], false⟩,
  ⟨97, "_law_is_step", 55, ["_law_rows_here", "_law_rules_here", "_law_value"], false⟩,
  ⟨98, "_law_walked", 56, ["_law_many", "_law_rows_here", "_law_rules_here", "_law_value", "_law_groups", "_law_step", "_law_group", "_law_given", "_law_then", "_law_low", "_law_high", "_law_one", "_law_column"], false⟩,
  ⟨99, "_law_is_right", 57, ["_law_many", "_law_rows_here", "_law_rules_here", "_law_told", "_law_whole", "_law_groups"], false⟩,
  ⟨100, "law", 58, ["_law_script", "_law_k", "_law_pen_here", "_law_lap", "_law_many", "_law_rules_here", "_law_rows_here", "_law_told"], false⟩]
def cs : List (Nat × Str) := [(0, "MOST_COLUMNS"), (1, "MOST_ROWS"), (2, "MOST_RULES"), (3, "LAST_VALUE"), (7, "FILLING"), (8, "CONFLICT")]
def nm0 : List PySem.Str := ["BlankError", "NoTable", "NoRules", "MOST_COLUMNS", "MOST_ROWS", "MOST_RULES", "LAST_VALUE", "is_whole", "is_between", "is_set", "is_cell", "is_row", "are_rows", "is_table", "need_table", "is_rule", "are_rules_of", "need_rules", "need_both", "places_where", "with_cell", "values_at", "first_groups", "merged", "is_possible", "next_step", "after_step", "values_of", "value_in", "is_conflict"]
def nm1 : List PySem.Str := ["close", "groups_of", "conflict_steps", "FILLING", "CONFLICT", "general_rows", "verdict", "_law_joined", "_law_values", "_law_is_clash", "_law_general", "_law_same", "_law_pen", "_law_cell_at", "_law_draw", "_law_rule", "_law_rules", "_law_rows", "_law_kind_rows", "_law_is_number", "_law_is_step", "_law_walked", "_law_is_right"]
def nms : List PySem.Str := nm0 ++ nm1
theorem chk : MP.allB Γ con PySem.Challenge.pw_blankcells_k06_verdicts_told.main.body ds cs = true := by decide +kernel
def fa : List He.Fa := faOf con ds cs
def fn : List He.DefD := ds.map (ddOf PySem.Challenge.pw_blankcells_k06_verdicts_told.main.body)
abbrev hk : PySem.W.Hook := MP.hookE 4 (faOf con ds cs) (ds.map (ddOf PySem.Challenge.pw_blankcells_k06_verdicts_told.main.body)) (exK ds)
def ob (s : PySem.W.SharedT) : He.AlD × Bool := MP.obsE 4 (faOf con ds cs) (ds.map (ddOf PySem.Challenge.pw_blankcells_k06_verdicts_told.main.body)) (exK ds) (HandSHeadRun.getT s)
theorem ob_eq (s : PySem.W.SharedT) : ob s = hk.obs s.abs := MP.obsE_eq (HandSHeadRun.getT_eq s)
set_option maxHeartbeats 0 in
theorem run (w : World) : HandSHeadRun.RunEq R (PySem.W.view R.prog [58]) hk ob 6000 nms w := by
  intro os
  kernel_rfl
end Lw
open PySem PySem.W PySem.Calls PyProof.Rows
set_option maxHeartbeats 0 in
theorem PySem.Challenge.cw_blankcells_k06_verdicts_told_holds : PySem.Challenge.rw_blankcells_k06_verdicts_told.Holds := by
  w_on; o_law
  refine HandSHeadRun.head_any (r := OpenLaw.row PySem.Challenge.rw_blankcells_k06_verdicts_told) (q := view (OpenLaw.row PySem.Challenge.rw_blankcells_k06_verdicts_told).prog [58]) (H := Lw.hk) (ob := Lw.ob) (M := 6000) (loose := Lw.nms) (d := HandSHeadRun.topDef (OpenLaw.row PySem.Challenge.rw_blankcells_k06_verdicts_told).prog 58) (kwd := []) Lw.ob_eq
    (by kernel_rfl) (fun s => by kernel_rfl) Lw.run (by kernel_rfl) (by kernel_rfl) (by kernel_rfl) (by rfl) (by first | assumption | decide +kernel) (by decide +kernel) ⟨rfl, rfl, rfl, rfl, rfl, by decide +kernel⟩ ?hw ?hc
  case hw => w_witness2
  case hc =>
    exact MP.law_walk (l := PySem.Challenge.rw_blankcells_k06_verdicts_told) (k := 40) (fL := 100) (m := 63) (Γ := MP.Γ) (con := MP.con) (ds := Lw.ds) (cs := Lw.cs) rfl (by decide) (by kernel_rfl) ⟨rfl, by decide, by decide⟩ Lw.chk (by kernel_rfl) (by kernel_rfl) MP.law_k06
