import PyProof.Rows.All
import Wide.All
import OpenK.AllK
import Wide.FinOn
import HandS.ForMost
import HandS.ForExc
import HandS.Flow
import HandS.More
import HandS.TryMany
import HandS.IsInst
import HandS.TupAny
import HandS.Zip
import HandS.ExcInit
import HandS.Deep
import HandS.HeadWalk
import KE.KDictKeyed
import KE.GoesNew
import HandS.WordsDict
import HandS.Small
import HandS.ExcField
import HandS.TryOnly
import HandS.HeadHook1
import HandS.HeadEnd
import PySem.Challenge.RW_holdparts_k02_whole_steps
import KE.KStateDown
import Lean
import HandS.Head0
import HandS.Head1
import HandS.Head2
set_option Elab.async false
set_option linter.all false
section
set_option maxRecDepth 100000
/-! D0: a small language of plain data and cells, its meaning as a function. -/
namespace D
open PySem

/-- a value: plain data, a cell, a named thing of the module -/
inductive L where
  | non | bl (b : Bool) | int (i : Int) | str (z : Str) | tup (xs : List L) | loc (n : Nat) | fn (x : Str)
  deriving Inhabited
mutual
def L.deq : (a b : L) → Decidable (a = b)
  | .non, .non => .isTrue rfl
  | .bl a, .bl b => if h : a = b then .isTrue (by rw [h]) else .isFalse (by intro e; cases e; exact h rfl)
  | .int a, .int b => if h : a = b then .isTrue (by rw [h]) else .isFalse (by intro e; cases e; exact h rfl)
  | .str a, .str b => if h : a = b then .isTrue (by rw [h]) else .isFalse (by intro e; cases e; exact h rfl)
  | .loc a, .loc b => if h : a = b then .isTrue (by rw [h]) else .isFalse (by intro e; cases e; exact h rfl)
  | .fn a, .fn b => if h : a = b then .isTrue (by rw [h]) else .isFalse (by intro e; cases e; exact h rfl)
  | .tup a, .tup b => match L.deqs a b with
    | .isTrue h => .isTrue (by rw [h])
    | .isFalse h => .isFalse (by intro e; cases e; exact h rfl)
  | .non, .bl _ | .non, .int _ | .non, .str _ | .non, .tup _ | .non, .loc _ | .non, .fn _ => .isFalse nofun
  | .bl _, .non | .bl _, .int _ | .bl _, .str _ | .bl _, .tup _ | .bl _, .loc _ | .bl _, .fn _ => .isFalse nofun
  | .int _, .non | .int _, .bl _ | .int _, .str _ | .int _, .tup _ | .int _, .loc _ | .int _, .fn _ => .isFalse nofun
  | .str _, .non | .str _, .bl _ | .str _, .int _ | .str _, .tup _ | .str _, .loc _ | .str _, .fn _ => .isFalse nofun
  | .tup _, .non | .tup _, .bl _ | .tup _, .int _ | .tup _, .str _ | .tup _, .loc _ | .tup _, .fn _ => .isFalse nofun
  | .loc _, .non | .loc _, .bl _ | .loc _, .int _ | .loc _, .str _ | .loc _, .tup _ | .loc _, .fn _ => .isFalse nofun
  | .fn _, .non | .fn _, .bl _ | .fn _, .int _ | .fn _, .str _ | .fn _, .tup _ | .fn _, .loc _ => .isFalse nofun
def L.deqs : (a b : List L) → Decidable (a = b)
  | [], [] => .isTrue rfl
  | [], _ :: _ => .isFalse nofun
  | _ :: _, [] => .isFalse nofun
  | x :: xs, y :: ys => match L.deq x y, L.deqs xs ys with
    | .isTrue h, .isTrue h' => .isTrue (by rw [h, h'])
    | .isFalse h, _ => .isFalse (by intro e; cases e; exact h rfl)
    | _, .isFalse h => .isFalse (by intro e; cases e; exact h rfl)
end
instance : DecidableEq L := L.deq
/-- what stands in a cell; fS, fN: a dict that is walked just now -/
inductive Ob where
  | lst (xs : List L) | dS (kvs : List (Str × L)) | dN (kvs : List (L × L)) | fS (kvs : List (Str × L)) | fN (kvs : List (L × L)) | ins (c : Str) (fs : List (Str × L)) | scr (xs : List Int)
  deriving Inhabited, DecidableEq
abbrev Store := List Ob
inductive R (α : Type) where
  | ok (a : α) (s : Store) | ex (c : Str) (p : Option (Str × L)) (s : Store) | bad
def M (α : Type) := Store → R α
def M.bnd {α β : Type} (x : M α) (f : α → M β) : M β := fun s => match x s with
  | .ok a s' => f a s'
  | .ex c p s' => .ex c p s'
  | .bad => .bad
instance : Monad M where
  pure a := fun s => .ok a s
  bind := M.bnd
theorem bnd_ok {α β : Type} {x : M α} {f : α → M β} {s s' : Store} {a : α} (h : x s = .ok a s') : (x >>= f) s = f a s' := by
  show M.bnd x f s = _
  unfold M.bnd
  rw [h]
theorem bnd_ex {α β : Type} {x : M α} {f : α → M β} {s s' : Store} {c : Str} {p : Option (Str × L)} (h : x s = .ex c p s') : (x >>= f) s = .ex c p s' := by
  show M.bnd x f s = _
  unfold M.bnd
  rw [h]
theorem bnd_bad {α β : Type} {x : M α} {f : α → M β} {s : Store} (h : x s = .bad) : (x >>= f) s = .bad := by
  show M.bnd x f s = _
  unfold M.bnd
  rw [h]
def die {α : Type} : M α := fun _ => .bad
def ofO {α : Type} : Option α → M α
  | some a => pure a
  | none => die
def raiseM {α : Type} (c : Str) (p : Option (Str × L)) : M α := fun s => .ex c p s
def alloc (o : Ob) : M L := fun s => .ok (.loc s.length) (s ++ [o])
def getC (n : Nat) : M Ob := fun s => match s[n]? with
  | some o => .ok o s
  | none => .bad
def putC (n : Nat) (o : Ob) : M Unit := fun s => .ok () (s.set n o)
abbrev Env := List (Option L)
abbrev szMax : Nat := 16777216

/-! ### data -/
mutual
def toDn (g : Nat → Option PyData) : L → Option PyData
  | .non => some .none
  | .bl b => some (.bool b)
  | .int i => some (.int i)
  | .str z => some (.str z)
  | .tup xs => (toDs g xs).map .tuple
  | .loc n => g n
  | .fn _ => none
def toDs (g : Nat → Option PyData) : List L → Option (List PyData)
  | [] => some []
  | x :: xs => match toDn g x, toDs g xs with
    | some d, some ds => some (d :: ds)
    | _, _ => none
end
def gD (s : Store) : Nat → Nat → Option PyData
  | 0, _ => none
  | n + 1, c => match s[c]? with
    | some (.lst xs) => (toDs (gD s n) xs).map .list
    | _ => none
def toD (s : Store) (x : L) : Option PyData := toDn (gD s 8) x
def eqD (s : Store) (a b : L) : Option Bool := match toD s a, toD s b with
  | some d, some e => if SeqAt.shaped d && SeqAt.shaped e then some (PyData.eqv d e) else none
  | _, _ => none
def eqM (a b : L) : M Bool := fun s => match eqD s a b with
  | some r => .ok r s
  | none => .bad
/-- in a list -/
def inM (a : L) (xs : List L) : M Bool := fun s => match toD s a, toDs (gD s 8) xs with
  | some d, some ds => if SeqAt.shaped d && SeqAt.shaped (.list ds) then .ok (ds.any fun z => PyData.eqv z d) s else .bad
  | _, _ => .bad
def flatL : L → Bool
  | .non | .bl _ | .int _ | .str _ => true
  | _ => false
def eqF : L → L → Bool
  | .non, .non => true
  | .bl a, .bl b => a == b
  | .bl a, .int b => (if a then 1 else 0) == b
  | .int a, .bl b => a == (if b then 1 else 0)
  | .int a, .int b => a == b
  | .str a, .str b => a == b
  | _, _ => false
/-- in a tuple of flat things -/
def inF (a : L) (xs : List L) : M Bool := if flatL a && xs.all flatL then pure (xs.any fun y => eqF y a) else die
mutual
/-- may be a key -/
def isKey : L → Bool
  | .non | .int _ | .str _ => true
  | .tup xs => isKeys xs
  | _ => false
def isKeys : List L → Bool
  | [] => true
  | x :: xs => isKey x && isKeys xs
end
mutual
def keyDepth : L → Nat
  | .tup xs => keyDepths xs + 1
  | _ => 0
def keyDepths : List L → Nat
  | [] => 0
  | x :: xs => max (keyDepth x) (keyDepths xs)
end
def keyOk : L → Bool
  | .tup xs => isKeys xs && decide (keyDepth (.tup xs) ≤ 8)
  | _ => false
mutual
/-- no cell within -/
def noLoc : L → Bool
  | .loc _ => false
  | .tup xs => noLocs xs
  | _ => true
def noLocs : List L → Bool
  | [] => true
  | x :: xs => noLoc x && noLocs xs
end
section
variable {κ : Type} [DecidableEq κ]
def lk (k : κ) : List (κ × L) → Option L
  | [] => none
  | (k', v) :: r => if k' = k then some v else lk k r
def put (k : κ) (v : L) : List (κ × L) → List (κ × L)
  | [] => [(k, v)]
  | (k', v') :: r => if k' = k then (k', v) :: r else (k', v') :: put k v r
/-- in its place, or at the end (a dict) -/
def putD (k : κ) (v : L) (kvs : List (κ × L)) : List (κ × L) :=
  if (kvs.any fun kv => decide (kv.1 = k)) = true then kvs.map (fun kv => if kv.1 = k then (kv.1, v) else kv) else kvs ++ [(k, v)]
def drp (k : κ) : List (κ × L) → List (κ × L)
  | [] => []
  | (k', v') :: r => if k' = k then drp k r else (k', v') :: drp k r
end
def cutL (xs : List L) (lo hi : Option Int) : List L := (xs.drop (HT.sIx xs.length 0 lo)).take (HT.sIx xs.length xs.length hi - HT.sIx xs.length 0 lo)
def signs (z : Str) : List L := z.cps.toList.map fun c => .str ⟨#[c]⟩

def insOf (s : Store) : L → Option Str
  | .loc x => (match s[x]? with
    | some (.ins c _) => some c
    | _ => none)
  | _ => none
/-! ### operations by values -/
def truM : L → M Bool
  | .non => pure false
  | .bl b => pure b
  | .int i => pure (i != 0)
  | .str z => if z.length ≤ szMax then pure ((z.length : Int) != 0) else die
  | .tup xs => pure !xs.isEmpty
  | .loc c => do match ← getC c with
    | .lst xs => pure !xs.isEmpty
    | .dS kvs => pure !kvs.isEmpty
    | _ => die
  | .fn _ => die
def addM : L → L → M L
  | .int i, .int j => pure (.int (i + j))
  | .str x, .str y => if x.length + y.length ≤ szMax then pure (.str (x ++ y)) else die
  | .tup xs, .tup ys => if xs.length + ys.length ≤ szMax then pure (.tup (xs ++ ys)) else die
  | .loc a, .loc b => do match ← getC a, ← getC b with
    | .lst xs, .lst ys => if xs.length + ys.length ≤ szMax then alloc (.lst (xs ++ ys)) else die
    | _, _ => die
  | _, _ => die
def subM : L → L → M L
  | .int i, .int j => pure (.int (i - j))
  | _, _ => die
def mulM : L → L → M L
  | .int i, .int j => if (-(2 ^ 64) < i ∧ i < 2 ^ 64) ∨ (-(2 ^ 64) < j ∧ j < 2 ^ 64) then pure (.int (i * j)) else die
  | _, _ => die
def fdvM : L → L → M L
  | .int i, .int j => if 0 < j ∧ j < 1073741824 then pure (.int (i / j)) else die
  | _, _ => die
def modM : L → L → M L
  | .int i, .int j => if 0 < j then pure (.int (i % j)) else die
  | _, _ => die
def powM : L → L → M L
  | .int i, .int j => if 0 ≤ j ∧ j ≤ 1000000 ∧ i.natAbs < 2 ^ 64 then pure (.int (i ^ j.toNat)) else die
  | _, _ => die
def negM : L → M L
  | .int i => pure (.int (-i))
  | _ => die
def ltM : L → L → M L
  | .int i, .int j => pure (.bl (decide (i < j)))
  | _, _ => die
def leM : L → L → M L
  | .int i, .int j => pure (.bl (decide (i ≤ j)))
  | _, _ => die
/-- a def: its name, or its class's and its own -/
abbrev FK := Str × Option Str
abbrev Fns := FK → List L → M L
/-- no exception gets out -/
def noEx {α : Type} (x : M α) : M α := fun s => match x s with
  | .ok a s' => .ok a s'
  | _ => .bad
/-- dicts of texts, their values data -/
def eqKvs (s : Store) (ys : List (Str × L)) : List (Str × L) → Option Bool
  | [] => some true
  | (k, v) :: r => match lk k ys with
    | none => some false
    | some u => match eqD s v u with
      | some true => eqKvs s ys r
      | some false => some false
      | none => none
def eqqM (hs : FK → Bool) (F : Fns) (a b : L) : M L := fun s => match insOf s a, insOf s b with
  | some c, some c' => if c = c' ∧ hs (c, some "__eq__") = true then (match F (c, some "__eq__") [a, b] s with
    | .ok (.bl r) s' => .ok (.bl r) s'
    | _ => .bad) else .bad
  | _, _ => match eqM a b s with
    | .ok r s => .ok (.bl r) s
    | _ => .bad
def notL : L → M L
  | .bl b => pure (.bl !b)
  | _ => die
def inqM (kd : Str → Option (List (Str × L))) (a b : L) : M Bool := match b with
  | .tup xs => inF a xs
  | .loc c => do match ← getC c with
    | .lst xs => inM a xs
    | .dS kvs | .fS kvs => (match a with
      | .str k => pure (lk k kvs).isSome
      | _ => die)
    | _ => die
  | .str z => (match a with
    | .str ⟨cs⟩ => (match cs.toList with
      | [c] => pure (decide (c ∈ z.cps.toList))
      | _ => die)
    | _ => die)
  | _ => die
def idxM (kd : Str → Option (List (Str × L))) (a b : L) : M L := match a with
  | .tup xs => (match b with
    | .int i => ofO (L2.atI xs i)
    | _ => die)
  | .str z => (match b with
    | .int i => if z.length ≤ szMax then ofO ((L2.atI z.cps.toList i).map fun c => .str ⟨#[c]⟩) else die
    | _ => die)
  | .loc c => do match ← getC c with
    | .lst xs => (match b with
      | .int i => ofO (L2.atI xs i)
      | _ => die)
    | .dS kvs | .fS kvs => (match b with
      | .str k => ofO (lk k kvs)
      | _ => die)
    | _ => die
  | _ => die
def partM : Option L → M (Option Int)
  | none => pure none
  | some (.int i) => pure (some i)
  | _ => die
/-- a slice of a list: its items -/
def slcX (a : L) (lo hi : Option Int) : M (List L) := match a with
  | .loc c => do match ← getC c with
    | .lst xs => pure (cutL xs lo hi)
    | _ => die
  | _ => die
def slcM (a : L) (lo hi : Option Int) : M L := match a with
  | .tup xs => pure (.tup (cutL xs lo hi))
  | .str z => if z.length ≤ szMax then pure (.str ⟨((z.cps.toList.drop (HT.sIx z.length 0 lo)).take (HT.sIx z.length z.length hi - HT.sIx z.length 0 lo)).toArray⟩) else die
  | .loc c => do alloc (.lst (← slcX (.loc c) lo hi))
  | _ => die
def fldM (a : L) (f : Str) : M L := match a with
  | .loc c => do match ← getC c with
    | .ins _ fs => ofO (lk f fs)
    | _ => die
  | _ => die
inductive Kd where
  | non | bl | int | str | tup | lst | dic
inductive IT where
  | bl | int | str | tup | lst | own (x : Str)
  deriving DecidableEq
def Kd.is : Kd → IT → Bool
  | .bl, .bl | .bl, .int | .int, .int | .str, .str | .tup, .tup | .lst, .lst => true
  | _, _ => false
def kdOf (s : Store) : L → Option Kd
  | .non => some .non
  | .bl _ => some .bl
  | .int _ => some .int
  | .str _ => some .str
  | .tup _ => some .tup
  | .loc c => (match s[c]? with
    | some (.lst _) => some .lst
    | some (.dS _) => some .dic
    | _ => none)
  | .fn _ => none
def isiM (a : L) (t : IT) : M Bool := fun s => match t with
  | .own k => if insOf s a = some k then .ok true s else .bad
  | t => match kdOf s a with
    | some d => .ok (d.is t) s
    | none => .bad
/-- what walks -/
inductive Src where
  | fix (xs : List L) | dyn (c : Nat) | kS (c : Nat) (kvs : List (Str × L)) | kN (c : Nat) (kvs : List (L × L))
def srcOf (a : L) : M Src := match a with
  | .tup xs => pure (.fix xs)
  | .str z => pure (.fix (signs z))
  | .loc c => do match ← getC c with
    | .lst _ => pure (.dyn c)
    | _ => die
  | _ => die
def dicOf (c : Nat) : M Src := do match ← getC c with
  | .dS kvs => pure (.kS c kvs)
  | .dN kvs => pure (.kN c kvs)
  | _ => die
def seqM : L → M (List L)
  | .tup xs => pure xs
  | _ => die
inductive BI where
  | len | int | str | max | min | list | tuple | dict
  deriving DecidableEq
inductive BX where
  | tuple | all | any
  deriving DecidableEq
inductive BM where
  | append | pop0 | popk | get1 | get2 | index | join | split | replace
  deriving DecidableEq
def intOf (z : Str) : Option Int := if z.length ≤ 9 && !z.cps.isEmpty && z.cps.toList.all (fun c => decide (48 ≤ c ∧ c ≤ 57)) then some (z.cps.toList.foldl (fun (a : Int) (c : Nat) => a * 10 + ((c : Int) - 48)) 0) else none
def pairsOf : List L → Option (List (Str × L))
  | [] => some []
  | .tup [.str k, v] :: r => (pairsOf r).map ((k, v) :: ·)
  | _ => none
def merge (kvs : List (Str × L)) : List (Str × L) := kvs.foldl (fun acc kv => putD kv.1 kv.2 acc) []
def biM (hs : FK → Bool) (F : Fns) (b : BI) (vs : List L) : M L := match b, vs with
  | .len, [.tup xs] => pure (.int xs.length)
  | .len, [.str z] => if z.length ≤ szMax then pure (.int z.length) else die
  | .len, [.loc c] => do match ← getC c with
    | .lst xs => pure (.int xs.length)
    | .dS kvs => pure (.int kvs.length)
    | _ => die
  | .int, [.int i] => pure (.int i)
  | .int, [.bl k] => pure (.int (if k then 1 else 0))
  | .str, [.int i] => if i.natAbs.log2 < 1920 then pure (.str (toString i)) else die
  | .max, [.int i, .int j] => pure (.int (if j > i then j else i))
  | .min, [.int i, .int j] => pure (.int (if j < i then j else i))
  | .list, [.tup xs] => alloc (.lst xs)
  | .list, [.loc c] => do match ← getC c with
    | .lst xs => alloc (.lst xs)
    | .scr xs => alloc (.lst (xs.map .int))
    | .dS kvs => alloc (.lst (kvs.map fun kv => .str kv.1))
    | _ => die
  | .tuple, [.tup xs] => pure (.tup xs)
  | .tuple, [.loc c] => do match ← getC c with
    | .lst xs => pure (.tup xs)
    | _ => die
  | .dict, [.loc c] => do match ← getC c with
    | .dS kvs => alloc (.dS kvs)
    | _ => die
  | _, _ => die
def blsOf : List L → Option (List Bool)
  | [] => some []
  | .bl b :: r => (blsOf r).map (b :: ·)
  | _ => none
def bxM (b : BX) (xs : List L) : M L := match b with
  | .tuple => pure (.tup xs)
  | .all => (match blsOf xs with
    | some bs => pure (.bl (bs.all id))
    | none => die)
  | .any => (match blsOf xs with
    | some bs => pure (.bl (bs.any id))
    | none => die)
def strsOf : List L → Option (List Str)
  | [] => some []
  | .str b :: r => (strsOf r).map (b :: ·)
  | _ => none
def bmM (kd : Str → Option (List (Str × L))) (m : BM) (o : L) (vs : List L) : M L := match m, o, vs with
  | .append, .loc c, [v] => do match ← getC c with
    | .lst xs => if xs.length < szMax then do putC c (.lst (xs ++ [v])); pure .non else die
    | _ => die
  | .pop0, .loc c, [] => do match ← getC c with
    | .lst xs => (match xs[xs.length - 1]? with
      | some v => do putC c (.lst xs.dropLast); pure v
      | none => die)
    | _ => die
  | .popk, .loc c, [.str k] => do match ← getC c with
    | .dS kvs => (match lk k kvs with
      | some v => do putC c (.dS (drp k kvs)); pure v
      | none => die)
    | _ => die
  | .get1, .fn x, [.str k] => (match kd x with
    | some kvs => pure ((lk k kvs).getD .non)
    | none => die)
  | .get2, .loc c, [.str k, d] => do match ← getC c with
    | .dS kvs => pure ((lk k kvs).getD d)
    | _ => die
  | .index, .loc c, [v] => do match ← getC c with
    | .lst xs => (match v, strsOf xs with
      | .str z, some zs => (match zs.findIdx? (fun y => y == z) with
        | some j => pure (.int j)
        | none => die)
      | _, _ => die)
    | _ => die
  | _, _, _ => die
/-- the receiver is of the kind -/
def bmK (m : BM) (x : L) : M Unit := match m, x with
  | .append, .loc c | .pop0, .loc c | .index, .loc c => do match ← getC c with
    | .lst _ => pure ()
    | _ => die
  | .popk, .loc c | .get2, .loc c => do match ← getC c with
    | .dS _ => pure ()
    | _ => die
  | .get1, .fn _ => pure ()
  | .join, .str _ | .split, .str _ | .replace, .str _ => pure ()
  | _, _ => die
def setM (o k v : L) : M Unit := match o with
  | .loc c => do match ← getC c with
    | .lst xs => (match k with
      | .int i => (match L2.ixN xs.length i with
        | some j => putC c (.lst (xs.set j v))
        | none => die)
      | _ => die)
    | .dS kvs => (match k with
      | .str x => if kvs.length < szMax then putC c (.dS (putD x v kvs)) else die
      | _ => die)
    | _ => die
  | _ => die
def fstM (fl : Str → Str → Bool) (o : L) (f : Str) (v : L) : M Unit := match o with
  | .loc c => do match ← getC c with
    | .ins k fs => if fs.length < 1000 ∧ fl k f = true then putC c (.ins k (put f v fs)) else die
    | _ => die
  | _ => die

def strKeys : List (L × L) → Option (List (Str × L))
  | [] => some []
  | (.str k, v) :: r => (strKeys r).map ((k, v) :: ·)
  | _ => none

/-! ### the language -/
inductive DT where
  | nm (i : Nat) | tp (is : List Nat)
mutual
inductive DE where
  | var (i : Nat) | cst (v : L) | glb (x : Str)
  | add (a b : DE) | sub (a b : DE) | mul (a b : DE) | fdv (a b : DE) | mod (a b : DE) | pow (a b : DE) | neg (a : DE) | not (a : DE)
  | eq (a b : DE) | ne (a b : DE) | lt (a b : DE) | le (a b : DE) | gt (a b : DE) | ge (a b : DE)
  | isn (a : DE) | isnn (a : DE) | ist (a : DE) | inn (a b : DE) | nin (a b : DE)
  | chn (o1 o2 : Bool) (a b c : DE)
  | and (a b : DE) | or (a b : DE) | ite (c a b : DE)
  | tup (es : DEs) | lst (es : DEs) | dS0 | dSc (ks : List Str) (vs : DEs) | dN1 (k v : DE)
  | idx (a b : DE) | slc (a : DE) (lo hi : DO) | fld (a : DE) (f : Str)
  | call (f : Str) (es : DEs) | meth (m : Str) (o : DE) (es : DEs) | make (c : Str) (es : DEs)
  | isi (a : DE) (t : IT) | bi (b : BI) (es : DEs) | bx (b : BX) (s : DX) | idxX (s : DX) (b : DE) | inX (a : DE) (s : DX)
  | lc (s : DX) | dc (own : List Nat) (t : DT) (it : DI) (c : DO) (k v : DE) | bm (m : BM) (o : DE) (es : DEs) | sel (fs : List Str) (i : DE) (es : DEs)
inductive DEs where
  | nil | cons (e : DE) (r : DEs)
inductive DO where
  | non | som (e : DE)
inductive DX where
  | disp (es : DEs)
  | lc (own : List Nat) (t : DT) (it : DI) (c : DO) (e : DE)
  | lc2 (own own1 : List Nat) (t : DT) (it : DI) (t1 : DT) (it1 : DI) (e : DE)
  | slc (a : DE) (lo hi : DO)
inductive DI where
  | val (e : DE) | dic (i : Nat) | rng1 (a : DE) | rng2 (a b : DE) | zip2 (a b : DE) | zip3 (a b c : DE) | enm (a : DE)
end
mutual
inductive DS where
  | asg (i : Nat) (e : DE) | asgT (is : List Nat) (e : DE) | par (i j : Nat) (a b : DE) | fset (o : DE) (f : Str) (e : DE) | iset (o k e : DE) | aug (i : Nat) (e : DE)
  | expr (e : DE) | ret (e : DE) | ife (c : DE) (a b : DSs) | fr (t : DT) (it : DI) (b : DSs) | whl (c : DE) (b : DSs)
  | rse (c : Str) (es : DEs) | tr (b : DSs) (hs : List (Str × Option Nat × DH)) | pas
inductive DSs where
  | nil | cons (s : DS) (r : DSs)
/-- an except suite: a constant stored; the exception's field stored; a list of constants, or of a constant and the field -/
inductive DH where
  | cst (i : Nat) (v : L) | fld (i : Nat) (f : Str) | lst (i : Nat) (vs : List L) | lsf (i : Nat) (v : L) (f : Str)
end

/-! ### meaning -/
def wipe (e : Env) : List Nat → Env
  | [] => e
  | v :: vs => (wipe e vs).set v none
def setAll : List Nat → List L → Env → Option Env
  | [], [], e => some e
  | i :: is, v :: vs, e => setAll is vs (e.set i (some v))
  | _, _, _ => none
def setT : DT → L → Env → Option Env
  | .nm i, v, e => some (e.set i (some v))
  | .tp is, .tup vs, e => setAll is vs e
  | .tp _, _, _ => none
/-- a turn of a comprehension for each item -/
def mapFix {α : Type} (f : L → M (List α)) : List L → M (List α)
  | [] => pure []
  | x :: xs => do
    let a ← f x
    let r ← mapFix f xs
    pure (a ++ r)
def mapDyn {α : Type} (f : L → M (List α)) (c : Nat) : Nat → Nat → M (List α)
  | 0, _ => die
  | n + 1, i => do match ← getC c with
    | .lst xs => (match xs[i]? with
      | some x => do
        let a ← f x
        let r ← mapDyn f c n (i + 1)
        pure (a ++ r)
      | none => pure [])
    | _ => die
def unlock (c : Nat) : M Unit := do match ← getC c with
  | .fS kvs => putC c (.dS kvs)
  | .fN kvs => putC c (.dN kvs)
  | _ => die
/-- not too many -/
def szd {α : Type} (x : M (List α)) : M (List α) := do let xs ← x; if xs.length ≤ szMax then pure xs else die
def mapSrc {α : Type} (n : Nat) (f : L → M (List α)) : Src → M (List α)
  | .fix xs => mapFix f xs
  | .dyn c => mapDyn f c n 0
  | .kS c kvs => do
    putC c (.fS kvs)
    let r ← mapFix f (kvs.map fun kv => .str kv.1)
    unlock c
    pure r
  | .kN c kvs => do
    putC c (.fN kvs)
    let r ← mapFix f (kvs.map fun kv => kv.1)
    unlock c
    pure r
/-- what the module gives: its constants, its dicts -/
structure Glb where
  con : Str → Option L
  kd : Str → Option (List (Str × L))
  fl : Str → Str → Bool
  has : FK → Bool
section
variable (G : Glb) (F : Fns) (n : Nat)
mutual
def den : DE → Env → M L
  | .var i, e => ofO ((e[i]?).join)
  | .cst v, _ => pure v
  | .glb x, _ => ofO (G.con x)
  | .add a b, e => do addM (← den a e) (← den b e)
  | .sub a b, e => do subM (← den a e) (← den b e)
  | .mul a b, e => do mulM (← den a e) (← den b e)
  | .fdv a b, e => do fdvM (← den a e) (← den b e)
  | .mod a b, e => do modM (← den a e) (← den b e)
  | .pow a b, e => do powM (← den a e) (← den b e)
  | .neg a, e => do negM (← den a e)
  | .not a, e => do return .bl !(← truM (← den a e))
  | .eq a b, e => do eqqM G.has F (← den a e) (← den b e)
  | .ne a b, e => do let x ← den a e; let y ← den b e; return .bl !(← eqM x y)
  | .lt a b, e => do ltM (← den a e) (← den b e)
  | .le a b, e => do leM (← den a e) (← den b e)
  | .gt a b, e => do let x ← den a e; let y ← den b e; ltM y x
  | .ge a b, e => do let x ← den a e; let y ← den b e; leM y x
  | .isn a, e => do return .bl (decide ((← den a e) = .non))
  | .isnn a, e => do return .bl !(decide ((← den a e) = .non))
  | .ist a, e => do return .bl (decide ((← den a e) = .bl true))
  | .inn a b, e => do let x ← den a e; let y ← den b e; return .bl (← inqM G.kd x y)
  | .nin a b, e => do let x ← den a e; let y ← den b e; return .bl !(← inqM G.kd x y)
  | .chn o1 o2 a b c, e => do
    let x ← den a e
    let y ← den b e
    match ← (if o1 then leM x y else ltM x y) with
    | .bl true => do let z ← den c e; if o2 then leM y z else ltM y z
    | v => pure v
  | .and a b, e => do let x ← den a e; if ← truM x then den b e else pure x
  | .or a b, e => do let x ← den a e; if ← truM x then pure x else den b e
  | .ite c a b, e => do if ← truM (← den c e) then den a e else den b e
  | .tup es, e => do let vs ← dens es e; if vs.length ≤ szMax then pure (.tup vs) else die
  | .lst es, e => do let vs ← dens es e; if vs.length ≤ szMax then alloc (.lst vs) else die
  | .dS0, _ => alloc (.dS [])
  | .dSc ks vs, e => do let xs ← dens vs e; if ks.length = xs.length ∧ ks.length ≤ 15 then alloc (.dS (merge (ks.zip xs))) else die
  | .dN1 k v, e => do let x ← den k e; let y ← den v e; if keyOk x then alloc (.dN [(x, y)]) else die
  | .idx a b, e => do let x ← den a e; let y ← den b e; idxM G.kd x y
  | .slc a lo hi, e => do let x ← den a e; let l ← partM (← denO lo e); let h ← partM (← denO hi e); slcM x l h
  | .fld a f, e => do fldM (← den a e) f
  | .call f es, e => if G.has (f, none) = true then do F (f, none) (← dens es e) else die
  | .meth m o es, e => do
    let x ← den o e
    match x with
    | .loc c => do match ← getC c with
      | .ins k fs => if (lk m fs).isNone = true ∧ G.has (k, some m) = true then do F (k, some m) (x :: (← dens es e)) else die
      | _ => die
    | _ => die
  | .make c es, e => if G.has (c, some "__init__") = true then do
      let vs ← dens es e
      let x ← alloc (.ins c [])
      match ← F (c, some "__init__") (x :: vs) with
      | .non => pure x
      | _ => die
    else die
  | .isi a t, e => do return .bl (← isiM (← den a e) t)
  | .bi b es, e => do biM G.has F b (← dens es e)
  | .bx b s, e => do bxM b (← denX s e)
  | .idxX s b, e => do let xs ← denX s e; match ← den b e with
    | .int i => ofO (L2.atI xs i)
    | _ => die
  | .inX a s, e => do let x ← den a e; let xs ← denX s e; return .bl (← inM x xs)
  | .lc s, e => do alloc (.lst (← denX s e))
  | .dc own t it c k v, e => do
    let s ← denI it e
    let ps ← noEx (mapSrc n (fun x => match setT t x (wipe e own) with
      | some e' => do if ← denC c e' then do let y ← den k e'; let z ← den v e'; pure [(y, z)] else pure []
      | none => die) s)
    ofO (strKeys ps) >>= fun kvs => alloc (.dS (merge kvs))
  | .bm m o es, e => do let x ← den o e; bmK m x; bmM G.kd m x (← dens es e)
  | .sel fs i es, e => do match ← den i e with
    | .int j => do let f ← ofO (L2.atI fs j); if G.has (f, none) = true then F (f, none) (← dens es e) else die
    | _ => die
def dens : DEs → Env → M (List L)
  | .nil, _ => pure []
  | .cons a r, e => do let x ← den a e; let xs ← dens r e; pure (x :: xs)
def denO : DO → Env → M (Option L)
  | .non, _ => pure none
  | .som a, e => do return some (← den a e)
def denC : DO → Env → M Bool
  | .non, _ => pure true
  | .som a, e => do truM (← den a e)
/-- the items of a list that no one else holds -/
def denX : DX → Env → M (List L)
  | .disp es, e => do let vs ← dens es e; if vs.length ≤ szMax then pure vs else die
  | .lc own t it c x, e => do
    let s ← denI it e
    szd (noEx (mapSrc n (fun v => match setT t v (wipe e own) with
      | some e' => do if ← denC c e' then do return [← den x e'] else pure []
      | none => die) s))
  | .lc2 own own1 t it t1 it1 x, e => do
    let s ← denI it e
    szd (noEx (mapSrc n (fun v => match setT t v (wipe e own) with
      | some e' => do
        let s1 ← denI it1 e'
        mapSrc n (fun v1 => match setT t1 v1 (wipe e' own1) with
          | some e2 => do return [← den x e2]
          | none => die) s1
      | none => die) s))
  | .slc a lo hi, e => do let x ← den a e; let l ← partM (← denO lo e); let h ← partM (← denO hi e); slcX x l h
def denI : DI → Env → M Src
  | .val a, e => do srcOf (← den a e)
  | .rng1 a, e => do match ← den a e with
    | .int j => if -(2 ^ 62) ≤ j ∧ j < 2 ^ 62 then pure (.fix ((List.range j.toNat).map fun i => .int (i : Nat))) else die
    | _ => die
  | .rng2 a b, e => do match ← den a e, ← den b e with
    | .int i, .int j => if -(2 ^ 62) ≤ i ∧ i < 2 ^ 62 ∧ -(2 ^ 62) ≤ j ∧ j < 2 ^ 62 then pure (.fix ((List.range (j - i).toNat).map fun k => .int (i + (k : Nat)))) else die
    | _, _ => die
  | .dic i, e => do match (e[i]?).join with
    | some (.loc c) => dicOf c
    | _ => die
  | .zip2 a b, e => do
    let x ← den a e
    let y ← den b e
    let xs ← seqM x
    let ys ← seqM y
    pure (.fix ((xs.zip ys).map fun p => .tup [p.1, p.2]))
  | .zip3 a b c, e => do
    let x ← den a e
    let y ← den b e
    let z ← den c e
    let xs ← seqM x
    let ys ← seqM y
    let zs ← seqM z
    pure (.fix ((xs.zip (ys.zip zs)).map fun p => .tup [p.1, p.2.1, p.2.2]))
  | .enm a, e => do
    let x ← den a e
    let xs ← seqM x
    pure (.fix (xs.zipIdx.map fun p => .tup [.int (p.2 : Nat), p.1]))
end

/-! ### statements -/
inductive RS where
  | nx (e : Env) (s : Store) | rt (v : L) (s : Store) | ex (c : Str) (p : Option (Str × L)) (e : Env) (s : Store) | bad
/-- first a value, then on -/
def RS.of {α : Type} (e : Env) (x : R α) (k : α → Store → RS) : RS := match x with
  | .ok a s => k a s
  | .ex c p s => .ex c p e s
  | .bad => .bad
def forFix (f : L → Env → Store → RS) : List L → Env → Store → RS
  | [], e, s => .nx e s
  | x :: xs, e, s => match f x e s with
    | .nx e' s' => forFix f xs e' s'
    | r => r
def forDyn (f : L → Env → Store → RS) (c : Nat) : Nat → Nat → Env → Store → RS
  | 0, _, _, _ => .bad
  | n + 1, i, e, s => match s[c]? with
    | some (.lst xs) => (match xs[i]? with
      | some x => (match f x e s with
        | .nx e' s' => forDyn f c n (i + 1) e' s'
        | r => r)
      | none => .nx e s)
    | _ => .bad
def whlN (t : Env → M Bool) (f : Env → Store → RS) : Nat → Env → Store → RS
  | 0, _, _ => .bad
  | n + 1, e, s => RS.of e (t e s) fun b s1 => if b then (match f e s1 with
      | .nx e' s' => whlN t f n e' s'
      | r => r) else .nx e s1
/-- behind a walk over a locked dict -/
def RS.unl (c : Nat) (r : RS) : RS := match r with
  | .nx e s => (match unlock c s with
    | .ok _ s' => .nx e s'
    | _ => .bad)
  | .rt v s => (match unlock c s with
    | .ok _ s' => .rt v s'
    | _ => .bad)
  | _ => .bad
def forSrc (n : Nat) (f : L → Env → Store → RS) (x : Src) (e : Env) (s : Store) : RS := match x with
  | .fix xs => forFix f xs e s
  | .dyn c => forDyn f c n 0 e s
  | .kS c kvs => RS.unl c (forFix f (kvs.map fun kv => .str kv.1) e (s.set c (.fS kvs)))
  | .kN c kvs => RS.unl c (forFix f (kvs.map fun kv => kv.1) e (s.set c (.fN kvs)))
/-- which error classes take which, and their fields -/
structure Er where
  subT : List ((Str × Str) × Bool)
  fldT : List (Str × Option Str)
def Er.sub (E : Er) (c k : Str) : Option Bool := E.subT.lookup (c, k)
def Er.fld (E : Er) (c : Str) : Option (Option Str) := E.fldT.lookup c
def hand (h : DH) (p : Option (Str × L)) (e : Env) (s : Store) : RS := match h with
  | .cst i v => .nx (e.set i (some v)) s
  | .fld i f => (match p with
    | some (g, v) => if g = f then .nx (e.set i (some v)) s else .bad
    | none => .bad)
  | .lst i vs => .nx (e.set i (some (.loc s.length))) (s ++ [.lst vs])
  | .lsf i v f => (match p with
    | some (g, w) => if g = f then .nx (e.set i (some (.loc s.length))) (s ++ [.lst [v, w]]) else .bad
    | none => .bad)
def clauses (E : Er) (c : Str) (p : Option (Str × L)) (e : Env) (s : Store) : List (Str × Option Nat × DH) → RS
  | [] => .ex c p e s
  | (k, i, h) :: r => match E.sub c k with
    | some true => (match hand h p e s with
      | .nx e' s' => .nx (match i with | some j => e'.set j none | none => e') s'
      | _ => .bad)
    | some false => clauses E c p e s r
    | none => .bad
variable (E : Er)
mutual
def denS : DS → Env → Store → RS
  | .asg i a, e, s => RS.of e (den G F n a e s) fun v s' => .nx (e.set i (some v)) s'
  | .asgT is a, e, s => RS.of e (den G F n a e s) fun v s' => match setT (.tp is) v e with
    | some e' => .nx e' s'
    | none => .bad
  | .par i j a b, e, s => RS.of e (den G F n a e s) fun v s1 => RS.of e (den G F n b e s1) fun w s2 => .nx ((e.set i (some v)).set j (some w)) s2
  | .fset o f a, e, s => RS.of e (den G F n a e s) fun v s1 => RS.of e (den G F n o e s1) fun x s2 => RS.of e (fstM G.fl x f v s2) fun _ s3 => .nx e s3
  | .iset o k a, e, s => RS.of e (den G F n a e s) fun v s1 => RS.of e (den G F n o e s1) fun x s2 => RS.of e (den G F n k e s2) fun y s3 => RS.of e (setM x y v s3) fun _ s4 => .nx e s4
  | .aug i a, e, s => (match (e[i]?).join with
    | some (.int x) => RS.of e (den G F n a e s) fun v s1 => (match v with
      | .int y => .nx (e.set i (some (.int (x + y)))) s1
      | _ => .bad)
    | _ => .bad)
  | .expr a, e, s => RS.of e (den G F n a e s) fun _ s' => .nx e s'
  | .ret a, e, s => RS.of e (den G F n a e s) fun v s' => .rt v s'
  | .ife c a b, e, s => RS.of e ((den G F n c e >>= truM) s) fun t s' => if t then denSs a e s' else denSs b e s'
  | .fr t it b, e, s => RS.of e (denI G F n it e s) fun x s' => forSrc n (fun v e s => match setT t v e with
    | some e' => denSs b e' s
    | none => .bad) x e s'
  | .whl c b, e, s => whlN (fun e => den G F n c e >>= truM) (denSs b) n e s
  | .rse c es, e, s => RS.of e (dens G F n es e s) fun vs s' => (match E.fld c, vs with
    | some (some f), [v] => .ex c (some (f, v)) e s'
    | some none, [] => .ex c none e s'
    | _, _ => .bad)
  | .tr b hs, e, s => (match denSs b e s with
    | .ex c p e' s' => clauses E c p e' s' hs
    | r => r)
  | .pas, e, s => .nx e s
def denSs : DSs → Env → Store → RS
  | .nil, e, s => .nx e s
  | .cons a r, e, s => match denS a e s with
    | .nx e' s' => denSs r e' s'
    | r => r
end
end

/-! ### functions -/
structure Def where
  ps : Nat
  ns : Nat
  body : DSs
/-- behind a call: what the callee alone held is let go, where that is plain to see -/
def gcR (s : Store) (r : L) (s' : Store) : R L :=
  if s'.take s.length = s then
    (if noLoc r then .ok r s else match r with
      | .loc k => (match s'[k]? with
        | some (.lst xs) => if noLocs xs && decide (s.length ≤ k) then .ok (.loc s.length) (s ++ [.lst xs]) else .ok r s'
        | _ => .ok r s')
      | _ => .ok r s')
  else .ok r s'
structure Pg where
  gl : Glb
  er : Er
  fn : FK → Option Def
def callD (P : Pg) (n : Nat) : Nat → Fns
  | 0 => fun _ _ _ => .bad
  | k + 1 => fun f vs s => match P.fn f with
    | some d => if vs.length = d.ps then (match denSs P.gl (callD P n k) n P.er d.body (vs.map some ++ List.replicate (d.ns - d.ps) none) s with
      | .nx _ s' => gcR s .non s'
      | .rt v s' => gcR s v s'
      | .ex c p _ s' => .ex c p s'
      | .bad => .bad) else .bad
    | none => .bad
end D
end

section
set_option maxRecDepth 100000
set_option maxHeartbeats 1000000
/-! D1a: how the plain values and cells stand in the heap. -/
namespace D
open PySem PySem.Spec PyProof.Rows L2

/-- what is fixed through a run -/
structure Cn where
  P : Program
  w : World
  K : PySem.W.Frag
  mg : Str → Option Value
variable (c : Cn)
mutual
inductive Rep (m : List Addr) (I : Hp) : L → V → Prop
  | non : Rep m I .non .non
  | bl (b : Bool) : Rep m I (.bl b) (.bl b)
  | int (i : Int) : Rep m I (.int i) (.int i)
  | str (z : Str) : Rep m I (.str z) (.str z)
  | tup {xs : List L} {p : Addr} {vs : List V} : SqT c.K I p vs → Reps m I xs vs → Rep m I (.tup xs) (.ref p)
  | loc {n : Nat} {a : Addr} : m[n]? = some a → Rep m I (.loc n) (.ref a)
  | fn {x : Str} {a : Addr} : c.mg x = some (.ref a) → Rep m I (.fn x) (.ref a)
inductive Reps (m : List Addr) (I : Hp) : List L → List V → Prop
  | nil : Reps m I [] []
  | cons {x : L} {v : V} {xs : List L} {vs : List V} : Rep m I x v → Reps m I xs vs → Reps m I (x :: xs) (v :: vs)
end
/-- a dict of texts -/
inductive RepK (m : List Addr) (I : Hp) : List (Str × L) → List (Key × V) → Prop
  | nil : RepK m I [] []
  | cons {k : Str} {x : L} {v : V} {xs : List (Str × L)} {vs : List (Key × V)} : Rep c m I x v → RepK m I xs vs → RepK m I ((k, x) :: xs) ((.inr k, v) :: vs)
/-- fields -/
inductive RepF (m : List Addr) (I : Hp) : List (Str × L) → List (Str × V) → Prop
  | nil : RepF m I [] []
  | cons {k : Str} {x : L} {v : V} {xs : List (Str × L)} {vs : List (Str × V)} : Rep c m I x v → RepF m I xs vs → RepF m I ((k, x) :: xs) ((k, v) :: vs)
mutual
def nk : L → NestedKey
  | .int i => .num i
  | .str z => .text z
  | .tup xs => .tup (nks xs)
  | _ => .none
def nks : List L → List NestedKey
  | [] => []
  | x :: xs => nk x :: nks xs
end
/-- the dict object at a with these entries -/
def DNo (a : Addr) (xs : List (NestedKey × Addr × Value)) : HO :=
  .ext fun h => ∃ o es ep, h.get? a = some o ∧ o.ExactDict ∧ o.data = .dict es ep ∧ es.toList = xs.map (entryOfKey (nestedKind c.P c.w))
inductive RepN (m : List Addr) (I : Hp) : List (L × L) → List (NestedKey × Addr × Value) → Prop
  | nil : RepN m I [] []
  | cons {k x : L} {p : Addr} {v : V} {u : Value} {xs : List (L × L)} {vs : List (NestedKey × Addr × Value)} : keyOk k = true → Rep c m I k (.ref p) → Rep c m I x v → RelV v u → RepN m I xs vs → RepN m I ((k, x) :: xs) ((nk k, p, u) :: vs)
/-- what a class of the text must have -/
structure ClsOk (x : Str) (C : Addr) : Prop where
  g : c.mg x = some (.ref C)
  cl : Cls c.K C
  ty : ∀ (H : Hp) (a dx : Addr) (fs : List (Str × V)), H a = some (.ins C dx fs) → TyOf c.K H (.ref a) (.ref C)
def RepO (m : List Addr) (I H : Hp) (a : Addr) : Ob → Prop
  | .lst xs => ∃ vs, H a = some (.lst vs) ∧ Reps c m I xs vs
  | .dS kvs => ∃ ws, H a = some (.dK ws) ∧ RepK c m I kvs ws
  | .fS kvs => ∃ o ws, H a = some (.frz o (.dK ws)) ∧ RepK c m I kvs ws
  | .dN kvs => ∃ xs, H a = some (DNo c a xs) ∧ RepN c m I kvs xs ∧ (a == sysModules) = false ∧ kvs.length ≤ sizeLine ∧ (xs.map (·.1)).Nodup
  | .fN kvs => ∃ o xs, H a = some (.frz o (DNo c a xs)) ∧ RepN c m I kvs xs ∧ (a == sysModules) = false ∧ kvs.length ≤ sizeLine ∧ (xs.map (·.1)).Nodup
  | .ins x fs => ∃ C dx ws, ClsOk c x C ∧ H a = some (.ins C dx ws) ∧ RepF c m I fs ws ∧ ∀ p ∈ fs, NoAttr c.K C p.1
  | .scr xs => Rd H a (.lst (xs.map V.int))
/-- the state: the cells at m, the tuples in I, all in H -/
structure Stt (m : List Addr) (I : Hp) (s : Store) (H : Hp) : Prop where
  len : m.length = s.length
  nd : m.Nodup
  no : ∀ a, a ∈ m → I a = none
  cell : ∀ (n : Nat) (a : Addr) (o : Ob), m[n]? = some a → s[n]? = some o → RepO c m I H a o
  sub : ∀ a o, I a = some o → H a = some o ∧ ∃ xs, o = .tup xs
structure Ext (m : List Addr) (I H : Hp) (m' : List Addr) (I' H' : Hp) : Prop where
  pre : ∃ t, m' = m ++ t
  im : ∀ a o, I a = some o → I' a = some o
  fm : ∀ a, a ∈ m' → a ∈ m ∨ H a = none
  fi : ∀ a o, I' a = some o → I a = some o ∨ H a = none
  fr : ∀ a o, H a = some o → a ∉ m → H' a = some o
  nv : ∀ a, H' a = none → H a = none
structure EnvR (m : List Addr) (I : Hp) (e : Env) (σ : L2.St) : Prop where
  len : e.length = σ.length
  at_ : ∀ (i : Nat) (x : L), e[i]? = some (some x) → ∃ v, σ[i]? = some (some v) ∧ Rep c m I x v

variable {c}
variable {m m' m'' : List Addr} {I I' I'' H H' H'' : Hp} {s s' : Store}
theorem Ext.rfl' : Ext m I H m I H := ⟨⟨[], (List.append_nil m).symm⟩, fun _ _ h => h, fun _ h => .inl h, fun _ _ h => .inl h, fun _ _ h _ => h, fun _ h => h⟩
theorem Ext.trans (a : Ext m I H m' I' H') (b : Ext m' I' H' m'' I'' H'') : Ext m I H m'' I'' H'' where
  pre := by
    obtain ⟨t, rfl⟩ := a.pre
    obtain ⟨u, rfl⟩ := b.pre
    exact ⟨t ++ u, List.append_assoc _ _ _⟩
  im := fun x o h => b.im x o (a.im x o h)
  fm := fun x h => by
    rcases b.fm x h with h1 | h1
    · exact a.fm x h1
    · exact .inr (a.nv x h1)
  fi := fun x o h => by
    rcases b.fi x o h with h1 | h1
    · exact a.fi x o h1
    · exact .inr (a.nv x h1)
  fr := fun x o h hm => b.fr x o (a.fr x o h hm) fun hm' => by
    rcases a.fm x hm' with h1 | h1
    · exact hm h1
    · rw [h1] at h; cases h
  nv := fun x h => a.nv x (b.nv x h)
theorem Ext.get (a : Ext m I H m' I' H') {n : Nat} {x : Addr} (h : m[n]? = some x) : m'[n]? = some x := by
  obtain ⟨t, rfl⟩ := a.pre
  rw [List.getElem?_append_left (List.getElem?_eq_some_iff.mp h).1]
  exact h
theorem sqT_im (h : ∀ a o, I a = some o → I' a = some o) {p : Addr} {vs : List V} (x : SqT c.K I p vs) : SqT c.K I' p vs := by
  rcases x with (x | ⟨o, x⟩) | x
  · exact .inl (.inl (h _ _ x))
  · exact .inl (.inr ⟨o, h _ _ x⟩)
  · exact .inr x
section
variable (hm : ∀ (n : Nat) (x : Addr), m[n]? = some x → m'[n]? = some x) (hi : ∀ a o, I a = some o → I' a = some o)
include hm hi
mutual
theorem Rep.mono' : ∀ {x : L} {v : V}, Rep c m I x v → Rep c m' I' x v
  | _, _, .non => .non
  | _, _, .bl b => .bl b
  | _, _, .int i => .int i
  | _, _, .str z => .str z
  | _, _, .tup h r => .tup (sqT_im hi h) (Reps.mono' r)
  | _, _, .loc h => .loc (hm _ _ h)
  | _, _, .fn h => .fn h
theorem Reps.mono' : ∀ {x : List L} {v : List V}, Reps c m I x v → Reps c m' I' x v
  | _, _, .nil => .nil
  | _, _, .cons h r => .cons (Rep.mono' h) (Reps.mono' r)
end
theorem RepK.mono' {x : List (Str × L)} {v : List (Key × V)} (h : RepK c m I x v) : RepK c m' I' x v := by
  induction h with
  | nil => exact .nil
  | cons a _ ih => exact .cons (a.mono' hm hi) ih
theorem RepF.mono' {x : List (Str × L)} {v : List (Str × V)} (h : RepF c m I x v) : RepF c m' I' x v := by
  induction h with
  | nil => exact .nil
  | cons a _ ih => exact .cons (a.mono' hm hi) ih
theorem RepN.mono' {x : List (L × L)} {v : List (NestedKey × Addr × Value)} (h : RepN c m I x v) : RepN c m' I' x v := by
  induction h with
  | nil => exact .nil
  | cons k a b r _ ih => exact .cons k (a.mono' hm hi) (b.mono' hm hi) r ih
/-- another cell's description stands while its object does -/
theorem RepO.mono' {a : Addr} {o : Ob} (h : RepO c m I H a o) (hs : ∀ u, H a = some u → H' a = some u) : RepO c m' I' H' a o := by
  cases o with
  | lst xs => obtain ⟨vs, h1, h2⟩ := h; exact ⟨vs, hs _ h1, h2.mono' hm hi⟩
  | dS xs => obtain ⟨vs, h1, h2⟩ := h; exact ⟨vs, hs _ h1, h2.mono' hm hi⟩
  | fS xs => obtain ⟨o, vs, h1, h2⟩ := h; exact ⟨o, vs, hs _ h1, h2.mono' hm hi⟩
  | dN xs => obtain ⟨vs, h1, h2, h3⟩ := h; exact ⟨vs, hs _ h1, h2.mono' hm hi, h3⟩
  | fN xs => obtain ⟨o, vs, h1, h2, h3⟩ := h; exact ⟨o, vs, hs _ h1, h2.mono' hm hi, h3⟩
  | ins x fs => obtain ⟨C, dx, ws, h1, h2, h3, h4⟩ := h; exact ⟨C, dx, ws, h1, hs _ h2, h3.mono' hm hi, h4⟩
  | scr xs =>
    rcases h with h | ⟨o, h⟩
    · exact .inl (hs _ h)
    · exact .inr ⟨o, hs _ h⟩
end
theorem RepO.some {a : Addr} {o : Ob} (h : RepO c m I H a o) : ∃ u, H a = some u := by
  cases o with
  | lst xs => obtain ⟨vs, h1, h2⟩ := h; exact ⟨_, h1⟩
  | dS xs => obtain ⟨vs, h1, h2⟩ := h; exact ⟨_, h1⟩
  | fS xs => obtain ⟨o, vs, h1, h2⟩ := h; exact ⟨_, h1⟩
  | dN xs => obtain ⟨vs, h1, h2, h3⟩ := h; exact ⟨_, h1⟩
  | fN xs => obtain ⟨o, vs, h1, h2, h3⟩ := h; exact ⟨_, h1⟩
  | ins x fs => obtain ⟨C, dx, ws, h1, h2, h3, h4⟩ := h; exact ⟨_, h2⟩
  | scr xs =>
    rcases h with h | ⟨o, h⟩
    · exact ⟨_, h⟩
    · exact ⟨_, h⟩
theorem Rep.mono (e : Ext m I H m' I' H') {x : L} {v : V} (h : Rep c m I x v) : Rep c m' I' x v := h.mono' (fun _ _ => e.get) e.im
theorem Reps.mono (e : Ext m I H m' I' H') {x : List L} {v : List V} (h : Reps c m I x v) : Reps c m' I' x v := h.mono' (fun _ _ => e.get) e.im
theorem EnvR.mono (e : Ext m I H m' I' H') {ev : Env} {σ : L2.St} (h : EnvR c m I ev σ) : EnvR c m' I' ev σ :=
  ⟨h.len, fun i x q => let ⟨v, a, b⟩ := h.at_ i x q; ⟨v, a, b.mono e⟩⟩
theorem Stt.lt (S : Stt c m I s H) {n : Nat} {a : Addr} (h : m[n]? = some a) : n < s.length := by
  rw [← S.len]
  exact (List.getElem?_eq_some_iff.mp h).1
theorem Stt.ad (S : Stt c m I s H) {n : Nat} {o : Ob} (h : s[n]? = some o) : ∃ a, m[n]? = some a ∧ RepO c m I H a o := by
  have l : n < m.length := by
    rw [S.len]
    exact (List.getElem?_eq_some_iff.mp h).1
  exact ⟨m[n], List.getElem?_eq_getElem l, S.cell n _ o (List.getElem?_eq_getElem l) h⟩
theorem Stt.mem {n : Nat} {a : Addr} (h : m[n]? = some a) : a ∈ m := List.mem_of_getElem? h
theorem Stt.there (S : Stt c m I s H) {a : Addr} (h : a ∈ m) : ∃ u, H a = some u := by
  obtain ⟨n, l, e⟩ := List.getElem_of_mem h
  have h1 : m[n]? = some a := by rw [List.getElem?_eq_getElem l, e]
  have l2 : n < s.length := by rw [← S.len]; exact l
  exact (S.cell n a _ h1 (List.getElem?_eq_getElem l2)).some
theorem Stt.fresh (S : Stt c m I s H) {p : Addr} (h : H p = none) : p ∉ m ∧ I p = none := by
  refine ⟨fun hm => ?_, ?_⟩
  · obtain ⟨u, e⟩ := S.there hm
    rw [h] at e; cases e
  · cases e : I p with
    | none => rfl
    | some o => rw [(S.sub p o e).1] at h; cases h
/-- a new tuple -/
theorem Stt.newT (S : Stt c m I s H) {p : Addr} {vs : List V} (hp : H p = none) : Ext m I H m (upd I p (.tup vs)) (upd H p (.tup vs)) ∧ Stt c m (upd I p (.tup vs)) s (upd H p (.tup vs)) := by
  obtain ⟨hpm, hI⟩ := S.fresh hp
  refine ⟨⟨⟨[], (List.append_nil m).symm⟩, fun a o h => ?_, fun _ h => .inl h, fun a o h => ?_, fun a o h _ => ?_, fun a h => ?_⟩, ⟨S.len, S.nd, fun a h => ?_, fun n a o h1 h2 => ?_, fun a o h => ?_⟩⟩
  · rw [upd_ne (ne_of_none h hI)]; exact h
  · by_cases e : a = p
    · subst e; exact .inr hp
    · rw [upd_ne e] at h; exact .inl h
  · rw [upd_ne (ne_of_none h hp)]; exact h
  · by_cases e : a = p
    · subst e; exact hp
    · rw [upd_ne e] at h; exact h
  · have e : a ≠ p := fun e => hpm (e ▸ h)
    rw [upd_ne e]
    exact S.no a h
  · have e : a ≠ p := fun e => hpm (e ▸ Stt.mem h1)
    refine (S.cell n a o h1 h2).mono' (fun _ _ h => h) (fun b u h => ?_) (fun u h => ?_)
    · rw [upd_ne (ne_of_none h hI)]; exact h
    · rw [upd_ne e]; exact h
  · by_cases e : a = p
    · subst e
      rw [upd_same] at h ⊢
      exact ⟨h, vs, (Option.some.inj h).symm⟩
    · rw [upd_ne e] at h ⊢
      exact S.sub a o h
/-- a thing laid that is not told -/
theorem Stt.newU (S : Stt c m I s H) {p : Addr} {o : HO} (hp : H p = none) : Ext m I H m I (upd H p o) ∧ Stt c m I s (upd H p o) := by
  obtain ⟨hpm, hI⟩ := S.fresh hp
  refine ⟨⟨⟨[], (List.append_nil m).symm⟩, fun a o h => h, fun _ h => .inl h, fun a o h => .inl h, fun a o h _ => ?_, fun a h => ?_⟩, ⟨S.len, S.nd, S.no, fun n a o h1 h2 => ?_, fun a o h => ?_⟩⟩
  · rw [upd_ne (ne_of_none h hp)]; exact h
  · by_cases e : a = p
    · subst e; exact hp
    · rw [upd_ne e] at h; exact h
  · have e : a ≠ p := fun e => hpm (e ▸ Stt.mem h1)
    refine (S.cell n a o h1 h2).mono' (fun _ _ h => h) (fun b u h => h) (fun u h => ?_)
    rw [upd_ne e]; exact h
  · rw [upd_ne (ne_of_none h hI)]
    exact S.sub a o h
/-- a thing laid, a cell of its own -/
theorem Stt.newC (S : Stt c m I s H) {p : Addr} {o : HO} {b : Ob} (hp : H p = none) (r : ∀ t, RepO c (m ++ t) I (upd H p o) p b) : Ext m I H (m ++ [p]) I (upd H p o) ∧ Stt c (m ++ [p]) I (s ++ [b]) (upd H p o) := by
  obtain ⟨hpm, hI⟩ := S.fresh hp
  refine ⟨⟨⟨[p], rfl⟩, fun a o h => h, fun a h => ?_, fun a o h => .inl h, fun a o h _ => ?_, fun a h => ?_⟩, ⟨by simp [S.len], ?_, fun a h => ?_, fun n a o h1 h2 => ?_, fun a o h => ?_⟩⟩
  · rcases List.mem_append.mp h with h | h
    · exact .inl h
    · rw [List.mem_singleton.mp h]; exact .inr hp
  · rw [upd_ne (ne_of_none h hp)]; exact h
  · by_cases e : a = p
    · subst e; exact hp
    · rw [upd_ne e] at h; exact h
  · exact List.nodup_append.mpr ⟨S.nd, by simp, fun a ha b hb e => hpm (by rw [← List.mem_singleton.mp hb, ← e]; exact ha)⟩
  · rcases List.mem_append.mp h with h | h
    · exact S.no a h
    · rw [List.mem_singleton.mp h]; exact hI
  · by_cases l : n < m.length
    · rw [List.getElem?_append_left l] at h1
      rw [List.getElem?_append_left (by rw [← S.len]; exact l)] at h2
      have e : a ≠ p := fun e => hpm (e ▸ Stt.mem h1)
      refine (S.cell n a o h1 h2).mono' (fun k x h => ?_) (fun b u h => h) (fun u h => ?_)
      · rw [List.getElem?_append_left (List.getElem?_eq_some_iff.mp h).1]; exact h
      · rw [upd_ne e]; exact h
    · have l' : n < (m ++ [p]).length := (List.getElem?_eq_some_iff.mp h1).1
      have e : n = m.length := by simp at l'; omega
      subst e
      rw [List.getElem?_append_right (Nat.le_refl _), Nat.sub_self] at h1
      rw [S.len, List.getElem?_append_right (Nat.le_refl _), Nat.sub_self] at h2
      cases h1; cases h2
      exact r [p]
  · rw [upd_ne (ne_of_none h hI)]
    exact S.sub a o h
/-- a cell's object changed -/
theorem Stt.put (S : Stt c m I s H) {n : Nat} {p : Addr} {o : HO} {b : Ob} (hn : m[n]? = some p) (r : RepO c m I (upd H p o) p b) : Ext m I H m I (upd H p o) ∧ Stt c m I (s.set n b) (upd H p o) := by
  have hI := S.no p (Stt.mem hn)
  refine ⟨⟨⟨[], (List.append_nil m).symm⟩, fun a o h => h, fun _ h => .inl h, fun a o h => .inl h, fun a o h hm => ?_, fun a h => ?_⟩, ⟨by rw [List.length_set]; exact S.len, S.nd, S.no, fun k a o h1 h2 => ?_, fun a o h => ?_⟩⟩
  · rw [upd_ne (show a ≠ p from fun e => hm (by rw [e]; exact Stt.mem hn))]; exact h
  · by_cases e : a = p
    · subst e; rw [upd_same] at h; cases h
    · rw [upd_ne e] at h; exact h
  · by_cases e : n = k
    · subst e
      rw [hn] at h1
      cases h1
      rw [List.getElem?_set_self (S.lt hn)] at h2
      cases h2
      exact r
    · rw [List.getElem?_set_ne e] at h2
      have e2 : a ≠ p := fun e2 => by
        subst e2
        obtain ⟨l1, q1⟩ := List.getElem?_eq_some_iff.mp hn
        obtain ⟨l2, q2⟩ := List.getElem?_eq_some_iff.mp h1
        exact e ((List.getElem_inj S.nd).mp (q1.trans q2.symm))
      refine (S.cell k a o h1 h2).mono' (fun _ _ h => h) (fun b u h => h) (fun u h => ?_)
      rw [upd_ne e2]; exact h
  · rw [upd_ne (ne_of_none h hI)]
    exact S.sub a o h
end D
end

section
set_option maxRecDepth 100000
set_option maxHeartbeats 1000000
/-! D1b: what a run hands on; the operations by values. -/
namespace D
open PySem PySem.Spec PyProof.Rows L2
variable (c : Cn)
/-- how an error lies: its class, its own dict with its field -/
def ExR (m : List Addr) (I H : Hp) (x : Str) (p : Option (Str × L)) (C : Value) (d : Option Addr) : Prop :=
  ∃ C0, c.mg x = some (.ref C0) ∧ C = .ref C0 ∧ match p with
    | none => d = none
    | some (f, v) => ∃ dx u, d = some dx ∧ H dx = some (.xd [(f, u)]) ∧ Rep c m I v u
def Rn {α : Type} (W : WX) (σ : L2.St) (m : List Addr) (I H : Hp) (r : R α) (post : List Addr → Hp → Hp → Store → α → Prop) : Prop := match r with
  | .ok a s' => ∀ m' I' H', Ext m I H m' I' H' → Stt c m' I' s' H' → post m' I' H' s' a
  | .ex x p s' => ∀ m' I' H' C d, Ext m I H m' I' H' → Stt c m' I' s' H' → ExR c m' I' H' x p C d → W C d σ H'
  | .bad => False
/-- a value is handed on -/
abbrev Pv (Q : VK) : List Addr → Hp → Hp → Store → L → Prop := fun m' I' H' _ v => ∀ u, Rep c m' I' v u → Q u H'
abbrev Pb (Q : Bool → Hp → Prop) : List Addr → Hp → Hp → Store → Bool → Prop := fun _ _ H' _ b => Q b H'
abbrev Pvs (Q : List V → Hp → Prop) : List Addr → Hp → Hp → Store → List L → Prop := fun m' I' H' _ v => ∀ u, Reps c m' I' v u → Q u H'
def rdE (W : WX) (f : Env → M L) : TE := fun σ H Q => ∃ m I e s, Stt c m I s H ∧ EnvR c m I e σ ∧ Rn c W σ m I H (f e s) (Pv c Q)
def rdT (W : WX) (f : Env → M Bool) : TT := fun σ H Q => ∃ m I e s, Stt c m I s H ∧ EnvR c m I e σ ∧ Rn c W σ m I H (f e s) (Pb Q)
def rdA (W : WX) (f : Env → M (List L)) : TA := fun σ H Q => ∃ m I e s, Stt c m I s H ∧ EnvR c m I e σ ∧ Rn c W σ m I H (f e s) (Pvs c Q)
variable {c}
variable {W : WX} {σ : L2.St} {m m' : List Addr} {I I' H H' : Hp} {s : Store}
theorem Rn.bind {α β : Type} {x : M α} {k : α → M β} {post : List Addr → Hp → Hp → Store → β → Prop} (h : Rn c W σ m I H ((x >>= k) s) post) :
    Rn c W σ m I H (x s) fun m1 I1 H1 s1 a => Rn c W σ m1 I1 H1 (k a s1) post := by
  cases e : x s with
  | ok a s1 =>
    rw [bnd_ok e] at h
    intro m1 I1 H1 e1 S1
    revert h
    cases k a s1 with
    | ok b s2 => exact fun h m2 I2 H2 e2 S2 => h m2 I2 H2 (e1.trans e2) S2
    | ex x p s2 => exact fun h m2 I2 H2 C d e2 S2 r => h m2 I2 H2 C d (e1.trans e2) S2 r
    | bad => exact fun h => h
  | ex x p s1 =>
    rw [bnd_ex e] at h
    exact h
  | bad =>
    rw [bnd_bad e] at h
    exact h
theorem Rn.mono {α : Type} {r : R α} {P P' : List Addr → Hp → Hp → Store → α → Prop} (h : Rn c W σ m I H r P) (i : ∀ m' I' H' s' a, Ext m I H m' I' H' → Stt c m' I' s' H' → P m' I' H' s' a → P' m' I' H' s' a) : Rn c W σ m I H r P' := by
  revert h
  cases r with
  | ok a s1 => exact fun h m1 I1 H1 e1 S1 => i _ _ _ _ _ e1 S1 (h m1 I1 H1 e1 S1)
  | ex x p s1 => exact fun h => h
  | bad => exact fun h => h
theorem Rn.ext {α : Type} {r : R α} {P : List Addr → Hp → Hp → Store → α → Prop} (h : Rn c W σ m I H r P) (e : Ext m I H m' I' H') : Rn c W σ m' I' H' r P := by
  revert h
  cases r with
  | ok a s1 => exact fun h m1 I1 H1 e1 S1 => h m1 I1 H1 (e.trans e1) S1
  | ex x p s1 => exact fun h m1 I1 H1 C d e1 S1 r => h m1 I1 H1 C d (e.trans e1) S1 r
  | bad => exact fun h => h
/-- the value is there: nothing changed -/
theorem Rn.pure {α : Type} {a : α} {P : List Addr → Hp → Hp → Store → α → Prop} (S : Stt c m I s H) (h : Rn c W σ m I H ((Pure.pure a : M α) s) P) : P m I H s a := h m I H Ext.rfl' S
theorem _root_.L2.PE.imp {X : Cx} {e : Expr} {t t' : TE} (h : PE X e t) (i : ∀ σ H Q, t' σ H Q → t σ H Q) : PE X e t' := ⟨fun pins s σ H Q I q => h.run pins s σ H Q I (i σ H Q q)⟩
theorem _root_.L2.PT.imp {X : Cx} {e : Expr} {t t' : TT} (h : PT X e t) (i : ∀ σ H Q, t' σ H Q → t σ H Q) : PT X e t' := ⟨fun pins s σ H Q I q => h.run pins s σ H Q I (i σ H Q q)⟩
theorem _root_.L2.PA.imp {X : Cx} {e : List Expr} {t t' : TA} (h : PA X e t) (i : ∀ σ H Q, t' σ H Q → t σ H Q) : PA X e t' := ⟨fun pos pins s σ H Q I q => h.run pos pins s σ H Q I (i σ H Q q)⟩
theorem _root_.L2.PS.imp {X : Cx} {e : Stmt} {t t' : TS} (h : PS X e t) (i : ∀ D σ H, t' D σ H → t D σ H) : PS X e t' := ⟨fun pins s σ H D I q => h.run pins s σ H D I (i D σ H q)⟩
theorem _root_.L2.PSs.imp {X : Cx} {e : List Stmt} {t t' : TS} (h : PSs X e t) (i : ∀ D σ H, t' D σ H → t D σ H) : PSs X e t' := ⟨fun pins s σ H D I q => h.run pins s σ H D I (i D σ H q)⟩

/-- one expression, then on -/
theorem rdE_bind {β : Type} {f : Env → M L} {k : L → Env → M β} {e : Env} {post : List Addr → Hp → Hp → Store → β → Prop} (S : Stt c m I s H) (E : EnvR c m I e σ) (h : Rn c W σ m I H ((f e >>= fun x => k x e) s) post) {Q : VK}
    (q : ∀ m1 I1 H1 s1 x u, Ext m I H m1 I1 H1 → Stt c m1 I1 s1 H1 → EnvR c m1 I1 e σ → Rep c m1 I1 x u → Rn c W σ m1 I1 H1 (k x e s1) post → Q u H1) : rdE c W f σ H Q :=
  ⟨m, I, e, s, S, E, h.bind.mono fun m1 I1 H1 s1 a e1 S1 r u ru => q m1 I1 H1 s1 a u e1 S1 (E.mono e1) ru r⟩
theorem rdA_bind {β : Type} {f : Env → M (List L)} {k : List L → Env → M β} {e : Env} {post : List Addr → Hp → Hp → Store → β → Prop} (S : Stt c m I s H) (E : EnvR c m I e σ) (h : Rn c W σ m I H ((f e >>= fun x => k x e) s) post) {Q : List V → Hp → Prop}
    (q : ∀ m1 I1 H1 s1 x u, Ext m I H m1 I1 H1 → Stt c m1 I1 s1 H1 → EnvR c m1 I1 e σ → Reps c m1 I1 x u → Rn c W σ m1 I1 H1 (k x e s1) post → Q u H1) : rdA c W f σ H Q :=
  ⟨m, I, e, s, S, E, h.bind.mono fun m1 I1 H1 s1 a e1 S1 r u ru => q m1 I1 H1 s1 a u e1 S1 (E.mono e1) ru r⟩
theorem rdT_bind {β : Type} {f : Env → M Bool} {k : Bool → Env → M β} {e : Env} {post : List Addr → Hp → Hp → Store → β → Prop} (S : Stt c m I s H) (E : EnvR c m I e σ) (h : Rn c W σ m I H ((f e >>= fun x => k x e) s) post) {Q : Bool → Hp → Prop}
    (q : ∀ m1 I1 H1 s1 x, Ext m I H m1 I1 H1 → Stt c m1 I1 s1 H1 → EnvR c m1 I1 e σ → Rn c W σ m1 I1 H1 (k x e s1) post → Q x H1) : rdT c W f σ H Q :=
  ⟨m, I, e, s, S, E, h.bind.mono fun m1 I1 H1 s1 a e1 S1 r => q m1 I1 H1 s1 a e1 S1 (E.mono e1) r⟩

/-! ### operations -/
def OpV (c : Cn) (r : R2) (g : L → L → M L) : Prop := ∀ (W : WX) (σ : L2.St) (m : List Addr) (I H : Hp) (s : Store) (x y : L) (u w : V) (Q : VK), Stt c m I s H → Rep c m I x u → Rep c m I y w → Rn c W σ m I H (g x y s) (Pv c Q) → r u w H Q
theorem pe_bin {X : Cx} {a b : Expr} {op : Operator} {pos : Pos} {r : R2} {g : L → L → M L} {fa fb : Env → M L} (ho : OpR X (binaryOp op) r) (hv : OpV c r g) (ha : PE X a (rdE c W fa)) (hb : PE X b (rdE c W fb)) :
    PE X (.BinOp a op b pos) (rdE c W fun e => do g (← fa e) (← fb e)) := (pe_op ho ha hb).imp fun σ H Q ⟨m, I, e, s, S, E, h⟩ =>
  rdE_bind (k := fun x e => fb e >>= fun y => g x y) S E h fun m1 I1 H1 s1 x u e1 S1 E1 ru h1 => rdE_bind (k := fun y _ => g x y) S1 E1 h1 fun m2 I2 H2 s2 y w e2 S2 E2 rw_ h2 => hv W σ m2 I2 H2 s2 x y u w Q S2 (ru.mono e2) rw_ h2
theorem pe_cmp2 {X : Cx} {a b : Expr} {op : CmpOp} {pos : Pos} {r : R2} {g : L → L → M L} {fa fb : Env → M L} (ho : OpR X (compareOp op) r) (hv : OpV c r g) (hm : behindInMarks op b = false) (ha : PE X a (rdE c W fa)) (hb : PE X b (rdE c W fb)) :
    PE X (.Compare a [op] [b] pos) (rdE c W fun e => do g (← fa e) (← fb e)) := (pe_cmpR ho ha hb hm).imp fun σ H Q ⟨m, I, e, s, S, E, h⟩ =>
  rdE_bind (k := fun x e => fb e >>= fun y => g x y) S E h fun m1 I1 H1 s1 x u e1 S1 E1 ru h1 => rdE_bind (k := fun y _ => g x y) S1 E1 h1 fun m2 I2 H2 s2 y w e2 S2 E2 rw_ h2 => hv W σ m2 I2 H2 s2 x y u w Q S2 (ru.mono e2) rw_ h2

theorem Reps.length {x : List L} {v : List V} (h : Reps c m I x v) : x.length = v.length := by
  induction x generalizing v with
  | nil => cases h; rfl
  | cons a r ih => cases h with | cons h1 h2 => rw [List.length_cons, List.length_cons, ih h2]
theorem Reps.append {x y : List L} {v w : List V} (h : Reps c m I x v) (h' : Reps c m I y w) : Reps c m I (x ++ y) (v ++ w) := by
  induction x generalizing v with
  | nil => cases h; exact h'
  | cons a r ih => cases h with | cons h1 h2 => exact .cons h1 (ih h2)
theorem Reps.get {x : List L} {v : List V} (h : Reps c m I x v) {i : Nat} {a : L} (e : x[i]? = some a) : ∃ u, v[i]? = some u ∧ Rep c m I a u := by
  induction x generalizing v i with
  | nil => simp at e
  | cons b r ih => cases h with
    | cons h1 h2 => cases i with
      | zero => cases e; exact ⟨_, rfl, h1⟩
      | succ i => exact ih h2 e
theorem Reps.none_of {x : List L} {v : List V} (h : Reps c m I x v) {i : Nat} (e : x[i]? = none) : v[i]? = none := by
  rw [List.getElem?_eq_none_iff] at e ⊢
  rw [← h.length]; exact e
theorem Reps.drop {x : List L} {v : List V} (n : Nat) (h : Reps c m I x v) : Reps c m I (x.drop n) (v.drop n) := by
  induction n generalizing x v with
  | zero => exact h
  | succ n ih => cases h with
    | nil => exact .nil
    | cons h1 h2 => exact ih h2
theorem Reps.take {x : List L} {v : List V} (n : Nat) (h : Reps c m I x v) : Reps c m I (x.take n) (v.take n) := by
  induction n generalizing x v with
  | zero => exact .nil
  | succ n ih => cases h with
    | nil => exact .nil
    | cons h1 h2 => exact .cons h1 (ih h2)
theorem Reps.set {x : List L} {v : List V} {a : L} {u : V} (i : Nat) (h : Reps c m I x v) (r : Rep c m I a u) : Reps c m I (x.set i a) (v.set i u) := by
  induction i generalizing x v with
  | zero => cases h with
    | nil => exact .nil
    | cons h1 h2 => exact .cons r h2
  | succ n ih => cases h with
    | nil => exact .nil
    | cons h1 h2 => exact .cons h1 (ih h2)
theorem Stt.sq (S : Stt c m I s H) {p : Addr} {vs : List V} (h : SqT c.K I p vs) : SqT c.K H p vs := sqT_im (fun a o e => (S.sub a o e).1) h
theorem nil_of_len {α β : Type} {x : List α} {y : List β} (h : x.length = y.length) (e : y = []) : x = [] := by
  subst e
  exact List.length_eq_zero_iff.mp h
theorem getC_at {n : Nat} {o : Ob} (h : s[n]? = some o) : getC n s = .ok o s := by
  unfold getC
  rw [h]
theorem getC_no {n : Nat} (h : s[n]? = none) : getC n s = .bad := by
  unfold getC
  rw [h]
/-- a cell is read -/
theorem Rn.getC {β : Type} {n : Nat} {k : Ob → M β} {post : List Addr → Hp → Hp → Store → β → Prop} (S : Stt c m I s H) {a : Addr} (hn : m[n]? = some a) (h : Rn c W σ m I H ((getC n >>= k) s) post) : ∃ o, s[n]? = some o ∧ RepO c m I H a o ∧ Rn c W σ m I H (k o s) post := by
  have l := S.lt hn
  refine ⟨s[n], List.getElem?_eq_getElem l, S.cell n a _ hn (List.getElem?_eq_getElem l), ?_⟩
  rw [bnd_ok (getC_at (List.getElem?_eq_getElem l))] at h
  exact h
theorem ite_die {α : Type} {P : Prop} [Decidable P] {x : M α} {post : List Addr → Hp → Hp → Store → α → Prop} (h : Rn c W σ m I H ((if P then x else die) s) post) : P ∧ Rn c W σ m I H (x s) post := by
  by_cases p : P
  · rw [if_pos p] at h; exact ⟨p, h⟩
  · rw [if_neg p] at h; exact h.elim
theorem sz_le {n : Nat} (h : n ≤ szMax) : n ≤ sizeLine := by rw [sizeLine_eq]; exact h
theorem sz_lt {n : Nat} (h : n < szMax) : n < sizeLine := by rw [sizeLine_eq]; exact h

def rAddL (K : PySem.W.Frag) : R2 := fun x y H Q => rI0 (fun i j => .int (i + j)) x y H Q ∨ (∃ i j, x = .str i ∧ y = .str j ∧ i.length + j.length ≤ sizeLine ∧ Q (.str (i ++ j)) H) ∨ rCatA K x y H Q ∨ rCat x y H Q
theorem op_addL {X : Cx} : OpR X (binaryOp .Add) (rAddL X.K) := OpR.or op_add (OpR.or op_add_str (OpR.or op_catA op_cat))
theorem Stt.newTv (S : Stt c m I s H) {xs : List L} {vs : List V} (r : Reps c m I xs vs) {Q : VK} (q : ∀ m' I' H', Ext m I H m' I' H' → Stt c m' I' s H' → ∀ u, Rep c m' I' (.tup xs) u → Q u H') : ∀ p, H p = none → Q (.ref p) (upd H p (.tup vs)) := fun p hp => by
  obtain ⟨e1, S1⟩ := S.newT (vs := vs) hp
  exact q _ _ _ e1 S1 _ (.tup (SqT.of upd_same) (r.mono e1))
theorem Stt.newLv (S : Stt c m I s H) {xs : List L} {vs : List V} (r : Reps c m I xs vs) {Q : VK} (h : Rn c W σ m I H (alloc (.lst xs) s) (Pv c Q)) : ∀ p, H p = none → Q (.ref p) (upd H p (.lst vs)) := fun p hp => by
  obtain ⟨e1, S1⟩ := S.newC (o := .lst vs) (b := .lst xs) hp (fun t => ⟨vs, upd_same, r.mono' (fun k x h => by rw [List.getElem?_append_left (List.getElem?_eq_some_iff.mp h).1]; exact h) fun _ _ h => h⟩)
  have q := h _ _ _ e1 S1
  refine q _ (.loc ?_)
  rw [← S.len, List.getElem?_append_right (Nat.le_refl _), Nat.sub_self]
  rfl
theorem ov_add : OpV c (rAddL c.K) addM := by
  intro W σ m I H s x y u w Q S rx ry h
  cases rx with
  | int i => cases ry with
    | int j => exact .inl ⟨i, j, rfl, rfl, Rn.pure S h _ (.int _)⟩
    | _ => exact h.elim
  | str i => cases ry with
    | str j =>
      obtain ⟨hz, h⟩ := ite_die h
      exact .inr (.inl ⟨i, j, rfl, rfl, sz_le hz, Rn.pure S h _ (.str _)⟩)
    | _ => exact h.elim
  | tup hp hr => cases ry with
    | tup hp' hr' =>
      obtain ⟨hz, h⟩ := ite_die h
      refine .inr (.inr (.inl ⟨_, _, _, _, rfl, rfl, S.sq hp, S.sq hp', ?_, fun e => ?_, fun e e' => ?_, fun e e' => ?_⟩))
      · rw [← hr.length, ← hr'.length]; exact sz_le hz
      · have e2 := nil_of_len hr.length e
        subst e2
        exact Rn.pure S h _ (.tup hp' hr')
      · have e2 := nil_of_len hr'.length e'
        subst e2
        refine Rn.pure S h _ ?_
        rw [List.append_nil]
        exact .tup hp hr
      · exact S.newTv (hr.append hr') fun m' I' H' e S' u ru => h m' I' H' e S' u ru
    | _ => exact h.elim
  | loc ha => cases ry with
    | loc hb =>
      obtain ⟨o, e1, r1, h⟩ := Rn.getC S ha h
      obtain ⟨o2, e2, r2, h⟩ := Rn.getC S hb h
      cases o with
      | lst xs => cases o2 with
        | lst ys =>
          obtain ⟨hz, h⟩ := ite_die h
          obtain ⟨vs, g1, q1⟩ := r1
          obtain ⟨ws, g2, q2⟩ := r2
          exact .inr (.inr (.inr ⟨_, _, _, _, rfl, rfl, g1, g2, by rw [← q1.length, ← q2.length]; exact sz_le hz, S.newLv (q1.append q2) h⟩))
        | _ => exact h.elim
      | _ => exact h.elim
    | _ => exact h.elim
  | _ => exact h.elim
theorem ov_sub : OpV c (rI0 fun i j => .int (i - j)) subM := by
  intro W σ m I H s x y u w Q S rx ry h
  cases rx with
  | int i => cases ry with
    | int j => exact ⟨i, j, rfl, rfl, Rn.pure S h _ (.int _)⟩
    | _ => exact h.elim
  | _ => exact h.elim
theorem ov_mul : OpV c (rI CMul fun i j => .int (i * j)) mulM := by
  intro W σ m I H s x y u w Q S rx ry h
  cases rx with
  | int i => cases ry with
    | int j =>
      obtain ⟨hz, h⟩ := ite_die h
      exact ⟨i, j, rfl, rfl, hz, Rn.pure S h _ (.int _)⟩
    | _ => exact h.elim
  | _ => exact h.elim
theorem ov_fdv : OpV c (rI CDiv fun i j => .int (i / j)) fdvM := by
  intro W σ m I H s x y u w Q S rx ry h
  cases rx with
  | int i => cases ry with
    | int j =>
      obtain ⟨hz, h⟩ := ite_die h
      exact ⟨i, j, rfl, rfl, hz, Rn.pure S h _ (.int _)⟩
    | _ => exact h.elim
  | _ => exact h.elim
theorem ov_mod : OpV c (rI (fun _ j => 0 < j) fun i j => .int (i % j)) modM := by
  intro W σ m I H s x y u w Q S rx ry h
  cases rx with
  | int i => cases ry with
    | int j =>
      obtain ⟨hz, h⟩ := ite_die h
      exact ⟨i, j, rfl, rfl, hz, Rn.pure S h _ (.int _)⟩
    | _ => exact h.elim
  | _ => exact h.elim
theorem ov_pow : OpV c (rI CPow fun i j => .int (i ^ j.toNat)) powM := by
  intro W σ m I H s x y u w Q S rx ry h
  cases rx with
  | int i => cases ry with
    | int j =>
      obtain ⟨hz, h⟩ := ite_die h
      exact ⟨i, j, rfl, rfl, hz, Rn.pure S h _ (.int _)⟩
    | _ => exact h.elim
  | _ => exact h.elim
theorem ov_lt : OpV c (rI0 fun i j => .bl (decide (i < j))) ltM := by
  intro W σ m I H s x y u w Q S rx ry h
  cases rx with
  | int i => cases ry with
    | int j => exact ⟨i, j, rfl, rfl, Rn.pure S h _ (.bl _)⟩
    | _ => exact h.elim
  | _ => exact h.elim
theorem ov_le : OpV c (rI0 fun i j => .bl (decide (i ≤ j))) leM := by
  intro W σ m I H s x y u w Q S rx ry h
  cases rx with
  | int i => cases ry with
    | int j => exact ⟨i, j, rfl, rfl, Rn.pure S h _ (.bl _)⟩
    | _ => exact h.elim
  | _ => exact h.elim
theorem ov_gt : OpV c (rI0 fun i j => .bl (decide (j < i))) (fun x y => ltM y x) := by
  intro W σ m I H s x y u w Q S rx ry h
  cases rx with
  | int i => cases ry with
    | int j => exact ⟨i, j, rfl, rfl, Rn.pure S h _ (.bl _)⟩
    | _ => exact h.elim
  | _ => cases ry <;> exact h.elim
theorem ov_ge : OpV c (rI0 fun i j => .bl (decide (j ≤ i))) (fun x y => leM y x) := by
  intro W σ m I H s x y u w Q S rx ry h
  cases rx with
  | int i => cases ry with
    | int j => exact ⟨i, j, rfl, rfl, Rn.pure S h _ (.bl _)⟩
    | _ => exact h.elim
  | _ => cases ry <;> exact h.elim
end D
end

section
set_option maxRecDepth 100000
set_option maxHeartbeats 1000000
/-! D1c: equality, membership, places, truth, fields. -/
namespace D
open PySem PySem.Spec PyProof.Rows L2
variable {c : Cn} {W : WX} {σ : L2.St} {m m' : List Addr} {I I' H H' : Hp} {s : Store}
/-! ### data -/
section
variable {g : Nat → Option PyData} (hg : ∀ (n : Nat) (a : Addr) (d : PyData), m[n]? = some a → g n = some d → Dp c.K H (.ref a) d) (hI : ∀ a o, I a = some o → H a = some o)
include hg hI
mutual
theorem dp_n : ∀ (x : L) (u : V) (d : PyData), toDn g x = some d → Rep c m I x u → Dp c.K H u d
  | .non, _, _, e, r => by cases r; cases e; exact .non
  | .bl b, _, _, e, r => by cases r; cases e; exact .bl b
  | .int i, _, _, e, r => by cases r; cases e; exact .int i
  | .str z, _, _, e, r => by cases r; cases e; exact .str z
  | .fn _, _, _, e, r => by cases e
  | .loc n, _, _, e, r => by cases r with | loc h => exact hg _ _ _ h e
  | .tup xs, _, d, e, r => by
    cases r with
    | tup h hr =>
      have e' : (toDs g xs).map PyData.tuple = some d := e
      cases q : toDs g xs with
      | none => rw [q] at e'; cases e'
      | some ds =>
        rw [q] at e'
        cases e'
        exact .tup (sqT_im hI h) (dp_s xs _ ds q hr)
theorem dp_s : ∀ (x : List L) (u : List V) (d : List PyData), toDs g x = some d → Reps c m I x u → DpAll c.K H u d
  | [], _, _, e, r => by cases r; cases e; exact .nil
  | x :: xs, _, d, e, r => by
    cases r with
    | cons h hr =>
      have e' : (match toDn g x, toDs g xs with
        | some d, some ds => some (d :: ds)
        | _, _ => none) = some d := e
      cases q : toDn g x with
      | none => rw [q] at e'; cases e'
      | some d1 => cases q2 : toDs g xs with
        | none => rw [q, q2] at e'; cases e'
        | some ds =>
          rw [q, q2] at e'
          cases e'
          exact .cons (dp_n x _ d1 q h) (dp_s xs _ ds q2 hr)
end
end
theorem gD_dp (S : Stt c m I s H) : ∀ (k n : Nat) (a : Addr) (d : PyData), m[n]? = some a → gD s k n = some d → Dp c.K H (.ref a) d
  | 0, _, _, _, _, e => by cases e
  | k + 1, n, a, d, hn, e => by
    have l := S.lt hn
    have r := S.cell n a _ hn (List.getElem?_eq_getElem l)
    have e' : (match s[n]? with
      | some (.lst xs) => (toDs (gD s k) xs).map PyData.list
      | _ => none) = some d := e
    rw [List.getElem?_eq_getElem l] at e'
    revert e' r
    cases s[n] with
    | lst xs =>
      intro r e'
      obtain ⟨vs, h1, h2⟩ := r
      cases q : toDs (gD s k) xs with
      | none => simp only [q] at e'; cases e'
      | some ds =>
        simp only [q] at e'
        cases e'
        exact .lst (SqL.of h1) (dp_s (gD_dp S k) (fun a o e => (S.sub a o e).1) xs vs ds q h2)
    | _ => intro r e'; cases e'
theorem toD_dp (S : Stt c m I s H) {x : L} {u : V} {d : PyData} (e : toD s x = some d) (r : Rep c m I x u) : Dp c.K H u d := dp_n (gD_dp S 8) (fun a o e => (S.sub a o e).1) x u d e r
theorem toDs_dp (S : Stt c m I s H) {x : List L} {u : List V} {d : List PyData} (e : toDs (gD s 8) x = some d) (r : Reps c m I x u) : DpAll c.K H u d := dp_s (gD_dp S 8) (fun a o e => (S.sub a o e).1) x u d e r
theorem eqD_sp {x y : L} {b : Bool} (e : eqD s x y = some b) : ∃ d d', toD s x = some d ∧ toD s y = some d' ∧ SeqAt.shaped d = true ∧ SeqAt.shaped d' = true ∧ PyData.eqv d d' = b := by
  unfold eqD at e
  cases q : toD s x with
  | none => rw [q] at e; cases e
  | some d => cases q2 : toD s y with
    | none => rw [q, q2] at e; cases e
    | some d' =>
      simp only [q, q2] at e
      by_cases h : (SeqAt.shaped d && SeqAt.shaped d') = true
      · rw [if_pos h] at e
        exact ⟨d, d', rfl, rfl, (Bool.and_eq_true_iff.mp h).1, (Bool.and_eq_true_iff.mp h).2, Option.some.inj e⟩
      · rw [if_neg h] at e; cases e
theorem rn_eqM {x y : L} {post : List Addr → Hp → Hp → Store → Bool → Prop} (S : Stt c m I s H) (h : Rn c W σ m I H (eqM x y s) post) : ∃ b, eqD s x y = some b ∧ post m I H s b := by
  unfold eqM at h
  cases q : eqD s x y with
  | none => rw [q] at h; exact h.elim
  | some b =>
    rw [q] at h
    exact ⟨b, rfl, h m I H Ext.rfl' S⟩
theorem eqD_rd (S : Stt c m I s H) {x y : L} {u w : V} {b : Bool} (e : eqD s x y = some b) (rx : Rep c m I x u) (ry : Rep c m I y w) {Q : VK} (q : Q (.bl b) H) : rEqD c.K u w H Q := by
  obtain ⟨d, d', e1, e2, h1, h2, h3⟩ := eqD_sp e
  exact ⟨d, d', toD_dp S e1 rx, toD_dp S e2 ry, h1, h2, by rw [h3]; exact q⟩
theorem neD_rd (S : Stt c m I s H) {x y : L} {u w : V} {b : Bool} (e : eqD s x y = some b) (rx : Rep c m I x u) (ry : Rep c m I y w) {Q : VK} (q : Q (.bl !b) H) : rNeD c.K u w H Q := by
  obtain ⟨d, d', e1, e2, h1, h2, h3⟩ := eqD_sp e
  exact ⟨d, d', toD_dp S e1 rx, toD_dp S e2 ry, h1, h2, by rw [h3]; exact q⟩
/-! ### truth -/
theorem truL (S : Stt c m I s H) {x : L} {u : V} (r : Rep c m I x u) {Q : Bool → Hp → Prop} (h : Rn c W σ m I H (truM x s) (Pb Q)) : ∃ k, TruV c.K u H k ∧ Q k H := by
  cases r with
  | non => exact ⟨false, rfl, Rn.pure S h⟩
  | bl b => exact ⟨b, rfl, Rn.pure S h⟩
  | int i => exact ⟨_, rfl, Rn.pure S h⟩
  | str z =>
    obtain ⟨hz, h⟩ := ite_die h
    exact ⟨_, ⟨sz_le hz, rfl⟩, Rn.pure S h⟩
  | fn _ => exact h.elim
  | tup hp hr =>
    refine ⟨_, .inr (.inl ⟨_, S.sq hp, rfl⟩), ?_⟩
    have q := Rn.pure S h
    have l := hr.length
    rename_i xs p vs
    cases xs with
    | nil => cases hr; exact q
    | cons a r => cases hr; exact q
  | loc ha =>
    obtain ⟨o, e1, r1, h⟩ := Rn.getC S ha h
    cases o with
    | lst xs =>
      obtain ⟨vs, g1, q1⟩ := r1
      refine ⟨_, .inl ⟨_, SqL.of g1, rfl⟩, ?_⟩
      have q := Rn.pure S h
      cases q1 <;> exact q
    | dS kvs =>
      obtain ⟨vs, g1, q1⟩ := r1
      refine ⟨_, .inr (.inr ⟨_, g1, rfl⟩), ?_⟩
      have q := Rn.pure S h
      cases q1 <;> exact q
    | _ => exact h.elim
/-! ### in -/
theorem flat_of {x : L} {u : V} (r : Rep c m I x u) (h : flatL x = true) : flatV u = true := by
  cases r with
  | tup _ _ => cases h
  | loc _ => cases h
  | fn _ => cases h
  | _ => rfl
theorem eqF_of {x y : L} {u w : V} (rx : Rep c m I x u) (ry : Rep c m I y w) (h : flatL x = true) : eqV u w = eqF x y := by
  cases rx with
  | tup _ _ => cases h
  | loc _ => cases h
  | fn _ => cases h
  | _ => cases ry <;> rfl
theorem flats_of {x : List L} {u : List V} (r : Reps c m I x u) (h : x.all flatL = true) : u.all flatV = true := by
  induction x generalizing u with
  | nil => cases r; rfl
  | cons a x ih => cases r with | cons h1 h2 =>
    rw [List.all_cons, Bool.and_eq_true] at h
    rw [List.all_cons, flat_of h1 h.1, ih h2 h.2] <;> rfl
theorem inF_of {x : List L} {u : List V} {y : L} {w : V} (r : Reps c m I x u) (ry : Rep c m I y w) (h : x.all flatL = true) : inV w u = x.any fun z => eqF z y := by
  induction x generalizing u with
  | nil => cases r; rfl
  | cons a x ih => cases r with | cons h1 h2 =>
    rw [List.all_cons, Bool.and_eq_true] at h
    have e := ih h2 h.2
    unfold inV at e ⊢
    rw [List.any_cons, List.any_cons, e, eqF_of h1 ry h.1]
theorem inF_rd (S : Stt c m I s H) {x : L} {u : V} {ys : List L} {p : Addr} {vs : List V} (rx : Rep c m I x u) (h : SqT c.K H p vs) (hr : Reps c m I ys vs) {neg : Bool} {post : List Addr → Hp → Hp → Store → Bool → Prop} (q : Rn c W σ m I H (inF x ys s) post) {Q : VK}
    (k : ∀ b, post m I H s b → Q (.bl (if neg then !b else b)) H) : rIn c.K neg u (.ref p) H Q := by
  obtain ⟨hz, q⟩ := ite_die q
  rw [Bool.and_eq_true] at hz
  refine ⟨p, vs, rfl, .inr h, flat_of rx hz.1, flats_of hr hz.2, ?_⟩
  rw [inF_of hr rx hz.2]
  exact k _ (Rn.pure S q)
theorem inM_rd (S : Stt c m I s H) {x : L} {u : V} {ys : List L} {p : Addr} {vs : List V} (rx : Rep c m I x u) (h : H p = some (.lst vs)) (hr : Reps c m I ys vs) {post : List Addr → Hp → Hp → Store → Bool → Prop} (q : Rn c W σ m I H (inM x ys s) post) {Q : Bool → Prop}
    (k : ∀ b, post m I H s b → Q b) : ∃ d ds, Dp c.K H u d ∧ Dp c.K H (.ref p) (.list ds) ∧ SeqAt.shaped d = true ∧ SeqAt.shaped (.list ds) = true ∧ Q (ds.any fun z => PyData.eqv z d) := by
  unfold inM at q
  cases e1 : toD s x with
  | none => rw [e1] at q; exact q.elim
  | some d => cases e2 : toDs (gD s 8) ys with
    | none => rw [e1, e2] at q; exact q.elim
    | some ds =>
      simp only [e1, e2] at q
      by_cases hz : (SeqAt.shaped d && SeqAt.shaped (.list ds)) = true
      · rw [if_pos hz] at q
        rw [Bool.and_eq_true] at hz
        exact ⟨d, ds, toD_dp S e1 rx, .lst (SqL.of h) (toDs_dp S e2 hr), hz.1, hz.2, k _ (q m I H Ext.rfl' S)⟩
      · rw [if_neg hz] at q; exact q.elim
/-! ### dicts of texts -/
theorem RepK.val {x : List (Str × L)} {v : List (Key × V)} (h : RepK c m I x v) (k : Str) : match lk k x with
    | some a => ∃ u, valV v (.inr k) = some u ∧ Rep c m I a u
    | none => valV v (.inr k) = none := by
  induction h with
  | nil => exact valV_nil
  | cons r h' ih =>
    rename_i k' a u xs vs
    unfold lk
    by_cases e : k' = k
    · rw [if_pos e]
      subst e
      exact ⟨u, valV_pos rfl, r⟩
    · rw [if_neg e]
      have e' : ¬ ((Sum.inr k' : Key) = Sum.inr k) := fun z => e (Sum.inr.inj z)
      rw [valV_neg e']
      exact ih
theorem RepK.some {x : List (Str × L)} {v : List (Key × V)} (h : RepK c m I x v) (k : Str) : (valV v (.inr k)).isSome = (lk k x).isSome := by
  have q := h.val k
  cases e : lk k x with
  | none => rw [e] at q; simp only at q; rw [q]; rfl
  | some a =>
    rw [e] at q
    obtain ⟨u, q, _⟩ := q
    rw [q]; rfl
theorem RepK.length {x : List (Str × L)} {v : List (Key × V)} (h : RepK c m I x v) : x.length = v.length := by
  induction h with
  | nil => rfl
  | cons _ _ ih => rw [List.length_cons, List.length_cons, ih]
theorem putK_nil {k : Key} {v : V} : putK [] k v = [(k, v)] := rfl
theorem putK_cons {k k' : Key} {v v' : V} {r : List (Key × V)} (hn : ¬ k' ∈ r.map (·.1)) : putK ((k', v') :: r) k v = if k' = k then (k', v) :: r else (k', v') :: putK r k v := by
  unfold putK
  by_cases e : k' = k
  · subst e
    rw [if_pos (by simp), if_pos rfl, List.map_cons, if_pos rfl]
    congr 1
    refine (List.map_congr_left fun p hp => ?_).trans (List.map_id r)
    rw [if_neg (fun z => hn (List.mem_map.mpr ⟨p, hp, z⟩))]
    rfl
  · rw [if_neg e]
    by_cases a : (r.any fun kv => decide (kv.1 = k)) = true
    · rw [if_pos (by rw [List.any_cons, a, Bool.or_true]), if_pos a, List.map_cons, if_neg e]
    · rw [if_neg (by rw [List.any_cons, decide_eq_false e, Bool.false_or]; exact a), if_neg a]; rfl
theorem RepK.keys {x : List (Str × L)} {v : List (Key × V)} (h : RepK c m I x v) : v.map (·.1) = x.map fun p => (Sum.inr p.1 : Key) := by
  induction h with
  | nil => rfl
  | cons _ _ ih => rw [List.map_cons, List.map_cons, ih]
/-! ### fields -/
theorem RepF.val {x : List (Str × L)} {v : List (Str × V)} (h : RepF c m I x v) (k : Str) : match lk k x with
    | some a => ∃ u, v.lookup k = some u ∧ Rep c m I a u
    | none => v.lookup k = none := by
  induction h with
  | nil => rfl
  | cons r h' ih =>
    rename_i k' a u xs vs
    unfold lk
    by_cases e : k' = k
    · rw [if_pos e]
      subst e
      exact ⟨u, by simp [List.lookup], r⟩
    · rw [if_neg e]
      have e' : (k == k') = false := by simpa using fun z => e z.symm
      have e2 : List.lookup k ((k', u) :: vs) = vs.lookup k := by simp [List.lookup, e']
      rw [e2]
      exact ih
theorem RepF.length {x : List (Str × L)} {v : List (Str × V)} (h : RepF c m I x v) : x.length = v.length := by
  induction h with
  | nil => rfl
  | cons _ _ ih => rw [List.length_cons, List.length_cons, ih]
theorem RepF.put {x : List (Str × L)} {v : List (Str × V)} (h : RepF c m I x v) {k : Str} {a : L} {u : V} (r : Rep c m I a u) : RepF c m I (put k a x) (putF k u v) := by
  induction h with
  | nil => exact .cons r .nil
  | cons r' h' ih =>
    rename_i k' a' u' xs vs
    show RepF c m I (if k' = k then (k', a) :: xs else (k', a') :: D.put k a xs) (if k' = k then (k', u) :: vs else (k', u') :: putF k u vs)
    by_cases e : k' = k
    · rw [if_pos e, if_pos e]; exact .cons r h'
    · rw [if_neg e, if_neg e]; exact .cons r' ih
theorem lk_mem {κ : Type} [DecidableEq κ] {k : κ} {v : L} : ∀ {x : List (κ × L)}, lk k x = some v → (k, v) ∈ x
  | [], h => by cases h
  | (k', v') :: r, h => by
    unfold lk at h
    by_cases e : k' = k
    · rw [if_pos e] at h; cases h; subst e; exact List.mem_cons_self
    · rw [if_neg e] at h; exact List.mem_cons_of_mem _ (lk_mem h)
/-! ### places -/
theorem atI_some {α : Type} {x : List α} {i : Int} {a : α} (h : atI x i = some a) : ∃ j : Nat, x[j]? = some a ∧ ixN x.length i = some j := by
  unfold atI at h
  cases e : ixN x.length i with
  | none => rw [e] at h; cases h
  | some j => rw [e] at h; exact ⟨j, h, rfl⟩
theorem Reps.atI {x : List L} {v : List V} (h : Reps c m I x v) {i : Int} {a : L} (e : atI x i = some a) : ∃ u, L2.atI v i = some u ∧ Rep c m I a u := by
  obtain ⟨j, e1, e2⟩ := atI_some e
  obtain ⟨u, g, r⟩ := h.get e1
  refine ⟨u, ?_, r⟩
  unfold L2.atI
  rw [← h.length, e2]
  exact g
theorem rn_ofO {α : Type} {o : Option α} {post : List Addr → Hp → Hp → Store → α → Prop} (S : Stt c m I s H) (h : Rn c W σ m I H (ofO o s) post) : ∃ a, o = some a ∧ post m I H s a := by
  cases o with
  | none => exact h.elim
  | some a => exact ⟨a, rfl, Rn.pure S h⟩
theorem Reps.cut {x : List L} {v : List V} (h : Reps c m I x v) (lo hi : Option Int) : Reps c m I (cutL x lo hi) (cutV v lo hi) := by
  unfold cutL cutV
  rw [h.length]
  exact (h.drop _).take _
end D
end

section
set_option maxRecDepth 100000
set_option maxHeartbeats 1000000
/-! D1d: contexts; what the syntax must be seen to be; calls. -/
namespace D
open PySem PySem.Spec PyProof.Rows L2
/-! ### the syntax -/
def isStar : Expr → Bool
  | .Starred _ _ => true
  | _ => false
theorem star_cons {e : Expr} {es : List Expr} {env : PySem.Env} (h : isStar e = false) : starEach (e :: es) env = (false, eval e env) :: starEach es env := by
  cases e <;> first | rfl | (exact absurd h (by intro z; cases z))
theorem star_any {pos : Pos} {env : PySem.Env} : ∀ {es : List Expr}, es.all (fun e => !isStar e) = true → (backTo pos (starEach es env)).any (·.1) = false
  | [], _ => rfl
  | e :: es, h => by
    rw [List.all_cons, Bool.and_eq_true] at h
    have h1 : isStar e = false := by simpa using h.1
    rw [star_cons h1]
    show (false || (backTo pos (starEach es env)).any (·.1)) = false
    rw [star_any h.2] <;> rfl
theorem star_all {pos : Pos} {env : PySem.Env} : ∀ {es : List Expr}, es.all (fun e => !isStar e) = true → (backTo pos (starEach es env)).all (fun x => !x.1) = true
  | [], _ => rfl
  | e :: es, h => by
    rw [List.all_cons, Bool.and_eq_true] at h
    have h1 : isStar e = false := by simpa using h.1
    rw [star_cons h1]
    show (true && (backTo pos (starEach es env)).all (fun x => !x.1)) = true
    rw [star_all h.2] <;> rfl
/-- nothing like super().x -/
def plainBase : Expr → Bool
  | .Call (.Name _ _) [] [] _ => false
  | _ => true
theorem base_of {o : Expr} {f : Str} {env : PySem.Env} {x : Sem Value} (h : plainBase o = true) : attributeBase o f env x = x := by
  unfold attributeBase
  split
  · cases h
  · rfl
def isSlice : Expr → Bool
  | .Slice _ _ _ _ => true
  | _ => false
theorem plain_ix {b : Expr} (h : isSlice b = false) : PlainIx b := by
  intro o i
  cases b <;> first | rfl | (exact absurd h (by intro z; cases z))
def isComp : Expr → Bool
  | .ListComp _ _ _ _ | .SetComp _ _ _ _ | .DictComp _ _ _ _ _ => true
  | _ => false
theorem no_swap {e : Expr} {t : Option Expr} {l : Nat} {env : PySem.Env} (h : isComp e = false) : swapsWith e t l env = pure false := by
  cases e <;> first | rfl | (exact absurd h (by intro z; cases z))
def isPlainT : Expr → Bool
  | .Name _ _ | .Attribute _ _ _ | .Call _ _ _ _ | .Subscript _ _ _ | .Constant _ _ _ | .Tuple _ _ _ | .List _ _ => true
  | _ => false
theorem plain_t {e : Expr} {env : PySem.Env} (h : isPlainT e = true) : ∀ whole, isTrue e env whole = (do let v ← whole; standAt e.pos; holding [v] (truthy v)) := by
  intro whole
  cases e <;> first | rfl | (exact absurd h (by intro z; cases z))
theorem no_set {e : Expr} {env : PySem.Env} (h : (match e with | .Set _ _ _ => true | _ => false) = false) : ∀ x, foldedSetIterable e env x = pure x := by
  intro x
  cases e <;> first | rfl | (exact absurd h (by intro z; cases z))
/-! ### the context -/
abbrev cOf (X : Cx) : Cn := ⟨X.prog, X.w, X.K, X.mg⟩
def visB (sc : Scope) (x : Str) : Bool := match sc.names.lookup x with
  | some .local | some .cell | some .free => true
  | _ => false
def locB (sc : Scope) (x : Str) : Bool := match sc.names.lookup x with
  | some .local | some .cell => true
  | _ => false
def glB (sc : Scope) (x : Str) : Bool := match sc.names.lookup x with
  | some .globalImplicit => true
  | _ => false
def nmB (x : Str) : Bool := !(x == ("__debug__" : Str)) && !(x == ("__classdict__" : Str)) && decide (x ≠ "__name__")
/-- what a def keeps: its arguments' meaning -/
def spD (c : Cn) (np : Nat) (F : List L → M L) : Sp := fun vs H Q E => vs.length = np ∧ ∃ m I s xs, Stt c m I s H ∧ Reps c m I xs vs ∧ Rn c (fun cls d _ H' => E cls d H') [] m I H (F xs s) (Pv c Q)
def CallOk (c : Cn) (base : Heap) (k : Nat) (F : List L → M L) (a : Addr) : Prop := ∃ fd ps, FnOk c.P c.w c.K c.mg base (L2.CX c.P c.w) k a fd ps (spD c ps.length F) ∧ Binds c.K fd ps [] ∧ PySem.W.keepIn c.K (.ref a) = true ∧ ∀ xs s, (F xs s = .bad → False) → xs.length = ps.length
def bNames : List Str := ["len", "int", "str", "max", "min", "list", "tuple", "dict", "isinstance", "range", "zip", "enumerate", "any", "all", "bool"]
/-- what the module is -/
structure FxOk (c : Cn) (base : Heap) (k : Nat) (G : Glb) (F : Fns) : Prop where
  fn : ∀ x, G.has (x, none) = true → ∃ a, c.mg x = some (.ref a) ∧ CallOk c base k (F (x, none)) a
  me : ∀ x f, G.has (x, some f) = true → ∃ C a, ClsOk c x C ∧ Meth c.K C f a ∧ CallOk c base k (F (x, some f)) a
  mak : ∀ x, G.has (x, some "__init__") = true → ∃ C a, ClsOk c x C ∧ Mk c.K C a ∧ CallOk c base k (F (x, some "__init__")) a
  fl : ∀ x f, G.fl x f = true → ∃ C, ClsOk c x C ∧ NoAttr c.K C f
  con : ∀ x v, G.con x = some v → ∃ u w, c.mg x = some u ∧ RelV w u ∧ ∀ m I, Rep c m I v w
  bn : ∀ x ∈ bNames, c.mg x = none
/-- an expression's context -/
structure XE0 (G : Glb) (F : Fns) (k : Nat) (N : List Str) (sc : Scope) (W : WX) (X : Cx) : Prop where
  hN : X.N = N
  nd : N.Nodup
  nm : ∀ x kd, sc.names.lookup x = some kd → X.env.scope.names.lookup x = some kd ∨ (kd = .free ∧ X.env.scope.names.lookup x = some .cell)
  fn : ∀ x, sc.names.lookup x = some .cell → X.fn x = true
  calm : X.calm = true
  room : Room (k + 1) X.A
  fx : FxOk (cOf X) X.base k G F
  tk : Takes X W
section
variable {G : Glb} {F : Fns} {k : Nat} {N : List Str} {sc : Scope} {W : WX} {X : Cx}
theorem XE0.vis (h : XE0 G F k N sc W X) {x : Str} (v : visB sc x = true) : Vis X.env.scope x := by
  unfold visB at v
  cases e : sc.names.lookup x with
  | none => rw [e] at v; cases v
  | some kd =>
    rw [e] at v
    rcases h.nm x kd e with q | ⟨_, q⟩
    · cases kd with
      | «local» => exact .inl q
      | cell => exact .inr (.inl q)
      | free => exact .inr (.inr q)
      | _ => cases v
    · exact .inr (.inl q)
theorem XE0.loc (h : XE0 G F k N sc W X) {x : Str} (v : locB sc x = true) : Loc X.env.scope x ∧ (X.fn x = true ∨ X.env.scope.names.lookup x = some .local) := by
  unfold locB at v
  cases e : sc.names.lookup x with
  | none => rw [e] at v; cases v
  | some kd =>
    rw [e] at v
    rcases h.nm x kd e with q | ⟨q1, q⟩
    · cases kd with
      | «local» => exact ⟨.inl q, .inr q⟩
      | cell => exact ⟨.inr q, .inl (h.fn x e)⟩
      | _ => cases v
    · subst q1; cases v
theorem XE0.gl (h : XE0 G F k N sc W X) {x : Str} (v : glB sc x = true) : Gl X x := by
  unfold glB at v
  cases e : sc.names.lookup x with
  | none => rw [e] at v; cases v
  | some kd =>
    rw [e] at v
    rcases h.nm x kd e with q | ⟨q1, q⟩
    · cases kd with
      | globalImplicit => exact q
      | _ => cases v
    · subst q1; cases v
theorem nmB_d {x : Str} (h : nmB x = true) : (x == ("__debug__" : Str)) = false ∧ (x == ("__classdict__" : Str)) = false ∧ x ≠ "__name__" := by
  unfold nmB at h
  rw [Bool.and_eq_true, Bool.and_eq_true] at h
  refine ⟨?_, ?_, of_decide_eq_true h.2⟩
  · have := h.1.1
    revert this
    cases (x == ("__debug__" : Str)) <;> simp
  · have := h.1.2
    revert this
    cases (x == ("__classdict__" : Str)) <;> simp
theorem XE0.hu (h : XE0 G F k N sc W X) : X.A.units + 65 < cLine := by
  have := h.room.un
  omega
end
/-! ### calls -/
section
variable {X : Cx} {W : WX} {CX : CXT} {k : Nat} {f C : Addr} {fd : FuncData} {ps : List Str} {sp : Sp} {E : L2.St → XK} {x m : Str} {p pos apos : Pos} {e o : Expr} {es : List Expr} {ta : TE} {t : TA}
theorem pe_callS0 (F : FnOk X.prog X.w X.K X.mg X.base CX k f fd ps sp) (hr : Room k X.A) (hg : Gl X x) (hm : X.mg x = some (.ref f)) (hk : PySem.W.keepIn X.K (.ref f) = true) (hb : Binds X.K fd ps []) (hx : ∀ σ, PassesAt CX X σ (E σ))
    (hdb : (x == ("__debug__" : Str)) = false := by decide) : PE X (.Call (.Name x p) [] [] pos) (tCallS sp E tNil) := by
  refine ⟨fun pins s σ H Q I h => ?_⟩
  refine wpAny_Call_Name_kw (ld_glob I hg hm ?_ hdb)
  exact PySem.W.callWith_K0 I.kIn hk (run_fnS (us := []) F hr hb (hx σ) I .nil h)
/-- a method, found by the instance's class -/
def tMethD (X : Cx) (m : Str) (CX : CXT) (k : Nat) (E : L2.St → XK) (ta : TE) (t : TA) : TE := fun σ H Q => ta σ H fun x H1 => ∃ a C dx fs f fd ps sp, x = .ref a ∧ H1 a = some (.ins C dx fs) ∧ fs.lookup m = none ∧ Cls X.K C ∧ Meth X.K C m f ∧
  FnOk X.prog X.w X.K X.mg X.base CX k f fd ps sp ∧ Binds X.K fd ps [] ∧ t σ H1 fun vs H2 => sp (x :: vs) H2 Q (E σ)
theorem pe_methD {pl : Sem Bool} (he : PE X o ta) (hr : Room k X.A) (hx : ∀ σ, PassesAt CX X σ (E σ)) (ha : PA X (e :: es) t)
    (hst : starEach (e :: es) X.env = (false, eval e X.env) :: starEach es X.env) (hpl : (backTo pos (starEach es X.env)).any (·.1) = false)
    (ht : eval (.Call (.Attribute o m apos) (e :: es) [] pos) X.env = (do
      let ov ← eval o X.env
      standAt apos.atName
      let (f, first) ← holding [ov] (getMethod ov m pl)
      callWith pos f first (backTo pos (starEach (e :: es) X.env)) (backToKw pos (keywordEach [] X.env)))) :
    PE X (.Call (.Attribute o m apos) (e :: es) [] pos) (tMethD X m CX k E ta t) := by
  refine ⟨fun pins s σ H Q I h => ?_⟩
  refine PySem.W.methodCall_KW (pl := pl) (thn (he.run pins s σ H _ I h) fun u s1 ⟨x, H1, I1, rx, a, C, dx, fs, f, fd, ps, sp, ex, ea, l, c, hm, F, hb, q⟩ => ?_) ht
  subst ex
  obtain rfl : u = Value.ref a := rx
  refine getmeth_ok I1 ea c hm l ?_
  refine PySem.W.callWith_K (first := [.ref a]) (h₀ := X.base) I.ok.mod.kin hm.kp (thn (ha.run pos pins s1 σ H1 _ I1 q) fun us s2 ⟨vs, H2, I2, r, q2⟩ => ⟨I2.kIn, ?_⟩) hst hpl
  exact run_fnS (us := .ref a :: us) (vs := .ref a :: vs) F hr hb (hx σ) I2 (.cons rfl r) q2
theorem pe_methD0 {pl : Sem Bool} (he : PE X o ta) (hr : Room k X.A) (hx : ∀ σ, PassesAt CX X σ (E σ))
    (ht : eval (.Call (.Attribute o m apos) [] [] pos) X.env = (do
      let ov ← eval o X.env
      standAt apos.atName
      let (f, first) ← holding [ov] (getMethod ov m pl)
      callWith pos f first (backTo pos (starEach [] X.env)) (backToKw pos (keywordEach [] X.env)))) :
    PE X (.Call (.Attribute o m apos) [] [] pos) (tMethD X m CX k E ta tNil) := by
  refine ⟨fun pins s σ H Q I h => ?_⟩
  refine PySem.W.methodCall_KW (pl := pl) (thn (he.run pins s σ H _ I h) fun u s1 ⟨x, H1, I1, rx, a, C, dx, fs, f, fd, ps, sp, ex, ea, l, c, hm, F, hb, q⟩ => ?_) ht
  subst ex
  obtain rfl : u = Value.ref a := rx
  refine getmeth_ok I1 ea c hm l ?_
  refine PySem.W.callWith_K0 (first := [.ref a]) I1.kIn hm.kp ?_
  exact run_fnS (us := [.ref a]) (vs := [.ref a]) F hr hb (hx σ) I1 (.cons rfl .nil) q
theorem run_makeS {pins : List (Addr × Obj)} {σ : L2.St} {H : Hp} {s : Shared} {Q : VK} {us : List Value} {vs : List V} (M : Mk X.K C f) (F : FnOk X.prog X.w X.K X.mg X.base CX k f fd ps sp) (hr : Room (k + 1) X.A) (hb : Binds X.K fd ps [])
    (hx : PassesAt CX X σ (E σ)) (I : Inv X pins σ H s) (r : Vals vs us)
    (h : ∀ x dx, H x = none → H dx = none → dx ≠ x → sp (.ref x :: vs) (upd (upd H dx (.own x)) x (.ins C dx [])) (fun v H2 => v = .non ∧ Q (.ref x) H2) (E σ)) :
    wpAny (model X.prog X.w) X.A (call (.ref C) us) (EP X pins σ Q) X.xe s := by
  have hq := h (s.heap.objs.size + 1) s.heap.objs.size (I.hok.fresh (Nat.le_succ _)) (I.hok.fresh (Nat.le_refl _)) (Nat.ne_of_lt (Nat.lt_succ_self _))
  have I2 := Inv.made (C := C) I
  have r2 : Vals (V.ref (s.heap.objs.size + 1) :: vs) (Value.ref (s.heap.objs.size + 1) :: us) := .cons rfl r
  have hl : (Value.ref (s.heap.objs.size + 1) :: us).length = ps.length := by
    have e := r2.length
    rw [F.len _ _ _ _ hq] at e
    exact e.symm
  have b := hb _ (Value.ref (s.heap.objs.size + 1) :: us) I2.kIn (by rw [List.append_nil]; exact hl)
  rw [List.append_nil] at b
  refine wpAny_call (make_map (f := f) I.kIn M.makes M.init (beq_iff_eq.mp M.fn) (codeAny_mono (F.run _ X.stack _ _ ⟨Value.ref (s.heap.objs.size + 1) :: us, []⟩ (Value.ref (s.heap.objs.size + 1) :: us) _ _ (E σ) (hr.make C us [])
    (I2.env0.make C us []) b r2 hq) fun r s' hq' => ?_))
  cases r with
  | error e => exact hx pins _ _ e s' I2 hq'
  | ok fl =>
    cases fl with
    | ret u =>
      obtain ⟨v, H', I3, rv, ev, q3⟩ := I2.after hq'
      subst ev
      exact ⟨rv, ⟨V.ref (s.heap.objs.size + 1), H', I3, rfl, q3⟩⟩
    | next => exact False.elim hq'
    | brk => exact False.elim hq'
    | cont => exact False.elim hq'
def tMakeS (C : Addr) (sp : Sp) (E : L2.St → XK) (t : TA) : TE := fun σ H Q => t σ H fun vs H1 => ∀ x dx, H1 x = none → H1 dx = none → dx ≠ x →
  sp (.ref x :: vs) (upd (upd H1 dx (.own x)) x (.ins C dx [])) (fun v H2 => v = .non ∧ Q (.ref x) H2) (E σ)
theorem pe_makeS (M : Mk X.K C f) (F : FnOk X.prog X.w X.K X.mg X.base CX k f fd ps sp) (hr : Room (k + 1) X.A) (hg : Gl X x) (hm : X.mg x = some (.ref C)) (hb : Binds X.K fd ps []) (hx : ∀ σ, PassesAt CX X σ (E σ))
    (ha : PA X (e :: es) t) (hdb : (x == ("__debug__" : Str)) = false) (he : starEach (e :: es) X.env = (false, eval e X.env) :: starEach es X.env) (hpl : (backTo pos (starEach es X.env)).any (·.1) = false) :
    PE X (.Call (.Name x p) (e :: es) [] pos) (tMakeS C sp E t) := by
  refine ⟨fun pins s σ H Q I h => ?_⟩
  refine wpAny_Call_Name_kw (ld_glob I hg hm ?_ hdb)
  refine PySem.W.callWith_K (h₀ := X.base) I.ok.mod.kin M.kp (thn (ha.run pos pins s σ H _ I h) fun us s1 ⟨vs, H1, I1, r, q⟩ => ⟨I1.kIn, ?_⟩) he hpl
  exact run_makeS M F hr hb (hx σ) I1 r q
end
end D
end

section
set_option maxRecDepth 100000
set_option maxHeartbeats 1000000
/-! D1e: one lemma for each kind of expression. -/
namespace D
open PySem PySem.Spec PyProof.Rows L2
theorem truL' {c : Cn} {W : WX} {σ : L2.St} {m : List Addr} {I H : Hp} {s : Store} (S : Stt c m I s H) {x : L} {u : V} (r : Rep c m I x u) {β : Type} {kk : Bool → M β} {post : List Addr → Hp → Hp → Store → β → Prop} (h : Rn c W σ m I H ((truM x >>= kk) s) post) :
    ∃ k, TruV c.K u H k ∧ Rn c W σ m I H (kk k s) post := by
  have key : ∃ k, truM x s = .ok k s ∧ TruV c.K u H k := by
    cases r with
    | non => exact ⟨false, rfl, rfl⟩
    | bl b => exact ⟨b, rfl, rfl⟩
    | int i => exact ⟨_, rfl, rfl⟩
    | str z =>
      by_cases hz : z.length ≤ szMax
      · refine ⟨_, ?_, ⟨sz_le hz, rfl⟩⟩
        show (if z.length ≤ szMax then (pure ((z.length : Int) != 0) : M Bool) else die) s = _
        rw [if_pos hz]
        rfl
      · exfalso
        have e : truM (.str z) s = .bad := by
          show (if z.length ≤ szMax then (pure ((z.length : Int) != 0) : M Bool) else die) s = _
          rw [if_neg hz]
          rfl
        rw [bnd_bad e] at h
        exact h
    | fn _ => exact (show False from h).elim
    | tup hp hr =>
      rename_i xs p vs
      refine ⟨!xs.isEmpty, rfl, .inr (.inl ⟨_, S.sq hp, ?_⟩)⟩
      cases hr <;> rfl
    | loc ha =>
      rename_i n a
      have l := S.lt ha
      have r1 := S.cell n a _ ha (List.getElem?_eq_getElem l)
      have e0 : truM (.loc n) s = (match s[n] with
        | .lst xs => (pure !xs.isEmpty : M Bool)
        | .dS kvs => pure !kvs.isEmpty
        | _ => die) s := by
        show (getC n >>= fun o => match o with
          | .lst xs => (pure !xs.isEmpty : M Bool)
          | .dS kvs => pure !kvs.isEmpty
          | _ => die) s = _
        rw [bnd_ok (getC_at (List.getElem?_eq_getElem l))]
      revert r1 e0
      cases s[n] with
      | lst xs =>
        intro r1 e0
        obtain ⟨vs, g1, q1⟩ := r1
        refine ⟨_, e0, .inl ⟨_, SqL.of g1, ?_⟩⟩
        cases q1 <;> rfl
      | dS kvs =>
        intro r1 e0
        obtain ⟨vs, g1, q1⟩ := r1
        refine ⟨_, e0, .inr (.inr ⟨_, g1, ?_⟩)⟩
        cases q1 <;> rfl
      | _ =>
        intro r1 e0
        rw [bnd_bad (show truM (.loc n) s = .bad from e0)] at h
        exact (show False from h).elim
  obtain ⟨k, e, t⟩ := key
  rw [bnd_ok e] at h
  exact ⟨k, t, h⟩
section
variable {G : Glb} {F : Fns} {n k : Nat} {N : List Str} {sc : Scope} {W : WX} {X : Cx}
abbrev DEn (G : Glb) (F : Fns) (n : Nat) (X : Cx) (W : WX) (d : DE) : TE := rdE (cOf X) W (den G F n d)
abbrev DTn (G : Glb) (F : Fns) (n : Nat) (X : Cx) (W : WX) (d : DE) : TT := rdT (cOf X) W (fun e => den G F n d e >>= truM)
theorem l_var (xe : XE0 G F k N sc W X) {i : Nat} {x : Str} {pos : Pos} (h1 : N[i]? = some x) (h2 : visB sc x = true) (h3 : nmB x = true) : PE X (.Name x pos) (DEn G F n X W (.var i)) := by
  obtain ⟨d1, d2, _⟩ := nmB_d h3
  refine (pe_var (i := i) (by rw [xe.hN]; exact h1) (xe.vis h2) d1 d2).imp fun σ H Q ⟨m, I, e, s, S, E, h⟩ => ?_
  obtain ⟨a, e1, q⟩ := rn_ofO (o := (e[i]?).join) S h
  have e2 : e[i]? = some (some a) := by
    cases q2 : e[i]? with
    | none => rw [q2] at e1; cases e1
    | some o => rw [q2] at e1; rw [show o = some a from e1]
  obtain ⟨v, e3, r⟩ := E.at_ i a e2
  exact ⟨v, e3, q v r⟩
theorem rd_pure {c : Cn} {v : L} {u : V} (hr : ∀ m I, Rep c m I v u) {σ : L2.St} {H : Hp} {Q : VK} (h : rdE c W (fun _ => pure v) σ H Q) : Q u H := by
  obtain ⟨m, I, e, s, S, E, h⟩ := h
  exact Rn.pure S h u (hr m I)
theorem l_cst {v : L} {u : V} (hr : ∀ m I, Rep (cOf X) m I v u) {e : Expr} (h : PE X e (tC u)) : PE X e (DEn G F n X W (.cst v)) := h.imp fun σ H Q h => rd_pure hr h
theorem l_glb (xe : XE0 G F k N sc W X) {x : Str} {pos : Pos} (h2 : glB sc x = true) (h3 : nmB x = true) : PE X (.Name x pos) (DEn G F n X W (.glb x)) := by
  obtain ⟨d1, d2, _⟩ := nmB_d h3
  cases e : G.con x with
  | none =>
    refine ⟨fun pins s σ H Q _ h => ?_⟩
    obtain ⟨m, I, ev, st, S, E, h⟩ := h
    have h' : Rn (cOf X) W σ m I H (ofO (G.con x) st) (Pv (cOf X) Q) := h
    rw [e] at h'
    exact h'.elim
  | some v =>
    obtain ⟨u, w, hm, r, hr⟩ := xe.fx.con x v e
    refine (pe_glob (xe.gl h2) hm r d1).imp fun σ H Q h => ?_
    obtain ⟨m, I, ev, st, S, E, h⟩ := h
    have h' : Rn (cOf X) W σ m I H (ofO (G.con x) st) (Pv (cOf X) Q) := h
    rw [e] at h'
    exact Rn.pure S h' w (hr m I)
theorem l_neg {a : DE} {x : Expr} {pos : Pos} (ha : PE X x (DEn G F n X W a)) : PE X (.UnaryOp .USub x pos) (DEn G F n X W (.neg a)) := (pe_un un_neg ha).imp fun σ H Q ⟨m, I, e, s, S, E, h⟩ =>
  rdE_bind (k := fun x _ => negM x) S E h fun m1 I1 H1 s1 x u e1 S1 E1 ru h1 => by
    cases ru with
    | int i => exact ⟨i, rfl, Rn.pure S1 h1 _ (.int _)⟩
    | _ => exact h1.elim
theorem l_notV {a : DE} {x : Expr} {pos : Pos} (ha : PE X x (DEn G F n X W a)) : PE X (.UnaryOp .Not x pos) (DEn G F n X W (.not a)) := (pe_notT ha).imp fun σ H Q ⟨m, I, e, s, S, E, h⟩ =>
  rdE_bind (k := fun x _ => truM x >>= fun b => pure (L.bl !b)) S E h fun m1 I1 H1 s1 x u e1 S1 E1 ru h1 => by
    obtain ⟨b, t, h2⟩ := truL' S1 ru h1
    exact ⟨b, t, Rn.pure S1 h2 _ (.bl _)⟩
theorem rdT_tru {c : Cn} {f : Env → M L} {σ : L2.St} {H : Hp} {Q : Bool → Hp → Prop} (h : rdT c W (fun e => f e >>= truM) σ H Q) : rdE c W f σ H fun x H' => ∃ b, TruV c.K x H' b ∧ Q b H' := by
  obtain ⟨m, I, e, s, S, E, h⟩ := h
  refine rdE_bind (k := fun x _ => truM x) S E h fun m1 I1 H1 s1 x u e1 S1 E1 ru h1 => ?_
  have h2 : Rn c W σ m1 I1 H1 ((truM x >>= pure) s1) (Pb Q) := by
    have e : (truM x >>= pure) s1 = truM x s1 := by
      cases q : truM x s1 with
      | ok a s2 => rw [bnd_ok q] <;> rfl
      | ex c p s2 => rw [bnd_ex q]
      | bad => rw [bnd_bad q]
    rw [e]
    exact h1
  obtain ⟨b, t, h3⟩ := truL' S1 ru h2
  exact ⟨b, t, Rn.pure S1 h3⟩
theorem t_plain {a : DE} {x : Expr} (hp : isPlainT x = true) (ha : PE X x (DEn G F n X W a)) : PT X x (DTn G F n X W a) := (pt_truth ha (plain_t hp)).imp fun σ H Q h => rdT_tru h
theorem pure_bnd {α β : Type} {a : α} {f : α → M β} {s : Store} : ((pure a : M α) >>= f) s = f a s := rfl
theorem bnd_asc {α β γ : Type} {x : M α} {f : α → M β} {g : β → M γ} {s : Store} : ((x >>= f) >>= g) s = (x >>= fun a => f a >>= g) s := by
  cases q : x s with
  | ok a s2 =>
    rw [bnd_ok q]
    cases q2 : f a s2 with
    | ok b s3 => rw [bnd_ok (x := x >>= f) (a := b) (s' := s3) (by rw [bnd_ok q, q2]), bnd_ok q2]
    | ex c p s3 => rw [bnd_ex (x := x >>= f) (c := c) (p := p) (s' := s3) (by rw [bnd_ok q, q2]), bnd_ex q2]
    | bad => rw [bnd_bad (x := x >>= f) (by rw [bnd_ok q, q2]), bnd_bad q2]
  | ex c p s2 => rw [bnd_ex q, bnd_ex (x := x >>= f) (c := c) (p := p) (s' := s2) (by rw [bnd_ex q])]
  | bad => rw [bnd_bad q, bnd_bad (x := x >>= f) (by rw [bnd_bad q])]
theorem bnd_congr {α β : Type} {x : M α} {f g : α → M β} {s : Store} (h : ∀ a s, f a s = g a s) : (x >>= f) s = (x >>= g) s := by
  have e : f = g := funext fun a => funext fun s => h a s
  rw [e]
theorem rdT_eq {c : Cn} {f g : Env → M Bool} (e : ∀ ev s, f ev s = g ev s) {σ : L2.St} {H : Hp} {Q : Bool → Hp → Prop} (h : rdT c W f σ H Q) : rdT c W g σ H Q := by
  have : f = g := funext fun ev => funext fun s => e ev s
  rw [← this]; exact h
theorem rdE_eq {c : Cn} {f g : Env → M L} (e : ∀ ev s, f ev s = g ev s) {σ : L2.St} {H : Hp} {Q : VK} (h : rdE c W f σ H Q) : rdE c W g σ H Q := by
  have : f = g := funext fun ev => funext fun s => e ev s
  rw [← this]; exact h
theorem l_notT {a : DE} {x : Expr} {pos : Pos} (ha : PT X x (DTn G F n X W a)) : PT X (.UnaryOp .Not x pos) (DTn G F n X W (.not a)) := (pt_not ha).imp fun σ H Q h => by
  have h' : rdT (cOf X) W (fun e => (den G F n a e >>= truM) >>= fun b => pure !b) σ H Q := rdT_eq (fun ev s => by
    rw [show den G F n (.not a) ev = (den G F n a ev >>= fun x => truM x >>= fun b => pure (.bl !b)) from rfl, bnd_asc, bnd_asc]
    refine bnd_congr fun x s => ?_
    rw [bnd_asc]
    rfl) h
  obtain ⟨m, I, e, s, S, E, h⟩ := h'
  exact rdT_bind (k := fun b _ => pure !b) S E h fun m1 I1 H1 s1 b e1 S1 E1 h1 => Rn.pure S1 h1
theorem l_andV {a b : DE} {x y : Expr} {r : List Expr} {pos : Pos} (ha : PE X x (DEn G F n X W a)) (hb : PE X (.BoolOp .And (y :: r) pos) (DEn G F n X W b)) : PE X (.BoolOp .And (x :: y :: r) pos) (DEn G F n X W (.and a b)) :=
  (pe_andT ha hb).imp fun σ H Q ⟨m, I, e, s, S, E, h⟩ =>
  rdE_bind (k := fun x e => truM x >>= fun t => if t then den G F n b e else pure x) S E h fun m1 I1 H1 s1 x u e1 S1 E1 ru h1 => by
    obtain ⟨t, tv, h2⟩ := truL' S1 ru h1
    refine ⟨t, tv, ?_⟩
    cases t with
    | true => exact ⟨m1, I1, e, s1, S1, E1, h2⟩
    | false => exact Rn.pure S1 h2 _ ru
theorem l_orV {a b : DE} {x y : Expr} {r : List Expr} {pos : Pos} (ha : PE X x (DEn G F n X W a)) (hb : PE X (.BoolOp .Or (y :: r) pos) (DEn G F n X W b)) : PE X (.BoolOp .Or (x :: y :: r) pos) (DEn G F n X W (.or a b)) :=
  (pe_orT ha hb).imp fun σ H Q ⟨m, I, e, s, S, E, h⟩ =>
  rdE_bind (k := fun x e => truM x >>= fun t => if t then pure x else den G F n b e) S E h fun m1 I1 H1 s1 x u e1 S1 E1 ru h1 => by
    obtain ⟨t, tv, h2⟩ := truL' S1 ru h1
    refine ⟨t, tv, ?_⟩
    cases t with
    | true => exact Rn.pure S1 h2 _ ru
    | false => exact ⟨m1, I1, e, s1, S1, E1, h2⟩
theorem tru_det {x : L} {s : Store} : (∃ t, truM x s = .ok t s) ∨ truM x s = .bad := by
  cases x with
  | non => exact .inl ⟨_, rfl⟩
  | bl b => exact .inl ⟨_, rfl⟩
  | int i => exact .inl ⟨_, rfl⟩
  | tup xs => exact .inl ⟨_, rfl⟩
  | fn x => exact .inr rfl
  | str z =>
    by_cases hz : z.length ≤ szMax
    · refine .inl ⟨(z.length : Int) != 0, ?_⟩
      show (if z.length ≤ szMax then (pure ((z.length : Int) != 0) : M Bool) else die) s = _
      rw [if_pos hz]
      rfl
    · refine .inr ?_
      show (if z.length ≤ szMax then (pure ((z.length : Int) != 0) : M Bool) else die) s = _
      rw [if_neg hz]
      rfl
  | loc n =>
    cases e : s[n]? with
    | none =>
      refine .inr ?_
      show (getC n >>= _) s = _
      rw [bnd_bad (getC_no e)]
    | some o =>
      have e0 : truM (.loc n) s = (match o with
        | .lst xs => (pure !xs.isEmpty : M Bool)
        | .dS kvs => pure !kvs.isEmpty
        | _ => die) s := by
        show (getC n >>= fun o => match o with
          | .lst xs => (pure !xs.isEmpty : M Bool)
          | .dS kvs => pure !kvs.isEmpty
          | _ => die) s = _
        rw [bnd_ok (getC_at e)]
      rw [e0]
      cases o with
      | lst xs => exact .inl ⟨_, rfl⟩
      | dS xs => exact .inl ⟨_, rfl⟩
      | _ => exact .inr rfl
theorem and_tru {a b : DE} {ev : Env} {s : Store} : (den G F n (.and a b) ev >>= truM) s = ((den G F n a ev >>= truM) >>= fun t => if t then den G F n b ev >>= truM else pure false) s := by
  rw [show den G F n (.and a b) ev = (den G F n a ev >>= fun x => truM x >>= fun t => if t then den G F n b ev else pure x) from rfl, bnd_asc, bnd_asc]
  refine bnd_congr fun x s => ?_
  rw [bnd_asc]
  rcases tru_det (x := x) (s := s) with ⟨t, e⟩ | e
  · rw [bnd_ok e, bnd_ok e]
    cases t with
    | true => rfl
    | false =>
      show truM x s = .ok false s
      exact e
  · rw [bnd_bad e, bnd_bad e]
theorem or_tru {a b : DE} {ev : Env} {s : Store} : (den G F n (.or a b) ev >>= truM) s = ((den G F n a ev >>= truM) >>= fun t => if t then pure true else den G F n b ev >>= truM) s := by
  rw [show den G F n (.or a b) ev = (den G F n a ev >>= fun x => truM x >>= fun t => if t then pure x else den G F n b ev) from rfl, bnd_asc, bnd_asc]
  refine bnd_congr fun x s => ?_
  rw [bnd_asc]
  rcases tru_det (x := x) (s := s) with ⟨t, e⟩ | e
  · rw [bnd_ok e, bnd_ok e]
    cases t with
    | false => rfl
    | true =>
      show truM x s = .ok true s
      exact e
  · rw [bnd_bad e, bnd_bad e]
theorem _root_.L2.PW.imp {X : Cx} {e : Expr} {t t' : TT} (h : PW X e t) (i : ∀ σ H Q, t' σ H Q → t σ H Q) : PW X e t' := ⟨fun w pins s σ H Q I q => h.run w pins s σ H Q I (i σ H Q q)⟩
theorem l_andT {a b : DE} {x y : Expr} {r : List Expr} {pos : Pos} (ha : PT X x (DTn G F n X W a)) (hb : PW X (.BoolOp .And (y :: r) pos) (DTn G F n X W b)) : PW X (.BoolOp .And (x :: y :: r) pos) (DTn G F n X W (.and a b)) :=
  (pw_and ha hb).imp fun σ H Q h => by
    obtain ⟨m, I, e, s, S, E, h⟩ := rdT_eq (fun ev s => and_tru) h
    refine rdT_bind (k := fun t e => if t then den G F n b e >>= truM else pure false) S E h fun m1 I1 H1 s1 t e1 S1 E1 h1 => ?_
    cases t with
    | true => exact ⟨m1, I1, e, s1, S1, E1, h1⟩
    | false => exact Rn.pure S1 h1
theorem l_orT {a b : DE} {x y : Expr} {r : List Expr} {pos : Pos} (ha : PT X x (DTn G F n X W a)) (hb : PW X (.BoolOp .Or (y :: r) pos) (DTn G F n X W b)) : PW X (.BoolOp .Or (x :: y :: r) pos) (DTn G F n X W (.or a b)) :=
  (pw_or ha hb).imp fun σ H Q h => by
    obtain ⟨m, I, e, s, S, E, h⟩ := rdT_eq (fun ev s => or_tru) h
    refine rdT_bind (k := fun t e => if t then pure true else den G F n b e >>= truM) S E h fun m1 I1 H1 s1 t e1 S1 E1 h1 => ?_
    cases t with
    | true => exact Rn.pure S1 h1
    | false => exact ⟨m1, I1, e, s1, S1, E1, h1⟩
theorem l_ite {c a b : DE} {x y z : Expr} {pos : Pos} (hc : PT X x (DTn G F n X W c)) (ha : PE X y (DEn G F n X W a)) (hb : PE X z (DEn G F n X W b)) : PE X (.IfExp x y z pos) (DEn G F n X W (.ite c a b)) :=
  (pe_ifExp hc ha hb).imp fun σ H Q h => by
    obtain ⟨m, I, e, s, S, E, h⟩ := rdE_eq (g := fun e => (den G F n c e >>= truM) >>= fun t => if t then den G F n a e else den G F n b e) (fun ev s => by rw [bnd_asc]; rfl) h
    refine rdT_bind (k := fun t e => if t then den G F n a e else den G F n b e) S E h fun m1 I1 H1 s1 t e1 S1 E1 h1 => ?_
    cases t with
    | true => exact ⟨m1, I1, e, s1, S1, E1, h1⟩
    | false => exact ⟨m1, I1, e, s1, S1, E1, h1⟩
end
end D
end

section
set_option maxRecDepth 100000
set_option maxHeartbeats 1000000
/-! D1f: displays, comparisons, places, fields, calls. -/
namespace D
open PySem PySem.Spec PyProof.Rows L2
section
variable {G : Glb} {F : Fns} {n k : Nat} {N : List Str} {sc : Scope} {W : WX} {X : Cx}
abbrev DAn (G : Glb) (F : Fns) (n : Nat) (X : Cx) (W : WX) (d : DEs) : TA := rdA (cOf X) W (dens G F n d)
theorem a_nil : PA X [] (DAn G F n X W .nil) := pa_nil.imp fun σ H Q ⟨m, I, e, s, S, E, h⟩ => Rn.pure S h _ .nil
theorem a_cons {a : DE} {r : DEs} {x : Expr} {xs : List Expr} (hs : isStar x = false) (ha : PE X x (DEn G F n X W a)) (hr : PA X xs (DAn G F n X W r)) : PA X (x :: xs) (DAn G F n X W (.cons a r)) :=
  (pa_cons ha hr (star_cons hs)).imp fun σ H Q ⟨m, I, e, s, S, E, h⟩ =>
  rdE_bind (k := fun x e => dens G F n r e >>= fun xs => pure (x :: xs)) S E h fun m1 I1 H1 s1 x u e1 S1 E1 ru h1 =>
  rdA_bind (k := fun xs _ => pure (x :: xs)) S1 E1 h1 fun m2 I2 H2 s2 y w e2 S2 E2 rw_ h2 => Rn.pure S2 h2 _ (.cons (ru.mono e2) rw_)
theorem l_tup {es : DEs} {xs : List Expr} {j : Nat} {pos : Pos} (ha : PA X xs (DAn G F n X W es)) : PE X (.Tuple xs j pos) (DEn G F n X W (.tup es)) := (pe_tup ha).imp fun σ H Q ⟨m, I, e, s, S, E, h⟩ =>
  rdA_bind (k := fun vs _ => if vs.length ≤ szMax then pure (L.tup vs) else die) S E h fun m1 I1 H1 s1 x u e1 S1 E1 ru h1 => by
    obtain ⟨hz, h1⟩ := ite_die h1
    exact ⟨by rw [← ru.length]; exact sz_le hz, S1.newTv ru fun m' I' H' e S' u ru => h1 m' I' H' e S' u ru⟩
theorem l_lst {es : DEs} {xs : List Expr} {pos : Pos} (ha : PA X xs (DAn G F n X W es)) : PE X (.List xs pos) (DEn G F n X W (.lst es)) := (pe_lst ha).imp fun σ H Q ⟨m, I, e, s, S, E, h⟩ =>
  rdA_bind (k := fun vs _ => if vs.length ≤ szMax then alloc (.lst vs) else die) S E h fun m1 I1 H1 s1 x u e1 S1 E1 ru h1 => by
    obtain ⟨hz, h1⟩ := ite_die h1
    exact ⟨by rw [← ru.length]; exact sz_le hz, S1.newLv ru h1⟩
theorem Stt.newKv {c : Cn} {W : WX} {σ : L2.St} {m : List Addr} {I H : Hp} {s : Store} (S : Stt c m I s H) {xs : List (Str × L)} {vs : List (Key × V)} (r : RepK c m I xs vs) {Q : VK} (h : Rn c W σ m I H (alloc (.dS xs) s) (Pv c Q)) : ∀ p, H p = none → Q (.ref p) (upd H p (.dK vs)) := fun p hp => by
  obtain ⟨e1, S1⟩ := S.newC (o := .dK vs) (b := .dS xs) hp (fun t => ⟨vs, upd_same, r.mono' (fun k x h => by rw [List.getElem?_append_left (List.getElem?_eq_some_iff.mp h).1]; exact h) fun _ _ h => h⟩)
  have q := h _ _ _ e1 S1
  refine q _ (.loc ?_)
  rw [← S.len, List.getElem?_append_right (Nat.le_refl _), Nat.sub_self]
  rfl
theorem l_dS0 {pos : Pos} : PE X (.Dict [] [] pos) (DEn G F n X W .dS0) := pe_dnewK.imp fun σ H Q ⟨m, I, e, s, S, E, h⟩ => S.newKv .nil h
/-! ### comparisons -/
abbrev R2' := R2
theorem l_bin {op : Operator} {r : R2} {g : L → L → M L} {a b d : DE} (ho : OpR X (binaryOp op) r) (hv : OpV (cOf X) r g) (hd : ∀ e, den G F n d e = (do g (← den G F n a e) (← den G F n b e))) {x y : Expr} {pos : Pos} (ha : PE X x (DEn G F n X W a)) (hb : PE X y (DEn G F n X W b)) :
    PE X (.BinOp x op y pos) (DEn G F n X W d) := (pe_bin ho hv ha hb).imp fun σ H Q h => rdE_eq (fun ev s => by rw [hd]) h
theorem l_cmp {op : CmpOp} {r : R2} {g : L → L → M L} {a b d : DE} (ho : OpR X (compareOp op) r) (hv : OpV (cOf X) r g) (hd : ∀ e, den G F n d e = (do g (← den G F n a e) (← den G F n b e))) {x y : Expr} {pos : Pos} (hm : behindInMarks op y = false) (ha : PE X x (DEn G F n X W a)) (hb : PE X y (DEn G F n X W b)) :
    PE X (.Compare x [op] [y] pos) (DEn G F n X W d) := (pe_cmp2 ho hv hm ha hb).imp fun σ H Q h => rdE_eq (fun ev s => by rw [hd]) h
/-- gives a bool always -/
def BlV (g : L → L → M L) : Prop := ∀ x y s v s', g x y s = .ok v s' → ∃ b, v = .bl b
/-- as a test -/
theorem t_cmp {op : CmpOp} {r : R2} {g : L → L → M L} {a b d : DE} (ho : OpR X (compareOp op) r) (hv : OpV (cOf X) r g) (hbl : BlV g) (hd : ∀ e, den G F n d e = (do g (← den G F n a e) (← den G F n b e))) {x y : Expr} {pos : Pos} (hm : behindInMarks op y = false) (ha : PE X x (DEn G F n X W a)) (hb : PE X y (DEn G F n X W b)) :
    PT X (.Compare x [op] [y] pos) (DTn G F n X W d) := (pt_cmpR ho ha hb hm).imp fun σ H Q h => by
  have h' : rdT (cOf X) W (fun e => den G F n a e >>= fun x => den G F n b e >>= fun y => g x y >>= truM) σ H Q := rdT_eq (fun ev s => by
    rw [hd, bnd_asc]
    refine bnd_congr fun x s => ?_
    rw [bnd_asc]) h
  obtain ⟨m, I, e, s, S, E, h⟩ := h'
  refine rdE_bind (k := fun x e => den G F n b e >>= fun y => g x y >>= truM) S E h fun m1 I1 H1 s1 x u e1 S1 E1 ru h1 => rdE_bind (k := fun y _ => g x y >>= truM) S1 E1 h1 fun m2 I2 H2 s2 y w e2 S2 E2 rw_ h2 => ?_
  refine hv W σ m2 I2 H2 s2 x y u w _ S2 (ru.mono e2) rw_ ?_
  have h3 := h2
  cases q : g x y s2 with
  | ok v s3 =>
    rw [bnd_ok q] at h3
    obtain ⟨b, rfl⟩ := hbl _ _ _ _ _ q
    intro m' I' H' e' S' z rz
    cases rz
    exact ⟨b, rfl, h3 m' I' H' e' S'⟩
  | ex cc p s3 =>
    rw [bnd_ex q] at h3
    exact h3
  | bad =>
    rw [bnd_bad q] at h3
    exact h3
theorem bl_lt : BlV ltM := by
  intro x y s v s' h
  cases x <;> first | (exact (nomatch (h : R.bad = R.ok v s'))) | skip
  cases y <;> first | (exact (nomatch (h : R.bad = R.ok v s'))) | skip
  cases h
  exact ⟨_, rfl⟩
theorem bl_le : BlV leM := by
  intro x y s v s' h
  cases x <;> first | (exact (nomatch (h : R.bad = R.ok v s'))) | skip
  cases y <;> first | (exact (nomatch (h : R.bad = R.ok v s'))) | skip
  cases h
  exact ⟨_, rfl⟩
theorem bl_gt : BlV (fun x y => ltM y x) := fun x y s v s' h => bl_lt y x s v s' h
theorem bl_ge : BlV (fun x y => leM y x) := fun x y s v s' h => bl_le y x s v s' h
theorem bl_eq {hs : FK → Bool} : BlV (eqqM hs F) := by
  intro x y s v s' h
  unfold eqqM at h
  split at h
  · split at h
    · split at h
      · cases h; exact ⟨_, rfl⟩
      · cases h
    · cases h
  · split at h
    · cases h; exact ⟨_, rfl⟩
    · cases h
/-- == of two instances, by the text's own -/
def rInsEq (X : Cx) (CX : CXT) (k : Nat) : R2 := fun x y H Q => ∃ a b C dx dy fs gs f fd ps sp, x = .ref a ∧ y = .ref b ∧ H a = some (.ins C dx fs) ∧ H b = some (.ins C dy gs) ∧ Meth X.K C "__eq__" f ∧ FnOk X.prog X.w X.K X.mg X.base CX k f fd ps sp ∧ Binds X.K fd ps [] ∧
  sp [.ref a, .ref b] H (fun v H' => (∃ t, v = .bl t) ∧ Q v H') E0
theorem op_insEq {CX : CXT} {k : Nat} (hr : Room k X.A) (hx : Passes CX X E0) : OpR X (compareOp .Eq) (rInsEq X CX k) := by
  intro pins s σ H x y u v Q I rx ry h
  obtain ⟨a, b, C, dx, dy, fs, gs, f, fd, ps, sp, rfl, rfl, ha, hb', M, F, hb, hsp⟩ := h
  cases rx
  cases ry
  show wpAny (model X.prog X.w) X.A (richCompare .Eq _ _) (EP X pins σ Q) X.xe s
  obtain ⟨mA, J, _⟩ := ins_get I.hok ha
  obtain ⟨mB, J', _⟩ := ins_get I.hok hb'
  obtain ⟨od, J, _⟩ := J.look
  obtain ⟨od', J', _⟩ := J'.look
  obtain ⟨m, hF⟩ := I.fr
  refine PySem.W.cmp_K (op := .Eq) (tb := .ref C) hr.units0 hF I.ok.mod.kin J J'.type (by simp [PySem.W.notFirst]) M.at_ M.fn ?_
  have hl := F.len _ _ _ _ hsp
  have r2 : Vals [V.ref a, V.ref b] [Value.ref a, Value.ref b] := .cons rfl (.cons rfl .nil)
  refine wpAny_call (codeAny_mono (F.run X.A X.stack s H ⟨[.ref a, .ref b], []⟩ [.ref a, .ref b] [.ref a, .ref b] _ E0 hr I.env0 (by
    have := hb s [.ref a, .ref b] I.kIn (by simpa using hl)
    simpa using this) r2 hsp) fun r s' hq => ?_)
  cases r with
  | error e => exact hx pins σ H s e s' I hq
  | ok fl =>
    cases fl with
    | ret w =>
      obtain ⟨z, H', I', rz, ⟨t, ez⟩, q⟩ := I.after hq
      subst ez
      cases rz
      exact ⟨.bl t, H', I', rfl, q⟩
    | next => exact False.elim hq
    | brk => exact False.elim hq
    | cont => exact False.elim hq
def rEqL (X : Cx) (k : Nat) : R2 := fun x y H Q => rEqD X.K x y H Q ∨ rInsEq X (L2.CX X.prog X.w) k x y H Q
theorem op_eqL (hr : Room k X.A) (hu : X.A.units + 64 < cLine) : OpR X (compareOp .Eq) (rEqL X k) := OpR.or (op_eqD hu) (op_insEq hr passL)
theorem insOf_rep {c : Cn} {m : List Addr} {I H : Hp} {s : Store} (S : Stt c m I s H) {x : L} {u : V} {z : Str} (h : insOf s x = some z) (r : Rep c m I x u) : ∃ a C dx fs, u = .ref a ∧ ClsOk c z C ∧ H a = some (.ins C dx fs) := by
  cases r with
  | loc hn =>
    rename_i j a
    have h' : (match s[j]? with
      | some (.ins c _) => some c
      | _ => none) = some z := h
    have l := S.lt hn
    rw [List.getElem?_eq_getElem l] at h'
    have r1 := S.cell j a _ hn (List.getElem?_eq_getElem l)
    revert h' r1
    cases s[j] with
    | ins c2 fs =>
      intro h' r1
      cases h'
      obtain ⟨C, dx, ws, c1, h1, _⟩ := r1
      exact ⟨a, C, dx, ws, rfl, c1, h1⟩
    | _ => intro h'; cases h'
  | _ => cases h
theorem clsOk_inj {c : Cn} {x : Str} {C C' : Addr} (h : ClsOk c x C) (h' : ClsOk c x C') : C = C' := by
  have e := h.g.symm.trans h'.g
  cases e
  rfl
theorem ov_eq (xe : XE0 G F k N sc W X) : OpV (cOf X) (rEqL X k) (eqqM G.has F) := by
  intro W' σ m I H s x y u w Q S rx ry h
  unfold eqqM at h
  split at h
  · rename_i c1 c2 h1 h2
    split at h
    · rename_i e
      obtain ⟨e, hs⟩ := e
      subst e
      refine .inr ?_
      obtain ⟨a, C, dx, fs, rfl, k1, g1⟩ := insOf_rep S h1 rx
      obtain ⟨b, C', dy, gs, rfl, k2, g2⟩ := insOf_rep S h2 ry
      have eC := clsOk_inj k1 k2
      subst eC
      obtain ⟨C2, f, k3, M, fd, ps, FO, hb, kp, ar⟩ := xe.fx.me c1 "__eq__" hs
      have eC := clsOk_inj k1 k3
      subst eC
      refine ⟨a, b, C, dx, dy, fs, gs, f, fd, ps, _, rfl, rfl, g1, g2, M, FO, hb, ?_⟩
      have hlen : ([V.ref a, V.ref b] : List V).length = ps.length := by
        refine (Eq.trans (by rfl) (ar [x, y] s fun z => ?_) : _)
        rw [z] at h
        exact h
      refine ⟨hlen, m, I, s, [x, y], S, .cons rx (.cons ry .nil), ?_⟩
      revert h
      cases F (c1, some "__eq__") [x, y] s with
      | ok v s' =>
        cases v with
        | bl r => exact fun h m' I' H' e S' u ru => by cases ru; exact ⟨⟨r, rfl⟩, h m' I' H' e S' _ (.bl r)⟩
        | _ => exact fun h => h.elim
      | _ => exact fun h => h.elim
    · exact h.elim
  · split at h
    · rename_i r s' q
      refine .inl ?_
      have h4 : eqD s x y = some r ∧ s' = s := by
        unfold eqM at q
        cases e : eqD s x y with
        | none => rw [e] at q; cases q
        | some b => rw [e] at q; cases q; exact ⟨rfl, rfl⟩
      obtain ⟨h4, rfl⟩ := h4
      exact eqD_rd S h4 rx ry (h m I H Ext.rfl' S _ (.bl r))
    · exact h.elim
end
end D
end

section
set_option maxRecDepth 100000
set_option maxHeartbeats 1000000
/-! D1g: membership, is None, chains, places, fields, calls of defs. -/
namespace D
open PySem PySem.Spec PyProof.Rows L2
section
variable {G : Glb} {F : Fns} {n k : Nat} {N : List Str} {sc : Scope} {W : WX} {X : Cx}
/-! ### is None -/
theorem non_iff {c : Cn} {m : List Addr} {I : Hp} {x : L} {u : V} (r : Rep c m I x u) : decide (u = V.non) = decide (x = L.non) := by
  cases r <;> first | rfl | (rw [decide_eq_false (by intro z; cases z), decide_eq_false (by intro z; cases z)])
theorem ov_isn : OpV (cOf X) (fun x y H Q => y = .non ∧ Q (.bl (decide (x = .non))) H) (fun x y => if y = L.non then pure (.bl (decide (x = L.non))) else die) := by
  intro W' σ m I H s x y u w Q S rx ry h
  obtain ⟨hz, h⟩ := ite_die h
  subst hz
  cases ry
  refine ⟨rfl, ?_⟩
  show Q (.bl (decide (u = V.non))) H
  rw [non_iff rx]
  exact Rn.pure S h _ (.bl _)
theorem ov_isnn : OpV (cOf X) (fun x y H Q => y = .non ∧ Q (.bl (!decide (x = .non))) H) (fun x y => if y = L.non then pure (.bl (!decide (x = L.non))) else die) := by
  intro W' σ m I H s x y u w Q S rx ry h
  obtain ⟨hz, h⟩ := ite_die h
  subst hz
  cases ry
  refine ⟨rfl, ?_⟩
  show Q (.bl (!decide (u = V.non))) H
  rw [non_iff rx]
  exact Rn.pure S h _ (.bl _)
theorem bl_ite {P : Prop} [Decidable P] {b : Bool} {s s' : Store} {v : L} (h : (if P then (pure (.bl b) : M L) else die) s = .ok v s') : ∃ b, v = .bl b := by
  by_cases p : P
  · rw [if_pos p] at h; cases h; exact ⟨_, rfl⟩
  · rw [if_neg p] at h; cases h
theorem den_isn {a : DE} (e : Env) : den G F n (.isn a) e = (do (fun x y => if y = L.non then pure (.bl (decide (x = L.non))) else die) (← den G F n a e) (← den G F n (.cst .non) e)) := by
  funext s
  show (den G F n a e >>= fun x => pure (L.bl (decide (x = L.non)))) s = (den G F n a e >>= fun x => (pure L.non : M L) >>= fun y => if y = L.non then pure (L.bl (decide (x = L.non))) else die) s
  refine bnd_congr fun x s => ?_
  rw [pure_bnd, if_pos rfl]
theorem den_isnn {a : DE} (e : Env) : den G F n (.isnn a) e = (do (fun x y => if y = L.non then pure (.bl (!decide (x = L.non))) else die) (← den G F n a e) (← den G F n (.cst .non) e)) := by
  funext s
  show (den G F n a e >>= fun x => pure (L.bl !(decide (x = L.non)))) s = (den G F n a e >>= fun x => (pure L.non : M L) >>= fun y => if y = L.non then pure (L.bl (!decide (x = L.non))) else die) s
  refine bnd_congr fun x s => ?_
  rw [pure_bnd, if_pos rfl]
/-! ### in -/
def rInL (X : Cx) : R2 := fun x y H Q => rIn X.K false x y H Q ∨ rInD X.K x y H Q ∨ (∃ a o, y = .ref a ∧ DGet H a x o ∧ Q (.bl o.isSome) H) ∨ ∃ (c : Nat) (z : Str), x = .str ⟨#[c]⟩ ∧ y = .str z ∧ Q (.bl (decide (c ∈ z.cps.toList))) H
def rNinL (X : Cx) : R2 := fun x y H Q => rIn X.K true x y H Q ∨ rNotInD X.K x y H Q ∨ (∃ a o, y = .ref a ∧ DGet H a x o ∧ Q (.bl (!o.isSome)) H) ∨ ∃ (c : Nat) (z : Str), x = .str ⟨#[c]⟩ ∧ y = .str z ∧ Q (.bl (!decide (c ∈ z.cps.toList))) H
theorem op_inDic (hu : X.A.units + 1 < cLine) : OpR X (compareOp .In) (fun x y H Q => ∃ a o, y = .ref a ∧ DGet H a x o ∧ Q (.bl o.isSome) H) := by
  intro pins s σ H x y v u Q I rx ry ⟨a, o, e, g, q⟩
  subst e
  cases ry
  exact d_in hu I g rx fun s' I' => ⟨.bl _, H, I', rfl, q⟩
theorem op_ninDic (hu : X.A.units + 1 < cLine) : OpR X (compareOp .NotIn) (fun x y H Q => ∃ a o, y = .ref a ∧ DGet H a x o ∧ Q (.bl (!o.isSome)) H) := by
  intro pins s σ H x y v u Q I rx ry ⟨a, o, e, g, q⟩
  subst e
  cases ry
  exact d_notIn hu I g rx fun s' I' => ⟨.bl _, H, I', rfl, q⟩
theorem op_inL (hu : X.A.units + 65 < cLine) : OpR X (compareOp .In) (rInL X) := OpR.or op_in_seq (OpR.or (op_inD hu) (OpR.or (op_inDic (by omega)) op_in_sign))
theorem op_ninL (hu : X.A.units + 65 < cLine) : OpR X (compareOp .NotIn) (rNinL X) := OpR.or op_notIn_seq (OpR.or (op_notInD hu) (OpR.or (op_ninDic (by omega)) op_notIn_sign))
/-- the answer of a membership, in all its ways -/
theorem in_run {c : Cn} {W : WX} {σ : L2.St} {m : List Addr} {I H : Hp} {s : Store} {kd : Str → Option (List (Str × L))} (hk : ∀ x, kd x = none) (S : Stt c m I s H) {x y : L} {u w : V} (rx : Rep c m I x u) (ry : Rep c m I y w) {post : List Addr → Hp → Hp → Store → Bool → Prop} (h : Rn c W σ m I H (inqM kd x y s) post) :
    (∃ p ys vs, w = .ref p ∧ SqT c.K H p vs ∧ Reps c m I ys vs ∧ Rn c W σ m I H (inF x ys s) post) ∨ (∃ p ys vs, w = .ref p ∧ H p = some (.lst vs) ∧ Reps c m I ys vs ∧ Rn c W σ m I H (inM x ys s) post) ∨
      (∃ a o b, w = .ref a ∧ DGet H a u o ∧ o.isSome = b ∧ post m I H s b) ∨ ∃ (j : Nat) (z : Str), u = .str ⟨#[j]⟩ ∧ w = .str z ∧ post m I H s (decide (j ∈ z.cps.toList)) := by
  cases ry with
  | tup hp hr => exact .inl ⟨_, _, _, rfl, S.sq hp, hr, h⟩
  | loc ha =>
    obtain ⟨o, e1, r1, h⟩ := Rn.getC S ha h
    cases o with
    | lst xs =>
      obtain ⟨vs, g1, q1⟩ := r1
      exact .inr (.inl ⟨_, _, _, rfl, g1, q1, h⟩)
    | dS kvs =>
      obtain ⟨ws, g1, q1⟩ := r1
      cases rx with
      | str z => exact .inr (.inr (.inl ⟨_, _, _, rfl, DGet.k (k := Sum.inr z) g1, q1.some z, Rn.pure S h⟩))
      | _ => exact h.elim
    | fS kvs =>
      obtain ⟨o, ws, g1, q1⟩ := r1
      cases rx with
      | str z => exact .inr (.inr (.inl ⟨_, _, _, rfl, .inl ⟨ws, Sum.inr z, .inr ⟨o, g1⟩, rfl, rfl⟩, q1.some z, Rn.pure S h⟩))
      | _ => exact h.elim
    | _ => exact h.elim
  | str z =>
    cases rx with
    | str cs =>
      obtain ⟨cs⟩ := cs
      have h' : Rn c W σ m I H ((match cs.toList with
        | [j] => (pure (decide (j ∈ z.cps.toList)) : M Bool)
        | _ => die) s) post := h
      cases e : cs.toList with
      | nil => rw [e] at h'; exact h'.elim
      | cons j r =>
        cases r with
        | cons _ _ => rw [e] at h'; exact h'.elim
        | nil =>
          rw [e] at h'
          refine .inr (.inr (.inr ⟨j, z, ?_, rfl, Rn.pure S h'⟩))
          have e2 : cs = #[j] := by
            rw [← Array.toList_inj]; exact e
          rw [e2]
    | _ => exact h.elim
  | _ => exact h.elim
theorem rn_ret {c : Cn} {W : WX} {σ : L2.St} {m : List Addr} {I H : Hp} {s : Store} {α β : Type} {x : M α} {f : α → β} {post : List Addr → Hp → Hp → Store → β → Prop} (h : Rn c W σ m I H ((x >>= fun a => pure (f a)) s) post) : Rn c W σ m I H (x s) fun m' I' H' s' a => post m' I' H' s' (f a) :=
  h.bind.mono fun m' I' H' s' a e S r => Rn.pure S r
theorem ov_in (hk : ∀ x, G.kd x = none) : OpV (cOf X) (rInL X) (fun x y => do return .bl (← inqM G.kd x y)) := by
  intro W' σ m I H s x y u w Q S rx ry h
  have h1 : Rn (cOf X) W' σ m I H (inqM G.kd x y s) fun m' I' H' s' b => Pv (cOf X) Q m' I' H' s' (L.bl b) := rn_ret (f := fun b => L.bl b) h
  rcases in_run hk S rx ry h1 with ⟨p, ys, vs, rfl, g, r, q⟩ | ⟨p, ys, vs, rfl, g, r, q⟩ | ⟨a, o, b, rfl, g, e, q⟩ | ⟨j, z, e1, rfl, q⟩
  · exact .inl (inF_rd (neg := false) S rx g r q fun b q => q _ (.bl b))
  · obtain ⟨d, ds, a1, a2, a3, a4, a5⟩ := inM_rd S rx g r q (Q := fun b => Q (.bl b) H) fun b q => q _ (.bl b)
    exact .inr (.inl ⟨d, ds, a1, a2, a3, a4, a5⟩)
  · exact .inr (.inr (.inl ⟨a, o, rfl, g, by rw [e]; exact q _ (.bl b)⟩))
  · exact .inr (.inr (.inr ⟨j, z, e1, rfl, q _ (.bl _)⟩))
theorem ov_nin (hk : ∀ x, G.kd x = none) : OpV (cOf X) (rNinL X) (fun x y => do return .bl !(← inqM G.kd x y)) := by
  intro W' σ m I H s x y u w Q S rx ry h
  have h1 : Rn (cOf X) W' σ m I H (inqM G.kd x y s) fun m' I' H' s' b => Pv (cOf X) Q m' I' H' s' (L.bl !b) := rn_ret (f := fun b => L.bl !b) h
  rcases in_run hk S rx ry h1 with ⟨p, ys, vs, rfl, g, r, q⟩ | ⟨p, ys, vs, rfl, g, r, q⟩ | ⟨a, o, b, rfl, g, e, q⟩ | ⟨j, z, e1, rfl, q⟩
  · exact .inl (inF_rd (neg := true) S rx g r q fun b q => q _ (.bl !b))
  · obtain ⟨d, ds, a1, a2, a3, a4, a5⟩ := inM_rd S rx g r q (Q := fun b => Q (.bl !b) H) fun b q => q _ (.bl !b)
    exact .inr (.inl ⟨d, ds, a1, a2, a3, a4, a5⟩)
  · exact .inr (.inr (.inl ⟨a, o, rfl, g, by rw [e]; exact q _ (.bl !b)⟩))
  · exact .inr (.inr (.inr ⟨j, z, e1, rfl, q _ (.bl _)⟩))
theorem bl_ret {x : M Bool} {f : Bool → Bool} {s s' : Store} {v : L} (h : (x >>= fun b => pure (L.bl (f b))) s = .ok v s') : ∃ b, v = .bl b := by
  cases q : x s with
  | ok b s2 =>
    rw [bnd_ok q] at h
    cases h
    exact ⟨_, rfl⟩
  | ex c p s2 => rw [bnd_ex q] at h; cases h
  | bad => rw [bnd_bad q] at h; cases h
/-! ### x != y -/
theorem ov_ne : OpV (cOf X) (rNeD X.K) (fun x y => do return .bl !(← eqM x y)) := by
  intro W' σ m I H s x y u w Q S rx ry h
  have h1 : Rn (cOf X) W' σ m I H (eqM x y s) fun m' I' H' s' b => Pv (cOf X) Q m' I' H' s' (L.bl !b) := rn_ret (f := fun b => L.bl !b) h
  obtain ⟨b, e, q⟩ := rn_eqM S h1
  exact neD_rd S e rx ry (q _ (.bl _))
/-! ### chains -/
def cmpD (o : Bool) (x y : L) : M L := if o then leM x y else ltM x y
def rCmpD (o : Bool) : R2 := rI0 fun i j => .bl (if o then decide (i ≤ j) else decide (i < j))
theorem op_cmpD (o : Bool) : OpR X (compareOp (if o then CmpOp.LtE else CmpOp.Lt)) (rCmpD o) := by
  cases o
  · exact op_lt
  · exact op_le
theorem ov_cmpD (o : Bool) : OpV (cOf X) (rCmpD o) (cmpD o) := by
  cases o
  · exact ov_lt
  · exact ov_le
theorem cmpD_int {o : Bool} {x y : L} {s : Store} : (∃ i j, x = .int i ∧ y = .int j ∧ cmpD o x y s = .ok (.bl (if o then decide (i ≤ j) else decide (i < j))) s) ∨ cmpD o x y s = .bad := by
  cases o <;> cases x <;> first | exact .inr rfl | (cases y <;> first | exact .inr rfl | exact .inl ⟨_, _, rfl, rfl, rfl⟩)
theorem chn_run {o1 o2 : Bool} {a b c : DE} {σ : L2.St} {H : Hp} {Q : VK} (h : DEn G F n X W (.chn o1 o2 a b c) σ H Q) : tChain (rCmpD o1) (rCmpD o2) (DEn G F n X W a) (DEn G F n X W b) (DEn G F n X W c) σ H Q := by
  obtain ⟨m, I, e, s, S, E, h⟩ := h
  refine rdE_bind (k := fun x e => den G F n b e >>= fun y => cmpD o1 x y >>= fun v => match v with
    | .bl true => den G F n c e >>= fun z => cmpD o2 y z
    | v => pure v) S E h fun m1 I1 H1 s1 x u e1 S1 E1 ru h1 => rdE_bind (k := fun y e => cmpD o1 x y >>= fun v => match v with
    | .bl true => den G F n c e >>= fun z => cmpD o2 y z
    | v => pure v) S1 E1 h1 fun m2 I2 H2 s2 y w e2 S2 E2 rw_ h2 => ?_
  rcases cmpD_int (o := o1) (x := x) (y := y) (s := s2) with ⟨i, j, rfl, rfl, q⟩ | q
  · rw [bnd_ok q] at h2
    cases ru
    cases rw_
    refine ⟨i, j, rfl, rfl, _, rfl, ?_⟩
    cases hb : (if o1 then decide (i ≤ j) else decide (i < j)) with
    | true =>
      rw [hb] at h2
      rw [if_pos rfl]
      exact rdE_bind (k := fun z _ => cmpD o2 (.int j) z) S2 E2 h2 fun m3 I3 H3 s3 z w3 e3 S3 E3 rw3 h3 => ov_cmpD (X := X) o2 W σ m3 I3 H3 s3 _ _ _ _ _ S3 (.int j) rw3 h3
    | false =>
      rw [hb] at h2
      rw [if_neg (by simp)]
      exact Rn.pure S2 h2 _ (.bl false)
  · rw [bnd_bad q] at h2
    exact h2.elim
theorem l_chnV {o1 o2 : Bool} {a b c : DE} {x y z : Expr} {p q : CmpOp} {pos : Pos} (hp : p = if o1 then CmpOp.LtE else CmpOp.Lt) (hq : q = if o2 then CmpOp.LtE else CmpOp.Lt) (ha : PE X x (DEn G F n X W a)) (hb : PE X y (DEn G F n X W b)) (hc : PE X z (DEn G F n X W c)) :
    PE X (.Compare x [p, q] [y, z] pos) (DEn G F n X W (.chn o1 o2 a b c)) := by
  subst hp
  subst hq
  exact (pe_chain (op_cmpD o1) (op_cmpD o2) ha hb hc (by show behindInMarks _ z = false; exact nomark _ (by cases o2 <;> decide) (by cases o2 <;> decide))).imp fun σ H Q h => chn_run h
/-- a value that is always a bool, as a test -/
theorem rdT_bl {f : Env → M L} (hb : ∀ e s v s', f e s = .ok v s' → ∃ b, v = .bl b) {c : Cn} {σ : L2.St} {H : Hp} {Q : Bool → Hp → Prop} (h : rdT c W (fun e => f e >>= truM) σ H Q) : rdE c W f σ H fun x H' => ∃ k, x = .bl k ∧ Q k H' := by
  obtain ⟨m, I, e, s, S, E, h⟩ := h
  refine ⟨m, I, e, s, S, E, ?_⟩
  have h3 := h
  cases q : f e s with
  | ok v s3 =>
    simp only [bnd_ok q] at h3
    obtain ⟨b, rfl⟩ := hb _ _ _ _ q
    intro m' I' H' e' S' z rz
    cases rz
    exact ⟨b, rfl, h3 m' I' H' e' S'⟩
  | ex cc p s3 =>
    simp only [bnd_ex q] at h3
    exact h3
  | bad =>
    simp only [bnd_bad q] at h3
    exact h3
theorem bl_chn {o1 o2 : Bool} {a b c : DE} {e : Env} {s s' : Store} {v : L} (h : den G F n (.chn o1 o2 a b c) e s = .ok v s') : ∃ t, v = .bl t := by
  have h' : (den G F n a e >>= fun x => den G F n b e >>= fun y => cmpD o1 x y >>= fun v => match v with
    | .bl true => den G F n c e >>= fun z => cmpD o2 y z
    | v => pure v) s = .ok v s' := h
  cases q1 : den G F n a e s with
  | ok x s1 =>
    rw [bnd_ok q1] at h'
    cases q2 : den G F n b e s1 with
    | ok y s2 =>
      rw [bnd_ok q2] at h'
      rcases cmpD_int (o := o1) (x := x) (y := y) (s := s2) with ⟨i, j, rfl, rfl, q⟩ | q
      · rw [bnd_ok q] at h'
        cases hb : (if o1 then decide (i ≤ j) else decide (i < j)) with
        | true =>
          rw [hb] at h'
          cases q3 : den G F n c e s2 with
          | ok z s3 =>
            have h' : (den G F n c e >>= fun z => cmpD o2 (.int j) z) s2 = .ok v s' := h'
            rw [bnd_ok q3] at h'
            rcases cmpD_int (o := o2) (x := .int j) (y := z) (s := s3) with ⟨i2, j2, e1, e2, q4⟩ | q4
            · rw [q4] at h'; cases h'; exact ⟨_, rfl⟩
            · rw [q4] at h'; cases h'
          | ex cc p s3 =>
            have h' : (den G F n c e >>= fun z => cmpD o2 (.int j) z) s2 = .ok v s' := h'
            rw [bnd_ex q3] at h'; cases h'
          | bad =>
            have h' : (den G F n c e >>= fun z => cmpD o2 (.int j) z) s2 = .ok v s' := h'
            rw [bnd_bad q3] at h'; cases h'
        | false => rw [hb] at h'; cases h'; exact ⟨_, rfl⟩
      · rw [bnd_bad q] at h'; cases h'
    | ex cc p s3 => rw [bnd_ex q2] at h'; cases h'
    | bad => rw [bnd_bad q2] at h'; cases h'
  | ex cc p s3 => rw [bnd_ex q1] at h'; cases h'
  | bad => rw [bnd_bad q1] at h'; cases h'
theorem t_chn {o1 o2 : Bool} {a b c : DE} {x y z : Expr} {p q : CmpOp} {pos : Pos} (hp : p = if o1 then CmpOp.LtE else CmpOp.Lt) (hq : q = if o2 then CmpOp.LtE else CmpOp.Lt) (ha : PE X x (DEn G F n X W a)) (hb : PE X y (DEn G F n X W b)) (hc : PE X z (DEn G F n X W c)) :
    PT X (.Compare x [p, q] [y, z] pos) (DTn G F n X W (.chn o1 o2 a b c)) := by
  subst hp
  subst hq
  exact (pt_chain (op_cmpD o1) (op_cmpD o2) ha hb hc (by show behindInMarks _ z = false; exact nomark _ (by cases o2 <;> decide) (by cases o2 <;> decide))).imp fun σ H Q h =>
    chn_run (rdT_bl (fun e s v s' => bl_chn) h)
/-! ### places -/
def rIxAll (X : Cx) : R2 := fun x y H Q => rIx X.K x y H Q ∨ ∃ a v, x = .ref a ∧ DGet H a y (some v) ∧ Q v H
theorem ix_dic (hu : X.A.units + 1 < cLine) : IxR X (fun x y H Q => ∃ a v, x = .ref a ∧ DGet H a y (some v) ∧ Q v H) := by
  intro value slice pins s σ H x y v u Q I rx ry ⟨a, w, e, g, q⟩ hs
  subst e
  cases rx
  exact tail_any (dict_typeIs I g) PySem.F.slot_dict_getitem.lookup (d_getItem hu I g ry fun w' s3 I3 rw' => ⟨w, H, I3, rw', q⟩) hs
end
end D
end

section
set_option maxRecDepth 100000
set_option maxHeartbeats 1000000
/-! D1h: places, slices, fields, calls of defs and of built-ins. -/
namespace D
open PySem PySem.Spec PyProof.Rows L2
section
variable {G : Glb} {F : Fns} {n k : Nat} {N : List Str} {sc : Scope} {W : WX} {X : Cx}
theorem ix_all (hu : X.A.units + 1 < cLine) : IxR X (rIxAll X) := IxR.or ix_seq (ix_dic hu)
theorem Reps.length' {c : Cn} {m : List Addr} {I : Hp} {x : List L} {v : List V} (h : Reps c m I x v) : v.length = x.length := h.length.symm
theorem ov_idx {kd : Str → Option (List (Str × L))} : OpV (cOf X) (rIxAll X) (idxM kd) := by
  intro W' σ m I H s x y u w Q S rx ry h
  cases rx with
  | tup hp hr =>
    cases ry with
    | int i =>
      obtain ⟨a, e, q⟩ := rn_ofO S h
      obtain ⟨z, e2, r⟩ := hr.atI e
      exact .inl (.inr (.inl ⟨_, _, _, _, rfl, rfl, S.sq hp, e2, q _ r⟩))
    | _ => exact h.elim
  | str z =>
    cases ry with
    | int i =>
      obtain ⟨hz, h⟩ := ite_die h
      obtain ⟨a, e, q⟩ := rn_ofO S h
      cases e2 : atI z.cps.toList i with
      | none => rw [e2] at e; cases e
      | some cc =>
        rw [e2] at e
        cases e
        exact .inl (.inr (.inr ⟨z, i, cc, rfl, rfl, sz_le hz, e2, q _ (.str _)⟩))
    | _ => exact h.elim
  | loc ha =>
    obtain ⟨o, e1, r1, h⟩ := Rn.getC S ha h
    cases o with
    | lst xs =>
      obtain ⟨vs, g1, q1⟩ := r1
      cases ry with
      | int i =>
        obtain ⟨a, e, q⟩ := rn_ofO S h
        obtain ⟨z, e2, r⟩ := q1.atI e
        exact .inl (.inl ⟨_, _, _, _, rfl, rfl, SqL.of g1, e2, q _ r⟩)
      | _ => exact h.elim
    | dS kvs =>
      obtain ⟨ws, g1, q1⟩ := r1
      cases ry with
      | str z =>
        obtain ⟨a, e, q⟩ := rn_ofO S h
        have q2 := q1.val z
        rw [e] at q2
        obtain ⟨v, e2, r⟩ := q2
        exact .inr ⟨_, _, rfl, .inl ⟨ws, Sum.inr z, .inl g1, rfl, e2.symm⟩, q _ r⟩
      | _ => exact h.elim
    | fS kvs =>
      obtain ⟨o, ws, g1, q1⟩ := r1
      cases ry with
      | str z =>
        obtain ⟨a, e, q⟩ := rn_ofO S h
        have q2 := q1.val z
        rw [e] at q2
        obtain ⟨v, e2, r⟩ := q2
        exact .inr ⟨_, _, rfl, .inl ⟨ws, Sum.inr z, .inr ⟨o, g1⟩, rfl, e2.symm⟩, q _ r⟩
      | _ => exact h.elim
    | _ => exact h.elim
  | _ => exact h.elim
theorem l_idx (xe : XE0 G F k N sc W X) {a b : DE} {x y : Expr} {pos : Pos} (hs : isSlice y = false) (ha : PE X x (DEn G F n X W a)) (hb : PE X y (DEn G F n X W b)) : PE X (.Subscript x y pos) (DEn G F n X W (.idx a b)) :=
  (pe_ix (ix_all (by have := xe.hu; omega)) ha hb (plain_ix hs)).imp fun σ H Q ⟨m, I, e, s, S, E, h⟩ =>
  rdE_bind (k := fun x e => den G F n b e >>= fun y => idxM G.kd x y) S E h fun m1 I1 H1 s1 x u e1 S1 E1 ru h1 => rdE_bind (k := fun y _ => idxM G.kd x y) S1 E1 h1 fun m2 I2 H2 s2 y w e2 S2 E2 rw_ h2 => ov_idx W σ m2 I2 H2 s2 x y u w Q S2 (ru.mono e2) rw_ h2
/-! ### fields -/
theorem l_fld {a : DE} {x : Expr} {f : Str} {pos : Pos} (hb : plainBase x = true) (ha : PE X x (DEn G F n X W a)) : PE X (.Attribute x f pos) (DEn G F n X W (.fld a f)) :=
  (pe_fld ha (base_of hb)).imp fun σ H Q ⟨m, I, e, s, S, E, h⟩ =>
  rdE_bind (k := fun x _ => fldM x f) S E h fun m1 I1 H1 s1 x u e1 S1 E1 ru h1 => by
    cases ru with
    | loc ha =>
      obtain ⟨o, e1, r1, h1⟩ := Rn.getC S1 ha h1
      cases o with
      | ins cc fs =>
        obtain ⟨C, dx, ws, c1, g1, q1, nf⟩ := r1
        obtain ⟨v, e2, q⟩ := rn_ofO S1 h1
        have q2 := q1.val f
        rw [e2] at q2
        obtain ⟨w, e3, r⟩ := q2
        exact ⟨_, C, dx, ws, w, rfl, g1, c1.cl, nf _ (lk_mem e2), e3, q w r⟩
      | _ => exact h1.elim
    | _ => exact h1.elim
/-! ### calls of defs -/
theorem sp_of {c : Cn} {W : WX} {σ : L2.St} {m : List Addr} {I H : Hp} {s : Store} {f : List L → M L} {np : Nat} {xs : List L} {vs : List V} {Q : VK} (S : Stt c m I s H) (r : Reps c m I xs vs) (har : (f xs s = .bad → False) → xs.length = np) (h : Rn c W σ m I H (f xs s) (Pv c Q)) : spD c np f vs H Q (WE W σ) := by
  refine ⟨?_, m, I, s, xs, S, r, ?_⟩
  · rw [← r.length]
    refine har fun z => ?_
    rw [z] at h
    exact h
  · revert h
    cases f xs s with
    | ok a s' => exact fun h => h
    | ex a b s' => exact fun h => h
    | bad => exact fun h => h
theorem nobad {c : Cn} {W : WX} {σ : L2.St} {m : List Addr} {I H : Hp} {α : Type} {r : R α} {post : List Addr → Hp → Hp → Store → α → Prop} (h : Rn c W σ m I H r post) : r = .bad → False := fun z => by
  rw [z] at h
  exact h
theorem l_call (xe : XE0 G F k N sc W X) {f : Str} {e1 : DE} {es : DEs} {x : Expr} {xs : List Expr} {p pos : Pos} (hg : glB sc f = true) (hn : nmB f = true) (hx : isStar x = false) (hs : xs.all (fun e => !isStar e) = true) (ha : PA X (x :: xs) (DAn G F n X W (.cons e1 es))) :
    PE X (.Call (.Name f p) (x :: xs) [] pos) (DEn G F n X W (.call f (.cons e1 es))) := by
  by_cases hF : G.has (f, none) = true
  · obtain ⟨a, hm, fd, ps, FO, hb, kp, ar⟩ := xe.fx.fn f hF
    refine (pe_callS (E := WE W) FO (xe.room.mono (Nat.le_succ _)) (xe.gl hg) hm kp hb (fun σ => passAt xe.tk σ) ha (nmB_d hn).1 (star_cons hx) (star_any hs)).imp fun σ H Q ⟨m, I, e, s, S, E, h⟩ => ?_
    obtain ⟨_, h⟩ := ite_die (x := dens G F n (.cons e1 es) e >>= fun vs => F (f, none) vs) h
    exact rdA_bind (k := fun vs _ => F (f, none) vs) S E h fun m1 I1 H1 s1 x u e1 S1 E1 ru h1 => sp_of S1 ru (ar _ _) h1
  · refine ⟨fun pins s σ H Q I h => ?_⟩
    obtain ⟨m, I0, e, s0, S, E, h⟩ := h
    exact (hF (ite_die (x := dens G F n (.cons e1 es) e >>= fun vs => F (f, none) vs) h).1).elim
end
end D
end

section
set_option maxRecDepth 100000
set_option maxHeartbeats 1000000
/-! D1i: methods, making, isinstance, built-ins, displays of dicts. -/
namespace D
open PySem PySem.Spec PyProof.Rows L2
theorem meth_tree {o : Expr} {m : Str} {xs : List Expr} {apos pos : Pos} {env : PySem.Env} (hb : plainBase o = true) (hs : xs.all (fun e => !isStar e) = true) (hl : xs.length < 30) (hp : (apos.endLine == pos.line) = true) :
    eval (.Call (.Attribute o m apos) xs [] pos) env = (do
      let ov ← eval o env
      standAt apos.atName
      let (f, first) ← holding [ov] (getMethod ov m (plainOf o env))
      callWith pos f first (backTo pos (starEach xs env)) (backToKw pos (keywordEach [] env))) := by
  have e0 : eval (.Call (.Attribute o m apos) xs [] pos) env = (do
      let ov ← attributeBase o m env (eval o env)
      standAt apos.atName
      methodCall o m apos pos env ov (xs.length + ([] : List Keyword).length) (backTo pos (starEach xs env)) (backToKw pos (keywordEach [] env))) := by
    first | rfl | (cases xs <;> rfl)
  have hf : methodCallForm (xs.length + ([] : List Keyword).length) (backTo pos (starEach xs env)) (backToKw pos (keywordEach [] env)) = true := by
    unfold methodCallForm
    have a1 := star_all (pos := pos) (env := env) hs
    show ((backTo pos (starEach xs env)).all (fun x => !x.1) && true && decide (xs.length + 0 + 0 < 30)) = true
    rw [a1]
    simpa using hl
  rw [e0, base_of hb]
  congr 1
  funext ov
  congr 1
  funext _
  exact mcall_line hf hp
section
variable {G : Glb} {F : Fns} {n k : Nat} {N : List Str} {sc : Scope} {W : WX} {X : Cx}
theorem l_call0 (xe : XE0 G F k N sc W X) {f : Str} {p pos : Pos} (hg : glB sc f = true) (hn : nmB f = true) : PE X (.Call (.Name f p) [] [] pos) (DEn G F n X W (.call f .nil)) := by
  by_cases hF : G.has (f, none) = true
  · obtain ⟨a, hm, fd, ps, FO, hb, kp, ar⟩ := xe.fx.fn f hF
    refine (pe_callS0 (E := WE W) FO (xe.room.mono (Nat.le_succ _)) (xe.gl hg) hm kp hb (fun σ => passAt xe.tk σ) (nmB_d hn).1).imp fun σ H Q ⟨m, I, e, s, S, E, h⟩ => ?_
    obtain ⟨_, h⟩ := ite_die (x := (pure [] : M (List L)) >>= fun vs => F (f, none) vs) h
    rw [pure_bnd] at h
    exact sp_of S .nil (ar _ _) h
  · refine ⟨fun pins s σ H Q I h => ?_⟩
    obtain ⟨m, I0, e, s0, S, E, h⟩ := h
    exact (hF (ite_die (x := (pure [] : M (List L)) >>= fun vs => F (f, none) vs) h).1).elim
/-- the receiver of a method -/
theorem meth_run {f : Str} {o : DE} {es : DEs} {σ : L2.St} {H : Hp} {Q : VK} {t : TA} (xe : XE0 G F k N sc W X) (ht : ∀ σ H Q, DAn G F n X W es σ H Q → t σ H Q) (h : DEn G F n X W (.meth f o es) σ H Q) : tMethD X f (L2.CX X.prog X.w) k (WE W) (DEn G F n X W o) t σ H Q := by
  obtain ⟨m, I, e, s, S, E, h⟩ := h
  refine rdE_bind (k := fun x e => match x with
    | .loc c => getC c >>= fun ob => match ob with
      | .ins k fs => if (lk f fs).isNone = true ∧ G.has (k, some f) = true then dens G F n es e >>= fun vs => F (k, some f) (x :: vs) else die
      | _ => die
    | _ => die) S E h fun m1 I1 H1 s1 x u e1 S1 E1 ru h1 => ?_
  cases ru with
  | loc ha =>
    obtain ⟨ob, e2, r1, h1⟩ := Rn.getC S1 ha h1
    cases ob with
    | ins cc fs =>
      obtain ⟨C, dx, ws, c1, g1, q1, nf⟩ := r1
      obtain ⟨⟨hn, hF⟩, h1⟩ := ite_die h1
      obtain ⟨C2, fa, c2, M, fd, ps, FO, hb, kp, ar⟩ := xe.fx.me cc f hF
      have eC := clsOk_inj c1 c2
      subst eC
      have q2 := q1.val f
      have hl : ws.lookup f = none := by
        cases q3 : lk f fs with
        | none => rw [q3] at q2; exact q2
        | some v => rw [q3] at hn; cases hn
      refine ⟨_, C, dx, ws, fa, fd, ps, _, rfl, g1, hl, c1.cl, M, FO, hb, ht _ _ _ ?_⟩
      refine rdA_bind (k := fun vs _ => F (cc, some f) (_ :: vs)) S1 E1 h1 fun m2 I2 H2 s2 xs us e2 S2 E2 ru2 h2 => ?_
      exact sp_of S2 (.cons (.loc (e2.get ha)) ru2) (ar _ _) h2
    | _ => exact h1.elim
  | _ => exact h1.elim
theorem l_meth (xe : XE0 G F k N sc W X) {f : Str} {o e1 : DE} {es : DEs} {y x : Expr} {xs : List Expr} {apos pos : Pos} (hb : plainBase y = true) (hx : isStar x = false) (hs : xs.all (fun e => !isStar e) = true) (hl : xs.length < 29) (hp : (apos.endLine == pos.line) = true)
    (ho : PE X y (DEn G F n X W o)) (ha : PA X (x :: xs) (DAn G F n X W (.cons e1 es))) : PE X (.Call (.Attribute y f apos) (x :: xs) [] pos) (DEn G F n X W (.meth f o (.cons e1 es))) :=
  (pe_methD (CX := L2.CX X.prog X.w) (k := k) (E := WE W) ho (xe.room.mono (Nat.le_succ _)) (fun σ => passAt xe.tk σ) ha (star_cons hx) (star_any hs) (meth_tree hb (by rw [List.all_cons, hs, hx] <;> rfl) (by simp only [List.length_cons]; omega) hp)).imp fun σ H Q h => meth_run xe (fun _ _ _ h => h) h
theorem l_meth0 (xe : XE0 G F k N sc W X) {f : Str} {o : DE} {y : Expr} {apos pos : Pos} (hb : plainBase y = true) (hp : (apos.endLine == pos.line) = true)
    (ho : PE X y (DEn G F n X W o)) : PE X (.Call (.Attribute y f apos) [] [] pos) (DEn G F n X W (.meth f o .nil)) :=
  (pe_methD0 (CX := L2.CX X.prog X.w) (k := k) (E := WE W) ho (xe.room.mono (Nat.le_succ _)) (fun σ => passAt xe.tk σ) (meth_tree hb rfl (by decide) hp)).imp fun σ H Q h => meth_run xe (fun σ H Q ⟨m, I, e, s, S, E, h⟩ => Rn.pure S h _ .nil) h
/-- a new instance as a cell -/
theorem Stt.newI {c : Cn} {m : List Addr} {I H : Hp} {s : Store} (S : Stt c m I s H) {z : Str} {C x dx : Addr} (k : ClsOk c z C) (hx : H x = none) (hd : H dx = none) (hne : dx ≠ x) :
    Ext m I H (m ++ [x]) I (upd (upd H dx (.own x)) x (.ins C dx [])) ∧ Stt c (m ++ [x]) I (s ++ [.ins z []]) (upd (upd H dx (.own x)) x (.ins C dx [])) := by
  obtain ⟨e1, S1⟩ := S.newU (o := .own x) hd
  have hx' : upd H dx (.own x) x = none := by rw [upd_ne (Ne.symm hne)]; exact hx
  obtain ⟨e2, S2⟩ := S1.newC (o := .ins C dx []) (b := .ins z []) hx' fun t => ⟨C, dx, [], k, upd_same, .nil, fun p hp => nomatch hp⟩
  exact ⟨e1.trans e2, S2⟩
theorem l_make (xe : XE0 G F k N sc W X) {f : Str} {e1 : DE} {es : DEs} {x : Expr} {xs : List Expr} {p pos : Pos} (hg : glB sc f = true) (hn : nmB f = true) (hx : isStar x = false) (hs : xs.all (fun e => !isStar e) = true) (ha : PA X (x :: xs) (DAn G F n X W (.cons e1 es))) :
    PE X (.Call (.Name f p) (x :: xs) [] pos) (DEn G F n X W (.make f (.cons e1 es))) := by
  by_cases hF : G.has (f, some "__init__") = true
  · obtain ⟨C, fa, c1, M, fd, ps, FO, hb, kp, ar⟩ := xe.fx.mak f hF
    refine (pe_makeS (E := WE W) M FO xe.room (xe.gl hg) c1.g hb (fun σ => passAt xe.tk σ) ha (nmB_d hn).1 (star_cons hx) (star_any hs)).imp fun σ H Q ⟨m, I, e, s, S, E, h⟩ => ?_
    obtain ⟨_, h⟩ := ite_die (x := dens G F n (.cons e1 es) e >>= fun vs => alloc (.ins f []) >>= fun x => F (f, some "__init__") (x :: vs) >>= fun r => match r with
      | .non => pure x
      | _ => die) h
    refine rdA_bind (k := fun vs _ => alloc (.ins f []) >>= fun x => F (f, some "__init__") (x :: vs) >>= fun r => match r with
      | .non => pure x
      | _ => die) S E h fun m1 I1 H1 s1 ys us e1 S1 E1 ru h1 x dx hx hd hne => ?_
    obtain ⟨e2, S2⟩ := S1.newI c1 hx hd hne
    have h2 : Rn (cOf X) W σ m1 I1 H1 ((F (f, some "__init__") (.loc s1.length :: ys) >>= fun r => match r with
      | .non => pure (.loc s1.length)
      | _ => die) (s1 ++ [.ins f []])) (Pv (cOf X) Q) := h1
    have h3 := (h2.ext e2).bind
    have hat : (m1 ++ [x])[s1.length]? = some x := by
      rw [← S1.len, List.getElem?_append_right (Nat.le_refl _), Nat.sub_self]
      rfl
    refine sp_of S2 (.cons (.loc hat) (ru.mono e2)) (ar _ _) (h3.mono fun m4 I4 H4 s4 v e4 S4 h4 u rv => ?_)
    cases rv with
    | non => exact ⟨rfl, Rn.pure S4 h4 _ (.loc (e4.get hat))⟩
    | _ => exact h4.elim
  · refine ⟨fun pins s σ H Q I h => ?_⟩
    obtain ⟨m, I0, e, s0, S, E, h⟩ := h
    exact (hF (ite_die (x := dens G F n (.cons e1 es) e >>= fun vs => alloc (.ins f []) >>= fun x => F (f, some "__init__") (x :: vs) >>= fun r => match r with
      | .non => pure x
      | _ => die) h).1).elim
end
end D
end

section
set_option maxRecDepth 100000
set_option maxHeartbeats 1000000
/-! D1j: isinstance, built-ins, append. -/
namespace D
open PySem PySem.Spec PyProof.Rows L2
section
variable {G : Glb} {F : Fns} {n k : Nat} {N : List Str} {sc : Scope} {W : WX} {X : Cx}
def Kd.ty : Kd → String
  | .non => "NoneType" | .bl => "bool" | .int => "int" | .str => "str" | .tup => "tuple" | .lst => "list" | .dic => "dict"
def IT.ty : IT → String
  | .bl => "bool" | .int => "int" | .str => "str" | .tup => "tuple" | .lst => "list" | .own _ => ""
def IT.bi : IT → Bool
  | .own _ => false
  | _ => true
theorem kit_at {K : PySem.W.Frag} (a : Kd) (b : IT) (hb : b.bi = true) : PySem.W.kitOne K (.type a.ty) (.type b.ty) = some (a.is b) := by
  refine kit_ty ?_
  cases a <;> cases b <;> first | exact Bool.noConfusion hb | decide +kernel
theorem kd_ty {c : Cn} {m : List Addr} {I H : Hp} {s : Store} (S : Stt c m I s H) {x : L} {u : V} (r : Rep c m I x u) {d : Kd} (h : kdOf s x = some d) : TyX c.K H u (.type d.ty) := by
  cases r with
  | non => cases h; exact .base .non
  | bl b => cases h; exact .base (.bl b)
  | int i => cases h; exact .base (.int i)
  | str z => cases h; exact .base (.str z)
  | fn _ => cases h
  | tup hp hr =>
    cases h
    rcases S.sq hp with (g | ⟨o, g⟩) | ⟨o, its, nn, g1, g2, g3⟩
    · exact .base (.tup g)
    · exact .fTuple g
    · exact .kTuple g1 g2
  | loc ha =>
    rename_i j a
    have l := S.lt ha
    have r1 := S.cell j a _ ha (List.getElem?_eq_getElem l)
    have h' : (match s[j]? with
      | some (.lst _) => some Kd.lst
      | some (.dS _) => some Kd.dic
      | _ => none) = some d := h
    rw [List.getElem?_eq_getElem l] at h'
    revert r1 h'
    cases s[j] with
    | lst xs =>
      intro r1 h'
      cases h'
      obtain ⟨vs, g1, q1⟩ := r1
      exact .base (.lst g1)
    | dS xs =>
      intro r1 h'
      cases h'
      obtain ⟨vs, g1, q1⟩ := r1
      exact .base (.dK g1)
    | _ => intro r1 h'; cases h'
theorem l_isi (xe : XE0 G F k N sc W X) {a : DE} {x : Expr} {t : IT} {tn : Str} {T : String} {p p2 pos : Pos} (ht : t.bi = true) (hT : T = t.ty) (hg : glB sc "isinstance" = true) (hg2 : glB sc tn = true) (hn2 : nmB tn = true) (hbn : tn ∈ bNames) (hv : bootBuiltins tn = some (.type T)) (hx : isStar x = false) (ha : PE X x (DEn G F n X W a)) :
    PE X (.Call (.Name "isinstance" p) [x, .Name tn p2] [] pos) (DEn G F n X W (.isi a t)) := by
  subst hT
  have pT : PE X (.Name tn p2) (tC (.ty t.ty)) := pe_bltn (xe.gl hg2) (xe.fx.bn tn hbn) hv rfl (nmB_d hn2).2.2 (nmB_d hn2).1
  refine (pe_callB call_isi (xe.gl hg) (xe.fx.bn _ (by decide)) PyProof.Rows.boot_isinstance (pa_cons ha (pa_cons pT pa_nil) (star_cons hx)) (by decide) (by decide) (star_cons hx) (star_any (by rfl))).imp fun σ H Q ⟨m, I, e, s, S, E, h⟩ => ?_
  refine rdE_bind (k := fun x _ => isiM x t >>= fun b => pure (L.bl b)) S E h fun m1 I1 H1 s1 x u e1 S1 E1 ru h1 => ?_
  have h2 : Rn (cOf X) W σ m1 I1 H1 (isiM x t s1) fun m' I' H' s' b => Pv (cOf X) Q m' I' H' s' (L.bl b) := rn_ret (f := fun b => L.bl b) h1
  have h3 : ∃ d, kdOf s1 x = some d ∧ Q (.bl (d.is t)) H1 := by
    have e2 : isiM x t s1 = (match kdOf s1 x with
      | some d => .ok (d.is t) s1
      | none => .bad) := by
      cases t <;> first | rfl | cases ht
    rw [e2] at h2
    cases q : kdOf s1 x with
    | none => rw [q] at h2; exact h2.elim
    | some d => rw [q] at h2; exact ⟨d, rfl, h2 _ _ _ Ext.rfl' S1 _ (.bl _)⟩
  obtain ⟨d, q1, q2⟩ := h3
  exact ⟨u, .ty t.ty, .type d.ty, .type t.ty, d.is t, rfl, .ty _, kd_ty S1 ru q1, kit_at d t ht, q2⟩
theorem l_isiO (xe : XE0 G F k N sc W X) {a : DE} {x : Expr} {tn : Str} {p p2 pos : Pos} (hg : glB sc "isinstance" = true) (hg2 : glB sc tn = true) (hn2 : nmB tn = true) (hh : ∃ C, ClsOk (cOf X) tn C) (hx : isStar x = false) (ha : PE X x (DEn G F n X W a)) :
    PE X (.Call (.Name "isinstance" p) [x, .Name tn p2] [] pos) (DEn G F n X W (.isi a (.own tn))) := by
  obtain ⟨C, hC⟩ := hh
  have pT : PE X (.Name tn p2) (tC (.ref C)) := pe_glob (xe.gl hg2) hC.g rfl (nmB_d hn2).1
  refine (pe_callB call_isi (xe.gl hg) (xe.fx.bn _ (by decide)) PyProof.Rows.boot_isinstance (pa_cons ha (pa_cons pT pa_nil) (star_cons hx)) (by decide) (by decide) (star_cons hx) (star_any (by rfl))).imp fun σ H Q ⟨m, I, e, s, S, E, h⟩ => ?_
  refine rdE_bind (k := fun x _ => isiM x (.own tn) >>= fun b => pure (L.bl b)) S E h fun m1 I1 H1 s1 x u e1 S1 E1 ru h1 => ?_
  have h2 : Rn (cOf X) W σ m1 I1 H1 (isiM x (.own tn) s1) fun m' I' H' s' b => Pv (cOf X) Q m' I' H' s' (L.bl b) := rn_ret (f := fun b => L.bl b) h1
  have e2 : isiM x (.own tn) s1 = (if insOf s1 x = some tn then .ok true s1 else .bad) := rfl
  rw [e2] at h2
  by_cases q : insOf s1 x = some tn
  · rw [if_pos q] at h2
    obtain ⟨a, C', dx, fs, rfl, k1, g1⟩ := insOf_rep S1 q ru
    have eC := clsOk_inj k1 hC
    subst eC
    refine ⟨_, .ref C', .ref C', .ref C', true, rfl, .own _, .base (k1.ty _ _ _ _ g1), ?_, h2 _ _ _ Ext.rfl' S1 _ (.bl _)⟩
    unfold PySem.W.kitOne
    rw [if_pos (by simp)]
  · rw [if_neg q] at h2
    exact h2.elim
/-! ### built-ins -/
def rLenL (K : PySem.W.Frag) : List V → Hp → VK → Prop := fun xs H Q => (∃ x n, xs = [x] ∧ LenV K x H n ∧ Q (.int n) H) ∨ ∃ a kvs, xs = [V.ref a] ∧ H a = some (.dK kvs) ∧ Q (.int kvs.length) H
def rListL (K : PySem.W.Frag) : List V → Hp → VK → Prop := fun xs H Q => (∃ p ys, xs = [.ref p] ∧ (SqL K H p ys ∨ SqT K H p ys) ∧ ∀ l, H l = none → Q (.ref l) (upd H l (.lst ys))) ∨ ∃ (a : Addr) (kvs : List (Key × V)), xs = [.ref a] ∧ Rd H a (.dK kvs) ∧ ∀ p, H p = none → Q (.ref p) (upd H p (.lst (kvs.map fun kv => kV kv.1)))
def CaV (c : Cn) (r : List V → Hp → VK → Prop) (g : List L → M L) : Prop := ∀ (W : WX) (σ : L2.St) (m : List Addr) (I H : Hp) (s : Store) (x : List L) (u : List V) (Q : VK), Stt c m I s H → Reps c m I x u → Rn c W σ m I H (g x s) (Pv c Q) → r u H Q
theorem l_biB (xe : XE0 G F k N sc W X) {b : BI} {r : List V → Hp → VK → Prop} {id : String} {nm : Str} (hc : CallR X (.builtin id) r) (hv : CaV (cOf X) r (biM G.has F b)) (hg : glB sc nm = true) (hn : nmB nm = true) (hb : nm ∈ bNames) (hbo : bootBuiltins nm = some (.builtin id)) {es : DEs} {e1 : DE} {x : Expr} {xs : List Expr} {p pos : Pos} (hx : isStar x = false) (hs : xs.all (fun e => !isStar e) = true) (ha : PA X (x :: xs) (DAn G F n X W (.cons e1 es))) :
    PE X (.Call (.Name nm p) (x :: xs) [] pos) (DEn G F n X W (.bi b (.cons e1 es))) :=
  (pe_callB hc (xe.gl hg) (xe.fx.bn nm hb) hbo ha (nmB_d hn).2.2 (nmB_d hn).1 (star_cons hx) (star_any hs)).imp fun σ H Q ⟨m, I, e, s, S, E, h⟩ =>
  rdA_bind (k := fun vs _ => biM G.has F b vs) S E h fun m1 I1 H1 s1 x u e1 S1 E1 ru h1 => hv W σ m1 I1 H1 s1 x u Q S1 ru h1
theorem l_biT (xe : XE0 G F k N sc W X) {b : BI} {r : List V → Hp → VK → Prop} {id : String} {nm : Str} (hc : CallR X (.type id) r) (hv : CaV (cOf X) r (biM G.has F b)) (hg : glB sc nm = true) (hn : nmB nm = true) (hb : nm ∈ bNames) (hbo : bootBuiltins nm = some (.type id)) {es : DEs} {e1 : DE} {x : Expr} {xs : List Expr} {p pos : Pos} (hx : isStar x = false) (hs : xs.all (fun e => !isStar e) = true) (ha : PA X (x :: xs) (DAn G F n X W (.cons e1 es))) :
    PE X (.Call (.Name nm p) (x :: xs) [] pos) (DEn G F n X W (.bi b (.cons e1 es))) :=
  (pe_callTy hc (xe.gl hg) (xe.fx.bn nm hb) hbo ha (nmB_d hn).2.2 (nmB_d hn).1 (star_cons hx) (star_any hs)).imp fun σ H Q ⟨m, I, e, s, S, E, h⟩ =>
  rdA_bind (k := fun vs _ => biM G.has F b vs) S E h fun m1 I1 H1 s1 x u e1 S1 E1 ru h1 => hv W σ m1 I1 H1 s1 x u Q S1 ru h1
theorem one_of {c : Cn} {m : List Addr} {I : Hp} {x : List L} {u : List V} (r : Reps c m I x u) {a : L} (e : x = [a]) : ∃ v, u = [v] ∧ Rep c m I a v := by
  subst e
  cases r with
  | cons h1 h2 => cases h2; exact ⟨_, rfl, h1⟩
theorem cv_len {hs : FK → Bool} : CaV (cOf X) (rLenL X.K) (biM hs F .len) := by
  intro W' σ m I H s x u Q S r h
  cases r with
  | nil => exact h.elim
  | cons r1 r2 =>
    cases r2 with
    | cons _ _ => cases r1 <;> exact h.elim
    | nil =>
      cases r1 with
      | tup hp hr => exact .inl ⟨_, _, rfl, .inr ⟨_, S.sq hp, rfl⟩, by rw [← hr.length]; exact Rn.pure S h _ (.int _)⟩
      | str z =>
        obtain ⟨hz, h⟩ := ite_die h
        exact .inl ⟨_, z.length, rfl, ⟨sz_le hz, rfl⟩, Rn.pure S h _ (.int _)⟩
      | loc ha =>
        obtain ⟨o, e1, r1, h⟩ := Rn.getC S ha h
        cases o with
        | lst xs =>
          obtain ⟨vs, g1, q1⟩ := r1
          exact .inl ⟨_, _, rfl, .inl ⟨_, SqL.of g1, rfl⟩, by rw [← q1.length]; exact Rn.pure S h _ (.int _)⟩
        | dS xs =>
          obtain ⟨vs, g1, q1⟩ := r1
          exact .inr ⟨_, _, rfl, g1, by rw [← q1.length]; exact Rn.pure S h _ (.int _)⟩
        | _ => exact h.elim
      | _ => exact h.elim
theorem cv_len2 {hs : FK → Bool} : CaV (cOf X) (fun xs H Q => (∃ x n, xs = [x] ∧ LenV X.K x H n ∧ Q (.int n) H) ∨ ∃ a kvs, xs = [V.ref a] ∧ H a = some (.dK kvs) ∧ Q (.int kvs.length) H) (biM hs F .len) := cv_len
theorem cv_int {hs : FK → Bool} : CaV (cOf X) (fun xs H Q => (∃ i, xs = [.int i] ∧ Q (.int i) H) ∨ ∃ k, xs = [.bl k] ∧ Q (.int (if k then 1 else 0)) H) (biM hs F .int) := by
  intro W' σ m I H s x u Q S r h
  cases r with
  | nil => exact h.elim
  | cons r1 r2 =>
    cases r2 with
    | cons _ _ => cases r1 <;> exact h.elim
    | nil =>
      cases r1 with
      | int i => exact .inl ⟨i, rfl, Rn.pure S h _ (.int _)⟩
      | bl b => exact .inr ⟨b, rfl, Rn.pure S h _ (.int _)⟩
      | _ => exact h.elim
theorem cv_str {hs : FK → Bool} : CaV (cOf X) (fun xs H Q => ∃ i, xs = [.int i] ∧ i.natAbs.log2 < 1920 ∧ Q (.str (toString i)) H) (biM hs F .str) := by
  intro W' σ m I H s x u Q S r h
  cases r with
  | nil => exact h.elim
  | cons r1 r2 =>
    cases r2 with
    | cons _ _ => cases r1 <;> exact h.elim
    | nil =>
      cases r1 with
      | int i =>
        obtain ⟨hz, h⟩ := ite_die h
        exact ⟨i, rfl, hz, Rn.pure S h _ (.str _)⟩
      | _ => exact h.elim
theorem cv_max {hs : FK → Bool} : CaV (cOf X) (fun xs H Q => ∃ i j, xs = [.int i, .int j] ∧ Q (.int (if j > i then j else i)) H) (biM hs F .max) := by
  intro W' σ m I H s x u Q S r h
  cases r with
  | nil => exact h.elim
  | cons r1 r2 =>
    cases r2 with
    | nil => cases r1 <;> exact h.elim
    | cons r2 r3 =>
      cases r3 with
      | cons _ _ => cases r1 <;> first | exact h.elim | (cases r2 <;> exact h.elim)
      | nil =>
        cases r1 with
        | int i => cases r2 with
          | int j => exact ⟨i, j, rfl, Rn.pure S h _ (.int _)⟩
          | _ => exact h.elim
        | _ => exact h.elim
theorem cv_min {hs : FK → Bool} : CaV (cOf X) (fun xs H Q => ∃ i j, xs = [.int i, .int j] ∧ Q (.int (if j < i then j else i)) H) (biM hs F .min) := by
  intro W' σ m I H s x u Q S r h
  cases r with
  | nil => exact h.elim
  | cons r1 r2 =>
    cases r2 with
    | nil => cases r1 <;> exact h.elim
    | cons r2 r3 =>
      cases r3 with
      | cons _ _ => cases r1 <;> first | exact h.elim | (cases r2 <;> exact h.elim)
      | nil =>
        cases r1 with
        | int i => cases r2 with
          | int j => exact ⟨i, j, rfl, Rn.pure S h _ (.int _)⟩
          | _ => exact h.elim
        | _ => exact h.elim
theorem keys_rep {c : Cn} {m : List Addr} {I : Hp} {x : List (Str × L)} {v : List (Key × V)} (h : RepK c m I x v) : Reps c m I (x.map fun kv => L.str kv.1) (v.map fun kv => kV kv.1) := by
  induction h with
  | nil => exact .nil
  | cons _ _ ih => exact .cons (.str _) ih
theorem ints_rep {c : Cn} {m : List Addr} {I : Hp} : ∀ {x : List Int}, Reps c m I (x.map L.int) (x.map V.int)
  | [] => .nil
  | _ :: _ => .cons (.int _) ints_rep
theorem cv_list {hs : FK → Bool} : CaV (cOf X) (rListL X.K) (biM hs F .list) := by
  intro W' σ m I H s x u Q S r h
  cases r with
  | nil => exact h.elim
  | cons r1 r2 =>
    cases r2 with
    | cons _ _ => cases r1 <;> exact h.elim
    | nil =>
      cases r1 with
      | tup hp hr => exact .inl ⟨_, _, rfl, .inr (S.sq hp), S.newLv hr h⟩
      | loc ha =>
        obtain ⟨o, e1, r1, h⟩ := Rn.getC S ha h
        cases o with
        | lst xs =>
          obtain ⟨vs, g1, q1⟩ := r1
          exact .inl ⟨_, _, rfl, .inl (SqL.of g1), S.newLv q1 h⟩
        | scr xs => exact .inl ⟨_, _, rfl, .inl (.inl r1), S.newLv ints_rep h⟩
        | dS xs =>
          obtain ⟨vs, g1, q1⟩ := r1
          exact .inr ⟨_, _, rfl, .inl g1, S.newLv (keys_rep q1) h⟩
        | _ => exact h.elim
      | _ => exact h.elim
theorem cv_tuple {hs : FK → Bool} : CaV (cOf X) (fun xs H Q => ∃ p ys, xs = [.ref p] ∧ ((SqL X.K H p ys ∧ ∀ l, H l = none → Q (.ref l) (upd H l (.tup ys))) ∨ (SqT X.K H p ys ∧ Q (.ref p) H))) (biM hs F .tuple) := by
  intro W' σ m I H s x u Q S r h
  cases r with
  | nil => exact h.elim
  | cons r1 r2 =>
    cases r2 with
    | cons _ _ => cases r1 <;> exact h.elim
    | nil =>
      cases r1 with
      | tup hp hr => exact ⟨_, _, rfl, .inr ⟨S.sq hp, Rn.pure S h _ (.tup hp hr)⟩⟩
      | loc ha =>
        obtain ⟨o, e1, r1, h⟩ := Rn.getC S ha h
        cases o with
        | lst xs =>
          obtain ⟨vs, g1, q1⟩ := r1
          exact ⟨_, _, rfl, .inl ⟨SqL.of g1, S.newTv q1 fun m' I' H' e S' u ru => h m' I' H' e S' u ru⟩⟩
        | _ => exact h.elim
      | _ => exact h.elim
theorem cv_dict {hs : FK → Bool} : CaV (cOf X) (fun xs H Q => ∃ (a : Addr) (kvs : List (Key × V)), xs = [.ref a] ∧ Rd H a (.dK kvs) ∧ ∀ p, H p = none → Q (.ref p) (upd H p (.dK kvs))) (biM hs F .dict) := by
  intro W' σ m I H s x u Q S r h
  cases r with
  | nil => exact h.elim
  | cons r1 r2 =>
    cases r2 with
    | cons _ _ => cases r1 <;> exact h.elim
    | nil =>
      cases r1 with
      | loc ha =>
        obtain ⟨o, e1, r1, h⟩ := Rn.getC S ha h
        cases o with
        | dS xs =>
          obtain ⟨vs, g1, q1⟩ := r1
          exact ⟨_, _, rfl, .inl g1, S.newKv q1 h⟩
        | _ => exact h.elim
      | _ => exact h.elim
end
end D
end

section
set_option maxRecDepth 100000
set_option maxHeartbeats 1000000
/-! D1k: lists no one else holds; displays; slices; dict displays; append. -/
namespace D
open PySem PySem.Spec PyProof.Rows L2
/-- H without D -/
def msk (H : Hp) (D : Addr) : Hp := fun a => if a = D then none else H a
section
variable {c : Cn} {W : WX} {σ : L2.St} {m m' : List Addr} {I I' H H' : Hp} {s s' : Store} {Ad : Addr}
theorem msk_same : msk H Ad Ad = none := if_pos rfl
theorem msk_ne {a : Addr} (h : a ≠ Ad) : msk H Ad a = H a := if_neg h
theorem upd_msk {o : HO} (h : H Ad = some o) : upd (msk H Ad) Ad o = H := by
  funext a
  by_cases e : a = Ad
  · subst e; rw [upd_same, h]
  · rw [upd_ne e, msk_ne e]
theorem msk_upd {o : HO} (h : H Ad = none) : msk (upd H Ad o) Ad = H := by
  funext a
  by_cases e : a = Ad
  · subst e; rw [msk_same, h]
  · rw [msk_ne e, upd_ne e]
theorem msk_upd' {o : HO} : msk (upd H Ad o) Ad = msk H Ad := by
  funext a
  by_cases e : a = Ad
  · subst e; rw [msk_same, msk_same]
  · rw [msk_ne e, msk_ne e, upd_ne e]
theorem Ext.ofMsk : Ext m I (msk H Ad) m I H :=
  ⟨⟨[], (List.append_nil m).symm⟩, fun _ _ h => h, fun _ h => .inl h, fun _ _ h => .inl h, fun a o h _ => by
    by_cases e : a = Ad
    · subst e; rw [msk_same] at h; cases h
    · rw [msk_ne e] at h; exact h, fun a h => by
    by_cases e : a = Ad
    · subst e; exact msk_same
    · rw [msk_ne e]; exact h⟩
/-- the thing at Ad stays untold -/
theorem Ext.msk (e : Ext m I H m' I' H') : Ext m I (msk H Ad) m' I' (msk H' Ad) :=
  ⟨e.pre, e.im, fun a h => by
    rcases e.fm a h with q | q
    · exact .inl q
    · refine .inr ?_
      by_cases z : a = Ad
      · subst z; exact msk_same
      · rw [msk_ne z]; exact q, fun a o h => by
    rcases e.fi a o h with q | q
    · exact .inl q
    · refine .inr ?_
      by_cases z : a = Ad
      · subst z; exact msk_same
      · rw [msk_ne z]; exact q, fun a o h hm => by
    by_cases z : a = Ad
    · subst z; rw [msk_same] at h; cases h
    · rw [msk_ne z] at h ⊢; exact e.fr a o h hm, fun a h => by
    by_cases z : a = Ad
    · subst z; exact msk_same
    · rw [msk_ne z] at h ⊢; exact e.nv a h⟩
theorem Stt.msk (S : Stt c m I s H) (hm : Ad ∉ m) (hI : I Ad = none) : Stt c m I s (msk H Ad) :=
  ⟨S.len, S.nd, S.no, fun n a o h1 h2 => (S.cell n a o h1 h2).mono' (fun _ _ h => h) (fun _ _ h => h) fun u h => by
    rw [msk_ne (show a ≠ Ad from fun e => hm (e ▸ Stt.mem h1))]; exact h, fun a o h => by
    rw [msk_ne (ne_of_none h hI)]; exact S.sub a o h⟩
/-- and may be seen again, whatever it is now -/
theorem Stt.unmsk {o : HO} (S : Stt c m I s (D.msk H Ad)) (hm : Ad ∉ m) (hI : I Ad = none) : Stt c m I s H :=
  ⟨S.len, S.nd, S.no, fun n a o h1 h2 => (S.cell n a o h1 h2).mono' (fun _ _ h => h) (fun _ _ h => h) fun u h => by
    rw [msk_ne (show a ≠ Ad from fun e => hm (e ▸ Stt.mem h1))] at h; exact h, fun a o h => by
    have q := S.sub a o h
    rw [msk_ne (ne_of_none h hI)] at q; exact q⟩
theorem Stt.updU {o : HO} (S : Stt c m I s H) (hm : Ad ∉ m) (hI : I Ad = none) : Stt c m I s (upd H Ad o) :=
  ⟨S.len, S.nd, S.no, fun n a o h1 h2 => (S.cell n a o h1 h2).mono' (fun _ _ h => h) (fun _ _ h => h) fun u h => by
    rw [upd_ne (show a ≠ Ad from fun e => hm (e ▸ Stt.mem h1))]; exact h, fun a o h => by
    rw [upd_ne (ne_of_none h hI)]; exact S.sub a o h⟩
theorem Ext.nom {o : HO} (e : Ext m I H m' I' H') (hD : H Ad = some o) (hm : Ad ∉ m) : Ad ∉ m' := fun h => by
  rcases e.fm Ad h with q | q
  · exact hm q
  · rw [q] at hD; cases hD
theorem Ext.noi {o : HO} (e : Ext m I H m' I' H') (hD : H Ad = some o) (hI : I Ad = none) : I' Ad = none := by
  cases q : I' Ad with
  | none => rfl
  | some u =>
    rcases e.fi Ad u q with z | z
    · rw [hI] at z; cases z
    · rw [z] at hD; cases hD
theorem Rn.ofMsk {α : Type} {r : R α} {P : List Addr → Hp → Hp → Store → α → Prop} (h : Rn c W σ m I (D.msk H Ad) r P) : Rn c W σ m I H r P := h.ext Ext.ofMsk
/-- one step while Ad is held back -/
theorem Rn.mbind {α β : Type} {x : M α} {k : α → M β} {o : HO} {post : List Addr → Hp → Hp → Store → β → Prop} (hD : H Ad = some o) (hm : Ad ∉ m) (hI : I Ad = none) (h : Rn c W σ m I (D.msk H Ad) ((x >>= k) s) post) :
    Rn c W σ m I H (x s) fun m1 I1 H1 s1 a => Rn c W σ m1 I1 (D.msk H1 Ad) (k a s1) post := by
  have h1 := h.bind
  cases e : x s with
  | ok a s1 =>
    rw [e] at h1
    exact fun m1 I1 H1 e1 S1 => h1 m1 I1 (D.msk H1 Ad) e1.msk (S1.msk (e1.nom hD hm) (e1.noi hD hI))
  | ex z p s1 =>
    rw [e] at h1
    exact fun m1 I1 H1 C d e1 S1 r => h1 m1 I1 H1 C d (Ext.ofMsk.trans e1) S1 r
  | bad => rw [e] at h1; exact h1
variable (c) in
/-- a new list that no cell tells -/
def Pl (Q : VK) : List Addr → Hp → Hp → Store → List L → Prop := fun m' I' H' _ xs => ∀ D vs, H' D = none → Reps c m' I' xs vs → Q (.ref D) (upd H' D (.lst vs))
end
section
variable {G : Glb} {F : Fns} {n k : Nat} {N : List Str} {sc : Scope} {W : WX} {X : Cx}
def rdX (c : Cn) (W : WX) (f : Env → M (List L)) : TE := fun σ H Q => ∃ m I e s, Stt c m I s H ∧ EnvR c m I e σ ∧ Rn c W σ m I H (f e s) (Pl c Q)
abbrev DXn (G : Glb) (F : Fns) (n : Nat) (X : Cx) (W : WX) (d : DX) : TE := rdX (cOf X) W (denX G F n d)
theorem rdX_bind {c : Cn} {β : Type} {σ : L2.St} {H : Hp} {f : Env → M (List L)} {k : List L → Env → M β} {e : Env} {m : List Addr} {I : Hp} {s : Store} {post : List Addr → Hp → Hp → Store → β → Prop} (S : Stt c m I s H) (E : EnvR c m I e σ) (h : Rn c W σ m I H ((f e >>= fun x => k x e) s) post) {Q : VK}
    (q : ∀ m1 I1 H1 s1 x D vs, Ext m I H m1 I1 H1 → Stt c m1 I1 s1 H1 → EnvR c m1 I1 e σ → H1 D = none → Reps c m1 I1 x vs → Rn c W σ m1 I1 H1 (k x e s1) post → Q (.ref D) (upd H1 D (.lst vs))) : rdX c W f σ H Q :=
  ⟨m, I, e, s, S, E, h.bind.mono fun m1 I1 H1 s1 a e1 S1 r D vs hD rv => q m1 I1 H1 s1 a D vs e1 S1 (E.mono e1) hD rv r⟩
theorem x_disp {es : DEs} {xs : List Expr} {pos : Pos} (ha : PA X xs (DAn G F n X W es)) : PE X (.List xs pos) (DXn G F n X W (.disp es)) := (pe_lst ha).imp fun σ H Q ⟨m, I, e, s, S, E, h⟩ =>
  rdA_bind (k := fun vs _ => if vs.length ≤ szMax then pure vs else die) S E h fun m1 I1 H1 s1 x u e1 S1 E1 ru h1 => by
    obtain ⟨hz, h1⟩ := ite_die h1
    exact ⟨by rw [← ru.length]; exact sz_le hz, fun p hp => Rn.pure S1 h1 p u hp ru⟩
theorem l_lc {s : DX} {x : Expr} (hx : PE X x (DXn G F n X W s)) : PE X x (DEn G F n X W (.lc s)) := hx.imp fun σ H Q ⟨m, I, e, st, S, E, h⟩ =>
  rdX_bind (k := fun xs _ => alloc (.lst xs)) S E h fun m1 I1 H1 s1 x D vs e1 S1 E1 hD rv h1 => S1.newLv rv h1 D hD
/-- a place of it -/
theorem l_idxX (xe : XE0 G F k N sc W X) {s : DX} {b : DE} {x y : Expr} {pos : Pos} (hs : isSlice y = false) (hx : PE X x (DXn G F n X W s)) (hb : PE X y (DEn G F n X W b)) : PE X (.Subscript x y pos) (DEn G F n X W (.idxX s b)) :=
  (pe_ix (ix_all (by have := xe.hu; omega)) hx hb (plain_ix hs)).imp fun σ H Q ⟨m, I, e, st, S, E, h⟩ =>
  rdX_bind (k := fun xs e => den G F n b e >>= fun y => match y with
    | .int i => ofO (L2.atI xs i)
    | _ => die) S E h fun m1 I1 H1 s1 xs D vs e1 S1 E1 hD rv h1 => by
    obtain ⟨e2, S2⟩ := S1.newU (o := .lst vs) hD
    obtain ⟨nm, ni⟩ := S1.fresh hD
    refine rdE_bind (k := fun y _ => match y with
      | .int i => ofO (L2.atI xs i)
      | _ => die) S2 (E1.mono e2) (h1.ext e2) fun m3 I3 H3 s3 y w e3 S3 E3 rw_ h3 => ?_
    cases rw_ with
    | int i =>
      obtain ⟨a, q1, q2⟩ := rn_ofO S3 h3
      obtain ⟨z, q3, r⟩ := ((rv.mono e2).mono e3).atI q1
      exact .inl (.inl ⟨_, _, _, _, rfl, rfl, SqL.of (e3.fr _ _ upd_same nm), q3, q2 _ r⟩)
    | _ => exact h3.elim
/-- in it -/
theorem inX_run {s : DX} {a : DE} {σ : L2.St} {H : Hp} {Q : VK} (h : DEn G F n X W (.inX a s) σ H Q) : tOp (rInD X.K) (DEn G F n X W a) (DXn G F n X W s) σ H Q := by
  obtain ⟨m, I, e, st, S, E, h⟩ := h
  refine rdE_bind (k := fun x e => denX G F n s e >>= fun xs => inM x xs >>= fun b => pure (L.bl b)) S E h fun m1 I1 H1 s1 x u e1 S1 E1 ru h1 => ?_
  refine rdX_bind (k := fun xs _ => inM x xs >>= fun b => pure (L.bl b)) S1 E1 h1 fun m2 I2 H2 s2 xs D vs e2 S2 E2 hD rv h2 => ?_
  obtain ⟨e3, S3⟩ := S2.newU (o := .lst vs) hD
  obtain ⟨d, ds, a1, a2, a3, a4, a5⟩ := inM_rd S3 ((ru.mono e2).mono e3) upd_same (rv.mono e3) (rn_ret (f := fun b => L.bl b) (h2.ext e3)) (Q := fun b => Q (.bl b) (upd H2 D (.lst vs))) fun b q => q _ (.bl b)
  exact ⟨d, ds, a1, a2, a3, a4, a5⟩
theorem l_inX (xe : XE0 G F k N sc W X) {s : DX} {a : DE} {x y : Expr} {op : CmpOp} {pos : Pos} (hop : op = .In) (hm : behindInMarks op y = false) (ha : PE X x (DEn G F n X W a)) (hy : PE X y (DXn G F n X W s)) : PE X (.Compare x [op] [y] pos) (DEn G F n X W (.inX a s)) := by
  subst hop
  exact (pe_cmpR (op_inD xe.hu) ha hy hm).imp fun σ H Q h => inX_run h
theorem bls_rep {c : Cn} {m : List Addr} {I : Hp} : ∀ {x : List L} {v : List V} {bs : List Bool}, blsOf x = some bs → Reps c m I x v → v = bs.map V.bl
  | [], _, _, e, .nil => by cases e; rfl
  | x :: r, _, bs, e, .cons h1 h2 => by
    cases h1 with
    | bl b =>
      have e' : (blsOf r).map (b :: ·) = some bs := e
      cases q : blsOf r with
      | none => rw [q] at e'; cases e'
      | some bs' =>
        rw [q] at e'
        cases e'
        rw [bls_rep q h2]
        rfl
    | _ => cases e
theorem l_bxTup (xe : XE0 G F k N sc W X) {s : DX} {x : Expr} {p pos : Pos} (hg : glB sc "tuple" = true) (hx : isStar x = false) (ha : PE X x (DXn G F n X W s)) : PE X (.Call (.Name "tuple" p) [x] [] pos) (DEn G F n X W (.bx .tuple s)) :=
  (pe_callTy call_tuple_of (xe.gl hg) (xe.fx.bn _ (by decide)) boot_tuple (pa_cons ha pa_nil (star_cons hx)) (by decide) (by decide) (star_cons hx) (star_any (by rfl))).imp fun σ H Q ⟨m, I, e, st, S, E, h⟩ =>
  rdX_bind (k := fun xs _ => bxM .tuple xs) S E h fun m1 I1 H1 s1 xs D vs e1 S1 E1 hD rv h1 => by
    obtain ⟨e2, S2⟩ := S1.newU (o := .lst vs) hD
    exact ⟨_, _, rfl, .inl ⟨SqL.of upd_same, S2.newTv (rv.mono e2) fun m' I' H' e' S' u ru => h1 m' I' H' (e2.trans e') S' u ru⟩⟩
theorem l_bxAll (xe : XE0 G F k N sc W X) {s : DX} {x : Expr} {p pos : Pos} (hg : glB sc "all" = true) (hx : isStar x = false) (ha : PE X x (DXn G F n X W s)) : PE X (.Call (.Name "all" p) [x] [] pos) (DEn G F n X W (.bx .all s)) :=
  (pe_callB (cr_all xe.calm) (xe.gl hg) (xe.fx.bn _ (by decide)) boot_all (pa_cons ha pa_nil (star_cons hx)) (by decide) (by decide) (star_cons hx) (star_any (by rfl))).imp fun σ H Q ⟨m, I, e, st, S, E, h⟩ =>
  rdX_bind (k := fun xs _ => bxM .all xs) S E h fun m1 I1 H1 s1 xs D vs e1 S1 E1 hD rv h1 => by
    obtain ⟨e2, S2⟩ := S1.newU (o := .lst vs) hD
    have h2 : Rn (cOf X) W σ m1 I1 H1 ((match blsOf xs with
      | some bs => (pure (.bl (bs.all id)) : M L)
      | none => die) s1) (Pv (cOf X) Q) := h1
    cases q : blsOf xs with
    | none => rw [q] at h2; exact h2.elim
    | some bs =>
      rw [q] at h2
      have ev := bls_rep q rv
      subst ev
      exact ⟨_, bs, rfl, SqL.of upd_same, h2 m1 I1 _ e2 S2 _ (.bl _)⟩
theorem l_bxAny (xe : XE0 G F k N sc W X) {s : DX} {x : Expr} {p pos : Pos} (hg : glB sc "any" = true) (hx : isStar x = false) (ha : PE X x (DXn G F n X W s)) : PE X (.Call (.Name "any" p) [x] [] pos) (DEn G F n X W (.bx .any s)) :=
  (pe_callB (cr_any xe.calm) (xe.gl hg) (xe.fx.bn _ (by decide)) boot_any (pa_cons ha pa_nil (star_cons hx)) (by decide) (by decide) (star_cons hx) (star_any (by rfl))).imp fun σ H Q ⟨m, I, e, st, S, E, h⟩ =>
  rdX_bind (k := fun xs _ => bxM .any xs) S E h fun m1 I1 H1 s1 xs D vs e1 S1 E1 hD rv h1 => by
    obtain ⟨e2, S2⟩ := S1.newU (o := .lst vs) hD
    have h2 : Rn (cOf X) W σ m1 I1 H1 ((match blsOf xs with
      | some bs => (pure (.bl (bs.any id)) : M L)
      | none => die) s1) (Pv (cOf X) Q) := h1
    cases q : blsOf xs with
    | none => rw [q] at h2; exact h2.elim
    | some bs =>
      rw [q] at h2
      have ev := bls_rep q rv
      subst ev
      exact ⟨_, bs, rfl, SqL.of upd_same, h2 m1 I1 _ e2 S2 _ (.bl _)⟩
/-! ### slices -/
def POd (X : Cx) (W : WX) (e : Option Expr) (f : Env → M (Option L)) : Prop := ∃ t, PO X e t ∧ ∀ (σ : L2.St) (H : Hp) (m : List Addr) (I : Hp) (ev : Env) (s : Store) (β : Type) (kk : Option Int → M β) (post : List Addr → Hp → Hp → Store → β → Prop) (Q : Option Int → Hp → Prop), Stt (cOf X) m I s H → EnvR (cOf X) m I ev σ → Rn (cOf X) W σ m I H ((f ev >>= fun o => partM o >>= kk) s) post →
  (∀ m1 I1 H1 s1 i, Ext m I H m1 I1 H1 → Stt (cOf X) m1 I1 s1 H1 → EnvR (cOf X) m1 I1 ev σ → Rn (cOf X) W σ m1 I1 H1 (kk i s1) post → Q i H1) → t σ H Q
theorem po_non : POd X W none (denO G F n .non) := ⟨tNoPart, po_none, fun σ H m I ev s β kk post Q S E h q => q m I H s none Ext.rfl' S E h⟩
theorem po_som {a : DE} {x : Expr} (ha : PE X x (DEn G F n X W a)) : POd X W (some x) (denO G F n (.som a)) := by
  refine ⟨tPart _, po_some ha, fun σ H m I ev s β kk post Q S E h q => ?_⟩
  have h' : Rn (cOf X) W σ m I H ((den G F n a ev >>= fun v => partM (some v) >>= kk) s) post := by
    have e : (den G F n a ev >>= fun v => partM (some v) >>= kk) s = (denO G F n (.som a) ev >>= fun o => partM o >>= kk) s := by
      show _ = ((den G F n a ev >>= fun v => pure (some v)) >>= fun o => partM o >>= kk) s
      rw [bnd_asc]
      rfl
    rw [e]; exact h
  refine rdE_bind (k := fun v _ => partM (some v) >>= kk) S E h' fun m1 I1 H1 s1 x u e1 S1 E1 ru h1 => ?_
  cases ru with
  | int i => exact ⟨i, rfl, q m1 I1 H1 s1 (some i) e1 S1 E1 h1⟩
  | _ => exact h1.elim
def rSlAll (K : PySem.W.Frag) : V → Option Int → Option Int → Hp → VK → Prop := fun x lo hi H Q => rSlA K x lo hi H Q ∨ rSlL K x lo hi H Q ∨ rSlS x lo hi H Q
theorem sl_all3 : SlR X (rSlAll X.K) := SlR.or sl_tupA (SlR.or sl_list sl_str)
theorem cutL_all {xs : List L} {lo hi : Option Int} (h : HT.sIx xs.length 0 lo = 0 ∧ HT.sIx xs.length xs.length hi = xs.length) : cutL xs lo hi = xs := by
  unfold cutL
  rw [h.1, h.2]
  simp
theorem l_slc {a : DE} {lo hi : DO} {x : Expr} {l h : Option Expr} {p2 pos : Pos} (ha : PE X x (DEn G F n X W a)) (hl : POd X W l (denO G F n lo)) (hh : POd X W h (denO G F n hi)) : PE X (.Subscript x (.Slice l h none p2) pos) (DEn G F n X W (.slc a lo hi)) := by
  obtain ⟨tl, pl, ql⟩ := hl
  obtain ⟨th, ph, qh⟩ := hh
  refine (pe_slice sl_all3 ha pl ph).imp fun σ H Q ⟨m, I, e, s, S, E, hr⟩ => ?_
  refine rdE_bind (k := fun x e => denO G F n lo e >>= fun o => partM o >>= fun l => denO G F n hi e >>= fun o => partM o >>= fun h => slcM x l h) S E hr fun m1 I1 H1 s1 x u e1 S1 E1 ru h1 => ?_
  refine ql σ H1 m1 I1 e s1 _ (fun l => denO G F n hi e >>= fun o => partM o >>= fun h => slcM x l h) _ _ S1 E1 h1 fun m2 I2 H2 s2 i e2 S2 E2 h2 => ?_
  refine qh σ H2 m2 I2 e s2 _ (fun h => slcM x i h) _ _ S2 E2 h2 fun m3 I3 H3 s3 j e3 S3 E3 h3 => ?_
  have rx := (ru.mono e2).mono e3
  revert h3
  cases rx with
  | tup hp hr =>
    intro h3
    refine .inl ⟨_, _, rfl, S3.sq hp, fun w => ?_, fun w => ?_⟩
    · rw [← hr.length] at w
      have h4 := Rn.pure S3 h3
      rw [cutL_all w] at h4
      exact h4 _ (.tup hp hr)
    · exact S3.newTv (hr.cut i j) fun m' I' H' e S' u ru => h3 m' I' H' e S' u ru
  | str z =>
    intro h3
    obtain ⟨hz, h3⟩ := ite_die h3
    exact .inr (.inr ⟨z, rfl, sz_le hz, Rn.pure S3 h3 _ (.str _)⟩)
  | loc hc =>
    rename_i j0 a0
    intro h3
    have h4 : Rn (cOf X) W σ m3 I3 H3 ((slcX (.loc j0) i j >>= fun xs => alloc (.lst xs)) s3) (Pv (cOf X) Q) := h3
    have h5 : Rn (cOf X) W σ m3 I3 H3 ((getC j0 >>= fun ob => (match ob with
      | .lst xs => pure (cutL xs i j)
      | _ => die : M (List L)) >>= fun xs => alloc (.lst xs)) s3) (Pv (cOf X) Q) := by
      rw [← bnd_asc]; exact h4
    obtain ⟨o, e1, r1, h6⟩ := Rn.getC S3 hc h5
    cases o with
    | lst xs =>
      obtain ⟨vs, g1, q1⟩ := r1
      exact .inr (.inl ⟨_, _, rfl, SqL.of g1, S3.newLv (q1.cut i j) h6⟩)
    | _ => exact h6.elim
  | _ => intro h3; exact h3.elim
/-! ### append -/
theorem star_few {e : Expr} {es : List Expr} {pos : Pos} {env : PySem.Env} (hs : (e :: es).all (fun e => !isStar e) = true) (hl : (e :: es).length < 30) :
    ((backTo pos (starEach (e :: es) env)).all (fun x => !x.1) && (backToKw pos (keywordEach [] env)).all (fun x => x.1.isSome)
      && decide ((e :: es).length + ([] : List Keyword).length + (if ([] : List Keyword).isEmpty then 0 else 1) < 30)) = true := by
  rw [star_all hs]
  show (true && true && decide ((e :: es).length + 0 + 0 < 30)) = true
  simpa using hl
theorem l_append {o v : DE} {y x : Expr} {apos pos : Pos} (hb : plainBase y = true) (hx : isStar x = false) (hp : (apos.endLine == pos.line) = true)
    (ho : PE X y (DEn G F n X W o)) (ha : PE X x (DEn G F n X W v)) : PE X (.Call (.Attribute y "append" apos) [x] [] pos) (DEn G F n X W (.bm .append o (.cons v .nil))) := by
  refine (pe_bm (T := "list") PySem.F.plainAttrs_list PySem.F.slot_list_append PySem.F.type_list_append (fun pins s σ H x xs v us Q I rx rv h => mt_append pins s σ H x xs v us Q I rx rv h) ho (pa_cons ha pa_nil (star_cons hx)) (base_of hb) (star_few (by simp [hx]) (by simp)) hp (star_cons hx) (star_any (by rfl))).imp fun σ H Q ⟨m, I, e, s, S, E, h⟩ => ?_
  have h' : Rn (cOf X) W σ m I H ((den G F n o e >>= fun x => bmK .append x >>= fun _ => den G F n v e >>= fun y => bmM G.kd .append x [y]) s) (Pv (cOf X) Q) := by
    have e1 : (den G F n o e >>= fun x => bmK .append x >>= fun _ => den G F n v e >>= fun y => bmM G.kd .append x [y]) s = den G F n (.bm .append o (.cons v .nil)) e s := by
      show _ = (den G F n o e >>= fun x => bmK .append x >>= fun _ => dens G F n (.cons v .nil) e >>= fun vs => bmM G.kd .append x vs) s
      refine bnd_congr fun x s => bnd_congr fun _ s => ?_
      show _ = ((den G F n v e >>= fun y => (pure [] : M (List L)) >>= fun ys => pure (y :: ys)) >>= fun vs => bmM G.kd .append x vs) s
      rw [bnd_asc]
      rfl
    rw [e1]; exact h
  refine rdE_bind (k := fun x e => bmK .append x >>= fun _ => den G F n v e >>= fun y => bmM G.kd .append x [y]) S E h' fun m1 I1 H1 s1 x u e1 S1 E1 ru h1 => ?_
  cases ru with
  | loc ha =>
    rename_i j a
    have h1' : Rn (cOf X) W σ m1 I1 H1 ((getC j >>= fun ob => (match ob with
      | .lst _ => pure ()
      | _ => die : M Unit) >>= fun _ => den G F n v e >>= fun y => bmM G.kd .append (.loc j) [y]) s1) (Pv (cOf X) Q) := by
      rw [← bnd_asc]; exact h1
    obtain ⟨ob, e2, r1, h2⟩ := Rn.getC S1 ha h1'
    cases ob with
    | lst xs =>
      obtain ⟨vs, g1, q1⟩ := r1
      refine ⟨.inl ⟨rfl, vs, SqL.of g1⟩, ?_⟩
      refine rdE_bind (k := fun y _ => bmM G.kd .append (.loc j) [y]) S1 E1 h2 fun m3 I3 H3 s3 y w e3 S3 E3 rw_ h3 => ?_
      have h4 : Rn (cOf X) W σ m3 I3 H3 ((getC j >>= fun ob => match ob with
        | .lst xs => if xs.length < szMax then putC j (.lst (xs ++ [y])) >>= fun _ => pure .non else die
        | _ => die) s3) (Pv (cOf X) Q) := h3
      obtain ⟨ob, e5, r3, h5⟩ := Rn.getC S3 (e3.get ha) h4
      cases ob with
      | lst zs =>
        obtain ⟨hz, h5⟩ := ite_die h5
        obtain ⟨ws, g3, q3⟩ := r3
        refine ⟨_, _, _, rfl, rfl, g3, by rw [← q3.length]; exact sz_lt hz, ?_⟩
        obtain ⟨e6, S6⟩ := S3.put (b := .lst (zs ++ [y])) (o := .lst (ws ++ [w])) (e3.get ha) ⟨_, upd_same, q3.append (.cons rw_ .nil)⟩
        exact h5 m3 I3 _ e6 S6 _ .non
      | _ => exact h5.elim
    | _ => exact h2.elim
  | _ => exact h1.elim
end
end D
end

section
set_option maxRecDepth 100000
set_option maxHeartbeats 1000000
/-! D1l: dict displays; targets; what is walked; list comprehensions. -/
namespace D
open PySem PySem.Spec PyProof.Rows L2
section
variable {c : Cn} {W : WX} {σ : L2.St} {m m' : List Addr} {I I' H H' : Hp} {s s' : Store}
theorem RepK.any {x : List (Str × L)} {v : List (Key × V)} (h : RepK c m I x v) (k : Str) : (v.any fun kv => decide (kv.1 = .inr k)) = x.any fun kv => decide (kv.1 = k) := by
  induction h with
  | nil => rfl
  | cons r h' ih =>
    rename_i k' a u xs vs
    rw [List.any_cons, List.any_cons, ih]
    congr 1
    by_cases e : k' = k
    · subst e; simp
    · have e' : ¬ ((Sum.inr k' : Key) = Sum.inr k) := fun z => e (Sum.inr.inj z)
      simp [e]
theorem RepK.append {x y : List (Str × L)} {v w : List (Key × V)} (h : RepK c m I x v) (h' : RepK c m I y w) : RepK c m I (x ++ y) (v ++ w) := by
  induction h with
  | nil => exact h'
  | cons r _ ih => exact .cons r ih
theorem RepK.put {x : List (Str × L)} {v : List (Key × V)} (h : RepK c m I x v) {k : Str} {a : L} {u : V} (r : Rep c m I a u) : RepK c m I (putD k a x) (putK v (.inr k) u) := by
  unfold putD putK
  rw [h.any k]
  by_cases e : (x.any fun kv => decide (kv.1 = k)) = true
  · rw [if_pos e, if_pos e]
    clear e
    induction h with
    | nil => exact .nil
    | cons r' h' ih =>
      rename_i k' a' u' xs vs
      rw [List.map_cons, List.map_cons]
      by_cases e : k' = k
      · subst e
        rw [if_pos rfl, if_pos rfl]
        exact .cons r ih
      · have e' : ¬ ((Sum.inr k' : Key) = Sum.inr k) := fun z => e (Sum.inr.inj z)
        rw [if_neg e, if_neg e']
        exact .cons r' ih
  · rw [if_neg e, if_neg e]
    exact h.append (.cons r .nil)
theorem RepK.merge {ks : List Str} {xs : List L} {us : List V} (h : Reps c m I xs us) {x : List (Str × L)} {v : List (Key × V)} (h0 : RepK c m I x v) :
    RepK c m I ((ks.zip xs).foldl (fun acc kv => putD kv.1 kv.2 acc) x) (mergeK v ((ks.zip us).map fun p => ((Sum.inr p.1 : Key), p.2))) := by
  induction ks generalizing xs us x v with
  | nil => exact h0
  | cons k ks ih =>
    cases h with
    | nil => exact h0
    | cons h1 h2 => exact ih h2 (h0.put h1)
end
section
variable {G : Glb} {F : Fns} {n k : Nat} {N : List Str} {sc : Scope} {W : WX} {X : Cx}
/-- the pairs of a display -/
def PPd (X : Cx) (W : WX) (pos : Pos) (keys : List (Option Expr)) (values : List Expr) (ks : List Str) (f : Env → M (List L)) : Prop := ∃ trs, PPs X pos keys values trs ∧
  ∀ (σ : L2.St) (H : Hp) (m : List Addr) (I : Hp) (ev : Env) (s : Store) (D : Addr) (o : HO) (β : Type) (kk : List L → M β) (post : List Addr → Hp → Hp → Store → β → Prop) (Q : List (V × V) → Hp → Prop),
    Stt (cOf X) m I s H → EnvR (cOf X) m I ev σ → H D = some o → D ∉ m → I D = none → Rn (cOf X) W σ m I (msk H D) ((f ev >>= kk) s) post →
    (∀ m1 I1 H1 s1 xs us, Ext m I H m1 I1 H1 → Stt (cOf X) m1 I1 s1 H1 → Reps (cOf X) m1 I1 xs us → xs.length = ks.length → Rn (cOf X) W σ m1 I1 (msk H1 D) (kk xs s1) post → Q ((ks.zip us).map fun p => (V.str p.1, p.2)) H1) → tPairs trs σ H Q
theorem ppd_nil {pos : Pos} : PPd X W pos [] [] [] (dens G F n .nil) := ⟨[], pps_nil, fun σ H m I ev s D o β kk post Q S E hD hm hI h q => q m I H s [] [] Ext.rfl' S .nil rfl h⟩
theorem ppd_cons {pos p : Pos} {j : Nat} {k : Str} {v : Expr} {a : DE} {r : DEs} {ks : List Str} {keys : List (Option Expr)} {values : List Expr} (ha : PE X v (DEn G F n X W a)) (hr : PPd X W pos keys values ks (dens G F n r)) :
    PPd X W pos (some (.Constant (.str k) j p) :: keys) (v :: values) (k :: ks) (dens G F n (.cons a r)) := by
  obtain ⟨trs, hp, q0⟩ := hr
  refine ⟨(tC (.str k), DEn G F n X W a) :: trs, pps_cons pe_str ha hp, fun σ H m I ev s D o β kk post Q S E hD hm hI h q => ?_⟩
  show DEn G F n X W a σ H fun y H2 => tPairs trs σ H2 fun ps H3 => Q ((V.str k, y) :: ps) H3
  have h1 : Rn (cOf X) W σ m I (msk H D) ((den G F n a ev >>= fun x => dens G F n r ev >>= fun xs => kk (x :: xs)) s) post := by
    have e : (den G F n a ev >>= fun x => dens G F n r ev >>= fun xs => kk (x :: xs)) s = (dens G F n (.cons a r) ev >>= kk) s := by
      show _ = ((den G F n a ev >>= fun x => dens G F n r ev >>= fun xs => pure (x :: xs)) >>= kk) s
      rw [bnd_asc]
      refine bnd_congr fun x s => ?_
      rw [bnd_asc]
      rfl
    rw [e]; exact h
  refine ⟨m, I, ev, s, S, E, (h1.mbind hD hm hI).mono fun m1 I1 H1 s1 x e1 S1 h2 u ru => ?_⟩
  have hm1 := e1.nom hD hm
  refine q0 σ H1 m1 I1 ev s1 D o β (fun xs => kk (x :: xs)) post _ S1 (E.mono e1) (e1.fr _ _ hD hm) hm1 (e1.noi hD hI) h2 fun m2 I2 H2 s2 xs us e2 S2 rs hl h3 => ?_
  exact q m2 I2 H2 s2 (x :: xs) (u :: us) (e1.trans e2) S2 (.cons (ru.mono e2) rs) (by rw [List.length_cons, List.length_cons, hl]) h3
theorem l_dSc {ks : List Str} {vs : DEs} {keys : List (Option Expr)} {values : List Expr} {pos : Pos} (h : PPd X W pos keys values ks (dens G F n vs)) (hall : keys.all (·.isSome) = true) (hl : keys.length = values.length) (h0 : keys ≠ []) (h15 : keys.length ≤ 15) (hk : ks.length ≤ 15) :
    PE X (.Dict keys values pos) (DEn G F n X W (.dSc ks vs)) := by
  obtain ⟨trs, hp, q⟩ := h
  refine (pe_disp hp hall hl h0 h15).imp fun σ H Q ⟨m, I, e, s, S, E, h⟩ p hfr => ?_
  obtain ⟨e1, S1⟩ := S.newU (o := .dK []) hfr
  obtain ⟨nm, ni⟩ := S.fresh hfr
  refine q σ _ m I e s p (.dK []) _ (fun xs => if ks.length = xs.length ∧ ks.length ≤ 15 then alloc (.dS (merge (ks.zip xs))) else die) _ _ S1 (E.mono e1) upd_same nm ni (by rw [msk_upd hfr]; exact h) fun m2 I2 H2 s2 xs us e2 S2 rs hlen h3 => ?_
  obtain ⟨⟨hz, _⟩, h3⟩ := ite_die h3
  have hD2 := e2.fr _ _ upd_same nm
  refine ⟨hD2, (ks.zip us).map fun p => ((Sum.inr p.1 : Key), p.2), ?_, ?_, ?_⟩
  · rw [List.map_map]; rfl
  · rw [List.length_map, List.length_zip]; omega
  · have hm2 := e2.nom upd_same nm
    have hi2 := e2.noi upd_same ni
    have r2 : RepK (cOf X) m2 I2 (merge (ks.zip xs)) (mergeK [] ((ks.zip us).map fun p => ((Sum.inr p.1 : Key), p.2))) := RepK.merge rs .nil
    have q2 := (S2.msk hm2 hi2).newKv r2 h3 p msk_same
    have e4 : upd (msk H2 p) p (.dK (mergeK [] ((ks.zip us).map fun p => ((Sum.inr p.1 : Key), p.2)))) = upd H2 p (.dK (mergeK [] ((ks.zip us).map fun p => ((Sum.inr p.1 : Key), p.2)))) := by
      funext b
      by_cases z : b = p
      · subst z; rw [upd_same, upd_same]
      · rw [upd_ne z, upd_ne z, msk_ne z]
    rw [← e4]
    exact q2
end
end D
end

section
set_option maxRecDepth 100000
set_option maxHeartbeats 1000000
/-! D1m: zip of two and of three, enumerate, over lists and tuples. -/
namespace D
open PySem PySem.Spec PyProof.Rows L2
def SqX (K : PySem.W.Frag) (q : Bool) (H : Hp) (a : Addr) (xs : List V) : Prop := match q with
  | true => SqL K H a xs
  | false => SqT K H a xs
def IterX (q : Bool) (h : Heap) (it a : Addr) (i : Nat) : Prop := match q with
  | true => h.IsListIter it a i
  | false => h.IsTupleIter it a i
def SeqX (q : Bool) (h : Heap) (a : Addr) (its : Array Value) : Prop := match q with
  | true => h.IsList a its
  | false => h.IsTuple a its
theorem inv_seqX {X : Cx} {pins : List (Addr × Obj)} {σ : L2.St} {H : Hp} {s : Shared} {q : Bool} {a : Addr} {xs : List V} (I : Inv X pins σ H s) (h : SqX X.K q H a xs) : ∃ its : List Value, Vals xs its ∧ SeqX q s.heap a its.toArray ∧ a < s.heap.objs.size := by
  cases q with
  | true =>
    obtain ⟨its, r, p, _⟩ := I.list h
    exact ⟨its, r, p.isList, p.lt⟩
  | false =>
    obtain ⟨its, r, p, _⟩ := I.tuple h
    obtain ⟨o, ho, _⟩ := id p
    exact ⟨its, r, p, Heap.lt_size ho⟩
theorem seqX_inj {X : Cx} {pins : List (Addr × Obj)} {σ : L2.St} {H : Hp} {s : Shared} {q : Bool} {a : Addr} {xs ys : List V} (I : Inv X pins σ H s) (h : SqX X.K q H a xs) (h' : SqX X.K q H a ys) : xs = ys := by
  cases q with
  | true => exact I.list_inj h h'
  | false => exact I.tuple_inj h h'
theorem drawsX {prog : Program} {w : World} {A : Around} (hh : A.handled = none) (q : Bool) (it a : Addr) (hne : a ≠ it) (its : Array Value) :
    Draws prog w A it [it, a] its.size (fun i v => its[i]? = some v) (fun i h => IterX q h it a i ∧ SeqX q h a its) := by
  cases q with
  | true => exact Draws.list hh it a hne its
  | false => exact Draws.tuple hh it a hne its
theorem begX (q : Bool) (a : Addr) (its : Array Value) : ∃ o, Begins (.ref a) o (fun h => SeqX q h a its) ∧ (∀ h it, h.get? it = some o → IterX q h it a 0) := by
  cases q with
  | true => exact ⟨_, begins_list a its, fun h it e => ⟨_, e, rfl, rfl⟩⟩
  | false => exact ⟨_, begins_tuple a its, fun h it e => ⟨_, e, rfl, rfl⟩⟩
theorem iterX_at {q : Bool} {h h' : Heap} {it a : Addr} {i : Nat} (x : IterX q h it a i) (k : ∀ o, h.get? it = some o → h'.get? it = some o) : IterX q h' it a i := by
  cases q with
  | true => exact Heap.IsListIter.at x k
  | false => exact Heap.IsTupleIter.at x k
theorem iterX_obj {q : Bool} {h : Heap} {it a : Addr} {i : Nat} (x : IterX q h it a i) : ∃ o, h.get? it = some o ∧ ∀ v, o.data ≠ .cell v := by
  cases q with
  | true => obtain ⟨o, e, _, d⟩ := x; exact ⟨o, e, fun v z => by rw [d] at z; cases z⟩
  | false => obtain ⟨o, e, _, d⟩ := x; exact ⟨o, e, fun v z => by rw [d] at z; cases z⟩
/-! ### zip of three -/
def Iz3 (K : PySem.W.Frag) (q1 q2 q3 : Bool) (a b d : Addr) : It :=
  ⟨fun i H => ∃ (xs ys zs : List V) (x y z : V), SqX K q1 H a xs ∧ SqX K q2 H b ys ∧ SqX K q3 H d zs ∧ xs[i]? = some x ∧ ys[i]? = some y ∧ zs[i]? = some z,
    fun i H v H' => ∃ T x y z, v = .ref T ∧ H T = none ∧ H' = upd H T (.tup [x, y, z]) ∧ (∀ xs, SqX K q1 H a xs → xs[i]? = some x) ∧ (∀ ys, SqX K q2 H b ys → ys[i]? = some y) ∧ ∀ zs, SqX K q3 H d zs → zs[i]? = some z,
    fun i H => ∃ xs ys zs : List V, SqX K q1 H a xs ∧ SqX K q2 H b ys ∧ SqX K q3 H d zs ∧ i = min (min xs.length ys.length) zs.length⟩
theorem lt_of_some {α : Type} {l : List α} {i : Nat} {x : α} (h : l[i]? = some x) : i < l.length := (List.getElem?_eq_some_iff.mp h).1
theorem turn_zip3 {P : Program} {w : World} {K : PySem.W.Frag} {elts : List Expr} {kk : Nat} {tpos : Pos} {q1 q2 q3 : Bool} {a b d z TI TO i1 i2 i3 : Addr} (D : ZipSep3 z TI TO i1 i2 i3 [i1, a] [i2, b] [i3, d]) (n1 : a ≠ i1) (n2 : b ≠ i2) (n3 : d ≠ i3) :
    Turn P w K (.Tuple elts kk tpos) (Iz3 K q1 q2 q3 a b d) [z, TI, TO, i1, i2, i3] z
      (fun i h => IsZip h z TI TO .none ∧ IsTupOf3 h TI (.ref i1) (.ref i2) (.ref i3) ∧ (∃ x y u, IsTupOf3 h TO x y u) ∧ IterX q1 h i1 a i ∧ IterX q2 h i2 b i ∧ IterX q3 h i3 d i) where
  mem := by simp
  obj := fun i h st c hc => by
    obtain ⟨hz, hTI, ⟨x, y, u, hTO⟩, s1, s2, s3⟩ := st
    have e' : c = z ∨ c = TI ∨ c = TO ∨ c = i1 ∨ c = i2 ∨ c = i3 := by simpa using hc
    rcases e' with q | q | q | q | q | q
    · rw [q]; exact ⟨_, hz, fun v q => nomatch q⟩
    · rw [q]; exact ⟨_, hTI, fun v q => nomatch q⟩
    · rw [q]; exact ⟨_, hTO, fun v q => nomatch q⟩
    · rw [q]; exact iterX_obj s1
    · rw [q]; exact iterX_obj s2
    · rw [q]; exact iterX_obj s3
  keep := fun i h h' st k => by
    obtain ⟨hz, hTI, ⟨x, y, u, hTO⟩, s1, s2, s3⟩ := st
    exact ⟨k z (by simp) _ hz, k TI (by simp) _ hTI, ⟨x, y, u, k TO (by simp) _ hTO⟩, iterX_at s1 (k i1 (by simp)), iterX_at s2 (k i2 (by simp)), iterX_at s3 (k i3 (by simp))⟩
  item := by
    intro X hP hw hK hc i pins s σ H E I hf st hg
    subst hP hw hK
    obtain ⟨hz, hTI, hTO, s1, s2, s3⟩ := st
    obtain ⟨xs, ys, zs, x, y, u, p1, p2, p3, e1, e2, e3⟩ := hg
    obtain ⟨t1, r1, g1, _⟩ := inv_seqX I p1
    obtain ⟨t2, r2, g2, _⟩ := inv_seqX I p2
    obtain ⟨t3, r3, g3, _⟩ := inv_seqX I p3
    have hh : X.A.in1.handled = none := I.ok.hd hc
    have W := GoesN.zip3 (elts := elts) (x1 := kk) (pos := tpos) D (drawsX (prog := X.prog) (w := X.w) hh q1 i1 a n1 t1.toArray) (drawsX hh q2 i2 b n2 t2.toArray) (drawsX hh q3 i3 d n3 t3.toArray)
    have l1 := lt_of_some e1
    have l2 := lt_of_some e2
    have l3 := lt_of_some e3
    have z1 := r1.length
    have z2 := r2.length
    have z3 := r3.length
    refine W.goes i s (fun v s2 => ∃ x H', Inv X pins σ H' s2 ∧ RelV x v ∧ (Iz3 X.K q1 q2 q3 a b d).yld i H x H' ∧ _ ∧ ∀ b ∈ [z, TI, TO, i1, i2, i3], H' b = none) E (by simp only [List.size_toArray]; omega) ⟨hz, hTI, hTO, ⟨s1, g1⟩, ⟨s2, g2⟩, ⟨s3, g3⟩⟩ fun v h' tk ⟨T, u1, u2, u3, ev, hT, f1, f2, f3, ht⟩ st' hk htk => ?_
    subst ev
    obtain ⟨w1, c1, k1⟩ := r1.get e1
    obtain ⟨w2, c2, k2⟩ := r2.get e2
    obtain ⟨w3, c3, k3⟩ := r3.get e3
    have d1 : w1 = u1 := by
      have f1' : t1[i]? = some u1 := by simpa using f1
      rw [c1] at f1'; exact Option.some.inj f1'
    have d2 : w2 = u2 := by
      have f2' : t2[i]? = some u2 := by simpa using f2
      rw [c2] at f2'; exact Option.some.inj f2'
    have d3 : w3 = u3 := by
      have f3' : t3[i]? = some u3 := by simpa using f3
      rw [c3] at f3'; exact Option.some.inj f3'
    subst d1 d2 d3
    have new : ObjOk X.prog X.w (upd H T (.tup [x, y, u])) h' T (.tup [x, y, u]) := ⟨by show 3 ≤ sizeLine; decide, [w1, w2, w3], .cons k1 (.cons k2 (.cons k3 .nil)), ht⟩
    have I1 : Inv X pins σ (upd H T (.tup [x, y, u])) { s with heap := h', toks := tk } := I.turnedNew (ch := [z, TI, TO, i1, i2, i3]) (fun c o hb q => hk c o (fun q' => hb (by
      have q2 : c = z ∨ c = TO ∨ c = i1 ∨ c = i2 ∨ c = i3 := by simpa using q'
      rcases q2 with q | q | q | q | q <;> simp [q])) q) hf hT new
    refine ⟨.ref T, _, I1, rfl, ⟨T, x, y, u, rfl, I.hok.fresh hT, rfl, fun l hl => by rw [seqX_inj I hl p1]; exact e1, fun l hl => by rw [seqX_inj I hl p2]; exact e2, fun l hl => by rw [seqX_inj I hl p3]; exact e3⟩, ⟨st'.1, st'.2.1, st'.2.2.1, st'.2.2.2.1.1, st'.2.2.2.2.1.1, st'.2.2.2.2.2.1⟩, fun c hcm => ?_⟩
    by_cases e : c = T
    · subst e
      exfalso
      have st0 : ∃ o, s.heap.get? c = some o := by
        have e' : c = z ∨ c = TI ∨ c = TO ∨ c = i1 ∨ c = i2 ∨ c = i3 := by simpa using hcm
        obtain ⟨x', y', u', hTO⟩ := hTO
        rcases e' with q | q | q | q | q | q
        · rw [q]; exact ⟨_, hz⟩
        · rw [q]; exact ⟨_, hTI⟩
        · rw [q]; exact ⟨_, hTO⟩
        · rw [q]; obtain ⟨o, e, _⟩ := iterX_obj s1; exact ⟨o, e⟩
        · rw [q]; obtain ⟨o, e, _⟩ := iterX_obj s2; exact ⟨o, e⟩
        · rw [q]; obtain ⟨o, e, _⟩ := iterX_obj s3; exact ⟨o, e⟩
      obtain ⟨o, e⟩ := st0
      exact absurd (Heap.lt_size e) (Nat.not_lt.mpr hT)
    · rw [upd_ne e]; exact (hf c hcm).1
  done := by
    intro X hP hw hK hc i pins s σ H E I hf st hg
    subst hP hw hK
    obtain ⟨hz, hTI, hTO, s1, s2, s3⟩ := st
    obtain ⟨xs, ys, zs, p1, p2, p3, hi⟩ := hg
    obtain ⟨t1, r1, g1, _⟩ := inv_seqX I p1
    obtain ⟨t2, r2, g2, _⟩ := inv_seqX I p2
    obtain ⟨t3, r3, g3, _⟩ := inv_seqX I p3
    have hh : X.A.in1.handled = none := I.ok.hd hc
    have W := GoesN.zip3 (elts := elts) (x1 := kk) (pos := tpos) D (drawsX (prog := X.prog) (w := X.w) hh q1 i1 a n1 t1.toArray) (drawsX hh q2 i2 b n2 t2.toArray) (drawsX hh q3 i3 d n3 t3.toArray)
    have z1 := r1.length
    have z2 := r2.length
    have z3 := r3.length
    have hn : min (min t1.toArray.size t2.toArray.size) t3.toArray.size = i := by
      simp only [List.size_toArray]
      omega
    refine W.stops s (fun s1 => Inv X pins σ H s1) E ?_ fun h' tk hk htk => ?_
    · rw [hn]; exact ⟨hz, hTI, hTO, ⟨s1, g1⟩, ⟨s2, g2⟩, ⟨s3, g3⟩⟩
    · exact I.turnedL (ch := [z, TI, TO, i1, i2, i3]) (fun c o hb q => hk c o (fun q' => hb (by
        have q2 : c = z ∨ c = TO ∨ c = i1 ∨ c = i2 ∨ c = i3 := by simpa using q'
        rcases q2 with q | q | q | q | q <;> simp [q])) q) hf
  self := fun A i s Q E st h => wpAny_pyIter_zip st.1 h
theorem pi_zip3 {X : Cx} {e e2 e3 : Expr} {ta : TA} {p pos tpos : Pos} {elts : List Expr} {kk : Nat} (hg : Gl X "zip") (hm : X.mg "zip" = none) (ha : PA X [e, e2, e3] ta)
    (hs : starEach [e, e2, e3] X.env = (false, eval e X.env) :: starEach [e2, e3] X.env) (hpl : (backTo pos (starEach [e2, e3] X.env)).any (·.1) = false) :
    PI X (.Tuple elts kk tpos) (.Call (.Name "zip" p) [e, e2, e3] [] pos) (fun σ H R => ta σ H fun vs H1 => ∃ q1 q2 q3 a b d xs ys zs, vs = [.ref a, .ref b, .ref d] ∧ SqX X.K q1 H1 a xs ∧ SqX X.K q2 H1 b ys ∧ SqX X.K q3 H1 d zs ∧ R (Iz3 X.K q1 q2 q3 a b d) H1) := by
  refine ⟨fun pins s σ H R I h => ?_⟩
  refine Call_ (ld_blt I hg hm PyProof.Rows.boot_zip (PyProof.Rows.callWith_type1 (thn (ha.run pos pins s σ H _ I h) fun us s1 ⟨vs, H1, I1, r1, q⟩ => ?_) hs hpl))
  obtain ⟨q1, q2, q3, a, b, d, xs, ys, zs, rfl, p1, p2, p3, q⟩ := q
  cases r1 with
  | cons ra rr =>
    cases rr with
    | cons rb rr =>
      cases rr with
      | cons rd rr =>
        cases rr
        cases ra
        cases rb
        cases rd
        obtain ⟨t1, v1, g1, la⟩ := inv_seqX I1 p1
        obtain ⟨t2, v2, g2, lb⟩ := inv_seqX I1 p2
        obtain ⟨t3, v3, g3, ld⟩ := inv_seqX I1 p3
        obtain ⟨o1, B1, b1⟩ := begX q1 a t1.toArray
        obtain ⟨o2, B2, b2⟩ := begX q2 b t2.toArray
        obtain ⟨o3, B3, b3⟩ := begX q3 d t3.toArray
        refine zip_begins3 B1 B2 B3 g1 g2 g3 fun h' hz hTI hTO e1 e2 e3 hsz hk => wpAny_pyIter_zip hz ?_
        have I2 : Inv X pins σ H1 { s1 with heap := h' } := I1.kept (t' := s1.toks) hk
        refine ⟨s1.heap.objs.size + 5, [s1.heap.objs.size + 5, s1.heap.objs.size + 3, s1.heap.objs.size + 4, s1.heap.objs.size, s1.heap.objs.size + 1, s1.heap.objs.size + 2], _, _, H1, rfl, I2, turn_zip3 (zip_sep3 (N := s1.heap.objs.size) (fp1 := [a]) (fp2 := [b]) (fp3 := [d]) (by simpa using la) (by simpa using lb) (by simpa using ld)) (Nat.ne_of_lt la) (Nat.ne_of_lt (Nat.lt_succ_of_lt lb)) (Nat.ne_of_lt (Nat.lt_succ_of_lt (Nat.lt_succ_of_lt ld))), ⟨hz, hTI, ⟨_, _, _, hTO⟩, b1 _ _ e1, b2 _ _ e2, b3 _ _ e3⟩, fun c hcm => ?_, q⟩
        have hle : s1.heap.objs.size ≤ c := by
          have e' : c = s1.heap.objs.size + 5 ∨ c = s1.heap.objs.size + 3 ∨ c = s1.heap.objs.size + 4 ∨ c = s1.heap.objs.size ∨ c = s1.heap.objs.size + 1 ∨ c = s1.heap.objs.size + 2 := by simpa using hcm
          rcases e' with z | z | z | z | z | z
          · rw [z]; exact Nat.le_add_right _ _
          · rw [z]; exact Nat.le_add_right _ _
          · rw [z]; exact Nat.le_add_right _ _
          · rw [z]; exact Nat.le_refl _
          · rw [z]; exact Nat.le_add_right _ _
          · rw [z]; exact Nat.le_add_right _ _
        exact I1.fpOk hle (I1.hok.fresh hle)
/-! ### zip of two -/
def Iz2 (K : PySem.W.Frag) (q1 q2 : Bool) (a b : Addr) : It :=
  ⟨fun i H => ∃ (xs ys : List V) (x y : V), SqX K q1 H a xs ∧ SqX K q2 H b ys ∧ xs[i]? = some x ∧ ys[i]? = some y,
    fun i H v H' => ∃ T x y, v = .ref T ∧ H T = none ∧ H' = upd H T (.tup [x, y]) ∧ (∀ xs, SqX K q1 H a xs → xs[i]? = some x) ∧ ∀ ys, SqX K q2 H b ys → ys[i]? = some y,
    fun i H => ∃ xs ys : List V, SqX K q1 H a xs ∧ SqX K q2 H b ys ∧ i = min xs.length ys.length⟩
theorem turn_zip2 {P : Program} {w : World} {K : PySem.W.Frag} {elts : List Expr} {kk : Nat} {tpos : Pos} {q1 q2 : Bool} {a b z TI TO i1 i2 : Addr} (D : ZipSep2 z TI TO i1 i2 [i1, a] [i2, b]) (n1 : a ≠ i1) (n2 : b ≠ i2) :
    Turn P w K (.Tuple elts kk tpos) (Iz2 K q1 q2 a b) [z, TI, TO, i1, i2] z
      (fun i h => IsZip h z TI TO .none ∧ IsTupOf2 h TI (.ref i1) (.ref i2) ∧ (∃ x y, IsTupOf2 h TO x y) ∧ IterX q1 h i1 a i ∧ IterX q2 h i2 b i) where
  mem := by simp
  obj := fun i h st c hc => by
    obtain ⟨hz, hTI, ⟨x, y, hTO⟩, s1, s2⟩ := st
    have e' : c = z ∨ c = TI ∨ c = TO ∨ c = i1 ∨ c = i2 := by simpa using hc
    rcases e' with q | q | q | q | q
    · rw [q]; exact ⟨_, hz, fun v q => nomatch q⟩
    · rw [q]; exact ⟨_, hTI, fun v q => nomatch q⟩
    · rw [q]; exact ⟨_, hTO, fun v q => nomatch q⟩
    · rw [q]; exact iterX_obj s1
    · rw [q]; exact iterX_obj s2
  keep := fun i h h' st k => by
    obtain ⟨hz, hTI, ⟨x, y, hTO⟩, s1, s2⟩ := st
    exact ⟨k z (by simp) _ hz, k TI (by simp) _ hTI, ⟨x, y, k TO (by simp) _ hTO⟩, iterX_at s1 (k i1 (by simp)), iterX_at s2 (k i2 (by simp))⟩
  item := by
    intro X hP hw hK hc i pins s σ H E I hf st hg
    subst hP hw hK
    obtain ⟨hz, hTI, hTO, s1, s2⟩ := st
    obtain ⟨xs, ys, x, y, p1, p2, e1, e2⟩ := hg
    obtain ⟨t1, r1, g1, _⟩ := inv_seqX I p1
    obtain ⟨t2, r2, g2, _⟩ := inv_seqX I p2
    have hh : X.A.in1.handled = none := I.ok.hd hc
    have W := GoesN.zip2 (elts := elts) (x1 := kk) (pos := tpos) D (drawsX (prog := X.prog) (w := X.w) hh q1 i1 a n1 t1.toArray) (drawsX hh q2 i2 b n2 t2.toArray)
    have l1 := lt_of_some e1
    have l2 := lt_of_some e2
    have z1 := r1.length
    have z2 := r2.length
    refine W.goes i s (fun v s2 => ∃ x H', Inv X pins σ H' s2 ∧ RelV x v ∧ (Iz2 X.K q1 q2 a b).yld i H x H' ∧ _ ∧ ∀ b ∈ [z, TI, TO, i1, i2], H' b = none) E (by simp only [List.size_toArray]; omega) ⟨hz, hTI, hTO, ⟨s1, g1⟩, ⟨s2, g2⟩⟩ fun v h' tk ⟨T, u1, u2, ev, hT, f1, f2, ht⟩ st' hk htk => ?_
    subst ev
    obtain ⟨w1, c1, k1⟩ := r1.get e1
    obtain ⟨w2, c2, k2⟩ := r2.get e2
    have d1 : w1 = u1 := by
      have f1' : t1[i]? = some u1 := by simpa using f1
      rw [c1] at f1'; exact Option.some.inj f1'
    have d2 : w2 = u2 := by
      have f2' : t2[i]? = some u2 := by simpa using f2
      rw [c2] at f2'; exact Option.some.inj f2'
    subst d1 d2
    have new : ObjOk X.prog X.w (upd H T (.tup [x, y])) h' T (.tup [x, y]) := ⟨by show 2 ≤ sizeLine; decide, [w1, w2], .cons k1 (.cons k2 .nil), ht⟩
    have I1 : Inv X pins σ (upd H T (.tup [x, y])) { s with heap := h', toks := tk } := I.turnedNew (ch := [z, TI, TO, i1, i2]) (fun c o hb q => hk c o (fun q' => hb (by
      have q2 : c = z ∨ c = TO ∨ c = i1 ∨ c = i2 := by simpa using q'
      rcases q2 with q | q | q | q <;> simp [q])) q) hf hT new
    refine ⟨.ref T, _, I1, rfl, ⟨T, x, y, rfl, I.hok.fresh hT, rfl, fun l hl => by rw [seqX_inj I hl p1]; exact e1, fun l hl => by rw [seqX_inj I hl p2]; exact e2⟩, ⟨st'.1, st'.2.1, st'.2.2.1, st'.2.2.2.1.1, st'.2.2.2.2.1⟩, fun c hcm => ?_⟩
    by_cases e : c = T
    · subst e
      exfalso
      have st0 : ∃ o, s.heap.get? c = some o := by
        have e' : c = z ∨ c = TI ∨ c = TO ∨ c = i1 ∨ c = i2 := by simpa using hcm
        obtain ⟨x', y', hTO⟩ := hTO
        rcases e' with q | q | q | q | q
        · rw [q]; exact ⟨_, hz⟩
        · rw [q]; exact ⟨_, hTI⟩
        · rw [q]; exact ⟨_, hTO⟩
        · rw [q]; obtain ⟨o, e, _⟩ := iterX_obj s1; exact ⟨o, e⟩
        · rw [q]; obtain ⟨o, e, _⟩ := iterX_obj s2; exact ⟨o, e⟩
      obtain ⟨o, e⟩ := st0
      exact absurd (Heap.lt_size e) (Nat.not_lt.mpr hT)
    · rw [upd_ne e]; exact (hf c hcm).1
  done := by
    intro X hP hw hK hc i pins s σ H E I hf st hg
    subst hP hw hK
    obtain ⟨hz, hTI, hTO, s1, s2⟩ := st
    obtain ⟨xs, ys, p1, p2, hi⟩ := hg
    obtain ⟨t1, r1, g1, _⟩ := inv_seqX I p1
    obtain ⟨t2, r2, g2, _⟩ := inv_seqX I p2
    have hh : X.A.in1.handled = none := I.ok.hd hc
    have W := GoesN.zip2 (elts := elts) (x1 := kk) (pos := tpos) D (drawsX (prog := X.prog) (w := X.w) hh q1 i1 a n1 t1.toArray) (drawsX hh q2 i2 b n2 t2.toArray)
    have z1 := r1.length
    have z2 := r2.length
    have hn : min t1.toArray.size t2.toArray.size = i := by
      simp only [List.size_toArray]
      omega
    refine W.stops s (fun s1 => Inv X pins σ H s1) E ?_ fun h' tk hk htk => ?_
    · rw [hn]; exact ⟨hz, hTI, hTO, ⟨s1, g1⟩, ⟨s2, g2⟩⟩
    · exact I.turnedL (ch := [z, TI, TO, i1, i2]) (fun c o hb q => hk c o (fun q' => hb (by
        have q2 : c = z ∨ c = TO ∨ c = i1 ∨ c = i2 := by simpa using q'
        rcases q2 with q | q | q | q <;> simp [q])) q) hf
  self := fun A i s Q E st h => wpAny_pyIter_zip st.1 h
theorem pi_zip2 {X : Cx} {e e2 : Expr} {ta : TA} {p pos tpos : Pos} {elts : List Expr} {kk : Nat} (hg : Gl X "zip") (hm : X.mg "zip" = none) (ha : PA X [e, e2] ta)
    (hs : starEach [e, e2] X.env = (false, eval e X.env) :: starEach [e2] X.env) (hpl : (backTo pos (starEach [e2] X.env)).any (·.1) = false) :
    PI X (.Tuple elts kk tpos) (.Call (.Name "zip" p) [e, e2] [] pos) (fun σ H R => ta σ H fun vs H1 => ∃ q1 q2 a b xs ys, vs = [.ref a, .ref b] ∧ SqX X.K q1 H1 a xs ∧ SqX X.K q2 H1 b ys ∧ R (Iz2 X.K q1 q2 a b) H1) := by
  refine ⟨fun pins s σ H R I h => ?_⟩
  refine Call_ (ld_blt I hg hm PyProof.Rows.boot_zip (PyProof.Rows.callWith_type1 (thn (ha.run pos pins s σ H _ I h) fun us s1 ⟨vs, H1, I1, r1, q⟩ => ?_) hs hpl))
  obtain ⟨q1, q2, a, b, xs, ys, rfl, p1, p2, q⟩ := q
  cases r1 with
  | cons ra rr =>
    cases rr with
    | cons rb rr =>
      have Z : True := trivial
      cases Z with
      | intro =>
        cases rr
        cases ra
        cases rb
        obtain ⟨t1, v1, g1, la⟩ := inv_seqX I1 p1
        obtain ⟨t2, v2, g2, lb⟩ := inv_seqX I1 p2
        obtain ⟨o1, B1, b1⟩ := begX q1 a t1.toArray
        obtain ⟨o2, B2, b2⟩ := begX q2 b t2.toArray
        refine zip_begins2 B1 B2 g1 g2 fun h' hz hTI hTO e1 e2 hsz hk => wpAny_pyIter_zip hz ?_
        have I2 : Inv X pins σ H1 { s1 with heap := h' } := I1.kept (t' := s1.toks) hk
        refine ⟨s1.heap.objs.size + 4, [s1.heap.objs.size + 4, s1.heap.objs.size + 2, s1.heap.objs.size + 3, s1.heap.objs.size, s1.heap.objs.size + 1], _, _, H1, rfl, I2, turn_zip2 (zip_sep2 (N := s1.heap.objs.size) (fp1 := [a]) (fp2 := [b]) (by simpa using la) (by simpa using lb)) (Nat.ne_of_lt la) (Nat.ne_of_lt (Nat.lt_succ_of_lt lb)), ⟨hz, hTI, ⟨_, _, hTO⟩, b1 _ _ e1, b2 _ _ e2⟩, fun c hcm => ?_, q⟩
        have hle : s1.heap.objs.size ≤ c := by
          have e' : c = s1.heap.objs.size + 4 ∨ c = s1.heap.objs.size + 2 ∨ c = s1.heap.objs.size + 3 ∨ c = s1.heap.objs.size ∨ c = s1.heap.objs.size + 1 := by simpa using hcm
          rcases e' with z | z | z | z | z
          · rw [z]; exact Nat.le_add_right _ _
          · rw [z]; exact Nat.le_add_right _ _
          · rw [z]; exact Nat.le_add_right _ _
          · rw [z]; exact Nat.le_refl _
          · rw [z]; exact Nat.le_add_right _ _
        exact I1.fpOk hle (I1.hok.fresh hle)
end D
end

section
set_option maxRecDepth 100000
set_option maxHeartbeats 1000000
/-! D1n: targets; what is walked; list comprehensions. -/
namespace D
open PySem PySem.Spec PyProof.Rows L2
section
variable {c : Cn} {m m' : List Addr} {I I' H H' : Hp} {s s' : Store}
theorem EnvR.set {e : Env} {σ : L2.St} (E : EnvR c m I e σ) {x : L} {v : V} (i : Nat) (r : Rep c m I x v) : EnvR c m I (e.set i (some x)) (σ.set i (some v)) :=
  ⟨by rw [List.length_set, List.length_set]; exact E.len, fun j y h => by
    by_cases ij : i = j
    · subst ij
      have hl : i < e.length := by
        have := (List.getElem?_eq_some_iff.mp h).1
        rw [List.length_set] at this; exact this
      rw [List.getElem?_set_self hl] at h
      cases h
      exact ⟨v, List.getElem?_set_self (by rw [← E.len]; exact hl), r⟩
    · rw [List.getElem?_set_ne ij] at h
      obtain ⟨w, h1, h2⟩ := E.at_ j y h
      exact ⟨w, by rw [List.getElem?_set_ne ij]; exact h1, h2⟩⟩
theorem EnvR.set0 {e : Env} {σ : L2.St} (E : EnvR c m I e σ) (i : Nat) : EnvR c m I (e.set i none) σ :=
  ⟨by rw [List.length_set]; exact E.len, fun j y h => by
    by_cases ij : i = j
    · subst ij
      have hl : i < e.length := by
        have := (List.getElem?_eq_some_iff.mp h).1
        rw [List.length_set] at this; exact this
      rw [List.getElem?_set_self hl] at h
      cases h
    · rw [List.getElem?_set_ne ij] at h
      exact E.at_ j y h⟩
theorem EnvR.set00 {e : Env} {σ : L2.St} (E : EnvR c m I e σ) (i : Nat) : EnvR c m I (e.set i none) (σ.set i none) :=
  ⟨by rw [List.length_set, List.length_set]; exact E.len, fun j y h => by
    by_cases ij : i = j
    · subst ij
      have hl : i < e.length := by
        have := (List.getElem?_eq_some_iff.mp h).1
        rw [List.length_set] at this; exact this
      rw [List.getElem?_set_self hl] at h
      cases h
    · rw [List.getElem?_set_ne ij] at h
      rw [List.getElem?_set_ne ij]
      exact E.at_ j y h⟩
theorem EnvR.wipe {e : Env} {σ : L2.St} (E : EnvR c m I e σ) (vs : List Nat) : EnvR c m I (D.wipe e vs) (L2.wipe σ vs) := by
  induction vs with
  | nil => exact E
  | cons v vs ih => exact ih.set00 v
theorem set_wipe {σ : L2.St} {i : Nat} {x : Option V} {vs : List Nat} (h : i ∈ vs) : L2.wipe (σ.set i x) vs = L2.wipe σ vs := by
  induction vs with
  | nil => cases h
  | cons v vs ih =>
    unfold L2.wipe
    by_cases hi : i ∈ vs
    · rw [ih hi]
    · rcases List.mem_cons.mp h with e | h
      · subst e
        have k : ∀ vs, i ∉ vs → L2.wipe (σ.set i x) vs = (L2.wipe σ vs).set i x := by
          intro vs
          induction vs with
          | nil => intro _; rfl
          | cons w ws ih2 =>
            intro hn
            have h1 : i ≠ w := fun e => hn (e ▸ List.mem_cons_self)
            have h2 : i ∉ ws := fun e => hn (List.mem_cons_of_mem _ e)
            unfold L2.wipe
            rw [ih2 h2, List.set_comm _ _ h1]
        rw [k vs hi, List.set_set]
      · exact absurd h hi
theorem wipe_wipe {σ : L2.St} {vs : List Nat} : L2.wipe (L2.wipe σ vs) vs = L2.wipe σ vs := by
  have k : ∀ us, (∀ i ∈ us, i ∈ vs) → L2.wipe (L2.wipe σ us) vs = L2.wipe σ vs := by
    intro us
    induction us with
    | nil => intro _; rfl
    | cons u us ih =>
      intro h
      show L2.wipe ((L2.wipe σ us).set u none) vs = _
      rw [set_wipe (h u List.mem_cons_self)]
      exact ih fun i hi => h i (List.mem_cons_of_mem _ hi)
  exact k vs fun i h => h
end
def DT.ix : DT → List Nat
  | .nm i => [i]
  | .tp is => is
section
variable {G : Glb} {F : Fns} {n k : Nat} {N : List Str} {sc : Scope} {W : WX} {X : Cx}
/-! ### targets -/
def gsR : List Nat → TGs
  | [] => gNil
  | i :: is => gCons (gName i) (gsR is)
def tgR (K : PySem.W.Frag) : DT → TG
  | .nm i => gName i
  | .tp is => gTup K is.length (gsR is)
abbrev PGd (X : Cx) (tg : Expr) (t : DT) : Prop := PG X tg (tgR X.K t)
theorem setAll_len {is : List Nat} {vs : List L} {e e' : Env} (h : setAll is vs e = some e') : vs.length = is.length := by
  induction is generalizing vs e with
  | nil => cases vs with
    | nil => rfl
    | cons _ _ => cases h
  | cons i is ih => cases vs with
    | nil => cases h
    | cons v vs => rw [List.length_cons, List.length_cons, ih h]
theorem gsR_run {c : Cn} {is : List Nat} : ∀ {σ : L2.St} {H : Hp} {m : List Addr} {I : Hp} {e e' : Env} {v : List L} {u : List V} {Q : L2.St → Hp → Prop}, EnvR c m I e σ → Reps c m I v u → setAll is v e = some e' →
    (∀ σ', EnvR c m I e' σ' → (∀ vs, (∀ i ∈ is, i ∈ vs) → L2.wipe σ' vs = L2.wipe σ vs) → Q σ' H) → gsR is u σ H Q := by
  induction is with
  | nil =>
    intro σ H m I e e' v u Q E r h q
    cases r with
    | nil => cases h; exact ⟨rfl, q σ E fun _ _ => rfl⟩
    | cons _ _ => cases h
  | cons i is ih =>
    intro σ H m I e e' v u Q E r h q
    cases r with
    | nil => cases h
    | cons r1 r2 =>
      refine ⟨_, _, rfl, ih (E.set i r1) r2 h fun σ' E' hw => q σ' E' fun vs hv => ?_⟩
      rw [hw vs fun j hj => hv j (List.mem_cons_of_mem _ hj), set_wipe (hv i List.mem_cons_self)]
theorem tgR_run {c : Cn} {t : DT} {σ : L2.St} {H : Hp} {m : List Addr} {I : Hp} {e e' : Env} {s : Store} {v : L} {u : V} {Q : L2.St → Hp → Prop} (S : Stt c m I s H) (E : EnvR c m I e σ) (r : Rep c m I v u) (h : setT t v e = some e')
    (q : ∀ σ', EnvR c m I e' σ' → (∀ vs, (∀ i ∈ t.ix, i ∈ vs) → L2.wipe σ' vs = L2.wipe σ vs) → Q σ' H) : tgR c.K t u σ H Q := by
  cases t with
  | nm i =>
    cases h
    exact q _ (E.set i r) fun vs hv => set_wipe (hv i (by simp [DT.ix]))
  | tp is =>
    cases r with
    | tup hp hr => exact ⟨_, _, rfl, S.sq hp, by rw [← hr.length]; exact setAll_len h, gsR_run E hr h q⟩
    | _ => cases h
theorem g_nm (xe : XE0 G F k N sc W X) {i : Nat} {x : Str} {pos : Pos} (h1 : N[i]? = some x) (h2 : locB sc x = true) : PGd X (.Name x pos) (.nm i) := by
  obtain ⟨a, b⟩ := xe.loc h2
  exact pg_name (by rw [xe.hN]; exact xe.nd) (by rw [xe.hN]; exact h1) a b
theorem gs_cons (xe : XE0 G F k N sc W X) {i : Nat} {x : Str} {pos : Pos} {es : List Expr} {is : List Nat} (h1 : N[i]? = some x) (h2 : locB sc x = true) (h : PGs X es (gsR is)) : PGs X (.Name x pos :: es) (gsR (i :: is)) := by
  obtain ⟨a, b⟩ := xe.loc h2
  exact pgs_cons (pg_name (by rw [xe.hN]; exact xe.nd) (by rw [xe.hN]; exact h1) a b) h (by rfl)
def isName : Expr → Bool
  | .Name _ _ => true
  | _ => false
theorem each_names {env : PySem.Env} : ∀ {es : List Expr}, es.all isName = true → (assignEach es env).length = es.length ∧ (assignEach es env).findIdx? (·.1) = none
  | [], _ => ⟨rfl, rfl⟩
  | e :: es, h => by
    rw [List.all_cons, Bool.and_eq_true] at h
    obtain ⟨h1, h2⟩ := h
    obtain ⟨a, b⟩ := each_names (env := env) h2
    cases e with
    | Name x p =>
      have e1 : assignEach (.Name x p :: es) env = (false, assign (.Name x p) env) :: assignEach es env := by rfl
      rw [e1]
      refine ⟨by rw [List.length_cons, List.length_cons, a], ?_⟩
      rw [List.findIdx?_cons]
      simp [b]
    | _ => cases h1
theorem g_tp (xe : XE0 G F k N sc W X) {es : List Expr} {is : List Nat} {j : Nat} {pos : Pos} (hl : es.length = is.length) (hn : es.all isName = true) (h : PGs X es (gsR is)) : PGd X (.Tuple es j pos) (.tp is) := by
  obtain ⟨a, b⟩ := each_names (env := X.env) hn
  exact pg_tup xe.calm h (by rw [a, hl]) b
/-! ### what is walked -/
def FixOk (c : Cn) (m : List Addr) (I : Hp) (J : It) (xs : List L) : Prop := ∀ (m' : List Addr) (I' H' : Hp) (s' : Store), (∀ (n : Nat) (x : Addr), m[n]? = some x → m'[n]? = some x) → (∀ a o, I a = some o → I' a = some o) → Stt c m' I' s' H' →
  ∀ i : Nat, (∀ x, xs[i]? = some x → J.go i H' ∧ ∀ v H'', J.yld i H' v H'' → ∃ I'', Ext m' I' H' m' I'' H'' ∧ Stt c m' I'' s' H'' ∧ Rep c m' I'' x v) ∧ (i = xs.length → J.stop i H')
def SrcOk (c : Cn) (m : List Addr) (I : Hp) (J : It) : Src → Prop
  | .fix xs => FixOk c m I J xs
  | .dyn n => ∃ a, m[n]? = some a ∧ J = Itl c.K a
  | _ => False
def wiD (c : Cn) (W : WX) (f : Env → M Src) : TI := fun σ H R => ∃ m I e s, Stt c m I s H ∧ EnvR c m I e σ ∧ Rn c W σ m I H (f e s) (fun m1 I1 H1 s1 src => ∀ J, SrcOk c m1 I1 J src → R J H1)
abbrev PId (X : Cx) (W : WX) (tg it : Expr) (f : Env → M Src) : Prop := PI X tg it (wiD (cOf X) W f)
theorem _root_.L2.PI.imp {X : Cx} {tg it : Expr} {t t' : TI} (h : PI X tg it t) (i : ∀ σ H R, t' σ H R → t σ H R) : PI X tg it t' := ⟨fun pins s σ H R I q => h.run pins s σ H R I (i σ H R q)⟩
def rItV (K : PySem.W.Frag) : V → Hp → (It → Hp → Prop) → Prop := fun x H R => (∃ a, x = .ref a ∧ (∃ xs, SqL K H a xs) ∧ R (Itl K a) H) ∨ (∃ a, x = .ref a ∧ (∃ xs, SqT K H a xs) ∧ R (Itt K a) H) ∨ ∃ z, x = .str z ∧ R (Its z) H
theorem pi_val {tg l : Expr} {tl : TE} (hl : PE X l tl) : PI X tg l (fun σ H R => tl σ H fun x H1 => rItV X.K x H1 R) := by
  refine ⟨fun pins s σ H R I h => ?_⟩
  refine thn (hl.run pins s σ H _ I h) fun v s1 ⟨x, H1, I1, r1, q1⟩ => ?_
  rcases q1 with ⟨a, e, ⟨xs, hq⟩, q⟩ | ⟨a, e, ⟨xs, hq⟩, q⟩ | ⟨z, e, q⟩
  · subst e
    cases r1
    obtain ⟨its, rv, p, hz⟩ := I1.list hq
    refine wpAny_pyIter_list p.isList ?_
    refine ⟨s1.heap.objs.size, [s1.heap.objs.size], _, _, H1, rfl, I1.kept (t' := s1.toks) fun b o e => Heap.get?_push_of_some _ e, turn_list a _, ⟨_, Heap.get?_push_size _ rfl, rfl, rfl⟩, fun b hb => ?_, q⟩
    have e : b = s1.heap.objs.size := by simpa using hb
    subst e
    exact I1.fpOk (Nat.le_refl _) (I1.hok.fresh (Nat.le_refl _))
  · subst e
    cases r1
    obtain ⟨its, rv, p, hz⟩ := I1.tuple hq
    refine wpAny_pyIter_tuple (show s1.heap.IsTuple a its.toArray from p) ?_
    refine ⟨s1.heap.objs.size, [s1.heap.objs.size], _, _, H1, rfl, I1.kept (t' := s1.toks) fun b o e => Heap.get?_push_of_some _ e, turn_tuple a _, ⟨_, Heap.get?_push_size _ rfl, rfl, rfl⟩, fun b hb => ?_, q⟩
    have e : b = s1.heap.objs.size := by simpa using hb
    subst e
    exact I1.fpOk (Nat.le_refl _) (I1.hok.fresh (Nat.le_refl _))
  · subst e
    obtain ⟨t, rfl⟩ := r1
    cases ha : z.cps.all (· < 128)
    · exact wpAny_pyIter_wide ha (pi_one (tk := s1.toks) I1 _ (turn_str _ z t "str_iterator" (.inr rfl)) ⟨_, Heap.get?_push_size _ rfl, rfl, rfl⟩ q)
    · exact wpAny_pyIter_ascii ha (pi_one (tk := s1.toks) I1 _ (turn_str _ z t "str_ascii_iterator" (.inl rfl)) ⟨_, Heap.get?_push_size _ rfl, rfl, rfl⟩ q)
theorem fix_tup {c : Cn} {m : List Addr} {I : Hp} {p : Addr} {xs : List L} {vs : List V} (hp : SqT c.K I p vs) (hr : Reps c m I xs vs) : FixOk c m I (Itt c.K p) xs := fun m' I' H' s' hm hi S i => by
  have hp' := sqT_im hi hp
  have hq := S.sq hp'
  refine ⟨fun x hx => ?_, fun e => ⟨vs, hq, by rw [e, hr.length]; exact Nat.le_refl _⟩⟩
  obtain ⟨u, g, r⟩ := hr.get hx
  refine ⟨⟨vs, u, hq, g⟩, fun v H'' y => ?_⟩
  obtain ⟨rfl, y⟩ := y
  have e := y vs hq
  rw [g] at e
  cases e
  exact ⟨I', Ext.rfl', S, r.mono' hm hi⟩
theorem fix_str {c : Cn} {m : List Addr} {I : Hp} {z : Str} : FixOk c m I (Its z) (signs z) := fun m' I' H' s' hm hi S i => by
  have hl : (signs z).length = z.cps.size := by unfold signs; rw [List.length_map, Array.length_toList]
  refine ⟨fun x hx => ?_, fun e => by rw [hl] at e; exact Nat.le_of_eq e.symm⟩
  have hlt := lt_of_some hx
  rw [hl] at hlt
  refine ⟨hlt, fun v H'' y => ?_⟩
  obtain ⟨rfl, cc, e, rfl⟩ := y
  unfold signs at hx
  rw [List.getElem?_map, Array.getElem?_toList, e] at hx
  cases hx
  exact ⟨I', Ext.rfl', S, .str _⟩
theorem i_val {tg : Expr} {a : DE} {x : Expr} (ha : PE X x (DEn G F n X W a)) : PId X W tg x (denI G F n (.val a)) := by
  refine (pi_val ha).imp fun σ H R ⟨m, I, e, s, S, E, h⟩ => ?_
  have h' : Rn (cOf X) W σ m I H ((den G F n a e >>= fun x => srcOf x) s) _ := h
  refine rdE_bind (k := fun x _ => srcOf x) S E h' fun m1 I1 H1 s1 x u e1 S1 E1 ru h1 => ?_
  cases ru with
  | tup hp hr => exact .inr (.inl ⟨_, rfl, ⟨_, S1.sq hp⟩, Rn.pure S1 h1 _ (fix_tup hp hr)⟩)
  | str z => exact .inr (.inr ⟨z, rfl, Rn.pure S1 h1 _ fix_str⟩)
  | loc hc =>
    obtain ⟨o, e2, r1, h2⟩ := Rn.getC S1 hc h1
    cases o with
    | lst xs =>
      obtain ⟨vs, g1, q1⟩ := r1
      exact .inl ⟨_, rfl, ⟨_, SqL.of g1⟩, Rn.pure S1 h2 _ ⟨_, hc, rfl⟩⟩
    | _ => exact h2.elim
  | _ => exact h1.elim
theorem fix_rng {c : Cn} {m : List Addr} {I : Hp} {lo : Int} {n : Nat} {xs : List L} (hx : xs = (List.range n).map fun k => .int (lo + (k : Nat))) : FixOk c m I (Itr lo n) xs := fun m' I' H' s' hm hi S i => by
  subst hx
  refine ⟨fun x hx => ?_, fun e => by rw [List.length_map, List.length_range] at e; exact Nat.le_of_eq e.symm⟩
  have hlt := lt_of_some hx
  rw [List.length_map, List.length_range] at hlt
  refine ⟨hlt, fun v H'' y => ?_⟩
  obtain ⟨rfl, rfl⟩ := y
  rw [List.getElem?_map, List.getElem?_range hlt] at hx
  cases hx
  exact ⟨I', Ext.rfl', S, .int _⟩
theorem i_rng1 (xe : XE0 G F k N sc W X) {tg : Expr} {a : DE} {x : Expr} {p pos : Pos} (hg : glB sc "range" = true) (hx : isStar x = false) (ha : PE X x (DEn G F n X W a)) : PId X W tg (.Call (.Name "range" p) [x] [] pos) (denI G F n (.rng1 a)) := by
  refine (pi_range1 (xe.gl hg) (xe.fx.bn _ (by decide)) (pa_cons ha pa_nil (star_cons hx)) (star_cons hx)).imp fun σ H R ⟨m, I, e, s, S, E, h⟩ => ?_
  have h' : Rn (cOf X) W σ m I H ((den G F n a e >>= fun x => match x with
    | .int j => if -(2 ^ 62) ≤ j ∧ j < 2 ^ 62 then pure (Src.fix ((List.range j.toNat).map fun i => .int (i : Nat))) else die
    | _ => die) s) _ := h
  refine rdE_bind (k := fun x _ => match x with
    | .int j => if -(2 ^ 62) ≤ j ∧ j < 2 ^ 62 then pure (Src.fix ((List.range j.toNat).map fun i => .int (i : Nat))) else die
    | _ => die) S E h' fun m1 I1 H1 s1 x u e1 S1 E1 ru h1 => ?_
  cases ru with
  | int j =>
    obtain ⟨hz, h1⟩ := ite_die h1
    exact ⟨j, rfl, hz.1, hz.2, Rn.pure S1 h1 _ (fix_rng (by simp))⟩
  | _ => exact h1.elim
theorem i_rng2 (xe : XE0 G F k N sc W X) {tg : Expr} {a b : DE} {x y : Expr} {p pos : Pos} (hg : glB sc "range" = true) (hx : isStar x = false) (hy : isStar y = false) (ha : PE X x (DEn G F n X W a)) (hb : PE X y (DEn G F n X W b)) :
    PId X W tg (.Call (.Name "range" p) [x, y] [] pos) (denI G F n (.rng2 a b)) := by
  refine (pi_range2 (xe.gl hg) (xe.fx.bn _ (by decide)) (pa_cons ha (pa_cons hb pa_nil (star_cons hy)) (star_cons hx)) (by rw [star_cons hx, star_cons hy]; rfl) (star_cons hy)).imp fun σ H R ⟨m, I, e, s, S, E, h⟩ => ?_
  have h' : Rn (cOf X) W σ m I H ((den G F n a e >>= fun x => den G F n b e >>= fun y => match x, y with
    | .int i, .int j => if -(2 ^ 62) ≤ i ∧ i < 2 ^ 62 ∧ -(2 ^ 62) ≤ j ∧ j < 2 ^ 62 then pure (Src.fix ((List.range (j - i).toNat).map fun k => .int (i + (k : Nat)))) else die
    | _, _ => die) s) _ := h
  refine rdE_bind (k := fun x e => den G F n b e >>= fun y => match x, y with
    | .int i, .int j => if -(2 ^ 62) ≤ i ∧ i < 2 ^ 62 ∧ -(2 ^ 62) ≤ j ∧ j < 2 ^ 62 then pure (Src.fix ((List.range (j - i).toNat).map fun k => .int (i + (k : Nat)))) else die
    | _, _ => die) S E h' fun m1 I1 H1 s1 x u e1 S1 E1 ru h1 => ?_
  refine rdE_bind (k := fun y _ => match x, y with
    | .int i, .int j => if -(2 ^ 62) ≤ i ∧ i < 2 ^ 62 ∧ -(2 ^ 62) ≤ j ∧ j < 2 ^ 62 then pure (Src.fix ((List.range (j - i).toNat).map fun k => .int (i + (k : Nat)))) else die
    | _, _ => die) S1 E1 h1 fun m2 I2 H2 s2 y w e2 S2 E2 rw_ h2 => ?_
  cases ru with
  | int i =>
    cases rw_ with
    | int j =>
      obtain ⟨hz, h2⟩ := ite_die h2
      exact ⟨i, j, rfl, hz, Rn.pure S2 h2 _ (fix_rng rfl)⟩
    | _ => exact h2.elim
  | _ => cases rw_ <;> exact h2.elim
theorem seqM_run {c : Cn} {β : Type} {σ : L2.St} {m : List Addr} {I H : Hp} {s : Store} {x : L} {u : V} {kk : List L → M β} {post : List Addr → Hp → Hp → Store → β → Prop} (ru : Rep c m I x u) (h : Rn c W σ m I H ((seqM x >>= kk) s) post) : ∃ p xs vs, x = .tup xs ∧ u = .ref p ∧ SqT c.K I p vs ∧ Reps c m I xs vs ∧ Rn c W σ m I H (kk xs s) post := by
  cases ru with
  | tup hp hr => exact ⟨_, _, _, rfl, rfl, hp, hr, h⟩
  | _ => exact h.elim
theorem fix_zip3 {c : Cn} {m : List Addr} {I : Hp} {a b d : Addr} {xs ys zs : List L} {us vs ws : List V} (h1 : SqT c.K I a us) (h2 : SqT c.K I b vs) (h3 : SqT c.K I d ws) (r1 : Reps c m I xs us) (r2 : Reps c m I ys vs) (r3 : Reps c m I zs ws) :
    FixOk c m I (Iz3 c.K false false false a b d) ((xs.zip (ys.zip zs)).map fun p => .tup [p.1, p.2.1, p.2.2]) := fun m' I' H' s' hm hi S i => by
  have q1 := S.sq (sqT_im hi h1)
  have q2 := S.sq (sqT_im hi h2)
  have q3 := S.sq (sqT_im hi h3)
  refine ⟨fun x hx => ?_, fun e => ⟨us, vs, ws, q1, q2, q3, ?_⟩⟩
  · rw [List.getElem?_map] at hx
    cases e : (xs.zip (ys.zip zs))[i]? with
    | none => rw [e] at hx; cases hx
    | some p =>
      rw [e] at hx
      cases hx
      rw [List.getElem?_zip_eq_some] at e
      obtain ⟨ex, e⟩ := e
      rw [List.getElem?_zip_eq_some] at e
      obtain ⟨ey, ez⟩ := e
      obtain ⟨u, gu, ru⟩ := r1.get ex
      obtain ⟨v, gv, rv⟩ := r2.get ey
      obtain ⟨w, gw, rw_⟩ := r3.get ez
      refine ⟨⟨us, vs, ws, u, v, w, q1, q2, q3, gu, gv, gw⟩, fun z H'' y => ?_⟩
      obtain ⟨T, x, y, z, rfl, hT, rfl, f1, f2, f3⟩ := y
      have g1 := f1 us q1
      have g2 := f2 vs q2
      have g3 := f3 ws q3
      rw [gu] at g1
      rw [gv] at g2
      rw [gw] at g3
      cases g1
      cases g2
      cases g3
      obtain ⟨e1, S1⟩ := S.newT (vs := [u, v, w]) hT
      exact ⟨_, e1, S1, .tup (SqT.of upd_same) (.cons ((ru.mono' hm hi).mono e1) (.cons ((rv.mono' hm hi).mono e1) (.cons ((rw_.mono' hm hi).mono e1) .nil)))⟩
  · rw [e, List.length_map, List.length_zip, List.length_zip, r1.length, r2.length, r3.length]
    omega
theorem fix_zip2 {c : Cn} {m : List Addr} {I : Hp} {a b : Addr} {xs ys : List L} {us vs : List V} (h1 : SqT c.K I a us) (h2 : SqT c.K I b vs) (r1 : Reps c m I xs us) (r2 : Reps c m I ys vs) :
    FixOk c m I (Iz2 c.K false false a b) ((xs.zip ys).map fun p => .tup [p.1, p.2]) := fun m' I' H' s' hm hi S i => by
  have q1 := S.sq (sqT_im hi h1)
  have q2 := S.sq (sqT_im hi h2)
  refine ⟨fun x hx => ?_, fun e => ⟨us, vs, q1, q2, ?_⟩⟩
  · rw [List.getElem?_map] at hx
    cases e : (xs.zip ys)[i]? with
    | none => rw [e] at hx; cases hx
    | some p =>
      rw [e] at hx
      cases hx
      rw [List.getElem?_zip_eq_some] at e
      obtain ⟨ex, ey⟩ := e
      obtain ⟨u, gu, ru⟩ := r1.get ex
      obtain ⟨v, gv, rv⟩ := r2.get ey
      refine ⟨⟨us, vs, u, v, q1, q2, gu, gv⟩, fun z H'' y => ?_⟩
      obtain ⟨T, x, y, rfl, hT, rfl, f1, f2⟩ := y
      have g1 := f1 us q1
      have g2 := f2 vs q2
      rw [gu] at g1
      rw [gv] at g2
      cases g1
      cases g2
      obtain ⟨e1, S1⟩ := S.newT (vs := [u, v]) hT
      exact ⟨_, e1, S1, .tup (SqT.of upd_same) (.cons ((ru.mono' hm hi).mono e1) (.cons ((rv.mono' hm hi).mono e1) .nil))⟩
  · rw [e, List.length_map, List.length_zip, r1.length, r2.length]
theorem i_zip2 (xe : XE0 G F k N sc W X) {elts : List Expr} {kk : Nat} {tpos : Pos} {a b : DE} {x y : Expr} {p pos : Pos} (hg : glB sc "zip" = true) (hx : isStar x = false) (hy : isStar y = false) (ha : PE X x (DEn G F n X W a)) (hb : PE X y (DEn G F n X W b)) :
    PId X W (.Tuple elts kk tpos) (.Call (.Name "zip" p) [x, y] [] pos) (denI G F n (.zip2 a b)) := by
  refine (pi_zip2 (xe.gl hg) (xe.fx.bn _ (by decide)) (pa_cons ha (pa_cons hb pa_nil (star_cons hy)) (star_cons hx)) (star_cons hx) (star_any (by simp [hy]))).imp fun σ H R ⟨m, I, e, s, S, E, h⟩ => ?_
  have h' : Rn (cOf X) W σ m I H ((den G F n a e >>= fun x => den G F n b e >>= fun y => seqM x >>= fun xs => seqM y >>= fun ys => pure (Src.fix ((xs.zip ys).map fun p => .tup [p.1, p.2]))) s) _ := h
  refine rdE_bind (k := fun x e => den G F n b e >>= fun y => seqM x >>= fun xs => seqM y >>= fun ys => pure (Src.fix ((xs.zip ys).map fun p => .tup [p.1, p.2]))) S E h' fun m1 I1 H1 s1 x u e1 S1 E1 ru h1 => ?_
  refine rdE_bind (k := fun y e => seqM x >>= fun xs => seqM y >>= fun ys => pure (Src.fix ((xs.zip ys).map fun p => .tup [p.1, p.2]))) S1 E1 h1 fun m2 I2 H2 s2 y w e2 S2 E2 rw_ h2 => ?_
  obtain ⟨p1, xs, us, rfl, rfl, g1, r1, h2⟩ := seqM_run (ru.mono e2) h2
  obtain ⟨p2, ys, vs, rfl, rfl, g2, r2, h2⟩ := seqM_run rw_ h2
  exact ⟨false, false, _, _, _, _, rfl, S2.sq g1, S2.sq g2, Rn.pure S2 h2 _ (fix_zip2 g1 g2 r1 r2)⟩
theorem i_zip3 (xe : XE0 G F k N sc W X) {elts : List Expr} {kk : Nat} {tpos : Pos} {a b d : DE} {x y z : Expr} {p pos : Pos} (hg : glB sc "zip" = true) (hx : isStar x = false) (hy : isStar y = false) (hz : isStar z = false) (ha : PE X x (DEn G F n X W a)) (hb : PE X y (DEn G F n X W b)) (hd : PE X z (DEn G F n X W d)) :
    PId X W (.Tuple elts kk tpos) (.Call (.Name "zip" p) [x, y, z] [] pos) (denI G F n (.zip3 a b d)) := by
  refine (pi_zip3 (xe.gl hg) (xe.fx.bn _ (by decide)) (pa_cons ha (pa_cons hb (pa_cons hd pa_nil (star_cons hz)) (star_cons hy)) (star_cons hx)) (star_cons hx) (star_any (by simp [hy, hz]))).imp fun σ H R ⟨m, I, e, s, S, E, h⟩ => ?_
  have h' : Rn (cOf X) W σ m I H ((den G F n a e >>= fun x => den G F n b e >>= fun y => den G F n d e >>= fun z => seqM x >>= fun xs => seqM y >>= fun ys => seqM z >>= fun zs => pure (Src.fix ((xs.zip (ys.zip zs)).map fun p => .tup [p.1, p.2.1, p.2.2]))) s) _ := h
  refine rdE_bind (k := fun x e => den G F n b e >>= fun y => den G F n d e >>= fun z => seqM x >>= fun xs => seqM y >>= fun ys => seqM z >>= fun zs => pure (Src.fix ((xs.zip (ys.zip zs)).map fun p => .tup [p.1, p.2.1, p.2.2]))) S E h' fun m1 I1 H1 s1 x u e1 S1 E1 ru h1 => ?_
  refine rdE_bind (k := fun y e => den G F n d e >>= fun z => seqM x >>= fun xs => seqM y >>= fun ys => seqM z >>= fun zs => pure (Src.fix ((xs.zip (ys.zip zs)).map fun p => .tup [p.1, p.2.1, p.2.2]))) S1 E1 h1 fun m2 I2 H2 s2 y w e2 S2 E2 rw_ h2 => ?_
  refine rdE_bind (k := fun z e => seqM x >>= fun xs => seqM y >>= fun ys => seqM z >>= fun zs => pure (Src.fix ((xs.zip (ys.zip zs)).map fun p => .tup [p.1, p.2.1, p.2.2]))) S2 E2 h2 fun m3 I3 H3 s3 z t e3 S3 E3 rt h3 => ?_
  obtain ⟨p1, xs, us, rfl, rfl, g1, r1, h3⟩ := seqM_run ((ru.mono e2).mono e3) h3
  obtain ⟨p2, ys, vs, rfl, rfl, g2, r2, h3⟩ := seqM_run (rw_.mono e3) h3
  obtain ⟨p3, zs, ws, rfl, rfl, g3, r3, h3⟩ := seqM_run rt h3
  exact ⟨false, false, false, _, _, _, _, _, _, rfl, S3.sq g1, S3.sq g2, S3.sq g3, Rn.pure S3 h3 _ (fix_zip3 g1 g2 g3 r1 r2 r3)⟩
end
end D
end

section
set_option maxRecDepth 100000
set_option maxHeartbeats 1000000
/-! D1o: list comprehensions. -/
namespace D
open PySem PySem.Spec PyProof.Rows L2
section
variable {G : Glb} {F : Fns} {n k : Nat} {N : List Str} {sc : Scope} {W : WX} {X : Cx}
theorem ok_bnd {α β : Type} {x : M α} {f : α → M β} {s s' : Store} {b : β} (h : (x >>= f) s = .ok b s') : ∃ a s1, x s = .ok a s1 ∧ f a s1 = .ok b s' := by
  cases e : x s with
  | ok a s1 => rw [bnd_ok e] at h; exact ⟨a, s1, rfl, h⟩
  | ex c p s1 => rw [bnd_ex e] at h; cases h
  | bad => rw [bnd_bad e] at h; cases h
/-- nothing is raised -/
abbrev W0 : WX := fun _ _ _ _ => False
theorem rn_okE {c : Cn} {W : WX} {σ : L2.St} {m : List Addr} {I H : Hp} {α : Type} {r : R α} {a : α} {s' : Store} {post : List Addr → Hp → Hp → Store → α → Prop} (e : r = .ok a s') (h : ∀ m' I' H', Ext m I H m' I' H' → Stt c m' I' s' H' → post m' I' H' s' a) : Rn c W σ m I H r post := by
  rw [e]
  exact h
/-- a walk's turns, with the rest of it: k the measure, i the turn, s the store, r what the rest gives -/
def WalkOk (c : Cn) (m : List Addr) (I : Hp) (J : It) {α : Type} (f : L → M (List α)) (s2 : Store) (st : Nat → Nat → Store → List α → Prop) : Prop :=
  ∀ (k i : Nat) (s : Store) (r : List α) (m' : List Addr) (I' H' : Hp), st k i s r → (∀ (n : Nat) (x : Addr), m[n]? = some x → m'[n]? = some x) → (∀ a o, I a = some o → I' a = some o) → Stt c m' I' s H' →
    (J.stop i H' ∧ r = [] ∧ s = s2) ∨ (J.go i H' ∧ ∃ x k' a s3 r2, (∀ v H'', J.yld i H' v H'' → ∃ I'', Ext m' I' H' m' I'' H'' ∧ Stt c m' I'' s H'' ∧ Rep c m' I'' x v) ∧ f x s = .ok a s3 ∧ st k' (i + 1) s3 r2 ∧ k' < k ∧ r = a ++ r2)
theorem mapFix_cons {α : Type} {f : L → M (List α)} {x : L} {xs : List L} {s s2 : Store} {r : List α} (h : mapFix f (x :: xs) s = .ok r s2) : ∃ a s3 r2, f x s = .ok a s3 ∧ mapFix f xs s3 = .ok r2 s2 ∧ r = a ++ r2 := by
  have h' : (f x >>= fun a => mapFix f xs >>= fun r => pure (a ++ r)) s = .ok r s2 := h
  obtain ⟨a, s3, e1, h1⟩ := ok_bnd h'
  obtain ⟨r2, s4, e2, h2⟩ := ok_bnd h1
  cases h2
  exact ⟨a, s3, r2, e1, e2, rfl⟩
theorem walk_fix {c : Cn} {m : List Addr} {I : Hp} {J : It} {α : Type} {f : L → M (List α)} {s2 : Store} {xs : List L} (h : FixOk c m I J xs) :
    WalkOk c m I J f s2 (fun k i s r => k = xs.length - i ∧ i ≤ xs.length ∧ mapFix f (xs.drop i) s = .ok r s2) := fun k i s r m' I' H' ⟨hk, hi, hr⟩ hm hI S => by
  obtain ⟨h1, h2⟩ := h m' I' H' s hm hI S i
  by_cases hlt : i < xs.length
  · have hx : xs[i]? = some xs[i] := List.getElem?_eq_getElem hlt
    rw [List.drop_eq_getElem_cons hlt] at hr
    obtain ⟨a, s3, r2, e1, e2, e3⟩ := mapFix_cons hr
    obtain ⟨g, y⟩ := h1 _ hx
    exact .inr ⟨g, xs[i], xs.length - (i + 1), a, s3, r2, y, e1, ⟨rfl, hlt, e2⟩, by omega, e3⟩
  · have e : i = xs.length := by omega
    subst e
    rw [List.drop_length] at hr
    cases hr
    exact .inl ⟨h2 rfl, rfl, rfl⟩
theorem walk_dyn {c : Cn} {m : List Addr} {I : Hp} {α : Type} {f : L → M (List α)} {s2 : Store} {j : Nat} {a : Addr} (ha : m[j]? = some a) :
    WalkOk c m I (Itl c.K a) f s2 (fun k i s r => mapDyn f j k i s = .ok r s2) := fun k i s r m' I' H' hr hm hI S => by
  cases k with
  | zero => cases hr
  | succ k =>
    have hr' : (getC j >>= fun o => match o with
      | .lst xs => (match xs[i]? with
        | some x => f x >>= fun a => mapDyn f j k (i + 1) >>= fun r => pure (a ++ r)
        | none => pure [])
      | _ => die) s = .ok r s2 := hr
    obtain ⟨o, s1, e1, h1⟩ := ok_bnd hr'
    have ha' := hm _ _ ha
    have l := S.lt ha'
    rw [getC_at (List.getElem?_eq_getElem l)] at e1
    cases e1
    have r1 := S.cell j a _ ha' (List.getElem?_eq_getElem l)
    revert r1 h1
    cases s[j] with
    | lst xs =>
      intro h1 r1
      obtain ⟨vs, g1, q1⟩ := r1
      have q := SqL.of (K := c.K) g1
      cases e : xs[i]? with
      | none =>
        simp only [e] at h1
        cases h1
        exact .inl ⟨⟨vs, q, by rw [← q1.length]; exact List.getElem?_eq_none_iff.mp e⟩, rfl, rfl⟩
      | some x =>
        simp only [e] at h1
        obtain ⟨b, s3, e2, h2⟩ := ok_bnd h1
        obtain ⟨r2, s4, e3, h3⟩ := ok_bnd h2
        cases h3
        obtain ⟨u, gu, ru⟩ := q1.get e
        refine .inr ⟨⟨vs, u, q, gu⟩, x, k, b, s3, r2, fun v H'' y => ?_, e2, e3, Nat.lt_succ_self _, rfl⟩
        obtain ⟨rfl, y⟩ := y
        have g2 := y vs q
        rw [gu] at g2
        cases g2
        exact ⟨I', Ext.rfl', S, ru⟩
    | _ => intro h1 r1; cases h1
theorem noEx_ok {α : Type} {x : M α} {s s' : Store} {a : α} (h : noEx x s = .ok a s') : x s = .ok a s' := by
  unfold noEx at h
  cases e : x s with
  | ok b s2 => rw [e] at h; exact h
  | ex c p s2 => rw [e] at h; cases h
  | bad => rw [e] at h; cases h
theorem szd_run {c : Cn} {W : WX} {σ : L2.St} {m : List Addr} {I H : Hp} {α : Type} {x : M (List α)} {s : Store} {post : List Addr → Hp → Hp → Store → List α → Prop} (h : Rn c W σ m I H (szd (noEx x) s) post) :
    ∃ r s2, x s = .ok r s2 ∧ r.length ≤ szMax ∧ ∀ m' I' H', Ext m I H m' I' H' → Stt c m' I' s2 H' → post m' I' H' s2 r := by
  have h' : Rn c W σ m I H ((noEx x >>= fun xs => if xs.length ≤ szMax then pure xs else die) s) post := h
  have e0 : ∃ r s2, noEx x s = .ok r s2 := by
    cases e : x s with
    | ok a s2 => exact ⟨a, s2, by unfold noEx; rw [e]⟩
    | ex cc p s2 =>
      have en : noEx x s = .bad := by unfold noEx; rw [e]
      rw [bnd_bad en] at h'
      exact h'.elim
    | bad =>
      have en : noEx x s = .bad := by unfold noEx; rw [e]
      rw [bnd_bad en] at h'
      exact h'.elim
  obtain ⟨r, s2, e⟩ := e0
  rw [bnd_ok e] at h'
  by_cases hz : r.length ≤ szMax
  · rw [if_pos hz] at h'
    exact ⟨r, s2, noEx_ok e, hz, h'⟩
  · rw [if_neg hz] at h'
    exact h'.elim
/-- a source's walk, run -/
theorem src_walk {c : Cn} {m : List Addr} {I : Hp} {s1 s2 : Store} {J : It} {src : Src} {α : Type} {f : L → M (List α)} {r : List α} (so : SrcOk c m I J src) (h : mapSrc n f src s1 = .ok r s2) :
    ∃ st, WalkOk c m I J f s2 st ∧ ∃ k, st k 0 s1 r := by
  cases src with
  | fix xs => exact ⟨_, walk_fix so, _, rfl, Nat.zero_le _, h⟩
  | dyn j =>
    obtain ⟨a, ha, rfl⟩ := so
    exact ⟨_, walk_dyn ha, n, h⟩
  | _ => exact so.elim
/-- what a comprehension's turn does -/
def lcF (G : Glb) (F : Fns) (n : Nat) (own : List Nat) (t : DT) (c : DO) (x : DE) (e : Env) : L → M (List L) := fun v => match setT t v (wipe e own) with
  | some e' => do if ← denC G F n c e' then do return [← den G F n x e'] else pure []
  | none => die
theorem lcF_run {own : List Nat} {t : DT} {c : DO} {x : DE} {e : Env} {v : L} {s s3 : Store} {a : List L} (h : lcF G F n own t c x e v s = .ok a s3) :
    ∃ e' b s4, setT t v (wipe e own) = some e' ∧ denC G F n c e' s = .ok b s4 ∧ ((b = true ∧ ∃ y, den G F n x e' s4 = .ok y s3 ∧ a = [y]) ∨ (b = false ∧ a = [] ∧ s3 = s4)) := by
  unfold lcF at h
  cases q : setT t v (wipe e own) with
  | none => rw [q] at h; cases h
  | some e' =>
    rw [q] at h
    have h' : (denC G F n c e' >>= fun b => if b = true then den G F n x e' >>= fun y => pure [y] else pure []) s = .ok a s3 := h
    obtain ⟨b, s4, e1, h1⟩ := ok_bnd h'
    refine ⟨e', b, s4, rfl, e1, ?_⟩
    cases b with
    | true =>
      obtain ⟨y, s5, e2, h2⟩ := ok_bnd (show (den G F n x e' >>= fun y => pure [y]) s4 = .ok a s3 from h1)
      cases h2
      exact .inl ⟨rfl, y, e2, rfl⟩
    | false => cases h1; exact .inr ⟨rfl, rfl, rfl⟩
/-- a clause's tests -/
def PTd (X : Cx) (ifs : List Expr) (f : Env → M Bool) : Prop := PTs X ifs (rdT (cOf X) W0 f)
theorem ts_non {X : Cx} : PTd X [] (denC G F n .non) := ⟨fun pins s σ H Q I ⟨m, I0, e, s0, S, E, h⟩ => pts_nil.run pins s σ H Q I (Rn.pure S h)⟩
theorem ts_som {X : Cx} {c : DE} {x : Expr} (h : PT X x (DTn G F n X W0 c)) : PTd X [x] (denC G F n (.som c)) := pts_one h
theorem lc_run {vs0 : List Nat} {t : DT} {it : DI} {c : DO} {d : DE} (ht : ∀ i ∈ t.ix, i ∈ vs0) {σ : L2.St} {H : Hp} {Q : VK} (h : DXn G F n X W (.lc vs0 t it c d) σ H Q) :
    tLc (wiD (cOf X) W (denI G F n it)) (tgR X.K t) (rdT (cOf X) W0 (denC G F n c)) (rdE (cOf X) W0 (den G F n d)) vs0 σ H Q := by
  obtain ⟨m, I, e, s, S, E, h⟩ := h
  refine ⟨m, I, e, s, S, E, (Rn.bind (x := denI G F n it e) (k := fun src => szd (noEx (mapSrc n (lcF G F n vs0 t c d e) src))) h).mono fun m1 I1 H1 s1 src e1 S1 h1 J so D hD => ?_⟩
  have E1 := E.mono e1
  obtain ⟨r, s2, hr, hz, hpost⟩ := szd_run h1
  obtain ⟨st, wk, k0, hst⟩ := src_walk so hr
  obtain ⟨nm, ni⟩ := S1.fresh hD
  refine ⟨fun i k Hc => ∃ m' I' s' accL acc r', Stt (cOf X) m' I' s' Hc ∧ D ∉ m' ∧ I' D = none ∧ Ext m1 I1 H1 m' I' (msk Hc D) ∧ Hc D = some (.lst acc) ∧ Reps (cOf X) m' I' accL acc ∧ st k i s' r' ∧ accL ++ r' = r, ⟨k0, ?_⟩, ?_⟩
  · obtain ⟨e2, S2⟩ := S1.newU (o := .lst []) hD
    exact ⟨m1, I1, s1, [], [], r, S2, nm, ni, by rw [msk_upd hD]; exact Ext.rfl', upd_same, .nil, hst, rfl⟩
  · rintro i kk Hc ⟨m', I', s', accL, acc, r', S', nm', ni', e', hDc, ra, hst', hr'⟩
    rcases wk kk i s' r' m' I' Hc hst' (fun _ _ => e'.get) e'.im S' with ⟨h1, rfl, rfl⟩ | ⟨hgo, x, k', a, s3, r2, hy, hf, hst2, hk, rfl⟩
    · refine .inl ⟨h1, ?_⟩
      rw [List.append_nil] at hr'
      subst hr'
      have q := hpost m' I' (msk Hc D) e' (S'.msk nm' ni') D acc msk_same ra
      rw [upd_msk hDc] at q
      exact q
    · obtain ⟨ev, b, s4, ht1, hc1, hbr⟩ := lcF_run hf
      refine .inr ⟨hgo, fun Hn => ∃ m' I' s' accL acc r', Stt (cOf X) m' I' s' Hn ∧ D ∉ m' ∧ I' D = none ∧ Ext m1 I1 H1 m' I' (msk Hn D) ∧ Hn D = some (.lst acc) ∧ Reps (cOf X) m' I' accL acc ∧ st k' (i + 1) s' r' ∧ accL ++ r' = r, fun Hn hn => ⟨k', hk, hn⟩, fun v H'' y => ?_⟩
      obtain ⟨I'', ey, Sy, rv⟩ := hy v H'' y
      have Ey : EnvR (cOf X) m' I'' (wipe e vs0) (L2.wipe σ vs0) := ((E1.mono e').mono ey).wipe _
      refine tgR_run Sy Ey rv ht1 fun σ2 E2 hw => ⟨?_, ?_⟩
      · rw [hw _ ht, wipe_wipe]
      · refine ⟨m', I'', ev, s', Sy, E2, rn_okE hc1 fun m4 I4 H4 e4 S4 => ?_⟩
        have hD4 : H4 D = some (.lst acc) := (ey.trans e4).fr _ _ hDc nm'
        have nm4 := (ey.trans e4).nom hDc nm'
        have ni4 := (ey.trans e4).noi hDc ni'
        rcases hbr with ⟨rfl, yv, hd, rfl⟩ | ⟨rfl, rfl, rfl⟩
        · show ite ((true : Bool) = true) _ _
          rw [if_pos rfl]
          refine ⟨m4, I4, ev, s4, S4, E2.mono e4, rn_okE hd fun m5 I5 H5 e5 S5 w rw_ => ?_⟩
          have hD5 : H5 D = some (.lst acc) := e5.fr _ _ hD4 nm4
          have nm5 := e5.nom hD4 nm4
          have ni5 := e5.noi hD4 ni4
          refine ⟨acc, hD5, ?_, m5, I5, s3, accL ++ [yv], acc ++ [w], r2, S5.updU nm5 ni5, nm5, ni5, ?_, upd_same, ?_, hst2, ?_⟩
          · refine sz_lt ?_
            rw [← ra.length]
            have : (accL ++ ([yv] ++ r2)).length ≤ szMax := by rw [hr']; exact hz
            simp at this
            omega
          · rw [msk_upd']
            exact e'.trans ((ey.trans e4).trans e5).msk
          · exact (((ra.mono ey).mono e4).mono e5).append (.cons rw_ .nil)
          · rw [List.append_assoc]; exact hr'
        · show ite ((false : Bool) = true) _ _
          rw [if_neg (by simp)]
          exact ⟨m4, I4, s3, accL, acc, r2, S4, nm4, ni4, e'.trans (ey.trans e4).msk, hD4, (ra.mono ey).mono e4, hst2, hr'⟩
theorem x_lc (xe : XE0 G F k N sc W X) {own : List (Str × Nat)} {t : DT} {it : DI} {c : DO} {d : DE} {elt tg iter : Expr} {ifs : List Expr} {scope : Scope} {pos : Pos} (ok : BlkOk X.N X.env.scope scope own) (ht : ∀ i ∈ t.ix, i ∈ own.map (·.2))
    (hset : (match iter with | .Set _ _ _ => true | _ => false) = false) (hi : PId X W tg iter (denI G F n it))
    (hg : ∀ (s : Shared) (H : Hp) (C : Addr) (cl : List (Str × Addr)) (fp : List Addr), PGd (X.blk s H scope (compEnvC scope cl C X.env) fp) tg t)
    (hc : ∀ (s : Shared) (H : Hp) (C : Addr) (cl : List (Str × Addr)) (fp : List Addr), PTd (X.blk s H scope (compEnvC scope cl C X.env) fp) ifs (denC G F n c))
    (he : ∀ (s : Shared) (H : Hp) (C : Addr) (cl : List (Str × Addr)) (fp : List Addr), PE (X.blk s H scope (compEnvC scope cl C X.env) fp) elt (DEn G F n (X.blk s H scope (compEnvC scope cl C X.env) fp) W0 d)) :
    PE X (.ListComp elt [⟨tg, iter, ifs, 0⟩] scope pos) (DXn G F n X W (.lc (own.map (·.2)) t it c d)) := by
  exact (pe_lc (g := tgR X.K t) (tt := rdT (cOf X) W0 (denC G F n c)) (te := rdE (cOf X) W0 (den G F n d)) xe.calm (by rw [xe.hN]; exact xe.nd) hi ok (fun s H C cl fp => hg s H C cl fp) (fun s H C cl fp => hc s H C cl fp) (fun s H C cl fp => he s H C cl fp) (no_set hset)).imp fun σ H Q h => lc_run ht h
end
end D
end

section
set_option maxRecDepth 100000
set_option maxHeartbeats 1000000
/-! D1p: a comprehension's block; built-ins; the check of expressions. -/
namespace D
open PySem PySem.Spec PyProof.Rows L2
section
variable {G : Glb} {F : Fns} {n k : Nat} {N : List Str} {sc : Scope} {W : WX} {X : Cx}
theorem lookup_relS2 {sc : Scope} : ∀ {names : List (Str × NameKind)} {x : Str} {k : NameKind}, names.lookup x = some k →
    (names.map fun (n, k) => if (k == NameKind.free && sc.kind == .function && sc.names.lookup n == some .cell) then (n, NameKind.cell) else (n, k)).lookup x = some k ∨
    (k = .free ∧ (names.map fun (n, k) => if (k == NameKind.free && sc.kind == .function && sc.names.lookup n == some .cell) then (n, NameKind.cell) else (n, k)).lookup x = some .cell)
  | [], _, _, h => by simp at h
  | (n, k₀) :: r, x, k, h => by
    have ih := @lookup_relS2 sc r x k
    show List.lookup x ((if (k₀ == NameKind.free && sc.kind == .function && sc.names.lookup n == some .cell) = true then (n, NameKind.cell) else (n, k₀)) :: (r.map _)) = some k ∨ (k = .free ∧ List.lookup x ((if (k₀ == NameKind.free && sc.kind == .function && sc.names.lookup n == some .cell) = true then (n, NameKind.cell) else (n, k₀)) :: (r.map _)) = some .cell)
    cases hx : x == n with
    | true =>
      simp only [List.lookup_cons, hx] at h
      cases h
      by_cases hc : (k₀ == NameKind.free && sc.kind == .function && sc.names.lookup n == some .cell) = true
      · rw [if_pos hc]
        simp only [List.lookup_cons, hx]
        simp only [Bool.and_eq_true, beq_iff_eq] at hc
        exact .inr ⟨hc.1.1, trivial⟩
      · rw [if_neg hc]
        simp only [List.lookup_cons, hx]
        exact .inl trivial
    | false =>
      simp only [List.lookup_cons, hx] at h
      by_cases hc : (k₀ == NameKind.free && sc.kind == .function && sc.names.lookup n == some .cell) = true
      · rw [if_pos hc]; simp only [List.lookup_cons, hx]; exact ih h
      · rw [if_neg hc]; simp only [List.lookup_cons, hx]; exact ih h
theorem XE0.blk (xe : XE0 G F k N sc W X) {scope : Scope} (s : Shared) (H : Hp) (C : Addr) (cl : List (Str × Addr)) (fp : List Addr) : XE0 G F k N scope W0 (X.blk s H scope (compEnvC scope cl C X.env) fp) where
  hN := xe.hN
  nd := xe.nd
  nm := fun x kd h => lookup_relS2 h
  fn := fun x h => by
    show (scope.names.lookup x == some .cell) = true
    rw [h]
    rfl
  calm := xe.calm
  room := xe.room
  fx := xe.fx
  tk := fun u s' ⟨_, _, _, _, _, _, _, _, _, _, _, _, _, _, _, _, w⟩ => w.elim
theorem blk_ok (xe : XE0 G F k N sc W X) {scope : Scope} {own : List (Str × Nat)} (h : blkC N sc scope own = true) : BlkOk X.N X.env.scope scope own := by
  have b := blkOk_by h
  rw [xe.hN]
  refine ⟨b.kind, b.uniq, b.ix, fun y hy e => ?_, b.own⟩
  rcases b.free y hy e with q | q
  · rcases xe.nm _ _ q with z | ⟨z, _⟩
    · exact .inl z
    · cases z
  · rcases xe.nm _ _ q with z | ⟨_, z⟩
    · exact .inr z
    · exact .inl z
/-! ### built-ins -/
def biName : BI → Str
  | .len => "len" | .int => "int" | .str => "str" | .max => "max" | .min => "min" | .list => "list" | .tuple => "tuple" | .dict => "dict"
theorem l_bi (xe : XE0 G F k N sc W X) {b : BI} {nm : Str} {es : DEs} {e1 : DE} {x : Expr} {xs : List Expr} {p pos : Pos} (hb : nm = biName b) (hg : glB sc nm = true) (hx : isStar x = false) (hs : xs.all (fun e => !isStar e) = true) (ha : PA X (x :: xs) (DAn G F n X W (.cons e1 es))) :
    PE X (.Call (.Name nm p) (x :: xs) [] pos) (DEn G F n X W (.bi b (.cons e1 es))) := by
  subst hb
  cases b with
  | len => exact l_biB xe (CallR.or call_len call_lenD) cv_len2 hg (by decide) (by decide) boot_len hx hs ha
  | int => exact l_biT xe call_int1 cv_int hg (by decide) (by decide) boot_int hx hs ha
  | str => exact l_biT xe call_str_int cv_str hg (by decide) (by decide) boot_str hx hs ha
  | max => exact l_biB xe (call_max2 xe.calm) cv_max hg (by decide) (by decide) boot_max hx hs ha
  | min => exact l_biB xe (call_min2 xe.calm) cv_min hg (by decide) (by decide) boot_min hx hs ha
  | list => exact l_biT xe (CallR.or call_list_of (call_listD xe.calm)) cv_list hg (by decide) (by decide) boot_list hx hs ha
  | tuple => exact l_biT xe call_tuple_of cv_tuple hg (by decide) (by decide) boot_tuple hx hs ha
  | dict => exact l_biT xe call_dictD cv_dict hg (by decide) (by decide) boot_dict hx hs ha
/-- in a list no one holds, as a test -/
theorem t_inX (xe : XE0 G F k N sc W X) {s : DX} {a : DE} {x y : Expr} {op : CmpOp} {pos : Pos} (hop : op = .In) (hm : behindInMarks op y = false) (ha : PE X x (DEn G F n X W a)) (hy : PE X y (DXn G F n X W s)) : PT X (.Compare x [op] [y] pos) (DTn G F n X W (.inX a s)) := by
  subst hop
  refine (pt_cmpR (op_inD xe.hu) ha hy hm).imp fun σ H Q h => ?_
  exact inX_run (rdT_bl (fun e st v s' q => by
    have q' : (den G F n a e >>= fun x => denX G F n s e >>= fun xs => inM x xs >>= fun b => pure (L.bl b)) st = .ok v s' := q
    obtain ⟨x, s1, e1, q1⟩ := ok_bnd q'
    obtain ⟨xs, s2, e2, q2⟩ := ok_bnd q1
    exact bl_ret (f := fun b => b) q2) h)
end
end D
end

section
set_option maxRecDepth 100000
set_option maxHeartbeats 2000000
/-! D1q: the check of an expression, with what it is worth. -/
namespace D
open PySem PySem.Spec PyProof.Rows L2
/-- as a value, as a test, as a tail of a chain of and, or -/
inductive Md where
  | v | t | w
def Gd (G : Glb) (F : Fns) (n : Nat) (X : Cx) (W : WX) (d : DE) (md : Md) (x : Expr) : Prop := match md with
  | .v => PE X x (DEn G F n X W d)
  | .t => PT X x (DTn G F n X W d)
  | .w => PW X x (DTn G F n X W d)
/-- in every context that the scope allows -/
abbrev Al (G : Glb) (N : List Str) (sc : Scope) (P : Fns → Nat → Nat → WX → Cx → Prop) : Prop := ∀ (F : Fns) (n k : Nat) (W : WX) (X : Cx), (∀ x, G.kd x = none) → XE0 G F k N sc W X → P F n k W X
abbrev Ck (P : Prop) : Type := {b : Bool // b = true → P}
def ckNo {P : Prop} : Ck P := ⟨false, fun h => (Bool.false_ne_true h).elim⟩
abbrev SnV (G : Glb) (N : List Str) (sc : Scope) (d : DE) (x : Expr) : Prop := Al G N sc fun F n _ W X => PE X x (DEn G F n X W d)
abbrev SnT (G : Glb) (N : List Str) (sc : Scope) (d : DE) (x : Expr) : Prop := Al G N sc fun F n _ W X => PT X x (DTn G F n X W d)
abbrev Sn (G : Glb) (N : List Str) (sc : Scope) (d : DE) (md : Md) (x : Expr) : Prop := Al G N sc fun F n _ W X => Gd G F n X W d md x
variable {G : Glb} {N : List Str} {sc : Scope}
/-- a plain expression: a value, or a test by its truth -/
def ckP {d : DE} {md : Md} {x : Expr} (b : Bool) (pl : isPlainT x = true) (h : b = true → SnV G N sc d x) : Ck (Sn G N sc d md x) := match md with
  | .v => ⟨b, h⟩
  | .t => ⟨b, fun hb F n k W X hk xe => t_plain pl (h hb F n k W X hk xe)⟩
  | .w => ckNo
/-- a value alone -/
def ckV {d : DE} {md : Md} {x : Expr} (b : Bool) (h : b = true → SnV G N sc d x) : Ck (Sn G N sc d md x) := match md with
  | .v => ⟨b, h⟩
  | .t => ckNo
  | .w => ckNo
def ckVT {d : DE} {md : Md} {x : Expr} (b : Bool) (h : b = true → SnV G N sc d x) (h' : b = true → SnT G N sc d x) : Ck (Sn G N sc d md x) := match md with
  | .v => ⟨b, h⟩
  | .t => ⟨b, h'⟩
  | .w => ckNo
theorem an2 {a b : Bool} (h : (a && b) = true) : a = true ∧ b = true := Bool.and_eq_true_iff.mp h
theorem an3 {a b c : Bool} (h : (a && b && c) = true) : a = true ∧ b = true ∧ c = true := ⟨(an2 (an2 h).1).1, (an2 (an2 h).1).2, (an2 h).2⟩
theorem an4 {a b c d : Bool} (h : (a && b && c && d) = true) : a = true ∧ b = true ∧ c = true ∧ d = true := ⟨(an3 (an2 h).1).1, (an3 (an2 h).1).2.1, (an3 (an2 h).1).2.2, (an2 h).2⟩
theorem an5 {a b c d e : Bool} (h : (a && b && c && d && e) = true) : a = true ∧ b = true ∧ c = true ∧ d = true ∧ e = true := ⟨(an4 (an2 h).1).1, (an4 (an2 h).1).2.1, (an4 (an2 h).1).2.2.1, (an4 (an2 h).1).2.2.2, (an2 h).2⟩
theorem an6 {a b c d e f : Bool} (h : (a && b && c && d && e && f) = true) : a = true ∧ b = true ∧ c = true ∧ d = true ∧ e = true ∧ f = true := ⟨(an5 (an2 h).1).1, (an5 (an2 h).1).2.1, (an5 (an2 h).1).2.2.1, (an5 (an2 h).1).2.2.2.1, (an5 (an2 h).1).2.2.2.2, (an2 h).2⟩
theorem an7 {a b c d e f g : Bool} (h : (a && b && c && d && e && f && g) = true) : a = true ∧ b = true ∧ c = true ∧ d = true ∧ e = true ∧ f = true ∧ g = true := ⟨(an6 (an2 h).1).1, (an6 (an2 h).1).2.1, (an6 (an2 h).1).2.2.1, (an6 (an2 h).1).2.2.2.1, (an6 (an2 h).1).2.2.2.2.1, (an6 (an2 h).1).2.2.2.2.2, (an2 h).2⟩
theorem nt {b : Bool} (h : (!b) = true) : b = false := by simpa using h
theorem dc {P : Prop} [Decidable P] (h : decide P = true) : P := of_decide_eq_true h
theorem bl_ne : BlV (fun x y => do return .bl !(← eqM x y)) := fun x y s v s' h => bl_ret (f := fun b => !b) h
theorem bl_isn : BlV (fun x y => if y = L.non then pure (.bl (decide (x = L.non))) else die) := fun x y s v s' h => bl_ite h
theorem bl_isnn : BlV (fun x y => if y = L.non then pure (.bl (!decide (x = L.non))) else die) := fun x y s v s' h => bl_ite h
theorem bl_in {kd : Str → Option (List (Str × L))} : BlV (fun x y => do return .bl (← inqM kd x y)) := fun x y s v s' h => bl_ret (f := fun b => b) h
theorem bl_nin {kd : Str → Option (List (Str × L))} : BlV (fun x y => do return .bl !(← inqM kd x y)) := fun x y s v s' h => bl_ret (f := fun b => !b) h
theorem hu64 {F : Fns} {k : Nat} {W : WX} {X : Cx} (xe : XE0 G F k N sc W X) : X.A.units + 64 < cLine := by have := xe.hu; omega
def constV : L → V
  | .bl b => .bl b
  | .int b => .int b
  | .str b => .str b
  | _ => .non
def chkC : (v : L) → (x : Expr) → Ck (∀ (X : Cx), PE X x (tC (constV v)) ∧ ∀ (c : Cn) m I, Rep c m I v (constV v))
  | .non, .Constant .none _ _ => ⟨true, fun _ X => ⟨pe_non, fun _ _ _ => .non⟩⟩
  | .bl b, .Constant (.bool c) _ _ => ⟨decide (b = c), fun h X => by rw [dc h]; exact ⟨pe_bl, fun _ _ _ => .bl _⟩⟩
  | .int b, .Constant (.int c) _ _ => ⟨decide (b = c), fun h X => by rw [dc h]; exact ⟨pe_int, fun _ _ _ => .int _⟩⟩
  | .str b, .Constant (.str c) _ _ => ⟨decide (b = c), fun h X => by rw [dc h]; exact ⟨pe_str, fun _ _ _ => .str _⟩⟩
  | _, _ => ckNo
def isConst : Expr → Bool
  | .Constant _ _ _ => true
  | _ => false
theorem const_plain {x : Expr} (h : isConst x = true) : isPlainT x = true := by
  cases x <;> first | rfl | (exact (Bool.false_ne_true h).elim)
def chkTs (N : List Str) (sc : Scope) : (is : List Nat) → (es : List Expr) → Ck ((es.length = is.length ∧ es.all isName = true) ∧ ∀ G F k W X, XE0 G F k N sc W X → PGs X es (gsR is))
  | [], [] => ⟨true, fun _ => ⟨⟨rfl, rfl⟩, fun G F k W X xe => pgs_nil⟩⟩
  | i :: is, .Name x p :: es => ⟨decide (N[i]? = some x) && locB sc x && (chkTs N sc is es).1, fun h => by
    obtain ⟨h1, h2, h3⟩ := an3 h
    obtain ⟨⟨a, b⟩, c⟩ := (chkTs N sc is es).2 h3
    exact ⟨⟨by rw [List.length_cons, List.length_cons, a], by rw [List.all_cons, b]; rfl⟩, fun G F k W X xe => gs_cons xe (dc h1) h2 (c G F k W X xe)⟩⟩
  | _, _ => ckNo
def chkT (N : List Str) (sc : Scope) : (t : DT) → (tg : Expr) → Ck (∀ G F k W X, XE0 G F k N sc W X → PGd X tg t)
  | .nm i, .Name x p => ⟨decide (N[i]? = some x) && locB sc x, fun h G F k W X xe => g_nm xe (dc (an2 h).1) (an2 h).2⟩
  | .tp is, .Tuple es _ _ => ⟨(chkTs N sc is es).1, fun h G F k W X xe => g_tp xe ((chkTs N sc is es).2 h).1.1 ((chkTs N sc is es).2 h).1.2 (((chkTs N sc is es).2 h).2 G F k W X xe)⟩
  | _, _ => ckNo
def ownOf (N : List Str) (own : List Nat) : List (Str × Nat) := own.map fun i => (N.getD i "", i)
theorem ownOf_ix {own : List Nat} : (ownOf N own).map (·.2) = own := by
  unfold ownOf
  rw [List.map_map]
  exact List.map_id' own
def itName : IT → Str
  | .bl => "bool" | .int => "int" | .str => "str" | .tup => "tuple" | .lst => "list" | .own x => x
theorem it_bn {t : IT} (h : t.bi = true) : itName t ∈ bNames ∧ nmB (itName t) = true ∧ bootBuiltins (itName t) = some (.type t.ty) := by
  cases t with
  | own x => exact (Bool.false_ne_true h).elim
  | bl => exact ⟨by decide, by decide, boot_bool⟩
  | int => exact ⟨by decide, by decide, boot_int⟩
  | str => exact ⟨by decide, by decide, boot_str⟩
  | tup => exact ⟨by decide, by decide, boot_tuple⟩
  | lst => exact ⟨by decide, by decide, boot_list⟩
/-- arguments -/
abbrev SnA (G : Glb) (N : List Str) (sc : Scope) (es : DEs) (xs : List Expr) : Prop := xs.all (fun e => !isStar e) = true ∧ Al G N sc fun F n _ W X => PA X xs (DAn G F n X W es)
def ckCmp {d a b : DE} {md : Md} {x y : Expr} {op : CmpOp} {pos : Pos} (op' : CmpOp) (r : Cx → Nat → R2) (g : Fns → L → L → M L) (ho : ∀ F k W X, XE0 G F k N sc W X → OpR X (compareOp op') (r X k)) (hv : ∀ F k W X, (∀ x, G.kd x = none) → XE0 G F k N sc W X → OpV (cOf X) (r X k) (g F))
    (hb : ∀ F, BlV (g F)) (hd : ∀ F n e, den G F n d e = (do g F (← den G F n a e) (← den G F n b e))) (ca : Ck (SnV G N sc a x)) (cb : Ck (SnV G N sc b y)) : Ck (Sn G N sc d md (.Compare x [op] [y] pos)) :=
  ckVT (decide (op = op') && !behindInMarks op y && ca.1 && cb.1) (fun h F n k W X hk xe => by
    obtain ⟨h1, h2, h3, h4⟩ := an4 h
    have e := dc h1
    subst e
    exact l_cmp (ho F k W X xe) (hv F k W X hk xe) (hd F n) (nt h2) (ca.2 h3 F n k W X hk xe) (cb.2 h4 F n k W X hk xe)) (fun h F n k W X hk xe => by
    obtain ⟨h1, h2, h3, h4⟩ := an4 h
    have e := dc h1
    subst e
    exact t_cmp (ho F k W X xe) (hv F k W X hk xe) (hb F) (hd F n) (nt h2) (ca.2 h3 F n k W X hk xe) (cb.2 h4 F n k W X hk xe))
def ckBin {d a b : DE} {md : Md} {x y : Expr} {op : Operator} {pos : Pos} (op' : Operator) (r : Cx → R2) (g : L → L → M L) (ho : ∀ X, OpR X (binaryOp op') (r X)) (hv : ∀ X, OpV (cOf X) (r X) g)
    (hd : ∀ F n e, den G F n d e = (do g (← den G F n a e) (← den G F n b e))) (ca : Ck (SnV G N sc a x)) (cb : Ck (SnV G N sc b y)) : Ck (Sn G N sc d md (.BinOp x op y pos)) :=
  ckV (decide (op = op') && ca.1 && cb.1) (fun h F n k W X hk xe => by
    obtain ⟨h1, h3, h4⟩ := an3 h
    have e := dc h1
    subst e
    exact l_bin (ho X) (hv X) (hd F n) (ca.2 h3 F n k W X hk xe) (cb.2 h4 F n k W X hk xe))
end D
end

section
set_option maxRecDepth 100000
set_option maxHeartbeats 4000000
/-! D1r: the check of an expression. -/
namespace D
open PySem PySem.Spec PyProof.Rows L2
section
variable (G : Glb) (N : List Str)
mutual
def chk (sc : Scope) : (d : DE) → (md : Md) → (x : Expr) → Ck (Sn G N sc d md x)
  | .var i, md, x => match x with
    | .Name y p => ckP (decide (N[i]? = some y) && visB sc y && nmB y) rfl (fun h F n k W X hk xe => l_var xe (dc (an3 h).1) (an3 h).2.1 (an3 h).2.2)
    | _ => ckNo
  | .cst v, md, x => match hc : isConst x with
    | true => ckP (chkC v x).1 (const_plain hc) (fun h F n k W X hk xe => by
      obtain ⟨pu, hr⟩ := (chkC v x).2 h X
      exact l_cst (fun m I => hr _ m I) pu)
    | false => ckNo
  | .glb y, md, x => match x with
    | .Name z p => ckP (decide (z = y) && glB sc z && nmB z) rfl (fun h F n k W X hk xe => by
      have e := dc (an3 h).1
      subst e
      exact l_glb xe (an3 h).2.1 (an3 h).2.2)
    | _ => ckNo
  | .add a b, md, x => match x with
    | .BinOp y op z p => ckBin .Add (fun X => rAddL X.K) addM (fun X => op_addL) (fun X => ov_add) (fun _ _ _ => rfl) (chk sc a .v y) (chk sc b .v z)
    | _ => ckNo
  | .sub a b, md, x => match x with
    | .BinOp y op z p => ckBin .Sub (fun X => rI0 fun i j => .int (i - j)) subM (fun X => op_sub) (fun X => ov_sub) (fun _ _ _ => rfl) (chk sc a .v y) (chk sc b .v z)
    | _ => ckNo
  | .mul a b, md, x => match x with
    | .BinOp y op z p => ckBin .Mult (fun X => rI CMul fun i j => .int (i * j)) mulM (fun X => op_mul) (fun X => ov_mul) (fun _ _ _ => rfl) (chk sc a .v y) (chk sc b .v z)
    | _ => ckNo
  | .fdv a b, md, x => match x with
    | .BinOp y op z p => ckBin .FloorDiv (fun X => rI CDiv fun i j => .int (i / j)) fdvM (fun X => op_fdiv) (fun X => ov_fdv) (fun _ _ _ => rfl) (chk sc a .v y) (chk sc b .v z)
    | _ => ckNo
  | .mod a b, md, x => match x with
    | .BinOp y op z p => ckBin .Mod (fun X => rI (fun _ j => 0 < j) fun i j => .int (i % j)) modM (fun X => op_mod) (fun X => ov_mod) (fun _ _ _ => rfl) (chk sc a .v y) (chk sc b .v z)
    | _ => ckNo
  | .pow a b, md, x => match x with
    | .BinOp y op z p => ckBin .Pow (fun X => rI CPow fun i j => .int (i ^ j.toNat)) powM (fun X => op_pow) (fun X => ov_pow) (fun _ _ _ => rfl) (chk sc a .v y) (chk sc b .v z)
    | _ => ckNo
  | .neg a, md, x => match x with
    | .UnaryOp .USub y p => ckV (chk sc a .v y).1 (fun h F n k W X hk xe => l_neg ((chk sc a .v y).2 h F n k W X hk xe))
    | _ => ckNo
  | .not a, md, x => match x with
    | .UnaryOp .Not y p => match md with
      | .v => ⟨(chk sc a .v y).1, fun h F n k W X hk xe => l_notV ((chk sc a .v y).2 h F n k W X hk xe)⟩
      | .t => ⟨(chk sc a .t y).1, fun h F n k W X hk xe => l_notT ((chk sc a .t y).2 h F n k W X hk xe)⟩
      | .w => ckNo
    | _ => ckNo
  | .eq a b, md, x => match x with
    | .Compare y [op] [z] p => ckCmp .Eq (fun X k => rEqL X k) (fun F => eqqM G.has F) (fun F k W X xe => op_eqL (xe.room.mono (Nat.le_succ _)) (hu64 xe)) (fun F k W X hk xe => ov_eq xe) (fun F => bl_eq) (fun _ _ _ => rfl) (chk sc a .v y) (chk sc b .v z)
    | _ => ckNo
  | .ne a b, md, x => match x with
    | .Compare y [op] [z] p => ckCmp .NotEq (fun X k => rNeD X.K) (fun F x y => do return .bl !(← eqM x y)) (fun F k W X xe => op_neD (hu64 xe)) (fun F k W X hk xe => ov_ne) (fun F => bl_ne) (fun _ _ _ => rfl) (chk sc a .v y) (chk sc b .v z)
    | _ => ckNo
  | .lt a b, md, x => match x with
    | .Compare y [op] [z] p => ckCmp .Lt (fun X k => rI0 fun i j => .bl (decide (i < j))) (fun F => ltM) (fun F k W X xe => op_lt) (fun F k W X hk xe => ov_lt) (fun F => bl_lt) (fun _ _ _ => rfl) (chk sc a .v y) (chk sc b .v z)
    | _ => ckNo
  | .le a b, md, x => match x with
    | .Compare y [op] [z] p => ckCmp .LtE (fun X k => rI0 fun i j => .bl (decide (i ≤ j))) (fun F => leM) (fun F k W X xe => op_le) (fun F k W X hk xe => ov_le) (fun F => bl_le) (fun _ _ _ => rfl) (chk sc a .v y) (chk sc b .v z)
    | _ => ckNo
  | .gt a b, md, x => match x with
    | .Compare y [op] [z] p => ckCmp .Gt (fun X k => rI0 fun i j => .bl (decide (j < i))) (fun F x y => ltM y x) (fun F k W X xe => op_gt) (fun F k W X hk xe => ov_gt) (fun F => bl_gt) (fun _ _ _ => rfl) (chk sc a .v y) (chk sc b .v z)
    | _ => ckNo
  | .ge a b, md, x => match x with
    | .Compare y [op] [z] p => ckCmp .GtE (fun X k => rI0 fun i j => .bl (decide (j ≤ i))) (fun F x y => leM y x) (fun F k W X xe => op_ge) (fun F k W X hk xe => ov_ge) (fun F => bl_ge) (fun _ _ _ => rfl) (chk sc a .v y) (chk sc b .v z)
    | _ => ckNo
  | .isn a, md, x => match x with
    | .Compare y [op] [.Constant .none j q] p => ckCmp (b := .cst .non) .Is (fun X k => fun x y H Q => y = .non ∧ Q (.bl (decide (x = .non))) H) (fun F x y => if y = L.non then pure (.bl (decide (x = L.non))) else die) (fun F k W X xe => op_isN) (fun F k W X hk xe => ov_isn) (fun F => bl_isn) (fun F n e => den_isn e) (chk sc a .v y) ⟨true, fun _ F n k W X hk xe => l_cst (fun m I => .non) pe_non⟩
    | _ => ckNo
  | .isnn a, md, x => match x with
    | .Compare y [op] [.Constant .none j q] p => ckCmp (b := .cst .non) .IsNot (fun X k => fun x y H Q => y = .non ∧ Q (.bl (!decide (x = .non))) H) (fun F x y => if y = L.non then pure (.bl (!decide (x = L.non))) else die) (fun F k W X xe => op_notN) (fun F k W X hk xe => ov_isnn) (fun F => bl_isnn) (fun F n e => den_isnn e) (chk sc a .v y) ⟨true, fun _ F n k W X hk xe => l_cst (fun m I => .non) pe_non⟩
    | _ => ckNo
  | .ist a, md, x => ckNo
  | .inn a b, md, x => match x with
    | .Compare y [op] [z] p => ckCmp .In (fun X k => rInL X) (fun F x y => do return .bl (← inqM G.kd x y)) (fun F k W X xe => op_inL xe.hu) (fun F k W X hk xe => ov_in hk) (fun F => bl_in) (fun _ _ _ => rfl) (chk sc a .v y) (chk sc b .v z)
    | _ => ckNo
  | .nin a b, md, x => match x with
    | .Compare y [op] [z] p => ckCmp .NotIn (fun X k => rNinL X) (fun F x y => do return .bl !(← inqM G.kd x y)) (fun F k W X xe => op_ninL xe.hu) (fun F k W X hk xe => ov_nin hk) (fun F => bl_nin) (fun _ _ _ => rfl) (chk sc a .v y) (chk sc b .v z)
    | _ => ckNo
  | .chn o1 o2 a b c, md, x => match x with
    | .Compare y [p, q] [z, w] pos => ckVT (decide (p = if o1 then CmpOp.LtE else CmpOp.Lt) && decide (q = if o2 then CmpOp.LtE else CmpOp.Lt) && (chk sc a .v y).1 && (chk sc b .v z).1 && (chk sc c .v w).1)
        (fun h F n k W X hk xe => by
          obtain ⟨h1, h2, h3, h4, h5⟩ := an5 h
          exact l_chnV (dc h1) (dc h2) ((chk sc a .v y).2 h3 F n k W X hk xe) ((chk sc b .v z).2 h4 F n k W X hk xe) ((chk sc c .v w).2 h5 F n k W X hk xe))
        (fun h F n k W X hk xe => by
          obtain ⟨h1, h2, h3, h4, h5⟩ := an5 h
          exact t_chn (dc h1) (dc h2) ((chk sc a .v y).2 h3 F n k W X hk xe) ((chk sc b .v z).2 h4 F n k W X hk xe) ((chk sc c .v w).2 h5 F n k W X hk xe))
    | _ => ckNo
  | .and a b, md, x => match x with
    | .BoolOp .And (y :: z :: r) p => match r with
      | [] => match md with
        | .v => ⟨(chk sc a .v y).1 && (chk sc b .v z).1, fun h F n k W X hk xe => l_andV ((chk sc a .v y).2 (an2 h).1 F n k W X hk xe) (pe_one ((chk sc b .v z).2 (an2 h).2 F n k W X hk xe))⟩
        | .t => ⟨(chk sc a .t y).1 && (chk sc b .t z).1, fun h F n k W X hk xe => (l_andT ((chk sc a .t y).2 (an2 h).1 F n k W X hk xe) (pw_and1 ((chk sc b .t z).2 (an2 h).2 F n k W X hk xe))).pt⟩
        | .w => ⟨(chk sc a .t y).1 && (chk sc b .t z).1, fun h F n k W X hk xe => l_andT ((chk sc a .t y).2 (an2 h).1 F n k W X hk xe) (pw_and1 ((chk sc b .t z).2 (an2 h).2 F n k W X hk xe))⟩
      | u :: r' => match md with
        | .v => ⟨(chk sc a .v y).1 && (chk sc b .v (.BoolOp .And (z :: u :: r') p)).1, fun h F n k W X hk xe => l_andV ((chk sc a .v y).2 (an2 h).1 F n k W X hk xe) ((chk sc b .v (.BoolOp .And (z :: u :: r') p)).2 (an2 h).2 F n k W X hk xe)⟩
        | .t => ⟨(chk sc a .t y).1 && (chk sc b .w (.BoolOp .And (z :: u :: r') p)).1, fun h F n k W X hk xe => (l_andT ((chk sc a .t y).2 (an2 h).1 F n k W X hk xe) ((chk sc b .w (.BoolOp .And (z :: u :: r') p)).2 (an2 h).2 F n k W X hk xe)).pt⟩
        | .w => ⟨(chk sc a .t y).1 && (chk sc b .w (.BoolOp .And (z :: u :: r') p)).1, fun h F n k W X hk xe => l_andT ((chk sc a .t y).2 (an2 h).1 F n k W X hk xe) ((chk sc b .w (.BoolOp .And (z :: u :: r') p)).2 (an2 h).2 F n k W X hk xe)⟩
    | _ => ckNo
  | .or a b, md, x => match x with
    | .BoolOp .Or (y :: z :: r) p => match r with
      | [] => match md with
        | .v => ⟨(chk sc a .v y).1 && (chk sc b .v z).1, fun h F n k W X hk xe => l_orV ((chk sc a .v y).2 (an2 h).1 F n k W X hk xe) (pe_one ((chk sc b .v z).2 (an2 h).2 F n k W X hk xe))⟩
        | .t => ⟨(chk sc a .t y).1 && (chk sc b .t z).1, fun h F n k W X hk xe => (l_orT ((chk sc a .t y).2 (an2 h).1 F n k W X hk xe) (pw_or1 ((chk sc b .t z).2 (an2 h).2 F n k W X hk xe))).pt⟩
        | .w => ⟨(chk sc a .t y).1 && (chk sc b .t z).1, fun h F n k W X hk xe => l_orT ((chk sc a .t y).2 (an2 h).1 F n k W X hk xe) (pw_or1 ((chk sc b .t z).2 (an2 h).2 F n k W X hk xe))⟩
      | u :: r' => match md with
        | .v => ⟨(chk sc a .v y).1 && (chk sc b .v (.BoolOp .Or (z :: u :: r') p)).1, fun h F n k W X hk xe => l_orV ((chk sc a .v y).2 (an2 h).1 F n k W X hk xe) ((chk sc b .v (.BoolOp .Or (z :: u :: r') p)).2 (an2 h).2 F n k W X hk xe)⟩
        | .t => ⟨(chk sc a .t y).1 && (chk sc b .w (.BoolOp .Or (z :: u :: r') p)).1, fun h F n k W X hk xe => (l_orT ((chk sc a .t y).2 (an2 h).1 F n k W X hk xe) ((chk sc b .w (.BoolOp .Or (z :: u :: r') p)).2 (an2 h).2 F n k W X hk xe)).pt⟩
        | .w => ⟨(chk sc a .t y).1 && (chk sc b .w (.BoolOp .Or (z :: u :: r') p)).1, fun h F n k W X hk xe => l_orT ((chk sc a .t y).2 (an2 h).1 F n k W X hk xe) ((chk sc b .w (.BoolOp .Or (z :: u :: r') p)).2 (an2 h).2 F n k W X hk xe)⟩
    | _ => ckNo
  | .ite c a b, md, x => match x with
    | .IfExp y z w p => ckV ((chk sc c .t y).1 && (chk sc a .v z).1 && (chk sc b .v w).1) (fun h F n k W X hk xe => l_ite ((chk sc c .t y).2 (an3 h).1 F n k W X hk xe) ((chk sc a .v z).2 (an3 h).2.1 F n k W X hk xe) ((chk sc b .v w).2 (an3 h).2.2 F n k W X hk xe))
    | _ => ckNo
  | .tup es, md, x => match x with
    | .Tuple xs j p => ckP (chks sc es xs).1 rfl (fun h F n k W X hk xe => l_tup (((chks sc es xs).2 h).2 F n k W X hk xe))
    | _ => ckNo
  | .lst es, md, x => match x with
    | .List xs p => ckP (chks sc es xs).1 rfl (fun h F n k W X hk xe => l_lst (((chks sc es xs).2 h).2 F n k W X hk xe))
    | _ => ckNo
  | .dS0, md, x => match x with
    | .Dict [] [] p => ckV true (fun _ F n k W X hk xe => l_dS0)
    | _ => ckNo
  | .dSc ks vs, md, x => match x with
    | .Dict keys values p => ckV ((chkP sc vs ks keys values).1 && decide (keys ≠ []) && decide (ks.length ≤ 15)) (fun h F n k W X hk xe => by
      obtain ⟨h1, h2, h3⟩ := an3 h
      obtain ⟨⟨a, b, c⟩, d⟩ := (chkP sc vs ks keys values).2 h1
      exact l_dSc (d p F n k W X hk xe) c a (dc h2) (by rw [← b]; exact dc h3) (dc h3))
    | _ => ckNo
  | .dN1 a b, md, x => ckNo
  | .idx a b, md, x => match x with
    | .Subscript y z p => ckP (!isSlice z && (chk sc a .v y).1 && (chk sc b .v z).1) rfl (fun h F n k W X hk xe => l_idx xe (nt (an3 h).1) ((chk sc a .v y).2 (an3 h).2.1 F n k W X hk xe) ((chk sc b .v z).2 (an3 h).2.2 F n k W X hk xe))
    | _ => ckNo
  | .slc a lo hi, md, x => match x with
    | .Subscript y (.Slice l h none q) p => ckP ((chk sc a .v y).1 && (chkO sc lo l).1 && (chkO sc hi h).1) rfl (fun hb F n k W X hk xe => l_slc ((chk sc a .v y).2 (an3 hb).1 F n k W X hk xe) ((chkO sc lo l).2 (an3 hb).2.1 F n k W X hk xe) ((chkO sc hi h).2 (an3 hb).2.2 F n k W X hk xe))
    | _ => ckNo
  | .fld a f, md, x => match x with
    | .Attribute y g p => ckP (decide (g = f) && plainBase y && (chk sc a .v y).1) rfl (fun h F n k W X hk xe => by
      have e := dc (an3 h).1
      subst e
      exact l_fld (an3 h).2.1 ((chk sc a .v y).2 (an3 h).2.2 F n k W X hk xe))
    | _ => ckNo
  | .call f es, md, x => match es, x with
    | .nil, .Call (.Name g q) [] [] p => ckP (decide (g = f) && glB sc g && nmB g) rfl (fun h F n k W X hk xe => by
      have e := dc (an3 h).1
      subst e
      exact l_call0 xe (an3 h).2.1 (an3 h).2.2)
    | .cons a r, .Call (.Name g q) (y :: ys) [] p => ckP (decide (g = f) && glB sc g && nmB g && !isStar y && (chk sc a .v y).1 && (chks sc r ys).1) rfl (fun h F n k W X hk xe => by
      obtain ⟨h1, h2, h3, h4, h5, h6⟩ := an6 h
      have e := dc h1
      subst e
      obtain ⟨s1, s2⟩ := (chks sc r ys).2 h6
      exact l_call xe h2 h3 (nt h4) s1 (a_cons (nt h4) ((chk sc a .v y).2 h5 F n k W X hk xe) (s2 F n k W X hk xe)))
    | _, _ => ckNo
  | .meth m o es, md, x => match es, x with
    | .nil, .Call (.Attribute z g q) [] [] p => ckP (decide (g = m) && plainBase z && (q.endLine == p.line) && (chk sc o .v z).1) rfl (fun h F n k W X hk xe => by
      obtain ⟨h1, h2, h3, h4⟩ := an4 h
      have e := dc h1
      subst e
      exact l_meth0 xe h2 h3 ((chk sc o .v z).2 h4 F n k W X hk xe))
    | .cons a r, .Call (.Attribute z g q) (y :: ys) [] p => ckP (decide (g = m) && plainBase z && (q.endLine == p.line) && (chk sc o .v z).1 && (!isStar y && decide (ys.length < 29)) && (chk sc a .v y).1 && (chks sc r ys).1) rfl (fun h F n k W X hk xe => by
      obtain ⟨h1, h2, h3, h4, h5, h6, h7⟩ := an7 h
      have e := dc h1
      subst e
      obtain ⟨s1, s2⟩ := (chks sc r ys).2 h7
      exact l_meth xe h2 (nt (an2 h5).1) s1 (dc (an2 h5).2) h3 ((chk sc o .v z).2 h4 F n k W X hk xe) (a_cons (nt (an2 h5).1) ((chk sc a .v y).2 h6 F n k W X hk xe) (s2 F n k W X hk xe)))
    | _, _ => ckNo
  | .make c es, md, x => match es, x with
    | .cons a r, .Call (.Name g q) (y :: ys) [] p => ckP (decide (g = c) && glB sc g && nmB g && !isStar y && (chk sc a .v y).1 && (chks sc r ys).1) rfl (fun h F n k W X hk xe => by
      obtain ⟨h1, h2, h3, h4, h5, h6⟩ := an6 h
      have e := dc h1
      subst e
      obtain ⟨s1, s2⟩ := (chks sc r ys).2 h6
      exact l_make xe h2 h3 (nt h4) s1 (a_cons (nt h4) ((chk sc a .v y).2 h5 F n k W X hk xe) (s2 F n k W X hk xe)))
    | _, _ => ckNo
  | .isi a t, md, x => match x with
    | .Call (.Name g q) [y, .Name tn q2] [] p => match t with
      | .own kx => ckP (decide (g = "isinstance") && glB sc g && !isStar y && (chk sc a .v y).1 && (decide (tn = kx) && glB sc tn && nmB tn && G.has (kx, some "__init__"))) rfl (fun h F n k W X hk xe => by
        obtain ⟨h1, h2, h3, h4, h5⟩ := an5 h
        obtain ⟨i1, i2, i3, i4⟩ := an4 h5
        have e := dc h1
        subst e
        have e2 := dc i1
        subst e2
        obtain ⟨C, fa, c1, _⟩ := xe.fx.mak _ i4
        exact l_isiO xe h2 i2 i3 ⟨C, c1⟩ (nt h3) ((chk sc a .v y).2 h4 F n k W X hk xe))
      | t => ckP (decide (g = "isinstance") && glB sc g && !isStar y && (chk sc a .v y).1 && (decide (tn = itName t) && glB sc tn && t.bi)) rfl (fun h F n k W X hk xe => by
        obtain ⟨h1, h2, h3, h4, h5⟩ := an5 h
        obtain ⟨i1, i2, i3⟩ := an3 h5
        have e := dc h1
        subst e
        have e2 := dc i1
        subst e2
        obtain ⟨j1, j2, j3⟩ := it_bn i3
        exact l_isi xe i3 rfl h2 i2 j2 j1 j3 (nt h3) ((chk sc a .v y).2 h4 F n k W X hk xe))
    | _ => ckNo
  | .bi b es, md, x => match es, x with
    | .cons a r, .Call (.Name g q) (y :: ys) [] p => ckP (decide (g = biName b) && glB sc g && !isStar y && (chk sc a .v y).1 && (chks sc r ys).1) rfl (fun h F n k W X hk xe => by
      obtain ⟨h1, h2, h4, h5, h6⟩ := an5 h
      obtain ⟨s1, s2⟩ := (chks sc r ys).2 h6
      exact l_bi xe (dc h1) h2 (nt h4) s1 (a_cons (nt h4) ((chk sc a .v y).2 h5 F n k W X hk xe) (s2 F n k W X hk xe)))
    | _, _ => ckNo
  | .bx b s, md, x => match x with
    | .Call (.Name g q) [y] [] p => match b with
      | .tuple => ckP (decide (g = "tuple") && glB sc g && !isStar y && (chkX sc s y).1) rfl (fun h F n k W X hk xe => by
        obtain ⟨h1, h2, h3, h4⟩ := an4 h
        have e := dc h1
        subst e
        exact l_bxTup xe h2 (nt h3) ((chkX sc s y).2 h4 F n k W X hk xe))
      | .all => ckP (decide (g = "all") && glB sc g && !isStar y && (chkX sc s y).1) rfl (fun h F n k W X hk xe => by
        obtain ⟨h1, h2, h3, h4⟩ := an4 h
        have e := dc h1
        subst e
        exact l_bxAll xe h2 (nt h3) ((chkX sc s y).2 h4 F n k W X hk xe))
      | .any => ckP (decide (g = "any") && glB sc g && !isStar y && (chkX sc s y).1) rfl (fun h F n k W X hk xe => by
        obtain ⟨h1, h2, h3, h4⟩ := an4 h
        have e := dc h1
        subst e
        exact l_bxAny xe h2 (nt h3) ((chkX sc s y).2 h4 F n k W X hk xe))
    | _ => ckNo
  | .idxX s b, md, x => match x with
    | .Subscript y z p => ckP (!isSlice z && (chkX sc s y).1 && (chk sc b .v z).1) rfl (fun h F n k W X hk xe => l_idxX xe (nt (an3 h).1) ((chkX sc s y).2 (an3 h).2.1 F n k W X hk xe) ((chk sc b .v z).2 (an3 h).2.2 F n k W X hk xe))
    | _ => ckNo
  | .inX a s, md, x => match x with
    | .Compare y [op] [z] p => ckVT (decide (op = .In) && !behindInMarks op z && (chk sc a .v y).1 && (chkX sc s z).1)
      (fun h F n k W X hk xe => l_inX xe (dc (an4 h).1) (nt (an4 h).2.1) ((chk sc a .v y).2 (an4 h).2.2.1 F n k W X hk xe) ((chkX sc s z).2 (an4 h).2.2.2 F n k W X hk xe))
      (fun h F n k W X hk xe => t_inX xe (dc (an4 h).1) (nt (an4 h).2.1) ((chk sc a .v y).2 (an4 h).2.2.1 F n k W X hk xe) ((chkX sc s z).2 (an4 h).2.2.2 F n k W X hk xe))
    | _ => ckNo
  | .lc s, md, x => ckV (chkX sc s x).1 (fun h F n k W X hk xe => l_lc ((chkX sc s x).2 h F n k W X hk xe))
  | .dc own t it c a b, md, x => ckNo
  | .bm m o es, md, x => match m, es, x with
    | .append, .cons a .nil, .Call (.Attribute z g q) [y] [] p => ckP (decide (g = "append") && plainBase z && (q.endLine == p.line) && (chk sc o .v z).1 && !isStar y && (chk sc a .v y).1) rfl (fun h F n k W X hk xe => by
      obtain ⟨h1, h2, h3, h4, h5, h6⟩ := an6 h
      have e := dc h1
      subst e
      exact l_append h2 (nt h5) h3 ((chk sc o .v z).2 h4 F n k W X hk xe) ((chk sc a .v y).2 h6 F n k W X hk xe))
    | _, _, _ => ckNo
  | .sel fs i es, md, x => ckNo
def chks (sc : Scope) : (es : DEs) → (xs : List Expr) → Ck (SnA G N sc es xs)
  | .nil, [] => ⟨true, fun _ => ⟨rfl, fun F n k W X hk xe => a_nil⟩⟩
  | .cons a r, y :: ys => ⟨!isStar y && (chk sc a .v y).1 && (chks sc r ys).1, fun h => by
    obtain ⟨h1, h2, h3⟩ := an3 h
    obtain ⟨s1, s2⟩ := (chks sc r ys).2 h3
    exact ⟨by rw [List.all_cons, s1, h1]; rfl, fun F n k W X hk xe => a_cons (nt h1) ((chk sc a .v y).2 h2 F n k W X hk xe) (s2 F n k W X hk xe)⟩⟩
  | _, _ => ckNo
def chkO (sc : Scope) : (d : DO) → (x : Option Expr) → Ck (Al G N sc fun F n _ W X => POd X W x (denO G F n d))
  | .non, none => ⟨true, fun _ F n k W X hk xe => po_non⟩
  | .som a, some y => ⟨(chk sc a .v y).1, fun h F n k W X hk xe => po_som ((chk sc a .v y).2 h F n k W X hk xe)⟩
  | _, _ => ckNo
/-- a clause's test -/
def chkI (sc : Scope) : (d : DO) → (x : List Expr) → Ck (Al G N sc fun F n _ W X => W = W0 → PTd X x (denC G F n d))
  | .non, [] => ⟨true, fun _ F n k W X hk xe _ => ts_non⟩
  | .som a, [y] => ⟨(chk sc a .t y).1, fun h F n k W X hk xe e => by
    subst e
    exact ts_som ((chk sc a .t y).2 h F n k W0 X hk xe)⟩
  | _, _ => ckNo
/-- the pairs of a display -/
def chkP (sc : Scope) : (vs : DEs) → (ks : List Str) → (keys : List (Option Expr)) → (values : List Expr) → Ck ((keys.length = values.length ∧ ks.length = keys.length ∧ keys.all (·.isSome) = true) ∧ ∀ pos, Al G N sc fun F n _ W X => PPd X W pos keys values ks (dens G F n vs))
  | .nil, [], [], [] => ⟨true, fun _ => ⟨⟨rfl, rfl, rfl⟩, fun pos F n k W X hk xe => ppd_nil⟩⟩
  | .cons a r, kx :: ks, some (.Constant (.str z) j p) :: keys, y :: ys => ⟨decide (z = kx) && (chk sc a .v y).1 && (chkP sc r ks keys ys).1, fun h => by
    obtain ⟨h1, h2, h3⟩ := an3 h
    have e := dc h1
    subst e
    obtain ⟨⟨s1, s2, s3⟩, s4⟩ := (chkP sc r ks keys ys).2 h3
    exact ⟨⟨by rw [List.length_cons, List.length_cons, s1], by rw [List.length_cons, List.length_cons, s2], by rw [List.all_cons, s3]; rfl⟩, fun pos F n k W X hk xe => ppd_cons ((chk sc a .v y).2 h2 F n k W X hk xe) (s4 pos F n k W X hk xe)⟩⟩
  | _, _, _, _ => ckNo
def chkX (sc : Scope) : (s : DX) → (x : Expr) → Ck (Al G N sc fun F n _ W X => PE X x (DXn G F n X W s))
  | .disp es, x => match x with
    | .List xs p => ⟨(chks sc es xs).1, fun h F n k W X hk xe => x_disp (((chks sc es xs).2 h).2 F n k W X hk xe)⟩
    | _ => ckNo
  | .lc own t it c d, x => match x with
    | .ListComp elt [⟨tg, iter, ifs, ia⟩] scope pos => ⟨decide (ia = 0) && blkC N sc scope (ownOf N own) && (t.ix.all fun i => own.contains i) && (match iter with | .Set _ _ _ => false | _ => true) && ((chkD sc it tg iter).1 && (chkT N scope t tg).1) && ((chkI scope c ifs).1 && (chk scope d .v elt).1), fun h F n k W X hk xe => by
      obtain ⟨h1, h2, h3, h4, h5, h6⟩ := an6 h
      have e := dc h1
      subst e
      have key := x_lc (G := G) (F := F) (n := n) (k := k) (N := N) (sc := sc) (W := W) (X := X) xe (own := ownOf N own) (t := t) (it := it) (c := c) (d := d) (elt := elt) (tg := tg) (iter := iter) (ifs := ifs) (scope := scope) (pos := pos) (blk_ok xe h2) (fun i hi => by
          rw [ownOf_ix]
          have := List.all_eq_true.mp h3 i hi
          simpa using this) (by revert h4; cases iter <;> first | (exact fun _ => rfl) | (exact fun h => (Bool.false_ne_true h).elim)) ((chkD sc it tg iter).2 (an2 h5).1 F n k W X hk xe)
        (fun s H C cl fp => (chkT N scope t tg).2 (an2 h5).2 G F k W0 _ (xe.blk s H C cl fp))
        (fun s H C cl fp => (chkI scope c ifs).2 (an2 h6).1 F n k W0 _ hk (xe.blk s H C cl fp) rfl)
        (fun s H C cl fp => (chk scope d .v elt).2 (an2 h6).2 F n k W0 _ hk (xe.blk s H C cl fp))
      rw [ownOf_ix] at key
      exact key⟩
    | _ => ckNo
  | _, _ => ckNo
def chkD (sc : Scope) : (s : DI) → (tg x : Expr) → Ck (Al G N sc fun F n _ W X => PId X W tg x (denI G F n s))
  | .val a, tg, x => ⟨(chk sc a .v x).1, fun h F n k W X hk xe => i_val ((chk sc a .v x).2 h F n k W X hk xe)⟩
  | .rng1 a, tg, x => match x with
    | .Call (.Name g q) [y] [] p => ⟨decide (g = "range") && glB sc g && !isStar y && (chk sc a .v y).1, fun h F n k W X hk xe => by
      obtain ⟨h1, h2, h3, h4⟩ := an4 h
      have e := dc h1
      subst e
      exact i_rng1 xe h2 (nt h3) ((chk sc a .v y).2 h4 F n k W X hk xe)⟩
    | _ => ckNo
  | .rng2 a b, tg, x => match x with
    | .Call (.Name g q) [y, z] [] p => ⟨decide (g = "range") && glB sc g && !isStar y && !isStar z && (chk sc a .v y).1 && (chk sc b .v z).1, fun h F n k W X hk xe => by
      obtain ⟨h1, h2, h3, h4, h5, h6⟩ := an6 h
      have e := dc h1
      subst e
      exact i_rng2 xe h2 (nt h3) (nt h4) ((chk sc a .v y).2 h5 F n k W X hk xe) ((chk sc b .v z).2 h6 F n k W X hk xe)⟩
    | _ => ckNo
  | .zip2 a b, tg, x => match tg, x with
    | .Tuple es j tp, .Call (.Name g q) [y, z] [] p => ⟨decide (g = "zip") && glB sc g && !isStar y && !isStar z && (chk sc a .v y).1 && (chk sc b .v z).1, fun h F n k W X hk xe => by
      obtain ⟨h1, h2, h3, h4, h5, h6⟩ := an6 h
      have e := dc h1
      subst e
      exact i_zip2 xe h2 (nt h3) (nt h4) ((chk sc a .v y).2 h5 F n k W X hk xe) ((chk sc b .v z).2 h6 F n k W X hk xe)⟩
    | _, _ => ckNo
  | .zip3 a b c, tg, x => match tg, x with
    | .Tuple es j tp, .Call (.Name g q) [y, z, w] [] p => ⟨decide (g = "zip") && glB sc g && (!isStar y && !isStar z && !isStar w) && (chk sc a .v y).1 && (chk sc b .v z).1 && (chk sc c .v w).1, fun h F n k W X hk xe => by
      obtain ⟨h1, h2, h3, h4, h5, h6⟩ := an6 h
      have e := dc h1
      subst e
      exact i_zip3 xe h2 (nt (an3 h3).1) (nt (an3 h3).2.1) (nt (an3 h3).2.2) ((chk sc a .v y).2 h4 F n k W X hk xe) ((chk sc b .v z).2 h5 F n k W X hk xe) ((chk sc c .v w).2 h6 F n k W X hk xe)⟩
    | _, _ => ckNo
  | _, _, _ => ckNo
end
end
end D
end

section
set_option maxRecDepth 100000
set_option maxHeartbeats 2000000
/-! D1s: statements. -/
namespace D
open PySem PySem.Spec PyProof.Rows L2
section
variable {c : Cn} {W : WX} {σ : L2.St} {m m' : List Addr} {I I' H H' : Hp} {s s' : Store}
def RSn (c : Cn) (W : WX) (B : Ends) (m : List Addr) (I H : Hp) : RS → Prop
  | .nx e s => ∀ m' I' H' σ', Ext m I H m' I' H' → Stt c m' I' s H' → EnvR c m' I' e σ' → B.nx σ' H'
  | .rt v s => ∀ m' I' H' u, Ext m I H m' I' H' → Stt c m' I' s H' → Rep c m' I' v u → B.rt u H'
  | .ex x p e s => ∀ m' I' H' C d σ', Ext m I H m' I' H' → Stt c m' I' s H' → EnvR c m' I' e σ' → ExR c m' I' H' x p C d → W C d σ' H'
  | .bad => False
theorem RSn.ext {B : Ends} {r : RS} (h : RSn c W B m I H r) (e : Ext m I H m' I' H') : RSn c W B m' I' H' r := by
  revert h
  cases r with
  | nx ev s => exact fun h m1 I1 H1 σ1 e1 S1 E1 => h m1 I1 H1 σ1 (e.trans e1) S1 E1
  | rt v s => exact fun h m1 I1 H1 u e1 S1 r1 => h m1 I1 H1 u (e.trans e1) S1 r1
  | ex x p ev s => exact fun h m1 I1 H1 C d σ1 e1 S1 E1 r1 => h m1 I1 H1 C d σ1 (e.trans e1) S1 E1 r1
  | bad => exact fun h => h
theorem rs_of {α : Type} {B : Ends} {e : Env} {x : R α} {k : α → Store → RS} (h : RSn c W B m I H (RS.of e x k)) (E : EnvR c m I e σ) : Rn c W σ m I H x fun m1 I1 H1 s1 a => RSn c W B m1 I1 H1 (k a s1) := by
  cases x with
  | ok a s => exact fun m1 I1 H1 e1 S1 => RSn.ext h e1
  | ex z p s => exact fun m1 I1 H1 C d e1 S1 r => h m1 I1 H1 C d σ e1 S1 (E.mono e1) r
  | bad => exact h
def rdS (c : Cn) (W : WX) (f : Env → Store → RS) : TS := fun B σ H => ∃ m I e s, Stt c m I s H ∧ EnvR c m I e σ ∧ RSn c W B m I H (f e s)
end
section
variable {G : Glb} {F : Fns} {n k : Nat} {N : List Str} {sc : Scope} {W : WX} {X : Cx} {R : Er}
theorem put_mem {κ : Type} [DecidableEq κ] {k : κ} {v : L} : ∀ {x : List (κ × L)} {p : κ × L}, p ∈ put k v x → (∃ q ∈ x, q.1 = p.1) ∨ p.1 = k
  | [], p, h => by
    rcases List.mem_singleton.mp h with rfl
    exact .inr rfl
  | (k', v') :: r, p, h => by
    have h' : p ∈ (if k' = k then (k', v) :: r else (k', v') :: put k v r) := h
    by_cases e : k' = k
    · rw [if_pos e] at h'
      rcases List.mem_cons.mp h' with rfl | h'
      · exact .inr e
      · exact .inl ⟨p, List.mem_cons_of_mem _ h', rfl⟩
    · rw [if_neg e] at h'
      rcases List.mem_cons.mp h' with rfl | h'
      · exact .inl ⟨_, List.mem_cons_self, rfl⟩
      · rcases put_mem h' with ⟨q, hq, e⟩ | e
        · exact .inl ⟨q, List.mem_cons_of_mem _ hq, e⟩
        · exact .inr e
/-- a body's context -/
structure XS0 (G : Glb) (F : Fns) (k : Nat) (N : List Str) (sc : Scope) (W : WX) (X : Cx) : Prop where
  xe : XE0 G F k N sc W X
  po : PassesOwn (model X.prog X.w) X.A X.env X.xe
  stk : X.stack = X.env :: X.outer
  fr : X.env.frame = some X.env.locals
  kd : X.env.scope.kind = .function
  sc : X.env.scope = sc
abbrev DSn (G : Glb) (F : Fns) (n : Nat) (R : Er) (X : Cx) (W : WX) (d : DS) : TS := rdS (cOf X) W (denS G F n R d)
abbrev DSsn (G : Glb) (F : Fns) (n : Nat) (R : Er) (X : Cx) (W : WX) (d : DSs) : TS := rdS (cOf X) W (denSs G F n R d)
theorem ss_nil : PSs X [] (DSsn G F n R X W .nil) := pss_nil.imp fun B σ H ⟨m, I, e, s, S, E, h⟩ => h m I H σ Ext.rfl' S E
theorem ss_cons {d : DS} {ds : DSs} {x : Stmt} {xs : List Stmt} (h : PS X x (DSn G F n R X W d)) (hs : PSs X xs (DSsn G F n R X W ds)) : PSs X (x :: xs) (DSsn G F n R X W (.cons d ds)) := (pss_cons h hs).imp fun B σ H ⟨m, I, e, s, S, E, h⟩ => by
  have h' : RSn (cOf X) W B m I H (match denS G F n R d e s with
    | .nx e' s' => denSs G F n R ds e' s'
    | r => r) := h
  refine ⟨m, I, e, s, S, E, ?_⟩
  revert h'
  cases denS G F n R d e s with
  | nx e' s' => exact fun h' m1 I1 H1 σ1 e1 S1 E1 => ⟨m1, I1, e', s', S1, E1, h'.ext e1⟩
  | rt v s' => exact fun h' => h'
  | ex x p e' s' => exact fun h' => h'
  | bad => exact fun h' => h'
theorem s_pass {pos : Pos} : PS X (.Pass pos) (DSn G F n R X W .pas) := ps_pass.imp fun B σ H ⟨m, I, e, s, S, E, h⟩ => h m I H σ Ext.rfl' S E
theorem s_ret {a : DE} {x : Expr} {pos : Pos} (ha : PE X x (DEn G F n X W a)) : PS X (.Return (some x) pos) (DSn G F n R X W (.ret a)) := (ps_ret ha).imp fun B σ H ⟨m, I, e, s, S, E, h⟩ =>
  ⟨m, I, e, s, S, E, (rs_of (k := fun v s' => RS.rt v s') h E).mono fun m1 I1 H1 s1 v e1 S1 h1 u ru => h1 m1 I1 H1 u Ext.rfl' S1 ru⟩
theorem s_retN {pos : Pos} : PS X (.Return none pos) (DSn G F n R X W (.ret (.cst .non))) := ps_retN.imp fun B σ H ⟨m, I, e, s, S, E, h⟩ => by
  have h' : RSn (cOf X) W B m I H (RS.rt .non s) := h
  exact h' m I H _ Ext.rfl' S .non
theorem s_expr {a : DE} {x : Expr} {pos : Pos} (hc : isComp x = false) (ha : PE X x (DEn G F n X W a)) : PS X (.Expr x pos) (DSn G F n R X W (.expr a)) := (ps_expr ha (no_swap hc)).imp fun B σ H ⟨m, I, e, s, S, E, h⟩ =>
  ⟨m, I, e, s, S, E, (rs_of (k := fun _ s' => RS.nx e s') h E).mono fun m1 I1 H1 s1 v e1 S1 h1 u ru => h1 m1 I1 H1 σ Ext.rfl' S1 (E.mono e1)⟩
theorem s_asg (xs : XS0 G F k N sc W X) {i : Nat} {a : DE} {x : Expr} {y : Str} {py pos : Pos} (h1 : N[i]? = some y) (h2 : locB sc y = true) (hc : isComp x = false) (ha : PE X x (DEn G F n X W a)) : PS X (.Assign [.Name y py] x pos) (DSn G F n R X W (.asg i a)) := by
  obtain ⟨l1, l2⟩ := xs.xe.loc h2
  refine (ps_set (by rw [xs.xe.hN]; exact xs.xe.nd) (by rw [xs.xe.hN]; exact h1) l1 ha (no_swap hc) l2).imp fun B σ H ⟨m, I, e, s, S, E, h⟩ => ?_
  exact ⟨m, I, e, s, S, E, (rs_of (k := fun v s' => RS.nx (e.set i (some v)) s') h E).mono fun m1 I1 H1 s1 v e1 S1 h1 u ru => h1 m1 I1 H1 _ Ext.rfl' S1 ((E.mono e1).set i ru)⟩
/-- name = [.. for ..] -/
theorem s_asgLc (xs : XS0 G F k N sc W X) {i : Nat} {own : List (Str × Nat)} {t : DT} {it : DI} {c : DO} {d : DE} {y : Str} {py spos : Pos} {elt tg iter : Expr} {ifs : List Expr} {scope : Scope} {pos : Pos} (h1 : N[i]? = some y) (h2 : sc.names.lookup y = some .local)
    (hl : (py.line == pos.line) = true) (hn : (scope.names.any fun (n, k) => n == y && (k == .local || k == .cell)) = false) (ok : BlkOk X.N X.env.scope scope own) (ht : ∀ i ∈ t.ix, i ∈ own.map (·.2))
    (hset : (match iter with | .Set _ _ _ => true | _ => false) = false) (hi : PId X W tg iter (denI G F n it))
    (hg : ∀ (s : Shared) (H : Hp) (C : Addr) (cl : List (Str × Addr)) (fp : List Addr), PGd (X.blk s H scope (compEnvC scope cl C X.env) fp) tg t)
    (hc : ∀ (s : Shared) (H : Hp) (C : Addr) (cl : List (Str × Addr)) (fp : List Addr), PTd (X.blk s H scope (compEnvC scope cl C X.env) fp) ifs (denC G F n c))
    (he : ∀ (s : Shared) (H : Hp) (C : Addr) (cl : List (Str × Addr)) (fp : List Addr), PE (X.blk s H scope (compEnvC scope cl C X.env) fp) elt (DEn G F n (X.blk s H scope (compEnvC scope cl C X.env) fp) W0 d)) :
    PS X (.Assign [.Name y py] (.ListComp elt [⟨tg, iter, ifs, 0⟩] scope pos) spos) (DSn G F n R X W (.asg i (.lc (.lc (own.map (·.2)) t it c d)))) := by
  have hy : X.env.scope.names.lookup y = some .local := by rw [xs.sc]; exact h2
  refine (ps_setLc (g := tgR X.K t) (tt := rdT (cOf X) W0 (denC G F n c)) (te := rdE (cOf X) W0 (den G F n d)) xs.xe.calm (by rw [xs.xe.hN]; exact xs.xe.nd) (by rw [xs.xe.hN]; exact h1) hy (sw_true xs.kd hy hl hn) hi ok (fun s H C cl fp => hg s H C cl fp) (fun s H C cl fp => hc s H C cl fp) (fun s H C cl fp => he s H C cl fp) (no_set hset)).imp fun B σ H ⟨m, I, e, s, S, E, h⟩ => ?_
  refine lc_run ht (Q := fun x H1 => B.nx (σ.set i (some x)) H1) ⟨m, I, e, s, S, E, ?_⟩
  have h' := rs_of (k := fun v s' => RS.nx (e.set i (some v)) s') h E
  have h3 := Rn.bind (x := denX G F n (.lc (own.map (·.2)) t it c d) e) (k := fun xs => alloc (.lst xs)) h'
  refine h3.mono ?_
  intro m1 I1 H1 s1 ys e1 S1 h2 D vs hD rv
  have E1 := E.mono e1
  exact S1.newLv rv (Q := fun x H1 => B.nx (σ.set i (some x)) H1) (h2.mono fun m2 I2 H2 s2 v e2 S2 h3 u ru => h3 m2 I2 H2 _ Ext.rfl' S2 ((E1.mono e2).set i ru)) D hD
theorem no_sw2 {e : Expr} {es : List Expr} {j : Nat} {p : Pos} {l : Nat} {env : PySem.Env} (h : (match e with | .Tuple _ _ _ => true | _ => isComp e) = false) : swapsWithSole [.Tuple es j p] e l env = pure false ∧ swappedStores [.Tuple es j p] e env = pure none := by
  cases e <;> first | exact ⟨rfl, rfl⟩ | (exact absurd h (by intro z; cases z))
theorem s_asgT (xs : XS0 G F k N sc W X) {is : List Nat} {a : DE} {x : Expr} {es : List Expr} {j : Nat} {p pos : Pos} (hg : PGd X (.Tuple es j p) (.tp is)) (hc : (match x with | .Tuple _ _ _ => true | _ => isComp x) = false) (ha : PE X x (DEn G F n X W a)) :
    PS X (.Assign [.Tuple es j p] x pos) (DSn G F n R X W (.asgT is a)) := by
  refine (ps_asg ha hg (no_sw2 (l := pos.line) hc).1 (no_sw2 (l := pos.line) hc).2).imp fun B σ H ⟨m, I, e, s, S, E, h⟩ => ?_
  refine ⟨m, I, e, s, S, E, (rs_of (k := fun v s' => match setT (.tp is) v e with
    | some e' => RS.nx e' s'
    | none => .bad) h E).mono fun m1 I1 H1 s1 v e1 S1 h1 u ru => ?_⟩
  cases q : setT (.tp is) v e with
  | none => rw [q] at h1; exact h1.elim
  | some e' =>
    rw [q] at h1
    exact tgR_run S1 (E.mono e1) ru q fun σ' E' hw => h1 m1 I1 H1 σ' Ext.rfl' S1 E'
theorem no_swS {e t : Expr} {l : Nat} {env : PySem.Env} (h : isName t = false) : swapsWith e (some t) l env = pure false := by
  cases t <;> first | (cases e <;> rfl) | (exact Bool.noConfusion h)
theorem rn_of_bind {α β : Type} {x : M α} {f : α → Store → RS} {s : Store} : True := trivial
/-- o.f = v -/
theorem s_fset (xs : XS0 G F k N sc W X) {o a : DE} {f : Str} {x y : Expr} {p pos : Pos} (ha : PE X x (DEn G F n X W a)) (ho : PE X y (DEn G F n X W o)) : PS X (.Assign [.Attribute y f p] x pos) (DSn G F n R X W (.fset o f a)) := by
  refine (ps_fld ho ha (no_swS (by rfl))).imp fun B σ H ⟨m, I, e, s, S, E, h⟩ => ?_
  refine ⟨m, I, e, s, S, E, (rs_of (k := fun v s1 => RS.of e (den G F n o e s1) fun x s2 => RS.of e (fstM G.fl x f v s2) fun _ s3 => .nx e s3) h E).mono fun m1 I1 H1 s1 v e1 S1 h1 u ru => ?_⟩
  refine ⟨m1, I1, e, s1, S1, E.mono e1, (rs_of (k := fun x s2 => RS.of e (fstM G.fl x f v s2) fun _ s3 => .nx e s3) h1 (E.mono e1)).mono fun m2 I2 H2 s2 z e2 S2 h2 w rw_ => ?_⟩
  have h3 := rs_of (k := fun _ s3 => RS.nx e s3) h2 ((E.mono e1).mono e2)
  cases rw_ with
  | loc hc =>
    rename_i j b
    have h4 : Rn (cOf X) W σ m2 I2 H2 ((getC j >>= fun ob => match ob with
      | .ins k fs => if fs.length < 1000 ∧ G.fl k f = true then putC j (.ins k (put f v fs)) else die
      | _ => die) s2) _ := h3
    obtain ⟨ob, e3, r3, h5⟩ := Rn.getC S2 hc h4
    cases ob with
    | ins cc fs =>
      obtain ⟨C, dx, ws, c1, g1, q1, nf⟩ := r3
      obtain ⟨⟨hz, hf⟩, h5⟩ := ite_die h5
      obtain ⟨C2, c2, na⟩ := xs.xe.fx.fl cc f hf
      have eC := clsOk_inj c1 c2
      subst eC
      refine ⟨_, C, dx, ws, rfl, g1, c1.cl, na, by rw [← q1.length]; exact hz, ?_⟩
      obtain ⟨e6, S6⟩ := S2.put (b := .ins cc (put f v fs)) (o := .ins C dx (putF f u ws)) hc ⟨C, dx, _, c1, upd_same, q1.put (ru.mono e2), fun p hp => by
        rcases put_mem hp with ⟨q, hq, hp⟩ | hp
        · rw [← hp]; exact nf _ hq
        · rw [hp]; exact na⟩
      exact h5 m2 I2 _ e6 S6 m2 I2 _ σ Ext.rfl' S6 (((E.mono e1).mono e2).mono e6)
    | _ => exact h5.elim
  | _ => exact h3.elim
end
end D
end

section
set_option maxRecDepth 100000
set_option maxHeartbeats 2000000
/-! D1t: stores into lists and dicts; if, for, while. -/
namespace D
open PySem PySem.Spec PyProof.Rows L2
section
variable {G : Glb} {F : Fns} {n k : Nat} {N : List Str} {sc : Scope} {W : WX} {X : Cx} {R : Er}
theorem PSet_or {t t' : TSet} (h : PSet X t) (h' : PSet X t') : PSet X (fun o i v H Q => t o i v H Q ∨ t' o i v H Q) := by
  intro pins s σ H o i v ov iv u Q I ro ri rv q
  rcases q with q | q
  · exact h pins s σ H o i v ov iv u Q I ro ri rv q
  · exact h' pins s σ H o i v ov iv u Q I ro ri rv q
theorem asg_sub {o i : Expr} {p : Pos} {env : PySem.Env} (h : isSlice i = false) : ∀ v, assign (.Subscript o i p) env v = (do
      let ov ← holding [v] (eval o env)
      let iv ← holding [v, ov] (eval i env)
      standAt p
      holding [v, ov, iv] (setItem ov iv v)
      release [v, ov, iv] []) := by
  intro v
  cases i <;> first | rfl | (exact Bool.noConfusion h)
def setCell (j : Nat) (y v : L) (ob : Ob) : M Unit := match ob with
  | .lst xs => (match y with
    | .int i => (match L2.ixN xs.length i with
      | some t => putC j (.lst (xs.set t v))
      | none => die)
    | _ => die)
  | .dS kvs => (match y with
    | .str x => if kvs.length < szMax then putC j (.dS (putD x v kvs)) else die
    | _ => die)
  | _ => die
theorem s_iset (xs : XS0 G F k N sc W X) {o b a : DE} {x y z : Expr} {p pos : Pos} (hs : isSlice z = false) (ha : PE X x (DEn G F n X W a)) (ho : PE X y (DEn G F n X W o)) (hb : PE X z (DEn G F n X W b)) : PS X (.Assign [.Subscript y z p] x pos) (DSn G F n R X W (.iset o b a)) := by
  refine (ps_asg ha (pg_sub ho hb (PSet_or set_list (set_dict (by have := xs.xe.hu; omega))) (asg_sub hs)) (show swapsWith x (some (.Subscript y z p)) pos.line X.env = pure false from no_swS (t := .Subscript y z p) rfl) (by rfl) (by rfl)).imp fun B σ H ⟨m, I, e, s, S, E, h⟩ => ?_
  refine ⟨m, I, e, s, S, E, (rs_of (k := fun v s1 => RS.of e (den G F n o e s1) fun x s2 => RS.of e (den G F n b e s2) fun y s3 => RS.of e (setM x y v s3) fun _ s4 => .nx e s4) h E).mono fun m1 I1 H1 s1 v e1 S1 h1 u ru => ?_⟩
  have E1 := E.mono e1
  refine ⟨m1, I1, e, s1, S1, E1, (rs_of (k := fun x s2 => RS.of e (den G F n b e s2) fun y s3 => RS.of e (setM x y v s3) fun _ s4 => .nx e s4) h1 E1).mono fun m2 I2 H2 s2 x e2 S2 h2 w rw_ => ?_⟩
  have E2 := E1.mono e2
  refine ⟨m2, I2, e, s2, S2, E2, (rs_of (k := fun y s3 => RS.of e (setM x y v s3) fun _ s4 => .nx e s4) h2 E2).mono fun m3 I3 H3 s3 y e3 S3 h3 q rq => ?_⟩
  have E3 := E2.mono e3
  have h4 := rs_of (k := fun _ s4 => RS.nx e s4) h3 E3
  have ru3 := (ru.mono e2).mono e3
  have rw3 := rw_.mono e3
  revert h4
  cases rw3 with
  | loc hc =>
    rename_i j a
    intro h4
    have h5 : Rn (cOf X) W σ m3 I3 H3 ((getC j >>= fun ob => setCell j y v ob) s3) _ := h4
    obtain ⟨ob, e4, r4, h6⟩ := Rn.getC S3 hc h5
    cases ob with
    | lst xs =>
      obtain ⟨vs, g1, q1⟩ := r4
      cases rq with
      | int i =>
        cases ix : L2.ixN xs.length i with
        | none => simp only [setCell, ix] at h6; exact h6.elim
        | some t =>
          simp only [setCell, ix] at h6
          obtain ⟨e6, S6⟩ := S3.put (b := .lst (xs.set t v)) (o := .lst (vs.set t u)) hc ⟨_, upd_same, q1.set t ru3⟩
          exact .inl ⟨_, _, i, t, rfl, rfl, g1, by rw [← q1.length]; exact ix, h6 m3 I3 _ e6 S6 m3 I3 _ σ Ext.rfl' S6 (E3.mono e6)⟩
      | _ => exact h6.elim
    | dS kvs =>
      obtain ⟨ws, g1, q1⟩ := r4
      cases rq with
      | str z =>
        obtain ⟨hz, h6⟩ := ite_die h6
        obtain ⟨e6, S6⟩ := S3.put (b := .dS (putD z v kvs)) (o := .dK (putK ws (.inr z) u)) hc ⟨_, upd_same, q1.put ru3⟩
        exact .inr ⟨_, _, rfl, DPut.k (k := Sum.inr z) g1 (by rw [← q1.length]; exact sz_lt hz), h6 m3 I3 _ e6 S6 m3 I3 _ σ Ext.rfl' S6 (E3.mono e6)⟩
      | _ => exact h6.elim
    | _ => exact h6.elim
  | _ => intro h4; exact h4.elim
theorem s_aug (xs : XS0 G F k N sc W X) {i : Nat} {a : DE} {x : Expr} {y : Str} {py pos : Pos} (h1 : N[i]? = some y) (h2 : locB sc y = true) (ha : PE X x (DEn G F n X W a)) : PS X (.AugAssign (.Name y py) .Add x pos) (DSn G F n R X W (.aug i a)) := by
  obtain ⟨l1, l2⟩ := xs.xe.loc h2
  refine (ps_aug (by rw [xs.xe.hN]; exact xs.xe.nd) (by rw [xs.xe.hN]; exact h1) l1 ha ip_add l2).imp fun B σ H ⟨m, I, e, s, S, E, h⟩ => ?_
  have h' : RSn (cOf X) W B m I H (match (e[i]?).join with
    | some (.int x) => RS.of e (den G F n a e s) fun v s1 => (match v with
      | .int y => .nx (e.set i (some (.int (x + y)))) s1
      | _ => .bad)
    | _ => .bad) := h
  cases q : (e[i]?).join with
  | none => rw [q] at h'; exact h'.elim
  | some v =>
    rw [q] at h'
    have q2 : e[i]? = some (some v) := by
      cases q3 : e[i]? with
      | none => rw [q3] at q; cases q
      | some o => rw [q3] at q; rw [show o = some v from q]
    obtain ⟨u, g, r⟩ := E.at_ i v q2
    refine ⟨u, g, ?_⟩
    cases r with
    | int x =>
      refine ⟨m, I, e, s, S, E, (rs_of (k := fun v s1 => (match v with
        | .int y => .nx (e.set i (some (.int (x + y)))) s1
        | _ => .bad)) h' E).mono fun m1 I1 H1 s1 v e1 S1 h1 u ru => ?_⟩
      cases ru with
      | int y => exact ⟨x, y, rfl, rfl, h1 m1 I1 H1 _ Ext.rfl' S1 ((E.mono e1).set i (.int _))⟩
      | _ => exact h1.elim
    | _ => exact h'.elim
theorem s_if {c : DE} {a b : DSs} {x : Expr} {y z : List Stmt} {pos : Pos} (hc : PT X x (DTn G F n X W c)) (ha : PSs X y (DSsn G F n R X W a)) (hb : PSs X z (DSsn G F n R X W b)) : PS X (.If x y z pos) (DSn G F n R X W (.ife c a b)) := (ps_if hc ha hb).imp fun B σ H ⟨m, I, e, s, S, E, h⟩ => by
  refine ⟨m, I, e, s, S, E, (rs_of (x := (den G F n c e >>= truM) s) (k := fun t s' => if t then denSs G F n R a e s' else denSs G F n R b e s') h E).mono fun m1 I1 H1 s1 t e1 S1 h1 => ?_⟩
  cases t with
  | true => exact ⟨m1, I1, e, s1, S1, E.mono e1, h1⟩
  | false => exact ⟨m1, I1, e, s1, S1, E.mono e1, h1⟩
theorem s_while (xs : XS0 G F k N sc W X) {c : DE} {b : DSs} {x : Expr} {y : List Stmt} {pos : Pos} (hc : PT X x (DTn G F n X W c)) (hb : PSs X y (DSsn G F n R X W b)) : PS X (.While x y [] pos) (DSn G F n R X W (.whl c b)) := (ps_while xs.po hc hb).imp fun B σ H ⟨m, I, e, s, S, E, h⟩ => by
  refine ⟨fun j σ H => ∃ m I e s, Stt (cOf X) m I s H ∧ EnvR (cOf X) m I e σ ∧ RSn (cOf X) W B m I H (whlN (fun e => den G F n c e >>= truM) (denSs G F n R b) j e s), ⟨n, m, I, e, s, S, E, h⟩, ?_⟩
  rintro j σ H ⟨m, I, e, s, S, E, h⟩
  cases j with
  | zero => exact h.elim
  | succ j =>
    refine ⟨m, I, e, s, S, E, (rs_of (x := (den G F n c e >>= truM) s) (k := fun t s1 => if t then (match denSs G F n R b e s1 with
      | .nx e' s' => whlN (fun e => den G F n c e >>= truM) (denSs G F n R b) j e' s'
      | r => r) else .nx e s1) h E).mono fun m1 I1 H1 s1 t e1 S1 h1 => ?_⟩
    cases t with
    | false =>
      show ite ((false : Bool) = true) _ _
      rw [if_neg (by simp)]
      exact h1 m1 I1 H1 σ Ext.rfl' S1 (E.mono e1)
    | true =>
      show ite ((true : Bool) = true) _ _
      rw [if_pos rfl]
      refine ⟨_, fun σ' H' hn => ⟨j, Nat.lt_succ_self j, hn⟩, m1, I1, e, s1, S1, E.mono e1, ?_⟩
      have h2 : RSn (cOf X) W B m1 I1 H1 (match denSs G F n R b e s1 with
        | .nx e' s' => whlN (fun e => den G F n c e >>= truM) (denSs G F n R b) j e' s'
        | r => r) := h1
      revert h2
      cases denSs G F n R b e s1 with
      | nx e' s' => exact fun h2 m2 I2 H2 σ2 e2 S2 E2 => ⟨m2, I2, e', s', S2, E2, h2.ext e2⟩
      | rt v s' => exact fun h2 => h2
      | ex x p e' s' => exact fun h2 => h2
      | bad => exact fun h2 => h2
/-- a turn of a loop -/
def frF (G : Glb) (F : Fns) (n : Nat) (R : Er) (t : DT) (b : DSs) : L → Env → Store → RS := fun v e s => match setT t v e with
  | some e' => denSs G F n R b e' s
  | none => .bad
theorem turn_run {t : DT} {b : DSs} {B : Ends} {m : List Addr} {I H : Hp} {e : Env} {s : Store} {σ : L2.St} {x : L} {v : V} {rest : Env → Store → RS} {Nx : L2.St → Hp → Prop} (S : Stt (cOf X) m I s H) (E : EnvR (cOf X) m I e σ) (r : Rep (cOf X) m I x v)
    (h : RSn (cOf X) W B m I H (match frF G F n R t b x e s with
      | .nx e' s' => rest e' s'
      | r => r)) (hn : ∀ m' I' H' σ' e' s', Ext m I H m' I' H' → Stt (cOf X) m' I' s' H' → EnvR (cOf X) m' I' e' σ' → RSn (cOf X) W B m' I' H' (rest e' s') → Nx σ' H') :
    tgR X.K t v σ H fun σ2 H2 => DSsn G F n R X W b { B with nx := Nx, ct := Nx, bk := B.nx } σ2 H2 := by
  unfold frF at h
  cases q : setT t x e with
  | none => simp only [q] at h; exact h.elim
  | some e1 =>
    simp only [q] at h
    refine tgR_run S E r q fun σ2 E2 _ => ⟨m, I, e1, s, S, E2, ?_⟩
    revert h
    cases denSs G F n R b e1 s with
    | nx e' s' => exact fun h m2 I2 H2 σ2 e2 S2 E2 => hn m2 I2 H2 σ2 e' s' e2 S2 E2 (h.ext e2)
    | rt v s' => exact fun h => h
    | ex x p e' s' => exact fun h => h
    | bad => exact fun h => h
theorem s_for (xs : XS0 G F k N sc W X) {t : DT} {it : DI} {b : DSs} {tg iter : Expr} {y : List Stmt} {pos : Pos} (hset : (match iter with | .Set _ _ _ => true | _ => false) = false) (hi : PId X W tg iter (denI G F n it)) (hg : PGd X tg t) (hb : PSs X y (DSsn G F n R X W b)) :
    PS X (.For tg iter y [] pos) (DSn G F n R X W (.fr t it b)) := (ps_for xs.po xs.xe.calm hi hg hb (no_set hset)).imp fun B σ H ⟨m, I, e, s, S, E, h⟩ => by
  refine ⟨m, I, e, s, S, E, (rs_of (x := denI G F n it e s) (k := fun x s' => forSrc n (frF G F n R t b) x e s') h E).mono fun m1 I1 H1 s1 src e1 S1 h1 J so => ?_⟩
  have E1 := E.mono e1
  cases src with
  | fix zs =>
    refine ⟨fun i j σ H => j = zs.length - i ∧ i ≤ zs.length ∧ ∃ m I e s, Stt (cOf X) m I s H ∧ EnvR (cOf X) m I e σ ∧ Ext m1 I1 H1 m I H ∧ RSn (cOf X) W B m I H (forFix (frF G F n R t b) (zs.drop i) e s), ⟨_, rfl, Nat.zero_le _, m1, I1, e, s1, S1, E1, Ext.rfl', h1⟩, ?_⟩
    rintro i j σ H ⟨rfl, hle, m, I, e, s, S, E, ex, h⟩
    obtain ⟨g1, g2⟩ := so m I H s (fun _ _ => ex.get) ex.im S i
    by_cases hlt : i < zs.length
    · have hx : zs[i]? = some zs[i] := List.getElem?_eq_getElem hlt
      obtain ⟨go, y⟩ := g1 _ hx
      refine .inr ⟨go, fun σ H => i + 1 ≤ zs.length ∧ ∃ m I e s, Stt (cOf X) m I s H ∧ EnvR (cOf X) m I e σ ∧ Ext m1 I1 H1 m I H ∧ RSn (cOf X) W B m I H (forFix (frF G F n R t b) (zs.drop (i + 1)) e s), fun σ' H' hn => ⟨zs.length - (i + 1), by omega, rfl, hn⟩, fun v H'' hy => ?_⟩
      obtain ⟨I2, ey, Sy, rv⟩ := y v H'' hy
      rw [List.drop_eq_getElem_cons hlt] at h
      exact turn_run Sy (E.mono ey) rv (rest := forFix (frF G F n R t b) (zs.drop (i + 1))) (RSn.ext h ey) fun m' I' H' σ' e' s' e2 S2 E2 h2 => ⟨hlt, m', I', e', s', S2, E2, ex.trans (ey.trans e2), h2⟩
    · have ei : i = zs.length := by omega
      subst ei
      rw [List.drop_length] at h
      exact .inl ⟨g2 rfl, h m I H σ Ext.rfl' S E⟩
  | dyn j0 =>
    obtain ⟨a, ha, rfl⟩ := so
    refine ⟨fun i j σ H => ∃ m I e s, Stt (cOf X) m I s H ∧ EnvR (cOf X) m I e σ ∧ Ext m1 I1 H1 m I H ∧ RSn (cOf X) W B m I H (forDyn (frF G F n R t b) j0 j i e s), ⟨n, m1, I1, e, s1, S1, E1, Ext.rfl', h1⟩, ?_⟩
    rintro i j σ H ⟨m, I, e, s, S, E, ex, h⟩
    cases j with
    | zero => exact h.elim
    | succ j =>
      have ha' := ex.get ha
      have l := S.lt ha'
      have r1 := S.cell j0 a _ ha' (List.getElem?_eq_getElem l)
      have h' : RSn (cOf X) W B m I H (match s[j0]? with
        | some (.lst xs) => (match xs[i]? with
          | some x => (match frF G F n R t b x e s with
            | .nx e' s' => forDyn (frF G F n R t b) j0 j (i + 1) e' s'
            | r => r)
          | none => .nx e s)
        | _ => .bad) := h
      rw [List.getElem?_eq_getElem l] at h'
      revert r1 h'
      cases s[j0] with
      | lst zs =>
        intro r1 h'
        obtain ⟨vs, q1, q2⟩ := r1
        have q := SqL.of (K := X.K) q1
        cases hx : zs[i]? with
        | none =>
          simp only [hx] at h'
          exact .inl ⟨⟨vs, q, by rw [← q2.length]; exact List.getElem?_eq_none_iff.mp hx⟩, h' m I H σ Ext.rfl' S E⟩
        | some x =>
          simp only [hx] at h'
          obtain ⟨u, gu, ru⟩ := q2.get hx
          refine .inr ⟨⟨vs, u, q, gu⟩, _, fun σ' H' hn => ⟨j, Nat.lt_succ_self j, hn⟩, fun v H'' hy => ?_⟩
          obtain ⟨rfl, hy⟩ := hy
          have g2 := hy vs q
          rw [gu] at g2
          cases g2
          exact turn_run S E ru (rest := forDyn (frF G F n R t b) j0 j (i + 1)) h' fun m' I' H' σ' e' s' e2 S2 E2 h2 => ⟨m', I', e', s', S2, E2, ex.trans e2, h2⟩
      | _ => intro r1 h'; exact h'.elim
  | _ => exact so.elim
end
end D
end

section
set_option maxRecDepth 100000
set_option maxHeartbeats 2000000
/-! D1u: raise, try. -/
namespace D
open PySem PySem.Spec PyProof.Rows L2
/-- what an __init__(self, x) of an own error keeps: its one field -/
def spX (K : PySem.W.Frag) (f : Str) : Sp := fun vs H Q E => ∃ (a C : Addr) (v : V), vs = [.ref a, v] ∧ H a = some (exo a C none) ∧ OexC K C ∧ PySem.W.findIn K (.ref C) f = some none ∧
  ∀ d, H d = none → d ≠ a → Q .non (upd (upd H d (exd d [(f, v)])) a (exo a C (some d)))
structure ErOk (c : Cn) (base : Heap) (k : Nat) (R : Er) : Prop where
  sub : ∀ x y b, R.sub x y = some b → ∃ Cx Cy, c.mg x = some (.ref Cx) ∧ c.mg y = some (.ref Cy) ∧ PySem.W.exmOne c.K (.ref Cx) (.ref Cy) = some b
  fld : ∀ x f, R.fld x = some (some f) → ∃ C fI fd ps, c.mg x = some (.ref C) ∧ OexC c.K C ∧ XfC c.K C ∧ PySem.W.findIn c.K (.ref C) f = some none ∧ PySem.W.findIn c.K (.ref C) "__init__" = some (some (.ref fI)) ∧ PySem.W.typeIn c.K (.ref fI) = some (.type "function") ∧
    FnOk c.P c.w c.K c.mg base (L2.CX c.P c.w) k fI fd ps (spX c.K f) ∧ Binds c.K fd ps []
section
variable {G : Glb} {F : Fns} {n k : Nat} {N : List Str} {sc : Scope} {W : WX} {X : Cx} {R : Er}
theorem passF {X : Cx} : Passes (L2.CX X.prog X.w) X (fun _ _ _ => False) := passL
/-- raise C(v), C an own error with one field -/
theorem s_rse1 (xs : XS0 G F k N sc W X) (er : ErOk (cOf X) X.base k R) {f : Str} {x : Str} {a : DE} {y : Expr} {p q pos : Pos} (hf : R.fld x = some (some f)) (hg : glB sc x = true) (hn : nmB x = true) (hy : isStar y = false) (ha : PE X y (DEn G F n X W a)) :
    PS X (.Raise (some (.Call (.Name x p) [y] [] q)) none pos) (DSn G F n R X W (.rse x (.cons a .nil))) := by
  obtain ⟨C, fI, fd, ps, hm, T, _, hno, iC, tI, FO, hb⟩ := er.fld x f hf
  refine (ps_raise xs.xe.calm xs.xe.tk (pmk_oex (ds := []) (dvs := []) T iC tI FO (xs.xe.room) hb .nil passF (xs.xe.gl hg) hm (pa_cons ha pa_nil (star_cons hy)) (nmB_d hn).1 (star_cons hy) (star_any (by rfl)))).imp fun B σ H ⟨m, I, e, s, S, E, h⟩ => ?_
  have h1 : RSn (cOf X) W B m I H (RS.of e ((den G F n a e >>= fun v => (pure [v] : M (List L))) s) fun vs s' => (match R.fld x, vs with
    | some (some f), [v] => .ex x (some (f, v)) e s'
    | some none, [] => .ex x none e s'
    | _, _ => .bad)) := h
  refine rdE_bind (k := fun v _ => (pure [v] : M (List L))) S E (rs_of h1 E) fun m1 I1 H1 s1 v u e1 S1 E1 ru h2 => ?_
  have h3 := Rn.pure S1 h2
  simp only [hf] at h3
  refine ⟨by show 1 ≤ 1000; decide, fun b hb2 => ⟨b, C, u, rfl, upd_same, T, hno, fun d hd hdb => ⟨rfl, d, [(f, u)], upd_same, ?_, ?_, ?_⟩⟩⟩
  · rw [upd_ne hdb, upd_same]
  · rw [upd_ne hdb] at hd; exact hd
  · have hd1 : H1 d = none := by rw [upd_ne hdb] at hd; exact hd
    obtain ⟨e2, S2⟩ := S1.newU (o := .xd [(f, u)]) hd1
    have eH : upd (L2.del (upd (upd (upd H1 b (exo b C none)) d (exd d [(f, u)])) b (exo b C (some d))) b) d (.xd [(f, u)]) = upd H1 d (.xd [(f, u)]) := by
      funext z
      by_cases z1 : z = d
      · subst z1; rw [upd_same, upd_same]
      · rw [upd_ne z1, upd_ne z1]
        by_cases z2 : z = b
        · subst z2; rw [del_same, hb2]
        · rw [del_ne z2, upd_ne z2, upd_ne z1, upd_ne z2]
    rw [eH]
    exact h3 m1 I1 _ (.ref C) (some d) σ e2 S2 (E1.mono e2) ⟨C, hm, rfl, d, u, rfl, upd_same, ru.mono e2⟩
theorem XS0.tr (xs : XS0 G F k N sc W X) {W' : WX} (pn : List (Addr × Obj)) (xe : Value → Shared → Prop) (tk : Takes (X.tr pn xe) W') (po : PassesOwn (model X.prog X.w) X.A X.env xe) : XS0 G F k N sc W' (X.tr pn xe) where
  xe := ⟨xs.xe.hN, xs.xe.nd, xs.xe.nm, xs.xe.fn, xs.xe.calm, xs.xe.room, xs.xe.fx, tk⟩
  po := po
  stk := xs.stk
  fr := xs.fr
  kd := xs.kd
  sc := xs.sc
theorem EnvR.any {c : Cn} {m : List Addr} {I : Hp} {e : Env} {σ : L2.St} (E : EnvR c m I e σ) (i : Nat) (w : Option V) : EnvR c m I (e.set i none) (σ.set i w) :=
  ⟨by rw [List.length_set, List.length_set]; exact E.len, fun j y h => by
    by_cases ij : i = j
    · subst ij
      have hl : i < e.length := by
        have := (List.getElem?_eq_some_iff.mp h).1
        rw [List.length_set] at this; exact this
      rw [List.getElem?_set_self hl] at h
      cases h
    · rw [List.getElem?_set_ne ij] at h
      rw [List.getElem?_set_ne ij]
      exact E.at_ j y h⟩
theorem set_around {e : Env} {i j : Nat} {a : Option L} : ((e.set j none).set i a).set j none = (e.set i a).set j none := by
  by_cases ij : i = j
  · subst ij; rw [List.set_set, List.set_set, List.set_set]
  · rw [List.set_comm _ _ ij, List.set_set]
    exact List.set_comm _ _ (Ne.symm ij)
theorem EnvR.as {c : Cn} {m : List Addr} {I : Hp} {e : Env} {σ : L2.St} (E : EnvR c m I e σ) {i j : Nat} {u : V} {x : L} {v : V} (r : Rep c m I x v) : EnvR c m I ((e.set i (some x)).set j none) (((σ.set j (some u)).set i (some v)).set j none) := by
  rw [← set_around]
  exact ((E.any j (some u)).set i r).any j none
theorem suite_set (xs : XS0 G F k N sc W X) {i : Nat} {y : Str} {py pos : Pos} {x : Expr} {te : TE} (a : Addr) (pn : List (Addr × Obj)) (h1 : N[i]? = some y) (h2 : locB sc y = true) (hc : isComp x = false) (he : PE (X.suite a pn) x te) : PSs (X.suite a pn) [.Assign [.Name y py] x pos] (tAsg te (gName i)) := by
  obtain ⟨l1, l2⟩ := xs.xe.loc h2
  exact pss_one (ps_set (by show X.N.Nodup; rw [xs.xe.hN]; exact xs.xe.nd) (by show X.N[i]? = some y; rw [xs.xe.hN]; exact h1) l1 he (no_swap hc) l2)
def suFld (K : PySem.W.Frag) (i j : Nat) (f : Str) : Addr → Value → Option Addr → TS := fun a cls d B σ H => ∃ σ0 dd fs v C, σ = List.set σ0 j (some (.ref a)) ∧ cls = .ref C ∧ XfC K C ∧ PySem.W.findIn K (.ref C) f = some none ∧ d = some dd ∧ H dd = some (.xd fs) ∧ fs.lookup f = some v ∧ B.nx (σ.set i (some v)) H
theorem suFld_ok (xs : XS0 G F k N sc W X) {i j : Nat} {f y z : Str} {py pz p2 pos : Pos} (h1 : N[i]? = some y) (h2 : locB sc y = true) (h3 : N[j]? = some z) (h4 : locB sc z = true) (h5 : nmB z = true) (a : Addr) (oe : Obj) (cls : Value) (d : Option Addr) (pn : List (Addr × Obj)) (hz : Zc cls d oe) (hf : ∃ vs, oe.data = .fields vs) :
    PSs (X.suite a ((a, oe) :: pn)) [.Assign [.Name y py] (.Attribute (.Name z pz) f p2) pos] (suFld X.K i j f a cls d) := by
  refine ⟨fun pins s σ H B I ⟨σ0, dd, fs, v, C, e1, e2, T, hno, e3, e4, e5, q⟩ => ?_⟩
  have pz : PE (X.suite a ((a, oe) :: pn)) (.Name z pz) (tVar j) := pe_var (by show X.N[j]? = some z; rw [xs.xe.hN]; exact h3) (by
    rcases (xs.xe.loc h4).1 with q | q
    · exact .inl q
    · exact .inr (.inl q)) (nmB_d h5).1 (nmB_d h5).2.1
  have pf := pe_xf (X := X) (pos := p2) T hno hz hf pz rfl
  refine (suite_set xs a ((a, oe) :: pn) h1 h2 rfl pf).run pins s σ H B I ⟨.ref a, ?_, rfl, e2, dd, fs, v, e3, e4, e5, q⟩
  have hl : σ.length = X.N.length := I.len
  have hj : j < σ.length := by
    rw [hl, xs.xe.hN]
    exact (List.getElem?_eq_some_iff.mp h3).1
  subst e1
  rw [List.length_set] at hj
  exact List.getElem?_set_self hj
/-- try: .. except x as z: y = z.f -/
theorem s_tryAs (xs : XS0 G F k N sc W X) (er : ErOk (cOf X) X.base k R) {b : DSs} {body : List Stmt} {i j : Nat} {f x y z : Str} {px py pz p2 p3 p4 pos : Pos} (hfx : R.fld x = some (some f)) (honly : ∀ w, R.sub w x = some true → w = x) (hg : glB sc x = true) (hn : nmB x = true)
    (h1 : N[i]? = some y) (h2 : locB sc y = true) (h3 : N[j]? = some z) (h4 : sc.names.lookup z = some .local) (h5 : nmB z = true)
    (hb : ∀ (W : WX) (pn : List (Addr × Obj)) (xe : Value → Shared → Prop), XS0 G F k N sc W (X.tr pn xe) → PSs (X.tr pn xe) body (DSsn G F n R (X.tr pn xe) W b)) :
    PS X (.Try body [.ExceptHandler (some (.Name x px)) (some z) [.Assign [.Name y py] (.Attribute (.Name z pz) f p2) p3] p4] [] [] pos) (DSn G F n R X W (.tr b [(x, some j, .fld i f)])) := by
  obtain ⟨C, fI, fd, ps, hm, T, XT, hno, iC, tI, FO, hbd⟩ := er.fld x f hfx
  have hl4 : locB sc z = true := by unfold locB; rw [h4]
  have hk : X.env.kindOf z = some .local := by
    show X.env.scope.names.lookup z = some .local
    rw [xs.sc]; exact h4
  refine (ps_try_as (i := j) (c := .ref C) (ts := suFld X.K i j f) (tb := fun W => rdS (cOf X) W (denSs G F n R b)) xs.stk xs.fr (by rw [xs.xe.hN]; exact xs.xe.nd) (by rw [xs.xe.hN]; exact h3) hk ⟨xs.xe.gl hg, (nmB_d hn).1, .inl hm⟩ xs.xe.tk (fun W pn xe tk po => hb W pn xe (xs.tr pn xe tk po)) (fun a oe cls d pn hz hf => suFld_ok xs h1 h2 h3 hl4 h5 a oe cls d pn hz hf)).imp fun B σ H ⟨m, I, e, s, S, E, h⟩ => ?_
  refine ⟨m, I, e, s, S, E, ?_⟩
  have h' : RSn (cOf X) W B m I H (match denSs G F n R b e s with
    | .ex c p e' s' => clauses R c p e' s' [(x, some j, .fld i f)]
    | r => r) := h
  revert h'
  cases denSs G F n R b e s with
  | nx e' s' => exact fun h => h
  | rt v s' => exact fun h => h
  | bad => exact fun h => h
  | ex w p e' s' =>
    intro h' m1 I1 H1 C1 d σ1 e1 S1 E1 xr
    have h2 : RSn (cOf X) W B m I H (match R.sub w x with
      | some true => (match hand (.fld i f) p e' s' with
        | .nx e' s' => .nx (e'.set j none) s'
        | _ => .bad)
      | some false => .ex w p e' s'
      | none => .bad) := h'
    cases q : R.sub w x with
    | none => rw [q] at h2; exact h2.elim
    | some t =>
      rw [q] at h2
      obtain ⟨Cx, Cy, m1', m2', hx⟩ := er.sub w x t q
      have e3 : Cy = C := by
        have := m2'.symm.trans hm
        cases this; rfl
      subst e3
      obtain ⟨C0, hC0, rfl, hp⟩ := xr
      have e4 : C0 = Cx := by
        have := hC0.symm.trans m1'
        cases this; rfl
      subst e4
      refine ⟨t, hx, fun ht a ha => ?_, fun ht => ?_⟩
      · subst ht
        have ew := honly w q
        subst ew
        have e5 : C0 = Cy := by
          have := m1'.symm.trans hm
          cases this; rfl
        subst e5
        cases p with
        | none => exact h2.elim
        | some gv =>
          obtain ⟨g, v⟩ := gv
          obtain ⟨dx, u, rfl, hd, ru⟩ := hp
          have h3' : RSn (cOf X) W B m I H (match (if g = f then RS.nx (e'.set i (some v)) s' else .bad) with
            | .nx e' s' => .nx (e'.set j none) s'
            | _ => .bad) := h2
          by_cases eg : g = f
          · subst eg
            rw [if_pos rfl] at h3'
            exact ⟨σ1, dx, _, u, C0, rfl, rfl, XT, hno, rfl, hd, by simp, h3' m1 I1 H1 _ e1 S1 (E1.as ru)⟩
          · rw [if_neg eg] at h3'
            exact h3'.elim
      · subst ht
        exact h2 m1 I1 H1 (.ref C0) d σ1 e1 S1 E1 ⟨C0, hC0, rfl, hp⟩
/-- try: .. except x: y = constant -/
theorem s_tryOnly (xs : XS0 G F k N sc W X) (er : ErOk (cOf X) X.base k R) {b : DSs} {body : List Stmt} {i : Nat} {x y : Str} {v : L} {cst : Expr} {px py p3 p4 pos : Pos} {C : Addr} (hm : X.mg x = some (.ref C)) (hg : glB sc x = true) (hn : nmB x = true) (hcst : isComp cst = false)
    (h1 : N[i]? = some y) (h2 : locB sc y = true) (hv : ∀ X, PE X cst (tC (constV v)) ∧ ∀ (c : Cn) m I, Rep c m I v (constV v))
    (hb : ∀ (W : WX) (pn : List (Addr × Obj)) (xe : Value → Shared → Prop), XS0 G F k N sc W (X.tr pn xe) → PSs (X.tr pn xe) body (DSsn G F n R (X.tr pn xe) W b)) :
    PS X (.Try body [.ExceptHandler (some (.Name x px)) none [.Assign [.Name y py] cst p3] p4] [] [] pos) (DSn G F n R X W (.tr b [(x, none, .cst i v)])) := by
  refine (ps_try_only (c := .ref C) (ts := fun a cls d => tAsg (tC (constV v)) (gName i)) (tb := fun W => rdS (cOf X) W (denSs G F n R b)) xs.stk xs.fr ⟨xs.xe.gl hg, (nmB_d hn).1, .inl hm⟩ xs.xe.tk (fun W pn xe tk po => hb W pn xe (xs.tr pn xe tk po)) (fun a oe cls d pn hz hf => suite_set xs a ((a, oe) :: pn) h1 h2 hcst (hv _).1)).imp fun B σ H ⟨m, I, e, s, S, E, h⟩ => ?_
  refine ⟨m, I, e, s, S, E, ?_⟩
  have h' : RSn (cOf X) W B m I H (match denSs G F n R b e s with
    | .ex c p e' s' => clauses R c p e' s' [(x, none, .cst i v)]
    | r => r) := h
  revert h'
  cases denSs G F n R b e s with
  | nx e' s' => exact fun h => h
  | rt v s' => exact fun h => h
  | bad => exact fun h => h
  | ex w p e' s' =>
    intro h' m1 I1 H1 C1 d σ1 e1 S1 E1 xr
    have h2 : RSn (cOf X) W B m I H (match R.sub w x with
      | some true => .nx (e'.set i (some v)) s'
      | some false => .ex w p e' s'
      | none => .bad) := h'
    cases q : R.sub w x with
    | none => rw [q] at h2; exact h2.elim
    | some t =>
      rw [q] at h2
      obtain ⟨Cx, Cy, m1', m2', hx⟩ := er.sub w x t q
      have e3 : Cy = C := by
        have := m2'.symm.trans hm
        cases this; rfl
      subst e3
      obtain ⟨C0, hC0, rfl, hp⟩ := xr
      have e4 : C0 = Cx := by
        have := hC0.symm.trans m1'
        cases this; rfl
      subst e4
      refine ⟨t, hx, fun ht a ha => ?_, fun ht => ?_⟩
      · subst ht
        exact h2 m1 I1 H1 _ e1 S1 (E1.set i ((hv X).2 _ _ _))
      · subst ht
        exact h2 m1 I1 H1 (.ref C0) d σ1 e1 S1 E1 ⟨C0, hC0, rfl, hp⟩
end
end D
end

section
set_option maxRecDepth 100000
set_option maxHeartbeats 2000000
/-! D1v: how the arguments of a plain def bind. -/
namespace D
open PySem PySem.Spec PyProof.Rows L2
theorem fm_congr {α β : Type} {f g : α → Option β} : ∀ {l : List α}, (∀ x ∈ l, f x = g x) → l.filterMap f = l.filterMap g
  | [], _ => rfl
  | x :: l, h => by
    rw [List.filterMap_cons, List.filterMap_cons, h x List.mem_cons_self, fm_congr fun y hy => h y (List.mem_cons_of_mem _ hy)]
theorem zip_look : ∀ {ns : List Str} {us : List Value}, ns.Nodup → ns.length = us.length → ns.filterMap (fun n => ((ns.zip us).lookup n).map (n, ·)) = ns.zip us ∧ ∀ n ∈ ns, ((ns.zip us).lookup n).isNone = false
  | [], [], _, _ => ⟨rfl, fun _ h => nomatch h⟩
  | n :: ns, u :: us, hn, hl => by
    have hn' := List.nodup_cons.mp hn
    obtain ⟨a, b⟩ := zip_look hn'.2 (Nat.succ.inj hl)
    have key : ∀ m ∈ ns, ((n :: ns).zip (u :: us)).lookup m = (ns.zip us).lookup m := fun m hm => by
      have e : (m == n) = false := by
        have : m ≠ n := fun e => hn'.1 (e ▸ hm)
        simpa using this
      rw [List.zip_cons_cons, List.lookup_cons, e]
    have k0 : ((n :: ns).zip (u :: us)).lookup n = some u := by
      rw [List.zip_cons_cons, List.lookup_cons]
      simp
    refine ⟨?_, fun m hm => ?_⟩
    · rw [List.filterMap_cons, k0]
      show (n, u) :: ns.filterMap _ = (n, u) :: ns.zip us
      congr 1
      refine Eq.trans (fm_congr fun m hm => ?_) a
      rw [key m hm]
    · rcases List.mem_cons.mp hm with rfl | hm
      · rw [k0]; rfl
      · rw [key m hm]; exact b m hm
theorem bind_plain {nm q : Str} {args : List Arg} {body : List Stmt} {sc : Scope} {kV doc pm cdv ct : Value} {an : Option Addr} {us : List Value} (hn : (args.map (·.arg)).Nodup) (hl : us.length = (args.map (·.arg)).length) :
    bindArgs (PySem.W.fnOf nm q ⟨[], args, none, [], [], none, []⟩ body sc .none kV doc pm an cdv ct) ⟨us, []⟩ = pure ((args.map (·.arg)).zip us) := by
  obtain ⟨h1, h2⟩ := zip_look (us := us) hn hl.symm
  have e0 : seqItems? Value.none = pure none := by rfl
  have e1 : ¬ (us.length > (args.map (·.arg)).length) := by omega
  have e2 : ((args.map (·.arg)).take (args.map (·.arg)).length).filter (fun n => (((args.map (·.arg)).zip us).lookup n).isNone) = [] := by
    rw [List.take_length, List.filter_eq_nil_iff]
    intro n hm
    rw [h2 n hm]
    simp
  unfold bindArgs
  simp only [PySem.W.fnOf, e0, pure_bind, List.map_nil, List.nil_append, List.append_nil, Option.getD_none, List.forIn_nil]
  have c1 : (decide (us.length > (args.map (·.arg)).length) && (none : Option Arg).isNone) = false := by rw [decide_eq_false e1]; rfl
  simp only [c1, Bool.false_eq_true, if_false, List.drop_nil, List.length_nil, Nat.sub_zero, e2, List.isEmpty_nil, Bool.not_true, List.zip_nil_right, List.forIn_nil, pure_bind, h1]
end D
end

section
set_option maxRecDepth 100000
set_option maxHeartbeats 2000000
/-! D1w: the check of statements. -/
namespace D
open PySem PySem.Spec PyProof.Rows L2
theorem lookup_memB {α β : Type} [BEq α] [LawfulBEq α] {a : α} {b : β} : ∀ {l : List (α × β)}, l.lookup a = some b → (a, b) ∈ l
  | [], h => nomatch h
  | (k, v) :: r, h => by
    rw [List.lookup_cons] at h
    cases e : a == k with
    | true =>
      rw [e] at h
      have e2 := LawfulBEq.eq_of_beq e
      subst e2
      cases h
      exact List.mem_cons_self
    | false =>
      rw [e] at h
      exact List.mem_cons_of_mem _ (lookup_memB h)
def onlyB (R : Er) (x : Str) : Bool := R.subT.all fun p => !(decide (p.1.2 = x) && p.2) || decide (p.1.1 = x)
theorem only_of {R : Er} {x : Str} (h : onlyB R x = true) (w : Str) (hw : R.sub w x = some true) : w = x := by
  have hm := lookup_memB (show R.subT.lookup (w, x) = some true from hw)
  have := List.all_eq_true.mp h _ hm
  simpa using this
section
variable (G : Glb) (R : Er) (N : List Str) (sc : Scope)
abbrev AlS (P : Fns → Nat → Nat → WX → Cx → Prop) : Prop := ∀ (F : Fns) (n k : Nat) (W : WX) (X : Cx), (∀ x, G.kd x = none) → XS0 G F k N sc W X → ErOk (cOf X) X.base k R → P F n k W X
def notSet : Expr → Bool
  | .Set _ _ _ => false
  | _ => true
theorem notSet_ok {iter : Expr} : notSet iter = true → (match iter with | .Set _ _ _ => true | _ => false) = false := by
  cases iter <;> first | (exact fun _ => rfl) | (exact fun h => (Bool.false_ne_true h).elim)
def notTup : Expr → Bool
  | .Tuple _ _ _ => false
  | x => !isComp x
theorem notTup_ok {x : Expr} : notTup x = true → (match x with | .Tuple _ _ _ => true | _ => isComp x) = false := by
  cases x <;> first | (exact fun _ => rfl) | (exact fun h => (Bool.false_ne_true h).elim)
mutual
def chkS : (d : DS) → (x : Stmt) → Ck (AlS G R N sc fun F n _ W X => PS X x (DSn G F n R X W d))
  | .asg i a, x => match x with
    | .Assign [.Name y py] e pos => match a, e with
      | .lc (.lc own t it c d), .ListComp elt [⟨tg, iter, ifs, ia⟩] scope p2 => ⟨decide (N[i]? = some y) && decide (sc.names.lookup y = some .local) && (py.line == p2.line) && !(scope.names.any fun (n, k) => n == y && (k == .local || k == .cell)) && (decide (ia = 0) && blkC N sc scope (ownOf N own) && (t.ix.all fun i => own.contains i) && notSet iter) && ((chkD G N sc it tg iter).1 && (chkT N scope t tg).1) && ((chkI G N scope c ifs).1 && (chk G N scope d .v elt).1), fun h F n k W X hk xs er => by
          obtain ⟨h1, h2, h3, h4, h5, h6, h7⟩ := an7 h
          obtain ⟨i1, i2, i3, i4⟩ := an4 h5
          have e := dc i1
          subst e
          have key := s_asgLc (G := G) (F := F) (n := n) (k := k) (N := N) (sc := sc) (W := W) (X := X) (R := R) xs (i := i) (own := ownOf N own) (t := t) (it := it) (c := c) (d := d) (y := y) (py := py) (spos := pos) (elt := elt) (tg := tg) (iter := iter) (ifs := ifs) (scope := scope) (pos := p2) (dc h1) (dc h2) h3 (nt h4) (blk_ok xs.xe i2) (fun i hi => by
              rw [ownOf_ix]
              have := List.all_eq_true.mp i3 i hi
              simpa using this) (notSet_ok i4) ((chkD G N sc it tg iter).2 (an2 h6).1 F n k W X hk xs.xe)
            (fun s H C cl fp => (chkT N scope t tg).2 (an2 h6).2 G F k W0 _ (xs.xe.blk s H C cl fp))
            (fun s H C cl fp => (chkI G N scope c ifs).2 (an2 h7).1 F n k W0 _ hk (xs.xe.blk s H C cl fp) rfl)
            (fun s H C cl fp => (chk G N scope d .v elt).2 (an2 h7).2 F n k W0 _ hk (xs.xe.blk s H C cl fp))
          rw [ownOf_ix] at key
          exact key⟩
      | a, e => ⟨decide (N[i]? = some y) && locB sc y && !isComp e && (chk G N sc a .v e).1, fun h F n k W X hk xs er => s_asg xs (dc (an4 h).1) (an4 h).2.1 (nt (an4 h).2.2.1) ((chk G N sc a .v e).2 (an4 h).2.2.2 F n k W X hk xs.xe)⟩
    | _ => ckNo
  | .asgT is a, x => match x with
    | .Assign [.Tuple es j p] e pos => ⟨(chkT N sc (.tp is) (.Tuple es j p)).1 && notTup e && (chk G N sc a .v e).1, fun h F n k W X hk xs er => s_asgT xs ((chkT N sc (.tp is) (.Tuple es j p)).2 (an3 h).1 G F k W X xs.xe) (notTup_ok (an3 h).2.1) ((chk G N sc a .v e).2 (an3 h).2.2 F n k W X hk xs.xe)⟩
    | _ => ckNo
  | .par i j a b, x => ckNo
  | .fset o f a, x => match x with
    | .Assign [.Attribute y g p] e pos => ⟨decide (g = f) && (chk G N sc a .v e).1 && (chk G N sc o .v y).1, fun h F n k W X hk xs er => by
      have e := dc (an3 h).1
      subst e
      exact s_fset xs ((chk G N sc a .v _).2 (an3 h).2.1 F n k W X hk xs.xe) ((chk G N sc o .v y).2 (an3 h).2.2 F n k W X hk xs.xe)⟩
    | _ => ckNo
  | .iset o b a, x => match x with
    | .Assign [.Subscript y z p] e pos => ⟨!isSlice z && (chk G N sc a .v e).1 && (chk G N sc o .v y).1 && (chk G N sc b .v z).1, fun h F n k W X hk xs er => s_iset xs (nt (an4 h).1) ((chk G N sc a .v e).2 (an4 h).2.1 F n k W X hk xs.xe) ((chk G N sc o .v y).2 (an4 h).2.2.1 F n k W X hk xs.xe) ((chk G N sc b .v z).2 (an4 h).2.2.2 F n k W X hk xs.xe)⟩
    | _ => ckNo
  | .aug i a, x => match x with
    | .AugAssign (.Name y py) .Add e pos => ⟨decide (N[i]? = some y) && locB sc y && (chk G N sc a .v e).1, fun h F n k W X hk xs er => s_aug xs (dc (an3 h).1) (an3 h).2.1 ((chk G N sc a .v e).2 (an3 h).2.2 F n k W X hk xs.xe)⟩
    | _ => ckNo
  | .expr a, x => match x with
    | .Expr e pos => ⟨!isComp e && (chk G N sc a .v e).1, fun h F n k W X hk xs er => s_expr (nt (an2 h).1) ((chk G N sc a .v e).2 (an2 h).2 F n k W X hk xs.xe)⟩
    | _ => ckNo
  | .ret a, x => match x with
    | .Return (some e) pos => ⟨(chk G N sc a .v e).1, fun h F n k W X hk xs er => s_ret ((chk G N sc a .v e).2 h F n k W X hk xs.xe)⟩
    | .Return none pos => match a with
      | .cst .non => ⟨true, fun _ F n k W X hk xs er => s_retN⟩
      | _ => ckNo
    | _ => ckNo
  | .ife c a b, x => match x with
    | .If e y z pos => ⟨(chk G N sc c .t e).1 && (chkSs a y).1 && (chkSs b z).1, fun h F n k W X hk xs er => s_if ((chk G N sc c .t e).2 (an3 h).1 F n k W X hk xs.xe) ((chkSs a y).2 (an3 h).2.1 F n k W X hk xs er) ((chkSs b z).2 (an3 h).2.2 F n k W X hk xs er)⟩
    | _ => ckNo
  | .fr t it b, x => match x with
    | .For tg iter y [] pos => ⟨notSet iter && (chkD G N sc it tg iter).1 && (chkT N sc t tg).1 && (chkSs b y).1, fun h F n k W X hk xs er => s_for xs (notSet_ok (an4 h).1) ((chkD G N sc it tg iter).2 (an4 h).2.1 F n k W X hk xs.xe) ((chkT N sc t tg).2 (an4 h).2.2.1 G F k W X xs.xe) ((chkSs b y).2 (an4 h).2.2.2 F n k W X hk xs er)⟩
    | _ => ckNo
  | .whl c b, x => match x with
    | .While e y [] pos => ⟨(chk G N sc c .t e).1 && (chkSs b y).1, fun h F n k W X hk xs er => s_while xs ((chk G N sc c .t e).2 (an2 h).1 F n k W X hk xs.xe) ((chkSs b y).2 (an2 h).2 F n k W X hk xs er)⟩
    | _ => ckNo
  | .rse c es, x => match es, x with
    | .cons a .nil, .Raise (some (.Call (.Name z p) [y] [] q)) none pos => match hf : R.fld c with
      | some (some f) => ⟨decide (z = c) && glB sc z && nmB z && !isStar y && (chk G N sc a .v y).1, fun h F n k W X hk xs er => by
        obtain ⟨h1, h2, h3, h4, h5⟩ := an5 h
        have e := dc h1
        subst e
        exact s_rse1 xs er hf h2 h3 (nt h4) ((chk G N sc a .v y).2 h5 F n k W X hk xs.xe)⟩
      | _ => ckNo
    | _, _ => ckNo
  | .tr b hs, x => match hs, x with
    | [(c, some j, .fld i f)], .Try body [.ExceptHandler (some (.Name z px)) (some w) [.Assign [.Name y py] (.Attribute (.Name w2 pz) g p2) p3] p4] [] [] pos => ⟨decide (z = c) && decide (R.fld c = some (some f)) && (onlyB R c && glB sc z && nmB z) && (decide (N[i]? = some y) && locB sc y) && (decide (N[j]? = some w) && decide (sc.names.lookup w = some .local) && nmB w) && (decide (w2 = w) && decide (g = f)) && (chkSs b body).1, fun h F n k W X hk xs er => by
      obtain ⟨h1, h2, h3, h4, h5, h6, h7⟩ := an7 h
      have e := dc h1
      subst e
      have e2 := dc (an2 h6).1
      subst e2
      have e3 := dc (an2 h6).2
      subst e3
      exact s_tryAs xs er (dc h2) (only_of (an3 h3).1) (an3 h3).2.1 (an3 h3).2.2 (dc (an2 h4).1) (an2 h4).2 (dc (an3 h5).1) (dc (an3 h5).2.1) (an3 h5).2.2 (fun W pn xe xs' => (chkSs b body).2 h7 F n k W _ hk xs' er)⟩
    | [(c, none, .cst i v)], .Try body [.ExceptHandler (some (.Name z px)) none [.Assign [.Name y py] e p3] p4] [] [] pos => ⟨decide (z = c) && decide ((R.fld c).isSome = true ∧ R.sub c c = some true) && (glB sc z && nmB z) && (decide (N[i]? = some y) && locB sc y) && (!isComp e && (chkC v e).1) && (chkSs b body).1, fun h F n k W X hk xs er => by
      obtain ⟨h1, h2, h3, h4, h5, h6⟩ := an6 h
      have e := dc h1
      subst e
      obtain ⟨Cx, Cy, m1, m2, _⟩ := er.sub _ _ _ (dc h2).2
      exact s_tryOnly xs er m1 (an2 h3).1 (an2 h3).2 (nt (an2 h5).1) (dc (an2 h4).1) (an2 h4).2 (fun X => (chkC v _).2 (an2 h5).2 X) (fun W pn xe xs' => (chkSs b body).2 h6 F n k W _ hk xs' er)⟩
    | _, _ => ckNo
  | .pas, x => match x with
    | .Pass pos => ⟨true, fun _ F n k W X hk xs er => s_pass⟩
    | _ => ckNo
def chkSs : (d : DSs) → (x : List Stmt) → Ck (AlS G R N sc fun F n _ W X => PSs X x (DSsn G F n R X W d))
  | .nil, [] => ⟨true, fun _ F n k W X hk xs er => ss_nil⟩
  | .cons a r, y :: ys => ⟨(chkS a y).1 && (chkSs r ys).1, fun h F n k W X hk xs er => ss_cons ((chkS a y).2 (an2 h).1 F n k W X hk xs er) ((chkSs r ys).2 (an2 h).2 F n k W X hk xs er)⟩
  | _, _ => ckNo
end
end
end D
end

section
set_option maxRecDepth 100000
set_option maxHeartbeats 2000000
/-! D1x: defs keep what callD says. -/
namespace D
open PySem PySem.Spec PyProof.Rows L2
abbrev Pre (m m' : List Addr) : Prop := ∀ (n : Nat) (a : Addr), m[n]? = some a → m'[n]? = some a
section
variable {c : Cn} {m m' : List Addr} {I I' H H' : Hp} {s s' : Store}
/-! ### what the callee held is let go -/
section
variable (hp : Pre m m')
include hp
mutual
theorem Rep.cut' : ∀ {x : L} {v0 v : V}, Rep c m I x v0 → Rep c m' I' x v → Rep c m I' x v
  | _, _, _, .non, .non => .non
  | _, _, _, .bl _, .bl b => .bl b
  | _, _, _, .int _, .int i => .int i
  | _, _, _, .str _, .str z => .str z
  | _, _, _, .tup _ r0, .tup h r => .tup h (Reps.cut' r0 r)
  | _, _, _, .loc h0, .loc h => by
    have e := (hp _ _ h0).symm.trans h
    cases e
    exact .loc h0
  | _, _, _, .fn _, .fn h => .fn h
theorem Reps.cut' : ∀ {x : List L} {v0 v : List V}, Reps c m I x v0 → Reps c m' I' x v → Reps c m I' x v
  | _, _, _, .nil, .nil => .nil
  | _, _, _, .cons h0 r0, .cons h r => .cons (Rep.cut' h0 h) (Reps.cut' r0 r)
end
theorem RepK.cut' : ∀ {x : List (Str × L)} {v0 v : List (Key × V)}, RepK c m I x v0 → RepK c m' I' x v → RepK c m I' x v
  | _, _, _, .nil, .nil => .nil
  | _, _, _, .cons r0 h0, .cons r h => .cons (Rep.cut' hp r0 r) (RepK.cut' h0 h)
theorem RepF.cut' {x : List (Str × L)} {v0 : List (Str × V)} (h0 : RepF c m I x v0) : ∀ {v : List (Str × V)}, RepF c m' I' x v → RepF c m I' x v := by
  induction h0 with
  | nil => intro v h; cases h; exact .nil
  | cons r0 _ ih =>
    intro v h
    cases h with
    | cons r h => exact .cons (Rep.cut' hp r0 r) (ih h)
theorem RepN.cut' {x : List (L × L)} {v0 : List (NestedKey × Addr × Value)} (h0 : RepN c m I x v0) : ∀ {v : List (NestedKey × Addr × Value)}, RepN c m' I' x v → RepN c m I' x v := by
  induction h0 with
  | nil => intro v h; cases h; exact .nil
  | cons k0 a0 b0 _ _ ih =>
    intro v h
    cases h with
    | cons k a b r h => exact .cons k0 (Rep.cut' hp a0 a) (Rep.cut' hp b0 b) r (ih h)
theorem RepO.cut' {a : Addr} {o : Ob} (h0 : RepO c m I H a o) (h : RepO c m' I' H' a o) : RepO c m I' H' a o := by
  cases o with
  | lst xs => obtain ⟨v0, _, r0⟩ := h0; obtain ⟨vs, h1, h2⟩ := h; exact ⟨vs, h1, r0.cut' hp h2⟩
  | dS xs => obtain ⟨v0, _, r0⟩ := h0; obtain ⟨vs, h1, h2⟩ := h; exact ⟨vs, h1, r0.cut' hp h2⟩
  | fS xs => obtain ⟨_, v0, _, r0⟩ := h0; obtain ⟨o, vs, h1, h2⟩ := h; exact ⟨o, vs, h1, r0.cut' hp h2⟩
  | dN xs => obtain ⟨v0, _, r0, _⟩ := h0; obtain ⟨vs, h1, h2, h3⟩ := h; exact ⟨vs, h1, r0.cut' hp h2, h3⟩
  | fN xs => obtain ⟨_, v0, _, r0, _⟩ := h0; obtain ⟨o, vs, h1, h2, h3⟩ := h; exact ⟨o, vs, h1, r0.cut' hp h2, h3⟩
  | ins x fs => obtain ⟨_, _, v0, _, _, r0, _⟩ := h0; obtain ⟨C, dx, ws, h1, h2, h3, h4⟩ := h; exact ⟨C, dx, ws, h1, h2, r0.cut' hp h3, h4⟩
  | scr xs => exact h
end
mutual
theorem rep_noLoc : ∀ {x : L} {v : V}, noLoc x = true → Rep c m' I' x v → Rep c m I' x v
  | _, _, _, .non => .non
  | _, _, _, .bl b => .bl b
  | _, _, _, .int i => .int i
  | _, _, _, .str z => .str z
  | _, _, h, .tup p r => .tup p (reps_noLoc h r)
  | _, _, h, .loc _ => by cases h
  | _, _, _, .fn h => .fn h
theorem reps_noLoc : ∀ {x : List L} {v : List V}, noLocs x = true → Reps c m' I' x v → Reps c m I' x v
  | _, _, _, .nil => .nil
  | _, _, h, .cons a r => .cons (rep_noLoc (Bool.and_eq_true_iff.mp h).1 a) (reps_noLoc (Bool.and_eq_true_iff.mp h).2 r)
end
/-- the state behind a call, without what the callee alone held -/
theorem Stt.cutM (S : Stt c m I s H) (e : Ext m I H m' I' H') (S' : Stt c m' I' s' H') (hs : s'.take s.length = s) : Stt c m I' s H' where
  len := S.len
  nd := S.nd
  no := fun a h => S'.no a (by obtain ⟨t, rfl⟩ := e.pre; exact List.mem_append_left _ h)
  cell := fun n a o h1 h2 => by
    have h3 : s'[n]? = some o := by
      rw [← hs, List.getElem?_take] at h2
      split at h2
      · exact h2
      · cases h2
    exact (S.cell n a o h1 h2).cut' (fun _ _ => e.get) (S'.cell n a o (e.get h1) h3)
  sub := S'.sub
theorem Ext.cutM (e : Ext m I H m' I' H') : Ext m I H m I' H' := ⟨⟨[], (List.append_nil m).symm⟩, e.im, fun _ h => .inl h, e.fi, e.fr, e.nv⟩
theorem gcR_run {Q : VK} {W : WX} {σ : L2.St} {r : L} (S : Stt c m I s H) (h : Rn c W σ m I H (gcR s r s') (Pv c Q)) : ∀ m' I' H' u, Ext m I H m' I' H' → Stt c m' I' s' H' → Rep c m' I' r u → Q u H' := by
  intro m' I' H' u e S' ru
  unfold gcR at h
  by_cases hs : s'.take s.length = s
  · rw [if_pos hs] at h
    by_cases hn : noLoc r = true
    · rw [if_pos hn] at h
      exact h m I' H' e.cutM (S.cutM e S' hs) u (rep_noLoc hn ru)
    · rw [if_neg hn] at h
      have keep : Rn c W σ m I H (.ok r s') (Pv c Q) → Q u H' := fun h => h m' I' H' e S' u ru
      cases r with
      | loc k =>
        have h' : Rn c W σ m I H (match s'[k]? with
          | some (.lst xs) => if (noLocs xs && decide (s.length ≤ k)) = true then .ok (.loc s.length) (s ++ [.lst xs]) else .ok (.loc k) s'
          | _ => .ok (.loc k) s') (Pv c Q) := h
        cases ru with
        | loc hk =>
          rename_i a
          have l := S'.lt hk
          have r1 := S'.cell k _ _ hk (List.getElem?_eq_getElem l)
          rw [List.getElem?_eq_getElem l] at h'
          revert r1 h'
          cases s'[k] with
          | lst xs =>
            intro h' r1
            replace h' : Rn c W σ m I H (if (noLocs xs && decide (s.length ≤ k)) = true then .ok (.loc s.length) (s ++ [.lst xs]) else .ok (.loc k) s') (Pv c Q) := h'
            by_cases hx : (noLocs xs && decide (s.length ≤ k)) = true
            · rw [if_pos hx] at h'
              obtain ⟨hx1, hx2⟩ := Bool.and_eq_true_iff.mp hx
              have hx2 := of_decide_eq_true hx2
              obtain ⟨vs, g1, q1⟩ := r1
              have hne : a ∉ m := fun hm => by
                obtain ⟨j, lj, ej⟩ := List.getElem_of_mem hm
                have h1 : m[j]? = some a := by rw [List.getElem?_eq_getElem lj, ej]
                have h2 := e.get h1
                obtain ⟨l1, p1⟩ := List.getElem?_eq_some_iff.mp hk
                obtain ⟨l2, p2⟩ := List.getElem?_eq_some_iff.mp h2
                have : k = j := (List.getElem_inj S'.nd).mp (p1.trans p2.symm)
                rw [S.len] at lj
                omega
              have hfr : H a = none := by
                rcases e.fm a (Stt.mem hk) with q | q
                · exact absurd q hne
                · exact q
              have S0 := S.cutM e S' hs
              have e2 : Ext m I H (m ++ [a]) I' H' := ⟨⟨[a], rfl⟩, e.im, fun b hb => by
                rcases List.mem_append.mp hb with hb | hb
                · exact .inl hb
                · rw [List.mem_singleton.mp hb]; exact .inr hfr, e.fi, e.fr, e.nv⟩
              have S2 : Stt c (m ++ [a]) I' (s ++ [.lst xs]) H' := ⟨by simp [S.len], List.nodup_append.mpr ⟨S.nd, by simp, fun x hx y hy z => hne (by rw [← List.mem_singleton.mp hy, ← z]; exact hx)⟩, fun b hb => by
                rcases List.mem_append.mp hb with hb | hb
                · exact S0.no b hb
                · rw [List.mem_singleton.mp hb]; exact S'.no a (Stt.mem hk), fun n b o h1 h2 => by
                by_cases ln : n < m.length
                · rw [List.getElem?_append_left ln] at h1
                  rw [List.getElem?_append_left (by rw [← S.len]; exact ln)] at h2
                  exact (S0.cell n b o h1 h2).mono' (fun j x h => by rw [List.getElem?_append_left (List.getElem?_eq_some_iff.mp h).1]; exact h) (fun _ _ h => h) (fun _ h => h)
                · have l' : n < (m ++ [a]).length := (List.getElem?_eq_some_iff.mp h1).1
                  have en : n = m.length := by simp at l'; omega
                  subst en
                  rw [List.getElem?_append_right (Nat.le_refl _), Nat.sub_self] at h1
                  rw [S.len, List.getElem?_append_right (Nat.le_refl _), Nat.sub_self] at h2
                  cases h1
                  cases h2
                  exact ⟨vs, g1, reps_noLoc hx1 q1⟩, S'.sub⟩
              refine h' (m ++ [a]) I' H' e2 S2 _ (.loc ?_)
              rw [← S.len, List.getElem?_append_right (Nat.le_refl _), Nat.sub_self]
              rfl
            · rw [if_neg hx] at h'
              exact keep h'
          | _ => intro h' r1; exact keep h'
      | _ => exact keep h
  · rw [if_neg hs] at h
    exact h m' I' H' e S' u ru
end
/-! ### a def by its body -/
theorem start_env {c : Cn} {m : List Addr} {I : Hp} {xs : List L} {vs : List V} {N : List Str} {ps : Nat} (r : Reps c m I xs vs) (hl : xs.length = ps) (hN : ps ≤ N.length) : EnvR c m I (xs.map some ++ List.replicate (N.length - ps) none) (L2.start N vs) := by
  have hl2 := r.length
  refine ⟨?_, fun i x h => ?_⟩
  · unfold L2.start
    simp only [List.length_append, List.length_map, List.length_replicate]
    omega
  · by_cases hi : i < xs.length
    · rw [List.getElem?_append_left (by rw [List.length_map]; exact hi), List.getElem?_map] at h
      have e : xs[i]? = some x := by
        cases q : xs[i]? with
        | none => rw [q] at h; cases h
        | some y => rw [q] at h; cases h; rfl
      obtain ⟨u, g, ru⟩ := r.get e
      refine ⟨u, ?_, ru⟩
      unfold L2.start
      rw [List.getElem?_append_left (by rw [List.length_map]; omega), List.getElem?_map, g]
      rfl
    · rw [List.getElem?_append_right (by rw [List.length_map]; omega)] at h
      rw [List.getElem?_replicate] at h
      split at h <;> cases h
/-- a row: a def's key, its name and qualified name, its arguments, body, scope; its slots; its meaning -/
structure Row where
  key : FK
  name : Str
  qual : Str
  args : List Arg
  body : List Stmt
  scope : Scope
  N : List Str
  df : Def
def Row.ps (r : Row) : List Str := r.args.map (·.arg)
def scopeB (N P : List Str) (sc : Scope) : Bool :=
  (match sc.kind with | .function => true | _ => false) && !sc.isCoroutine && !sc.isGenerator && decide N.Nodup && decide (N.take P.length = P) && (P.all fun x => match sc.names.lookup x with
    | some .local => true
    | some .cell => true
    | _ => false) && (sc.names.all fun y => match y.2 with
    | .free => false
    | _ => true)
theorem scopeB_ok {N P : List Str} {sc : Scope} (h : scopeB N P sc = true) : FnScope N P sc := by
  obtain ⟨h1, h2, h3, h4, h5, h6, h7⟩ := an7 h
  refine ⟨?_, nt h2, nt h3, dc h4, dc h5, fun x hx => ?_, fun y hy e => ?_⟩
  · revert h1
    cases sc.kind <;> first | (exact fun _ => rfl) | (exact fun h => (Bool.false_ne_true h).elim)
  · have := List.all_eq_true.mp h6 x hx
    revert this
    cases sc.names.lookup x with
    | none => exact fun h => (Bool.false_ne_true h).elim
    | some k => cases k <;> first | (exact fun _ => .inl rfl) | (exact fun _ => .inr rfl) | (exact fun h => (Bool.false_ne_true h).elim)
  · have := List.all_eq_true.mp h7 y hy
    rw [e] at this
    cases this
/-- the row's check -/
def Row.ok (G : Glb) (R : Er) (r : Row) : Bool := scopeB r.N r.ps r.scope && decide (r.ps.Nodup) && decide (r.df.ps = r.ps.length ∧ r.df.ns = r.N.length) && (chkSs G R r.N r.scope r.df.body r.body).1
theorem row_fnok {P : Pg} {n j k : Nat} {r : Row} {c : Cn} {base : Heap} {f : Addr} {oc : Value} {od : Option Addr} {osl : Array (Option Value)} {kV doc pm cdv ct : Value} {an : Option Addr} (hk : ∀ x, P.gl.kd x = none) (h : r.ok P.gl P.er = true) (hP : P.fn r.key = some r.df)
    (fx : FxOk c base k P.gl (callD P n j)) (er : ErOk c base k P.er) (lk : c.K.lookup f = some ⟨oc, od, .func (PySem.W.fnOf r.name r.qual ⟨[], r.args, none, [], [], none, []⟩ r.body r.scope .none kV doc pm an cdv ct), osl⟩) (hcd : PySem.W.codeIn c.K cdv r.qual = true) (kp : PySem.W.keepIn c.K (.ref f) = true) :
    FnOk c.P c.w c.K c.mg base (L2.CX c.P c.w) (k + 2) f (PySem.W.fnOf r.name r.qual ⟨[], r.args, none, [], [], none, []⟩ r.body r.scope .none kV doc pm an cdv ct) r.ps (spD c r.ps.length (callD P n (j + 1) r.key)) := by
  obtain ⟨h1, h2, h3, h4⟩ := an4 h
  obtain ⟨h3a, h3b⟩ := dc h3
  have S := scopeB_ok h1
  refine fn_of (N := r.N) lk hcd S (fun vs H Q E hsp => hsp.1) (fun A outer s H vs Q E hr hsp => ?_)
  · obtain ⟨hl, m, I, st, xs, S0, rx, hrn⟩ := hsp
    refine ⟨_, (chkSs P.gl P.er r.N r.scope r.df.body r.body).2 h4 (callD P n j) n k (fun cls d _ H' => E cls d H') _ hk ⟨⟨rfl, S.nd, fun x kd q => .inl q, fun x q => rfl, rfl, hr, fx, takes_of rfl rfl rfl rfl⟩, passes_of rfl, rfl, rfl, S.kind, rfl⟩ er, m, I, xs.map some ++ List.replicate (r.df.ns - r.df.ps) none, st, S0, ?_, ?_⟩
    · have hx : xs.length = r.df.ps := by rw [rx.length, hl, h3a]
      have hle : r.df.ps ≤ r.N.length := by
        rw [h3a]
        have := congrArg List.length S.pre
        rw [List.length_take] at this
        omega
      rw [h3b]
      exact start_env rx hx hle
    · have hx : xs.length = r.df.ps := by rw [rx.length, hl, h3a]
      have e : callD P n (j + 1) r.key xs st = (match denSs P.gl (callD P n j) n P.er r.df.body (xs.map some ++ List.replicate (r.df.ns - r.df.ps) none) st with
        | .nx _ s' => gcR st .non s'
        | .rt v s' => gcR st v s'
        | .ex c p _ s' => .ex c p s'
        | .bad => .bad) := by
        show (match P.fn r.key with
          | some d => if xs.length = d.ps then (match denSs P.gl (callD P n j) n P.er d.body (xs.map some ++ List.replicate (d.ns - d.ps) none) st with
            | .nx _ s' => gcR st .non s'
            | .rt v s' => gcR st v s'
            | .ex c p _ s' => .ex c p s'
            | .bad => .bad) else .bad
          | none => .bad) = _
        rw [hP]
        simp only [hx, if_true]
      rw [e] at hrn
      revert hrn
      cases denSs P.gl (callD P n j) n P.er r.df.body (xs.map some ++ List.replicate (r.df.ns - r.df.ps) none) st with
      | nx e' s' => exact fun hrn m' I' H' σ' ex S' _ => gcR_run S0 hrn m' I' H' _ ex S' .non
      | rt v s' => exact fun hrn m' I' H' u ex S' ru => gcR_run S0 hrn m' I' H' u ex S' ru
      | ex x p e' s' => exact fun hrn m' I' H' C d σ' ex S' _ xr => hrn m' I' H' C d ex S' xr
      | bad => exact fun hrn => hrn
theorem row_fn {P : Pg} {n j k : Nat} {r : Row} {c : Cn} {base : Heap} {f : Addr} {oc : Value} {od : Option Addr} {osl : Array (Option Value)} {kV doc pm cdv ct : Value} {an : Option Addr} (hk : ∀ x, P.gl.kd x = none) (h : r.ok P.gl P.er = true) (hP : P.fn r.key = some r.df)
    (fx : FxOk c base k P.gl (callD P n j)) (er : ErOk c base k P.er) (lk : c.K.lookup f = some ⟨oc, od, .func (PySem.W.fnOf r.name r.qual ⟨[], r.args, none, [], [], none, []⟩ r.body r.scope .none kV doc pm an cdv ct), osl⟩) (hcd : PySem.W.codeIn c.K cdv r.qual = true) (kp : PySem.W.keepIn c.K (.ref f) = true) :
    CallOk c base (k + 2) (callD P n (j + 1) r.key) f := by
  obtain ⟨h1, h2, h3, h4⟩ := an4 h
  obtain ⟨h3a, h3b⟩ := dc h3
  refine ⟨_, r.ps, row_fnok hk h hP fx er lk hcd kp, .all fun us hl => bind_plain (dc h2) hl, kp, fun xs s hx => ?_⟩
  · by_cases q : xs.length = r.df.ps
    · rw [q, h3a]
    · exfalso
      refine hx ?_
      show (match P.fn r.key with
          | some d => if xs.length = d.ps then (match denSs P.gl (callD P n j) n P.er d.body (xs.map some ++ List.replicate (d.ns - d.ps) none) s with
            | .nx _ s' => gcR s .non s'
            | .rt v s' => gcR s v s'
            | .ex c p _ s' => .ex c p s'
            | .bad => .bad) else .bad
          | none => .bad) = .bad
      rw [hP]
      simp only [q, if_false]
end D
end

section
set_option maxRecDepth 100000
set_option maxHeartbeats 2000000
/-! D1y: the head's facts, and all defs at once. -/
namespace D
open PySem PySem.Spec PyProof.Rows L2
/-! ### a part of the heap, without its lists -/
def isLst (o : Obj) : Bool := match o.cls with
  | .type t => decide (t = "list")
  | _ => false
def frN (g : Addr → Option Obj) (as : List Addr) : PySem.W.Frag := as.filterMap fun a => match g a with
  | some o => if isLst o then none else some (a, o)
  | none => none
theorem frN_at {g : Addr → Option Obj} {a : Addr} {o : Obj} : ∀ as : List Addr, (frN g as).lookup a = some o → g a = some o ∧ isLst o = false
  | [], e => nomatch (show (none : Option Obj) = some o from e)
  | b :: r, e => by
    unfold frN at e
    rw [List.filterMap_cons] at e
    cases hb : g b with
    | none =>
      rw [hb] at e
      exact frN_at r e
    | some ob =>
      rw [hb] at e
      cases hl : isLst ob with
      | true =>
        simp only [hl, if_true] at e
        exact frN_at r e
      | false =>
        simp only [hl, Bool.false_eq_true, if_false] at e
        have e2 : (match a == b with | true => some ob | false => (frN g r).lookup a) = some o := e
        cases q : (a == b) with
        | true =>
          rw [q] at e2
          have eo : ob = o := Option.some.inj e2
          rw [beq_iff_eq.mp q, hb, ← eo]
          exact ⟨rfl, hl⟩
        | false =>
          rw [q] at e2
          exact frN_at r e2
def NoL (K : PySem.W.Frag) : Prop := ∀ a o, K.lookup a = some o → isLst o = false
/-! ### the table of a law -/
structure Tab where
  rows : List Row
  xrows : List (Str × Str × Row)
  con : List (Str × L)
  fl : List (Str × Str)
  er : Er
def Tab.gl (T : Tab) : Glb := ⟨fun x => T.con.lookup x, fun _ => none, fun k f => decide ((k, f) ∈ T.fl), fun k => T.rows.any fun r => decide (r.key = k)⟩
def Tab.pg (T : Tab) : Pg := ⟨T.gl, T.er, fun k => (T.rows.find? fun r => decide (r.key = k)).map (·.df)⟩
def Row.fnd (r : Row) : He.FnD := ⟨r.key, r.name, r.qual, ⟨[], r.args, none, [], [], none, []⟩, r.body, r.scope⟩
mutual
/-- a constant of the module -/
def conB (K : PySem.W.Frag) : L → Value → Bool
  | .non, .none => true
  | .bl b, .bool c => decide (b = c)
  | .int i, .int j _ => decide (i = j)
  | .str y, .str z _ => decide (y = z)
  | .tup xs, .ref a => (match K.lookup a with
    | some ⟨.type t, _, .seq its _, _⟩ => decide (t = "tuple") && decide (its.size ≤ sizeLine) && consB K xs its.toList
    | _ => false)
  | _, _ => false
def consB (K : PySem.W.Frag) : List L → List Value → Bool
  | [], [] => true
  | x :: xs, v :: vs => conB K x v && consB K xs vs
  | _, _ => false
end
mutual
theorem conB_ok {c : Cn} : ∀ {x : L} {v : Value}, conB c.K x v = true → ∃ w, RelV w v ∧ ∀ m I, Rep c m I x w
  | .non, .none, _ => ⟨.non, rfl, fun _ _ => .non⟩
  | .bl b, .bool cc, h => ⟨.bl b, by have e := of_decide_eq_true (show decide (b = cc) = true from h); subst e; rfl, fun _ _ => .bl b⟩
  | .int i, .int j t, h => ⟨.int i, by have e := of_decide_eq_true (show decide (i = j) = true from h); subst e; exact ⟨t, rfl⟩, fun _ _ => .int i⟩
  | .str y, .str z t, h => ⟨.str y, by have e := of_decide_eq_true (show decide (y = z) = true from h); subst e; exact ⟨t, rfl⟩, fun _ _ => .str y⟩
  | .tup xs, .ref a, h => by
    have h' : (match c.K.lookup a with
      | some ⟨.type t, _, .seq its _, _⟩ => decide (t = "tuple") && decide (its.size ≤ sizeLine) && consB c.K xs its.toList
      | _ => false) = true := h
    split at h'
    · rename_i t dd its nn sl e
      obtain ⟨h1, h2, h3⟩ := an3 h'
      have e1 := dc h1
      subst e1
      obtain ⟨ws, r, hr⟩ := consB_ok h3
      exact ⟨.ref a, rfl, fun m I => .tup (.inr ⟨_, its, nn, e, rfl, rfl, dc h2, r⟩) (hr m I)⟩
    · cases h'
  | .loc _, _, h => by cases h
  | .fn _, _, h => by cases h
  | .non, .bool _, h => by cases h
theorem consB_ok {c : Cn} : ∀ {xs : List L} {vs : List Value}, consB c.K xs vs = true → ∃ ws, Vals ws vs ∧ ∀ m I, Reps c m I xs ws
  | [], [], _ => ⟨[], .nil, fun _ _ => .nil⟩
  | x :: xs, v :: vs, h => by
    obtain ⟨h1, h2⟩ := an2 (show (conB c.K x v && consB c.K xs vs) = true from h)
    obtain ⟨w, a, b⟩ := conB_ok h1
    obtain ⟨ws, r, hr⟩ := consB_ok h2
    exact ⟨w :: ws, .cons a r, fun m I => .cons (b m I) (hr m I)⟩
end
end D
end

section
set_option maxRecDepth 100000
set_option maxHeartbeats 2000000
/-! D1z: all defs of a law keep what callD says; the hook; the end. -/
namespace D
open PySem PySem.Spec PyProof.Rows L2
/-! ### own errors -/
def oexB (K : PySem.W.Frag) (C : Addr) : Bool := (match K.lookup C with
  | some ⟨.type t, _, .cls ⟨nm, bs, mro, ns, qn, hd, sn, sub, ab, col, del⟩, sl⟩ => (match mro, sl.toList with
    | .ref C' :: bm, [_, _, _, _, some (.builtin n), _] => decide (t = "type") && decide (C' = C) && decide (n = "ValueError.__new__") && !del && hd && PySem.HandSPX.refsVE bm
    | _, _ => false)
  | _ => false) && He.eqO (PySem.W.findIn K (.ref C) "__setattr__") (some (some (.builtin "object.__setattr__"))) && decide (PySem.W.subIn K (.ref C) (.type "BaseException") = some true) && decide (PySem.W.typeIn K (.ref C) = some (.type "type")) && PySem.W.keepIn K (.ref C)
theorem oexB_ok {K : PySem.W.Frag} {C : Addr} (h : oexB K C = true) : OexC K C := by
  obtain ⟨h1, h2, h3, h4, h5⟩ := an5 h
  refine ⟨?_, He.eqO_ok h2, dc h3, dc h4, h5⟩
  split at h1
  · rename_i t dd nm bs mro ns qn hd sn sub ab col del sl ho
    split at h1
    · rename_i C' bm k0 k1 k2 k3 n k5 hs
      obtain ⟨i1, i2, i3, i4, i5, i6⟩ := an6 h1
      have e1 := dc i1
      subst e1
      have e2 := dc i2
      subst e2
      have e3 := dc i3
      subst e3
      have e4 := nt i4
      subst e4
      subst i5
      have hsl : sl = #[k0, k1, k2, k3, some (.builtin "ValueError.__new__"), k5] := by
        obtain ⟨l⟩ := sl
        simp only at hs
        rw [hs]
      subst hsl
      exact ⟨nm, qn, ns, bs, bm, sn, sub, ab, col, dd, k0, k1, k2, k3, k5, ho, i6⟩
    · cases h1
  · cases h1
/-- def __init__(self, x): self.f = x -/
def xbodyB (f : Str) (N : List Str) (sc : Scope) (ps : List Str) : List Stmt → Bool
  | [.Assign [.Attribute (.Name s _) g _] (.Name p _) _] => decide (g = f) && decide (ps = [s, p]) && decide (N = [s, p]) && (nmB s && nmB p) && (visB sc s && visB sc p)
  | _ => false
theorem vis_self {sc : Scope} {x : Str} (v : visB sc x = true) : Vis sc x := by
  unfold visB at v
  cases e : sc.names.lookup x with
  | none => rw [e] at v; cases v
  | some kd =>
    rw [e] at v
    cases kd with
    | «local» => exact .inl e
    | cell => exact .inr (.inl e)
    | free => exact .inr (.inr e)
    | _ => cases v
theorem xrow_fn {r : Row} {f : Str} {c : Cn} {base : Heap} {fa : Addr} {oc : Value} {od : Option Addr} {osl : Array (Option Value)} {kV doc pm cdv ct : Value} {an : Option Addr} (h1 : scopeB r.N r.ps r.scope = true) (h3 : xbodyB f r.N r.scope r.ps r.body = true)
    (lk : c.K.lookup fa = some ⟨oc, od, .func (PySem.W.fnOf r.name r.qual ⟨[], r.args, none, [], [], none, []⟩ r.body r.scope .none kV doc pm an cdv ct), osl⟩) (hcd : PySem.W.codeIn c.K cdv r.qual = true) :
    FnOk c.P c.w c.K c.mg base (L2.CX c.P c.w) 1 fa (PySem.W.fnOf r.name r.qual ⟨[], r.args, none, [], [], none, []⟩ r.body r.scope .none kV doc pm an cdv ct) r.ps (spX c.K f) := by
  have S := scopeB_ok h1
  revert h3
  generalize hb : r.body = body
  intro h3
  unfold xbodyB at h3
  split at h3
  · rename_i s p1 g p2 p p3 p4
    obtain ⟨i1, i2, i3, i4, i5⟩ := an5 h3
    have e1 := dc i1
    subst e1
    have e2 := dc i2
    have e3 := dc i3
    rw [hb] at lk
    refine fn_of (N := r.N) lk hcd S (fun vs H Q E ⟨a, C, v, ev, _⟩ => by rw [ev, e2]; rfl) (fun A outer st H vs Q E hr hsp => ?_)
    obtain ⟨a, C, v, ev, ha, T, hno, q⟩ := hsp
    subst ev
    refine ⟨_, pss_one (ps_ost (pe_var (i := 0) (by show r.N[0]? = some s; rw [e3]; rfl) (vis_self (an2 i5).1) (nmB_d (an2 i4).1).1 (nmB_d (an2 i4).1).2.1) (pe_var (i := 1) (by show r.N[1]? = some p; rw [e3]; rfl) (vis_self (an2 i5).2) (nmB_d (an2 i4).2).1 (nmB_d (an2 i4).2).2.1) (by rfl)), ?_⟩
    refine ⟨v, by rw [e3]; rfl, .ref a, by rw [e3]; rfl, a, C, rfl, T, hno, .inl ⟨ha, fun dx hd hne => q dx hd hne⟩⟩
  · cases h3
/-! ### facts -/
def clsB (K : PySem.W.Frag) (x : Str) : Bool := (He.Fa.glo x).ok K && (He.Fa.cls x).ok K && He.eqO (PySem.W.findIn K (.ref (He.ga K x)) "__class__") (some (some (.builtin "object.__class__"))) && He.eqO (PySem.W.specialIn K (.builtin "object.__class__") "__get__") (some (some (.builtin "getset_descriptor.__get__"))) &&
  decide (PySem.W.takesIn K (.builtin "object.__class__") = some true) && decide (PySem.W.mroIn K (He.ga K x) (.type "object") = some true)
theorem clsB_ok {c : Cn} {h : Heap} (X : c.K.In h) (N : h.Ns mainGlobals c.mg) {x : Str} (hb : clsB c.K x = true) : ClsOk c x (He.ga c.K x) := by
  obtain ⟨h1, h2, h3, h4, h5, h6⟩ := an6 hb
  exact ⟨He.glo_ok X N h1, He.cls_ok h2, fun H a dx fs e => .ins e (He.cls_ok h2) (He.eqO_ok h3) (He.eqO_ok h4) (dc h5) (dc h6)⟩
def rowB (K : PySem.W.Frag) (r : Row) : Bool := (He.Fa.code r.key r.qual).ok K && PySem.W.keepIn K (.ref (He.fAd K r.key)) && (match r.key with
  | (x, none) => (He.Fa.glo x).ok K
  | (x, some m) => clsB K x && (He.Fa.meth x m).ok K && (!decide (m = "__init__") || (He.Fa.mkr x).ok K))
def xrowB (K : PySem.W.Frag) (p : Str × Str × Row) : Bool := (He.Fa.glo p.1).ok K && oexB K (He.ga K p.1) && xfB K (He.ga K p.1) && (He.Fa.noat p.1 p.2.1).ok K && (He.eqO (PySem.W.findIn K (.ref (He.ga K p.1)) "__init__") (some (some (.ref (He.ma K (He.ga K p.1) "__init__")))) && decide (PySem.W.typeIn K (.ref (He.ma K (He.ga K p.1) "__init__")) = some (.type "function"))) &&
  ((He.Fa.code p.2.2.key p.2.2.qual).ok K && decide (p.2.2.key = ((p.1, some "__init__") : FK))) && (scopeB p.2.2.N p.2.2.ps p.2.2.scope && decide p.2.2.ps.Nodup && xbodyB p.2.1 p.2.2.N p.2.2.scope p.2.2.ps p.2.2.body)
def cnB (K : PySem.W.Frag) (p : Str × L) : Bool := match PySem.W.nsIn K mainGlobals p.1 with
  | some (some u) => conB K p.2 u
  | _ => false
def factsB (T : Tab) (K : PySem.W.Frag) : Bool := T.rows.all (rowB K) && T.xrows.all (xrowB K) && T.con.all (cnB K) && (T.fl.all fun p => clsB K p.1 && (He.Fa.noat p.1 p.2).ok K) && (bNames.all fun x => (He.Fa.free x).ok K) &&
  (T.er.subT.all fun p => (He.Fa.glo p.1.1).ok K && (He.Fa.glo p.1.2).ok K && (He.Fa.exm p.1.1 p.1.2 p.2).ok K) && (T.er.fldT.all fun p => match p.2 with
    | none => true
    | some f => T.xrows.any fun q => decide (q.1 = p.1) && decide (q.2.1 = f))
def Tab.fns (T : Tab) : List He.FnD := T.rows.map Row.fnd ++ T.xrows.map fun p => p.2.2.fnd
structure SaysT (T : Tab) (K : PySem.W.Frag) : Prop where
  fb : factsB T K = true
  fn : T.fns.map (fun d => He.fnObs K d.at_) = T.fns.map He.FnD.val
  nl : NoL K
theorem SaysT.at_ {T : Tab} {K : PySem.W.Frag} (h : SaysT T K) {d : He.FnD} (hd : d ∈ T.fns) : He.fnObs K d.at_ = d.val := by
  obtain ⟨i, hi⟩ := List.getElem?_of_mem hd
  have e : (T.fns.map fun d => He.fnObs K d.at_)[i]? = (T.fns.map He.FnD.val)[i]? := by rw [h.fn]
  rw [List.getElem?_map, List.getElem?_map, hi] at e
  exact Option.some.inj e
theorem fxOk {T : Tab} {c : Cn} {h : Heap} (says : SaysT T c.K) (X : c.K.In h) (Ns : h.Ns mainGlobals c.mg) (hrow : T.rows.all (fun r => r.ok T.gl T.er) = true) (n : Nat) (base : Heap) : ∀ j, FxOk c base (2 * j + 2) T.gl (callD T.pg n j) ∧ ErOk c base (2 * j + 2) T.er := by
  obtain ⟨f1, f2, f3, f4, f5, f6, f7⟩ := an7 says.fb
  have er : ∀ j, ErOk c base (2 * j + 2) T.er := fun j => by
    refine ⟨fun x y b q => ?_, fun x f q => ?_⟩
    · have hm := List.all_eq_true.mp f6 _ (lookup_memB (show T.er.subT.lookup (x, y) = some b from q))
      obtain ⟨g1, g2, g3⟩ := an3 hm
      exact ⟨_, _, He.glo_ok X Ns g1, He.glo_ok X Ns g2, He.exm_ok g3⟩
    · have hm := List.all_eq_true.mp f7 _ (lookup_memB (show T.er.fldT.lookup x = some (some f) from q))
      obtain ⟨p, hp, hq⟩ := List.any_eq_true.mp hm
      obtain ⟨x', f', r⟩ := p
      have e1 : x' = x := dc (an2 hq).1
      have e2 : f' = f := dc (an2 hq).2
      subst e1 e2
      have hx := List.all_eq_true.mp f2 _ hp
      obtain ⟨g1, g2, g3, g4, g5, g6, g7⟩ := an7 hx
      have hk : r.key = ((x', some "__init__") : FK) := dc (an2 g6).2
      have hfn := says.at_ (d := r.fnd) (List.mem_append_right _ (List.mem_map.mpr ⟨_, hp, rfl⟩))
      obtain ⟨oc, od, osl, kV, doc, pm, an, cdv, ct, lk, hcd⟩ := He.fn_ok hfn (an2 g6).1
      have ea : He.fAd c.K r.fnd.at_ = He.ma c.K (He.ga c.K x') "__init__" := by
        show He.fAd c.K r.key = _
        rw [hk]
        rfl
      rw [ea] at lk
      exact ⟨_, _, _, r.ps, He.glo_ok X Ns g1, oexB_ok g2, xfB_ok g3, He.noat_ok g4, He.eqO_ok (an2 g5).1, dc (an2 g5).2, (xrow_fn (an3 g7).1 (an3 g7).2.2 lk hcd).mono (by omega), .all fun us hl => bind_plain (dc (an3 g7).2.1) hl⟩
  have cs : ∀ x f, T.gl.fl x f = true → ∃ C, ClsOk c x C ∧ NoAttr c.K C f := fun x f q => by
    have hm := List.all_eq_true.mp f4 _ (dc q)
    exact ⟨_, clsB_ok X Ns (an2 hm).1, He.noat_ok (an2 hm).2⟩
  have cn : ∀ x v, T.gl.con x = some v → ∃ u w, c.mg x = some u ∧ RelV w u ∧ ∀ m I, Rep c m I v w := fun x v q => by
    have hm := List.all_eq_true.mp f3 _ (lookup_memB (show T.con.lookup x = some v from q))
    have hm' : (match PySem.W.nsIn c.K mainGlobals x with
      | some (some u) => conB c.K v u
      | _ => false) = true := hm
    split at hm'
    · rename_i u e
      obtain ⟨w, a, b⟩ := conB_ok hm'
      exact ⟨u, w, PySem.W.mg_of X Ns e, a, b⟩
    · cases hm'
  have bn : ∀ x ∈ bNames, c.mg x = none := fun x hx => He.free_ok X Ns (List.all_eq_true.mp f5 x hx)
  have row : ∀ k, T.gl.has k = true → ∃ r, r ∈ T.rows ∧ r.key = k ∧ T.pg.fn k = some r.df := fun k q => by
    obtain ⟨r0, h0, e0⟩ := List.any_eq_true.mp q
    cases e : T.rows.find? fun r => decide (r.key = k) with
    | none => exact absurd e0 (by simpa using List.find?_eq_none.mp e r0 h0)
    | some r => exact ⟨r, List.mem_of_find?_eq_some e, by simpa using List.find?_some e, by show (T.rows.find? fun r => decide (r.key = k)).map (·.df) = _; rw [e]; rfl⟩
  have call : ∀ j (fx : FxOk c base (2 * j + 2) T.gl (callD T.pg n j)) k, T.gl.has k = true → CallOk c base (2 * (j + 1) + 2) (callD T.pg n (j + 1) k) (He.fAd c.K k) := fun j fx k q => by
    obtain ⟨r, hr, hk, hP⟩ := row k q
    subst hk
    have hb := List.all_eq_true.mp f1 r hr
    obtain ⟨g1, g2, g3⟩ := an3 hb
    obtain ⟨oc, od, osl, kV, doc, pm, an, cdv, ct, lk, hcd⟩ := He.fn_ok (says.at_ (d := r.fnd) (List.mem_append_left _ (List.mem_map.mpr ⟨_, hr, rfl⟩))) g1
    exact row_fn (P := T.pg) (fun _ => rfl) (List.all_eq_true.mp hrow r hr) hP fx (er j) lk hcd g2
  have nofn : ∀ k a, CallOk c base 2 (callD T.pg n 0 k) a → True := fun _ _ _ => trivial
  have fld : ∀ j, (∀ k, T.gl.has k = true → CallOk c base (2 * j + 2) (callD T.pg n j k) (He.fAd c.K k)) → FxOk c base (2 * j + 2) T.gl (callD T.pg n j) := fun j hc => by
    refine ⟨fun x q => ?_, fun x f q => ?_, fun x q => ?_, cs, cn, bn⟩
    · obtain ⟨r, hr, hk, _⟩ := row _ q
      have hb := List.all_eq_true.mp f1 r hr
      obtain ⟨_, _, g3⟩ := an3 hb
      rw [hk] at g3
      exact ⟨_, He.glo_ok X Ns g3, hc _ q⟩
    · obtain ⟨r, hr, hk, _⟩ := row _ q
      have hb := List.all_eq_true.mp f1 r hr
      obtain ⟨_, _, g3⟩ := an3 hb
      rw [hk] at g3
      obtain ⟨i1, i2, _⟩ := an3 g3
      exact ⟨_, _, clsB_ok X Ns i1, He.meth_ok i2, hc _ q⟩
    · obtain ⟨r, hr, hk, _⟩ := row _ q
      have hb := List.all_eq_true.mp f1 r hr
      obtain ⟨_, _, g3⟩ := an3 hb
      rw [hk] at g3
      obtain ⟨i1, i2, i3⟩ := an3 g3
      have i4 : (He.Fa.mkr x).ok c.K = true := by simpa using i3
      exact ⟨_, _, clsB_ok X Ns i1, He.mkr_ok i4, hc _ q⟩
  intro j
  induction j with
  | zero =>
    refine ⟨fld 0 fun k q => ?_, er 0⟩
    obtain ⟨r, hr, hk, hP⟩ := row k q
    subst hk
    have hb := List.all_eq_true.mp f1 r hr
    obtain ⟨g1, g2, g3⟩ := an3 hb
    obtain ⟨hr1, hr2, hr3, hr4⟩ := an4 (List.all_eq_true.mp hrow r hr)
    obtain ⟨oc, od, osl, kV, doc, pm, an, cdv, ct, lk, hcd⟩ := He.fn_ok (says.at_ (d := r.fnd) (List.mem_append_left _ (List.mem_map.mpr ⟨_, hr, rfl⟩))) g1
    exact ⟨PySem.W.fnOf r.name r.qual ⟨[], r.args, none, [], [], none, []⟩ r.body r.scope .none kV doc pm an cdv ct, r.ps, ⟨fun vs H Q E hsp => hsp.1, fun A outer s H args us vs Q E hr e0 hb rv ⟨_, _, _, _, _, _, _, hn⟩ => hn.elim⟩, .all fun us hl => bind_plain (dc hr2) hl, g2, fun xs s hx => (hx rfl).elim⟩
  | succ j ih => exact ⟨fld (j + 1) (call j ih.1), er (j + 1)⟩
/-! ### the hook -/
abbrev AlT : Type := Bool × List He.FnV
def obsT (T : Tab) (K : PySem.W.Frag) : AlT := (factsB T K, T.fns.map fun d => He.fnObs K d.at_)
def valT (T : Tab) : AlT := (true, T.fns.map He.FnD.val)
def obsTG (T : Tab) (n : Nat) (g : Addr → Option Obj) : AlT := obsT T (frN g (He.asG g n))
def hookT (T : Tab) (n : Nat) : PySem.W.Hook where
  α := AlT
  obs := fun s => obsTG T n s.heap.get?
  val := fun _ => valT T
  says := fun _ h => ∃ K : PySem.W.Frag, K.In h ∧ SaysT T K
  of := fun _ s e => ⟨_, fun _ _ e => (frN_at _ e).1, ⟨congrArg (fun z : AlT => z.1) e, congrArg (fun z : AlT => z.2) e, fun _ _ e => (frN_at _ e).2⟩⟩
  keeps := fun _ _ _ ⟨K, hK, c⟩ k => ⟨K, PySem.W.Frag.In.keeps hK k, c⟩
theorem obsTG_eq {T : Tab} {n : Nat} {g : Addr → Option Obj} {s : Shared} (h : ∀ a, g a = s.heap.get? a) : obsTG T n g = (hookT T n).obs s := by
  have e : g = s.heap.get? := funext h
  rw [e] <;> rfl
/-- the script's list -/
theorem scr_rd {K : PySem.W.Frag} {H : Hp} {a : Addr} {xs : List V} (nl : NoL K) (h : SqL K H a xs) : Rd H a (.lst xs) := by
  rcases h with h | ⟨o, its, n, e, hc, _⟩
  · exact h
  · have := nl a o e
    unfold isLst at this
    rw [hc] at this
    cases this
/-- what is left of a law: its own def answers True at every script -/
theorem law_def {T : Tab} {P : Program} {w : World} {K : PySem.W.Frag} {mg : Str → Option Value} {h : Heap} {fa : Addr} {N j n : Nat} {x : Str} (says : SaysT T K) (X : K.In h) (Ns : h.Ns mainGlobals mg) (hrow : T.rows.all (fun r => r.ok T.gl T.er) = true) (hfa : mg "law" = some (.ref fa)) {r : Row} (hr : T.rows.find? (fun r => decide (r.key = (("law", none) : FK))) = some r)
    (hps : r.ps = [x]) (hmain : ∀ ns : List Int, ns.length ≤ n → ∃ s', callD T.pg N (j + 1) ("law", none) [.loc 0] [.scr ns] = .ok (.bl true) s') :
    ∃ (fd : FuncData) (sp : Sp), (∀ (s : Shared) (u : Value), BindsTo s fd ⟨[u], []⟩ [(x, u)]) ∧ (∀ (H : Hp) (a : Addr) (ns : List Int), ns.length ≤ n → True → SqL K H a (ns.map V.int) → sp [.ref a] H (fun v _ => v = .bl true) fun _ _ _ => False) ∧
      ∀ base : Heap, K.In base → base.Ns mainGlobals mg → FnOk P w K mg base (L2.CX P w) (2 * j + 2 + 2) fa fd [x] sp := by
  have hm := List.mem_of_find?_eq_some hr
  have hk : r.key = (("law", none) : FK) := by simpa using List.find?_some hr
  obtain ⟨f1, _⟩ := an7 says.fb
  obtain ⟨g1, g2, g3⟩ := an3 (List.all_eq_true.mp f1 r hm)
  obtain ⟨hr1, hr2, hr3, hr4⟩ := an4 (List.all_eq_true.mp hrow r hm)
  obtain ⟨oc, od, osl, kV, doc, pm, an, cdv, ct, lk, hcd⟩ := He.fn_ok (says.at_ (d := r.fnd) (List.mem_append_left _ (List.mem_map.mpr ⟨_, hm, rfl⟩))) g1
  rw [hk] at g3
  have e1 := hfa.symm.trans (He.glo_ok X Ns g3)
  have e2 : fa = He.fAd K r.fnd.at_ := by
    show fa = He.fAd K r.key
    rw [hk]
    cases e1
    rfl
  rw [← e2] at lk
  have hP : T.pg.fn r.key = some r.df := by
    show (T.rows.find? fun r' => decide (r'.key = r.key)).map (·.df) = _
    rw [hk, hr]
    rfl
  have kp : PySem.W.keepIn K (.ref fa) = true := by
    rw [e2]
    exact g2
  refine ⟨PySem.W.fnOf r.name r.qual ⟨[], r.args, none, [], [], none, []⟩ r.body r.scope .none kV doc pm an cdv ct, spD ⟨P, w, K, mg⟩ r.ps.length (callD T.pg N (j + 1) r.key), fun s u => ?_, fun H a ns hl _ hS => ⟨by rw [hps]; rfl, [a], fun _ => none, [.scr ns], [.loc 0], ?_, .cons (.loc rfl) .nil, ?_⟩, fun base hb hN => ?_⟩
  · have b := bind_plain (nm := r.name) (q := r.qual) (body := r.body) (sc := r.scope) (kV := kV) (doc := doc) (pm := pm) (cdv := cdv) (ct := ct) (an := an) (us := [u]) (dc hr2) (by show [u].length = r.ps.length; rw [hps]; rfl)
    have e3 : (r.args.map (·.arg)).zip [u] = [(x, u)] := by
      show r.ps.zip [u] = _
      rw [hps]
      rfl
    rw [e3] at b
    exact .of_eq b
  · refine ⟨rfl, by simp, fun _ _ => rfl, fun i b o h1 h2 => ?_, fun b o e => nomatch e⟩
    cases i with
    | zero =>
      cases h1
      cases h2
      exact scr_rd says.nl hS
    | succ i => cases h1
  · obtain ⟨s', e⟩ := hmain ns hl
    rw [hk, e]
    intro m' I' H' _ _ u ru
    cases ru
    rfl
  · have fx := (fxOk (c := ⟨P, w, K, mg⟩) (T := T) says hb hN hrow N base j)
    have key := row_fnok (c := ⟨P, w, K, mg⟩) (P := T.pg) (fun _ => rfl) (List.all_eq_true.mp hrow r hm) hP fx.1 fx.2 lk hcd kp
    rw [hps] at key
    rw [hps]
    exact key
end D
end

section
set_option maxRecDepth 100000
/-! DL: defs that several laws share, printed by genlib.py. -/
namespace DL
open PySem D
def words : List Str := [("again" : Str), ("late" : Str), ("beyond" : Str), ("back" : Str), ("over" : Str), ("renewing" : Str), ("lowering" : Str), ("spent" : Str), ("done" : Str), ("once" : Str), ("refused" : Str), ("agreed" : Str), ("taken" : Str), ("cut" : Str), ("opens" : Str), ("stays" : Str), ("given" : Str), ("full" : Str), ("rest" : Str), ("hold" : Str), ("word" : Str), ("send" : Str), ("come" : Str), ("tick" : Str), ("release" : Str), ("renew" : Str), ("raise" : Str), ("give" : Str), ("take" : Str), ("lower" : Str), ("held" : Str), ("age" : Str), ("mail" : Str), ("more" : Str), ("twice" : Str), ("never" : Str), ("owed" : Str), ("outlives" : Str), ("open" : Str), ("do" : Str), ("a" : Str), ("" : Str), ("abcdefghijklmnopqrstuvwxyz" : Str), ("0123456789" : Str), ("yes" : Str), ("no" : Str), (" " : Str), ("\n" : Str), ("rule" : Str), ("b" : Str), ("none" : Str), ("e" : Str), ("f" : Str), ("abcdefgh" : Str), ("z" : Str), ("spoilt" : Str), ("1" : Str), ("life" : Str), ("holds" : Str), ("totals" : Str), ("rows" : Str), ("keep" : Str), ("gone" : Str), ("MORE" : Str), ("Taken" : Str), ("A" : Str), ("aa" : Str), ("Rule" : Str), ("1x" : Str)]
def wd (i : Nat) : Str := words.getD i ""
/-- Rule.__eq__: 0 self, 1 other -/
def d_Rule___eq__ : Def := ⟨2, 2, (.cons (.ret (.and (.isi (.var 1) (.own "Rule")) (.eq (.meth "parts" (.var 0) .nil) (.meth "parts" (.var 1) .nil))))
    .nil)⟩
/-- Rule.__init__: 0 self, 1 again, 2 late, 3 beyond, 4 back, 5 over, 6 renewing, 7 lowering, 8 spent, 9 row, 10 part, 11 value, 12 some -/
def d_Rule___init__ : Def := ⟨9, 13, (.cons (.asg 9 (.tup (.cons (.var 1) (.cons (.var 2) (.cons (.var 3) (.cons (.var 4) (.cons (.var 5) (.cons (.var 6) (.cons (.var 7) (.cons (.var 8) .nil))))))))))
    (.cons (.fr (.tp [10, 11, 12]) (.zip3 (.glb "PARTS") (.var 9) (.glb "VALUES")) (.cons (.ife (.not (.call "is_value" (.cons (.var 11) (.cons (.var 12) .nil)))) (.cons (.rse "BadRule" (.cons (.var 10) .nil))
    .nil) .nil)
    .nil))
    (.cons (.fset (.var 0) (wd 0) (.var 1))
    (.cons (.fset (.var 0) (wd 1) (.var 2))
    (.cons (.fset (.var 0) (wd 2) (.var 3))
    (.cons (.fset (.var 0) (wd 3) (.var 4))
    (.cons (.fset (.var 0) (wd 4) (.var 5))
    (.cons (.fset (.var 0) (wd 5) (.var 6))
    (.cons (.fset (.var 0) (wd 6) (.var 7))
    (.cons (.fset (.var 0) (wd 7) (.var 8))
    .nil))))))))))⟩
/-- Rule.parts: 0 self, 1 first -/
def d_Rule_parts : Def := ⟨1, 2, (.cons (.asg 1 (.tup (.cons (.fld (.var 0) (wd 0)) (.cons (.fld (.var 0) (wd 1)) (.cons (.fld (.var 0) (wd 2)) (.cons (.fld (.var 0) (wd 3)) .nil))))))
    (.cons (.ret (.add (.var 1) (.tup (.cons (.fld (.var 0) (wd 4)) (.cons (.fld (.var 0) (wd 5)) (.cons (.fld (.var 0) (wd 6)) (.cons (.fld (.var 0) (wd 7)) .nil)))))))
    .nil))⟩
/-- Rule.turned: 0 self, 1 part, 2 value, 3 one, 4 before -/
def d_Rule_turned : Def := ⟨3, 5, (.cons (.ife (.or (.not (.isi (.var 1) .str)) (.nin (.var 1) (.glb "PARTS"))) (.cons (.rse "BadRule" (.cons (.var 1) .nil))
    .nil) .nil)
    (.cons (.ret (.call "rule_of" (.cons (.lc (.lc [3, 4] (.tp [3, 4]) (.zip2 (.glb "PARTS") (.meth "parts" (.var 0) .nil)) .non (.ite (.eq (.var 3) (.var 1)) (.var 2) (.var 4)))) .nil)))
    .nil))⟩
/-- Till.__eq__: 0 self, 1 other -/
def d_Till___eq__ : Def := ⟨2, 2, (.cons (.ife (.or (.not (.isi (.var 1) (.own "Till"))) (.or (.ne (.fld (.var 0) (wd 48)) (.fld (.var 1) (wd 48))) (.ne (.fld (.var 0) (wd 57)) (.fld (.var 1) (wd 57))))) (.cons (.ret (.cst (.bl false)))
    .nil) .nil)
    (.cons (.ret (.and (.eq (.bi .list (.cons (.fld (.var 0) (wd 58)) .nil)) (.bi .list (.cons (.fld (.var 1) (wd 58)) .nil))) (.eq (.fld (.var 0) (wd 58)) (.fld (.var 1) (wd 58)))))
    .nil))⟩
/-- Till.__init__: 0 self, 1 rule, 2 life -/
def d_Till___init__ : Def := ⟨3, 3, (.cons (.fset (.var 0) (wd 48) (.var 1))
    (.cons (.fset (.var 0) (wd 57) (.var 2))
    (.cons (.fset (.var 0) (wd 58) .dS0)
    (.cons (.fset (.var 0) (wd 59) (.tup (.cons (.cst (.int 0)) (.cons (.cst (.int 0)) (.cons (.cst (.int 0)) (.cons (.cst (.int 0)) .nil))))))
    (.cons (.fset (.var 0) (wd 60) (.lst .nil))
    .nil)))))⟩
/-- Till.__len__: 0 self -/
def d_Till___len__ : Def := ⟨1, 1, (.cons (.ret (.bi .len (.cons (.fld (.var 0) (wd 60)) .nil)))
    .nil)⟩
/-- Till.begin: 0 self, 1 name, 2 agreed -/
def d_Till_begin : Def := ⟨3, 3, (.cons (.ife (.or (.not (.isi (.var 1) .str)) (.or (.inn (.var 1) (.fld (.var 0) (wd 58))) (.not (.call "is_number" (.cons (.var 2) (.cons (.cst (.int 0)) .nil)))))) (.cons (.rse "BadHold" .nil)
    .nil) .nil)
    (.cons (.iset (.fld (.var 0) (wd 58)) (.var 1) (.call "start" (.cons (.var 2) .nil)))
    (.cons (.expr (.meth "count" (.var 0) (.cons (.idx (.fld (.var 0) (wd 58)) (.var 1)) (.cons (.cst (.int 1)) .nil))))
    (.cons (.expr (.bm .append (.fld (.var 0) (wd 60)) (.cons (.tup (.cons (.tup (.cons (.cst (.str (wd 38))) (.cons (.var 1) (.cons (.var 2) .nil)))) (.cons (.cst .non) .nil))) .nil)))
    .nil))))⟩
/-- Till.count: 0 self, 1 standing, 2 sign, 3 one, 4 two -/
def d_Till_count : Def := ⟨3, 5, (.cons (.fset (.var 0) (wd 59) (.bx .tuple (.lc [3, 4] (.tp [3, 4]) (.zip2 (.fld (.var 0) (wd 59)) (.slc (.var 1) .non (.som (.cst (.int 4))))) .non (.add (.var 3) (.mul (.var 2) (.var 4))))))
    .nil)⟩
/-- Till.do: 0 self, 1 name, 2 deed, 3 before, 4 after -/
def d_Till_do : Def := ⟨3, 5, (.cons (.asg 3 (.meth "standing" (.var 0) (.cons (.var 1) .nil)))
    (.cons (.ife (.not (.call "is_deed" (.cons (.var 2) .nil))) (.cons (.rse "BadDeed" .nil)
    .nil) .nil)
    (.cons (.asg 4 (.call "behind" (.cons (.fld (.var 0) (wd 48)) (.cons (.fld (.var 0) (wd 57)) (.cons (.var 3) (.cons (.var 2) .nil))))))
    (.cons (.ife (.isn (.var 4)) (.cons (.rse "Refused" (.cons (.var 2) .nil))
    .nil) .nil)
    (.cons (.expr (.meth "put" (.var 0) (.cons (.var 1) (.cons (.var 4) .nil))))
    (.cons (.expr (.bm .append (.fld (.var 0) (wd 60)) (.cons (.tup (.cons (.tup (.cons (.cst (.str (wd 39))) (.cons (.var 1) (.cons (.var 2) .nil)))) (.cons (.var 3) .nil))) .nil)))
    (.cons (.ret (.ite (.eq (.idx (.var 2) (.cst (.int 0))) (.cst (.str (wd 21)))) (.bi .len (.cons (.idx (.var 3) (.cst (.int 5))) .nil)) (.cst .non)))
    .nil)))))))⟩
/-- Till.log: 0 self, 1 row, 2 before -/
def d_Till_log : Def := ⟨1, 3, (.cons (.ret (.lc (.lc [1, 2] (.tp [1, 2]) (.val (.fld (.var 0) (wd 60))) .non (.var 1))))
    .nil)⟩
/-- Till.names: 0 self -/
def d_Till_names : Def := ⟨1, 1, (.cons (.ret (.bi .list (.cons (.fld (.var 0) (wd 58)) .nil)))
    .nil)⟩
/-- Till.put: 0 self, 1 name, 2 standing -/
def d_Till_put : Def := ⟨3, 3, (.cons (.expr (.meth "count" (.var 0) (.cons (.idx (.fld (.var 0) (wd 58)) (.var 1)) (.cons (.neg (.cst (.int 1))) .nil))))
    (.cons (.expr (.meth "count" (.var 0) (.cons (.var 2) (.cons (.cst (.int 1)) .nil))))
    (.cons (.iset (.fld (.var 0) (wd 58)) (.var 1) (.var 2))
    .nil)))⟩
/-- Till.standing: 0 self, 1 name -/
def d_Till_standing : Def := ⟨2, 2, (.cons (.ife (.or (.not (.isi (.var 1) .str)) (.nin (.var 1) (.fld (.var 0) (wd 58)))) (.cons (.rse "NoHold" (.cons (.var 1) .nil))
    .nil) .nil)
    (.cons (.ret (.idx (.fld (.var 0) (wd 58)) (.var 1)))
    .nil))⟩
/-- Till.sums: 0 self -/
def d_Till_sums : Def := ⟨1, 1, (.cons (.ret (.fld (.var 0) (wd 59)))
    .nil)⟩
/-- Till.undo: 0 self, 1 row, 2 before -/
def d_Till_undo : Def := ⟨1, 3, (.cons (.ife (.not (.fld (.var 0) (wd 60))) (.cons (.rse "NothingDone" .nil)
    .nil) .nil)
    (.cons (.asgT [1, 2] (.bm .pop0 (.fld (.var 0) (wd 60)) .nil))
    (.cons (.ife (.eq (.idx (.var 1) (.cst (.int 0))) (.cst (.str (wd 38)))) (.cons (.expr (.meth "count" (.var 0) (.cons (.idx (.fld (.var 0) (wd 58)) (.idx (.var 1) (.cst (.int 1)))) (.cons (.neg (.cst (.int 1))) .nil))))
    (.cons (.expr (.bm .popk (.fld (.var 0) (wd 58)) (.cons (.idx (.var 1) (.cst (.int 1))) .nil)))
    .nil)) (.cons (.expr (.meth "put" (.var 0) (.cons (.idx (.var 1) (.cst (.int 1))) (.cons (.var 2) .nil))))
    .nil))
    .nil)))⟩
/-- _law_any: 0 _law_draws, 1 _law_state, 2 _law_word, 3 _law_size -/
def d__law_any : Def := ⟨2, 4, (.cons (.asg 2 (.call "_law_draw" (.cons (.var 0) (.cons (.cst (.int 12)) .nil))))
    (.cons (.ife (.le (.var 2) (.cst (.int 2))) (.cons (.ret (.tup (.cons (.cst (.str (wd 21))) (.cons (.idxX (.disp (.cons (.cst (.str (wd 28))) (.cons (.cst (.str (wd 28))) (.cons (.cst (.str (wd 27))) .nil)))) (.call "_law_draw" (.cons (.var 0) (.cons (.cst (.int 3)) .nil)))) (.cons (.add (.cst (.int 1)) (.call "_law_draw" (.cons (.var 0) (.cons (.cst (.int 4)) .nil)))) .nil)))))
    .nil) .nil)
    (.cons (.ife (.le (.var 2) (.cst (.int 6))) (.cons (.asg 3 (.add (.bi .len (.cons (.idx (.var 1) (.cst (.str (wd 32)))) .nil)) (.bi .int (.cons (.eq (.call "_law_draw" (.cons (.var 0) (.cons (.cst (.int 5)) .nil))) (.cst (.int 0))) .nil))))
    (.cons (.ret (.ite (.gt (.var 3) (.cst (.int 0))) (.tup (.cons (.cst (.str (wd 22))) (.cons (.call "_law_draw" (.cons (.var 0) (.cons (.var 3) .nil))) .nil))) (.tup (.cons (.cst (.str (wd 25))) .nil))))
    .nil)) .nil)
    (.cons (.ret (.idxX (.disp (.cons (.tup (.cons (.cst (.str (wd 23))) .nil)) (.cons (.tup (.cons (.cst (.str (wd 24))) .nil)) (.cons (.tup (.cons (.cst (.str (wd 25))) .nil)) (.cons (.tup (.cons (.cst (.str (wd 26))) .nil)) (.cons (.tup (.cons (.cst (.str (wd 29))) .nil)) .nil)))))) (.sub (.var 2) (.cst (.int 7)))))
    .nil))))⟩
/-- _law_begin: 0 _law_script -/
def d__law_begin : Def := ⟨1, 1, (.cons (.ret (.lst (.cons (.bi .list (.cons (.var 0) .nil)) (.cons (.cst (.int 0)) (.cons (.cst (.int 0)) (.cons (.cst (.int 7)) .nil))))))
    .nil)⟩
/-- _law_both: 0 _law_parts_here, 1 _law_life, 2 _law_state, 3 _law_one, 4 _law_two, 5 _law_here, 6 _law_there, 7 _law_first, 8 _law_second -/
def d__law_both : Def := ⟨5, 9, (.cons (.asg 5 (.call "_law_copy" (.cons (.var 2) .nil)))
    (.cons (.asg 6 (.call "_law_copy" (.cons (.var 2) .nil)))
    (.cons (.asg 7 (.lst (.cons (.call "_law_do" (.cons (.var 0) (.cons (.var 1) (.cons (.var 5) (.cons (.var 3) .nil))))) (.cons (.call "_law_do" (.cons (.var 0) (.cons (.var 1) (.cons (.var 5) (.cons (.var 4) .nil))))) .nil))))
    (.cons (.asg 8 (.lst (.cons (.call "_law_do" (.cons (.var 0) (.cons (.var 1) (.cons (.var 6) (.cons (.var 4) .nil))))) (.cons (.call "_law_do" (.cons (.var 0) (.cons (.var 1) (.cons (.var 6) (.cons (.var 3) .nil))))) .nil))))
    (.cons (.ret (.and (.eq (.var 7) (.lst (.cons (.idx (.var 8) (.cst (.int 1))) (.cons (.idx (.var 8) (.cst (.int 0))) .nil)))) (.eq (.call "_law_key" (.cons (.var 5) .nil)) (.call "_law_key" (.cons (.var 6) .nil)))))
    .nil)))))⟩
/-- _law_can: 0 _law_parts_here, 1 _law_world_here, 2 _law_found, 3 _law_row, 4 _law_deed, 5 _law_name -/
def d__law_can : Def := ⟨2, 6, (.cons (.asg 2 .dS0)
    (.cons (.fr (.nm 3) (.val (.call "_law_walk" (.cons (.var 0) (.cons (.var 1) (.cons (.call "_law_new" (.cons (.idx (.var 1) (.cst (.int 0))) .nil)) .nil))))) (.cons (.fr (.nm 4) (.val (.call "_law_deeds" (.cons (.var 1) (.cons (.idx (.var 3) (.cst (.int 0))) .nil)))) (.cons (.fr (.nm 5) (.val (.call "_law_faults" (.cons (.var 0) (.cons (.idx (.var 1) (.cst (.int 1))) (.cons (.idx (.var 3) (.cst (.int 0))) (.cons (.var 4) .nil)))))) (.cons (.ife (.nin (.var 5) (.var 2)) (.cons (.iset (.var 2) (.var 5) (.add (.idx (.var 3) (.cst (.int 1))) (.lst (.cons (.var 4) .nil))))
    .nil) .nil)
    .nil))
    .nil))
    .nil))
    (.cons (.ret (.var 2))
    .nil)))⟩
/-- _law_come: 0 _law_parts_here, 1 _law_state, 2 _law_number, 3 _law_row -/
def d__law_come : Def := ⟨3, 4, (.cons (.asg 3 (.idx (.idx (.var 1) (.cst (.str (wd 32)))) (.var 2)))
    (.cons (.iset (.var 3) (.cst (.int 2)) (.add (.idx (.var 3) (.cst (.int 2))) (.cst (.int 1))))
    (.cons (.ife (.or (.eq (.idx (.var 3) (.cst (.int 2))) (.cst (.int 1))) (.eq (.idx (.var 0) (.cst (.int 0))) (.cst (.str (wd 8))))) (.cons (.ife (.eq (.idx (.var 3) (.cst (.int 0))) (.cst (.str (wd 28)))) (.cons (.expr (.call "_law_take" (.cons (.var 0) (.cons (.var 1) (.cons (.idx (.var 3) (.cst (.int 1))) .nil)))))
    .nil) (.cons (.expr (.call "_law_give" (.cons (.var 0) (.cons (.var 1) (.cons (.idx (.var 3) (.cst (.int 1))) .nil)))))
    .nil))
    .nil) .nil)
    .nil)))⟩
/-- _law_copy: 0 _law_state, 1 _law_found, 2 _law_row -/
def d__law_copy : Def := ⟨1, 3, (.cons (.asg 1 (.bi .dict (.cons (.var 0) .nil)))
    (.cons (.iset (.var 1) (.cst (.str (wd 32))) (.lc (.lc [2] (.nm 2) (.val (.idx (.var 0) (.cst (.str (wd 32))))) .non (.bi .list (.cons (.var 2) .nil)))))
    (.cons (.ret (.var 1))
    .nil)))⟩
/-- _law_deeds: 0 _law_world_here, 1 _law_state, 2 _law_found, 3 _law_word, 4 _law_k -/
def d__law_deeds : Def := ⟨2, 5, (.cons (.asg 2 (.lst .nil))
    (.cons (.ife (.lt (.bi .len (.cons (.idx (.var 1) (.cst (.str (wd 32)))) .nil)) (.idx (.var 0) (.cst (.int 2)))) (.cons (.fr (.nm 3) (.val (.lst (.cons (.cst (.str (wd 28))) (.cons (.cst (.str (wd 27))) .nil)))) (.cons (.asg 2 (.add (.var 2) (.lc (.lc [4] (.nm 4) (.rng1 (.idx (.var 0) (.cst (.int 3)))) .non (.tup (.cons (.cst (.str (wd 21))) (.cons (.var 3) (.cons (.add (.var 4) (.cst (.int 1))) .nil))))))))
    .nil))
    .nil) .nil)
    (.cons (.asg 2 (.add (.var 2) (.lc (.lc [4] (.nm 4) (.rng1 (.bi .len (.cons (.idx (.var 1) (.cst (.str (wd 32)))) .nil))) (.som (.lt (.idx (.idx (.idx (.var 1) (.cst (.str (wd 32)))) (.var 4)) (.cst (.int 2))) (.cst (.int 2)))) (.tup (.cons (.cst (.str (wd 22))) (.cons (.var 4) .nil)))))))
    (.cons (.asg 2 (.add (.var 2) (.lst (.cons (.tup (.cons (.cst (.str (wd 23))) .nil)) (.cons (.tup (.cons (.cst (.str (wd 24))) .nil)) (.cons (.tup (.cons (.cst (.str (wd 25))) .nil)) .nil))))))
    (.cons (.ife (.lt (.bi .max (.cons (.idx (.var 1) (.cst (.str (wd 11)))) (.cons (.idx (.var 1) (.cst (.str (wd 30)))) .nil))) (.idx (.var 0) (.cst (.int 3)))) (.cons (.expr (.bm .append (.var 2) (.cons (.tup (.cons (.cst (.str (wd 26))) .nil)) .nil)))
    .nil) .nil)
    (.cons (.ret (.add (.var 2) (.lst (.cons (.tup (.cons (.cst (.str (wd 29))) .nil)) .nil))))
    .nil))))))⟩
/-- _law_do: 0 _law_parts_here, 1 _law_life, 2 _law_state, 3 _law_deed, 4 _law_word, 5 _law_row, 6 _law_rest -/
def d__law_do : Def := ⟨4, 7, (.cons (.asg 4 (.idx (.var 3) (.cst (.int 0))))
    (.cons (.ife (.not (.call "_law_free" (.cons (.var 2) (.cons (.var 3) .nil)))) (.cons (.ret (.cst (.str (wd 10))))
    .nil) .nil)
    (.cons (.ife (.eq (.var 4) (.cst (.str (wd 21)))) (.cons (.expr (.bm .append (.idx (.var 2) (.cst (.str (wd 32)))) (.cons (.lst (.cons (.idx (.var 3) (.cst (.int 1))) (.cons (.idx (.var 3) (.cst (.int 2))) (.cons (.cst (.int 0)) .nil)))) .nil)))
    .nil) (.cons (.ife (.eq (.var 4) (.cst (.str (wd 22)))) (.cons (.expr (.call "_law_come" (.cons (.var 0) (.cons (.var 2) (.cons (.idx (.var 3) (.cst (.int 1))) .nil)))))
    .nil) (.cons (.ife (.eq (.var 4) (.cst (.str (wd 23)))) (.cons (.iset (.var 2) (.cst (.str (wd 31))) (.add (.idx (.var 2) (.cst (.str (wd 31)))) (.cst (.int 1))))
    (.cons (.ife (.eq (.idx (.var 2) (.cst (.str (wd 31)))) (.var 1)) (.cons (.expr (.call "_law_end" (.cons (.var 2) .nil)))
    .nil) .nil)
    .nil)) (.cons (.ife (.eq (.var 4) (.cst (.str (wd 24)))) (.cons (.expr (.call "_law_end" (.cons (.var 2) .nil)))
    (.cons (.fr (.nm 5) (.val (.idx (.var 2) (.cst (.str (wd 32))))) (.cons (.ife (.and (.idx (.var 0) (.cst (.int 7))) (.eq (.idx (.var 5) (.cst (.int 2))) (.cst (.int 0)))) (.cons (.iset (.var 5) (.cst (.int 2)) (.cst (.int 1)))
    .nil) .nil)
    .nil))
    .nil)) (.cons (.ife (.eq (.var 4) (.cst (.str (wd 25)))) (.cons (.iset (.var 2) (.cst (.str (wd 31))) (.cst (.int 0)))
    (.cons (.asg 6 (.bi .max (.cons (.cst (.int 0)) (.cons (.sub (.idx (.var 2) (.cst (.str (wd 11)))) (.call "_law_net" (.cons (.var 2) .nil))) .nil))))
    (.cons (.iset (.var 2) (.cst (.str (wd 30))) (.idxX (.disp (.cons (.var 6) (.cons (.idx (.var 2) (.cst (.str (wd 11)))) .nil))) (.bi .int (.cons (.eq (.idx (.var 0) (.cst (.int 5))) (.cst (.str (wd 17)))) .nil))))
    .nil))) (.cons (.ife (.eq (.var 4) (.cst (.str (wd 26)))) (.cons (.iset (.var 2) (.cst (.str (wd 11))) (.add (.idx (.var 2) (.cst (.str (wd 11)))) (.cst (.int 1))))
    (.cons (.iset (.var 2) (.cst (.str (wd 30))) (.add (.idx (.var 2) (.cst (.str (wd 30)))) (.bi .int (.cons (.isnn (.idx (.var 2) (.cst (.str (wd 31))))) .nil))))
    .nil)) (.cons (.iset (.var 2) (.cst (.str (wd 11))) (.sub (.idx (.var 2) (.cst (.str (wd 11)))) (.cst (.int 1))))
    (.cons (.ife (.and (.eq (.idx (.var 0) (.cst (.int 6))) (.cst (.str (wd 19)))) (.gt (.idx (.var 2) (.cst (.str (wd 30)))) (.cst (.int 0)))) (.cons (.iset (.var 2) (.cst (.str (wd 30))) (.sub (.idx (.var 2) (.cst (.str (wd 30)))) (.cst (.int 1))))
    .nil) .nil)
    .nil)))
    .nil))
    .nil))
    .nil))
    .nil))
    .nil))
    (.cons (.ret (.cst (.str (wd 8))))
    .nil))))⟩
/-- _law_draw: 0 _law_draws, 1 _law_size, 2 _law_found, 3 _law_cell -/
def d__law_draw : Def := ⟨2, 4, (.cons (.ife (.eq (.idx (.var 0) (.cst (.int 2))) (.cst (.int 0))) (.cons (.ife (.lt (.idx (.var 0) (.cst (.int 1))) (.bi .len (.cons (.idx (.var 0) (.cst (.int 0))) .nil))) (.cons (.asg 3 (.idx (.idx (.var 0) (.cst (.int 0))) (.idx (.var 0) (.cst (.int 1)))))
    (.cons (.iset (.var 0) (.cst (.int 1)) (.add (.idx (.var 0) (.cst (.int 1))) (.cst (.int 1))))
    (.cons (.ife (.ge (.var 3) (.pow (.cst (.int 10)) (.cst (.int 18)))) (.cons (.iset (.var 0) (.cst (.int 2)) (.var 3))
    .nil) (.cons (.iset (.var 0) (.cst (.int 3)) (.mod (.bi .int (.cons (.add (.add (.mul (.idx (.var 0) (.cst (.int 3))) (.cst (.int 48271))) (.mul (.var 3) (.cst (.int 69621)))) (.cst (.int 11))) .nil)) (.cst (.int 2147483647))))
    .nil))
    .nil))) (.cons (.iset (.var 0) (.cst (.int 3)) (.mod (.bi .int (.cons (.add (.mul (.idx (.var 0) (.cst (.int 3))) (.cst (.int 48271))) (.cst (.int 7))) .nil)) (.cst (.int 2147483647))))
    .nil))
    .nil) .nil)
    (.cons (.ife (.gt (.idx (.var 0) (.cst (.int 2))) (.cst (.int 0))) (.cons (.asg 2 (.mod (.bi .int (.cons (.idx (.var 0) (.cst (.int 2))) .nil)) (.var 1)))
    (.cons (.iset (.var 0) (.cst (.int 2)) (.fdv (.idx (.var 0) (.cst (.int 2))) (.var 1)))
    (.cons (.ret (.var 2))
    .nil))) .nil)
    (.cons (.ret (.mod (.mod (.bi .int (.cons (.mul (.idx (.var 0) (.cst (.int 3))) (.cst (.int 16807))) .nil)) (.cst (.int 2147483629))) (.var 1)))
    .nil)))⟩
/-- _law_due: 0 _law_parts_here, 1 _law_k, 2 _law_some, 3 _law_value -/
def d__law_due_k01 : Def := ⟨1, 4, (.cons (.fr (.nm 1) (.rng1 (.cst (.int 8))) (.cons (.asg 2 (.idx (.call "_law_values" .nil) (.var 1)))
    (.cons (.ife (.not (.bx .any (.lc [3] (.nm 3) (.val (.var 2)) .non (.and (.eq (.isi (.var 3) .bl) (.isi (.idx (.var 0) (.var 1)) .bl)) (.eq (.var 3) (.idx (.var 0) (.var 1))))))) (.cons (.ret (.idx (.call "_law_names" .nil) (.var 1)))
    .nil) .nil)
    .nil)))
    (.cons (.ret (.cst .non))
    .nil))⟩
/-- _law_due: 0 _law_parts_here, 1 _law_world_here, 2 _law_faults_here, 3 _law_size, 4 _law_found, 5 _law_row, 6 _law_there, 7 _law_name -/
def d__law_due_k08 : Def := ⟨3, 8, (.cons (.fr (.nm 3) (.rng1 (.cst (.int 9))) (.cons (.asg 4 (.lst .nil))
    (.cons (.fr (.nm 5) (.val (.call "_law_sets" (.cons (.var 0) (.cons (.cst (.int 0)) (.cons (.var 3) .nil))))) (.cons (.asg 6 (.call "_law_can" (.cons (.call "_law_set" (.cons (.var 0) (.cons (.var 5) .nil))) (.cons (.var 1) .nil))))
    (.cons (.ife (.eq (.bi .len (.cons (.lc (.lc [7] (.nm 7) (.val (.var 2)) (.som (.inn (.var 7) (.var 6))) (.var 7))) .nil)) (.cst (.int 0))) (.cons (.expr (.bm .append (.var 4) (.cons (.bi .tuple (.cons (.var 5) .nil)) .nil)))
    .nil) .nil)
    .nil)))
    (.cons (.ife (.gt (.bi .len (.cons (.var 4) .nil)) (.cst (.int 0))) (.cons (.ret (.var 4))
    .nil) .nil)
    .nil))))
    (.cons (.ret (.lst .nil))
    .nil))⟩
/-- _law_due: 0 _law_parts_here, 1 _law_world_here, 2 _law_state, 3 _law_best, 4 _law_row -/
def d__law_due_k10 : Def := ⟨3, 5, (.cons (.asg 3 (.lst (.cons (.call "_law_net" (.cons (.var 2) .nil)) (.cons (.lst .nil) .nil))))
    (.cons (.fr (.nm 4) (.val (.call "_law_walk" (.cons (.var 0) (.cons (.var 1) (.cons (.var 2) .nil))))) (.cons (.ife (.gt (.call "_law_net" (.cons (.idx (.var 4) (.cst (.int 0))) .nil)) (.idx (.var 3) (.cst (.int 0)))) (.cons (.asg 3 (.lst (.cons (.call "_law_net" (.cons (.idx (.var 4) (.cst (.int 0))) .nil)) (.cons (.idx (.var 4) (.cst (.int 1))) .nil))))
    .nil) .nil)
    .nil))
    (.cons (.ret (.var 3))
    .nil)))⟩
/-- _law_end: 0 _law_state -/
def d__law_end : Def := ⟨1, 1, (.cons (.iset (.var 0) (.cst (.str (wd 31))) (.cst .non))
    (.cons (.iset (.var 0) (.cst (.str (wd 30))) (.cst (.int 0)))
    .nil))⟩
/-- _law_faults: 0 _law_parts_here, 1 _law_life, 2 _law_state, 3 _law_deed, 4 _law_after, 5 _law_took, 6 _law_gave, 7 _law_first, 8 _law_found, 9 _law_name -/
def d__law_faults : Def := ⟨4, 10, (.cons (.asg 4 (.call "_law_copy" (.cons (.var 2) .nil)))
    (.cons (.ife (.eq (.call "_law_do" (.cons (.var 0) (.cons (.var 1) (.cons (.var 4) (.cons (.var 3) .nil))))) (.cst (.str (wd 10)))) (.cons (.ret (.lst .nil))
    .nil) .nil)
    (.cons (.asg 5 (.gt (.idx (.var 4) (.cst (.str (wd 12)))) (.idx (.var 2) (.cst (.str (wd 12))))))
    (.cons (.asg 6 (.gt (.idx (.var 4) (.cst (.str (wd 16)))) (.idx (.var 2) (.cst (.str (wd 16))))))
    (.cons (.asg 7 (.and (.eq (.idx (.var 3) (.cst (.int 0))) (.cst (.str (wd 22)))) (.eq (.idx (.idx (.idx (.var 2) (.cst (.str (wd 32)))) (.idx (.var 3) (.cst (.int 1)))) (.cst (.int 2))) (.cst (.int 0)))))
    (.cons (.asg 8 .dS0)
    (.cons (.iset (.var 8) (.cst (.str (wd 33))) (.and (.var 5) (.gt (.call "_law_net" (.cons (.var 4) .nil)) (.idx (.var 4) (.cst (.str (wd 11)))))))
    (.cons (.iset (.var 8) (.cst (.str (wd 34))) (.and (.eq (.idx (.var 3) (.cst (.int 0))) (.cst (.str (wd 22)))) (.and (.not (.var 7)) (.or (.var 5) (.var 6)))))
    (.cons (.iset (.var 8) (.cst (.str (wd 35))) (.and (.var 7) (.and (.not (.var 5)) (.not (.var 6)))))
    (.cons (.iset (.var 8) (.cst (.str (wd 36))) (.and (.var 6) (.lt (.call "_law_net" (.cons (.var 4) .nil)) (.cst (.int 0)))))
    (.cons (.iset (.var 8) (.cst (.str (wd 37))) (.gt (.idx (.var 4) (.cst (.str (wd 30)))) (.bi .max (.cons (.cst (.int 0)) (.cons (.sub (.idx (.var 4) (.cst (.str (wd 11)))) (.call "_law_net" (.cons (.var 4) .nil))) .nil)))))
    (.cons (.ret (.lc (.lc [9] (.nm 9) (.val (.call "_law_words" .nil)) (.som (.idx (.var 8) (.var 9))) (.var 9))))
    .nil))))))))))))⟩
/-- _law_free: 0 _law_state, 1 _law_deed -/
def d__law_free : Def := ⟨2, 2, (.cons (.ife (.eq (.idx (.var 1) (.cst (.int 0))) (.cst (.str (wd 22)))) (.cons (.ret (.chn true false (.cst (.int 0)) (.idx (.var 1) (.cst (.int 1))) (.bi .len (.cons (.idx (.var 0) (.cst (.str (wd 32)))) .nil))))
    .nil) .nil)
    (.cons (.ife (.inX (.idx (.var 1) (.cst (.int 0))) (.disp (.cons (.cst (.str (wd 23))) (.cons (.cst (.str (wd 24))) .nil)))) (.cons (.ret (.isnn (.idx (.var 0) (.cst (.str (wd 31))))))
    .nil) .nil)
    (.cons (.ret (.or (.ne (.idx (.var 1) (.cst (.int 0))) (.cst (.str (wd 29)))) (.gt (.idx (.var 0) (.cst (.str (wd 11)))) (.cst (.int 0)))))
    .nil)))⟩
/-- _law_give: 0 _law_parts_here, 1 _law_state, 2 _law_coins, 3 _law_part -/
def d__law_give : Def := ⟨3, 4, (.cons (.asg 3 (.var 2))
    (.cons (.ife (.eq (.idx (.var 0) (.cst (.int 4))) (.cst (.str (wd 13)))) (.cons (.asg 3 (.bi .max (.cons (.cst (.int 0)) (.cons (.bi .min (.cons (.var 2) (.cons (.call "_law_net" (.cons (.var 1) .nil)) .nil))) .nil))))
    .nil) .nil)
    (.cons (.iset (.var 1) (.cst (.str (wd 16))) (.add (.idx (.var 1) (.cst (.str (wd 16)))) (.var 3)))
    (.cons (.ife (.and (.eq (.idx (.var 0) (.cst (.int 3))) (.cst (.str (wd 14)))) (.isnn (.idx (.var 1) (.cst (.str (wd 31)))))) (.cons (.iset (.var 1) (.cst (.str (wd 30))) (.add (.idx (.var 1) (.cst (.str (wd 30)))) (.var 3)))
    .nil) .nil)
    .nil))))⟩
/-- _law_give: 0 _law_rest, 1 _law_k -/
def d__law_give_k05 : Def := ⟨1, 2, (.cons (.ret (.add (.lst (.cons (.tup (.cons (.cst (.str (wd 21))) (.cons (.cst (.str (wd 27))) (.cons (.cst (.int 1)) .nil)))) .nil)) (.lc (.lc [1] (.nm 1) (.val (.var 0)) .non (.tup (.cons (.cst (.str (wd 22))) (.cons (.cst (.int 0)) .nil)))))))
    .nil)⟩
/-- _law_head: 0 _law_parts_here, 1 _law_life, 2 _law_words, 3 _law_value -/
def d__law_head : Def := ⟨2, 4, (.cons (.asg 2 (.lst (.cons (.cst (.str (wd 48))) .nil)))
    (.cons (.fr (.nm 3) (.val (.var 0)) (.cons (.expr (.bm .append (.var 2) (.cons (.idxX (.disp (.cons (.bi .str (.cons (.var 3) .nil)) (.cons (.idxX (.disp (.cons (.cst (.str (wd 45))) (.cons (.cst (.str (wd 44))) .nil))) (.bi .int (.cons (.isn (.var 3)) .nil))) .nil))) (.bi .int (.cons (.isi (.var 3) .bl) .nil))) .nil)))
    .nil))
    (.cons (.ret (.bm .join (.cst (.str (wd 46))) (.cons (.add (.var 2) (.lst (.cons (.bi .str (.cons (.var 1) .nil)) .nil))) .nil)))
    .nil)))⟩
/-- _law_key: 0 _law_state, 1 _law_mail, 2 _law_row -/
def d__law_key : Def := ⟨1, 3, (.cons (.asg 1 (.bx .tuple (.lc [2] (.nm 2) (.val (.idx (.var 0) (.cst (.str (wd 32))))) .non (.bi .tuple (.cons (.var 2) .nil)))))
    (.cons (.ret (.tup (.cons (.idx (.var 0) (.cst (.str (wd 11)))) (.cons (.idx (.var 0) (.cst (.str (wd 30)))) (.cons (.idx (.var 0) (.cst (.str (wd 12)))) (.cons (.idx (.var 0) (.cst (.str (wd 16)))) (.cons (.idx (.var 0) (.cst (.str (wd 31)))) (.cons (.var 1) .nil))))))))
    .nil))⟩
/-- _law_led: 0 _law_draws, 1 _law_parts_here, 2 _law_life, 3 _law_till, 4 _law_name, 5 _law_past, 6 _law_acts, 7 _law_now, 8 _law_state, 9 _law_deed, 10 _law_due -/
def d__law_led : Def := ⟨7, 11, (.cons (.asg 7 (.idx (.var 5) (.neg (.cst (.int 1)))))
    (.cons (.ife (.nin (.var 4) (.var 7)) (.cons (.ret (.eq (.call "_law_try" (.cons (.var 3) (.cons (.var 4) (.cons (.tup (.cons (.cst (.str (wd 23))) .nil)) .nil)))) (.lst (.cons (.cst (.str (wd 50))) (.cons (.var 4) .nil)))))
    .nil) .nil)
    (.cons (.asg 8 (.call "_law_copy" (.cons (.idx (.var 7) (.var 4)) .nil)))
    (.cons (.asg 9 (.call "_law_any" (.cons (.var 0) (.cons (.var 8) .nil))))
    (.cons (.asg 10 (.lst (.cons (.cst (.str (wd 10))) (.cons (.var 9) .nil))))
    (.cons (.ife (.eq (.call "_law_do" (.cons (.var 1) (.cons (.var 2) (.cons (.var 8) (.cons (.var 9) .nil))))) (.cst (.str (wd 8)))) (.cons (.asg 10 (.lst (.cons (.cst (.str (wd 8))) (.cons (.idxX (.disp (.cons (.cst .non) (.cons (.bi .len (.cons (.idx (.idx (.var 7) (.var 4)) (.cst (.str (wd 32)))) .nil)) .nil))) (.bi .int (.cons (.eq (.idx (.var 9) (.cst (.int 0))) (.cst (.str (wd 21)))) .nil))) .nil))))
    (.cons (.expr (.bm .append (.var 6) (.cons (.tup (.cons (.cst (.str (wd 39))) (.cons (.var 4) (.cons (.var 9) .nil)))) .nil)))
    (.cons (.expr (.bm .append (.var 5) (.cons (.call "_law_with" (.cons (.var 7) (.cons (.var 4) (.cons (.var 8) .nil)))) .nil)))
    .nil))) .nil)
    (.cons (.ret (.call "_law_like" (.cons (.call "_law_try" (.cons (.var 3) (.cons (.var 4) (.cons (.var 9) .nil)))) (.cons (.var 10) .nil))))
    .nil)))))))⟩
/-- _law_like: 0 _law_actual, 1 _law_due, 2 _law_k -/
def d__law_like : Def := ⟨2, 3, (.cons (.ife (.isn (.var 1)) (.cons (.ret (.isn (.var 0)))
    .nil) .nil)
    (.cons (.ife (.isi (.var 1) .bl) (.cons (.ret (.and (.isi (.var 0) .bl) (.eq (.var 0) (.var 1))))
    .nil) .nil)
    (.cons (.ife (.isi (.var 1) .int) (.cons (.ret (.and (.isi (.var 0) .int) (.and (.not (.isi (.var 0) .bl)) (.eq (.var 0) (.var 1)))))
    .nil) .nil)
    (.cons (.ife (.isi (.var 1) .str) (.cons (.ret (.and (.isi (.var 0) .str) (.eq (.var 0) (.var 1))))
    .nil) .nil)
    (.cons (.ife (.isi (.var 1) .tup) (.cons (.ife (.or (.not (.isi (.var 0) .tup)) (.ne (.bi .len (.cons (.var 0) .nil)) (.bi .len (.cons (.var 1) .nil)))) (.cons (.ret (.cst (.bl false)))
    .nil) .nil)
    .nil) (.cons (.ife (.or (.not (.isi (.var 0) .lst)) (.ne (.bi .len (.cons (.var 0) .nil)) (.bi .len (.cons (.var 1) .nil)))) (.cons (.ret (.cst (.bl false)))
    .nil) .nil)
    .nil))
    (.cons (.fr (.nm 2) (.rng1 (.bi .len (.cons (.var 1) .nil))) (.cons (.ife (.not (.call "_law_like" (.cons (.idx (.var 0) (.var 2)) (.cons (.idx (.var 1) (.var 2)) .nil)))) (.cons (.ret (.cst (.bl false)))
    .nil) .nil)
    .nil))
    (.cons (.ret (.cst (.bl true)))
    .nil)))))))⟩
/-- _law_lines: 0 _law_draws, 1 _law_parts_here, 2 _law_life, 3 _law_state, 4 _law_lines_here, 5 _law_k, 6 _law_deed, 7 _law_part -/
def d__law_lines : Def := ⟨3, 8, (.cons (.asg 3 (.call "_law_new" (.cons (.cst (.int 2)) .nil)))
    (.cons (.asg 4 (.lst (.cons (.cst (.str "open a 2")) .nil)))
    (.cons (.fr (.nm 5) (.rng1 (.cst (.int 6))) (.cons (.asg 6 (.call "_law_any" (.cons (.var 0) (.cons (.var 3) .nil))))
    (.cons (.ife (.eq (.call "_law_do" (.cons (.var 1) (.cons (.var 2) (.cons (.var 3) (.cons (.var 6) .nil))))) (.cst (.str (wd 8)))) (.cons (.expr (.bm .append (.var 4) (.cons (.bm .join (.cst (.str (wd 46))) (.cons (.add (.lst (.cons (.cst (.str (wd 39))) (.cons (.cst (.str (wd 40))) .nil))) (.lc (.lc [7] (.nm 7) (.val (.var 6)) .non (.bi .str (.cons (.var 7) .nil))))) .nil)) .nil)))
    .nil) .nil)
    .nil)))
    (.cons (.ret (.var 4))
    .nil))))⟩
/-- _law_more: 0 _law_parts_here -/
def d__law_more : Def := ⟨1, 1, (.cons (.ife (.and (.eq (.idx (.var 0) (.cst (.int 0))) (.cst (.str (wd 8)))) (.eq (.idx (.var 0) (.cst (.int 2))) (.cst (.str (wd 12))))) (.cons (.ret (.call "_law_take" (.cons (.lst (.cons (.cst (.int 0)) (.cons (.cst (.int 0)) .nil))) .nil)))
    .nil) .nil)
    (.cons (.ife (.or (.eq (.idx (.var 0) (.cst (.int 6))) (.cst (.str (wd 20)))) (.eq (.idx (.var 0) (.cst (.int 2))) (.cst (.str (wd 12))))) (.cons (.ret (.call "_law_take" (.cons (.lst (.cons (.cst (.int 4)) (.cons (.cst (.int 0)) .nil))) .nil)))
    .nil) .nil)
    (.cons (.ife (.eq (.idx (.var 0) (.cst (.int 1))) (.cst (.str (wd 12)))) (.cons (.ret (.call "_law_take" (.cons (.idxX (.disp (.cons (.lst (.cons (.cst (.int 1)) (.cons (.cst (.int 4)) (.cons (.cst (.int 0)) .nil)))) (.cons (.lst (.cons (.cst (.int 0)) (.cons (.cst (.int 1)) (.cons (.cst (.int 0)) .nil)))) .nil))) (.bi .int (.cons (.eq (.idx (.var 0) (.cst (.int 0))) (.cst (.str (wd 8)))) .nil))) .nil)))
    .nil) .nil)
    (.cons (.ife (.eq (.idx (.var 0) (.cst (.int 0))) (.cst (.str (wd 9)))) (.cons (.ret (.cst .non))
    .nil) .nil)
    (.cons (.ret (.call "_law_take" (.cons (.idxX (.disp (.cons (.lst (.cons (.cst (.int 0)) (.cons (.cst (.int 4)) (.cons (.cst (.int 3)) (.cons (.cst (.int 0)) .nil))))) (.cons (.lst (.cons (.cst (.int 0)) (.cons (.cst (.int 2)) (.cons (.cst (.int 0)) .nil)))) .nil))) (.bi .int (.cons (.eq (.idx (.var 0) (.cst (.int 5))) (.cst (.str (wd 17)))) .nil))) .nil)))
    .nil)))))⟩
/-- _law_names:  -/
def d__law_names : Def := ⟨0, 0, (.cons (.ret (.lst (.cons (.cst (.str (wd 0))) (.cons (.cst (.str (wd 1))) (.cons (.cst (.str (wd 2))) (.cons (.cst (.str (wd 3))) (.cons (.cst (.str (wd 4))) (.cons (.cst (.str (wd 5))) (.cons (.cst (.str (wd 6))) (.cons (.cst (.str (wd 7))) .nil))))))))))
    .nil)⟩
/-- _law_near: 0 _law_draws, 1 _law_parts_here, 2 _law_row, 3 _law_k, 4 _law_at, 5 _law_some -/
def d__law_near : Def := ⟨2, 6, (.cons (.asg 2 (.bi .list (.cons (.var 1) .nil)))
    (.cons (.fr (.nm 3) (.rng1 (.add (.cst (.int 1)) (.call "_law_draw" (.cons (.var 0) (.cons (.cst (.int 2)) .nil))))) (.cons (.asg 4 (.call "_law_draw" (.cons (.var 0) (.cons (.cst (.int 8)) .nil))))
    (.cons (.asg 5 (.idx (.call "_law_values" .nil) (.var 4)))
    (.cons (.iset (.var 2) (.var 4) (.idx (.var 5) (.call "_law_draw" (.cons (.var 0) (.cons (.bi .len (.cons (.var 5) .nil)) .nil)))))
    .nil))))
    (.cons (.ret (.var 2))
    .nil)))⟩
/-- _law_net: 0 _law_state -/
def d__law_net : Def := ⟨1, 1, (.cons (.ret (.sub (.idx (.var 0) (.cst (.str (wd 12)))) (.idx (.var 0) (.cst (.str (wd 16))))))
    .nil)⟩
/-- _law_never: 0 _law_parts_here -/
def d__law_never : Def := ⟨1, 1, (.cons (.ife (.eq (.idx (.var 0) (.cst (.int 4))) (.cst (.str (wd 13)))) (.cons (.ret (.call "_law_give" (.cons (.lst (.cons (.cst (.int 0)) .nil)) .nil)))
    .nil) .nil)
    (.cons (.ife (.eq (.idx (.var 0) (.cst (.int 1))) (.cst (.str (wd 10)))) (.cons (.ret (.call "_law_take" (.cons (.lst (.cons (.cst (.int 1)) (.cons (.cst (.int 0)) .nil))) .nil)))
    .nil) .nil)
    (.cons (.ife (.and (.eq (.idx (.var 0) (.cst (.int 6))) (.cst (.str (wd 19)))) (.ne (.idx (.var 0) (.cst (.int 2))) (.cst (.str (wd 12))))) (.cons (.ret (.call "_law_take" (.cons (.lst (.cons (.cst (.int 4)) (.cons (.cst (.int 0)) .nil))) .nil)))
    .nil) .nil)
    (.cons (.ife (.eq (.idx (.var 0) (.cst (.int 1))) (.cst (.str (wd 11)))) (.cons (.ret (.call "_law_take" (.cons (.lst (.cons (.cst (.int 1)) (.cons (.cst (.int 4)) (.cons (.cst (.int 0)) .nil)))) .nil)))
    .nil) .nil)
    (.cons (.ret (.idxX (.disp (.cons (.cst .non) (.cons (.call "_law_take" (.cons (.lst (.cons (.cst (.int 4)) (.cons (.cst (.int 2)) (.cons (.cst (.int 0)) .nil)))) .nil)) .nil))) (.bi .int (.cons (.ne (.idx (.var 0) (.cst (.int 2))) (.cst (.str (wd 12)))) .nil))))
    .nil)))))⟩
/-- _law_new: 0 _law_agreed -/
def d__law_new : Def := ⟨1, 1, (.cons (.ret (.dSc [(wd 11), (wd 30), (wd 12), (wd 16), (wd 31), (wd 32)] (.cons (.var 0) (.cons (.var 0) (.cons (.cst (.int 0)) (.cons (.cst (.int 0)) (.cons (.cst (.int 0)) (.cons (.lst .nil) .nil))))))))
    .nil)⟩
/-- _law_opened: 0 _law_till, 1 _law_name, 2 _law_agreed, 3 _law_told -/
def d__law_opened : Def := ⟨3, 4, (.cons (.asg 3 (.cst (.bl true)))
    (.cons (.tr (.cons (.expr (.meth "begin" (.var 0) (.cons (.var 1) (.cons (.var 2) .nil))))
    .nil) [("BadHold", none, (.cst 3 (.bl false)))])
    (.cons (.ret (.var 3))
    .nil)))⟩
/-- _law_outlives: 0 _law_parts_here -/
def d__law_outlives : Def := ⟨1, 1, (.cons (.ife (.eq (.idx (.var 0) (.cst (.int 6))) (.cst (.str (wd 20)))) (.cons (.ret (.lst (.cons (.tup (.cons (.cst (.str (wd 29))) .nil)) .nil)))
    .nil) .nil)
    (.cons (.ret (.call "_law_take" (.cons (.idxX (.disp (.cons (.lst (.cons (.cst (.int 0)) (.cons (.cst (.int 4)) (.cons (.cst (.int 3)) .nil)))) (.cons (.lst (.cons (.cst (.int 0)) (.cons (.cst (.int 2)) .nil))) .nil))) (.bi .int (.cons (.eq (.idx (.var 0) (.cst (.int 5))) (.cst (.str (wd 17)))) .nil))) .nil)))
    .nil))⟩
/-- _law_parted: 0 _law_one, 1 _law_two, 2 _law_world_here, 3 _law_rows, 4 _law_seen_here, 5 _law_at, 6 _law_others, 7 _law_deed, 8 _law_here, 9 _law_there, 10 _law_words, 11 _law_history, 12 _law_key_here, 13 _law_row -/
def d__law_parted : Def := ⟨3, 14, (.cons (.asg 3 (.lst (.cons (.lst (.cons (.call "_law_new" (.cons (.idx (.var 2) (.cst (.int 0))) .nil)) (.cons (.call "_law_new" (.cons (.idx (.var 2) (.cst (.int 0))) .nil)) (.cons (.lst .nil) .nil)))) .nil)))
    (.cons (.asg 4 (.dN1 (.tup (.cons (.call "_law_key" (.cons (.idx (.idx (.var 3) (.cst (.int 0))) (.cst (.int 0))) .nil)) (.cons (.call "_law_key" (.cons (.idx (.idx (.var 3) (.cst (.int 0))) (.cst (.int 1))) .nil)) .nil))) (.cst (.bl true))))
    (.cons (.asg 5 (.cst (.int 0)))
    (.cons (.whl (.lt (.var 5) (.bi .len (.cons (.var 3) .nil))) (.cons (.asg 6 (.call "_law_deeds" (.cons (.var 2) (.cons (.idx (.idx (.var 3) (.var 5)) (.cst (.int 1))) .nil))))
    (.cons (.fr (.nm 7) (.val (.lc (.lc [13] (.nm 13) (.val (.call "_law_deeds" (.cons (.var 2) (.cons (.idx (.idx (.var 3) (.var 5)) (.cst (.int 0))) .nil)))) (.som (.inn (.var 13) (.var 6))) (.var 13)))) (.cons (.asg 8 (.call "_law_copy" (.cons (.idx (.idx (.var 3) (.var 5)) (.cst (.int 0))) .nil)))
    (.cons (.asg 9 (.call "_law_copy" (.cons (.idx (.idx (.var 3) (.var 5)) (.cst (.int 1))) .nil)))
    (.cons (.asg 10 (.lst (.cons (.call "_law_do" (.cons (.var 0) (.cons (.idx (.var 2) (.cst (.int 1))) (.cons (.var 8) (.cons (.var 7) .nil))))) (.cons (.call "_law_do" (.cons (.var 1) (.cons (.idx (.var 2) (.cst (.int 1))) (.cons (.var 9) (.cons (.var 7) .nil))))) .nil))))
    (.cons (.asg 11 (.add (.idx (.idx (.var 3) (.var 5)) (.cst (.int 2))) (.lst (.cons (.var 7) .nil))))
    (.cons (.ife (.or (.ne (.idx (.var 10) (.cst (.int 0))) (.idx (.var 10) (.cst (.int 1)))) (.ne (.call "_law_seen" (.cons (.var 8) .nil)) (.call "_law_seen" (.cons (.var 9) .nil)))) (.cons (.ret (.var 11))
    .nil) .nil)
    (.cons (.asg 12 (.tup (.cons (.call "_law_key" (.cons (.var 8) .nil)) (.cons (.call "_law_key" (.cons (.var 9) .nil)) .nil))))
    (.cons (.ife (.nin (.var 12) (.var 4)) (.cons (.iset (.var 4) (.var 12) (.cst (.bl true)))
    (.cons (.expr (.bm .append (.var 3) (.cons (.lst (.cons (.var 8) (.cons (.var 9) (.cons (.var 11) .nil)))) .nil)))
    .nil)) .nil)
    .nil))))))))
    (.cons (.asg 5 (.add (.var 5) (.cst (.int 1))))
    .nil))))
    (.cons (.ret (.cst .non))
    .nil)))))⟩
/-- _law_parts: 0 _law_draws, 1 _law_some -/
def d__law_parts : Def := ⟨1, 2, (.cons (.ret (.lc (.lc [1] (.nm 1) (.val (.call "_law_values" .nil)) .non (.idx (.var 1) (.call "_law_draw" (.cons (.var 0) (.cons (.bi .len (.cons (.var 1) .nil)) .nil)))))))
    .nil)⟩
/-- _law_refused: 0 _law_rule_here, 1 _law_world_here, 2 _law_what, 3 _law_told -/
def d__law_refused : Def := ⟨3, 4, (.cons (.asg 3 (.cst (.bl false)))
    (.cons (.tr (.cons (.ife (.eq (.var 2) (.cst (.int 0))) (.cons (.expr (.call "deeds_of" (.cons (.var 1) (.cons (.tup (.cons (.cst (.int 1)) (.cons (.cst (.int 1)) (.cons (.cst (.int 0)) (.cons (.cst (.int 0)) (.cons (.cst (.int 0)) (.cons (.tup .nil) .nil))))))) .nil))))
    .nil) (.cons (.ife (.eq (.var 2) (.cst (.int 1))) (.cons (.expr (.call "many" (.cons (.var 0) (.cons (.var 1) .nil))))
    .nil) (.cons (.expr (.call "can" (.cons (.var 0) (.cons (.var 1) .nil))))
    .nil))
    .nil))
    .nil) [("BadWorld", none, (.cst 3 (.bl true)))])
    (.cons (.ret (.var 3))
    .nil)))⟩
/-- _law_rule: 0 _law_parts_here -/
def d__law_rule : Def := ⟨1, 1, (.cons (.ret (.make "Rule" (.cons (.idx (.var 0) (.cst (.int 0))) (.cons (.idx (.var 0) (.cst (.int 1))) (.cons (.idx (.var 0) (.cst (.int 2))) (.cons (.idx (.var 0) (.cst (.int 3))) (.cons (.idx (.var 0) (.cst (.int 4))) (.cons (.idx (.var 0) (.cst (.int 5))) (.cons (.idx (.var 0) (.cst (.int 6))) (.cons (.idx (.var 0) (.cst (.int 7))) .nil))))))))))
    .nil)⟩
/-- _law_same: 0 _law_till, 1 _law_states, 2 _law_sums, 3 _law_name, 4 _law_key_here, 5 _law_k -/
def d__law_same : Def := ⟨2, 6, (.cons (.ife (.not (.call "_law_like" (.cons (.meth "names" (.var 0) .nil) (.cons (.bi .list (.cons (.var 1) .nil)) .nil)))) (.cons (.ret (.cst (.bl false)))
    .nil) .nil)
    (.cons (.asg 2 (.lst (.cons (.cst (.int 0)) (.cons (.cst (.int 0)) (.cons (.cst (.int 0)) (.cons (.cst (.int 0)) .nil))))))
    (.cons (.fr (.nm 3) (.val (.var 1)) (.cons (.asg 4 (.call "_law_key" (.cons (.idx (.var 1) (.var 3)) .nil)))
    (.cons (.ife (.not (.call "_law_like" (.cons (.meth "standing" (.var 0) (.cons (.var 3) .nil)) (.cons (.var 4) .nil)))) (.cons (.ret (.cst (.bl false)))
    .nil) .nil)
    (.cons (.asg 2 (.lc (.lc [5] (.nm 5) (.rng1 (.cst (.int 4))) .non (.add (.idx (.var 2) (.var 5)) (.idx (.var 4) (.var 5))))))
    .nil))))
    (.cons (.ret (.call "_law_like" (.cons (.meth "sums" (.var 0) .nil) (.cons (.bi .tuple (.cons (.var 2) .nil)) .nil))))
    .nil))))⟩
/-- _law_seen: 0 _law_state -/
def d__law_seen : Def := ⟨1, 1, (.cons (.ret (.lst (.cons (.idx (.var 0) (.cst (.str (wd 11)))) (.cons (.idx (.var 0) (.cst (.str (wd 30)))) (.cons (.idx (.var 0) (.cst (.str (wd 12)))) (.cons (.idx (.var 0) (.cst (.str (wd 16)))) (.cons (.isn (.idx (.var 0) (.cst (.str (wd 31))))) .nil)))))))
    .nil)⟩
/-- _law_set: 0 _law_parts_here, 1 _law_row, 2 _law_found, 3 _law_pair -/
def d__law_set : Def := ⟨2, 4, (.cons (.asg 2 (.bi .list (.cons (.var 0) .nil)))
    (.cons (.fr (.nm 3) (.val (.var 1)) (.cons (.iset (.var 2) (.bm .index (.call "_law_names" .nil) (.cons (.idx (.var 3) (.cst (.int 0))) .nil)) (.idx (.var 3) (.cst (.int 1))))
    .nil))
    (.cons (.ret (.var 2))
    .nil)))⟩
/-- _law_sets: 0 _law_parts_here, 1 _law_first, 2 _law_size, 3 _law_found, 4 _law_k, 5 _law_value, 6 _law_row -/
def d__law_sets : Def := ⟨3, 7, (.cons (.ife (.eq (.var 2) (.cst (.int 0))) (.cons (.ret (.lst (.cons (.lst .nil) .nil)))
    .nil) .nil)
    (.cons (.asg 3 (.lst .nil))
    (.cons (.fr (.nm 4) (.rng2 (.var 1) (.cst (.int 8))) (.cons (.fr (.nm 5) (.val (.idx (.call "_law_values" .nil) (.var 4))) (.cons (.ife (.ne (.var 5) (.idx (.var 0) (.var 4))) (.cons (.asg 3 (.add (.var 3) (.lc (.lc [6] (.nm 6) (.val (.call "_law_sets" (.cons (.var 0) (.cons (.add (.var 4) (.cst (.int 1))) (.cons (.sub (.var 2) (.cst (.int 1))) .nil))))) .non (.add (.lst (.cons (.tup (.cons (.idx (.call "_law_names" .nil) (.var 4)) (.cons (.var 5) .nil))) .nil)) (.var 6))))))
    .nil) .nil)
    .nil))
    .nil))
    (.cons (.ret (.var 3))
    .nil))))⟩
/-- _law_small: 0 _law_draws -/
def d__law_small : Def := ⟨1, 1, (.cons (.ret (.idxX (.disp (.cons (.tup (.cons (.cst (.int 1)) (.cons (.cst (.int 1)) (.cons (.cst (.int 1)) (.cons (.cst (.int 1)) .nil))))) (.cons (.tup (.cons (.cst (.int 1)) (.cons (.cst (.int 1)) (.cons (.cst (.int 0)) (.cons (.cst (.int 2)) .nil))))) (.cons (.tup (.cons (.cst (.int 1)) (.cons (.cst (.int 2)) (.cons (.cst (.int 1)) (.cons (.cst (.int 1)) .nil))))) (.cons (.tup (.cons (.cst (.int 1)) (.cons (.cst (.int 1)) (.cons (.cst (.int 1)) (.cons (.cst (.int 2)) .nil))))) .nil))))) (.call "_law_draw" (.cons (.var 0) (.cons (.cst (.int 4)) .nil)))))
    .nil)⟩
/-- _law_take: 0 _law_parts_here, 1 _law_state, 2 _law_coins, 3 _law_part -/
def d__law_take : Def := ⟨3, 4, (.cons (.ife (.isn (.idx (.var 1) (.cst (.str (wd 31))))) (.cons (.asg 3 (.var 2))
    (.cons (.ife (.eq (.idx (.var 0) (.cst (.int 1))) (.cst (.str (wd 10)))) (.cons (.asg 3 (.cst (.int 0)))
    .nil) .nil)
    (.cons (.ife (.eq (.idx (.var 0) (.cst (.int 1))) (.cst (.str (wd 11)))) (.cons (.asg 3 (.bi .max (.cons (.cst (.int 0)) (.cons (.bi .min (.cons (.var 2) (.cons (.sub (.idx (.var 1) (.cst (.str (wd 11)))) (.call "_law_net" (.cons (.var 1) .nil))) .nil))) .nil))))
    .nil) .nil)
    (.cons (.iset (.var 1) (.cst (.str (wd 12))) (.add (.idx (.var 1) (.cst (.str (wd 12)))) (.var 3)))
    .nil)))) (.cons (.ife (.le (.var 2) (.idx (.var 1) (.cst (.str (wd 30))))) (.cons (.iset (.var 1) (.cst (.str (wd 12))) (.add (.idx (.var 1) (.cst (.str (wd 12)))) (.var 2)))
    (.cons (.iset (.var 1) (.cst (.str (wd 30))) (.sub (.idx (.var 1) (.cst (.str (wd 30)))) (.var 2)))
    .nil)) (.cons (.ife (.ne (.idx (.var 0) (.cst (.int 2))) (.cst (.str (wd 10)))) (.cons (.iset (.var 1) (.cst (.str (wd 12))) (.add (.idx (.var 1) (.cst (.str (wd 12)))) (.idxX (.disp (.cons (.idx (.var 1) (.cst (.str (wd 30)))) (.cons (.var 2) .nil))) (.bi .int (.cons (.eq (.idx (.var 0) (.cst (.int 2))) (.cst (.str (wd 12)))) .nil)))))
    (.cons (.iset (.var 1) (.cst (.str (wd 30))) (.cst (.int 0)))
    .nil)) .nil)
    .nil))
    .nil))
    .nil)⟩
/-- _law_take: 0 _law_rest, 1 _law_words, 2 _law_k -/
def d__law_take_k05 : Def := ⟨1, 3, (.cons (.asg 1 (.lst (.cons (.tup (.cons (.cst (.str (wd 22))) (.cons (.cst (.int 0)) .nil))) (.cons (.tup (.cons (.cst (.str (wd 23))) .nil)) (.cons (.tup (.cons (.cst (.str (wd 25))) .nil)) (.cons (.tup (.cons (.cst (.str (wd 26))) .nil)) (.cons (.tup (.cons (.cst (.str (wd 29))) .nil)) (.cons (.tup (.cons (.cst (.str (wd 24))) .nil)) .nil))))))))
    (.cons (.ret (.add (.lst (.cons (.tup (.cons (.cst (.str (wd 21))) (.cons (.cst (.str (wd 28))) (.cons (.cst (.int 1)) .nil)))) .nil)) (.lc (.lc [2] (.nm 2) (.val (.var 0)) .non (.idx (.var 1) (.var 2))))))
    .nil))⟩
/-- _law_text: 0 _law_parts_here, 1 _law_life, 2 _law_acts, 3 _law_words, 4 _law_value, 5 _law_lines, 6 _law_row, 7 _law_rest, 8 _law_part -/
def d__law_text : Def := ⟨3, 9, (.cons (.asg 3 (.lst (.cons (.cst (.str (wd 48))) .nil)))
    (.cons (.fr (.nm 4) (.val (.var 0)) (.cons (.expr (.bm .append (.var 3) (.cons (.idxX (.disp (.cons (.bi .str (.cons (.var 4) .nil)) (.cons (.idxX (.disp (.cons (.cst (.str (wd 45))) (.cons (.cst (.str (wd 44))) .nil))) (.bi .int (.cons (.isn (.var 4)) .nil))) .nil))) (.bi .int (.cons (.isi (.var 4) .bl) .nil))) .nil)))
    .nil))
    (.cons (.asg 5 (.lst (.cons (.bm .join (.cst (.str (wd 46))) (.cons (.add (.var 3) (.lst (.cons (.bi .str (.cons (.var 1) .nil)) .nil))) .nil)) .nil)))
    (.cons (.fr (.nm 6) (.val (.var 2)) (.cons (.asg 7 (.idxX (.disp (.cons (.lst (.cons (.idx (.var 6) (.cst (.int 2))) .nil)) (.cons (.idx (.var 6) (.cst (.int 2))) .nil))) (.bi .int (.cons (.eq (.idx (.var 6) (.cst (.int 0))) (.cst (.str (wd 39)))) .nil))))
    (.cons (.expr (.bm .append (.var 5) (.cons (.bm .join (.cst (.str (wd 46))) (.cons (.add (.lst (.cons (.idx (.var 6) (.cst (.int 0))) (.cons (.idx (.var 6) (.cst (.int 1))) .nil))) (.lc (.lc [8] (.nm 8) (.val (.var 7)) .non (.bi .str (.cons (.var 8) .nil))))) .nil)) .nil)))
    .nil)))
    (.cons (.ret (.bm .join (.cst (.str (wd 47))) (.cons (.var 5) .nil)))
    .nil)))))⟩
/-- _law_told: 0 _law_text, 1 _law_told_here, 2 e -/
def d__law_told : Def := ⟨1, 3, (.cons (.asg 1 (.cst .non))
    (.cons (.tr (.cons (.expr (.call "read" (.cons (.var 0) .nil)))
    .nil) [("BadLine", some 2, (.fld 1 "line"))])
    (.cons (.ret (.var 1))
    .nil)))⟩
/-- _law_try: 0 _law_till, 1 _law_name, 2 _law_deed, 3 _law_told, 4 e -/
def d__law_try : Def := ⟨3, 5, (.cons (.asg 3 (.lst .nil))
    (.cons (.tr (.cons (.asg 3 (.lst (.cons (.cst (.str (wd 8))) (.cons (.meth "do" (.var 0) (.cons (.var 1) (.cons (.var 2) .nil))) .nil))))
    .nil) [("Refused", some 4, (.lsf 3 (.str (wd 10)) "deed")), ("NoHold", some 4, (.lsf 3 (.str (wd 50)) "name"))])
    (.cons (.ret (.var 3))
    .nil)))⟩
/-- _law_twice: 0 _law_parts_here -/
def d__law_twice : Def := ⟨1, 1, (.cons (.ife (.eq (.idx (.var 0) (.cst (.int 0))) (.cst (.str (wd 9)))) (.cons (.ret (.cst .non))
    .nil) .nil)
    (.cons (.ife (.eq (.idx (.var 0) (.cst (.int 2))) (.cst (.str (wd 12)))) (.cons (.ret (.call "_law_take" (.cons (.lst (.cons (.cst (.int 0)) (.cons (.cst (.int 0)) .nil))) .nil)))
    .nil) .nil)
    (.cons (.ife (.and (.idx (.var 0) (.cst (.int 7))) (.ne (.idx (.var 0) (.cst (.int 1))) (.cst (.str (wd 10))))) (.cons (.ret (.call "_law_take" (.cons (.lst (.cons (.cst (.int 5)) (.cons (.cst (.int 0)) .nil))) .nil)))
    .nil) .nil)
    (.cons (.ife (.eq (.idx (.var 0) (.cst (.int 4))) (.cst (.str (wd 16)))) (.cons (.ret (.call "_law_give" (.cons (.lst (.cons (.cst (.int 0)) (.cons (.cst (.int 0)) .nil))) .nil)))
    .nil) .nil)
    (.cons (.ife (.eq (.idx (.var 0) (.cst (.int 1))) (.cst (.str (wd 12)))) (.cons (.ret (.call "_law_take" (.cons (.lst (.cons (.cst (.int 0)) (.cons (.cst (.int 1)) (.cons (.cst (.int 0)) .nil)))) .nil)))
    .nil) .nil)
    (.cons (.ife (.and (.idx (.var 0) (.cst (.int 7))) (.eq (.idx (.var 0) (.cst (.int 5))) (.cst (.str (wd 18))))) (.cons (.ret (.call "_law_take" (.cons (.lst (.cons (.cst (.int 5)) (.cons (.cst (.int 2)) (.cons (.cst (.int 0)) .nil)))) .nil)))
    .nil) .nil)
    (.cons (.ret (.call "_law_take" (.cons (.idxX (.disp (.cons (.lst (.cons (.cst (.int 0)) (.cons (.cst (.int 4)) (.cons (.cst (.int 3)) (.cons (.cst (.int 0)) .nil))))) (.cons (.lst (.cons (.cst (.int 0)) (.cons (.cst (.int 2)) (.cons (.cst (.int 0)) .nil)))) .nil))) (.bi .int (.cons (.eq (.idx (.var 0) (.cst (.int 5))) (.cst (.str (wd 17)))) .nil))) .nil)))
    .nil)))))))⟩
/-- _law_undone: 0 _law_till, 1 _law_told -/
def d__law_undone : Def := ⟨1, 2, (.cons (.asg 1 (.cst (.bl true)))
    (.cons (.tr (.cons (.expr (.meth "undo" (.var 0) .nil))
    .nil) [("NothingDone", none, (.cst 1 (.bl false)))])
    (.cons (.ret (.var 1))
    .nil)))⟩
/-- _law_values: 0 _law_first -/
def d__law_values : Def := ⟨0, 1, (.cons (.asg 0 (.lst (.cons (.lst (.cons (.cst (.str (wd 8))) (.cons (.cst (.str (wd 9))) .nil))) (.cons (.lst (.cons (.cst (.str (wd 10))) (.cons (.cst (.str (wd 11))) (.cons (.cst (.str (wd 12))) .nil)))) (.cons (.lst (.cons (.cst (.str (wd 10))) (.cons (.cst (.str (wd 13))) (.cons (.cst (.str (wd 12))) .nil)))) (.cons (.lst (.cons (.cst (.str (wd 14))) (.cons (.cst (.str (wd 15))) .nil))) .nil))))))
    (.cons (.ret (.add (.var 0) (.lst (.cons (.lst (.cons (.cst (.str (wd 13))) (.cons (.cst (.str (wd 16))) .nil))) (.cons (.lst (.cons (.cst (.str (wd 17))) (.cons (.cst (.str (wd 18))) .nil))) (.cons (.lst (.cons (.cst (.str (wd 19))) (.cons (.cst (.str (wd 20))) .nil))) (.cons (.lst (.cons (.cst (.bl true)) (.cons (.cst (.bl false)) .nil))) .nil)))))))
    .nil))⟩
/-- _law_walk: 0 _law_parts_here, 1 _law_world_here, 2 _law_begin_here, 3 _law_rows, 4 _law_seen, 5 _law_at, 6 _law_deed, 7 _law_after -/
def d__law_walk : Def := ⟨3, 8, (.cons (.asg 3 (.lst (.cons (.lst (.cons (.var 2) (.cons (.lst .nil) .nil))) .nil)))
    (.cons (.asg 4 (.dN1 (.call "_law_key" (.cons (.var 2) .nil)) (.cst (.bl true))))
    (.cons (.asg 5 (.cst (.int 0)))
    (.cons (.whl (.lt (.var 5) (.bi .len (.cons (.var 3) .nil))) (.cons (.fr (.nm 6) (.val (.call "_law_deeds" (.cons (.var 1) (.cons (.idx (.idx (.var 3) (.var 5)) (.cst (.int 0))) .nil)))) (.cons (.asg 7 (.call "_law_copy" (.cons (.idx (.idx (.var 3) (.var 5)) (.cst (.int 0))) .nil)))
    (.cons (.expr (.call "_law_do" (.cons (.var 0) (.cons (.idx (.var 1) (.cst (.int 1))) (.cons (.var 7) (.cons (.var 6) .nil))))))
    (.cons (.ife (.nin (.call "_law_key" (.cons (.var 7) .nil)) (.var 4)) (.cons (.iset (.var 4) (.call "_law_key" (.cons (.var 7) .nil)) (.cst (.bl true)))
    (.cons (.expr (.bm .append (.var 3) (.cons (.lst (.cons (.var 7) (.cons (.add (.idx (.idx (.var 3) (.var 5)) (.cst (.int 1))) (.lst (.cons (.var 6) .nil))) .nil))) .nil)))
    .nil)) .nil)
    .nil))))
    (.cons (.asg 5 (.add (.var 5) (.cst (.int 1))))
    .nil)))
    (.cons (.ret (.var 3))
    .nil)))))⟩
/-- _law_with: 0 _law_states, 1 _law_name, 2 _law_state, 3 _law_found -/
def d__law_with : Def := ⟨3, 4, (.cons (.asg 3 (.bi .dict (.cons (.var 0) .nil)))
    (.cons (.iset (.var 3) (.var 1) (.var 2))
    (.cons (.ret (.var 3))
    .nil)))⟩
/-- _law_words:  -/
def d__law_words : Def := ⟨0, 0, (.cons (.ret (.lst (.cons (.cst (.str (wd 33))) (.cons (.cst (.str (wd 34))) (.cons (.cst (.str (wd 35))) (.cons (.cst (.str (wd 36))) (.cons (.cst (.str (wd 37))) .nil)))))))
    .nil)⟩
/-- _law_world: 0 _law_draws, 1 _law_worlds -/
def d__law_world : Def := ⟨1, 2, (.cons (.asg 1 (.lst (.cons (.tup (.cons (.cst (.int 1)) (.cons (.cst (.int 1)) (.cons (.cst (.int 1)) (.cons (.cst (.int 1)) .nil))))) (.cons (.tup (.cons (.cst (.int 1)) (.cons (.cst (.int 1)) (.cons (.cst (.int 2)) (.cons (.cst (.int 1)) .nil))))) (.cons (.tup (.cons (.cst (.int 1)) (.cons (.cst (.int 2)) (.cons (.cst (.int 1)) (.cons (.cst (.int 1)) .nil))))) (.cons (.tup (.cons (.cst (.int 1)) (.cons (.cst (.int 1)) (.cons (.cst (.int 1)) (.cons (.cst (.int 2)) .nil))))) (.cons (.tup (.cons (.cst (.int 2)) (.cons (.cst (.int 1)) (.cons (.cst (.int 1)) (.cons (.cst (.int 2)) .nil))))) (.cons (.tup (.cons (.cst (.int 1)) (.cons (.cst (.int 2)) (.cons (.cst (.int 0)) (.cons (.cst (.int 3)) .nil))))) (.cons (.tup (.cons (.cst (.int 2)) (.cons (.cst (.int 2)) (.cons (.cst (.int 1)) (.cons (.cst (.int 2)) .nil))))) .nil)))))))))
    (.cons (.ret (.idx (.var 1) (.call "_law_draw" (.cons (.var 0) (.cons (.cst (.int 7)) .nil)))))
    .nil))⟩
/-- alike: 0 one, 1 other, 2 world -/
def d_alike : Def := ⟨3, 3, (.cons (.expr (.call "check_world" (.cons (.var 2) .nil)))
    (.cons (.ret (.isn (.call "first_unlike" (.cons (.var 0) (.cons (.var 1) (.cons (.var 2) .nil))))))
    .nil))⟩
/-- all_deeds: 0 world, 1 standing, 2 mail, 3 found, 4 agreed, 5 life, 6 messages, 7 most, 8 word, 9 asked, 10 number, 11 message -/
def d_all_deeds : Def := ⟨2, 12, (.cons (.asgT [4, 5, 6, 7] (.var 0))
    (.cons (.asg 2 (.idx (.var 1) (.cst (.int 5))))
    (.cons (.asg 3 (.lst .nil))
    (.cons (.ife (.lt (.bi .len (.cons (.var 2) .nil)) (.var 6)) (.cons (.asg 3 (.lc (.lc2 [8, 9] [9] (.nm 8) (.val (.tup (.cons (.cst (.str (wd 28))) (.cons (.cst (.str (wd 27))) .nil)))) (.nm 9) (.rng2 (.cst (.int 1)) (.add (.var 7) (.cst (.int 1)))) (.tup (.cons (.cst (.str (wd 21))) (.cons (.var 8) (.cons (.var 9) .nil)))))))
    .nil) .nil)
    (.cons (.asg 3 (.add (.var 3) (.lc (.lc [10, 11] (.tp [10, 11]) (.enm (.var 2)) (.som (.lt (.idx (.var 11) (.cst (.int 2))) (.cst (.int 2)))) (.tup (.cons (.cst (.str (wd 22))) (.cons (.var 10) .nil)))))))
    (.cons (.asg 3 (.add (.var 3) (.lst (.cons (.tup (.cons (.cst (.str (wd 23))) .nil)) (.cons (.tup (.cons (.cst (.str (wd 24))) .nil)) (.cons (.tup (.cons (.cst (.str (wd 25))) .nil)) .nil))))))
    (.cons (.ife (.and (.lt (.idx (.var 1) (.cst (.int 0))) (.var 7)) (.lt (.idx (.var 1) (.cst (.int 1))) (.var 7))) (.cons (.expr (.bm .append (.var 3) (.cons (.tup (.cons (.cst (.str (wd 26))) .nil)) .nil)))
    .nil) .nil)
    (.cons (.ret (.add (.var 3) (.lst (.cons (.tup (.cons (.cst (.str (wd 29))) .nil)) .nil))))
    .nil))))))))⟩
/-- behind: 0 rule, 1 life, 2 standing, 3 deed, 4 word, 5 agreed, 6 held, 7 taken, 8 given, 9 age, 10 mail -/
def d_behind : Def := ⟨4, 11, (.cons (.asgT [5, 6, 7, 8, 9, 10] (.var 2))
    (.cons (.asg 4 (.idx (.var 3) (.cst (.int 0))))
    (.cons (.ife (.eq (.var 4) (.cst (.str (wd 21)))) (.cons (.ret (.tup (.cons (.var 5) (.cons (.var 6) (.cons (.var 7) (.cons (.var 8) (.cons (.var 9) (.cons (.add (.var 10) (.tup (.cons (.tup (.cons (.idx (.var 3) (.cst (.int 1))) (.cons (.idx (.var 3) (.cst (.int 2))) (.cons (.cst (.int 0)) .nil)))) .nil))) .nil))))))))
    .nil) .nil)
    (.cons (.ife (.eq (.var 4) (.cst (.str (wd 22)))) (.cons (.ret (.call "come" (.cons (.var 0) (.cons (.var 2) (.cons (.idx (.var 3) (.cst (.int 1))) .nil)))))
    .nil) .nil)
    (.cons (.ife (.eq (.var 4) (.cst (.str (wd 23)))) (.cons (.ret (.call "ticked" (.cons (.var 1) (.cons (.var 2) .nil))))
    .nil) .nil)
    (.cons (.ife (.eq (.var 4) (.cst (.str (wd 24)))) (.cons (.ret (.call "released" (.cons (.var 0) (.cons (.var 2) .nil))))
    .nil) .nil)
    (.cons (.ife (.eq (.var 4) (.cst (.str (wd 25)))) (.cons (.asg 6 (.ite (.eq (.fld (.var 0) (wd 5)) (.cst (.str (wd 17)))) (.var 5) (.bi .max (.cons (.sub (.var 5) (.sub (.var 7) (.var 8))) (.cons (.cst (.int 0)) .nil)))))
    (.cons (.ret (.tup (.cons (.var 5) (.cons (.var 6) (.cons (.var 7) (.cons (.var 8) (.cons (.cst (.int 0)) (.cons (.var 10) .nil))))))))
    .nil)) .nil)
    (.cons (.ife (.eq (.var 4) (.cst (.str (wd 26)))) (.cons (.ret (.tup (.cons (.add (.var 5) (.cst (.int 1))) (.cons (.add (.var 6) (.ite (.isn (.var 9)) (.cst (.int 0)) (.cst (.int 1)))) (.cons (.var 7) (.cons (.var 8) (.cons (.var 9) (.cons (.var 10) .nil))))))))
    .nil) .nil)
    (.cons (.ife (.eq (.var 5) (.cst (.int 0))) (.cons (.ret (.cst .non))
    .nil) .nil)
    (.cons (.ret (.tup (.cons (.sub (.var 5) (.cst (.int 1))) (.cons (.ite (.eq (.fld (.var 0) (wd 6)) (.cst (.str (wd 19)))) (.bi .max (.cons (.sub (.var 6) (.cst (.int 1))) (.cons (.cst (.int 0)) .nil))) (.var 6)) (.cons (.var 7) (.cons (.var 8) (.cons (.var 9) (.cons (.var 10) .nil))))))))
    .nil))))))))))⟩
/-- both_ways: 0 rule, 1 life, 2 standing, 3 one, 4 other, 5 here, 6 there, 7 first, 8 second -/
def d_both_ways : Def := ⟨5, 9, (.cons (.asg 5 (.call "step" (.cons (.var 0) (.cons (.var 1) (.cons (.var 2) (.cons (.var 3) .nil))))))
    (.cons (.asg 6 (.call "step" (.cons (.var 0) (.cons (.var 1) (.cons (.var 2) (.cons (.var 4) .nil))))))
    (.cons (.par 7 8 (.call "step" (.cons (.var 0) (.cons (.var 1) (.cons (.idx (.var 5) (.cst (.int 1))) (.cons (.var 4) .nil))))) (.call "step" (.cons (.var 0) (.cons (.var 1) (.cons (.idx (.var 6) (.cst (.int 1))) (.cons (.var 3) .nil))))))
    (.cons (.ret (.and (.eq (.idx (.var 5) (.cst (.int 0))) (.idx (.var 8) (.cst (.int 0)))) (.and (.eq (.idx (.var 6) (.cst (.int 0))) (.idx (.var 7) (.cst (.int 0)))) (.eq (.idx (.var 7) (.cst (.int 1))) (.idx (.var 8) (.cst (.int 1)))))))
    .nil))))⟩
/-- can: 0 rule, 1 world, 2 found, 3 fault -/
def d_can : Def := ⟨2, 4, (.cons (.expr (.call "check_world" (.cons (.var 1) .nil)))
    (.cons (.asg 2 (.call "least_faults" (.cons (.var 0) (.cons (.var 1) .nil))))
    (.cons (.ret (.dc [3] (.nm 3) (.val (.glb "FAULTS")) (.som (.inn (.var 3) (.var 2))) (.var 3) (.idx (.var 2) (.var 3))))
    .nil)))⟩
/-- check_faults: 0 faults, 1 one -/
def d_check_faults : Def := ⟨1, 2, (.cons (.ife (.or (.not (.isi (.var 0) .lst)) (.not (.bx .all (.lc [1] (.nm 1) (.val (.var 0)) .non (.and (.isi (.var 1) .str) (.inn (.var 1) (.glb "FAULTS"))))))) (.cons (.rse "BadFault" .nil)
    .nil) .nil)
    .nil)⟩
/-- check_world: 0 world -/
def d_check_world : Def := ⟨1, 1, (.cons (.ife (.not (.call "is_world" (.cons (.var 0) .nil))) (.cons (.rse "BadWorld" .nil)
    .nil) .nil)
    .nil)⟩
/-- come: 0 rule, 1 standing, 2 number, 3 mail, 4 sums, 5 agreed, 6 held, 7 taken, 8 given, 9 age, 10 word, 11 asked, 12 times -/
def d_come : Def := ⟨3, 13, (.cons (.asgT [5, 6, 7, 8, 9, 3] (.var 1))
    (.cons (.ife (.not (.chn true false (.cst (.int 0)) (.var 2) (.bi .len (.cons (.var 3) .nil)))) (.cons (.ret (.cst .non))
    .nil) .nil)
    (.cons (.asgT [10, 11, 12] (.idx (.var 3) (.var 2)))
    (.cons (.asg 3 (.add (.add (.slc (.var 3) .non (.som (.var 2))) (.tup (.cons (.tup (.cons (.var 10) (.cons (.var 11) (.cons (.add (.var 12) (.cst (.int 1))) .nil)))) .nil))) (.slc (.var 3) (.som (.add (.var 2) (.cst (.int 1)))) .non)))
    (.cons (.asg 4 (.tup (.cons (.var 6) (.cons (.var 7) (.cons (.var 8) .nil)))))
    (.cons (.ife (.or (.eq (.var 12) (.cst (.int 0))) (.eq (.fld (.var 0) (wd 0)) (.cst (.str (wd 8))))) (.cons (.ife (.eq (.var 10) (.cst (.str (wd 27)))) (.cons (.asg 4 (.call "given_back" (.cons (.var 0) (.cons (.isnn (.var 9)) (.cons (.var 4) (.cons (.var 11) .nil))))))
    .nil) (.cons (.ife (.isn (.var 9)) (.cons (.asg 4 (.call "taken_late" (.cons (.var 0) (.cons (.var 5) (.cons (.var 4) (.cons (.var 11) .nil))))))
    .nil) (.cons (.asg 4 (.call "taken_open" (.cons (.var 0) (.cons (.var 4) (.cons (.var 11) .nil)))))
    .nil))
    .nil))
    .nil) .nil)
    (.cons (.ret (.add (.add (.tup (.cons (.var 5) .nil)) (.var 4)) (.tup (.cons (.var 9) (.cons (.var 3) .nil)))))
    .nil)))))))⟩
/-- come_faults: 0 standing, 1 deed, 2 after, 3 times, 4 found -/
def d_come_faults : Def := ⟨3, 5, (.cons (.asg 3 (.idx (.idx (.idx (.var 0) (.cst (.int 5))) (.idx (.var 1) (.cst (.int 1)))) (.cst (.int 2))))
    (.cons (.asg 4 (.lst .nil))
    (.cons (.ife (.and (.gt (.var 3) (.cst (.int 0))) (.or (.gt (.idx (.var 2) (.cst (.int 2))) (.idx (.var 0) (.cst (.int 2)))) (.gt (.idx (.var 2) (.cst (.int 3))) (.idx (.var 0) (.cst (.int 3)))))) (.cons (.expr (.bm .append (.var 4) (.cons (.cst (.str (wd 34))) .nil)))
    .nil) .nil)
    (.cons (.ife (.and (.eq (.var 3) (.cst (.int 0))) (.eq (.slc (.var 2) (.som (.cst (.int 2))) (.som (.cst (.int 4)))) (.slc (.var 0) (.som (.cst (.int 2))) (.som (.cst (.int 4)))))) (.cons (.expr (.bm .append (.var 4) (.cons (.cst (.str (wd 35))) .nil)))
    .nil) .nil)
    (.cons (.ret (.var 4))
    .nil)))))⟩
/-- common_deeds: 0 world, 1 here, 2 there, 3 others, 4 deed -/
def d_common_deeds : Def := ⟨3, 5, (.cons (.asg 3 (.call "all_deeds" (.cons (.var 0) (.cons (.var 2) .nil))))
    (.cons (.ret (.lc (.lc [4] (.nm 4) (.val (.call "all_deeds" (.cons (.var 0) (.cons (.var 1) .nil)))) (.som (.inn (.var 4) (.var 3))) (.var 4))))
    .nil))⟩
/-- deed_in: 0 words, 1 number -/
def d_deed_in : Def := ⟨1, 2, (.cons (.ife (.or (.not (.var 0)) (.or (.nin (.idx (.var 0) (.cst (.int 0))) (.glb "SIZES")) (.ne (.bi .len (.cons (.var 0) .nil)) (.idx (.glb "SIZES") (.idx (.var 0) (.cst (.int 0))))))) (.cons (.ret (.cst .non))
    .nil) .nil)
    (.cons (.ife (.eq (.idx (.var 0) (.cst (.int 0))) (.cst (.str (wd 21)))) (.cons (.asg 1 (.call "number_of" (.cons (.idx (.var 0) (.cst (.int 2))) .nil)))
    (.cons (.ret (.ite (.and (.inn (.idx (.var 0) (.cst (.int 1))) (.tup (.cons (.cst (.str (wd 28))) (.cons (.cst (.str (wd 27))) .nil)))) (.var 1)) (.tup (.cons (.cst (.str (wd 21))) (.cons (.idx (.var 0) (.cst (.int 1))) (.cons (.var 1) .nil)))) (.cst .non)))
    .nil)) .nil)
    (.cons (.ife (.eq (.idx (.var 0) (.cst (.int 0))) (.cst (.str (wd 22)))) (.cons (.ret (.ite (.isn (.call "number_of" (.cons (.idx (.var 0) (.cst (.int 1))) .nil))) (.cst .non) (.tup (.cons (.cst (.str (wd 22))) (.cons (.call "number_of" (.cons (.idx (.var 0) (.cst (.int 1))) .nil)) .nil)))))
    .nil) .nil)
    (.cons (.ret (.tup (.cons (.idx (.var 0) (.cst (.int 0))) .nil)))
    .nil))))⟩
/-- deeds_of: 0 world, 1 standing -/
def d_deeds_of : Def := ⟨2, 2, (.cons (.expr (.call "check_world" (.cons (.var 0) .nil)))
    (.cons (.ret (.call "all_deeds" (.cons (.var 0) (.cons (.var 1) .nil))))
    .nil))⟩
/-- faults_of: 0 rule, 1 life, 2 standing, 3 deed, 4 found, 5 word, 6 after, 7 fault -/
def d_faults_of : Def := ⟨4, 8, (.cons (.asgT [5, 6] (.call "step" (.cons (.var 0) (.cons (.var 1) (.cons (.var 2) (.cons (.var 3) .nil))))))
    (.cons (.ife (.eq (.var 5) (.cst (.str (wd 10)))) (.cons (.ret (.lst .nil))
    .nil) .nil)
    (.cons (.asg 4 (.ite (.eq (.idx (.var 3) (.cst (.int 0))) (.cst (.str (wd 22)))) (.call "come_faults" (.cons (.var 2) (.cons (.var 3) (.cons (.var 6) .nil)))) (.lst .nil)))
    (.cons (.ife (.and (.gt (.call "net_of" (.cons (.var 6) .nil)) (.idx (.var 6) (.cst (.int 0)))) (.gt (.idx (.var 6) (.cst (.int 2))) (.idx (.var 2) (.cst (.int 2))))) (.cons (.expr (.bm .append (.var 4) (.cons (.cst (.str (wd 33))) .nil)))
    .nil) .nil)
    (.cons (.ife (.and (.gt (.idx (.var 6) (.cst (.int 3))) (.idx (.var 2) (.cst (.int 3)))) (.gt (.idx (.var 6) (.cst (.int 3))) (.idx (.var 6) (.cst (.int 2))))) (.cons (.expr (.bm .append (.var 4) (.cons (.cst (.str (wd 36))) .nil)))
    .nil) .nil)
    (.cons (.ife (.and (.gt (.idx (.var 6) (.cst (.int 1))) (.cst (.int 0))) (.gt (.idx (.var 6) (.cst (.int 1))) (.sub (.idx (.var 6) (.cst (.int 0))) (.call "net_of" (.cons (.var 6) .nil))))) (.cons (.expr (.bm .append (.var 4) (.cons (.cst (.str (wd 37))) .nil)))
    .nil) .nil)
    (.cons (.ret (.lc (.lc [7] (.nm 7) (.val (.glb "FAULTS")) (.som (.inn (.var 7) (.var 4))) (.var 7))))
    .nil)))))))⟩
/-- first_unlike: 0 one, 1 other, 2 world, 3 begin, 4 known, 5 waiting, 6 at, 7 history, 8 deed, 9 here, 10 there, 11 pair, 12 first, 13 second -/
def d_first_unlike : Def := ⟨3, 14, (.cons (.asg 3 (.tup (.cons (.call "start" (.cons (.idx (.var 2) (.cst (.int 0))) .nil)) (.cons (.call "start" (.cons (.idx (.var 2) (.cst (.int 0))) .nil)) .nil))))
    (.cons (.asg 4 (.dN1 (.var 3) (.tup .nil)))
    (.cons (.asg 5 (.lst (.cons (.var 3) .nil)))
    (.cons (.asg 6 (.cst (.int 0)))
    (.cons (.whl (.lt (.var 6) (.bi .len (.cons (.var 5) .nil))) (.cons (.asgT [9, 10] (.idx (.var 5) (.var 6)))
    (.cons (.asg 7 (.idx (.var 4) (.idx (.var 5) (.var 6))))
    (.cons (.aug 6 (.cst (.int 1)))
    (.cons (.fr (.nm 8) (.val (.call "common_deeds" (.cons (.var 2) (.cons (.var 9) (.cons (.var 10) .nil))))) (.cons (.par 12 13 (.call "step" (.cons (.var 0) (.cons (.idx (.var 2) (.cst (.int 1))) (.cons (.var 9) (.cons (.var 8) .nil))))) (.call "step" (.cons (.var 1) (.cons (.idx (.var 2) (.cst (.int 1))) (.cons (.var 10) (.cons (.var 8) .nil))))))
    (.cons (.ife (.or (.ne (.idx (.var 12) (.cst (.int 0))) (.idx (.var 13) (.cst (.int 0)))) (.ne (.call "shown_of" (.cons (.idx (.var 12) (.cst (.int 1))) .nil)) (.call "shown_of" (.cons (.idx (.var 13) (.cst (.int 1))) .nil)))) (.cons (.ret (.bi .list (.cons (.add (.var 7) (.tup (.cons (.var 8) .nil))) .nil)))
    .nil) .nil)
    (.cons (.asg 11 (.tup (.cons (.idx (.var 12) (.cst (.int 1))) (.cons (.idx (.var 13) (.cst (.int 1))) .nil))))
    (.cons (.ife (.nin (.var 11) (.var 4)) (.cons (.iset (.var 4) (.var 11) (.add (.var 7) (.tup (.cons (.var 8) .nil))))
    (.cons (.expr (.bm .append (.var 5) (.cons (.var 11) .nil)))
    .nil)) .nil)
    .nil)))))
    .nil)))))
    (.cons (.ret (.cst .non))
    .nil))))))⟩
/-- given_back: 0 rule, 1 is_open, 2 sums, 3 asked, 4 held, 5 taken, 6 given -/
def d_given_back : Def := ⟨4, 7, (.cons (.asgT [4, 5, 6] (.var 2))
    (.cons (.ife (.eq (.fld (.var 0) (wd 4)) (.cst (.str (wd 13)))) (.cons (.asg 3 (.bi .max (.cons (.bi .min (.cons (.var 3) (.cons (.sub (.var 5) (.var 6)) .nil))) (.cons (.cst (.int 0)) .nil))))
    .nil) .nil)
    (.cons (.ret (.tup (.cons (.add (.var 4) (.ite (.and (.var 1) (.eq (.fld (.var 0) (wd 3)) (.cst (.str (wd 14))))) (.var 3) (.cst (.int 0)))) (.cons (.var 5) (.cons (.add (.var 6) (.var 3)) .nil)))))
    .nil)))⟩
/-- greatest: 0 rule, 1 world, 2 standing, 3 histories, 4 here, 5 best, 6 row -/
def d_greatest : Def := ⟨3, 7, (.cons (.expr (.call "check_world" (.cons (.var 1) .nil)))
    (.cons (.par 5 6 (.call "net_of" (.cons (.var 2) .nil)) (.tup .nil))
    (.cons (.asg 3 (.call "walked" (.cons (.var 0) (.cons (.var 1) (.cons (.var 2) .nil)))))
    (.cons (.fr (.nm 4) (.val (.var 3)) (.cons (.ife (.gt (.call "net_of" (.cons (.var 4) .nil)) (.var 5)) (.cons (.par 5 6 (.call "net_of" (.cons (.var 4) .nil)) (.idx (.var 3) (.var 4)))
    .nil) .nil)
    .nil))
    (.cons (.ret (.tup (.cons (.var 5) (.cons (.bi .list (.cons (.var 6) .nil)) .nil))))
    .nil)))))⟩
/-- idle: 0 rule, 1 world, 2 found, 3 part, 4 some, 5 value -/
def d_idle : Def := ⟨2, 6, (.cons (.expr (.call "check_world" (.cons (.var 1) .nil)))
    (.cons (.asg 2 (.lst .nil))
    (.cons (.fr (.tp [3, 4]) (.zip2 (.glb "PARTS") (.glb "VALUES")) (.cons (.ife (.bx .all (.lc [5] (.nm 5) (.val (.var 4)) .non (.isn (.call "first_unlike" (.cons (.var 0) (.cons (.meth "turned" (.var 0) (.cons (.var 3) (.cons (.var 5) .nil))) (.cons (.var 1) .nil))))))) (.cons (.expr (.bm .append (.var 2) (.cons (.var 3) .nil)))
    .nil) .nil)
    .nil))
    (.cons (.ret (.var 2))
    .nil))))⟩
/-- is_deed: 0 thing -/
def d_is_deed : Def := ⟨1, 1, (.cons (.ife (.or (.not (.isi (.var 0) .tup)) (.or (.not (.var 0)) (.or (.not (.isi (.idx (.var 0) (.cst (.int 0))) .str)) (.nin (.idx (.var 0) (.cst (.int 0))) (.glb "SIZES"))))) (.cons (.ret (.cst (.bl false)))
    .nil) .nil)
    (.cons (.ife (.ne (.bi .len (.cons (.var 0) .nil)) (.idx (.glb "SIZES") (.idx (.var 0) (.cst (.int 0))))) (.cons (.ret (.cst (.bl false)))
    .nil) .nil)
    (.cons (.ife (.eq (.idx (.var 0) (.cst (.int 0))) (.cst (.str (wd 21)))) (.cons (.ret (.and (.isi (.idx (.var 0) (.cst (.int 1))) .str) (.and (.inn (.idx (.var 0) (.cst (.int 1))) (.tup (.cons (.cst (.str (wd 28))) (.cons (.cst (.str (wd 27))) .nil)))) (.call "is_number" (.cons (.idx (.var 0) (.cst (.int 2))) (.cons (.cst (.int 1)) .nil))))))
    .nil) .nil)
    (.cons (.ret (.or (.ne (.idx (.var 0) (.cst (.int 0))) (.cst (.str (wd 22)))) (.call "is_number" (.cons (.idx (.var 0) (.cst (.int 1))) (.cons (.cst (.int 0)) .nil)))))
    .nil))))⟩
/-- is_done: 0 till, 1 words, 2 deed, 3 good -/
def d_is_done : Def := ⟨2, 4, (.cons (.ife (.or (.lt (.bi .len (.cons (.var 1) .nil)) (.cst (.int 3))) (.or (.not (.call "is_name" (.cons (.idx (.var 1) (.cst (.int 1))) .nil))) (.nin (.idx (.var 1) (.cst (.int 0))) (.tup (.cons (.cst (.str (wd 38))) (.cons (.cst (.str (wd 39))) .nil)))))) (.cons (.ret (.cst (.bl false)))
    .nil) .nil)
    (.cons (.ife (.eq (.idx (.var 1) (.cst (.int 0))) (.cst (.str (wd 38)))) (.cons (.ret (.call "is_opened" (.cons (.var 0) (.cons (.var 1) .nil))))
    .nil) .nil)
    (.cons (.asg 2 (.call "deed_in" (.cons (.slc (.var 1) (.som (.cst (.int 2))) .non) .nil)))
    (.cons (.ife (.isn (.var 2)) (.cons (.ret (.cst (.bl false)))
    .nil) .nil)
    (.cons (.asg 3 (.cst (.bl true)))
    (.cons (.tr (.cons (.expr (.meth "do" (.var 0) (.cons (.idx (.var 1) (.cst (.int 1))) (.cons (.var 2) .nil))))
    .nil) [("NoHold", none, (.cst 3 (.bl false))), ("Refused", none, (.cst 3 (.bl false)))])
    (.cons (.ret (.var 3))
    .nil)))))))⟩
/-- is_name: 0 word, 1 sign -/
def d_is_name : Def := ⟨1, 2, (.cons (.ret (.and (.chn true true (.cst (.int 1)) (.bi .len (.cons (.var 0) .nil)) (.cst (.int 8))) (.bx .all (.lc [1] (.nm 1) (.val (.var 0)) .non (.inn (.var 1) (.glb "SMALL"))))))
    .nil)⟩
/-- is_number: 0 thing, 1 least -/
def d_is_number : Def := ⟨2, 2, (.cons (.ret (.and (.isi (.var 0) .int) (.and (.not (.isi (.var 0) .bl)) (.ge (.var 0) (.var 1)))))
    .nil)⟩
/-- is_opened: 0 till, 1 words, 2 good -/
def d_is_opened : Def := ⟨2, 3, (.cons (.ife (.or (.ne (.bi .len (.cons (.var 1) .nil)) (.cst (.int 3))) (.isn (.call "number_of" (.cons (.idx (.var 1) (.cst (.int 2))) .nil)))) (.cons (.ret (.cst (.bl false)))
    .nil) .nil)
    (.cons (.asg 2 (.cst (.bl true)))
    (.cons (.tr (.cons (.expr (.meth "begin" (.var 0) (.cons (.idx (.var 1) (.cst (.int 1))) (.cons (.call "number_of" (.cons (.idx (.var 1) (.cst (.int 2))) .nil)) .nil))))
    .nil) [("BadHold", none, (.cst 2 (.bl false)))])
    (.cons (.ret (.var 2))
    .nil))))⟩
/-- is_value: 0 value, 1 some -/
def d_is_value : Def := ⟨2, 2, (.cons (.ife (.isi (.idx (.var 1) (.cst (.int 0))) .bl) (.cons (.ret (.isi (.var 0) .bl))
    .nil) .nil)
    (.cons (.ret (.and (.isi (.var 0) .str) (.inn (.var 0) (.var 1))))
    .nil))⟩
/-- is_whole: 0 thing, 1 least, 2 most -/
def d_is_whole : Def := ⟨3, 3, (.cons (.ret (.and (.isi (.var 0) .int) (.and (.not (.isi (.var 0) .bl)) (.chn true true (.var 1) (.var 0) (.var 2)))))
    .nil)⟩
/-- is_world: 0 thing -/
def d_is_world : Def := ⟨1, 1, (.cons (.ife (.or (.not (.isi (.var 0) .tup)) (.or (.ne (.bi .len (.cons (.var 0) .nil)) (.cst (.int 4))) (.or (.not (.call "is_whole" (.cons (.idx (.var 0) (.cst (.int 0))) (.cons (.cst (.int 1)) (.cons (.cst (.int 3)) .nil))))) (.not (.call "is_whole" (.cons (.idx (.var 0) (.cst (.int 1))) (.cons (.cst (.int 1)) (.cons (.cst (.int 2)) .nil)))))))) (.cons (.ret (.cst (.bl false)))
    .nil) .nil)
    (.cons (.ret (.and (.call "is_whole" (.cons (.idx (.var 0) (.cst (.int 2))) (.cons (.cst (.int 0)) (.cons (.cst (.int 2)) .nil)))) (.call "is_whole" (.cons (.idx (.var 0) (.cst (.int 3))) (.cons (.idx (.var 0) (.cst (.int 0))) (.cons (.cst (.int 3)) .nil))))))
    .nil))⟩
/-- least_faults: 0 rule, 1 world, 2 histories, 3 found, 4 here, 5 deed, 6 fault -/
def d_least_faults : Def := ⟨2, 7, (.cons (.asg 2 (.call "walked" (.cons (.var 0) (.cons (.var 1) (.cons (.call "start" (.cons (.idx (.var 1) (.cst (.int 0))) .nil)) .nil)))))
    (.cons (.asg 3 .dS0)
    (.cons (.fr (.nm 4) (.val (.var 2)) (.cons (.fr (.nm 5) (.val (.call "all_deeds" (.cons (.var 1) (.cons (.var 4) .nil)))) (.cons (.fr (.nm 6) (.val (.call "faults_of" (.cons (.var 0) (.cons (.idx (.var 1) (.cst (.int 1))) (.cons (.var 4) (.cons (.var 5) .nil)))))) (.cons (.ife (.nin (.var 6) (.var 3)) (.cons (.iset (.var 3) (.var 6) (.bi .list (.cons (.add (.idx (.var 2) (.var 4)) (.tup (.cons (.var 5) .nil))) .nil)))
    .nil) .nil)
    .nil))
    .nil))
    .nil))
    (.cons (.ret (.var 3))
    .nil))))⟩
/-- many: 0 rule, 1 world -/
def d_many : Def := ⟨2, 2, (.cons (.expr (.call "check_world" (.cons (.var 1) .nil)))
    (.cons (.ret (.bi .len (.cons (.call "walked" (.cons (.var 0) (.cons (.var 1) (.cons (.call "start" (.cons (.idx (.var 1) (.cst (.int 0))) .nil)) .nil)))) .nil)))
    .nil))⟩
/-- mends: 0 rule, 1 world, 2 faults, 3 size, 4 found, 5 row, 6 there, 7 fault -/
def d_mends : Def := ⟨3, 8, (.cons (.expr (.call "check_world" (.cons (.var 1) .nil)))
    (.cons (.expr (.call "check_faults" (.cons (.var 2) .nil)))
    (.cons (.fr (.nm 3) (.rng1 (.add (.bi .len (.cons (.glb "PARTS") .nil)) (.cst (.int 1)))) (.cons (.asg 4 (.lst .nil))
    (.cons (.fr (.nm 5) (.val (.call "turnings" (.cons (.var 0) (.cons (.cst (.int 0)) (.cons (.var 3) .nil))))) (.cons (.asg 6 (.call "least_faults" (.cons (.call "with_turns" (.cons (.var 0) (.cons (.var 5) .nil))) (.cons (.var 1) .nil))))
    (.cons (.ife (.not (.bx .any (.lc [7] (.nm 7) (.val (.var 2)) .non (.inn (.var 7) (.var 6))))) (.cons (.expr (.bm .append (.var 4) (.cons (.var 5) .nil)))
    .nil) .nil)
    .nil)))
    (.cons (.ife (.var 4) (.cons (.ret (.var 4))
    .nil) .nil)
    .nil))))
    (.cons (.ret (.lst .nil))
    .nil))))⟩
/-- net_of: 0 standing -/
def d_net_of : Def := ⟨1, 1, (.cons (.ret (.sub (.idx (.var 0) (.cst (.int 2))) (.idx (.var 0) (.cst (.int 3)))))
    .nil)⟩
/-- never: 0 rule, 1 world, 2 found, 3 fault -/
def d_never : Def := ⟨2, 4, (.cons (.expr (.call "check_world" (.cons (.var 1) .nil)))
    (.cons (.asg 2 (.call "least_faults" (.cons (.var 0) (.cons (.var 1) .nil))))
    (.cons (.ret (.lc (.lc [3] (.nm 3) (.val (.glb "FAULTS")) (.som (.nin (.var 3) (.var 2))) (.var 3))))
    .nil)))⟩
/-- number_of: 0 word, 1 sign -/
def d_number_of : Def := ⟨1, 2, (.cons (.ife (.or (.not (.chn true true (.cst (.int 1)) (.bi .len (.cons (.var 0) .nil)) (.cst (.int 9)))) (.or (.not (.bx .all (.lc [1] (.nm 1) (.val (.var 0)) .non (.inn (.var 1) (.glb "FIGURES"))))) (.ne (.bi .str (.cons (.bi .int (.cons (.var 0) .nil)) .nil)) (.var 0)))) (.cons (.ret (.cst .non))
    .nil) .nil)
    (.cons (.ret (.bi .int (.cons (.var 0) .nil)))
    .nil))⟩
/-- order: 0 rule, 1 world, 2 one, 3 other, 4 histories, 5 standing, 6 deeds -/
def d_order : Def := ⟨4, 7, (.cons (.expr (.call "check_world" (.cons (.var 1) .nil)))
    (.cons (.asg 4 (.call "walked" (.cons (.var 0) (.cons (.var 1) (.cons (.call "start" (.cons (.idx (.var 1) (.cst (.int 0))) .nil)) .nil)))))
    (.cons (.fr (.nm 5) (.val (.var 4)) (.cons (.asg 6 (.call "all_deeds" (.cons (.var 1) (.cons (.var 5) .nil))))
    (.cons (.ife (.and (.inn (.var 2) (.var 6)) (.and (.inn (.var 3) (.var 6)) (.not (.call "both_ways" (.cons (.var 0) (.cons (.idx (.var 1) (.cst (.int 1))) (.cons (.var 5) (.cons (.var 2) (.cons (.var 3) .nil))))))))) (.cons (.ret (.bi .list (.cons (.idx (.var 4) (.var 5)) .nil)))
    .nil) .nil)
    .nil)))
    (.cons (.ret (.cst .non))
    .nil))))⟩
/-- parting: 0 one, 1 other, 2 world -/
def d_parting : Def := ⟨3, 3, (.cons (.expr (.call "check_world" (.cons (.var 2) .nil)))
    (.cons (.ret (.call "first_unlike" (.cons (.var 0) (.cons (.var 1) (.cons (.var 2) .nil)))))
    .nil))⟩
/-- read: 0 text, 1 lines, 2 till, 3 at, 4 line -/
def d_read : Def := ⟨1, 5, (.cons (.asg 1 (.bm .split (.var 0) (.cons (.cst (.str (wd 47))) .nil)))
    (.cons (.asg 2 (.call "till_in" (.cons (.idx (.var 1) (.cst (.int 0))) .nil)))
    (.cons (.ife (.isn (.var 2)) (.cons (.rse "BadLine" (.cons (.cst (.int 1)) .nil))
    .nil) .nil)
    (.cons (.fr (.tp [3, 4]) (.enm (.slc (.var 1) (.som (.cst (.int 1))) .non)) (.cons (.ife (.not (.call "is_done" (.cons (.var 2) (.cons (.bm .split (.var 4) (.cons (.cst (.str (wd 46))) .nil)) .nil)))) (.cons (.rse "BadLine" (.cons (.add (.var 3) (.cst (.int 2))) .nil))
    .nil) .nil)
    .nil))
    (.cons (.ret (.var 2))
    .nil)))))⟩
/-- released: 0 rule, 1 standing, 2 agreed, 3 held, 4 taken, 5 given, 6 age, 7 mail, 8 word, 9 asked, 10 times -/
def d_released : Def := ⟨2, 11, (.cons (.asgT [2, 3, 4, 5, 6, 7] (.var 1))
    (.cons (.ife (.isn (.var 6)) (.cons (.ret (.cst .non))
    .nil) .nil)
    (.cons (.ife (.fld (.var 0) (wd 7)) (.cons (.asg 7 (.bx .tuple (.lc [8, 9, 10] (.tp [8, 9, 10]) (.val (.var 7)) .non (.tup (.cons (.var 8) (.cons (.var 9) (.cons (.bi .max (.cons (.var 10) (.cons (.cst (.int 1)) .nil))) .nil)))))))
    .nil) .nil)
    (.cons (.ret (.tup (.cons (.var 2) (.cons (.cst (.int 0)) (.cons (.var 4) (.cons (.var 5) (.cons (.cst .non) (.cons (.var 7) .nil))))))))
    .nil))))⟩
/-- replay: 0 rule, 1 life, 2 log, 3 till, 4 row -/
def d_replay : Def := ⟨3, 5, (.cons (.asg 3 (.make "Till" (.cons (.var 0) (.cons (.var 1) .nil))))
    (.cons (.fr (.nm 4) (.val (.var 2)) (.cons (.ife (.eq (.idx (.var 4) (.cst (.int 0))) (.cst (.str (wd 38)))) (.cons (.expr (.meth "begin" (.var 3) (.cons (.idx (.var 4) (.cst (.int 1))) (.cons (.idx (.var 4) (.cst (.int 2))) .nil))))
    .nil) (.cons (.expr (.meth "do" (.var 3) (.cons (.idx (.var 4) (.cst (.int 1))) (.cons (.idx (.var 4) (.cst (.int 2))) .nil))))
    .nil))
    .nil))
    (.cons (.ret (.var 3))
    .nil)))⟩
/-- rule_of: 0 row -/
def d_rule_of : Def := ⟨1, 1, (.cons (.ret (.make "Rule" (.cons (.idx (.var 0) (.cst (.int 0))) (.cons (.idx (.var 0) (.cst (.int 1))) (.cons (.idx (.var 0) (.cst (.int 2))) (.cons (.idx (.var 0) (.cst (.int 3))) (.cons (.idx (.var 0) (.cst (.int 4))) (.cons (.idx (.var 0) (.cst (.int 5))) (.cons (.idx (.var 0) (.cst (.int 6))) (.cons (.idx (.var 0) (.cst (.int 7))) .nil))))))))))
    .nil)⟩
/-- run: 0 rule, 1 life, 2 agreed, 3 history, 4 standing, 5 found, 6 deed, 7 word -/
def d_run : Def := ⟨4, 8, (.cons (.asg 4 (.call "start" (.cons (.var 2) .nil)))
    (.cons (.asg 5 (.lst .nil))
    (.cons (.fr (.nm 6) (.val (.var 3)) (.cons (.asgT [7, 4] (.call "step" (.cons (.var 0) (.cons (.var 1) (.cons (.var 4) (.cons (.var 6) .nil))))))
    (.cons (.expr (.bm .append (.var 5) (.cons (.var 7) .nil)))
    .nil)))
    (.cons (.ret (.var 5))
    .nil))))⟩
/-- shown_of: 0 standing -/
def d_shown_of : Def := ⟨1, 1, (.cons (.ret (.add (.slc (.var 0) .non (.som (.cst (.int 4)))) (.tup (.cons (.isn (.idx (.var 0) (.cst (.int 4)))) .nil))))
    .nil)⟩
/-- standing_after: 0 rule, 1 life, 2 agreed, 3 history, 4 standing, 5 deed -/
def d_standing_after : Def := ⟨4, 6, (.cons (.asg 4 (.call "start" (.cons (.var 2) .nil)))
    (.cons (.fr (.nm 5) (.val (.var 3)) (.cons (.asg 4 (.idx (.call "step" (.cons (.var 0) (.cons (.var 1) (.cons (.var 4) (.cons (.var 5) .nil))))) (.cst (.int 1))))
    .nil))
    (.cons (.ret (.var 4))
    .nil)))⟩
/-- start: 0 agreed -/
def d_start : Def := ⟨1, 1, (.cons (.ret (.tup (.cons (.var 0) (.cons (.var 0) (.cons (.cst (.int 0)) (.cons (.cst (.int 0)) (.cons (.cst (.int 0)) (.cons (.tup .nil) .nil))))))))
    .nil)⟩
/-- step: 0 rule, 1 life, 2 standing, 3 deed, 4 after -/
def d_step : Def := ⟨4, 5, (.cons (.asg 4 (.call "behind" (.cons (.var 0) (.cons (.var 1) (.cons (.var 2) (.cons (.var 3) .nil))))))
    (.cons (.ret (.ite (.isn (.var 4)) (.tup (.cons (.cst (.str (wd 10))) (.cons (.var 2) .nil))) (.tup (.cons (.cst (.str (wd 8))) (.cons (.var 4) .nil)))))
    .nil))⟩
/-- taken_late: 0 rule, 1 agreed, 2 sums, 3 asked, 4 held, 5 taken, 6 given -/
def d_taken_late : Def := ⟨4, 7, (.cons (.asgT [4, 5, 6] (.var 2))
    (.cons (.ife (.eq (.fld (.var 0) (wd 1)) (.cst (.str (wd 10)))) (.cons (.ret (.var 2))
    .nil) .nil)
    (.cons (.ife (.eq (.fld (.var 0) (wd 1)) (.cst (.str (wd 11)))) (.cons (.asg 3 (.bi .max (.cons (.bi .min (.cons (.var 3) (.cons (.sub (.var 1) (.sub (.var 5) (.var 6))) .nil))) (.cons (.cst (.int 0)) .nil))))
    .nil) .nil)
    (.cons (.ret (.tup (.cons (.var 4) (.cons (.add (.var 5) (.var 3)) (.cons (.var 6) .nil)))))
    .nil))))⟩
/-- taken_open: 0 rule, 1 sums, 2 asked, 3 held, 4 taken, 5 given -/
def d_taken_open : Def := ⟨3, 6, (.cons (.asgT [3, 4, 5] (.var 1))
    (.cons (.ife (.le (.var 2) (.var 3)) (.cons (.ret (.tup (.cons (.sub (.var 3) (.var 2)) (.cons (.add (.var 4) (.var 2)) (.cons (.var 5) .nil)))))
    .nil) .nil)
    (.cons (.ife (.eq (.fld (.var 0) (wd 2)) (.cst (.str (wd 10)))) (.cons (.ret (.var 1))
    .nil) .nil)
    (.cons (.ret (.tup (.cons (.cst (.int 0)) (.cons (.add (.var 4) (.ite (.eq (.fld (.var 0) (wd 2)) (.cst (.str (wd 13)))) (.var 3) (.var 2))) (.cons (.var 5) .nil)))))
    .nil))))⟩
/-- ticked: 0 life, 1 standing, 2 agreed, 3 held, 4 taken, 5 given, 6 age, 7 mail -/
def d_ticked : Def := ⟨2, 8, (.cons (.asgT [2, 3, 4, 5, 6, 7] (.var 1))
    (.cons (.ife (.isn (.var 6)) (.cons (.ret (.cst .non))
    .nil) .nil)
    (.cons (.ife (.lt (.add (.var 6) (.cst (.int 1))) (.var 0)) (.cons (.ret (.tup (.cons (.var 2) (.cons (.var 3) (.cons (.var 4) (.cons (.var 5) (.cons (.add (.var 6) (.cst (.int 1))) (.cons (.var 7) .nil))))))))
    .nil) .nil)
    (.cons (.ret (.tup (.cons (.var 2) (.cons (.cst (.int 0)) (.cons (.var 4) (.cons (.var 5) (.cons (.cst .non) (.cons (.var 7) .nil))))))))
    .nil))))⟩
/-- till_in: 0 line, 1 words, 2 row, 3 made, 4 word, 5 some -/
def d_till_in : Def := ⟨1, 6, (.cons (.asg 1 (.bm .split (.var 0) (.cons (.cst (.str (wd 46))) .nil)))
    (.cons (.ife (.or (.ne (.bi .len (.cons (.var 1) .nil)) (.add (.bi .len (.cons (.glb "VALUES") .nil)) (.cst (.int 2)))) (.or (.ne (.idx (.var 1) (.cst (.int 0))) (.cst (.str (wd 48)))) (.not (.call "number_of" (.cons (.idx (.var 1) (.neg (.cst (.int 1)))) .nil))))) (.cons (.ret (.cst .non))
    .nil) .nil)
    (.cons (.asg 2 (.lc (.lc [4, 5] (.tp [4, 5]) (.zip2 (.slc (.var 1) (.som (.cst (.int 1))) .non) (.glb "VALUES")) .non (.ite (.isi (.idx (.var 5) (.cst (.int 0))) .bl) (.bm .get1 (.glb "TRUTHS") (.cons (.var 4) .nil)) (.var 4)))))
    (.cons (.asg 3 (.cst .non))
    (.cons (.tr (.cons (.asg 3 (.make "Till" (.cons (.call "rule_of" (.cons (.var 2) .nil)) (.cons (.call "number_of" (.cons (.idx (.var 1) (.neg (.cst (.int 1)))) .nil)) .nil))))
    .nil) [("BadRule", none, (.cst 3 .non))])
    (.cons (.ret (.var 3))
    .nil))))))⟩
/-- turnings: 0 rule, 1 first, 2 size, 3 found, 4 at, 5 value, 6 row -/
def d_turnings : Def := ⟨3, 7, (.cons (.ife (.eq (.var 2) (.cst (.int 0))) (.cons (.ret (.lst (.cons (.tup .nil) .nil)))
    .nil) .nil)
    (.cons (.asg 3 (.lst .nil))
    (.cons (.fr (.nm 4) (.rng2 (.var 1) (.bi .len (.cons (.glb "PARTS") .nil))) (.cons (.fr (.nm 5) (.val (.idx (.glb "VALUES") (.var 4))) (.cons (.ife (.ne (.var 5) (.idx (.meth "parts" (.var 0) .nil) (.var 4))) (.cons (.asg 3 (.add (.var 3) (.lc (.lc [6] (.nm 6) (.val (.call "turnings" (.cons (.var 0) (.cons (.add (.var 4) (.cst (.int 1))) (.cons (.sub (.var 2) (.cst (.int 1))) .nil))))) .non (.add (.tup (.cons (.tup (.cons (.idx (.glb "PARTS") (.var 4)) (.cons (.var 5) .nil))) .nil)) (.var 6))))))
    .nil) .nil)
    .nil))
    .nil))
    (.cons (.ret (.var 3))
    .nil))))⟩
/-- walked: 0 rule, 1 world, 2 begin, 3 found, 4 waiting, 5 at, 6 here, 7 deed, 8 after -/
def d_walked : Def := ⟨3, 9, (.cons (.asg 3 (.dN1 (.var 2) (.tup .nil)))
    (.cons (.asg 4 (.lst (.cons (.var 2) .nil)))
    (.cons (.asg 5 (.cst (.int 0)))
    (.cons (.whl (.lt (.var 5) (.bi .len (.cons (.var 4) .nil))) (.cons (.asg 6 (.idx (.var 4) (.var 5)))
    (.cons (.aug 5 (.cst (.int 1)))
    (.cons (.fr (.nm 7) (.val (.call "all_deeds" (.cons (.var 1) (.cons (.var 6) .nil)))) (.cons (.asg 8 (.idx (.call "step" (.cons (.var 0) (.cons (.idx (.var 1) (.cst (.int 1))) (.cons (.var 6) (.cons (.var 7) .nil))))) (.cst (.int 1))))
    (.cons (.ife (.nin (.var 8) (.var 3)) (.cons (.iset (.var 3) (.var 8) (.add (.idx (.var 3) (.var 6)) (.tup (.cons (.var 7) .nil))))
    (.cons (.expr (.bm .append (.var 4) (.cons (.var 8) .nil)))
    .nil)) .nil)
    .nil)))
    .nil))))
    (.cons (.ret (.var 3))
    .nil)))))⟩
/-- with_turns: 0 rule, 1 row, 2 table, 3 part, 4 value -/
def d_with_turns : Def := ⟨2, 5, (.cons (.asg 2 (.bi .dict (.cons (.var 1) .nil)))
    (.cons (.ret (.call "rule_of" (.cons (.lc (.lc [3, 4] (.tp [3, 4]) (.zip2 (.glb "PARTS") (.meth "parts" (.var 0) .nil)) .non (.bm .get2 (.var 2) (.cons (.var 3) (.cons (.var 4) .nil))))) .nil)))
    .nil))⟩
/-- word_of: 0 value -/
def d_word_of : Def := ⟨1, 1, (.cons (.ife (.isi (.var 0) .bl) (.cons (.ret (.ite (.var 0) (.cst (.str (wd 44))) (.cst (.str (wd 45)))))
    .nil) .nil)
    (.cons (.ret (.var 0))
    .nil))⟩
/-- write: 0 till, 1 lines, 2 word, 3 name, 4 rest, 5 parts, 6 value, 7 part -/
def d_write : Def := ⟨1, 8, (.cons (.asg 1 (.lst (.cons (.bm .join (.cst (.str (wd 46))) (.cons (.add (.add (.lst (.cons (.cst (.str (wd 48))) .nil)) (.lc (.lc [6] (.nm 6) (.val (.meth "parts" (.fld (.var 0) (wd 48)) .nil)) .non (.call "word_of" (.cons (.var 6) .nil))))) (.lst (.cons (.bi .str (.cons (.fld (.var 0) (wd 57)) .nil)) .nil))) .nil)) .nil)))
    (.cons (.fr (.tp [2, 3, 4]) (.val (.meth "log" (.var 0) .nil)) (.cons (.asg 5 (.ite (.eq (.var 2) (.cst (.str (wd 38)))) (.lst (.cons (.var 4) .nil)) (.bi .list (.cons (.var 4) .nil))))
    (.cons (.expr (.bm .append (.var 1) (.cons (.bm .join (.cst (.str (wd 46))) (.cons (.add (.lst (.cons (.var 2) (.cons (.var 3) .nil))) (.lc (.lc [7] (.nm 7) (.val (.var 5)) .non (.bi .str (.cons (.var 7) .nil))))) .nil)) .nil)))
    .nil)))
    (.cons (.ret (.bm .join (.cst (.str (wd 47))) (.cons (.var 1) .nil)))
    .nil)))⟩
end DL
end

section
set_option maxRecDepth 100000
set_option maxHeartbeats 1000000
/-! D2a: running the meaning. -/
namespace D
open PySem DL
theorem wd_nodup : words.Nodup := by decide +kernel
theorem words_len : words.length = 69 := by decide +kernel
theorem wd_eq (i j : Nat) (hi : i < 69) (hj : j < 69) : (wd i = wd j) = (i = j) := by
  have h1 : i < words.length := by rw [words_len]; exact hi
  have h2 : j < words.length := by rw [words_len]; exact hj
  unfold wd
  rw [List.getD_eq_getElem?_getD, List.getD_eq_getElem?_getD, List.getElem?_eq_getElem h1, List.getElem?_eq_getElem h2]
  exact propext (List.getElem_inj wd_nodup)
theorem wd_ok (i : Nat) : PyData.strOk (wd i) = true := by
  have h : ∀ i, i < 70 → PyData.strOk (wd i) = true := by decide +kernel
  by_cases hi : i < 70
  · exact h i hi
  · have e : wd i = "" := by
      unfold wd
      rw [List.getD_eq_getElem?_getD, List.getElem?_eq_none (by rw [words_len]; omega)]
      rfl
    rw [e]
    decide +kernel
/-! ### running: each step by its own lemma, no binder in sight -/
section
variable (G : Glb) (F : Fns) (n : Nat)
def k1 {α β : Type} (op : α → M β) : R α → R β
  | .ok x s => op x s
  | .ex c p s => .ex c p s
  | .bad => .bad
def k2 (op : L → L → M L) (b : DE) (e : Env) : R L → R L
  | .ok x s => k1 (op x) (den G F n b e s)
  | .ex c p s => .ex c p s
  | .bad => .bad
/-- an operation of an environment -/
def kA (b : DE) (e : Env) (x : L) : R Bool → R L
  | .ok true s => den G F n b e s
  | .ok false s => .ok x s
  | .ex c p s => .ex c p s
  | .bad => .bad
def kO (b : DE) (e : Env) (x : L) : R Bool → R L
  | .ok true s => .ok x s
  | .ok false s => den G F n b e s
  | .ex c p s => .ex c p s
  | .bad => .bad
def kAnd (b : DE) (e : Env) : R L → R L
  | .ok x s => kA G F n b e x (truM x s)
  | .ex c p s => .ex c p s
  | .bad => .bad
def kOr (b : DE) (e : Env) : R L → R L
  | .ok x s => kO G F n b e x (truM x s)
  | .ex c p s => .ex c p s
  | .bad => .bad
def kI (a b : DE) (e : Env) : R Bool → R L
  | .ok true s => den G F n a e s
  | .ok false s => den G F n b e s
  | .ex c p s => .ex c p s
  | .bad => .bad
def kCons (x : L) : R (List L) → R (List L)
  | .ok xs s' => .ok (x :: xs) s'
  | .ex c p s' => .ex c p s'
  | .bad => .bad
def kCs (r : DEs) (e : Env) : R L → R (List L)
  | .ok x s => kCons x (dens G F n r e s)
  | .ex c p s => .ex c p s
  | .bad => .bad
def notO (x : L) : M L := fun s => (match truM x s with
  | .ok b s' => .ok (.bl !b) s'
  | .ex c p s => .ex c p s
  | .bad => .bad)
def neO (x y : L) : M L := fun s => (match eqM x y s with
  | .ok b s' => .ok (.bl !b) s'
  | .ex c p s => .ex c p s
  | .bad => .bad)
def inO (kd : Str → Option (List (Str × L))) (neg : Bool) (x y : L) : M L := fun s => (match inqM kd x y s with
  | .ok b s' => .ok (.bl (if neg then !b else b)) s'
  | .ex c p s => .ex c p s
  | .bad => .bad)
def isO (neg : Bool) (x : L) : M L := fun s => .ok (.bl (if neg then !decide (x = .non) else decide (x = .non))) s
def isiO (t : IT) (x : L) : M L := fun s => (match isiM x t s with
  | .ok b s' => .ok (.bl b) s'
  | .ex c p s => .ex c p s
  | .bad => .bad)
def tupO (vs : List L) : M L := fun s => if vs.length ≤ szMax then .ok (.tup vs) s else .bad
def lstO (vs : List L) : M L := fun s => if vs.length ≤ szMax then .ok (.loc s.length) (s ++ [.lst vs]) else .bad
def dScO (ks : List Str) (xs : List L) : M L := fun s => if ks.length = xs.length ∧ ks.length ≤ 15 then .ok (.loc s.length) (s ++ [.dS (merge (ks.zip xs))]) else .bad
end
section
variable {G : Glb} {F : Fns} {n : Nat}
theorem bnd_k1 {α β : Type} (x : M α) (f : α → M β) (s : Store) : (x >>= f) s = k1 f (x s) := by
  show M.bnd x f s = _
  unfold M.bnd k1
  cases x s <;> rfl
theorem k1_ok {α β : Type} (op : α → M β) (x : α) (s : Store) : k1 op (.ok x s) = op x s := rfl
theorem k1_ex {α β : Type} (op : α → M β) (c : Str) (p : Option (Str × L)) (s : Store) : k1 op (.ex c p s) = .ex c p s := rfl
theorem k1_bad {α β : Type} (op : α → M β) : k1 op .bad = .bad := rfl
theorem k2_ok (op : L → L → M L) (b : DE) (e : Env) (x : L) (s : Store) : k2 G F n op b e (.ok x s) = k1 (op x) (den G F n b e s) := rfl
theorem k2_ex (op : L → L → M L) (b : DE) (e : Env) (c : Str) (p : Option (Str × L)) (s : Store) : k2 G F n op b e (.ex c p s) = .ex c p s := rfl
theorem bnd_k2 (op : L → L → M L) (a b : DE) (e : Env) (s : Store) : (den G F n a e >>= fun x => den G F n b e >>= fun y => op x y) s = k2 G F n op b e (den G F n a e s) := by
  rw [bnd_k1]
  cases den G F n a e s with
  | ok x s1 =>
    show (den G F n b e >>= fun y => op x y) s1 = k1 (op x) (den G F n b e s1)
    rw [bnd_k1]
  | ex c p s1 => rfl
  | bad => rfl
theorem ev_var (i : Nat) (e : Env) (s : Store) : den G F n (.var i) e s = ofO (e[i]?).join s := rfl
theorem ev_cst (v : L) (e : Env) (s : Store) : den G F n (.cst v) e s = .ok v s := rfl
theorem ev_glb (x : Str) (e : Env) (s : Store) : den G F n (.glb x) e s = ofO (G.con x) s := rfl
theorem ev_add (a b : DE) (e : Env) (s : Store) : den G F n (.add a b) e s = k2 G F n addM b e (den G F n a e s) := bnd_k2 _ _ _ _ _
theorem ev_sub (a b : DE) (e : Env) (s : Store) : den G F n (.sub a b) e s = k2 G F n subM b e (den G F n a e s) := bnd_k2 _ _ _ _ _
theorem ev_mul (a b : DE) (e : Env) (s : Store) : den G F n (.mul a b) e s = k2 G F n mulM b e (den G F n a e s) := bnd_k2 _ _ _ _ _
theorem ev_fdv (a b : DE) (e : Env) (s : Store) : den G F n (.fdv a b) e s = k2 G F n fdvM b e (den G F n a e s) := bnd_k2 _ _ _ _ _
theorem ev_mod (a b : DE) (e : Env) (s : Store) : den G F n (.mod a b) e s = k2 G F n modM b e (den G F n a e s) := bnd_k2 _ _ _ _ _
theorem ev_pow (a b : DE) (e : Env) (s : Store) : den G F n (.pow a b) e s = k2 G F n powM b e (den G F n a e s) := bnd_k2 _ _ _ _ _
theorem ev_neg (a : DE) (e : Env) (s : Store) : den G F n (.neg a) e s = k1 negM (den G F n a e s) := bnd_k1 _ _ _
theorem ev_not (a : DE) (e : Env) (s : Store) : den G F n (.not a) e s = k1 notO (den G F n a e s) := by
  show (den G F n a e >>= fun x => truM x >>= fun b => pure (L.bl !b)) s = _
  rw [bnd_k1]
  congr 1
  funext x s
  rw [bnd_k1]
  unfold notO
  cases truM x s <;> rfl
theorem ev_eq (a b : DE) (e : Env) (s : Store) : den G F n (.eq a b) e s = k2 G F n (eqqM G.has F) b e (den G F n a e s) := bnd_k2 _ _ _ _ _
theorem ev_ne (a b : DE) (e : Env) (s : Store) : den G F n (.ne a b) e s = k2 G F n neO b e (den G F n a e s) := by
  have h : (fun (x y : L) => (eqM x y >>= fun r => pure (L.bl !r) : M L)) = neO := by
    funext x y s
    rw [bnd_k1]
    unfold neO
    cases eqM x y s <;> rfl
  rw [← h]
  exact bnd_k2 _ _ _ _ _
theorem ev_lt (a b : DE) (e : Env) (s : Store) : den G F n (.lt a b) e s = k2 G F n ltM b e (den G F n a e s) := bnd_k2 _ _ _ _ _
theorem ev_le (a b : DE) (e : Env) (s : Store) : den G F n (.le a b) e s = k2 G F n leM b e (den G F n a e s) := bnd_k2 _ _ _ _ _
def gtO (x y : L) : M L := ltM y x
def geO (x y : L) : M L := leM y x
theorem ev_gt (a b : DE) (e : Env) (s : Store) : den G F n (.gt a b) e s = k2 G F n gtO b e (den G F n a e s) := bnd_k2 gtO _ _ _ _
theorem ev_ge (a b : DE) (e : Env) (s : Store) : den G F n (.ge a b) e s = k2 G F n geO b e (den G F n a e s) := bnd_k2 geO _ _ _ _
theorem ev_isn (a : DE) (e : Env) (s : Store) : den G F n (.isn a) e s = k1 (isO false) (den G F n a e s) := bnd_k1 _ _ _
theorem ev_isnn (a : DE) (e : Env) (s : Store) : den G F n (.isnn a) e s = k1 (isO true) (den G F n a e s) := bnd_k1 _ _ _
theorem inO_eq (kd : Str → Option (List (Str × L))) : (fun (x y : L) => (inqM kd x y >>= fun r => pure (L.bl r) : M L)) = inO kd false := by
  funext x y s
  rw [bnd_k1]
  unfold inO
  cases inqM kd x y s <;> rfl
theorem inO_eq' (kd : Str → Option (List (Str × L))) : (fun (x y : L) => (inqM kd x y >>= fun r => pure (L.bl !r) : M L)) = inO kd true := by
  funext x y s
  rw [bnd_k1]
  unfold inO
  cases inqM kd x y s <;> rfl
theorem ev_inn (a b : DE) (e : Env) (s : Store) : den G F n (.inn a b) e s = k2 G F n (inO G.kd false) b e (den G F n a e s) := by rw [← inO_eq]; exact bnd_k2 _ _ _ _ _
theorem ev_nin (a b : DE) (e : Env) (s : Store) : den G F n (.nin a b) e s = k2 G F n (inO G.kd true) b e (den G F n a e s) := by rw [← inO_eq']; exact bnd_k2 _ _ _ _ _
theorem ev_and (a b : DE) (e : Env) (s : Store) : den G F n (.and a b) e s = kAnd G F n b e (den G F n a e s) := by
  show (den G F n a e >>= fun x => truM x >>= fun t => if t then den G F n b e else pure x) s = _
  rw [bnd_k1]
  cases den G F n a e s with
  | ok x s1 =>
    show (truM x >>= fun t => if t then den G F n b e else pure x) s1 = kA G F n b e x (truM x s1)
    rw [bnd_k1]
    cases truM x s1 with
    | ok t s2 => cases t <;> rfl
    | ex c p s2 => rfl
    | bad => rfl
  | ex c p s1 => rfl
  | bad => rfl
theorem kAnd_ok (b : DE) (e : Env) (x : L) (s : Store) : kAnd G F n b e (.ok x s) = kA G F n b e x (truM x s) := rfl
theorem kA_t (b : DE) (e : Env) (x : L) (s : Store) : kA G F n b e x (.ok true s) = den G F n b e s := rfl
theorem kA_f (b : DE) (e : Env) (x : L) (s : Store) : kA G F n b e x (.ok false s) = .ok x s := rfl
theorem ev_or (a b : DE) (e : Env) (s : Store) : den G F n (.or a b) e s = kOr G F n b e (den G F n a e s) := by
  show (den G F n a e >>= fun x => truM x >>= fun t => if t then pure x else den G F n b e) s = _
  rw [bnd_k1]
  cases den G F n a e s with
  | ok x s1 =>
    show (truM x >>= fun t => if t then pure x else den G F n b e) s1 = kO G F n b e x (truM x s1)
    rw [bnd_k1]
    cases truM x s1 with
    | ok t s2 => cases t <;> rfl
    | ex c p s2 => rfl
    | bad => rfl
  | ex c p s1 => rfl
  | bad => rfl
theorem kOr_ok (b : DE) (e : Env) (x : L) (s : Store) : kOr G F n b e (.ok x s) = kO G F n b e x (truM x s) := rfl
theorem kO_t (b : DE) (e : Env) (x : L) (s : Store) : kO G F n b e x (.ok true s) = .ok x s := rfl
theorem kO_f (b : DE) (e : Env) (x : L) (s : Store) : kO G F n b e x (.ok false s) = den G F n b e s := rfl
theorem ev_ite (c a b : DE) (e : Env) (s : Store) : den G F n (.ite c a b) e s = kI G F n a b e (k1 truM (den G F n c e s)) := by
  show (den G F n c e >>= fun v => truM v >>= fun t => if t then den G F n a e else den G F n b e) s = _
  rw [bnd_k1]
  cases den G F n c e s with
  | ok x s1 =>
    show (truM x >>= fun t => if t then den G F n a e else den G F n b e) s1 = kI G F n a b e (truM x s1)
    rw [bnd_k1]
    cases truM x s1 with
    | ok t s2 => cases t <;> rfl
    | ex c p s2 => rfl
    | bad => rfl
  | ex c p s1 => rfl
  | bad => rfl
theorem kI_t (a b : DE) (e : Env) (s : Store) : kI G F n a b e (.ok true s) = den G F n a e s := rfl
theorem kI_f (a b : DE) (e : Env) (s : Store) : kI G F n a b e (.ok false s) = den G F n b e s := rfl
theorem evs_nil (e : Env) (s : Store) : dens G F n .nil e s = .ok [] s := rfl
theorem evs_cons (a : DE) (r : DEs) (e : Env) (s : Store) : dens G F n (.cons a r) e s = kCs G F n r e (den G F n a e s) := by
  show (den G F n a e >>= fun x => dens G F n r e >>= fun xs => pure (x :: xs)) s = _
  rw [bnd_k1]
  cases den G F n a e s with
  | ok x s1 =>
    show (dens G F n r e >>= fun xs => pure (x :: xs)) s1 = kCons x (dens G F n r e s1)
    rw [bnd_k1]
    cases dens G F n r e s1 <;> rfl
  | ex c p s1 => rfl
  | bad => rfl
theorem kCs_ok (r : DEs) (e : Env) (x : L) (s : Store) : kCs G F n r e (.ok x s) = kCons x (dens G F n r e s) := rfl
theorem kCons_ok (x : L) (xs : List L) (s : Store) : kCons x (.ok xs s) = .ok (x :: xs) s := rfl
theorem ev_tup (es : DEs) (e : Env) (s : Store) : den G F n (.tup es) e s = k1 tupO (dens G F n es e s) := by
  show (dens G F n es e >>= fun vs => if vs.length ≤ szMax then pure (L.tup vs) else die) s = _
  rw [bnd_k1]
  congr 1
  funext vs s
  unfold tupO
  split <;> rfl
theorem ev_lst (es : DEs) (e : Env) (s : Store) : den G F n (.lst es) e s = k1 lstO (dens G F n es e s) := by
  show (dens G F n es e >>= fun vs => if vs.length ≤ szMax then alloc (.lst vs) else die) s = _
  rw [bnd_k1]
  congr 1
  funext vs s
  unfold lstO
  split <;> rfl
theorem ev_dS0 (e : Env) (s : Store) : den G F n .dS0 e s = .ok (.loc s.length) (s ++ [.dS []]) := rfl
theorem ev_dSc (ks : List Str) (vs : DEs) (e : Env) (s : Store) : den G F n (.dSc ks vs) e s = k1 (dScO ks) (dens G F n vs e s) := by
  show (dens G F n vs e >>= fun xs => if ks.length = xs.length ∧ ks.length ≤ 15 then alloc (.dS (merge (ks.zip xs))) else die) s = _
  rw [bnd_k1]
  congr 1
  funext vs s
  unfold dScO
  split <;> rfl
theorem ev_idx (a b : DE) (e : Env) (s : Store) : den G F n (.idx a b) e s = k2 G F n (idxM G.kd) b e (den G F n a e s) := bnd_k2 _ _ _ _ _
def fldO (f : Str) (x : L) : M L := fldM x f
theorem ev_fld (a : DE) (f : Str) (e : Env) (s : Store) : den G F n (.fld a f) e s = k1 (fldO f) (den G F n a e s) := bnd_k1 _ _ _
theorem ev_call (f : Str) (es : DEs) (e : Env) (s : Store) (h : G.has (f, none) = true) : den G F n (.call f es) e s = k1 (F (f, none)) (dens G F n es e s) := by
  show (if G.has (f, none) = true then (dens G F n es e >>= fun vs => F (f, none) vs) else die) s = _
  rw [if_pos h, bnd_k1]
theorem ev_isi (a : DE) (t : IT) (e : Env) (s : Store) : den G F n (.isi a t) e s = k1 (isiO t) (den G F n a e s) := by
  show (den G F n a e >>= fun x => isiM x t >>= fun b => pure (L.bl b)) s = _
  rw [bnd_k1]
  congr 1
  funext x s
  rw [bnd_k1]
  unfold isiO
  cases isiM x t s <;> rfl
theorem ev_bi (b : BI) (es : DEs) (e : Env) (s : Store) : den G F n (.bi b es) e s = k1 (biM G.has F b) (dens G F n es e s) := bnd_k1 _ _ _
theorem ev_bx (b : BX) (x : DX) (e : Env) (s : Store) : den G F n (.bx b x) e s = k1 (bxM b) (denX G F n x e s) := bnd_k1 _ _ _
def lcO (xs : List L) : M L := fun s => .ok (.loc s.length) (s ++ [.lst xs])
theorem ev_lc (x : DX) (e : Env) (s : Store) : den G F n (.lc x) e s = k1 lcO (denX G F n x e s) := bnd_k1 _ _ _
def dspO (vs : List L) : M (List L) := fun s => if vs.length ≤ szMax then .ok vs s else .bad
theorem evX_disp (es : DEs) (e : Env) (s : Store) : denX G F n (.disp es) e s = k1 dspO (dens G F n es e s) := by
  show (dens G F n es e >>= fun vs => if vs.length ≤ szMax then pure vs else die) s = _
  rw [bnd_k1]
  congr 1
  funext vs s
  unfold dspO
  split <;> rfl
def ixO (xs : List L) (y : L) : M L := match y with
  | .int i => ofO (L2.atI xs i)
  | _ => die
def kX (b : DE) (e : Env) : R (List L) → R L
  | .ok xs s => k1 (ixO xs) (den G F n b e s)
  | .ex c p s => .ex c p s
  | .bad => .bad
theorem ev_idxX (x : DX) (b : DE) (e : Env) (s : Store) : den G F n (.idxX x b) e s = kX (G := G) (F := F) (n := n) b e (denX G F n x e s) := by
  show (denX G F n x e >>= fun xs => den G F n b e >>= fun y => ixO xs y) s = _
  rw [bnd_k1]
  cases denX G F n x e s with
  | ok xs s1 =>
    show (den G F n b e >>= fun y => ixO xs y) s1 = k1 (ixO xs) (den G F n b e s1)
    rw [bnd_k1]
  | ex c p s1 => rfl
  | bad => rfl
theorem kX_ok (b : DE) (e : Env) (xs : List L) (s : Store) : kX (G := G) (F := F) (n := n) b e (.ok xs s) = k1 (ixO xs) (den G F n b e s) := rfl
def inMO (x : L) (xs : List L) : M L := fun s => (match inM x xs s with
  | .ok b s' => .ok (.bl b) s'
  | .ex c p s => .ex c p s
  | .bad => .bad)
def kN (x : DX) (e : Env) : R L → R L
  | .ok v s => k1 (inMO v) (denX G F n x e s)
  | .ex c p s => .ex c p s
  | .bad => .bad
theorem ev_inX (a : DE) (x : DX) (e : Env) (s : Store) : den G F n (.inX a x) e s = kN (G := G) (F := F) (n := n) x e (den G F n a e s) := by
  show (den G F n a e >>= fun v => denX G F n x e >>= fun xs => inM v xs >>= fun b => pure (L.bl b)) s = _
  rw [bnd_k1]
  cases den G F n a e s with
  | ok v s1 =>
    show (denX G F n x e >>= fun xs => inM v xs >>= fun b => pure (L.bl b)) s1 = k1 (inMO v) (denX G F n x e s1)
    rw [bnd_k1]
    congr 1
    funext xs s
    rw [bnd_k1]
    unfold inMO
    cases inM v xs s <;> rfl
  | ex c p s1 => rfl
  | bad => rfl
theorem kN_ok (x : DX) (e : Env) (v : L) (s : Store) : kN (G := G) (F := F) (n := n) x e (.ok v s) = k1 (inMO v) (denX G F n x e s) := rfl
end
/-! ### statements -/
section
variable {G : Glb} {F : Fns} {n : Nat} {E : Er}
def sSeq (G : Glb) (F : Fns) (n : Nat) (E : Er) (r : DSs) : RS → RS
  | .nx e s => denSs G F n E r e s
  | .rt v s => .rt v s
  | .ex c p e s => .ex c p e s
  | .bad => .bad
def sAsg (i : Nat) (e : Env) : R L → RS
  | .ok v s => .nx (e.set i (some v)) s
  | .ex c p s => .ex c p e s
  | .bad => .bad
def sRet (e : Env) : R L → RS
  | .ok v s => .rt v s
  | .ex c p s => .ex c p e s
  | .bad => .bad
def sExp (e : Env) : R L → RS
  | .ok v s => .nx e s
  | .ex c p s => .ex c p e s
  | .bad => .bad
def sIf (G : Glb) (F : Fns) (n : Nat) (E : Er) (a b : DSs) (e : Env) : R Bool → RS
  | .ok true s => denSs G F n E a e s
  | .ok false s => denSs G F n E b e s
  | .ex c p s => .ex c p e s
  | .bad => .bad
def sSetT (is : List Nat) (e : Env) : R L → RS
  | .ok v s => (match setT (.tp is) v e with
    | some e' => .nx e' s
    | none => .bad)
  | .ex c p s => .ex c p e s
  | .bad => .bad
theorem es_nil (e : Env) (s : Store) : denSs G F n E .nil e s = .nx e s := rfl
theorem es_cons (a : DS) (r : DSs) (e : Env) (s : Store) : denSs G F n E (.cons a r) e s = sSeq G F n E r (denS G F n E a e s) := by
  show (match denS G F n E a e s with
    | .nx e' s' => denSs G F n E r e' s'
    | r => r) = _
  unfold sSeq
  cases denS G F n E a e s <;> rfl
theorem sSeq_nx (r : DSs) (e : Env) (s : Store) : sSeq G F n E r (.nx e s) = denSs G F n E r e s := rfl
theorem sSeq_rt (r : DSs) (v : L) (s : Store) : sSeq G F n E r (.rt v s) = .rt v s := rfl
theorem sSeq_ex (r : DSs) (c : Str) (p : Option (Str × L)) (e : Env) (s : Store) : sSeq G F n E r (.ex c p e s) = .ex c p e s := rfl
theorem es_asg (i : Nat) (a : DE) (e : Env) (s : Store) : denS G F n E (.asg i a) e s = sAsg i e (den G F n a e s) := by
  show RS.of e (den G F n a e s) _ = _
  cases den G F n a e s <;> rfl
theorem sAsg_ok (i : Nat) (e : Env) (v : L) (s : Store) : sAsg i e (.ok v s) = .nx (e.set i (some v)) s := rfl
theorem es_asgT (is : List Nat) (a : DE) (e : Env) (s : Store) : denS G F n E (.asgT is a) e s = sSetT is e (den G F n a e s) := by
  show RS.of e (den G F n a e s) _ = _
  cases den G F n a e s <;> rfl
theorem sSetT_ok (is : List Nat) (e e' : Env) (v : L) (s : Store) (h : setT (.tp is) v e = some e') : sSetT is e (.ok v s) = .nx e' s := by
  unfold sSetT
  simp only [h]
theorem es_ret (a : DE) (e : Env) (s : Store) : denS G F n E (.ret a) e s = sRet e (den G F n a e s) := by
  show RS.of e (den G F n a e s) _ = _
  cases den G F n a e s <;> rfl
theorem sRet_ok (e : Env) (v : L) (s : Store) : sRet e (.ok v s) = .rt v s := rfl
theorem sRet_ex (e : Env) (c : Str) (p : Option (Str × L)) (s : Store) : sRet e (.ex c p s) = .ex c p e s := rfl
theorem es_expr (a : DE) (e : Env) (s : Store) : denS G F n E (.expr a) e s = sExp e (den G F n a e s) := by
  show RS.of e (den G F n a e s) _ = _
  cases den G F n a e s <;> rfl
theorem sExp_ok (e : Env) (v : L) (s : Store) : sExp e (.ok v s) = .nx e s := rfl
theorem es_ife (c : DE) (a b : DSs) (e : Env) (s : Store) : denS G F n E (.ife c a b) e s = sIf G F n E a b e (k1 truM (den G F n c e s)) := by
  show RS.of e ((den G F n c e >>= truM) s) _ = _
  rw [bnd_k1]
  cases k1 truM (den G F n c e s) with
  | ok t s1 => cases t <;> rfl
  | ex c p s1 => rfl
  | bad => rfl
theorem sIf_t (a b : DSs) (e : Env) (s : Store) : sIf G F n E a b e (.ok true s) = denSs G F n E a e s := rfl
theorem sIf_f (a b : DSs) (e : Env) (s : Store) : sIf G F n E a b e (.ok false s) = denSs G F n E b e s := rfl
def sEnd (e : Env) : R Unit → RS
  | .ok _ s' => .nx e s'
  | .ex c p s' => .ex c p e s'
  | .bad => .bad
def sIs3 (x v : L) (e : Env) : R L → RS
  | .ok y s => sEnd e (setM x y v s)
  | .ex c p s => .ex c p e s
  | .bad => .bad
def sIs2 (G : Glb) (F : Fns) (n : Nat) (k : DE) (v : L) (e : Env) : R L → RS
  | .ok x s => sIs3 x v e (den G F n k e s)
  | .ex c p s => .ex c p e s
  | .bad => .bad
def sIs1 (G : Glb) (F : Fns) (n : Nat) (o k : DE) (e : Env) : R L → RS
  | .ok v s => sIs2 G F n k v e (den G F n o e s)
  | .ex c p s => .ex c p e s
  | .bad => .bad
theorem es_iset (o k a : DE) (e : Env) (s : Store) : denS G F n E (.iset o k a) e s = sIs1 G F n o k e (den G F n a e s) := by
  show RS.of e (den G F n a e s) _ = _
  cases den G F n a e s with
  | ok v s1 =>
    show RS.of e (den G F n o e s1) _ = sIs2 G F n k v e (den G F n o e s1)
    cases den G F n o e s1 with
    | ok x s2 =>
      show RS.of e (den G F n k e s2) _ = sIs3 x v e (den G F n k e s2)
      cases den G F n k e s2 with
      | ok y s3 =>
        show RS.of e (setM x y v s3) _ = sEnd e (setM x y v s3)
        cases setM x y v s3 <;> rfl
      | ex c p s1 => rfl
      | bad => rfl
    | ex c p s1 => rfl
    | bad => rfl
  | ex c p s1 => rfl
  | bad => rfl
theorem sIs1_ok (o k : DE) (e : Env) (v : L) (s : Store) : sIs1 G F n o k e (.ok v s) = sIs2 G F n k v e (den G F n o e s) := rfl
theorem sIs2_ok (k : DE) (v : L) (e : Env) (x : L) (s : Store) : sIs2 G F n k v e (.ok x s) = sIs3 x v e (den G F n k e s) := rfl
theorem sIs3_ok (x v : L) (e : Env) (y : L) (s : Store) : sIs3 x v e (.ok y s) = sEnd e (setM x y v s) := rfl
theorem sEnd_ok (e : Env) (u : Unit) (s : Store) : sEnd e (.ok u s) = .nx e s := rfl
end
theorem ap_ofO {α : Type} (a : α) (s : Store) : (ofO (some a) : M α) s = .ok a s := rfl
/-! ### operations by values -/
theorem tru_bl (b : Bool) (s : Store) : truM (.bl b) s = .ok b s := rfl
theorem tru_int (i : Int) (s : Store) : truM (.int i) s = .ok (i != 0) s := rfl
theorem tru_non (s : Store) : truM .non s = .ok false s := rfl
theorem o_add (i j : Int) (s : Store) : addM (.int i) (.int j) s = .ok (.int (i + j)) s := rfl
theorem o_sub (i j : Int) (s : Store) : subM (.int i) (.int j) s = .ok (.int (i - j)) s := rfl
theorem o_mul (i j : Int) (s : Store) (h : (-(2 ^ 64) < i ∧ i < 2 ^ 64) ∨ (-(2 ^ 64) < j ∧ j < 2 ^ 64)) : mulM (.int i) (.int j) s = .ok (.int (i * j)) s := by
  show (if (-(2 ^ 64) < i ∧ i < 2 ^ 64) ∨ (-(2 ^ 64) < j ∧ j < 2 ^ 64) then (pure (.int (i * j)) : M L) else die) s = _
  rw [if_pos h]
  rfl
theorem o_fdv (i j : Int) (s : Store) (h : 0 < j) (h2 : j < 1073741824) : fdvM (.int i) (.int j) s = .ok (.int (i / j)) s := by
  show (if 0 < j ∧ j < 1073741824 then (pure (.int (i / j)) : M L) else die) s = _
  rw [if_pos ⟨h, h2⟩]
  rfl
theorem o_mod (i j : Int) (s : Store) (h : 0 < j) : modM (.int i) (.int j) s = .ok (.int (i % j)) s := by
  show (if 0 < j then (pure (.int (i % j)) : M L) else die) s = _
  rw [if_pos h]
  rfl
theorem o_pow (i j : Int) (s : Store) (h : 0 ≤ j ∧ j ≤ 1000000 ∧ i.natAbs < 2 ^ 64) : powM (.int i) (.int j) s = .ok (.int (i ^ j.toNat)) s := by
  show (if 0 ≤ j ∧ j ≤ 1000000 ∧ i.natAbs < 2 ^ 64 then (pure (.int (i ^ j.toNat)) : M L) else die) s = _
  rw [if_pos h]
  rfl
theorem o_lt (i j : Int) (s : Store) : ltM (.int i) (.int j) s = .ok (.bl (decide (i < j))) s := rfl
theorem o_le (i j : Int) (s : Store) : leM (.int i) (.int j) s = .ok (.bl (decide (i ≤ j))) s := rfl
theorem o_gt (i j : Int) (s : Store) : gtO (.int i) (.int j) s = .ok (.bl (decide (j < i))) s := rfl
theorem o_ge (i j : Int) (s : Store) : geO (.int i) (.int j) s = .ok (.bl (decide (j ≤ i))) s := rfl
theorem o_not (b : Bool) (s : Store) : notO (.bl b) s = .ok (.bl !b) s := rfl
/-- a place of a cell's object -/
def idxG (y : L) (s : Store) : Option Ob → R L
  | some (.lst xs) => (match y with
    | .int i => ofO (L2.atI xs i) s
    | _ => .bad)
  | some (.dS kvs) | some (.fS kvs) => (match y with
    | .str k => ofO (lk k kvs) s
    | _ => .bad)
  | _ => .bad
theorem o_idx (kd : Str → Option (List (Str × L))) (c : Nat) (y : L) (s : Store) : idxM kd (.loc c) y s = idxG y s s[c]? := by
  show (getC c >>= _) s = _
  cases h : s[c]? with
  | none => rw [bnd_bad (getC_no h)]; rfl
  | some o =>
    rw [bnd_ok (getC_at h)]
    cases o <;> first | rfl | (cases y <;> rfl)
theorem idxG_l (i : Int) (s : Store) (xs : List L) : idxG (.int i) s (some (.lst xs)) = ofO (L2.atI xs i) s := rfl
theorem idxG_d (k : Str) (s : Store) (xs : List (Str × L)) : idxG (.str k) s (some (.dS xs)) = ofO (lk k xs) s := rfl
theorem o_idxT (kd : Str → Option (List (Str × L))) (xs : List L) (i : Int) (s : Store) : idxM kd (.tup xs) (.int i) s = ofO (L2.atI xs i) s := rfl
theorem atI_nat (xs : List L) (i : Nat) (h : i < xs.length) : L2.atI xs (i : Int) = xs[i]? := by
  unfold L2.atI L2.ixN
  rw [if_pos (by omega), if_pos (by omega)]
  rfl
theorem atI_get (xs : List L) (k : Nat) (v : L) (h : xs[k]? = some v) : L2.atI xs (k : Int) = some v := by
  have hl := (List.getElem?_eq_some_iff.mp h).1
  rw [atI_nat xs k hl, h]
theorem at0 (x0 : L) (l : List L) : L2.atI (x0 :: l) 0 = some x0 := atI_get _ 0 _ rfl
theorem at1 (x0 x1 : L) (l : List L) : L2.atI (x0 :: x1 :: l) 1 = some x1 := atI_get _ 1 _ rfl
theorem at2 (x0 x1 x2 : L) (l : List L) : L2.atI (x0 :: x1 :: x2 :: l) 2 = some x2 := atI_get _ 2 _ rfl
theorem at3 (x0 x1 x2 x3 : L) (l : List L) : L2.atI (x0 :: x1 :: x2 :: x3 :: l) 3 = some x3 := atI_get _ 3 _ rfl
theorem at4 (x0 x1 x2 x3 x4 : L) (l : List L) : L2.atI (x0 :: x1 :: x2 :: x3 :: x4 :: l) 4 = some x4 := atI_get _ 4 _ rfl
theorem at5 (x0 x1 x2 x3 x4 x5 : L) (l : List L) : L2.atI (x0 :: x1 :: x2 :: x3 :: x4 :: x5 :: l) 5 = some x5 := atI_get _ 5 _ rfl
theorem at6 (x0 x1 x2 x3 x4 x5 x6 : L) (l : List L) : L2.atI (x0 :: x1 :: x2 :: x3 :: x4 :: x5 :: x6 :: l) 6 = some x6 := atI_get _ 6 _ rfl
theorem at7 (x0 x1 x2 x3 x4 x5 x6 x7 : L) (l : List L) : L2.atI (x0 :: x1 :: x2 :: x3 :: x4 :: x5 :: x6 :: x7 :: l) 7 = some x7 := atI_get _ 7 _ rfl
theorem at8 (x0 x1 x2 x3 x4 x5 x6 x7 x8 : L) (l : List L) : L2.atI (x0 :: x1 :: x2 :: x3 :: x4 :: x5 :: x6 :: x7 :: x8 :: l) 8 = some x8 := atI_get _ 8 _ rfl
theorem ix1_0 : L2.ixN 1 0 = some 0 := rfl
theorem ix2_0 : L2.ixN 2 0 = some 0 := rfl
theorem ix2_1 : L2.ixN 2 1 = some 1 := rfl
theorem ix3_0 : L2.ixN 3 0 = some 0 := rfl
theorem ix3_1 : L2.ixN 3 1 = some 1 := rfl
theorem ix3_2 : L2.ixN 3 2 = some 2 := rfl
theorem ix4_0 : L2.ixN 4 0 = some 0 := rfl
theorem ix4_1 : L2.ixN 4 1 = some 1 := rfl
theorem ix4_2 : L2.ixN 4 2 = some 2 := rfl
theorem ix4_3 : L2.ixN 4 3 = some 3 := rfl
theorem ix5_0 : L2.ixN 5 0 = some 0 := rfl
theorem ix5_1 : L2.ixN 5 1 = some 1 := rfl
theorem ix5_2 : L2.ixN 5 2 = some 2 := rfl
theorem ix5_3 : L2.ixN 5 3 = some 3 := rfl
theorem ix5_4 : L2.ixN 5 4 = some 4 := rfl
def setG (c : Nat) (y v : L) (s : Store) : Option Ob → R Unit
  | some (.lst xs) => (match y with
    | .int i => (match L2.ixN xs.length i with
      | some j => .ok () (s.set c (.lst (xs.set j v)))
      | none => .bad)
    | _ => .bad)
  | some (.dS kvs) => (match y with
    | .str x => if kvs.length < szMax then .ok () (s.set c (.dS (putD x v kvs))) else .bad
    | _ => .bad)
  | _ => .bad
theorem o_set (c : Nat) (y v : L) (s : Store) : setM (.loc c) y v s = setG c y v s s[c]? := by
  show (getC c >>= fun ob => setCell c y v ob) s = _
  cases h : s[c]? with
  | none => rw [bnd_bad (getC_no h)]; rfl
  | some o =>
    rw [bnd_ok (getC_at h)]
    cases o with
    | lst xs =>
      cases y with
      | int i =>
        show (match L2.ixN xs.length i with
          | some t => putC c (.lst (xs.set t v))
          | none => die) s = (match L2.ixN xs.length i with
          | some j => .ok () (s.set c (.lst (xs.set j v)))
          | none => .bad)
        cases L2.ixN xs.length i <;> rfl
      | _ => rfl
    | dS kvs =>
      cases y with
      | str x =>
        show (if kvs.length < szMax then putC c (.dS (putD x v kvs)) else die) s = (if kvs.length < szMax then .ok () (s.set c (.dS (putD x v kvs))) else .bad)
        by_cases hz : kvs.length < szMax
        · rw [if_pos hz, if_pos hz]; rfl
        · rw [if_neg hz, if_neg hz]; rfl
      | _ => rfl
    | _ => rfl
/-- a place within -/
def setJ (c : Nat) (v : L) (s : Store) (xs : List L) : Option Nat → R Unit
  | some j => .ok () (s.set c (.lst (xs.set j v)))
  | none => .bad
theorem setG_l (c : Nat) (i : Int) (v : L) (s : Store) (xs : List L) : setG c (.int i) v s (some (.lst xs)) = setJ c v s xs (L2.ixN xs.length i) := by
  show (match L2.ixN xs.length i with
    | some j => R.ok () (s.set c (.lst (xs.set j v)))
    | none => .bad) = _
  cases L2.ixN xs.length i <;> rfl
theorem setJ_s (c : Nat) (v : L) (s : Store) (xs : List L) (j : Nat) : setJ c v s xs (some j) = .ok () (s.set c (.lst (xs.set j v))) := rfl
theorem setG_d (c : Nat) (k : Str) (v : L) (s : Store) (xs : List (Str × L)) (hl : xs.length < szMax) : setG c (.str k) v s (some (.dS xs)) = .ok () (s.set c (.dS (putD k v xs))) := if_pos hl
def lenG (s : Store) : Option Ob → R L
  | some (.lst xs) => .ok (.int xs.length) s
  | some (.dS kvs) => .ok (.int kvs.length) s
  | _ => .bad
theorem o_len (hs : FK → Bool) (F : Fns) (c : Nat) (s : Store) : biM hs F .len [.loc c] s = lenG s s[c]? := by
  show (getC c >>= _) s = _
  cases h : s[c]? with
  | none => rw [bnd_bad (getC_no h)]; rfl
  | some o =>
    rw [bnd_ok (getC_at h)]
    cases o <;> rfl
theorem lenG_l (s : Store) (xs : List L) : lenG s (some (.lst xs)) = .ok (.int xs.length) s := rfl
def fldG (f : Str) (s : Store) : Option Ob → R L
  | some (.ins _ fs) => ofO (lk f fs) s
  | _ => .bad
theorem o_fld (f : Str) (c : Nat) (s : Store) : fldO f (.loc c) s = fldG f s s[c]? := by
  show (getC c >>= _) s = _
  cases h : s[c]? with
  | none => rw [bnd_bad (getC_no h)]; rfl
  | some o =>
    rw [bnd_ok (getC_at h)]
    cases o <;> rfl
theorem fldG_i (f x : Str) (s : Store) (fs : List (Str × L)) : fldG f s (some (.ins x fs)) = ofO (lk f fs) s := rfl
theorem o_lenT (hs : FK → Bool) (F : Fns) (xs : List L) (s : Store) : biM hs F .len [.tup xs] s = .ok (.int xs.length) s := rfl
theorem o_intI (hs : FK → Bool) (F : Fns) (i : Int) (s : Store) : biM hs F .int [.int i] s = .ok (.int i) s := rfl
theorem o_intB (hs : FK → Bool) (F : Fns) (b : Bool) (s : Store) : biM hs F .int [.bl b] s = .ok (.int (if b then 1 else 0)) s := rfl
theorem o_max (hs : FK → Bool) (F : Fns) (i j : Int) (s : Store) : biM hs F .max [.int i, .int j] s = .ok (.int (if j > i then j else i)) s := rfl
theorem o_min (hs : FK → Bool) (F : Fns) (i j : Int) (s : Store) : biM hs F .min [.int i, .int j] s = .ok (.int (if j < i then j else i)) s := rfl
/-- the end of a call -/
def fin (s : Store) : RS → R L
  | .nx _ s' => gcR s .non s'
  | .rt v s' => gcR s v s'
  | .ex c p _ s' => .ex c p s'
  | .bad => .bad
theorem call_at {P : Pg} {n k : Nat} {f : FK} {d : Def} (h : P.fn f = some d) {vs : List L} (hl : vs.length = d.ps) (s : Store) : callD P n (k + 1) f vs s = fin s (denSs P.gl (callD P n k) n P.er d.body (vs.map some ++ List.replicate (d.ns - d.ps) none) s) := by
  show (match P.fn f with
    | some d => if vs.length = d.ps then (match denSs P.gl (callD P n k) n P.er d.body (vs.map some ++ List.replicate (d.ns - d.ps) none) s with
      | .nx _ s' => gcR s .non s'
      | .rt v s' => gcR s v s'
      | .ex c p _ s' => .ex c p s'
      | .bad => .bad) else .bad
    | none => .bad) = _
  rw [h]
  simp only [hl, if_true]
  unfold fin
  cases denSs P.gl (callD P n k) n P.er d.body (vs.map some ++ List.replicate (d.ns - d.ps) none) s <;> rfl
/-! ### operations on data -/
theorem eqM_int (i j : Int) (s : Store) : eqM (.int i) (.int j) s = .ok (decide (i = j)) s := by
  have e : eqD s (.int i) (.int j) = some (decide (i = j)) := by
    unfold eqD toD
    simp only [toDn]
    rw [if_pos (by rfl)]
    show some (i == j) = _
    rfl
  unfold eqM
  rw [e]
theorem eqq_int (hs : FK → Bool) (F : Fns) (i j : Int) (s : Store) : eqqM hs F (.int i) (.int j) s = .ok (.bl (decide (i = j))) s := by
  unfold eqqM
  simp only [insOf]
  rw [eqM_int]
theorem shaped_wd (i : Nat) : SeqAt.shaped (.str (wd i)) = true := by
  show (PyData.strOk (wd i) && decide (0 ≤ 64)) = true
  rw [wd_ok]
  rfl
theorem eqM_wd (i j : Nat) (s : Store) : eqM (.str (wd i)) (.str (wd j)) s = .ok (decide (wd i = wd j)) s := by
  have e : eqD s (.str (wd i)) (.str (wd j)) = some (decide (wd i = wd j)) := by
    unfold eqD toD
    simp only [toDn]
    rw [if_pos (by rw [shaped_wd, shaped_wd]; rfl)]
    show some (wd i == wd j) = _
    rfl
  unfold eqM
  rw [e]
theorem eqq_wd (hs : FK → Bool) (F : Fns) (i j : Nat) (s : Store) : eqqM hs F (.str (wd i)) (.str (wd j)) s = .ok (.bl (decide (wd i = wd j))) s := by
  unfold eqqM
  simp only [insOf]
  rw [eqM_wd]
end D
end

section
set_option maxRecDepth 100000
set_option maxHeartbeats 2000000
/-! D2b: the draws. -/
namespace D
open PySem DL
local macro_rules
  | `(tactic| trivial) => `(tactic| simp (config := {decide := false}) only [ev_var, ev_cst, ev_glb, ev_add, ev_sub, ev_mul, ev_fdv, ev_mod, ev_pow, ev_neg, ev_not, ev_eq, ev_ne, ev_lt, ev_le, ev_gt, ev_ge, ev_isn, ev_isnn, ev_inn, ev_nin, ev_and, ev_or, ev_ite, ev_tup, ev_lst, ev_dS0, ev_dSc, ev_idx, ev_fld, ev_call, ev_isi, ev_bi, ev_bx, ev_lc, ev_idxX, ev_inX, evX_disp, evs_nil, evs_cons,
      k1_ok, k2_ok, kAnd_ok, kA_t, kA_f, kOr_ok, kO_t, kO_f, kI_t, kI_f, kCs_ok, kCons_ok, kX_ok, kN_ok, es_nil, es_cons, sSeq_nx, sSeq_rt, sSeq_ex, es_asg, sAsg_ok, es_ret, sRet_ok, sRet_ex, es_expr, sExp_ok, es_ife, sIf_t, sIf_f, es_iset, sIs1_ok, sIs2_ok, sIs3_ok, sEnd_ok,
      ap_ofO, tru_bl, tru_int, tru_non, o_add, o_sub, o_lt, o_le, o_gt, o_ge, o_not, o_idx, idxG_l, idxG_d, o_idxT, o_set, setG_l, setJ_s, setG_d, o_len, lenG_l, o_fld, fldG_i, o_lenT, at0, at1, at2, at3, at4, at5, at6, at7, at8, ix4_0, ix4_1, ix4_2, ix4_3, ix3_0, ix3_1, ix3_2, List.set_set, o_intI, o_intB, o_max, o_min, eqq_int, eqq_wd,
      List.map_cons, List.map_nil, List.replicate, List.cons_append, List.nil_append, List.getElem?_cons_zero, List.getElem?_cons_succ, List.set_cons_zero, List.set_cons_succ, Option.join, Option.bind_some, id_eq, List.length_cons, List.length_nil, List.length_map, eq_self, decide_true, decide_false, Nat.reduceAdd, Nat.zero_add, Bool.not_true, Bool.not_false, *])
theorem gcR_same {s s' : Store} {r : L} (hn : noLoc r = true) (hl : s'.length = s.length) : gcR s r s' = .ok r s' := by
  unfold gcR
  by_cases h : s'.take s.length = s
  · rw [if_pos h, if_pos hn]
    have : s' = s := by rw [← h, ← hl, List.take_length]
    rw [this]
  · rw [if_neg h]
theorem draw_ok {P : Pg} {n k : Nat} (h : P.fn ("_law_draw", none) = some d__law_draw) {s : Store} {d e i : Nat} {b a : Int} {ns : List Int} (hd : s[d]? = some (.lst [.loc e, .int i, .int b, .int a])) (he : s[e]? = some (.lst (ns.map .int))) (hde : d ≠ e) (hb : 0 ≤ b) {z : Int} (hz : 0 < z) (hz2 : z < 1073741824) :
    ∃ (v : Int) (i' : Nat) (b' a' : Int), 0 ≤ v ∧ v < z ∧ 0 ≤ b' ∧ callD P n (k + 1) ("_law_draw", none) [.loc d, .int z] s = .ok (.int v) (s.set d (.lst [.loc e, .int i', .int b', .int a'])) := by
  have hlt : d < s.length := (List.getElem?_eq_some_iff.mp hd).1
  have g1 : ∀ X, (s.set d X)[d]? = some X := fun X => List.getElem?_set_self hlt
  have g2 : ∀ X, (s.set d X)[e]? = some (.lst (ns.map .int)) := fun X => by rw [List.getElem?_set_ne hde]; exact he
  have p1 : ∀ s, powM (.int 10) (.int 18) s = .ok (.int (10 ^ 18)) s := fun s => o_pow _ _ _ (by decide)
  have m1 : ∀ i s, mulM (.int i) (.int 48271) s = .ok (.int (i * 48271)) s := fun i s => o_mul _ _ _ (.inr (by decide))
  have m2 : ∀ i s, mulM (.int i) (.int 69621) s = .ok (.int (i * 69621)) s := fun i s => o_mul _ _ _ (.inr (by decide))
  have m3 : ∀ i s, mulM (.int i) (.int 16807) s = .ok (.int (i * 16807)) s := fun i s => o_mul _ _ _ (.inr (by decide))
  have m4 : ∀ i s, modM (.int i) (.int 2147483647) s = .ok (.int (i % 2147483647)) s := fun i s => o_mod _ _ _ (by decide)
  have m5 : ∀ i s, modM (.int i) (.int 2147483629) s = .ok (.int (i % 2147483629)) s := fun i s => o_mod _ _ _ (by decide)
  have m6 : ∀ i s, modM (.int i) (.int z) s = .ok (.int (i % z)) s := fun i s => o_mod _ _ _ hz
  have m7 : ∀ i s, fdvM (.int i) (.int z) s = .ok (.int (i / z)) s := fun i s => o_fdv _ _ _ hz hz2
  have q1 : ∀ (v : Int) X, fin s (.rt (.int v) (s.set d X)) = .ok (.int v) (s.set d X) := fun v X => gcR_same rfl (by rw [List.length_set])
  have q2 : ∀ (v : Int), fin s (.rt (.int v) s) = .ok (.int v) s := fun v => gcR_same rfl rfl
  rw [call_at h rfl]
  simp only [d__law_draw]
  by_cases hb0 : b = 0
  · subst hb0
    have hz0 : ¬ ((0 : Int) < 0) := by decide
    by_cases hi : (i : Int) < ns.length
    · have hi' : i < ns.length := by omega
      have hc : L2.atI (ns.map L.int) i = some (.int ns[i]) := atI_get _ _ _ (by rw [List.getElem?_map, List.getElem?_eq_getElem hi']; rfl)
      by_cases hbig : (10 ^ 18 : Int) ≤ ns[i]
      · have hpos : (0 : Int) < ns[i] := by omega
        refine ⟨ns[i] % z, i + 1, ns[i] / z, a, Int.emod_nonneg _ (by omega), Int.emod_lt_of_pos _ hz, Int.ediv_nonneg (by omega) (by omega), ?_⟩
        have e1 : ((i + 1 : Nat) : Int) = (i : Int) + 1 := by omega
        trivial
      · refine ⟨(a * 48271 + ns[i] * 69621 + 11) % 2147483647 * 16807 % 2147483629 % z, i + 1, 0, (a * 48271 + ns[i] * 69621 + 11) % 2147483647, Int.emod_nonneg _ (by omega), Int.emod_lt_of_pos _ hz, by omega, ?_⟩
        have e1 : ((i + 1 : Nat) : Int) = (i : Int) + 1 := by omega
        trivial
    · refine ⟨(a * 48271 + 7) % 2147483647 * 16807 % 2147483629 % z, i, 0, (a * 48271 + 7) % 2147483647, Int.emod_nonneg _ (by omega), Int.emod_lt_of_pos _ hz, by omega, ?_⟩
      trivial
  · have hpos : 0 < b := by omega
    refine ⟨b % z, i, b / z, a, Int.emod_nonneg _ (by omega), Int.emod_lt_of_pos _ hz, Int.ediv_nonneg (by omega) (by omega), ?_⟩
    trivial
end D
end

section
set_option maxRecDepth 100000
set_option maxHeartbeats 1000000
/-! D2c: more of running: loops, methods, making, try. -/
namespace D
open PySem DL
section
variable {G : Glb} {F : Fns} {n : Nat} {E : Er}
/-! ### what is walked -/
theorem evI_val (a : DE) (e : Env) (s : Store) : denI G F n (.val a) e s = k1 srcOf (den G F n a e s) := bnd_k1 _ _ _
def srcG (c : Nat) (s : Store) : Option Ob → R Src
  | some (.lst _) => .ok (.dyn c) s
  | _ => .bad
theorem o_src (c : Nat) (s : Store) : srcOf (.loc c) s = srcG c s s[c]? := by
  show (getC c >>= _) s = _
  cases h : s[c]? with
  | none => rw [bnd_bad (getC_no h)]; rfl
  | some o =>
    rw [bnd_ok (getC_at h)]
    cases o <;> rfl
theorem srcG_l (c : Nat) (s : Store) (xs : List L) : srcG c s (some (.lst xs)) = .ok (.dyn c) s := rfl
theorem o_srcT (xs : List L) (s : Store) : srcOf (.tup xs) s = .ok (.fix xs) s := rfl
def rngO (x : L) : M Src := match x with
  | .int j => if -(2 ^ 62) ≤ j ∧ j < 2 ^ 62 then pure (Src.fix ((List.range j.toNat).map fun i => .int (i : Nat))) else die
  | _ => die
theorem evI_rng1 (a : DE) (e : Env) (s : Store) : denI G F n (.rng1 a) e s = k1 rngO (den G F n a e s) := bnd_k1 _ rngO _
theorem o_rng (j : Int) (s : Store) (h : -(2 ^ 62) ≤ j ∧ j < 2 ^ 62) : rngO (.int j) s = .ok (Src.fix ((List.range j.toNat).map fun i => .int (i : Nat))) s := by
  show (if -(2 ^ 62) ≤ j ∧ j < 2 ^ 62 then (pure (Src.fix ((List.range j.toNat).map fun i => .int (i : Nat))) : M Src) else die) s = _
  rw [if_pos h]
  rfl
def zip3O : List L → M Src
  | [.tup xs, .tup ys, .tup zs] => fun s => .ok (Src.fix ((xs.zip (ys.zip zs)).map fun p => .tup [p.1, p.2.1, p.2.2])) s
  | _ => die
theorem evI_zip3 (a b c : DE) (e : Env) (s s1 s2 s3 : Store) (xs ys zs : List L) (h1 : den G F n a e s = .ok (.tup xs) s1) (h2 : den G F n b e s1 = .ok (.tup ys) s2) (h3 : den G F n c e s2 = .ok (.tup zs) s3) :
    denI G F n (.zip3 a b c) e s = .ok (Src.fix ((xs.zip (ys.zip zs)).map fun p => .tup [p.1, p.2.1, p.2.2])) s3 := by
  show (den G F n a e >>= _) s = _
  rw [bnd_ok h1]
  show (den G F n b e >>= _) s1 = _
  rw [bnd_ok h2]
  show (den G F n c e >>= _) s2 = _
  rw [bnd_ok h3]
  rfl
theorem evI_zip2 (a b : DE) (e : Env) (s s1 s2 : Store) (xs ys : List L) (h1 : den G F n a e s = .ok (.tup xs) s1) (h2 : den G F n b e s1 = .ok (.tup ys) s2) :
    denI G F n (.zip2 a b) e s = .ok (Src.fix ((xs.zip ys).map fun p => .tup [p.1, p.2])) s2 := by
  show (den G F n a e >>= _) s = _
  rw [bnd_ok h1]
  show (den G F n b e >>= _) s1 = _
  rw [bnd_ok h2]
  rfl
/-! ### loops -/
def sFr (G : Glb) (F : Fns) (n : Nat) (E : Er) (t : DT) (b : DSs) (e : Env) : R Src → RS
  | .ok x s => forSrc n (frF G F n E t b) x e s
  | .ex c p s => .ex c p e s
  | .bad => .bad
theorem es_fr (t : DT) (it : DI) (b : DSs) (e : Env) (s : Store) : denS G F n E (.fr t it b) e s = sFr G F n E t b e (denI G F n it e s) := by
  show RS.of e (denI G F n it e s) _ = _
  cases denI G F n it e s <;> rfl
theorem sFr_fix (t : DT) (b : DSs) (e : Env) (xs : List L) (s : Store) : sFr G F n E t b e (.ok (.fix xs) s) = forFix (frF G F n E t b) xs e s := rfl
theorem sFr_dyn (t : DT) (b : DSs) (e : Env) (c : Nat) (s : Store) : sFr G F n E t b e (.ok (.dyn c) s) = forDyn (frF G F n E t b) c n 0 e s := rfl
theorem es_whl (c : DE) (b : DSs) (e : Env) (s : Store) : denS G F n E (.whl c b) e s = whlN (fun e => den G F n c e >>= truM) (denSs G F n E b) n e s := rfl
theorem forFix_nil (f : L → Env → Store → RS) (e : Env) (s : Store) : forFix f [] e s = .nx e s := rfl
def sFx (f : L → Env → Store → RS) (xs : List L) : RS → RS
  | .nx e s => forFix f xs e s
  | .rt v s => .rt v s
  | .ex c p e s => .ex c p e s
  | .bad => .bad
theorem forFix_cons (f : L → Env → Store → RS) (x : L) (xs : List L) (e : Env) (s : Store) : forFix f (x :: xs) e s = sFx f xs (f x e s) := by
  show (match f x e s with
    | .nx e' s' => forFix f xs e' s'
    | r => r) = _
  cases f x e s <;> rfl
theorem sFx_nx (f : L → Env → Store → RS) (xs : List L) (e : Env) (s : Store) : sFx f xs (.nx e s) = forFix f xs e s := rfl
theorem sFx_rt (f : L → Env → Store → RS) (xs : List L) (v : L) (s : Store) : sFx f xs (.rt v s) = .rt v s := rfl
theorem sFx_ex (f : L → Env → Store → RS) (xs : List L) (c : Str) (p : Option (Str × L)) (e : Env) (s : Store) : sFx f xs (.ex c p e s) = .ex c p e s := rfl
theorem frF_nm (i : Nat) (b : DSs) (v : L) (e : Env) (s : Store) : frF G F n E (.nm i) b v e s = denSs G F n E b (e.set i (some v)) s := rfl
theorem frF_tp (is : List Nat) (b : DSs) (v : L) (e e' : Env) (s : Store) (h : setT (.tp is) v e = some e') : frF G F n E (.tp is) b v e s = denSs G F n E b e' s := by
  unfold frF
  simp only [h]
/-- a walk over a list that stands, each turn on to the next -/
theorem forDyn_inv {f : L → Env → Store → RS} {c : Nat} {xs : List L} (I : Nat → Env → Store → Prop) (hc : ∀ i e s, I i e s → s[c]? = some (.lst xs)) (hs : ∀ i x e s, xs[i]? = some x → I i e s → ∃ e' s', f x e s = .nx e' s' ∧ I (i + 1) e' s') :
    ∀ (m i : Nat) (e : Env) (s : Store), xs.length - i < m → i ≤ xs.length → I i e s → ∃ e' s', forDyn f c m i e s = .nx e' s' ∧ I xs.length e' s'
  | 0, i, e, s, hm, _, _ => absurd hm (Nat.not_lt_zero _)
  | m + 1, i, e, s, hm, hi, h => by
    have h1 := hc i e s h
    by_cases hlt : i < xs.length
    · have hx : xs[i]? = some xs[i] := List.getElem?_eq_getElem hlt
      obtain ⟨e1, s1, f1, i1⟩ := hs i _ e s hx h
      obtain ⟨e2, s2, f2, i2⟩ := forDyn_inv I hc hs m (i + 1) e1 s1 (by omega) hlt i1
      refine ⟨e2, s2, ?_, i2⟩
      show (match s[c]? with
        | some (.lst xs) => (match xs[i]? with
          | some x => (match f x e s with
            | .nx e' s' => forDyn f c m (i + 1) e' s'
            | r => r)
          | none => .nx e s)
        | _ => .bad) = _
      rw [h1]
      simp only [hx, f1]
      exact f2
    · have ei : i = xs.length := by omega
      subst ei
      refine ⟨e, s, ?_, h⟩
      show (match s[c]? with
        | some (.lst xs') => (match xs'[xs.length]? with
          | some x => (match f x e s with
            | .nx e' s' => forDyn f c m (xs.length + 1) e' s'
            | r => r)
          | none => .nx e s)
        | _ => .bad) = _
      rw [h1]
      simp only [List.getElem?_eq_none (Nat.le_refl _)]
theorem mapDyn_inv {α : Type} {f : L → M (List α)} {c : Nat} {xs : List L} (I : Nat → List α → Store → Prop) (hc : ∀ i a s, I i a s → s[c]? = some (.lst xs)) (hs : ∀ i x acc s, xs[i]? = some x → I i acc s → ∃ a s', f x s = .ok a s' ∧ I (i + 1) (acc ++ a) s') :
    ∀ (m i : Nat) (acc : List α) (s : Store), xs.length - i < m → i ≤ xs.length → I i acc s → ∃ r s', mapDyn f c m i s = .ok r s' ∧ I xs.length (acc ++ r) s'
  | 0, i, acc, s, hm, _, _ => absurd hm (Nat.not_lt_zero _)
  | m + 1, i, acc, s, hm, hi, h => by
    have h1 := hc i acc s h
    have e0 : mapDyn f c (m + 1) i s = (match xs[i]? with
        | some x => (f x >>= fun a => mapDyn f c m (i + 1) >>= fun r => pure (a ++ r))
        | none => (pure [] : M (List α))) s := by
      show (getC c >>= _) s = _
      exact bnd_ok (getC_at h1)
    by_cases hlt : i < xs.length
    · have hx : xs[i]? = some xs[i] := List.getElem?_eq_getElem hlt
      obtain ⟨a, s1, f1, i1⟩ := hs i _ acc s hx h
      obtain ⟨r, s2, f2, i2⟩ := mapDyn_inv I hc hs m (i + 1) (acc ++ a) s1 (by omega) hlt i1
      refine ⟨a ++ r, s2, ?_, by rw [← List.append_assoc]; exact i2⟩
      rw [e0, hx]
      show (f xs[i] >>= _) s = _
      rw [bnd_ok f1, bnd_ok f2]
      rfl
    · have ei : i = xs.length := by omega
      subst ei
      refine ⟨[], s, ?_, by rw [List.append_nil]; exact h⟩
      rw [e0, List.getElem?_eq_none (Nat.le_refl _)]
      rfl
/-! ### list comprehensions -/
theorem evX_lc {own : List Nat} {t : DT} {it : DI} {c : DO} {x : DE} {e : Env} {s s1 s2 : Store} {src : Src} {r : List L} (h1 : denI G F n it e s = .ok src s1) (h2 : mapSrc n (lcF G F n own t c x e) src s1 = .ok r s2) (hz : r.length ≤ szMax) : denX G F n (.lc own t it c x) e s = .ok r s2 := by
  show (denI G F n it e >>= fun src => szd (noEx (mapSrc n (lcF G F n own t c x e) src))) s = _
  rw [bnd_ok h1]
  have e1 : noEx (mapSrc n (lcF G F n own t c x e) src) s1 = .ok r s2 := by
    unfold noEx
    rw [h2]
  show (noEx (mapSrc n (lcF G F n own t c x e) src) >>= fun xs => if xs.length ≤ szMax then pure xs else die) s1 = _
  rw [bnd_ok e1, if_pos hz]
  rfl
/-- a turn with no test -/
theorem lcF_non {own : List Nat} {t : DT} {x : DE} {e e' : Env} {v : L} {y : L} {s s' : Store} (h1 : setT t v (wipe e own) = some e') (h2 : den G F n x e' s = .ok y s') : lcF G F n own t .non x e v s = .ok [y] s' := by
  unfold lcF
  rw [h1]
  show (den G F n x e' >>= fun y => pure [y]) s = _
  rw [bnd_ok h2]
  rfl
theorem lcF_som {own : List Nat} {t : DT} {c x : DE} {e e' : Env} {v : L} {b : Bool} {s s1 : Store} (h1 : setT t v (wipe e own) = some e') (h2 : k1 truM (den G F n c e' s) = .ok b s1) :
    lcF G F n own t (.som c) x e v s = if b = true then k1 (fun y s => .ok [y] s) (den G F n x e' s1) else .ok [] s1 := by
  unfold lcF
  rw [h1]
  have h3 : (den G F n c e' >>= truM) s = .ok b s1 := by rw [bnd_k1]; exact h2
  show ((den G F n c e' >>= truM) >>= fun t => if t = true then (den G F n x e' >>= fun y => pure [y]) else pure []) s = _
  rw [bnd_ok h3]
  cases b with
  | true =>
    show (den G F n x e' >>= fun y => pure [y]) s1 = k1 (fun y s => .ok [y] s) (den G F n x e' s1)
    rw [bnd_k1]
    rfl
  | false => rfl
theorem mapFix_inv {α : Type} {f : L → M (List α)} (I : List L → List α → Store → Prop) (hs : ∀ x xs acc s, I (x :: xs) acc s → ∃ a s', f x s = .ok a s' ∧ I xs (acc ++ a) s') : ∀ (xs : List L) (acc : List α) (s : Store), I xs acc s → ∃ r s', mapFix f xs s = .ok r s' ∧ I [] (acc ++ r) s'
  | [], acc, s, h => ⟨[], s, rfl, by rw [List.append_nil]; exact h⟩
  | x :: xs, acc, s, h => by
    obtain ⟨a, s1, f1, i1⟩ := hs x xs acc s h
    obtain ⟨r, s2, f2, i2⟩ := mapFix_inv I hs xs (acc ++ a) s1 i1
    refine ⟨a ++ r, s2, ?_, by rw [← List.append_assoc]; exact i2⟩
    show (f x >>= fun a => mapFix f xs >>= fun r => pure (a ++ r)) s = _
    rw [bnd_ok f1, bnd_ok f2]
    rfl
/-- over plain data, the store as it stands -/
theorem mapFix_pure {α : Type} {f : L → M (List α)} {g : L → List α} {s : Store} : ∀ (xs : List L), (∀ x ∈ xs, f x s = .ok (g x) s) → mapFix f xs s = .ok (xs.flatMap g) s
  | [], _ => rfl
  | x :: xs, h => by
    have h1 := h x List.mem_cons_self
    have h2 := mapFix_pure xs fun y hy => h y (List.mem_cons_of_mem _ hy)
    show (f x >>= fun a => mapFix f xs >>= fun r => pure (a ++ r)) s = _
    rw [bnd_ok h1, bnd_ok h2]
    rfl
/-! ### methods, making -/
def mthO (F : Fns) (k : FK) (x : L) (vs : List L) : M L := F k (x :: vs)
def mthG (G : Glb) (F : Fns) (n : Nat) (m : Str) (es : DEs) (e : Env) (x : L) (s : Store) : Option Ob → R L
  | some (.ins k fs) => if (lk m fs).isNone = true ∧ G.has (k, some m) = true then k1 (mthO F (k, some m) x) (dens G F n es e s) else .bad
  | _ => .bad
def kMeth (G : Glb) (F : Fns) (n : Nat) (m : Str) (es : DEs) (e : Env) : R L → R L
  | .ok (.loc c) s => mthG G F n m es e (.loc c) s s[c]?
  | .ex c p s => .ex c p s
  | _ => .bad
theorem ev_meth (m : Str) (o : DE) (es : DEs) (e : Env) (s : Store) : den G F n (.meth m o es) e s = kMeth G F n m es e (den G F n o e s) := by
  show (den G F n o e >>= fun x => match x with
    | .loc c => getC c >>= fun ob => match ob with
      | .ins k fs => if (lk m fs).isNone = true ∧ G.has (k, some m) = true then dens G F n es e >>= fun vs => F (k, some m) (x :: vs) else die
      | _ => die
    | _ => die) s = _
  rw [bnd_k1]
  cases den G F n o e s with
  | ok x s1 =>
    cases x with
    | loc c =>
      show (getC c >>= fun ob => match ob with
        | .ins k fs => if (lk m fs).isNone = true ∧ G.has (k, some m) = true then dens G F n es e >>= fun vs => F (k, some m) (.loc c :: vs) else die
        | _ => die) s1 = mthG G F n m es e (.loc c) s1 s1[c]?
      cases h : s1[c]? with
      | none => rw [bnd_bad (getC_no h)]; rfl
      | some ob =>
        rw [bnd_ok (getC_at h)]
        cases ob with
        | ins k fs =>
          show (if (lk m fs).isNone = true ∧ G.has (k, some m) = true then (dens G F n es e >>= fun vs => F (k, some m) (.loc c :: vs)) else die) s1 = (if (lk m fs).isNone = true ∧ G.has (k, some m) = true then k1 (mthO F (k, some m) (.loc c)) (dens G F n es e s1) else .bad)
          by_cases hc : (lk m fs).isNone = true ∧ G.has (k, some m) = true
          · rw [if_pos hc, if_pos hc, bnd_k1]
            rfl
          · rw [if_neg hc, if_neg hc]
            rfl
        | _ => rfl
    | _ => rfl
  | ex c p s1 => rfl
  | bad => rfl
theorem kMeth_ok (m : Str) (es : DEs) (e : Env) (c : Nat) (s : Store) : kMeth G F n m es e (.ok (.loc c) s) = mthG G F n m es e (.loc c) s s[c]? := rfl
theorem mthG_i (m : Str) (es : DEs) (e : Env) (x : L) (s : Store) (k : Str) (fs : List (Str × L)) (h : (lk m fs).isNone = true) (h2 : G.has (k, some m) = true) : mthG G F n m es e x s (some (.ins k fs)) = k1 (mthO F (k, some m) x) (dens G F n es e s) := if_pos ⟨h, h2⟩
theorem o_mth (k : FK) (x : L) (vs : List L) (s : Store) : mthO F k x vs s = F k (x :: vs) s := rfl
def mkE (x : Nat) : R L → R L
  | .ok .non s => .ok (.loc x) s
  | .ok _ _ => .bad
  | .ex c p s => .ex c p s
  | .bad => .bad
def mkO (F : Fns) (c : Str) (vs : List L) : M L := fun s => mkE s.length (F (c, some "__init__") (.loc s.length :: vs) (s ++ [.ins c []]))
theorem ev_make (c : Str) (es : DEs) (e : Env) (s : Store) (h : G.has (c, some "__init__") = true) : den G F n (.make c es) e s = k1 (mkO F c) (dens G F n es e s) := by
  show (if G.has (c, some "__init__") = true then (dens G F n es e >>= fun vs => alloc (.ins c []) >>= fun x => F (c, some "__init__") (x :: vs) >>= fun r => match r with
    | .non => pure x
    | _ => die) else die) s = _
  rw [if_pos h, bnd_k1]
  congr 1
  funext vs s
  show (F (c, some "__init__") (.loc s.length :: vs) >>= fun r => match r with
    | .non => (pure (.loc s.length) : M L)
    | _ => die) (s ++ [.ins c []]) = mkE s.length (F (c, some "__init__") (.loc s.length :: vs) (s ++ [.ins c []]))
  rw [bnd_k1]
  cases F (c, some "__init__") (.loc s.length :: vs) (s ++ [.ins c []]) with
  | ok v s1 => cases v <;> rfl
  | ex c p s1 => rfl
  | bad => rfl
theorem o_mk (c : Str) (vs : List L) (s : Store) : mkO F c vs s = mkE s.length (F (c, some "__init__") (.loc s.length :: vs) (s ++ [.ins c []])) := rfl
theorem mkE_ok (x : Nat) (s : Store) : mkE x (.ok .non s) = .ok (.loc x) s := rfl
theorem mkE_ex (x : Nat) (c : Str) (p : Option (Str × L)) (s : Store) : mkE x (.ex c p s) = .ex c p s := rfl
/-! ### raise, try, fields -/
def sRse (E : Er) (c : Str) (e : Env) : R (List L) → RS
  | .ok vs s' => (match E.fld c, vs with
    | some (some f), [v] => .ex c (some (f, v)) e s'
    | some none, [] => .ex c none e s'
    | _, _ => .bad)
  | .ex c p s => .ex c p e s
  | .bad => .bad
theorem es_rse (c : Str) (es : DEs) (e : Env) (s : Store) : denS G F n E (.rse c es) e s = sRse E c e (dens G F n es e s) := by
  show RS.of e (dens G F n es e s) _ = _
  cases dens G F n es e s <;> rfl
theorem sRse_1 (c f : Str) (e : Env) (v : L) (s : Store) (h : E.fld c = some (some f)) : sRse E c e (.ok [v] s) = .ex c (some (f, v)) e s := by
  unfold sRse
  simp only [h]
def sTr (E : Er) (hs : List (Str × Option Nat × DH)) : RS → RS
  | .ex c p e s => clauses E c p e s hs
  | .nx e s => .nx e s
  | .rt v s => .rt v s
  | .bad => .bad
theorem es_tr (b : DSs) (hs : List (Str × Option Nat × DH)) (e : Env) (s : Store) : denS G F n E (.tr b hs) e s = sTr E hs (denSs G F n E b e s) := by
  show (match denSs G F n E b e s with
    | .ex c p e' s' => clauses E c p e' s' hs
    | r => r) = _
  cases denSs G F n E b e s <;> rfl
theorem sTr_nx (hs : List (Str × Option Nat × DH)) (e : Env) (s : Store) : sTr E hs (.nx e s) = .nx e s := rfl
theorem sTr_ex (hs : List (Str × Option Nat × DH)) (c : Str) (p : Option (Str × L)) (e : Env) (s : Store) : sTr E hs (.ex c p e s) = clauses E c p e s hs := rfl
theorem sAsg_ex (i : Nat) (e : Env) (c : Str) (p : Option (Str × L)) (s : Store) : sAsg i e (.ex c p s) = .ex c p e s := rfl
theorem sExp_ex (e : Env) (c : Str) (p : Option (Str × L)) (s : Store) : sExp e (.ex c p s) = .ex c p e s := rfl
def fsetG (fl : Str → Str → Bool) (c : Nat) (f : Str) (v : L) (s : Store) : Option Ob → R Unit
  | some (.ins k fs) => if fs.length < 1000 ∧ fl k f = true then .ok () (s.set c (.ins k (put f v fs))) else .bad
  | _ => .bad
def sFs2 (fl : Str → Str → Bool) (f : Str) (v : L) (e : Env) : R L → RS
  | .ok (.loc c) s => sEnd e (fsetG fl c f v s s[c]?)
  | .ex c p s => .ex c p e s
  | _ => .bad
def sFs1 (G : Glb) (F : Fns) (n : Nat) (o : DE) (f : Str) (e : Env) : R L → RS
  | .ok v s => sFs2 G.fl f v e (den G F n o e s)
  | .ex c p s => .ex c p e s
  | .bad => .bad
theorem es_fset (o : DE) (f : Str) (a : DE) (e : Env) (s : Store) : denS G F n E (.fset o f a) e s = sFs1 G F n o f e (den G F n a e s) := by
  show RS.of e (den G F n a e s) _ = _
  cases den G F n a e s with
  | ok v s1 =>
    show RS.of e (den G F n o e s1) _ = sFs2 G.fl f v e (den G F n o e s1)
    cases den G F n o e s1 with
    | ok x s2 =>
      cases x with
      | loc c =>
        show RS.of e (fstM G.fl (.loc c) f v s2) _ = sEnd e (fsetG G.fl c f v s2 s2[c]?)
        have h0 : fstM G.fl (.loc c) f v s2 = fsetG G.fl c f v s2 s2[c]? := by
          show (getC c >>= fun ob => match ob with
            | .ins k fs => if fs.length < 1000 ∧ G.fl k f = true then putC c (.ins k (put f v fs)) else die
            | _ => die) s2 = _
          cases h : s2[c]? with
          | none => rw [bnd_bad (getC_no h)]; rfl
          | some ob =>
            rw [bnd_ok (getC_at h)]
            cases ob with
            | ins k fs =>
              show (if fs.length < 1000 ∧ G.fl k f = true then putC c (.ins k (put f v fs)) else die) s2 = (if fs.length < 1000 ∧ G.fl k f = true then .ok () (s2.set c (.ins k (put f v fs))) else .bad)
              by_cases hc : fs.length < 1000 ∧ G.fl k f = true
              · rw [if_pos hc, if_pos hc]; rfl
              · rw [if_neg hc, if_neg hc]; rfl
            | _ => rfl
        rw [h0]
        cases fsetG G.fl c f v s2 s2[c]? <;> rfl
      | _ => rfl
    | ex c p s1 => rfl
    | bad => rfl
  | ex c p s1 => rfl
  | bad => rfl
theorem sFs1_ok (o : DE) (f : Str) (e : Env) (v : L) (s : Store) : sFs1 G F n o f e (.ok v s) = sFs2 G.fl f v e (den G F n o e s) := rfl
theorem sFs2_ok (fl : Str → Str → Bool) (f : Str) (v : L) (e : Env) (c : Nat) (s : Store) : sFs2 fl f v e (.ok (.loc c) s) = sEnd e (fsetG fl c f v s s[c]?) := rfl
theorem fsetG_i (fl : Str → Str → Bool) (c : Nat) (f : Str) (v : L) (s : Store) (k : Str) (fs : List (Str × L)) (h : fs.length < 1000) (h2 : fl k f = true) : fsetG fl c f v s (some (.ins k fs)) = .ok () (s.set c (.ins k (put f v fs))) := if_pos ⟨h, h2⟩
/-! ### append, slices, more built-ins -/
def appG (c : Nat) (v : L) (s : Store) : Option Ob → R L
  | some (.lst xs) => if xs.length < szMax then .ok .non (s.set c (.lst (xs ++ [v]))) else .bad
  | _ => .bad
def kApp (G : Glb) (F : Fns) (n : Nat) (v : DE) (e : Env) : R L → R L
  | .ok (.loc c) s => (match s[c]? with
    | some (.lst _) => (match den G F n v e s with
      | .ok y s1 => appG c y s1 s1[c]?
      | .ex c p s => .ex c p s
      | .bad => .bad)
    | _ => .bad)
  | .ex c p s => .ex c p s
  | _ => .bad
end
end D
end

section
set_option maxRecDepth 100000
set_option maxHeartbeats 1000000
/-! D3a: equality of data. -/
namespace D
open PySem DL
def okF : L → Bool
  | .non | .bl _ | .int _ => true
  | .str z => PyData.strOk z
  | _ => false
def fdat : L → PyData
  | .bl b => .bool b
  | .int i => .int i
  | .str z => .str z
  | _ => .none
def eqFs : List L → List L → Bool
  | [], [] => true
  | x :: xs, y :: ys => eqF x y && eqFs xs ys
  | _, _ => false
section
variable {g : Nat → Option PyData}
theorem toDn_f {x : L} (h : okF x = true) : toDn g x = some (fdat x) := by
  cases x <;> first | rfl | (exact (Bool.false_ne_true h).elim)
theorem toDs_f : ∀ {xs : List L}, xs.all okF = true → toDs g xs = some (xs.map fdat)
  | [], _ => rfl
  | x :: xs, h => by
    rw [List.all_cons, Bool.and_eq_true] at h
    unfold toDs
    rw [toDn_f h.1, toDs_f h.2]
    rfl
end
theorem can_f {x : L} (h : okF x = true) : PyData.canLay0 (fdat x) = true := by
  cases x <;> first | rfl | exact h | (exact (Bool.false_ne_true h).elim)
theorem cans_f : ∀ {xs : List L}, xs.all okF = true → PyData.canLayAll0 (xs.map fdat) = true
  | [], _ => rfl
  | x :: xs, h => by
    rw [List.all_cons, Bool.and_eq_true] at h
    show (PyData.canLay0 (fdat x) && PyData.canLayAll0 (xs.map fdat)) = true
    rw [can_f h.1, cans_f h.2]
    rfl
theorem dep_f (x : L) : PyData.depth (fdat x) = 0 := by cases x <;> rfl
theorem deps_f : ∀ (xs : List L), PyData.depthAll (xs.map fdat) = 0
  | [] => rfl
  | x :: xs => by
    show max (PyData.depth (fdat x)) (PyData.depthAll (xs.map fdat)) = 0
    rw [dep_f, deps_f xs]
    rfl
theorem shp_f {x : L} (h : okF x = true) : SeqAt.shaped (fdat x) = true := by
  unfold SeqAt.shaped
  rw [can_f h, dep_f]
  rfl
theorem shp_tup {xs : List L} (h : xs.all okF = true) : SeqAt.shaped (.tuple (xs.map fdat)) = true := by
  unfold SeqAt.shaped
  show (PyData.canLayAll0 (xs.map fdat) && decide (PyData.depthAll (xs.map fdat) + 1 ≤ 64)) = true
  rw [cans_f h, deps_f]
  rfl
theorem shp_lst {xs : List L} (h : xs.all okF = true) : SeqAt.shaped (.list (xs.map fdat)) = true := by
  unfold SeqAt.shaped
  show (PyData.canLayAll0 (xs.map fdat) && decide (PyData.depthAll (xs.map fdat) + 1 ≤ 64)) = true
  rw [cans_f h, deps_f]
  rfl
theorem eqv_f {x y : L} (h : okF x = true) (h' : okF y = true) : PyData.eqv (fdat x) (fdat y) = eqF x y := by
  cases x <;> first | (exact (Bool.false_ne_true h).elim) | (cases y <;> first | (exact (Bool.false_ne_true h').elim) | rfl)
theorem eqvs_f : ∀ {xs ys : List L}, xs.all okF = true → ys.all okF = true → PyData.eqvAll (xs.map fdat) (ys.map fdat) = eqFs xs ys
  | [], [], _, _ => rfl
  | [], _ :: _, _, _ => rfl
  | _ :: _, [], _, _ => rfl
  | x :: xs, y :: ys, h, h' => by
    rw [List.all_cons, Bool.and_eq_true] at h h'
    show (PyData.eqv (fdat x) (fdat y) && PyData.eqvAll (xs.map fdat) (ys.map fdat)) = (eqF x y && eqFs xs ys)
    rw [eqv_f h.1 h'.1, eqvs_f h.2 h'.2]
theorem eqM_of {s : Store} {x y : L} {d d' : PyData} (h1 : toD s x = some d) (h2 : toD s y = some d') (h3 : SeqAt.shaped d = true) (h4 : SeqAt.shaped d' = true) : eqM x y s = .ok (PyData.eqv d d') s := by
  have e : eqD s x y = some (PyData.eqv d d') := by
    unfold eqD
    rw [h1, h2]
    simp only [h3, h4, Bool.and_self, if_true]
  unfold eqM
  rw [e]
theorem eqM_f {x y : L} (h : okF x = true) (h' : okF y = true) (s : Store) : eqM x y s = .ok (eqF x y) s := by
  rw [eqM_of (toDn_f h) (toDn_f h') (shp_f h) (shp_f h'), eqv_f h h']
theorem eqM_tup {xs ys : List L} (h : xs.all okF = true) (h' : ys.all okF = true) (s : Store) : eqM (.tup xs) (.tup ys) s = .ok (eqFs xs ys) s := by
  have e1 : ∀ {zs : List L}, zs.all okF = true → toD s (.tup zs) = some (.tuple (zs.map fdat)) := fun h => by
    show (toDs (gD s 8) _).map PyData.tuple = _
    rw [toDs_f h]
    rfl
  rw [eqM_of (e1 h) (e1 h') (shp_tup h) (shp_tup h')]
  show R.ok (PyData.eqvAll (xs.map fdat) (ys.map fdat)) s = _
  rw [eqvs_f h h']
theorem gD_l {s : Store} {n c : Nat} {xs : List L} (h : s[c]? = some (.lst xs)) : gD s (n + 1) c = (toDs (gD s n) xs).map PyData.list := by
  show (match s[c]? with
    | some (.lst xs) => (toDs (gD s n) xs).map PyData.list
    | _ => none) = _
  rw [h]
theorem toD_l {s : Store} {c : Nat} {xs : List L} (h : s[c]? = some (.lst xs)) (hx : xs.all okF = true) : toD s (.loc c) = some (.list (xs.map fdat)) := by
  show gD s 8 c = _
  rw [gD_l h, toDs_f hx]
  rfl
theorem eqM_lst {s : Store} {a b : Nat} {xs ys : List L} (ha : s[a]? = some (.lst xs)) (hb : s[b]? = some (.lst ys)) (h : xs.all okF = true) (h' : ys.all okF = true) : eqM (.loc a) (.loc b) s = .ok (eqFs xs ys) s := by
  rw [eqM_of (toD_l ha h) (toD_l hb h') (shp_lst h) (shp_lst h')]
  show R.ok (PyData.eqvAll (xs.map fdat) (ys.map fdat)) s = _
  rw [eqvs_f h h']
theorem eqq_of {hs : FK → Bool} {F : Fns} {x y : L} {b : Bool} {s : Store} (h1 : insOf s x = none) (h : eqM x y s = .ok b s) : eqqM hs F x y s = .ok (.bl b) s := by
  unfold eqqM
  rw [h1, h]
theorem eqq_f {hs : FK → Bool} {F : Fns} {x y : L} (h : okF x = true) (h' : okF y = true) (s : Store) : eqqM hs F x y s = .ok (.bl (eqF x y)) s :=
  eqq_of (by cases x <;> first | rfl | (exact (Bool.false_ne_true h).elim)) (eqM_f h h' s)
theorem neO_of {x y : L} {b : Bool} {s : Store} (h : eqM x y s = .ok b s) : neO x y s = .ok (.bl !b) s := by
  unfold neO
  rw [h]
theorem okF_wd (i : Nat) : okF (.str (wd i)) = true := wd_ok i
theorem eqF_wd (i j : Nat) : eqF (.str (wd i)) (.str (wd j)) = decide (wd i = wd j) := rfl
theorem eqFs_self : ∀ {xs : List L}, xs.all okF = true → eqFs xs xs = true
  | [], _ => rfl
  | x :: xs, h => by
    rw [List.all_cons, Bool.and_eq_true] at h
    show (eqF x x && eqFs xs xs) = true
    rw [eqFs_self h.2, Bool.and_true]
    cases x <;> first | rfl | (exact (Bool.false_ne_true h.1).elim) | simp [eqF]
end D
end

section
set_option maxRecDepth 100000
set_option maxHeartbeats 2000000
/-! D3b: the law's own small defs. -/
namespace D
open PySem DL
local macro_rules
  | `(tactic| trivial) => `(tactic| simp (config := {decide := false}) only [ev_var, ev_cst, ev_glb, ev_add, ev_sub, ev_mul, ev_fdv, ev_mod, ev_pow, ev_neg, ev_not, ev_eq, ev_ne, ev_lt, ev_le, ev_gt, ev_ge, ev_isn, ev_isnn, ev_inn, ev_nin, ev_and, ev_or, ev_ite, ev_tup, ev_lst, ev_dS0, ev_dSc, ev_idx, ev_fld, ev_call, ev_isi, ev_bi, ev_bx, ev_lc, ev_idxX, ev_inX, evX_disp, evs_nil, evs_cons,
      k1_ok, k2_ok, kAnd_ok, kA_t, kA_f, kOr_ok, kO_t, kO_f, kI_t, kI_f, kCs_ok, kCons_ok, kX_ok, kN_ok, es_nil, es_cons, sSeq_nx, sSeq_rt, sSeq_ex, es_asg, sAsg_ok, es_ret, sRet_ok, sRet_ex, es_expr, sExp_ok, es_ife, sIf_t, sIf_f, es_iset, sIs1_ok, sIs2_ok, sIs3_ok, sEnd_ok,
      ap_ofO, tru_bl, tru_int, tru_non, o_add, o_sub, o_lt, o_le, o_gt, o_ge, o_not, o_idx, idxG_l, idxG_d, o_idxT, o_set, setG_l, setJ_s, setG_d, o_len, lenG_l, o_fld, fldG_i, o_lenT, at0, at1, at2, at3, at4, at5, at6, at7, at8, ix4_0, ix4_1, ix4_2, ix4_3, ix3_0, ix3_1, ix3_2, List.set_set, o_intI, o_intB, o_max, o_min, eqq_int, eqq_wd,
      List.map_cons, List.map_nil, List.replicate, List.cons_append, List.nil_append, List.getElem?_cons_zero, List.getElem?_cons_succ, List.set_cons_zero, List.set_cons_succ, Option.join, Option.bind_some, id_eq, List.length_cons, List.length_nil, List.length_map, eq_self, decide_true, decide_false, Nat.reduceAdd, Nat.zero_add, Bool.not_true, Bool.not_false, *])
/-! ### more operations -/
theorem lstO_ok (vs : List L) (s : Store) (h : vs.length ≤ szMax) : lstO vs s = .ok (.loc s.length) (s ++ [.lst vs]) := if_pos h
theorem tupO_ok (vs : List L) (s : Store) (h : vs.length ≤ szMax) : tupO vs s = .ok (.tup vs) s := if_pos h
def addG (xs : List L) (s : Store) : Option Ob → R L
  | some (.lst ys) => if xs.length + ys.length ≤ szMax then .ok (.loc s.length) (s ++ [.lst (xs ++ ys)]) else .bad
  | _ => .bad
def addJ (b : Nat) (s : Store) : Option Ob → R L
  | some (.lst xs) => addG xs s s[b]?
  | _ => .bad
theorem o_addL (a b : Nat) (s : Store) {xs ys : List L} (ha : s[a]? = some (.lst xs)) (hb : s[b]? = some (.lst ys)) (h : xs.length + ys.length ≤ szMax) : addM (.loc a) (.loc b) s = .ok (.loc s.length) (s ++ [.lst (xs ++ ys)]) := by
  show (getC a >>= fun oa => getC b >>= fun ob => match oa, ob with
    | .lst xs, .lst ys => if xs.length + ys.length ≤ szMax then alloc (.lst (xs ++ ys)) else die
    | _, _ => die) s = _
  rw [bnd_ok (getC_at ha), bnd_ok (getC_at hb)]
  show (if xs.length + ys.length ≤ szMax then alloc (.lst (xs ++ ys)) else die) s = _
  rw [if_pos h]
  rfl
theorem take_app (s g : Store) : (s ++ g).take s.length = s := by
  rw [List.take_append_of_le_length (Nat.le_refl _), List.take_length]
theorem gcR_app {s g : Store} {r : L} (hn : noLoc r = true) : gcR s r (s ++ g) = .ok r s := by
  unfold gcR
  rw [if_pos (take_app s g), if_pos hn]
theorem gcR_deep {s s' : Store} {k : Nat} {xs : List L} (hk : s'[k]? = some (.lst xs)) (hx : noLocs xs = false) : gcR s (.loc k) s' = .ok (.loc k) s' := by
  unfold gcR
  simp only [noLoc, Bool.false_eq_true, if_false, hk, hx, Bool.false_and]
  split <;> rfl
/-- a flat list comes out -/
theorem gcR_flat {s s' : Store} {k : Nat} {xs : List L} (hk : s'[k]? = some (.lst xs)) (hl : s.length ≤ k) (hs : s.length ≤ s'.length) : ∃ k' s'', gcR s (.loc k) s' = .ok (.loc k') s'' ∧ s.length ≤ k' ∧ s''[k']? = some (.lst xs) ∧ s.length ≤ s''.length ∧ ∀ i, i < s.length → s''[i]? = s'[i]? := by
  unfold gcR
  by_cases h : s'.take s.length = s
  · rw [if_pos h]
    simp only [noLoc, Bool.false_eq_true, if_false, hk]
    by_cases hx : (noLocs xs && decide (s.length ≤ k)) = true
    · rw [if_pos hx]
      refine ⟨s.length, s ++ [.lst xs], rfl, Nat.le_refl _, by rw [List.getElem?_append_right (Nat.le_refl _), Nat.sub_self]; rfl, by rw [List.length_append]; omega, fun i hi => ?_⟩
      rw [List.getElem?_append_left hi, ← h, List.getElem?_take]
      rw [if_pos hi]
    · rw [if_neg hx]
      exact ⟨k, s', rfl, hl, hk, hs, fun i _ => rfl⟩
  · rw [if_neg h]
    exact ⟨k, s', rfl, hl, hk, hs, fun i _ => rfl⟩
/-! ### the values -/
def nmL (i : Nat) : L := .str (wd i)
def vals : List (List L) := [[.str (wd 8), .str (wd 9)], [.str (wd 10), .str (wd 11), .str (wd 12)], [.str (wd 10), .str (wd 13), .str (wd 12)], [.str (wd 14), .str (wd 15)], [.str (wd 13), .str (wd 16)], [.str (wd 17), .str (wd 18)], [.str (wd 19), .str (wd 20)], [.bl true, .bl false]]
def valG (b : Nat) : Store := [.lst [.str (wd 8), .str (wd 9)], .lst [.str (wd 10), .str (wd 11), .str (wd 12)], .lst [.str (wd 10), .str (wd 13), .str (wd 12)], .lst [.str (wd 14), .str (wd 15)], .lst [.loc b, .loc (b + 1), .loc (b + 2), .loc (b + 3)],
  .lst [.str (wd 13), .str (wd 16)], .lst [.str (wd 17), .str (wd 18)], .lst [.str (wd 19), .str (wd 20)], .lst [.bl true, .bl false], .lst [.loc (b + 5), .loc (b + 6), .loc (b + 7), .loc (b + 8)],
  .lst [.loc b, .loc (b + 1), .loc (b + 2), .loc (b + 3), .loc (b + 5), .loc (b + 6), .loc (b + 7), .loc (b + 8)]]
theorem app_at (s g : Store) (i : Nat) : (s ++ g)[s.length + i]? = g[i]? := by
  rw [List.getElem?_append_right (by omega)]
  congr 1
  omega
theorem app_at0 (s g : Store) : (s ++ g)[s.length]? = g[0]? := app_at s g 0
theorem values_ok {P : Pg} {n k : Nat} (h : P.fn ("_law_values", none) = some d__law_values) (s : Store) : callD P n (k + 1) ("_law_values", none) [] s = .ok (.loc (s.length + 10)) (s ++ valG s.length) := by
  have z : ∀ n, n < 100 → n ≤ szMax := fun n h => by unfold szMax; omega
  have l2 : ∀ (a b : L) (s : Store), lstO [a, b] s = .ok (.loc s.length) (s ++ [.lst [a, b]]) := fun a b s => lstO_ok _ _ (z 2 (by decide))
  have l3 : ∀ (a b c : L) (s : Store), lstO [a, b, c] s = .ok (.loc s.length) (s ++ [.lst [a, b, c]]) := fun a b c s => lstO_ok _ _ (z 3 (by decide))
  have l4 : ∀ (a b c d : L) (s : Store), lstO [a, b, c, d] s = .ok (.loc s.length) (s ++ [.lst [a, b, c, d]]) := fun a b c d s => lstO_ok _ _ (z 4 (by decide))
  have ad : ∀ (s : Store), addM (.loc (s.length + 4)) (.loc (s.length + 9)) (s ++ [Ob.lst [.str (wd 8), .str (wd 9)], .lst [.str (wd 10), .str (wd 11), .str (wd 12)], .lst [.str (wd 10), .str (wd 13), .str (wd 12)], .lst [.str (wd 14), .str (wd 15)], .lst [.loc s.length, .loc (s.length + 1), .loc (s.length + 2), .loc (s.length + 3)],
  .lst [.str (wd 13), .str (wd 16)], .lst [.str (wd 17), .str (wd 18)], .lst [.str (wd 19), .str (wd 20)], .lst [.bl true, .bl false], .lst [.loc (s.length + 5), .loc (s.length + 6), .loc (s.length + 7), .loc (s.length + 8)]]) = .ok (.loc (s.length + 10)) (s ++ valG s.length) := fun s => by
    rw [o_addL (xs := [.loc s.length, .loc (s.length + 1), .loc (s.length + 2), .loc (s.length + 3)]) (ys := [.loc (s.length + 5), .loc (s.length + 6), .loc (s.length + 7), .loc (s.length + 8)]) _ _ _ (app_at _ _ 4) (app_at _ _ 9) (z 8 (by decide)), List.append_assoc, List.length_append]
    rfl
  rw [call_at h rfl]
  simp only [d__law_values]
  have aa : ∀ a b c : Store, a ++ b ++ c = a ++ (b ++ c) := List.append_assoc
  have la : ∀ a b : Store, (a ++ b).length = a.length + b.length := fun a b => List.length_append
  have na : ∀ a b c : Nat, a + b + c = a + (b + c) := Nat.add_assoc
  have gd : gcR s (.loc (s.length + 10)) (s ++ valG s.length) = .ok (.loc (s.length + 10)) (s ++ valG s.length) := gcR_deep (app_at s (valG s.length) 10) rfl
  have gf : fin s (.rt (.loc (s.length + 10)) (s ++ valG s.length)) = gcR s (.loc (s.length + 10)) (s ++ valG s.length) := rfl
  clear h z
  trivial
end D
end

section
set_option maxRecDepth 100000
set_option maxHeartbeats 2000000
/-! D3c: draws and parts. -/
namespace D
open PySem DL
local macro_rules
  | `(tactic| trivial) => `(tactic| simp (config := {decide := false}) only [ev_var, ev_cst, ev_glb, ev_add, ev_sub, ev_mul, ev_fdv, ev_mod, ev_pow, ev_neg, ev_not, ev_eq, ev_ne, ev_lt, ev_le, ev_gt, ev_ge, ev_isn, ev_isnn, ev_inn, ev_nin, ev_and, ev_or, ev_ite, ev_tup, ev_lst, ev_dS0, ev_dSc, ev_idx, ev_fld, ev_call, ev_isi, ev_bi, ev_bx, ev_lc, ev_idxX, ev_inX, evX_disp, evs_nil, evs_cons,
      k1_ok, k2_ok, kAnd_ok, kA_t, kA_f, kOr_ok, kO_t, kO_f, kI_t, kI_f, kCs_ok, kCons_ok, kX_ok, kN_ok, es_nil, es_cons, sSeq_nx, sSeq_rt, sSeq_ex, es_asg, sAsg_ok, es_ret, sRet_ok, sRet_ex, es_expr, sExp_ok, es_ife, sIf_t, sIf_f, es_iset, sIs1_ok, sIs2_ok, sIs3_ok, sEnd_ok,
      ap_ofO, tru_bl, tru_int, tru_non, o_add, o_sub, o_lt, o_le, o_gt, o_ge, o_not, o_idx, idxG_l, idxG_d, o_idxT, o_set, setG_l, setJ_s, setG_d, o_len, lenG_l, o_fld, fldG_i, o_lenT, at0, at1, at2, at3, at4, at5, at6, at7, at8, ix4_0, ix4_1, ix4_2, ix4_3, ix3_0, ix3_1, ix3_2, List.set_set, o_intI, o_intB, o_max, o_min, eqq_int, eqq_wd,
      List.map_cons, List.map_nil, List.replicate, List.cons_append, List.nil_append, List.getElem?_cons_zero, List.getElem?_cons_succ, List.set_cons_zero, List.set_cons_succ, Option.join, Option.bind_some, id_eq, List.length_cons, List.length_nil, List.length_map, eq_self, decide_true, decide_false, Nat.reduceAdd, Nat.zero_add, Bool.not_true, Bool.not_false, *])
/-- the draws stand in cells d and e -/
def Dr (d e : Nat) (s : Store) : Prop := d ≠ e ∧ ∃ (ns : List Int) (i : Nat) (b a : Int), s[d]? = some (.lst [.loc e, .int i, .int b, .int a]) ∧ s[e]? = some (.lst (ns.map .int)) ∧ 0 ≤ b
/-- all but d stands -/
def Fr (d : Nat) (s s' : Store) : Prop := s.length ≤ s'.length ∧ ∀ i, i < s.length → i ≠ d → s'[i]? = s[i]?
theorem Fr.refl (d : Nat) (s : Store) : Fr d s s := ⟨Nat.le_refl _, fun _ _ _ => rfl⟩
theorem Fr.trans {d : Nat} {s s' s'' : Store} (h : Fr d s s') (h' : Fr d s' s'') : Fr d s s'' := ⟨Nat.le_trans h.1 h'.1, fun i hi hd => by rw [h'.2 i (Nat.lt_of_lt_of_le hi h.1) hd, h.2 i hi hd]⟩
theorem Fr.at {d : Nat} {s s' : Store} (h : Fr d s s') {i : Nat} {o : Ob} (hi : s[i]? = some o) (hd : i ≠ d) : s'[i]? = some o := by
  rw [h.2 i (List.getElem?_eq_some_iff.mp hi).1 hd]; exact hi
theorem Fr.app (d : Nat) (s g : Store) : Fr d s (s ++ g) := ⟨by rw [List.length_append]; omega, fun i hi _ => List.getElem?_append_left hi⟩
theorem Dr.lt {d e : Nat} {s : Store} (h : Dr d e s) : d < s.length ∧ e < s.length := by
  obtain ⟨_, ns, i, b, a, h1, h2, _⟩ := h
  exact ⟨(List.getElem?_eq_some_iff.mp h1).1, (List.getElem?_eq_some_iff.mp h2).1⟩
theorem Dr.keep {d e : Nat} {s s' : Store} (h : Dr d e s) (hk : ∀ i, i < s.length → s'[i]? = s[i]?) : Dr d e s' := by
  have hl := h.lt
  obtain ⟨hd, ns, i, b, a, h1, h2, h3⟩ := h
  exact ⟨hd, ns, i, b, a, by rw [hk d hl.1]; exact h1, by rw [hk e hl.2]; exact h2, h3⟩
theorem Dr.app {d e : Nat} {s : Store} (h : Dr d e s) (g : Store) : Dr d e (s ++ g) := h.keep fun i hi => List.getElem?_append_left hi
theorem Dr.set {d e c : Nat} {s : Store} (h : Dr d e s) (o : Ob) (hd : c ≠ d) (he : c ≠ e) : Dr d e (s.set c o) := by
  obtain ⟨hd', ns, i, b, a, h1, h2, h3⟩ := h
  exact ⟨hd', ns, i, b, a, by rw [List.getElem?_set_ne hd]; exact h1, by rw [List.getElem?_set_ne he]; exact h2, h3⟩
theorem draw_ok' {P : Pg} {n k : Nat} (h : P.fn ("_law_draw", none) = some d__law_draw) {s : Store} {d e : Nat} (hd : Dr d e s) {z : Nat} (hz : 0 < z) (hz2 : z < 1000000) :
    ∃ (v : Nat) (s' : Store), v < z ∧ callD P n (k + 1) ("_law_draw", none) [.loc d, .int z] s = .ok (.int v) s' ∧ Dr d e s' ∧ Fr d s s' := by
  have hl := hd.lt
  obtain ⟨hde, ns, i, b, a, h1, h2, h3⟩ := hd
  obtain ⟨v, i', b', a', v0, vz, hb', hc⟩ := draw_ok (n := n) (k := k) h h1 h2 hde h3 (z := (z : Int)) (by omega) (by omega)
  refine ⟨v.toNat, _, by omega, by rw [hc]; congr 2; omega, ⟨hde, ns, i', b', a', List.getElem?_set_self hl.1, by rw [List.getElem?_set_ne hde]; exact h2, hb'⟩, by rw [List.length_set]; exact Nat.le_refl _, fun j _ hj => by rw [List.getElem?_set_ne (Ne.symm hj)]⟩
/-- a value for each part -/
def Picks (ps : List L) : Prop := ps.length = 8 ∧ ∀ (j : Nat) x, ps[j]? = some x → ∃ vs, vals[j]? = some vs ∧ x ∈ vs
theorem vals_at (s : Store) (j : Nat) (x : L) (h : [L.loc s.length, .loc (s.length + 1), .loc (s.length + 2), .loc (s.length + 3), .loc (s.length + 5), .loc (s.length + 6), .loc (s.length + 7), .loc (s.length + 8)][j]? = some x) :
    ∃ c vs, x = .loc c ∧ s.length ≤ c ∧ (s ++ valG s.length)[c]? = some (.lst vs) ∧ vals[j]? = some vs ∧ 0 < vs.length ∧ vs.length ≤ 3 := by
  have g : ∀ i o, (valG s.length)[i]? = some o → (s ++ valG s.length)[s.length + i]? = some o := fun i o h => by rw [app_at]; exact h
  rcases j with _ | _ | _ | _ | _ | _ | _ | _ | j
  · cases h; exact ⟨_, _, rfl, by omega, g 0 _ rfl, rfl, by decide, by decide⟩
  · cases h; exact ⟨_, _, rfl, by omega, g 1 _ rfl, rfl, by decide, by decide⟩
  · cases h; exact ⟨_, _, rfl, by omega, g 2 _ rfl, rfl, by decide, by decide⟩
  · cases h; exact ⟨_, _, rfl, by omega, g 3 _ rfl, rfl, by decide, by decide⟩
  · cases h; exact ⟨_, _, rfl, by omega, g 5 _ rfl, rfl, by decide, by decide⟩
  · cases h; exact ⟨_, _, rfl, by omega, g 6 _ rfl, rfl, by decide, by decide⟩
  · cases h; exact ⟨_, _, rfl, by omega, g 7 _ rfl, rfl, by decide, by decide⟩
  · cases h; exact ⟨_, _, rfl, by omega, g 8 _ rfl, rfl, by decide, by decide⟩
  · cases h
theorem parts_ok {P : Pg} {n k : Nat} (hn : 8 < n) (h : P.fn ("_law_parts", none) = some d__law_parts) (hv : P.fn ("_law_values", none) = some d__law_values) (hw : P.fn ("_law_draw", none) = some d__law_draw) (gv : P.gl.has ("_law_values", none) = true) (gw : P.gl.has ("_law_draw", none) = true)
    {s : Store} {d e : Nat} (hd : Dr d e s) :
    ∃ (c : Nat) (ps : List L) (s' : Store), callD P n (k + 2) ("_law_parts", none) [.loc d] s = .ok (.loc c) s' ∧ Picks ps ∧ s.length ≤ c ∧ s'[c]? = some (.lst ps) ∧ Dr d e s' ∧ Fr d s s' := by
  have hl := hd.lt
  rw [call_at h rfl]
  simp only [d__law_parts]
  have h1 : denI P.gl (callD P n (k + 1)) n (.val (.call "_law_values" .nil)) [some (L.loc d), none] s = .ok (.dyn (s.length + 10)) (s ++ valG s.length) := by
    rw [evI_val, ev_call _ _ _ _ gv, evs_nil, k1_ok, values_ok hv, k1_ok, o_src, app_at]
    rfl
  obtain ⟨r, s2, hm, i1, i2, i3, i4⟩ := mapDyn_inv (f := lcF P.gl (callD P n (k + 1)) n [1] (.nm 1) .non (.idx (.var 1) (.call "_law_draw" (.cons (.var 0) (.cons (.bi .len (.cons (.var 1) .nil)) .nil)))) [some (L.loc d), none]) (c := s.length + 10)
    (fun i acc s' => Dr d e s' ∧ Fr d (s ++ valG s.length) s' ∧ acc.length = i ∧ ∀ (j : Nat) x, acc[j]? = some x → ∃ vs, vals[j]? = some vs ∧ x ∈ vs)
    (fun i a s' hi => hi.2.1.at (app_at s (valG s.length) 10) (by omega))
    (fun i x acc s' hx hi => by
      obtain ⟨hi1, hi2, hi3, hi4⟩ := hi
      obtain ⟨c, vs, rfl, hc, hcs, hvs, hp, h3⟩ := vals_at s i x hx
      have hcs' := hi2.at hcs (by omega)
      obtain ⟨v, s3, hvz, hdr, hd3, hf3⟩ := draw_ok' (P := P) (n := n) (k := k) hw hi1 (z := vs.length) hp (by omega)
      have hcs3 := hf3.at hcs' (by omega)
      have hat : L2.atI vs (v : Int) = some vs[v] := atI_get _ _ _ (List.getElem?_eq_getElem hvz)
      refine ⟨[vs[v]], s3, lcF_non (e' := [some (.loc d), some (.loc c)]) rfl ?_, hd3, hi2.trans hf3, by rw [List.length_append, hi3]; rfl, fun j x hj => ?_⟩
      · clear hn h hv hw gv hd h1 hx hi1 hi2 hi3 hi4 hcs
        trivial
      · by_cases hji : j < acc.length
        · exact hi4 j x (by rwa [List.getElem?_append_left hji] at hj)
        · rw [List.getElem?_append_right (by omega)] at hj
          have e0 : j - acc.length = 0 := by
            rcases h0 : j - acc.length with _ | m
            · rfl
            · rw [h0] at hj; cases hj
          rw [e0] at hj
          cases hj
          have : j = i := by omega
          subst this
          exact ⟨vs, hvs, List.getElem_mem hvz⟩)
    n 0 [] (s ++ valG s.length) (by show 8 - 0 < n; omega) (by show 0 ≤ 8; omega) ⟨hd.app _, Fr.refl _ _, rfl, fun j x hj => by cases hj⟩
  rw [List.nil_append] at i3 i4
  have i3' : r.length = 8 := i3
  have hX := evX_lc (own := [1]) (t := .nm 1) (it := .val (.call "_law_values" .nil)) (c := .non) h1 (r := r) (s2 := s2) hm (by unfold szMax; omega)
  have hf : Fr d s s2 := (Fr.app d s (valG s.length)).trans i2
  obtain ⟨k', s'', g1, g2, g3, g4, g5⟩ := gcR_flat (s := s) (s' := s2 ++ [.lst r]) (k := s2.length) (xs := r) (by rw [List.getElem?_append_right (Nat.le_refl _), Nat.sub_self]; rfl) hf.1 (by rw [List.length_append]; have := hf.1; omega)
  have g5' : ∀ i, i < s.length → s''[i]? = s2[i]? := fun i hi => by rw [g5 i hi, List.getElem?_append_left (Nat.lt_of_lt_of_le hi hf.1)]
  refine ⟨k', r, s'', ?_, ⟨i3', i4⟩, g2, g3, ?_, ⟨g4, fun i hi hid => by rw [g5' i hi, hf.2 i hi hid]⟩⟩
  · rw [← g1]
    show fin s (denSs _ _ _ _ _ [some (L.loc d), none] s) = _
    rw [es_cons, es_ret, ev_lc, hX]
    rfl
  · obtain ⟨hde, ns, i, b, a, q1, q2, q3⟩ := i1
    exact ⟨hde, ns, i, b, a, by rw [g5' d hl.1]; exact q1, by rw [g5' e hl.2]; exact q2, q3⟩
end D
end

section
set_option maxRecDepth 100000
set_option maxHeartbeats 2000000
/-! D3d: rules. -/
namespace D
open PySem DL
local macro_rules
  | `(tactic| trivial) => `(tactic| simp (config := {decide := false}) only [ev_var, ev_cst, ev_glb, ev_add, ev_sub, ev_mul, ev_fdv, ev_mod, ev_pow, ev_neg, ev_not, ev_eq, ev_ne, ev_lt, ev_le, ev_gt, ev_ge, ev_isn, ev_isnn, ev_inn, ev_nin, ev_and, ev_or, ev_ite, ev_tup, ev_lst, ev_dS0, ev_dSc, ev_idx, ev_fld, ev_call, ev_isi, ev_bi, ev_bx, ev_lc, ev_idxX, ev_inX, evX_disp, evs_nil, evs_cons,
      k1_ok, k2_ok, kAnd_ok, kA_t, kA_f, kOr_ok, kO_t, kO_f, kI_t, kI_f, kCs_ok, kCons_ok, kX_ok, kN_ok, es_nil, es_cons, sSeq_nx, sSeq_rt, sSeq_ex, es_asg, sAsg_ok, es_ret, sRet_ok, sRet_ex, es_expr, sExp_ok, es_ife, sIf_t, sIf_f, es_iset, sIs1_ok, sIs2_ok, sIs3_ok, sEnd_ok,
      ap_ofO, tru_bl, tru_int, tru_non, o_add, o_sub, o_lt, o_le, o_gt, o_ge, o_not, o_idx, idxG_l, idxG_d, o_idxT, o_set, setG_l, setJ_s, setG_d, o_len, lenG_l, o_fld, fldG_i, o_lenT, at0, at1, at2, at3, at4, at5, at6, at7, at8, ix4_0, ix4_1, ix4_2, ix4_3, ix3_0, ix3_1, ix3_2, List.set_set, o_intI, o_intB, o_max, o_min, eqq_int, eqq_wd,
      List.map_cons, List.map_nil, List.replicate, List.cons_append, List.nil_append, List.getElem?_cons_zero, List.getElem?_cons_succ, List.set_cons_zero, List.set_cons_succ, Option.join, Option.bind_some, id_eq, List.length_cons, List.length_nil, List.length_map, eq_self, decide_true, decide_false, Nat.reduceAdd, Nat.zero_add, Bool.not_true, Bool.not_false, sAsg_ex, sExp_ex, es_fset, sFs1_ok, sFs2_ok, ev_meth, kMeth_ok, o_mth, o_mk, mkE_ok, mkE_ex, es_rse, es_tr, sTr_nx, sTr_ex, es_fr, sFr_fix, evI_val, o_srcT, forFix_nil, forFix_cons, sFx_nx, sFx_rt, sFx_ex, k1_ex, *])
def okV : L → Bool
  | .tup xs => xs.all okF
  | v => okF v
def isB : L → Bool
  | .bl _ => true
  | _ => false
def isS : L → Bool
  | .str _ => true
  | _ => false
/-- a value that a part may have -/
def isV (vs : List L) (v : L) : Bool := match vs with
  | .bl _ :: _ => isB v
  | _ => isS v && vs.any fun y => eqF y v
theorem o_isB {v : L} (h : okV v = true) (s : Store) : isiO .bl v s = .ok (.bl (isB v)) s := by
  cases v <;> first | rfl | (exact (Bool.false_ne_true h).elim)
theorem o_isS {v : L} (h : okV v = true) (s : Store) : isiO .str v s = .ok (.bl (isS v)) s := by
  cases v <;> first | rfl | (exact (Bool.false_ne_true h).elim)
theorem o_inT (kd : Str → Option (List (Str × L))) (neg : Bool) {a : L} {xs : List L} (s : Store) (h : (flatL a && xs.all flatL) = true) : inO kd neg a (.tup xs) s = .ok (.bl (if neg then !(xs.any fun y => eqF y a) else (xs.any fun y => eqF y a))) s := by
  have e : inqM kd a (.tup xs) s = .ok (xs.any fun y => eqF y a) s := by
    show inF a xs s = _
    unfold inF
    rw [if_pos h]
    rfl
  unfold inO
  rw [e]
structure HasR (P : Pg) : Prop where
  f_isv : P.fn ("is_value", none) = some d_is_value
  h_isv : P.gl.has ("is_value", none) = true
  f_ini : P.fn ("Rule", some "__init__") = some d_Rule___init__
  h_ini : P.gl.has ("Rule", some "__init__") = true
  c_par : P.gl.con "PARTS" = some (.tup [nmL 0, nmL 1, nmL 2, nmL 3, nmL 4, nmL 5, nmL 6, nmL 7])
  c_val : P.gl.con "VALUES" = some (.tup (vals.map .tup))
  fl0 : P.gl.fl "Rule" (wd 0) = true
  fl1 : P.gl.fl "Rule" (wd 1) = true
  fl2 : P.gl.fl "Rule" (wd 2) = true
  fl3 : P.gl.fl "Rule" (wd 3) = true
  fl4 : P.gl.fl "Rule" (wd 4) = true
  fl5 : P.gl.fl "Rule" (wd 5) = true
  fl6 : P.gl.fl "Rule" (wd 6) = true
  fl7 : P.gl.fl "Rule" (wd 7) = true
  er : P.er.fld "BadRule" = some (some ("part" : Str))
theorem vals_kind : ∀ vs ∈ vals, (∃ b r, vs = .bl b :: r) ∨ (∃ z r, vs = .str z :: r ∧ vs.all flatL = true) := by
  intro vs h
  simp only [vals, List.mem_cons, List.not_mem_nil, or_false] at h
  rcases h with rfl | rfl | rfl | rfl | rfl | rfl | rfl | rfl
  · exact .inr ⟨_, _, rfl, rfl⟩
  · exact .inr ⟨_, _, rfl, rfl⟩
  · exact .inr ⟨_, _, rfl, rfl⟩
  · exact .inr ⟨_, _, rfl, rfl⟩
  · exact .inr ⟨_, _, rfl, rfl⟩
  · exact .inr ⟨_, _, rfl, rfl⟩
  · exact .inr ⟨_, _, rfl, rfl⟩
  · exact .inl ⟨_, _, rfl⟩
theorem isv_ok {P : Pg} {n k : Nat} (h : P.fn ("is_value", none) = some d_is_value) {vs : List L} {v : L} (hvs : vs ∈ vals) (hv : okV v = true) (s : Store) : callD P n (k + 1) ("is_value", none) [v, .tup vs] s = .ok (.bl (isV vs v)) s := by
  have q : ∀ (b : Bool), fin s (.rt (.bl b) s) = .ok (.bl b) s := fun b => gcR_same rfl rfl
  have hB := fun s => o_isB hv s
  have hS := fun s => o_isS hv s
  rw [call_at h rfl]
  simp only [d_is_value]
  rcases vals_kind vs hvs with ⟨b, r, rfl⟩ | ⟨z, r, rfl, hf⟩
  · have hb : isiO .bl (.bl b) s = .ok (.bl true) s := rfl
    have e : isV (.bl b :: r) v = isB v := rfl
    clear h hvs hv
    trivial
  · have hb : isiO .bl (.str z) s = .ok (.bl false) s := rfl
    have e : isV (.str z :: r) v = (isS v && (L.str z :: r).any fun y => eqF y v) := rfl
    cases hv' : isS v with
    | false =>
      rw [hv'] at hS e
      rw [Bool.false_and] at e
      clear h hvs hv hf
      trivial
    | true =>
      rw [hv'] at hS e
      rw [Bool.true_and] at e
      have hfl : flatL v = true := by cases v <;> first | rfl | (exact (Bool.false_ne_true hv').elim)
      have hi := o_inT P.gl.kd false (a := v) (xs := .str z :: r) s (by rw [hfl, hf]; rfl)
      rw [if_neg (by decide)] at hi
      rw [← e] at hi
      clear h hvs hv hf e
      trivial
def flds : List L → List (Str × L)
  | [a, b, c, d, e, f, g, h] => [(wd 0, a), (wd 1, b), (wd 2, c), (wd 3, d), (wd 4, e), (wd 5, f), (wd 6, g), (wd 7, h)]
  | _ => []
/-- the first part that its value does not fit -/
def bad1 : List (Nat × L × List L) → Option Nat
  | [] => none
  | (j, v, vs) :: r => if isV vs v = true then bad1 r else some j
def trip (t : Nat × L × List L) : L := .tup [nmL t.1, t.2.1, .tup t.2.2]
def rows8 (ps : List L) : List (Nat × L × List L) := (List.range 8).zip (ps.zip vals)
def due (ps : List L) : Option Nat := bad1 (rows8 ps)
theorem ini_loop {P : Pg} {n k : Nat} (H : HasR P) (s : Store) : ∀ (ts : List (Nat × L × List L)) (e : Env), (∀ t ∈ ts, okV t.2.1 = true ∧ t.2.2 ∈ vals) → e.length = 13 →
    ∃ e' : Env, (∀ i, i < 10 → e'[i]? = e[i]?) ∧ forFix (frF P.gl (callD P n (k + 1)) n P.er (.tp [10, 11, 12]) (.cons (.ife (.not (.call "is_value" (.cons (.var 11) (.cons (.var 12) .nil)))) (.cons (.rse "BadRule" (.cons (.var 10) .nil))
    .nil) .nil)
    .nil)) (ts.map trip) e s = match bad1 ts with
      | none => .nx e' s
      | some j => .ex "BadRule" (some ("part", nmL j)) e' s
  | [], e, _, _ => ⟨e, fun _ _ => rfl, rfl⟩
  | t :: ts, e, ht, he => by
    obtain ⟨j, v, vs⟩ := t
    have h1 := ht _ List.mem_cons_self
    have hT : setT (.tp [10, 11, 12]) (trip (j, v, vs)) e = some (((e.set 10 (some (nmL j))).set 11 (some v)).set 12 (some (.tup vs))) := rfl
    have hget : ∀ i, i < 10 → (((e.set 10 (some (nmL j))).set 11 (some v)).set 12 (some (.tup vs)))[i]? = e[i]? := fun i hi => by
      rw [List.getElem?_set_ne (by omega), List.getElem?_set_ne (by omega), List.getElem?_set_ne (by omega)]
    have g10 : (((e.set 10 (some (nmL j))).set 11 (some v)).set 12 (some (.tup vs)))[10]? = some (some (nmL j)) := by
      rw [List.getElem?_set_ne (by omega), List.getElem?_set_ne (by omega), List.getElem?_set_self (by omega)]
    have g11 : (((e.set 10 (some (nmL j))).set 11 (some v)).set 12 (some (.tup vs)))[11]? = some (some v) := by
      rw [List.getElem?_set_ne (by omega), List.getElem?_set_self (by rw [List.length_set]; omega)]
    have g12 : (((e.set 10 (some (nmL j))).set 11 (some v)).set 12 (some (.tup vs)))[12]? = some (some (.tup vs)) := by
      rw [List.getElem?_set_self (by rw [List.length_set, List.length_set]; omega)]
    obtain ⟨e2, q1, q2⟩ := ini_loop (n := n) (k := k) H s ts (((e.set 10 (some (nmL j))).set 11 (some v)).set 12 (some (.tup vs))) (fun t h => ht t (List.mem_cons_of_mem _ h)) (by rw [List.length_set, List.length_set, List.length_set]; exact he)
    have hc : callD P n (k + 1) ("is_value", none) [v, .tup vs] s = .ok (.bl (isV vs v)) s := isv_ok H.f_isv h1.2 h1.1 s
    have hh := H.h_isv
    have hs : ∀ e v s, sRse P.er "BadRule" e (.ok [v] s) = .ex "BadRule" (some ("part", v)) e s := fun e v s => sRse_1 _ _ _ _ _ H.er
    have hF := frF_tp (G := P.gl) (F := callD P n (k + 1)) (n := n) (E := P.er) [10, 11, 12] (.cons (.ife (.not (.call "is_value" (.cons (.var 11) (.cons (.var 12) .nil)))) (.cons (.rse "BadRule" (.cons (.var 10) .nil)) .nil) .nil) .nil) _ e _ s hT
    generalize hE : (((e.set 10 (some (nmL j))).set 11 (some v)).set 12 (some (.tup vs))) = E1 at *
    cases hb : isV vs v with
    | true =>
      refine ⟨e2, fun i hi => by rw [q1 i hi, hget i hi], ?_⟩
      rw [List.map_cons, forFix_cons, hF]
      have e0 : bad1 ((j, v, vs) :: ts) = bad1 ts := if_pos hb
      rw [e0, ← q2]
      rw [hb] at hc
      clear hT hF q1 q2 H ht h1 hget hE he e0
      trivial
    | false =>
      refine ⟨E1, hget, ?_⟩
      have e0 : bad1 ((j, v, vs) :: ts) = some j := if_neg (by rw [hb]; decide)
      rw [List.map_cons, forFix_cons, hF, e0]
      rw [hb] at hc
      clear hT hF q1 q2 H ht h1 hget hE he e0
      trivial
end D
end

section
set_option maxRecDepth 100000
set_option maxHeartbeats 2000000
/-! D3e: rules, made. -/
namespace D
open PySem DL
local macro_rules
  | `(tactic| trivial) => `(tactic| simp (config := {decide := false}) only [ev_var, ev_cst, ev_glb, ev_add, ev_sub, ev_mul, ev_fdv, ev_mod, ev_pow, ev_neg, ev_not, ev_eq, ev_ne, ev_lt, ev_le, ev_gt, ev_ge, ev_isn, ev_isnn, ev_inn, ev_nin, ev_and, ev_or, ev_ite, ev_tup, ev_lst, ev_dS0, ev_dSc, ev_idx, ev_fld, ev_call, ev_isi, ev_bi, ev_bx, ev_lc, ev_idxX, ev_inX, evX_disp, evs_nil, evs_cons,
      k1_ok, k2_ok, kAnd_ok, kA_t, kA_f, kOr_ok, kO_t, kO_f, kI_t, kI_f, kCs_ok, kCons_ok, kX_ok, kN_ok, es_nil, es_cons, sSeq_nx, sSeq_rt, sSeq_ex, es_asg, sAsg_ok, es_ret, sRet_ok, sRet_ex, es_expr, sExp_ok, es_ife, sIf_t, sIf_f, es_iset, sIs1_ok, sIs2_ok, sIs3_ok, sEnd_ok,
      ap_ofO, tru_bl, tru_int, tru_non, o_add, o_sub, o_lt, o_le, o_gt, o_ge, o_not, o_idx, idxG_l, idxG_d, o_idxT, o_set, setG_l, setJ_s, setG_d, o_len, lenG_l, o_fld, fldG_i, o_lenT, at0, at1, at2, at3, at4, at5, at6, at7, at8, ix4_0, ix4_1, ix4_2, ix4_3, ix3_0, ix3_1, ix3_2, List.set_set, o_intI, o_intB, o_max, o_min, eqq_int, eqq_wd,
      List.map_cons, List.map_nil, List.replicate, List.cons_append, List.nil_append, List.getElem?_cons_zero, List.getElem?_cons_succ, List.set_cons_zero, List.set_cons_succ, Option.join, Option.bind_some, id_eq, List.length_cons, List.length_nil, List.length_map, eq_self, decide_true, decide_false, Nat.reduceAdd, Nat.zero_add, Bool.not_true, Bool.not_false, sAsg_ex, sExp_ex, es_fset, sFs1_ok, sFs2_ok, ev_meth, kMeth_ok, o_mth, o_mk, mkE_ok, mkE_ex, es_rse, es_tr, sTr_nx, sTr_ex, es_fr, sFr_fix, evI_val, o_srcT, forFix_nil, forFix_cons, sFx_nx, sFx_rt, sFx_ex, k1_ex, *])
theorem put0 (a : L) : put (wd 0) a [] = [(wd 0, a)] := rfl
theorem put1 (a b : L) : put (wd 1) b [(wd 0, a)] = [(wd 0, a), (wd 1, b)] := by simp [put, wd_eq]
theorem put2 (a b c : L) : put (wd 2) c [(wd 0, a), (wd 1, b)] = [(wd 0, a), (wd 1, b), (wd 2, c)] := by simp [put, wd_eq]
theorem put3 (a b c d : L) : put (wd 3) d [(wd 0, a), (wd 1, b), (wd 2, c)] = [(wd 0, a), (wd 1, b), (wd 2, c), (wd 3, d)] := by simp [put, wd_eq]
theorem put4 (a b c d e : L) : put (wd 4) e [(wd 0, a), (wd 1, b), (wd 2, c), (wd 3, d)] = [(wd 0, a), (wd 1, b), (wd 2, c), (wd 3, d), (wd 4, e)] := by simp [put, wd_eq]
theorem put5 (a b c d e f : L) : put (wd 5) f [(wd 0, a), (wd 1, b), (wd 2, c), (wd 3, d), (wd 4, e)] = [(wd 0, a), (wd 1, b), (wd 2, c), (wd 3, d), (wd 4, e), (wd 5, f)] := by simp [put, wd_eq]
theorem put6 (a b c d e f g : L) : put (wd 6) g [(wd 0, a), (wd 1, b), (wd 2, c), (wd 3, d), (wd 4, e), (wd 5, f)] = [(wd 0, a), (wd 1, b), (wd 2, c), (wd 3, d), (wd 4, e), (wd 5, f), (wd 6, g)] := by simp [put, wd_eq]
theorem put7 (a b c d e f g h : L) : put (wd 7) h [(wd 0, a), (wd 1, b), (wd 2, c), (wd 3, d), (wd 4, e), (wd 5, f), (wd 6, g)] = [(wd 0, a), (wd 1, b), (wd 2, c), (wd 3, d), (wd 4, e), (wd 5, f), (wd 6, g), (wd 7, h)] := by simp [put, wd_eq]
section
variable (a b c d e f g h : L)
theorem lkf0 : lk (wd 0) (flds [a, b, c, d, e, f, g, h]) = some a := by simp [lk, flds, wd_eq]
theorem lkf1 : lk (wd 1) (flds [a, b, c, d, e, f, g, h]) = some b := by simp [lk, flds, wd_eq]
theorem lkf2 : lk (wd 2) (flds [a, b, c, d, e, f, g, h]) = some c := by simp [lk, flds, wd_eq]
theorem lkf3 : lk (wd 3) (flds [a, b, c, d, e, f, g, h]) = some d := by simp [lk, flds, wd_eq]
theorem lkf4 : lk (wd 4) (flds [a, b, c, d, e, f, g, h]) = some e := by simp [lk, flds, wd_eq]
theorem lkf5 : lk (wd 5) (flds [a, b, c, d, e, f, g, h]) = some f := by simp [lk, flds, wd_eq]
theorem lkf6 : lk (wd 6) (flds [a, b, c, d, e, f, g, h]) = some g := by simp [lk, flds, wd_eq]
theorem lkf7 : lk (wd 7) (flds [a, b, c, d, e, f, g, h]) = some h := by simp [lk, flds, wd_eq]
end
/-- due, or made -/
def iniR (c : Nat) (ps : List L) (s : Store) : Option Nat → R L
  | none => .ok .non (s.set c (.ins "Rule" (flds ps)))
  | some j => .ex "BadRule" (some ("part", nmL j)) s
theorem zip8 (a b c d e f g h : L) : (([nmL 0, nmL 1, nmL 2, nmL 3, nmL 4, nmL 5, nmL 6, nmL 7].zip ([a, b, c, d, e, f, g, h].zip (vals.map L.tup))).map fun p => L.tup [p.1, p.2.1, p.2.2]) = (rows8 [a, b, c, d, e, f, g, h]).map trip := rfl
theorem rows8_ok {a b c d e f g h : L} (hv : [a, b, c, d, e, f, g, h].all okV = true) : ∀ t ∈ rows8 [a, b, c, d, e, f, g, h], okV t.2.1 = true ∧ t.2.2 ∈ vals := by
  intro t ht
  obtain ⟨j, v, vs⟩ := t
  have h1 := List.of_mem_zip ht
  have h2 := List.of_mem_zip h1.2
  exact ⟨List.all_eq_true.mp hv _ h2.1, h2.2⟩
theorem ini_ok {P : Pg} {n k : Nat} (H : HasR P) {x : Nat} {p0 p1 p2 p3 p4 p5 p6 p7 : L} (hv : [p0, p1, p2, p3, p4, p5, p6, p7].all okV = true) (s : Store) (hx : s[x]? = some (.ins "Rule" [])) :
    callD P n (k + 2) ("Rule", some "__init__") [.loc x, p0, p1, p2, p3, p4, p5, p6, p7] s = iniR x [p0, p1, p2, p3, p4, p5, p6, p7] s (due [p0, p1, p2, p3, p4, p5, p6, p7]) := by
  have hlt := (List.getElem?_eq_some_iff.mp hx).1
  rw [call_at H.f_ini rfl]
  simp only [d_Rule___init__]
  have hI : denI P.gl (callD P n (k + 1)) n (.zip3 (.glb "PARTS") (.var 9) (.glb "VALUES")) [some (.loc x), some p0, some p1, some p2, some p3, some p4, some p5, some p6, some p7, some (.tup [p0, p1, p2, p3, p4, p5, p6, p7]), none, none, none] s = .ok (.fix ((rows8 [p0, p1, p2, p3, p4, p5, p6, p7]).map trip)) s := by
    rw [evI_zip3 (s1 := s) (s2 := s) (s3 := s) (xs := [nmL 0, nmL 1, nmL 2, nmL 3, nmL 4, nmL 5, nmL 6, nmL 7]) (ys := [p0, p1, p2, p3, p4, p5, p6, p7]) (zs := vals.map .tup), zip8]
    · rw [ev_glb, H.c_par]; rfl
    · rfl
    · rw [ev_glb, H.c_val]; rfl
  obtain ⟨e', q1, q2⟩ := ini_loop (n := n) (k := k) H s (rows8 [p0, p1, p2, p3, p4, p5, p6, p7]) [some (.loc x), some p0, some p1, some p2, some p3, some p4, some p5, some p6, some p7, some (.tup [p0, p1, p2, p3, p4, p5, p6, p7]), none, none, none] (rows8_ok hv) rfl
  have t8 : ∀ s, tupO [p0, p1, p2, p3, p4, p5, p6, p7] s = .ok (.tup [p0, p1, p2, p3, p4, p5, p6, p7]) s := fun s => tupO_ok _ _ (by unfold szMax; simp)
  have v0 : e'[0]? = some (some (.loc x)) := q1 0 (by decide)
  have v1 : e'[1]? = some (some p0) := q1 1 (by decide)
  have v2 : e'[2]? = some (some p1) := q1 2 (by decide)
  have v3 : e'[3]? = some (some p2) := q1 3 (by decide)
  have v4 : e'[4]? = some (some p3) := q1 4 (by decide)
  have v5 : e'[5]? = some (some p4) := q1 5 (by decide)
  have v6 : e'[6]? = some (some p5) := q1 6 (by decide)
  have v7 : e'[7]? = some (some p6) := q1 7 (by decide)
  have v8 : e'[8]? = some (some p7) := q1 8 (by decide)
  have g1 : ∀ X, (s.set x X)[x]? = some X := fun X => List.getElem?_set_self hlt
  have ss : ∀ X Y, (s.set x X).set x Y = s.set x Y := fun X Y => List.set_set ..
  have f0 : ∀ s, fsetG P.gl.fl x (wd 0) p0 s (some (.ins "Rule" [])) = .ok () (s.set x (.ins "Rule" [(wd 0, p0)])) := fun s => by rw [fsetG_i _ _ _ _ _ _ _ (by simp) H.fl0, put0]
  have f1 : ∀ s, fsetG P.gl.fl x (wd 1) p1 s (some (.ins "Rule" [(wd 0, p0)])) = .ok () (s.set x (.ins "Rule" [(wd 0, p0), (wd 1, p1)])) := fun s => by rw [fsetG_i _ _ _ _ _ _ _ (by simp) H.fl1, put1]
  have f2 : ∀ s, fsetG P.gl.fl x (wd 2) p2 s (some (.ins "Rule" [(wd 0, p0), (wd 1, p1)])) = .ok () (s.set x (.ins "Rule" [(wd 0, p0), (wd 1, p1), (wd 2, p2)])) := fun s => by rw [fsetG_i _ _ _ _ _ _ _ (by simp) H.fl2, put2]
  have f3 : ∀ s, fsetG P.gl.fl x (wd 3) p3 s (some (.ins "Rule" [(wd 0, p0), (wd 1, p1), (wd 2, p2)])) = .ok () (s.set x (.ins "Rule" [(wd 0, p0), (wd 1, p1), (wd 2, p2), (wd 3, p3)])) := fun s => by rw [fsetG_i _ _ _ _ _ _ _ (by simp) H.fl3, put3]
  have f4 : ∀ s, fsetG P.gl.fl x (wd 4) p4 s (some (.ins "Rule" [(wd 0, p0), (wd 1, p1), (wd 2, p2), (wd 3, p3)])) = .ok () (s.set x (.ins "Rule" [(wd 0, p0), (wd 1, p1), (wd 2, p2), (wd 3, p3), (wd 4, p4)])) := fun s => by rw [fsetG_i _ _ _ _ _ _ _ (by simp) H.fl4, put4]
  have f5 : ∀ s, fsetG P.gl.fl x (wd 5) p5 s (some (.ins "Rule" [(wd 0, p0), (wd 1, p1), (wd 2, p2), (wd 3, p3), (wd 4, p4)])) = .ok () (s.set x (.ins "Rule" [(wd 0, p0), (wd 1, p1), (wd 2, p2), (wd 3, p3), (wd 4, p4), (wd 5, p5)])) := fun s => by rw [fsetG_i _ _ _ _ _ _ _ (by simp) H.fl5, put5]
  have f6 : ∀ s, fsetG P.gl.fl x (wd 6) p6 s (some (.ins "Rule" [(wd 0, p0), (wd 1, p1), (wd 2, p2), (wd 3, p3), (wd 4, p4), (wd 5, p5)])) = .ok () (s.set x (.ins "Rule" [(wd 0, p0), (wd 1, p1), (wd 2, p2), (wd 3, p3), (wd 4, p4), (wd 5, p5), (wd 6, p6)])) := fun s => by rw [fsetG_i _ _ _ _ _ _ _ (by simp) H.fl6, put6]
  have f7 : ∀ s, fsetG P.gl.fl x (wd 7) p7 s (some (.ins "Rule" [(wd 0, p0), (wd 1, p1), (wd 2, p2), (wd 3, p3), (wd 4, p4), (wd 5, p5), (wd 6, p6)])) = .ok () (s.set x (.ins "Rule" (flds [p0, p1, p2, p3, p4, p5, p6, p7]))) := fun s => by rw [fsetG_i _ _ _ _ _ _ _ (by simp) H.fl7, put7]; rfl
  have d0 : due [p0, p1, p2, p3, p4, p5, p6, p7] = bad1 (rows8 [p0, p1, p2, p3, p4, p5, p6, p7]) := rfl
  cases hb : bad1 (rows8 [p0, p1, p2, p3, p4, p5, p6, p7]) with
  | none =>
    rw [hb] at q2
    have q2' := q2
    simp only [] at q2'
    have hfin : ∀ e, fin s (.nx e (s.set x (.ins "Rule" (flds [p0, p1, p2, p3, p4, p5, p6, p7])))) = .ok .non (s.set x (.ins "Rule" (flds [p0, p1, p2, p3, p4, p5, p6, p7]))) := fun e => gcR_same rfl (by rw [List.length_set])
    have i0 : ∀ x ps s, iniR x ps s none = .ok .non (s.set x (.ins "Rule" (flds ps))) := fun _ _ _ => rfl
    clear q1 q2 hv H hlt
    trivial
  | some j =>
    rw [hb] at q2
    have q2' := q2
    simp only [] at q2'
    have hfin : ∀ c p e, fin s (.ex c p e s) = .ex c p s := fun c p e => rfl
    have i0 : ∀ x ps s, iniR x ps s (some j) = .ex "BadRule" (some ("part", nmL j)) s := fun _ _ _ => rfl
    clear q1 q2 hv H hlt
    trivial
end D
end

section
set_option maxRecDepth 100000
set_option maxHeartbeats 2000000
/-! D3f: rules, asked. -/
namespace D
open PySem DL
local macro_rules
  | `(tactic| trivial) => `(tactic| simp (config := {decide := false}) only [ev_var, ev_cst, ev_glb, ev_add, ev_sub, ev_mul, ev_fdv, ev_mod, ev_pow, ev_neg, ev_not, ev_eq, ev_ne, ev_lt, ev_le, ev_gt, ev_ge, ev_isn, ev_isnn, ev_inn, ev_nin, ev_and, ev_or, ev_ite, ev_tup, ev_lst, ev_dS0, ev_dSc, ev_idx, ev_fld, ev_call, ev_isi, ev_bi, ev_bx, ev_lc, ev_idxX, ev_inX, evX_disp, evs_nil, evs_cons,
      k1_ok, k2_ok, kAnd_ok, kA_t, kA_f, kOr_ok, kO_t, kO_f, kI_t, kI_f, kCs_ok, kCons_ok, kX_ok, kN_ok, es_nil, es_cons, sSeq_nx, sSeq_rt, sSeq_ex, es_asg, sAsg_ok, es_ret, sRet_ok, sRet_ex, es_expr, sExp_ok, es_ife, sIf_t, sIf_f, es_iset, sIs1_ok, sIs2_ok, sIs3_ok, sEnd_ok,
      ap_ofO, tru_bl, tru_int, tru_non, o_add, o_sub, o_lt, o_le, o_gt, o_ge, o_not, o_idx, idxG_l, idxG_d, o_idxT, o_set, setG_l, setJ_s, setG_d, o_len, lenG_l, o_fld, fldG_i, o_lenT, at0, at1, at2, at3, at4, at5, at6, at7, at8, ix4_0, ix4_1, ix4_2, ix4_3, ix3_0, ix3_1, ix3_2, List.set_set, o_intI, o_intB, o_max, o_min, eqq_int, eqq_wd,
      List.map_cons, List.map_nil, List.replicate, List.cons_append, List.nil_append, List.getElem?_cons_zero, List.getElem?_cons_succ, List.set_cons_zero, List.set_cons_succ, Option.join, Option.bind_some, id_eq, List.length_cons, List.length_nil, List.length_map, eq_self, decide_true, decide_false, Nat.reduceAdd, Nat.zero_add, Bool.not_true, Bool.not_false, sAsg_ex, sExp_ex, es_fset, sFs1_ok, sFs2_ok, ev_meth, kMeth_ok, o_mth, o_mk, mkE_ok, mkE_ex, es_rse, es_tr, sTr_nx, sTr_ex, es_fr, sFr_fix, evI_val, o_srcT, forFix_nil, forFix_cons, sFx_nx, sFx_rt, sFx_ex, k1_ex, *])
def rlR (ps : List L) (s : Store) : Option Nat → R L
  | none => .ok (.loc s.length) (s ++ [.ins "Rule" (flds ps)])
  | some j => .ex "BadRule" (some ("part", nmL j)) (s ++ [.ins "Rule" []])
def mkDef : Def := ⟨1, 1, (.cons (.ret (.make "Rule" (.cons (.idx (.var 0) (.cst (.int 0))) (.cons (.idx (.var 0) (.cst (.int 1))) (.cons (.idx (.var 0) (.cst (.int 2))) (.cons (.idx (.var 0) (.cst (.int 3))) (.cons (.idx (.var 0) (.cst (.int 4))) (.cons (.idx (.var 0) (.cst (.int 5))) (.cons (.idx (.var 0) (.cst (.int 6))) (.cons (.idx (.var 0) (.cst (.int 7))) .nil))))))))))
    .nil)⟩
theorem set_end (s : Store) (o o' : Ob) : (s ++ [o]).set s.length o' = s ++ [o'] := by
  rw [List.set_append_right _ _ (Nat.le_refl _), Nat.sub_self]
  rfl
theorem make_ok {P : Pg} {n k : Nat} (H : HasR P) {f : FK} (hf : P.fn f = some mkDef) {c : Nat} {p0 p1 p2 p3 p4 p5 p6 p7 : L} (hv : [p0, p1, p2, p3, p4, p5, p6, p7].all okV = true) (s : Store) (hc : s[c]? = some (.lst [p0, p1, p2, p3, p4, p5, p6, p7])) :
    callD P n (k + 3) f [.loc c] s = rlR [p0, p1, p2, p3, p4, p5, p6, p7] s (due [p0, p1, p2, p3, p4, p5, p6, p7]) := by
  have hi := ini_ok (n := n) (k := k) (x := s.length) H hv (s ++ [.ins "Rule" []]) (app_at0 s _)
  rw [call_at hf rfl]
  simp only [mkDef]
  have hm : ∀ es e s, den P.gl (callD P n (k + 2)) n (.make "Rule" es) e s = k1 (mkO (callD P n (k + 2)) "Rule") (dens P.gl (callD P n (k + 2)) n es e s) := fun es e s => ev_make _ _ _ _ H.h_ini
  cases hd : due [p0, p1, p2, p3, p4, p5, p6, p7] with
  | none =>
    rw [hd] at hi
    have hi' : callD P n (k + 2) ("Rule", some "__init__") [.loc s.length, p0, p1, p2, p3, p4, p5, p6, p7] (s ++ [.ins "Rule" []]) = .ok .non (s ++ [.ins "Rule" (flds [p0, p1, p2, p3, p4, p5, p6, p7])]) := by
      rw [hi]
      show R.ok _ (List.set _ _ _) = _
      rw [set_end]
    have hg : fin s (.rt (.loc s.length) (s ++ [.ins "Rule" (flds [p0, p1, p2, p3, p4, p5, p6, p7])])) = .ok (.loc s.length) (s ++ [.ins "Rule" (flds [p0, p1, p2, p3, p4, p5, p6, p7])]) := by
      show gcR _ _ _ = _
      unfold gcR
      rw [if_pos (take_app s _), if_neg (by show ¬ (false = true); decide)]
      simp only [app_at0]
      rfl
    have i0 : ∀ ps s, rlR ps s none = .ok (.loc s.length) (s ++ [.ins "Rule" (flds ps)]) := fun _ _ => rfl
    clear hi hd hv H hf
    trivial
  | some j =>
    rw [hd] at hi
    have hi' : callD P n (k + 2) ("Rule", some "__init__") [.loc s.length, p0, p1, p2, p3, p4, p5, p6, p7] (s ++ [.ins "Rule" []]) = .ex "BadRule" (some ("part", nmL j)) (s ++ [.ins "Rule" []]) := hi
    have hg : ∀ c p e s', fin s (.ex c p e s') = .ex c p s' := fun _ _ _ _ => rfl
    have i0 : ∀ ps s, rlR ps s (some j) = .ex "BadRule" (some ("part", nmL j)) (s ++ [.ins "Rule" []]) := fun _ _ => rfl
    clear hi hd hv H hf
    trivial
theorem o_addT (xs ys : List L) (s : Store) (h : xs.length + ys.length ≤ szMax) : addM (.tup xs) (.tup ys) s = .ok (.tup (xs ++ ys)) s := by
  show (if xs.length + ys.length ≤ szMax then (pure (.tup (xs ++ ys)) : M L) else die) s = _
  rw [if_pos h]
  rfl
theorem noLoc_okF {v : L} (h : okF v = true) : noLoc v = true := by
  cases v <;> first | rfl | (exact (Bool.false_ne_true h).elim)
theorem noLocs_okF : ∀ {xs : List L}, xs.all okF = true → noLocs xs = true
  | [], _ => rfl
  | x :: xs, h => by
    rw [List.all_cons, Bool.and_eq_true] at h
    show (noLoc x && noLocs xs) = true
    rw [noLoc_okF h.1, noLocs_okF h.2]
    rfl
theorem rparts_ok {P : Pg} {n k : Nat} (hf : P.fn ("Rule", some "parts") = some d_Rule_parts) {x : Nat} {p0 p1 p2 p3 p4 p5 p6 p7 : L} (hv : [p0, p1, p2, p3, p4, p5, p6, p7].all okF = true) (s : Store) (hx : s[x]? = some (.ins "Rule" (flds [p0, p1, p2, p3, p4, p5, p6, p7]))) :
    callD P n (k + 1) ("Rule", some "parts") [.loc x] s = .ok (.tup [p0, p1, p2, p3, p4, p5, p6, p7]) s := by
  have hg : fin s (.rt (.tup [p0, p1, p2, p3, p4, p5, p6, p7]) s) = .ok (.tup [p0, p1, p2, p3, p4, p5, p6, p7]) s := gcR_same (noLocs_okF hv) rfl
  have t4 : ∀ a b c d s, tupO [a, b, c, d] s = .ok (.tup [a, b, c, d]) s := fun a b c d s => tupO_ok _ _ (by unfold szMax; simp)
  have a8 : ∀ s, addM (.tup [p0, p1, p2, p3]) (.tup [p4, p5, p6, p7]) s = .ok (.tup [p0, p1, p2, p3, p4, p5, p6, p7]) s := fun s => o_addT _ _ _ (by unfold szMax; simp)
  have e0 := lkf0 p0 p1 p2 p3 p4 p5 p6 p7
  have e1 := lkf1 p0 p1 p2 p3 p4 p5 p6 p7
  have e2 := lkf2 p0 p1 p2 p3 p4 p5 p6 p7
  have e3 := lkf3 p0 p1 p2 p3 p4 p5 p6 p7
  have e4 := lkf4 p0 p1 p2 p3 p4 p5 p6 p7
  have e5 := lkf5 p0 p1 p2 p3 p4 p5 p6 p7
  have e6 := lkf6 p0 p1 p2 p3 p4 p5 p6 p7
  have e7 := lkf7 p0 p1 p2 p3 p4 p5 p6 p7
  rw [call_at hf rfl]
  simp only [d_Rule_parts]
  clear hf hv
  trivial
theorem lk_parts (a b c d e f g h : L) : (lk ("parts" : Str) (flds [a, b, c, d, e, f, g, h])).isNone = true := by
  have h0 : wd 0 ≠ ("parts" : Str) := by decide +kernel
  have h1 : wd 1 ≠ ("parts" : Str) := by decide +kernel
  have h2 : wd 2 ≠ ("parts" : Str) := by decide +kernel
  have h3 : wd 3 ≠ ("parts" : Str) := by decide +kernel
  have h4 : wd 4 ≠ ("parts" : Str) := by decide +kernel
  have h5 : wd 5 ≠ ("parts" : Str) := by decide +kernel
  have h6 : wd 6 ≠ ("parts" : Str) := by decide +kernel
  have h7 : wd 7 ≠ ("parts" : Str) := by decide +kernel
  simp [lk, flds, h0, h1, h2, h3, h4, h5, h6, h7]
theorem lk_turned (a b c d e f g h : L) : (lk ("turned" : Str) (flds [a, b, c, d, e, f, g, h])).isNone = true := by
  have h0 : wd 0 ≠ ("turned" : Str) := by decide +kernel
  have h1 : wd 1 ≠ ("turned" : Str) := by decide +kernel
  have h2 : wd 2 ≠ ("turned" : Str) := by decide +kernel
  have h3 : wd 3 ≠ ("turned" : Str) := by decide +kernel
  have h4 : wd 4 ≠ ("turned" : Str) := by decide +kernel
  have h5 : wd 5 ≠ ("turned" : Str) := by decide +kernel
  have h6 : wd 6 ≠ ("turned" : Str) := by decide +kernel
  have h7 : wd 7 ≠ ("turned" : Str) := by decide +kernel
  simp [lk, flds, h0, h1, h2, h3, h4, h5, h6, h7]
theorem m_parts {P : Pg} {n k : Nat} (hf : P.fn ("Rule", some "parts") = some d_Rule_parts) (hg : P.gl.has ("Rule", some "parts") = true) {x : Nat} {p0 p1 p2 p3 p4 p5 p6 p7 : L} (hv : [p0, p1, p2, p3, p4, p5, p6, p7].all okF = true) (s : Store) (hx : s[x]? = some (.ins "Rule" (flds [p0, p1, p2, p3, p4, p5, p6, p7]))) (e : Env) :
    mthG P.gl (callD P n (k + 1)) n "parts" .nil e (.loc x) s (some (.ins "Rule" (flds [p0, p1, p2, p3, p4, p5, p6, p7]))) = .ok (.tup [p0, p1, p2, p3, p4, p5, p6, p7]) s := by
  rw [mthG_i _ _ _ _ _ _ _ (lk_parts ..) hg, evs_nil, k1_ok, o_mth, rparts_ok hf hv s hx]
theorem insOf_at {s : Store} {x : Nat} {c : Str} {fs : List (Str × L)} (h : s[x]? = some (.ins c fs)) : insOf s (.loc x) = some c := by
  unfold insOf
  simp only [h]
theorem req_ok {P : Pg} {n k : Nat} (he : P.fn ("Rule", some "__eq__") = some d_Rule___eq__) (hf : P.fn ("Rule", some "parts") = some d_Rule_parts) (hg : P.gl.has ("Rule", some "parts") = true) {x y : Nat} {p0 p1 p2 p3 p4 p5 p6 p7 q0 q1 q2 q3 q4 q5 q6 q7 : L}
    (hv : [p0, p1, p2, p3, p4, p5, p6, p7].all okF = true) (hw : [q0, q1, q2, q3, q4, q5, q6, q7].all okF = true) (s : Store) (hx : s[x]? = some (.ins "Rule" (flds [p0, p1, p2, p3, p4, p5, p6, p7]))) (hy : s[y]? = some (.ins "Rule" (flds [q0, q1, q2, q3, q4, q5, q6, q7]))) :
    callD P n (k + 2) ("Rule", some "__eq__") [.loc x, .loc y] s = .ok (.bl (eqFs [p0, p1, p2, p3, p4, p5, p6, p7] [q0, q1, q2, q3, q4, q5, q6, q7])) s := by
  have hg' : fin s (.rt (.bl (eqFs [p0, p1, p2, p3, p4, p5, p6, p7] [q0, q1, q2, q3, q4, q5, q6, q7])) s) = .ok (.bl (eqFs [p0, p1, p2, p3, p4, p5, p6, p7] [q0, q1, q2, q3, q4, q5, q6, q7])) s := gcR_same rfl rfl
  have m1 := fun e => m_parts (n := n) (k := k) hf hg hv s hx e
  have m2 := fun e => m_parts (n := n) (k := k) hf hg hw s hy e
  have hi : isiO (.own "Rule") (.loc y) s = .ok (.bl true) s := by
    unfold isiO isiM
    simp only [insOf_at hy, if_true]
  have hq : eqqM P.gl.has (callD P n (k + 1)) (.tup [p0, p1, p2, p3, p4, p5, p6, p7]) (.tup [q0, q1, q2, q3, q4, q5, q6, q7]) s = .ok (.bl (eqFs [p0, p1, p2, p3, p4, p5, p6, p7] [q0, q1, q2, q3, q4, q5, q6, q7])) s := eqq_of rfl (eqM_tup hv hw s)
  rw [call_at he rfl]
  simp only [d_Rule___eq__]
  clear hf hv he hw
  trivial
/-- two rules asked for their sameness -/
theorem req_is {P : Pg} {n k : Nat} (he : P.fn ("Rule", some "__eq__") = some d_Rule___eq__) (hge : P.gl.has ("Rule", some "__eq__") = true) (hf : P.fn ("Rule", some "parts") = some d_Rule_parts) (hg : P.gl.has ("Rule", some "parts") = true) {x y : Nat} {p0 p1 p2 p3 p4 p5 p6 p7 q0 q1 q2 q3 q4 q5 q6 q7 : L}
    (hv : [p0, p1, p2, p3, p4, p5, p6, p7].all okF = true) (hw : [q0, q1, q2, q3, q4, q5, q6, q7].all okF = true) (s : Store) (hx : s[x]? = some (.ins "Rule" (flds [p0, p1, p2, p3, p4, p5, p6, p7]))) (hy : s[y]? = some (.ins "Rule" (flds [q0, q1, q2, q3, q4, q5, q6, q7]))) :
    eqqM P.gl.has (callD P n (k + 2)) (.loc x) (.loc y) s = .ok (.bl (eqFs [p0, p1, p2, p3, p4, p5, p6, p7] [q0, q1, q2, q3, q4, q5, q6, q7])) s := by
  unfold eqqM
  rw [insOf_at hx, insOf_at hy]
  simp only [hge, and_self, if_true, req_ok he hf hg hv hw s hx hy]
end D
end

section
set_option maxRecDepth 100000
set_option maxHeartbeats 2000000
/-! D3g: rules turned. -/
namespace D
open PySem DL
local macro_rules
  | `(tactic| trivial) => `(tactic| simp (config := {decide := false}) only [ev_var, ev_cst, ev_glb, ev_add, ev_sub, ev_mul, ev_fdv, ev_mod, ev_pow, ev_neg, ev_not, ev_eq, ev_ne, ev_lt, ev_le, ev_gt, ev_ge, ev_isn, ev_isnn, ev_inn, ev_nin, ev_and, ev_or, ev_ite, ev_tup, ev_lst, ev_dS0, ev_dSc, ev_idx, ev_fld, ev_call, ev_isi, ev_bi, ev_bx, ev_lc, ev_idxX, ev_inX, evX_disp, evs_nil, evs_cons,
      k1_ok, k2_ok, kAnd_ok, kA_t, kA_f, kOr_ok, kO_t, kO_f, kI_t, kI_f, kCs_ok, kCons_ok, kX_ok, kN_ok, es_nil, es_cons, sSeq_nx, sSeq_rt, sSeq_ex, es_asg, sAsg_ok, es_ret, sRet_ok, sRet_ex, es_expr, sExp_ok, es_ife, sIf_t, sIf_f, es_iset, sIs1_ok, sIs2_ok, sIs3_ok, sEnd_ok,
      ap_ofO, tru_bl, tru_int, tru_non, o_add, o_sub, o_lt, o_le, o_gt, o_ge, o_not, o_idx, idxG_l, idxG_d, o_idxT, o_set, setG_l, setJ_s, setG_d, o_len, lenG_l, o_fld, fldG_i, o_lenT, at0, at1, at2, at3, at4, at5, at6, at7, at8, ix4_0, ix4_1, ix4_2, ix4_3, ix3_0, ix3_1, ix3_2, List.set_set, o_intI, o_intB, o_max, o_min, eqq_int, eqq_wd,
      List.map_cons, List.map_nil, List.replicate, List.cons_append, List.nil_append, List.getElem?_cons_zero, List.getElem?_cons_succ, List.set_cons_zero, List.set_cons_succ, Option.join, Option.bind_some, id_eq, List.length_cons, List.length_nil, List.length_map, eq_self, decide_true, decide_false, Nat.reduceAdd, Nat.zero_add, Bool.not_true, Bool.not_false, sAsg_ex, sExp_ex, es_fset, sFs1_ok, sFs2_ok, ev_meth, kMeth_ok, o_mth, o_mk, mkE_ok, mkE_ex, es_rse, es_tr, sTr_nx, sTr_ex, es_fr, sFr_fix, evI_val, o_srcT, forFix_nil, forFix_cons, sFx_nx, sFx_rt, sFx_ex, k1_ex, *])
def names8 : List L := [nmL 0, nmL 1, nmL 2, nmL 3, nmL 4, nmL 5, nmL 6, nmL 7]
def turnG (j : Nat) (v : L) : L → List L
  | .tup [.str z, p] => [if z = wd j then v else p]
  | _ => []
theorem turn_all {j : Nat} (hj : j < 8) (v p0 p1 p2 p3 p4 p5 p6 p7 : L) : (((names8.zip [p0, p1, p2, p3, p4, p5, p6, p7]).map fun p => L.tup [p.1, p.2]).flatMap (turnG j v)) = [p0, p1, p2, p3, p4, p5, p6, p7].set j v := by
  rcases j with _ | _ | _ | _ | _ | _ | _ | _ | j <;> first | omega | simp [names8, nmL, turnG, wd_eq]
theorem names_in {j : Nat} (hj : j < 8) : (names8.any fun y => eqF y (nmL j)) = true := by
  have e : ∀ i, eqF (nmL i) (nmL i) = true := fun i => by simp [nmL, eqF]
  rcases j with _ | _ | _ | _ | _ | _ | _ | _ | j <;> first | omega | simp [names8, e]
theorem turned_ok {P : Pg} {n k : Nat} (H : HasR P) (ht : P.fn ("Rule", some "turned") = some d_Rule_turned) (hr : P.fn ("rule_of", none) = some mkDef) (hgr : P.gl.has ("rule_of", none) = true) (hf : P.fn ("Rule", some "parts") = some d_Rule_parts) (hg : P.gl.has ("Rule", some "parts") = true)
    {j : Nat} (hj : j < 8) {x : Nat} {v p0 p1 p2 p3 p4 p5 p6 p7 q0 q1 q2 q3 q4 q5 q6 q7 : L} (hv : [p0, p1, p2, p3, p4, p5, p6, p7].all okF = true) (hq : [p0, p1, p2, p3, p4, p5, p6, p7].set j v = [q0, q1, q2, q3, q4, q5, q6, q7]) (hqv : [q0, q1, q2, q3, q4, q5, q6, q7].all okV = true) (hd : due [q0, q1, q2, q3, q4, q5, q6, q7] = none)
    (s : Store) (hx : s[x]? = some (.ins "Rule" (flds [p0, p1, p2, p3, p4, p5, p6, p7]))) :
    callD P n (k + 4) ("Rule", some "turned") [.loc x, nmL j, v] s = .ok (.loc (s.length + 1)) (s ++ [.lst [q0, q1, q2, q3, q4, q5, q6, q7], .ins "Rule" (flds [q0, q1, q2, q3, q4, q5, q6, q7])]) := by
  have hm := fun e => m_parts (n := n) (k := k + 2) hf hg hv s hx e
  have hI : denI P.gl (callD P n (k + 3)) n (.zip2 (.glb "PARTS") (.meth "parts" (.var 0) .nil)) [some (.loc x), some (nmL j), some v, none, none] s = .ok (.fix ((names8.zip [p0, p1, p2, p3, p4, p5, p6, p7]).map fun p => L.tup [p.1, p.2])) s := by
    refine evI_zip2 (s1 := s) _ _ _ _ _ _ _ (by rw [ev_glb, H.c_par]; rfl) ?_
    rw [ev_meth, ev_var]
    show kMeth _ _ _ _ _ _ (.ok (.loc x) s) = _
    rw [kMeth_ok, hx, hm]
  have hM : mapSrc n (lcF P.gl (callD P n (k + 3)) n [3, 4] (.tp [3, 4]) .non (.ite (.eq (.var 3) (.var 1)) (.var 2) (.var 4)) [some (.loc x), some (nmL j), some v, none, none]) (.fix ((names8.zip [p0, p1, p2, p3, p4, p5, p6, p7]).map fun p => L.tup [p.1, p.2])) s = .ok [q0, q1, q2, q3, q4, q5, q6, q7] s := by
    rw [← hq, ← turn_all hj]
    refine mapFix_pure (g := turnG j v) _ fun y hy => ?_
    obtain ⟨⟨a, p⟩, hap, rfl⟩ := List.mem_map.mp hy
    have ha := (List.of_mem_zip hap).1
    have h1 : ∃ i, a = nmL i := by
      simp only [names8, List.mem_cons, List.not_mem_nil, or_false] at ha
      rcases ha with h | h | h | h | h | h | h | h <;> exact ⟨_, h⟩
    obtain ⟨i, rfl⟩ := h1
    have hT : setT (.tp [3, 4]) (.tup [nmL i, p]) (wipe [some (.loc x), some (nmL j), some v, none, none] [3, 4]) = some [some (.loc x), some (nmL j), some v, some (nmL i), some p] := rfl
    refine lcF_non hT ?_
    have e1 : eqqM P.gl.has (callD P n (k + 3)) (nmL i) (nmL j) s = .ok (.bl (decide (wd i = wd j))) s := eqq_wd _ _ _ _ _
    clear hy hap ha hI hm hd hqv hq hx
    by_cases hb : wd i = wd j
    · have e2 : (if wd i = wd j then v else p) = v := if_pos hb
      rw [decide_eq_true hb] at e1
      show _ = R.ok (if wd i = wd j then v else p) s
      rw [e2]
      clear hb e2
      trivial
    · have e2 : (if wd i = wd j then v else p) = p := if_neg hb
      rw [decide_eq_false hb] at e1
      show _ = R.ok (if wd i = wd j then v else p) s
      rw [e2]
      clear hb e2
      trivial
  have hX := evX_lc (own := [3, 4]) (t := .tp [3, 4]) (c := .non) hI hM (by unfold szMax; simp)
  have hK := make_ok (n := n) (k := k) (c := s.length) H hr hqv (s ++ [.lst [q0, q1, q2, q3, q4, q5, q6, q7]]) (app_at0 s _)
  rw [hd] at hK
  have hK' : callD P n (k + 3) ("rule_of", none) [.loc s.length] (s ++ [.lst [q0, q1, q2, q3, q4, q5, q6, q7]]) = .ok (.loc (s.length + 1)) (s ++ [.lst [q0, q1, q2, q3, q4, q5, q6, q7], .ins "Rule" (flds [q0, q1, q2, q3, q4, q5, q6, q7])]) := by
    rw [hK]
    show R.ok (L.loc (s ++ [Ob.lst [q0, q1, q2, q3, q4, q5, q6, q7]]).length) ((s ++ [Ob.lst [q0, q1, q2, q3, q4, q5, q6, q7]]) ++ [.ins "Rule" (flds [q0, q1, q2, q3, q4, q5, q6, q7])]) = _
    rw [List.append_assoc, List.length_append]
    rfl
  have hl : ∀ xs, lcO xs s = .ok (.loc s.length) (s ++ [.lst xs]) := fun xs => rfl
  have hi1 : isiO .str (nmL j) s = .ok (.bl true) s := rfl
  have hi2 : inO P.gl.kd true (nmL j) (.tup [nmL 0, nmL 1, nmL 2, nmL 3, nmL 4, nmL 5, nmL 6, nmL 7]) s = .ok (.bl false) s := by
    rw [o_inT _ _ _ (by rfl)]
    show R.ok (L.bl (!(names8.any fun y => eqF y (nmL j)))) s = _
    rw [names_in hj]
    rfl
  have hc := H.c_par
  have hfin : fin s (.rt (.loc (s.length + 1)) (s ++ [.lst [q0, q1, q2, q3, q4, q5, q6, q7], .ins "Rule" (flds [q0, q1, q2, q3, q4, q5, q6, q7])])) = .ok (.loc (s.length + 1)) (s ++ [.lst [q0, q1, q2, q3, q4, q5, q6, q7], .ins "Rule" (flds [q0, q1, q2, q3, q4, q5, q6, q7])]) := by
    show gcR _ _ _ = _
    unfold gcR
    rw [if_pos (take_app s _), if_neg (by show ¬ (false = true); decide)]
    simp only [app_at]
    rfl
  rw [call_at ht rfl]
  simp only [d_Rule_turned]
  clear hI hM hK hm hd hqv hq hx ht hr hf hv H
  trivial
theorem turned_held {P : Pg} {n k : Nat} (H : HasR P) (ht : P.fn ("Rule", some "turned") = some d_Rule_turned) (x : Nat) (v : L) (s : Store) :
    callD P n (k + 1) ("Rule", some "turned") [.loc x, .str (wd 30), v] s = .ex "BadRule" (some ("part", .str (wd 30))) s := by
  have hi1 : isiO .str (.str (wd 30)) s = .ok (.bl true) s := rfl
  have hi2 : inO P.gl.kd true (.str (wd 30)) (.tup [nmL 0, nmL 1, nmL 2, nmL 3, nmL 4, nmL 5, nmL 6, nmL 7]) s = .ok (.bl true) s := by
    rw [o_inT _ _ _ (by rfl)]
    simp [nmL, eqF, wd_eq]
  have hc := H.c_par
  have hs : ∀ e v s, sRse P.er "BadRule" e (.ok [v] s) = .ex "BadRule" (some ("part", v)) e s := fun e v s => sRse_1 _ _ _ _ _ H.er
  have hfin : ∀ c p e, fin s (.ex c p e s) = .ex c p s := fun c p e => rfl
  rw [call_at ht rfl]
  simp only [d_Rule_turned]
  clear H ht
  trivial
end D
end

section
set_option maxRecDepth 100000
set_option maxHeartbeats 2000000
/-! D3h: the due part. -/
namespace D
open PySem DL
local macro_rules
  | `(tactic| trivial) => `(tactic| simp (config := {decide := false}) only [ev_var, ev_cst, ev_glb, ev_add, ev_sub, ev_mul, ev_fdv, ev_mod, ev_pow, ev_neg, ev_not, ev_eq, ev_ne, ev_lt, ev_le, ev_gt, ev_ge, ev_isn, ev_isnn, ev_inn, ev_nin, ev_and, ev_or, ev_ite, ev_tup, ev_lst, ev_dS0, ev_dSc, ev_idx, ev_fld, ev_call, ev_isi, ev_bi, ev_bx, ev_lc, ev_idxX, ev_inX, evX_disp, evs_nil, evs_cons,
      k1_ok, k2_ok, kAnd_ok, kA_t, kA_f, kOr_ok, kO_t, kO_f, kI_t, kI_f, kCs_ok, kCons_ok, kX_ok, kN_ok, es_nil, es_cons, sSeq_nx, sSeq_rt, sSeq_ex, es_asg, sAsg_ok, es_ret, sRet_ok, sRet_ex, es_expr, sExp_ok, es_ife, sIf_t, sIf_f, es_iset, sIs1_ok, sIs2_ok, sIs3_ok, sEnd_ok,
      ap_ofO, tru_bl, tru_int, tru_non, o_add, o_sub, o_lt, o_le, o_gt, o_ge, o_not, o_idx, idxG_l, idxG_d, o_idxT, o_set, setG_l, setJ_s, setG_d, o_len, lenG_l, o_fld, fldG_i, o_lenT, at0, at1, at2, at3, at4, at5, at6, at7, at8, ix4_0, ix4_1, ix4_2, ix4_3, ix3_0, ix3_1, ix3_2, List.set_set, o_intI, o_intB, o_max, o_min, eqq_int, eqq_wd,
      List.map_cons, List.map_nil, List.replicate, List.cons_append, List.nil_append, List.getElem?_cons_zero, List.getElem?_cons_succ, List.set_cons_zero, List.set_cons_succ, Option.join, Option.bind_some, id_eq, List.length_cons, List.length_nil, List.length_map, eq_self, decide_true, decide_false, Nat.reduceAdd, Nat.zero_add, Bool.not_true, Bool.not_false, sAsg_ex, sExp_ex, es_fset, sFs1_ok, sFs2_ok, ev_meth, kMeth_ok, o_mth, o_mk, mkE_ok, mkE_ex, es_rse, es_tr, sTr_nx, sTr_ex, es_fr, sFr_fix, evI_val, o_srcT, forFix_nil, forFix_cons, sFx_nx, sFx_rt, sFx_ex, k1_ex, *])
theorem mapDyn_pure {α : Type} {f : L → M (List α)} {g : L → List α} {s : Store} {c n : Nat} {xs : List L} (hc : s[c]? = some (.lst xs)) (hn : xs.length < n) (h : ∀ x ∈ xs, f x s = .ok (g x) s) : mapDyn f c n 0 s = .ok (xs.flatMap g) s := by
  obtain ⟨r, s', hm, h1, h2⟩ := mapDyn_inv (f := f) (c := c) (xs := xs) (fun i acc s' => s' = s ∧ acc = (xs.take i).flatMap g) (fun i a s' hi => by rw [hi.1]; exact hc)
    (fun i x acc s' hx hi => by
      obtain ⟨rfl, rfl⟩ := hi
      have hlt := (List.getElem?_eq_some_iff.mp hx).1
      have hxe := (List.getElem?_eq_some_iff.mp hx).2
      refine ⟨g x, s', h x (hxe ▸ List.getElem_mem hlt), rfl, ?_⟩
      rw [← List.take_append_getElem hlt, List.flatMap_append, hxe, List.flatMap_singleton])
    n 0 [] s (by omega) (Nat.zero_le _) ⟨rfl, rfl⟩
  rw [hm, h1]
  rw [List.nil_append, List.take_length] at h2
  rw [h2]
theorem names_ok {P : Pg} {n k : Nat} (h : P.fn ("_law_names", none) = some d__law_names) (s : Store) : callD P n (k + 1) ("_law_names", none) [] s = .ok (.loc s.length) (s ++ [.lst names8]) := by
  have l8 : ∀ a b c d e f g h s, lstO [a, b, c, d, e, f, g, h] s = .ok (.loc s.length) (s ++ [.lst [a, b, c, d, e, f, g, h]]) := fun a b c d e f g h s => lstO_ok _ _ (by unfold szMax; simp)
  have hg : fin s (.rt (.loc s.length) (s ++ [.lst [.str (wd 0), .str (wd 1), .str (wd 2), .str (wd 3), .str (wd 4), .str (wd 5), .str (wd 6), .str (wd 7)]])) = .ok (.loc s.length) (s ++ [.lst names8]) := by
    show gcR _ _ _ = _
    unfold gcR
    rw [if_pos (take_app s _), if_neg (by show ¬ (false = true); decide)]
    simp only [app_at0]
    show (if (noLocs names8 && decide (s.length ≤ s.length)) = true then R.ok (L.loc s.length) (s ++ [.lst names8]) else _) = _
    rw [if_pos (by rw [decide_eq_true (Nat.le_refl _)]; rfl)]
  rw [call_at h rfl]
  simp only [d__law_names]
  clear h
  trivial
def fitsB (v y : L) : Bool := (isB y == isB v) && eqF y v
theorem fits_isV (v : L) : ∀ vs ∈ vals, vs.any (fitsB v) = isV vs v := by
  intro vs h
  simp only [vals, List.mem_cons, List.not_mem_nil, or_false] at h
  rcases h with rfl | rfl | rfl | rfl | rfl | rfl | rfl | rfl <;> cases v <;> simp [fitsB, isV, isB, isS, eqF]
def dueL : DS := (.fr (.nm 1) (.rng1 (.cst (.int 8))) (.cons (.asg 2 (.idx (.call "_law_values" .nil) (.var 1)))
    (.cons (.ife (.not (.bx .any (.lc [3] (.nm 3) (.val (.var 2)) .non (.and (.eq (.isi (.var 3) .bl) (.isi (.idx (.var 0) (.var 1)) .bl)) (.eq (.var 3) (.idx (.var 0) (.var 1))))))) (.cons (.ret (.idx (.call "_law_names" .nil) (.var 1)))
    .nil) .nil)
    .nil)))
def dueB : DSs := (.cons (.asg 2 (.idx (.call "_law_values" .nil) (.var 1)))
    (.cons (.ife (.not (.bx .any (.lc [3] (.nm 3) (.val (.var 2)) .non (.and (.eq (.isi (.var 3) .bl) (.isi (.idx (.var 0) (.var 1)) .bl)) (.eq (.var 3) (.idx (.var 0) (.var 1))))))) (.cons (.ret (.idx (.call "_law_names" .nil) (.var 1)))
    .nil) .nil)
    .nil))
def d_due : Def := ⟨1, 4, (.cons dueL
    (.cons (.ret (.cst .non))
    .nil))⟩
theorem eqq_vf {hs : FK → Bool} {F : Fns} {x y : L} (h : okF x = true) (h' : okV y = true) (s : Store) : eqqM hs F x y s = .ok (.bl (eqF x y)) s := by
  cases y with
  | tup xs =>
    have e1 : toD s (.tup xs) = some (.tuple (xs.map fdat)) := by
      show (toDs (gD s 8) _).map PyData.tuple = _
      rw [toDs_f h']
      rfl
    refine eqq_of (by cases x <;> first | rfl | (exact (Bool.false_ne_true h).elim)) ?_
    rw [eqM_of (toDn_f h) e1 (shp_f h) (shp_tup h')]
    cases x <;> first | rfl | (exact (Bool.false_ne_true h).elim)
  | _ =>
    refine eqq_f h ?_ s
    exact h'
theorem vals_okF : ∀ vs ∈ vals, ∀ y ∈ vs, okF y = true := by
  intro vs h y hy
  simp only [vals, List.mem_cons, List.not_mem_nil, or_false] at h
  rcases h with rfl | rfl | rfl | rfl | rfl | rfl | rfl | rfl <;> (simp only [List.mem_cons, List.not_mem_nil, or_false] at hy; rcases hy with rfl | rfl | rfl) <;> first | exact okF_wd _ | rfl
theorem vals_len : ∀ vs ∈ vals, vs.length ≤ 3 := by decide
theorem bls_map (p : L → Bool) : ∀ xs : List L, blsOf (xs.flatMap fun y => [.bl (p y)]) = some (xs.map p)
  | [] => rfl
  | x :: xs => by
    show (blsOf (xs.flatMap fun y => [.bl (p y)])).map (p x :: ·) = _
    rw [bls_map p xs]
    rfl

theorem sg_len (p : L → L) : ∀ xs : List L, (xs.flatMap fun y => [p y]).length = xs.length
  | [] => rfl
  | x :: xs => by
    show (xs.flatMap fun y => [p y]).length + 1 = xs.length + 1
    rw [sg_len p xs]
theorem due_turn {P : Pg} {n k : Nat} (hn : 8 < n) (hv : P.fn ("_law_values", none) = some d__law_values) (gv : P.gl.has ("_law_values", none) = true) (hm : P.fn ("_law_names", none) = some d__law_names) (gm : P.gl.has ("_law_names", none) = true)
    {c : Nat} {ps vs : List L} {j : Nat} {v : L} (hj : j < 8) (hp : ps[j]? = some v) (hvs : vals[j]? = some vs) (hok : okV v = true) (S : Store) (hc : S[c]? = some (.lst ps)) (x y z : Option L) :
    ∃ e' g', (∃ x y, e' = [some (.loc c), x, y, z]) ∧ denSs P.gl (callD P n (k + 1)) n P.er dueB [some (.loc c), some (.int (j : Nat)), y, z] S = if isV vs v = true then .nx e' (S ++ g') else .rt (nmL j) (S ++ g') := by
  have h8 : ∀ x, [L.loc S.length, .loc (S.length + 1), .loc (S.length + 2), .loc (S.length + 3), .loc (S.length + 5), .loc (S.length + 6), .loc (S.length + 7), .loc (S.length + 8)][j]? = some x → ∃ cj, x = .loc cj ∧ (S ++ valG S.length)[cj]? = some (.lst vs) := fun x hx => by
    obtain ⟨cj, vs', h1, _, h2, h3, _⟩ := vals_at S j x hx
    rw [hvs] at h3
    cases h3
    exact ⟨cj, h1, h2⟩
  obtain ⟨cj, hcj, hcs⟩ := h8 _ (List.getElem?_eq_getElem (by exact hj))
  have hat : L2.atI [L.loc S.length, .loc (S.length + 1), .loc (S.length + 2), .loc (S.length + 3), .loc (S.length + 5), .loc (S.length + 6), .loc (S.length + 7), .loc (S.length + 8)] (j : Int) = some (.loc cj) := atI_get _ _ _ (by rw [← hcj]; exact List.getElem?_eq_getElem (by exact hj))
  have hps : L2.atI ps (j : Int) = some v := atI_get _ _ _ hp
  have hV := fun s => values_ok (P := P) (n := n) (k := k) hv s
  have hVat : (S ++ valG S.length)[S.length + 10]? = some (.lst [L.loc S.length, .loc (S.length + 1), .loc (S.length + 2), .loc (S.length + 3), .loc (S.length + 5), .loc (S.length + 6), .loc (S.length + 7), .loc (S.length + 8)]) := app_at S (valG S.length) 10
  have hc1 : (S ++ valG S.length)[c]? = some (.lst ps) := by rw [List.getElem?_append_left (List.getElem?_eq_some_iff.mp hc).1]; exact hc
  have hvm : vs ∈ vals := List.mem_of_getElem? hvs
  have hI : denI P.gl (callD P n (k + 1)) n (.val (.var 2)) [some (.loc c), some (.int (j : Nat)), some (.loc cj), z] (S ++ valG S.length) = .ok (.dyn cj) (S ++ valG S.length) := by
    rw [evI_val, ev_var]
    show k1 srcOf (.ok (L.loc cj) _) = _
    rw [k1_ok, o_src, hcs]
    rfl
  have hM : mapSrc n (lcF P.gl (callD P n (k + 1)) n [3] (.nm 3) .non (.and (.eq (.isi (.var 3) .bl) (.isi (.idx (.var 0) (.var 1)) .bl)) (.eq (.var 3) (.idx (.var 0) (.var 1)))) [some (.loc c), some (.int (j : Nat)), some (.loc cj), z]) (.dyn cj) (S ++ valG S.length) = .ok (vs.flatMap fun y => [.bl (fitsB v y)]) (S ++ valG S.length) := by
    refine mapDyn_pure hcs (Nat.lt_of_le_of_lt (vals_len vs hvm) (by omega)) fun y hy => ?_
    refine lcF_non (e' := [some (.loc c), some (.int (j : Nat)), some (.loc cj), some y]) rfl ?_
    have hyf := vals_okF vs hvm y hy
    have hyv : okV y = true := by cases y <;> first | exact hyf | (exact (Bool.false_ne_true hyf).elim)
    have b1 : ∀ s, isiO .bl y s = .ok (.bl (isB y)) s := fun s => o_isB hyv s
    have b2 : ∀ s, isiO .bl v s = .ok (.bl (isB v)) s := fun s => o_isB hok s
    have b3 : ∀ s, eqqM P.gl.has (callD P n (k + 1)) (.bl (isB y)) (.bl (isB v)) s = .ok (.bl (isB y == isB v)) s := fun s => eqq_f rfl rfl s
    have b4 : ∀ s, eqqM P.gl.has (callD P n (k + 1)) y v s = .ok (.bl (eqF y v)) s := fun s => eqq_vf hyf hok s
    have b5 : fitsB v y = ((isB y == isB v) && eqF y v) := rfl
    clear hI hV hv hm hat hVat hcj h8 hcs hvm hp hvs hc hyf hyv hok hy gv gm
    cases hb : (isB y == isB v) with
    | true =>
      rw [hb] at b3 b5
      rw [Bool.true_and] at b5
      clear hb
      trivial
    | false =>
      rw [hb] at b3 b5
      rw [Bool.false_and] at b5
      clear hb
      trivial
  have hX := evX_lc (own := [3]) (t := .nm 3) (c := .non) hI hM (by
    have h1 := vals_len vs hvm
    have h2 : (vs.flatMap fun y => [L.bl (fitsB v y)]).length = vs.length := sg_len (fun y => L.bl (fitsB v y)) vs
    rw [h2]; unfold szMax; omega)
  have hA : ∀ s, bxM .any (vs.flatMap fun y => [.bl (fitsB v y)]) s = .ok (.bl (isV vs v)) s := fun s => by
    rw [← fits_isV v vs hvm]
    unfold bxM
    simp only [bls_map, List.any_map]
    rfl
  have hN := fun s => names_ok (P := P) (n := n) (k := k) hm s
  have hnat : L2.atI names8 (j : Int) = some (nmL j) := atI_get _ _ _ (by rcases j with _ | _ | _ | _ | _ | _ | _ | _ | j <;> first | rfl | omega)
  have hend : ∀ o, ((S ++ valG S.length) ++ [o])[(S ++ valG S.length).length]? = some o := fun o => app_at0 _ _
  refine ⟨[some (.loc c), some (.int (j : Nat)), some (.loc cj), z], if isV vs v = true then valG S.length else valG S.length ++ [.lst names8], ⟨_, _, rfl⟩, ?_⟩
  cases hb : isV vs v with
  | true =>
    rw [hb] at hA
    have e1 : ∀ a b : RS, (if true = true then a else b) = a := fun _ _ => rfl
    have e2 : ∀ a b : Store, (if true = true then a else b) = a := fun _ _ => rfl
    rw [e1, e2]
    simp only [dueB]
    clear hI hM hv hm hcj h8 hvm hp hvs hc hok hb hN hnat hend e1 e2
    trivial
  | false =>
    rw [hb] at hA
    have e1 : ∀ a b : RS, (if false = true then a else b) = b := fun _ _ => rfl
    have e2 : ∀ a b : Store, (if false = true then a else b) = b := fun _ _ => rfl
    rw [e1, e2, ← List.append_assoc]
    simp only [dueB]
    clear hI hM hv hm hcj h8 hvm hp hvs hc hok hb e1 e2
    trivial

theorem due_loop {P : Pg} {n k : Nat} (hn : 8 < n) (hv : P.fn ("_law_values", none) = some d__law_values) (gv : P.gl.has ("_law_values", none) = true) (hm : P.fn ("_law_names", none) = some d__law_names) (gm : P.gl.has ("_law_names", none) = true)
    {c : Nat} {ps : List L} (s : Store) (hc : s[c]? = some (.lst ps)) : ∀ (ts : List (Nat × L × List L)) (g : Store) (x y z : Option L), (∀ t ∈ ts, t.1 < 8 ∧ ps[t.1]? = some t.2.1 ∧ vals[t.1]? = some t.2.2 ∧ okV t.2.1 = true) →
    ∃ e' g', forFix (frF P.gl (callD P n (k + 1)) n P.er (.nm 1) dueB) (ts.map fun t => .int (t.1 : Nat)) [some (.loc c), x, y, z] (s ++ g) = match bad1 ts with
      | none => .nx e' (s ++ g')
      | some j => .rt (nmL j) (s ++ g')
  | [], g, x, y, z, _ => ⟨_, g, rfl⟩
  | t :: ts, g, x, y, z, ht => by
    obtain ⟨j, v, vs⟩ := t
    obtain ⟨h1, h2, h3, h4⟩ := ht _ List.mem_cons_self
    have hc' : (s ++ g)[c]? = some (.lst ps) := by rw [List.getElem?_append_left (List.getElem?_eq_some_iff.mp hc).1]; exact hc
    obtain ⟨e1, g1, ⟨x1, y1, rfl⟩, hd⟩ := due_turn (k := k) hn hv gv hm gm h1 h2 h3 h4 (s ++ g) hc' x y z
    have e0 : frF P.gl (callD P n (k + 1)) n P.er (.nm 1) dueB (.int (j : Nat)) [some (.loc c), x, y, z] (s ++ g) = denSs P.gl (callD P n (k + 1)) n P.er dueB [some (.loc c), some (.int (j : Nat)), y, z] (s ++ g) := rfl
    cases hb : isV vs v with
    | true =>
      rw [hb, if_pos rfl] at hd
      obtain ⟨e2, g2, h5⟩ := due_loop (k := k) hn hv gv hm gm s hc ts (g ++ g1) x1 y1 z fun t h => ht t (List.mem_cons_of_mem _ h)
      refine ⟨e2, g2, ?_⟩
      rw [List.map_cons, forFix_cons, e0, hd, sFx_nx, List.append_assoc, h5]
      have e9 : bad1 ((j, v, vs) :: ts) = bad1 ts := if_pos hb
      rw [e9]
    | false =>
      rw [hb, if_neg (by decide)] at hd
      refine ⟨[], g ++ g1, ?_⟩
      rw [List.map_cons, forFix_cons, e0, hd, sFx_rt, List.append_assoc]
      have e9 : bad1 ((j, v, vs) :: ts) = some j := if_neg (by rw [hb]; decide)
      rw [e9]
def dueV (ps : List L) : L := match due ps with
  | none => .non
  | some j => nmL j
theorem due_ok {P : Pg} {n k : Nat} (hn : 8 < n) (h : P.fn ("_law_due", none) = some d_due) (hv : P.fn ("_law_values", none) = some d__law_values) (gv : P.gl.has ("_law_values", none) = true) (hm : P.fn ("_law_names", none) = some d__law_names) (gm : P.gl.has ("_law_names", none) = true)
    {c : Nat} {p0 p1 p2 p3 p4 p5 p6 p7 : L} (hok : [p0, p1, p2, p3, p4, p5, p6, p7].all okV = true) (s : Store) (hc : s[c]? = some (.lst [p0, p1, p2, p3, p4, p5, p6, p7])) :
    callD P n (k + 2) ("_law_due", none) [.loc c] s = .ok (dueV [p0, p1, p2, p3, p4, p5, p6, p7]) s := by
  obtain ⟨e', g', hl⟩ := due_loop (k := k) hn hv gv hm gm s hc (rows8 [p0, p1, p2, p3, p4, p5, p6, p7]) [] none none none (by
    intro t ht
    have h1 : ∀ t ∈ rows8 [p0, p1, p2, p3, p4, p5, p6, p7], okV t.2.1 = true ∧ t.2.2 ∈ vals := rows8_ok hok
    refine ⟨?_, ?_, ?_, (h1 t ht).1⟩ <;>
    · have e : rows8 [p0, p1, p2, p3, p4, p5, p6, p7] = [(0, p0, vals[0]), (1, p1, vals[1]), (2, p2, vals[2]), (3, p3, vals[3]), (4, p4, vals[4]), (5, p5, vals[5]), (6, p6, vals[6]), (7, p7, vals[7])] := rfl
      rw [e] at ht
      simp only [List.mem_cons, List.not_mem_nil, or_false] at ht
      rcases ht with rfl | rfl | rfl | rfl | rfl | rfl | rfl | rfl <;> first | rfl | exact Nat.le_of_ble_eq_true rfl)
  have hI : denI P.gl (callD P n (k + 1)) n (.rng1 (.cst (.int 8))) [some (.loc c), none, none, none] s = .ok (.fix ((rows8 [p0, p1, p2, p3, p4, p5, p6, p7]).map fun t => .int (t.1 : Nat))) s := by
    rw [evI_rng1, ev_cst, k1_ok, o_rng _ _ (by decide)]
    rfl
  rw [List.append_nil] at hl
  have hq : ∀ r, noLoc r = true → gcR s r (s ++ g') = .ok r s := fun r hr => gcR_app hr
  rw [call_at h rfl]
  show fin s (denSs P.gl (callD P n (k + 1)) n P.er (.cons dueL (.cons (.ret (.cst .non)) .nil)) [some (.loc c), none, none, none] s) = _
  rw [es_cons]
  have hL : denS P.gl (callD P n (k + 1)) n P.er dueL [some (.loc c), none, none, none] s = forFix (frF P.gl (callD P n (k + 1)) n P.er (.nm 1) dueB) ((rows8 [p0, p1, p2, p3, p4, p5, p6, p7]).map fun t => .int (t.1 : Nat)) [some (.loc c), none, none, none] s := by
    show denS P.gl (callD P n (k + 1)) n P.er (.fr (.nm 1) (.rng1 (.cst (.int 8))) dueB) _ s = _
    rw [es_fr, hI, sFr_fix]
  rw [hL, hl]
  unfold dueV
  have d0 : due [p0, p1, p2, p3, p4, p5, p6, p7] = bad1 (rows8 [p0, p1, p2, p3, p4, p5, p6, p7]) := rfl
  rw [d0]
  cases bad1 (rows8 [p0, p1, p2, p3, p4, p5, p6, p7]) with
  | none => exact hq .non rfl
  | some j => exact hq (nmL j) rfl
end D
end

section
set_option maxRecDepth 100000
set_option maxHeartbeats 2000000
/-! D3i: the law's begin, the odd turn. -/
namespace D
open PySem DL
local macro_rules
  | `(tactic| trivial) => `(tactic| simp (config := {decide := false}) only [ev_var, ev_cst, ev_glb, ev_add, ev_sub, ev_mul, ev_fdv, ev_mod, ev_pow, ev_neg, ev_not, ev_eq, ev_ne, ev_lt, ev_le, ev_gt, ev_ge, ev_isn, ev_isnn, ev_inn, ev_nin, ev_and, ev_or, ev_ite, ev_tup, ev_lst, ev_dS0, ev_dSc, ev_idx, ev_fld, ev_call, ev_isi, ev_bi, ev_bx, ev_lc, ev_idxX, ev_inX, evX_disp, evs_nil, evs_cons,
      k1_ok, k2_ok, kAnd_ok, kA_t, kA_f, kOr_ok, kO_t, kO_f, kI_t, kI_f, kCs_ok, kCons_ok, kX_ok, kN_ok, es_nil, es_cons, sSeq_nx, sSeq_rt, sSeq_ex, es_asg, sAsg_ok, es_ret, sRet_ok, sRet_ex, es_expr, sExp_ok, es_ife, sIf_t, sIf_f, es_iset, sIs1_ok, sIs2_ok, sIs3_ok, sEnd_ok,
      ap_ofO, tru_bl, tru_int, tru_non, o_add, o_sub, o_lt, o_le, o_gt, o_ge, o_not, o_idx, idxG_l, idxG_d, o_idxT, o_set, setG_l, setJ_s, setG_d, o_len, lenG_l, o_fld, fldG_i, o_lenT, at0, at1, at2, at3, at4, at5, at6, at7, at8, ix4_0, ix4_1, ix4_2, ix4_3, ix3_0, ix3_1, ix3_2, List.set_set, o_intI, o_intB, o_max, o_min, eqq_int, eqq_wd,
      List.map_cons, List.map_nil, List.replicate, List.cons_append, List.nil_append, List.getElem?_cons_zero, List.getElem?_cons_succ, List.set_cons_zero, List.set_cons_succ, Option.join, Option.bind_some, id_eq, List.length_cons, List.length_nil, List.length_map, eq_self, decide_true, decide_false, Nat.reduceAdd, Nat.zero_add, Bool.not_true, Bool.not_false, sAsg_ex, sExp_ex, es_fset, sFs1_ok, sFs2_ok, ev_meth, kMeth_ok, o_mth, o_mk, mkE_ok, mkE_ex, es_rse, es_tr, sTr_nx, sTr_ex, es_fr, sFr_fix, evI_val, o_srcT, forFix_nil, forFix_cons, sFx_nx, sFx_rt, sFx_ex, k1_ex, *])
section
variable {G : Glb} {F : Fns} {n : Nat} {E : Er}
theorem seq_nx {a : DS} {r : DSs} {e e' : Env} {s s' : Store} {v : L} (h : denS G F n E a e s = .nx e' s') (h2 : ∃ s2, denSs G F n E r e' s' = .rt v s2) : ∃ s2, denSs G F n E (.cons a r) e s = .rt v s2 := by
  rw [es_cons, h, sSeq_nx]
  exact h2
theorem seq_rt {a : DS} {r : DSs} {e : Env} {s s' : Store} {v : L} (h : denS G F n E a e s = .rt v s') : ∃ s2, denSs G F n E (.cons a r) e s = .rt v s2 := by
  rw [es_cons, h, sSeq_rt]
  exact ⟨_, rfl⟩
end
theorem fin_bl {s s' : Store} (b : Bool) : ∃ s2, fin s (.rt (.bl b) s') = .ok (.bl b) s2 := by
  show ∃ s2, gcR s (.bl b) s' = .ok (.bl b) s2
  unfold gcR
  split
  · exact ⟨_, rfl⟩
  · exact ⟨_, rfl⟩
theorem o_listS (hs : FK → Bool) (F : Fns) {c : Nat} {s : Store} {xs : List Int} (h : s[c]? = some (.scr xs)) : biM hs F .list [.loc c] s = .ok (.loc s.length) (s ++ [.lst (xs.map .int)]) := by
  show (getC c >>= _) s = _
  rw [bnd_ok (getC_at h)]
  rfl
theorem o_listL (hs : FK → Bool) (F : Fns) {c : Nat} {s : Store} {xs : List L} (h : s[c]? = some (.lst xs)) : biM hs F .list [.loc c] s = .ok (.loc s.length) (s ++ [.lst xs]) := by
  show (getC c >>= _) s = _
  rw [bnd_ok (getC_at h)]
  rfl
theorem o_listT (hs : FK → Bool) (F : Fns) (xs : List L) (s : Store) : biM hs F .list [.tup xs] s = .ok (.loc s.length) (s ++ [.lst xs]) := rfl
theorem o_tupL (hs : FK → Bool) (F : Fns) {c : Nat} {s : Store} {xs : List L} (h : s[c]? = some (.lst xs)) : biM hs F .tuple [.loc c] s = .ok (.tup xs) s := by
  show (getC c >>= _) s = _
  rw [bnd_ok (getC_at h)]
  rfl
theorem begin_ok {P : Pg} {n k : Nat} (h : P.fn ("_law_begin", none) = some d__law_begin) (ns : List Int) : callD P n (k + 1) ("_law_begin", none) [.loc 0] [.scr ns] = .ok (.loc 2) [.scr ns, .lst (ns.map .int), .lst [.loc 1, .int 0, .int 0, .int 7]] := by
  have h1 : biM P.gl.has (callD P n k) .list [.loc 0] [.scr ns] = .ok (.loc 1) [.scr ns, .lst (ns.map .int)] := o_listS _ _ rfl
  have h2 : lstO [.loc 1, .int 0, .int 0, .int 7] [.scr ns, .lst (ns.map .int)] = .ok (.loc 2) [.scr ns, .lst (ns.map .int), .lst [.loc 1, .int 0, .int 0, .int 7]] := lstO_ok _ _ (by unfold szMax; simp)
  have h3 : fin [.scr ns] (.rt (.loc 2) [.scr ns, .lst (ns.map .int), .lst [.loc 1, .int 0, .int 0, .int 7]]) = .ok (.loc 2) [.scr ns, .lst (ns.map .int), .lst [.loc 1, .int 0, .int 0, .int 7]] := gcR_deep (xs := [.loc 1, .int 0, .int 0, .int 7]) rfl rfl
  rw [call_at h rfl]
  simp only [d__law_begin]
  clear h
  trivial
theorem begin_dr (ns : List Int) : Dr 2 1 [.scr ns, .lst (ns.map .int), .lst [.loc 1, .int 0, .int 0, .int 7]] := ⟨by decide, ns, 0, 0, 7, rfl, rfl, by decide⟩
def oddB : DSs := (.cons (.asg 13 (.lst (.cons (.cst .non) (.cons (.cst (.int 0)) (.cons (.cst (.int 1)) (.cons (.cst (.str (wd 8))) (.cons (.cst (.bl true)) (.cons (.cst (.str (wd 12))) (.cons (.cst (.str (wd 11))) (.cons (.cst (.str (wd 41))) (.cons (.cst (.str (wd 13))) (.cons (.tup (.cons (.cst (.str (wd 9))) .nil)) (.cons (.cst (.str (wd 17))) (.cons (.cst (.str (wd 20))) (.cons (.cst (.bl false)) (.cons (.cst (.str (wd 15))) .nil))))))))))))))))
    (.cons (.iset (.var 2) (.call "_law_draw" (.cons (.var 1) (.cons (.cst (.int 8)) .nil))) (.idx (.var 13) (.call "_law_draw" (.cons (.var 1) (.cons (.bi .len (.cons (.var 13) .nil)) .nil)))))
    .nil))
def odds : List L := [.non, .int 0, .int 1, .str (wd 8), .bl true, .str (wd 12), .str (wd 11), .str (wd 41), .str (wd 13), .tup [.str (wd 9)], .str (wd 17), .str (wd 20), .bl false, .str (wd 15)]
theorem odds_ok : ∀ x ∈ odds, okV x = true := by
  intro x hx
  simp only [odds, List.mem_cons, List.not_mem_nil, or_false] at hx
  rcases hx with rfl | rfl | rfl | rfl | rfl | rfl | rfl | rfl | rfl | rfl | rfl | rfl | rfl | rfl <;> first | rfl | exact okF_wd _ | (show ([L.str (wd 9)].all okF) = true; rw [List.all_cons, okF_wd]; rfl)
theorem ixN_nat {l i : Nat} (h : i < l) : L2.ixN l (i : Int) = some i := by
  unfold L2.ixN
  rw [if_pos (by omega), if_pos (by omega)]
  congr 1
/-- the odd values, one after the other -/
theorem odd_turn {P : Pg} {n k : Nat} (hw : P.fn ("_law_draw", none) = some d__law_draw) (gw : P.gl.has ("_law_draw", none) = true) {c : Nat} {s : Store} {ps : List L} (hd : Dr 2 1 s) (hc : s[c]? = some (.lst ps)) (hc2 : 2 < c) (hl : ps.length = 8) (hv : ps.all okV = true) (a z3 z4 z5 z6 z7 z8 z9 z10 z11 z12 b z14 : Option L) :
    ∃ (b' : Option L) (s' : Store) (ps' : List L), denSs P.gl (callD P n (k + 1)) n P.er oddB [some (.loc 0), some (.loc 2), some (.loc c), a, z4, z5, z6, z7, z8, z9, z10, z11, z12, b, z14] s = .nx [some (.loc 0), some (.loc 2), some (.loc c), a, z4, z5, z6, z7, z8, z9, z10, z11, z12, b', z14] s' ∧ Dr 2 1 s' ∧ s'[c]? = some (.lst ps') ∧ ps'.length = 8 ∧ ps'.all okV = true := by
  have t1 : ∀ x s, tupO [x] s = .ok (.tup [x]) s := fun x s => tupO_ok _ _ (by unfold szMax; simp)
  have l14 : lstO [.non, .int 0, .int 1, .str (wd 8), .bl true, .str (wd 12), .str (wd 11), .str (wd 41), .str (wd 13), .tup [.str (wd 9)], .str (wd 17), .str (wd 20), .bl false, .str (wd 15)] s = .ok (.loc s.length) (s ++ [.lst odds]) := lstO_ok _ _ (by unfold szMax; simp)
  have hlt := (List.getElem?_eq_some_iff.mp hc).1
  obtain ⟨v1, s1, hv1, hc1, hd1, hf1⟩ := draw_ok' (P := P) (n := n) (k := k) hw (hd.app [.lst odds]) (z := 14) (by decide) (by decide)
  obtain ⟨v2, s2, hv2, hc2', hd2, hf2⟩ := draw_ok' (P := P) (n := n) (k := k) hw hd1 (z := 8) (by decide) (by decide)
  have hA : (s ++ [Ob.lst odds])[s.length]? = some (.lst odds) := app_at0 _ _
  have hdl := hd.lt
  have hA1 : s1[s.length]? = some (.lst odds) := hf1.at hA (by omega)
  have hC1 : (s ++ [Ob.lst odds])[c]? = some (.lst ps) := by rw [List.getElem?_append_left hlt]; exact hc
  have hC2 : s2[c]? = some (.lst ps) := hf2.at (hf1.at hC1 (by omega)) (by omega)
  have hat : L2.atI odds (v1 : Int) = some odds[v1] := atI_get _ _ _ (List.getElem?_eq_getElem hv1)
  have hix : L2.ixN ps.length (v2 : Int) = some v2 := by rw [hl]; exact ixN_nat hv2
  have ho14 : ((odds.length : Nat) : Int) = 14 := rfl
  have hlen : lenG (s ++ [Ob.lst odds]) (some (.lst odds)) = .ok (.int 14) (s ++ [Ob.lst odds]) := rfl
  have hc1' : callD P n (k + 1) ("_law_draw", none) [.loc 2, .int 14] (s ++ [Ob.lst odds]) = .ok (.int v1) s1 := hc1
  have hc2'' : callD P n (k + 1) ("_law_draw", none) [.loc 2, .int 8] s1 = .ok (.int v2) s2 := hc2'
  refine ⟨some (.loc s.length), s2.set c (.lst (ps.set v2 odds[v1])), ps.set v2 odds[v1], ?_, hd2.set _ (by omega) (by omega), List.getElem?_set_self (List.getElem?_eq_some_iff.mp hC2).1, by rw [List.length_set]; exact hl, ?_⟩
  · simp only [oddB]
    clear hw hd hc hd1 hd2 hf1 hf2 hv hl hc1 hc2' hc2 hlt hC1
    trivial
  · rw [List.all_eq_true] at hv ⊢
    intro x hx
    rcases List.mem_or_eq_of_mem_set hx with h | h
    · exact hv x h
    · rw [h]; exact odds_ok _ (List.getElem_mem hv1)
theorem odd_loop {P : Pg} {n k : Nat} (hw : P.fn ("_law_draw", none) = some d__law_draw) (gw : P.gl.has ("_law_draw", none) = true) {c : Nat} (hc2 : 2 < c) (z4 z5 z6 z7 z8 z9 z10 z11 z12 z14 : Option L) : ∀ (xs : List L) (a b : Option L) (s : Store) (ps : List L), Dr 2 1 s → s[c]? = some (.lst ps) → ps.length = 8 → ps.all okV = true →
    ∃ (a' b' : Option L) (s' : Store) (ps' : List L), forFix (frF P.gl (callD P n (k + 1)) n P.er (.nm 3) oddB) xs [some (.loc 0), some (.loc 2), some (.loc c), a, z4, z5, z6, z7, z8, z9, z10, z11, z12, b, z14] s = .nx [some (.loc 0), some (.loc 2), some (.loc c), a', z4, z5, z6, z7, z8, z9, z10, z11, z12, b', z14] s' ∧ Dr 2 1 s' ∧ s'[c]? = some (.lst ps') ∧ ps'.length = 8 ∧ ps'.all okV = true
  | [], a, b, s, ps, h1, h2, h3, h4 => ⟨a, b, s, ps, rfl, h1, h2, h3, h4⟩
  | x :: xs, a, b, s, ps, h1, h2, h3, h4 => by
    obtain ⟨b1, s1, ps1, q1, q2, q3, q4, q5⟩ := odd_turn (P := P) (n := n) (k := k) hw gw h1 h2 hc2 h3 h4 (some x) none z4 z5 z6 z7 z8 z9 z10 z11 z12 b z14
    obtain ⟨a2, b2, s2, ps2, r1, r2⟩ := odd_loop (k := k) hw gw hc2 z4 z5 z6 z7 z8 z9 z10 z11 z12 z14 xs (some x) b1 s1 ps1 q2 q3 q4 q5
    refine ⟨a2, b2, s2, ps2, ?_, r2⟩
    rw [forFix_cons]
    have e0 : frF P.gl (callD P n (k + 1)) n P.er (.nm 3) oddB x [some (.loc 0), some (.loc 2), some (.loc c), a, z4, z5, z6, z7, z8, z9, z10, z11, z12, b, z14] s = denSs P.gl (callD P n (k + 1)) n P.er oddB [some (.loc 0), some (.loc 2), some (.loc c), some x, z4, z5, z6, z7, z8, z9, z10, z11, z12, b, z14] s := rfl
    rw [e0, q1, sFx_nx, r1]
end D
end

section
set_option maxRecDepth 100000
set_option maxHeartbeats 1000000
/-! E0: more of running. -/
namespace D
open PySem DL
section
variable {G : Glb} {F : Fns} {n : Nat} {E : Er}
theorem tru_b (b : Bool) (s : Store) : truM (.bl b) s = .ok b s := rfl
theorem kA_b (b : DE) (e : Env) (x : L) (t : Bool) (s : Store) : kA G F n b e x (.ok t s) = if t = true then den G F n b e s else .ok x s := by cases t <;> rfl
theorem kO_b (b : DE) (e : Env) (x : L) (t : Bool) (s : Store) : kO G F n b e x (.ok t s) = if t = true then .ok x s else den G F n b e s := by cases t <;> rfl
theorem kI_b (a b : DE) (e : Env) (t : Bool) (s : Store) : kI G F n a b e (.ok t s) = if t = true then den G F n a e s else den G F n b e s := by cases t <;> rfl
theorem sIf_b (a b : DSs) (e : Env) (t : Bool) (s : Store) : sIf G F n E a b e (.ok t s) = if t = true then denSs G F n E a e s else denSs G F n E b e s := by cases t <;> rfl
def kC4 (o2 : Bool) (y : L) : R L → R L
  | .ok z s => if o2 then leM y z s else ltM y z s
  | .ex c p s => .ex c p s
  | .bad => .bad
def kC3 (G : Glb) (F : Fns) (n : Nat) (o2 : Bool) (c : DE) (e : Env) (y : L) : R L → R L
  | .ok (.bl true) s => kC4 o2 y (den G F n c e s)
  | .ok v s => .ok v s
  | .ex c p s => .ex c p s
  | .bad => .bad
def kC2 (G : Glb) (F : Fns) (n : Nat) (o1 o2 : Bool) (c : DE) (e : Env) (x : L) : R L → R L
  | .ok y s => kC3 G F n o2 c e y (if o1 then leM x y s else ltM x y s)
  | .ex c p s => .ex c p s
  | .bad => .bad
def kC1 (G : Glb) (F : Fns) (n : Nat) (o1 o2 : Bool) (b c : DE) (e : Env) : R L → R L
  | .ok x s => kC2 G F n o1 o2 c e x (den G F n b e s)
  | .ex c p s => .ex c p s
  | .bad => .bad
theorem ev_chn (o1 o2 : Bool) (a b c : DE) (e : Env) (s : Store) : den G F n (.chn o1 o2 a b c) e s = kC1 G F n o1 o2 b c e (den G F n a e s) := by
  show (den G F n a e >>= fun x => den G F n b e >>= fun y => (if o1 then leM x y else ltM x y) >>= fun v => match v with
    | .bl true => den G F n c e >>= fun z => if o2 then leM y z else ltM y z
    | v => pure v) s = _
  rw [bnd_k1]
  cases den G F n a e s with
  | ok x s1 =>
    show (den G F n b e >>= fun y => (if o1 then leM x y else ltM x y) >>= fun v => match v with
      | .bl true => den G F n c e >>= fun z => if o2 then leM y z else ltM y z
      | v => pure v) s1 = kC2 G F n o1 o2 c e x (den G F n b e s1)
    rw [bnd_k1]
    cases den G F n b e s1 with
    | ok y s2 =>
      show ((if o1 then leM x y else ltM x y) >>= fun v => match v with
        | .bl true => den G F n c e >>= fun z => if o2 then leM y z else ltM y z
        | v => pure v) s2 = kC3 G F n o2 c e y (if o1 then leM x y s2 else ltM x y s2)
      have e1 : (if o1 then leM x y s2 else ltM x y s2) = (if o1 then leM x y else ltM x y) s2 := by cases o1 <;> rfl
      rw [e1, bnd_k1]
      cases (if o1 then leM x y else ltM x y) s2 with
      | ok v s3 =>
        cases v with
        | bl b => cases b with
          | true =>
            show (den G F n c e >>= fun z => if o2 then leM y z else ltM y z) s3 = kC4 o2 y (den G F n c e s3)
            rw [bnd_k1]
            cases den G F n c e s3 with
            | ok z s4 => cases o2 <;> rfl
            | ex c p s4 => rfl
            | bad => rfl
          | false => rfl
        | _ => rfl
      | ex c p s3 => rfl
      | bad => rfl
    | ex c p s2 => rfl
    | bad => rfl
  | ex c p s1 => rfl
  | bad => rfl
theorem kC1_ok (o1 o2 : Bool) (b c : DE) (e : Env) (x : L) (s : Store) : kC1 G F n o1 o2 b c e (.ok x s) = kC2 G F n o1 o2 c e x (den G F n b e s) := rfl
theorem kC2_ok (o1 o2 : Bool) (c : DE) (e : Env) (x y : L) (s : Store) : kC2 G F n o1 o2 c e x (.ok y s) = kC3 G F n o2 c e y (if o1 then leM x y s else ltM x y s) := rfl
theorem kC3_b (o2 : Bool) (c : DE) (e : Env) (y : L) (t : Bool) (s : Store) : kC3 G F n o2 c e y (.ok (.bl t) s) = if t = true then kC4 o2 y (den G F n c e s) else .ok (.bl false) s := by cases t <;> rfl
theorem kC4_ok (o2 : Bool) (y z : L) (s : Store) : kC4 o2 y (.ok z s) = if o2 then leM y z s else ltM y z s := rfl
/-! ### slices -/
def kSh (x : L) (l : Option Int) : R (Option Int) → R L
  | .ok h s => slcM x l h s
  | .ex c p s => .ex c p s
  | .bad => .bad
def pt (G : Glb) (F : Fns) (n : Nat) (o : DO) (e : Env) (s : Store) : R (Option Int) := (denO G F n o e >>= partM) s
def kSl (G : Glb) (F : Fns) (n : Nat) (hi : DO) (e : Env) (x : L) : R (Option Int) → R L
  | .ok l s => kSh x l (pt G F n hi e s)
  | .ex c p s => .ex c p s
  | .bad => .bad
def kS (G : Glb) (F : Fns) (n : Nat) (lo hi : DO) (e : Env) : R L → R L
  | .ok x s => kSl G F n hi e x (pt G F n lo e s)
  | .ex c p s => .ex c p s
  | .bad => .bad
theorem bnd_assoc {α β γ : Type} (x : M α) (f : α → M β) (g : β → M γ) (s : Store) : (x >>= fun a => f a >>= g) s = ((x >>= f) >>= g) s := by
  rw [bnd_k1, bnd_k1, bnd_k1]
  cases x s with
  | ok a s1 =>
    show (f a >>= g) s1 = k1 g (f a s1)
    rw [bnd_k1]
  | ex c p s1 => rfl
  | bad => rfl
theorem ev_slc (a : DE) (lo hi : DO) (e : Env) (s : Store) : den G F n (.slc a lo hi) e s = kS G F n lo hi e (den G F n a e s) := by
  show (den G F n a e >>= fun x => denO G F n lo e >>= fun l => partM l >>= fun l => denO G F n hi e >>= fun h => partM h >>= fun h => slcM x l h) s = _
  rw [bnd_k1]
  cases den G F n a e s with
  | ok x s1 =>
    show (denO G F n lo e >>= fun l => partM l >>= fun l => denO G F n hi e >>= fun h => partM h >>= fun h => slcM x l h) s1 = kSl G F n hi e x (pt G F n lo e s1)
    rw [bnd_assoc, bnd_k1]
    show k1 _ (pt G F n lo e s1) = _
    cases pt G F n lo e s1 with
    | ok l s2 =>
      show (denO G F n hi e >>= fun h => partM h >>= fun h => slcM x l h) s2 = kSh x l (pt G F n hi e s2)
      rw [bnd_assoc, bnd_k1]
      show k1 _ (pt G F n hi e s2) = _
      cases pt G F n hi e s2 <;> rfl
    | ex c p s2 => rfl
    | bad => rfl
  | ex c p s1 => rfl
  | bad => rfl
theorem kS_ok (lo hi : DO) (e : Env) (x : L) (s : Store) : kS G F n lo hi e (.ok x s) = kSl G F n hi e x (pt G F n lo e s) := rfl
theorem kSl_ok (hi : DO) (e : Env) (x : L) (l : Option Int) (s : Store) : kSl G F n hi e x (.ok l s) = kSh x l (pt G F n hi e s) := rfl
theorem kSh_ok (x : L) (l h : Option Int) (s : Store) : kSh x l (.ok h s) = slcM x l h s := rfl
def ptI : R L → R (Option Int)
  | .ok (.int i) s => .ok (some i) s
  | .ok _ _ => .bad
  | .ex c p s => .ex c p s
  | .bad => .bad
theorem pt_non (e : Env) (s : Store) : pt G F n .non e s = .ok none s := rfl
theorem pt_som (a : DE) (e : Env) (s : Store) : pt G F n (.som a) e s = ptI (den G F n a e s) := by
  show ((den G F n a e >>= fun x => pure (some x)) >>= partM) s = _
  rw [bnd_k1, bnd_k1]
  cases den G F n a e s with
  | ok x s1 => cases x <;> rfl
  | ex c p s1 => rfl
  | bad => rfl
theorem ptI_ok (i : Int) (s : Store) : ptI (.ok (.int i) s) = .ok (some i) s := rfl
theorem o_slcT (xs : List L) (l h : Option Int) (s : Store) : slcM (.tup xs) l h s = .ok (.tup (cutL xs l h)) s := rfl
def slcG (l h : Option Int) (s : Store) : Option Ob → R L
  | some (.lst xs) => .ok (.loc s.length) (s ++ [.lst (cutL xs l h)])
  | _ => .bad
theorem o_slcL (c : Nat) (l h : Option Int) (s : Store) : slcM (.loc c) l h s = slcG l h s s[c]? := by
  show (slcX (.loc c) l h >>= fun xs => alloc (.lst xs)) s = _
  rw [bnd_k1]
  have e1 : slcX (.loc c) l h s = (match s[c]? with
    | some (.lst xs) => .ok (cutL xs l h) s
    | _ => .bad) := by
    show (getC c >>= _) s = _
    cases q : s[c]? with
    | none => rw [bnd_bad (getC_no q)]
    | some o =>
      rw [bnd_ok (getC_at q)]
      cases o <;> rfl
  rw [e1]
  cases s[c]? with
  | none => rfl
  | some o => cases o <;> rfl
theorem slcG_l (l h : Option Int) (s : Store) (xs : List L) : slcG l h s (some (.lst xs)) = .ok (.loc s.length) (s ++ [.lst (cutL xs l h)]) := rfl
/-! ### storing into several names -/
def sSt (s : Store) : Option Env → RS
  | some e => .nx e s
  | none => .bad
theorem sSetT_k (is : List Nat) (e : Env) (v : L) (s : Store) : sSetT is e (.ok v s) = sSt s (setT (.tp is) v e) := by
  unfold sSetT
  simp only
  cases setT (.tp is) v e <;> rfl
theorem sSt_s (s : Store) (e : Env) : sSt s (some e) = .nx e s := rfl
theorem setT_tp (is : List Nat) (vs : List L) (e : Env) : setT (.tp is) (.tup vs) e = setAll is vs e := rfl
theorem setT_nm (i : Nat) (v : L) (e : Env) : setT (.nm i) v e = some (e.set i (some v)) := rfl
theorem setAll_n (e : Env) : setAll [] [] e = some e := rfl
theorem setAll_c (i : Nat) (is : List Nat) (v : L) (vs : List L) (e : Env) : setAll (i :: is) (v :: vs) e = setAll is vs (e.set i (some v)) := rfl
def sPar2 (i j : Nat) (e : Env) (v : L) : R L → RS
  | .ok w s => .nx ((e.set i (some v)).set j (some w)) s
  | .ex c p s => .ex c p e s
  | .bad => .bad
def sPar1 (G : Glb) (F : Fns) (n : Nat) (i j : Nat) (b : DE) (e : Env) : R L → RS
  | .ok v s => sPar2 i j e v (den G F n b e s)
  | .ex c p s => .ex c p e s
  | .bad => .bad
theorem es_par (i j : Nat) (a b : DE) (e : Env) (s : Store) : denS G F n E (.par i j a b) e s = sPar1 G F n i j b e (den G F n a e s) := by
  show RS.of e (den G F n a e s) _ = _
  cases den G F n a e s with
  | ok v s1 =>
    show RS.of e (den G F n b e s1) _ = sPar2 i j e v (den G F n b e s1)
    cases den G F n b e s1 <;> rfl
  | ex c p s1 => rfl
  | bad => rfl
theorem sPar1_ok (i j : Nat) (b : DE) (e : Env) (v : L) (s : Store) : sPar1 G F n i j b e (.ok v s) = sPar2 i j e v (den G F n b e s) := rfl
theorem sPar2_ok (i j : Nat) (e : Env) (v w : L) (s : Store) : sPar2 i j e v (.ok w s) = .nx ((e.set i (some v)).set j (some w)) s := rfl
/-! ### append -/
theorem ev_append (o v : DE) (e : Env) (s : Store) : den G F n (.bm .append o (.cons v .nil)) e s = kApp G F n v e (den G F n o e s) := by
  show (den G F n o e >>= fun x => bmK .append x >>= fun _ => (den G F n v e >>= fun y => (pure [] : M (List L)) >>= fun ys => pure (y :: ys)) >>= fun vs => bmM G.kd .append x vs) s = _
  rw [bnd_k1]
  cases den G F n o e s with
  | ok x s1 =>
    cases x with
    | loc c =>
      show (bmK .append (.loc c) >>= fun _ => (den G F n v e >>= fun y => (pure [] : M (List L)) >>= fun ys => pure (y :: ys)) >>= fun vs => bmM G.kd .append (.loc c) vs) s1 = (match s1[c]? with
        | some (.lst _) => (match den G F n v e s1 with
          | .ok y s1 => appG c y s1 s1[c]?
          | .ex c p s => .ex c p s
          | .bad => .bad)
        | _ => .bad)
      rw [bnd_k1]
      have e1 : bmK .append (.loc c) s1 = (match s1[c]? with
        | some (.lst _) => .ok () s1
        | _ => .bad) := by
        show (getC c >>= _) s1 = _
        cases q : s1[c]? with
        | none => rw [bnd_bad (getC_no q)]
        | some o =>
          rw [bnd_ok (getC_at q)]
          cases o <;> rfl
      rw [e1]
      cases s1[c]? with
      | none => rfl
      | some ob =>
        cases ob with
        | lst xs =>
          show ((den G F n v e >>= fun y => (pure [] : M (List L)) >>= fun ys => pure (y :: ys)) >>= fun vs => bmM G.kd .append (.loc c) vs) s1 = (match den G F n v e s1 with
            | .ok y s1 => appG c y s1 s1[c]?
            | .ex c p s => .ex c p s
            | .bad => .bad)
          rw [bnd_k1, bnd_k1]
          cases den G F n v e s1 with
          | ok y s2 =>
            show bmM G.kd .append (.loc c) [y] s2 = appG c y s2 s2[c]?
            show (getC c >>= _) s2 = _
            cases q : s2[c]? with
            | none => rw [bnd_bad (getC_no q)]; rfl
            | some o =>
              rw [bnd_ok (getC_at q)]
              cases o with
              | lst ys =>
                show (if ys.length < szMax then (putC c (.lst (ys ++ [y])) >>= fun _ => pure L.non) else die) s2 = (if ys.length < szMax then R.ok L.non (s2.set c (.lst (ys ++ [y]))) else .bad)
                by_cases hz : ys.length < szMax
                · rw [if_pos hz, if_pos hz]; rfl
                · rw [if_neg hz, if_neg hz]; rfl
              | _ => rfl
          | ex c p s2 => rfl
          | bad => rfl
        | _ => rfl
    | _ => rfl
  | ex c p s1 => rfl
  | bad => rfl
def kApp3 (c : Nat) : R L → R L
  | .ok y s1 => appG c y s1 s1[c]?
  | .ex c p s => .ex c p s
  | .bad => .bad
def kApp2 (G : Glb) (F : Fns) (n : Nat) (v : DE) (e : Env) (c : Nat) (s : Store) : Option Ob → R L
  | some (.lst _) => kApp3 c (den G F n v e s)
  | _ => .bad
theorem kApp_ok (v : DE) (e : Env) (c : Nat) (s : Store) : kApp G F n v e (.ok (.loc c) s) = kApp2 G F n v e c s s[c]? := by
  show (match s[c]? with
    | some (.lst _) => (match den G F n v e s with
      | .ok y s1 => appG c y s1 s1[c]?
      | .ex c p s => .ex c p s
      | .bad => .bad)
    | _ => .bad) = _
  cases s[c]? with
  | none => rfl
  | some o => cases o with
    | lst xs => show _ = kApp3 c (den G F n v e s); cases den G F n v e s <;> rfl
    | _ => rfl
theorem kApp2_l (v : DE) (e : Env) (c : Nat) (s : Store) (xs : List L) : kApp2 G F n v e c s (some (.lst xs)) = kApp3 c (den G F n v e s) := rfl
theorem kApp3_ok (c : Nat) (y : L) (s : Store) : kApp3 c (.ok y s) = appG c y s s[c]? := rfl
theorem appG_l (c : Nat) (v : L) (s : Store) (xs : List L) (h : xs.length < szMax) : appG c v s (some (.lst xs)) = .ok .non (s.set c (.lst (xs ++ [v]))) := if_pos h
theorem o_lcO (xs : List L) (s : Store) : lcO xs s = .ok (.loc s.length) (s ++ [.lst xs]) := rfl
theorem dspO_5 (vs : List L) (s : Store) (h : vs.length ≤ 16777216) : dspO vs s = .ok vs s := if_pos h
theorem o_ixO (xs : List L) (i : Int) (s : Store) : ixO xs (.int i) s = ofO (L2.atI xs i) s := rfl
theorem appG_5 (c : Nat) (v : L) (s : Store) (xs : List L) (h : xs.length < 16777216) : appG c v s (some (.lst xs)) = .ok .non (s.set c (.lst (xs ++ [v]))) := if_pos h
/-! ### comprehensions, turn by turn -/
def xLc (G : Glb) (F : Fns) (n : Nat) (own : List Nat) (t : DT) (c : DO) (x : DE) (e : Env) : R Src → R (List L)
  | .ok src s => szd (noEx (mapSrc n (lcF G F n own t c x e) src)) s
  | .ex c p s => .ex c p s
  | .bad => .bad
theorem evX_lc0 (own : List Nat) (t : DT) (it : DI) (c : DO) (x : DE) (e : Env) (s : Store) : denX G F n (.lc own t it c x) e s = xLc G F n own t c x e (denI G F n it e s) := by
  show (denI G F n it e >>= fun src => szd (noEx (mapSrc n (lcF G F n own t c x e) src))) s = _
  rw [bnd_k1]
  cases denI G F n it e s <;> rfl
/-- a walk over what stands, each turn with nothing but its items -/
theorem mapFix_p {α : Type} {f : L → M (List α)} {g : L → List α} {s : Store} : ∀ {xs : List L}, (∀ x ∈ xs, f x s = .ok (g x) s) → mapFix f xs s = .ok (xs.flatMap g) s
  | [], _ => rfl
  | x :: xs, h => by
    show (f x >>= fun a => mapFix f xs >>= fun r => pure (a ++ r)) s = _
    rw [bnd_ok (h x List.mem_cons_self), bnd_ok (mapFix_p fun y hy => h y (List.mem_cons_of_mem _ hy))]
    rfl
theorem xLc_fix {own : List Nat} {t : DT} {c : DO} {x : DE} {e : Env} {xs : List L} {s : Store} (g : L → List L) (h : ∀ v ∈ xs, lcF G F n own t c x e v s = .ok (g v) s) (hz : (xs.flatMap g).length ≤ szMax) : xLc G F n own t c x e (.ok (.fix xs) s) = .ok (xs.flatMap g) s := by
  show (noEx (mapFix (lcF G F n own t c x e) xs) >>= fun xs => if xs.length ≤ szMax then pure xs else die) s = _
  have e1 : noEx (mapFix (lcF G F n own t c x e) xs) s = .ok (xs.flatMap g) s := by
    unfold noEx
    rw [mapFix_p h]
  rw [bnd_ok e1, if_pos hz]
  rfl
theorem mapDyn_p {α : Type} {f : L → M (List α)} {g : L → List α} {s : Store} {c n : Nat} {xs : List L} (hc : s[c]? = some (.lst xs)) (hn : xs.length < n) (h : ∀ x ∈ xs, f x s = .ok (g x) s) : mapDyn f c n 0 s = .ok (xs.flatMap g) s := by
  obtain ⟨r, s', hm, h1, h2⟩ := mapDyn_inv (f := f) (c := c) (xs := xs) (fun i acc s' => s' = s ∧ acc = (xs.take i).flatMap g) (fun i a s' hi => by rw [hi.1]; exact hc)
    (fun i x acc s' hx hi => by
      obtain ⟨rfl, rfl⟩ := hi
      have hlt := (List.getElem?_eq_some_iff.mp hx).1
      have hxe := (List.getElem?_eq_some_iff.mp hx).2
      refine ⟨g x, s', h x (hxe ▸ List.getElem_mem hlt), rfl, ?_⟩
      rw [← List.take_append_getElem hlt, List.flatMap_append, hxe, List.flatMap_singleton])
    n 0 [] s (by omega) (Nat.zero_le _) ⟨rfl, rfl⟩
  rw [hm, h1]
  rw [List.nil_append, List.take_length] at h2
  rw [h2]
theorem xLc_dyn {own : List Nat} {t : DT} {c : DO} {x : DE} {e : Env} {k : Nat} {xs : List L} {s : Store} (g : L → List L) (hc : s[k]? = some (.lst xs)) (hn : xs.length < n) (h : ∀ v ∈ xs, lcF G F n own t c x e v s = .ok (g v) s) (hz : (xs.flatMap g).length ≤ szMax) : xLc G F n own t c x e (.ok (.dyn k) s) = .ok (xs.flatMap g) s := by
  show (noEx (mapDyn (lcF G F n own t c x e) k n 0) >>= fun xs => if xs.length ≤ szMax then pure xs else die) s = _
  have e1 : noEx (mapDyn (lcF G F n own t c x e) k n 0) s = .ok (xs.flatMap g) s := by
    unfold noEx
    rw [mapDyn_p hc hn h]
  rw [bnd_ok e1, if_pos hz]
  rfl
theorem mapFix_m {α β : Type} {f : L → M (List α)} {g : β → L} {h : β → List α} {s : Store} : ∀ {ms : List β}, (∀ m ∈ ms, f (g m) s = .ok (h m) s) → mapFix f (ms.map g) s = .ok (ms.flatMap h) s
  | [], _ => rfl
  | x :: xs, q => by
    show (f (g x) >>= fun a => mapFix f (xs.map g) >>= fun r => pure (a ++ r)) s = _
    rw [bnd_ok (q x List.mem_cons_self), bnd_ok (mapFix_m fun y hy => q y (List.mem_cons_of_mem _ hy))]
    rfl
theorem fm_sg {α β : Type} (h : β → α) : ∀ ms : List β, (ms.flatMap fun m => [h m]) = ms.map h
  | [] => rfl
  | m :: ms => by rw [List.flatMap_cons, fm_sg h ms]; rfl
theorem fm_if {β : Type} (p : β → Bool) (h : β → L) : ∀ ms : List β, (ms.flatMap fun m => if p m = true then [h m] else []) = (ms.filter p).map h
  | [] => rfl
  | m :: ms => by
    rw [List.flatMap_cons, fm_if p h ms, List.filter_cons]
    cases p m <;> rfl
/-- a comprehension over what stands: an item each -/
theorem xLc_map {β : Type} {own : List Nat} {t : DT} {c : DO} {x : DE} {e : Env} {s : Store} {g : β → L} {ms : List β} (h : β → L) (q : ∀ m ∈ ms, lcF G F n own t c x e (g m) s = .ok [h m] s) (hz : ms.length ≤ 16777216) : xLc G F n own t c x e (.ok (.fix (ms.map g)) s) = .ok (ms.map h) s := by
  show (noEx (mapFix (lcF G F n own t c x e) (ms.map g)) >>= fun xs => if xs.length ≤ szMax then pure xs else die) s = _
  have e1 : noEx (mapFix (lcF G F n own t c x e) (ms.map g)) s = .ok (ms.map h) s := by
    unfold noEx
    rw [mapFix_m (h := fun m => [h m]) q, fm_sg]
  rw [bnd_ok e1, if_pos (by rw [List.length_map]; exact hz)]
  rfl
/-- those that fit -/
theorem xLc_fil {β : Type} {own : List Nat} {t : DT} {c : DO} {x : DE} {e : Env} {s : Store} {g : β → L} {ms : List β} (p : β → Bool) (h : β → L) (q : ∀ m ∈ ms, lcF G F n own t c x e (g m) s = .ok (if p m = true then [h m] else []) s) (hz : ms.length ≤ 16777216) : xLc G F n own t c x e (.ok (.fix (ms.map g)) s) = .ok ((ms.filter p).map h) s := by
  show (noEx (mapFix (lcF G F n own t c x e) (ms.map g)) >>= fun xs => if xs.length ≤ szMax then pure xs else die) s = _
  have e1 : noEx (mapFix (lcF G F n own t c x e) (ms.map g)) s = .ok ((ms.filter p).map h) s := by
    unfold noEx
    rw [mapFix_m (h := fun m => if p m = true then [h m] else []) q, fm_if]
  rw [bnd_ok e1, if_pos (by rw [List.length_map]; exact Nat.le_trans (List.length_filter_le _ _) hz)]
  rfl
theorem mapDyn_m {α β : Type} {f : L → M (List α)} {g : β → L} {h : β → List α} {s : Store} {c n : Nat} {ms : List β} (hc : s[c]? = some (.lst (ms.map g))) (hn : ms.length < n) (q : ∀ m ∈ ms, f (g m) s = .ok (h m) s) : mapDyn f c n 0 s = .ok (ms.flatMap h) s := by
  obtain ⟨r, s', hm, h1, h2⟩ := mapDyn_inv (f := f) (c := c) (xs := ms.map g) (fun i acc s' => s' = s ∧ acc = (ms.take i).flatMap h) (fun i a s' hi => by rw [hi.1]; exact hc)
    (fun i x acc s' hx hi => by
      obtain ⟨rfl, rfl⟩ := hi
      rw [List.getElem?_map] at hx
      cases hm : ms[i]? with
      | none => rw [hm] at hx; cases hx
      | some m =>
        rw [hm] at hx
        cases hx
        have hlt := (List.getElem?_eq_some_iff.mp hm).1
        have hxe := (List.getElem?_eq_some_iff.mp hm).2
        refine ⟨h m, s', q m (hxe ▸ List.getElem_mem hlt), rfl, ?_⟩
        rw [← List.take_append_getElem hlt, List.flatMap_append, hxe, List.flatMap_singleton])
    n 0 [] s (by rw [List.length_map]; omega) (Nat.zero_le _) ⟨rfl, rfl⟩
  rw [hm, h1]
  rw [List.nil_append, List.length_map, List.take_length] at h2
  rw [h2]
theorem xLc_mapD {β : Type} {own : List Nat} {t : DT} {c : DO} {x : DE} {e : Env} {s : Store} {k : Nat} {g : β → L} {ms : List β} (hc : s[k]? = some (.lst (ms.map g))) (hn : ms.length < n) (h : β → L) (q : ∀ m ∈ ms, lcF G F n own t c x e (g m) s = .ok [h m] s) (hz : ms.length ≤ 16777216) : xLc G F n own t c x e (.ok (.dyn k) s) = .ok (ms.map h) s := by
  show (noEx (mapDyn (lcF G F n own t c x e) k n 0) >>= fun xs => if xs.length ≤ szMax then pure xs else die) s = _
  have e1 : noEx (mapDyn (lcF G F n own t c x e) k n 0) s = .ok (ms.map h) s := by
    unfold noEx
    rw [mapDyn_m (h := fun m => [h m]) hc hn q, fm_sg]
  rw [bnd_ok e1, if_pos (by rw [List.length_map]; exact hz)]
  rfl
theorem xLc_filD {β : Type} {own : List Nat} {t : DT} {c : DO} {x : DE} {e : Env} {s : Store} {k : Nat} {g : β → L} {ms : List β} (hc : s[k]? = some (.lst (ms.map g))) (hn : ms.length < n) (p : β → Bool) (h : β → L) (q : ∀ m ∈ ms, lcF G F n own t c x e (g m) s = .ok (if p m = true then [h m] else []) s) (hz : ms.length ≤ 16777216) : xLc G F n own t c x e (.ok (.dyn k) s) = .ok ((ms.filter p).map h) s := by
  show (noEx (mapDyn (lcF G F n own t c x e) k n 0) >>= fun xs => if xs.length ≤ szMax then pure xs else die) s = _
  have e1 : noEx (mapDyn (lcF G F n own t c x e) k n 0) s = .ok ((ms.filter p).map h) s := by
    unfold noEx
    rw [mapDyn_m (h := fun m => if p m = true then [h m] else []) hc hn q, fm_if]
  rw [bnd_ok e1, if_pos (by rw [List.length_map]; exact Nat.le_trans (List.length_filter_le _ _) hz)]
  rfl
def sg1 : R L → R (List L)
  | .ok y s => .ok [y] s
  | .ex c p s => .ex c p s
  | .bad => .bad
theorem sg1_ok (y : L) (s : Store) : sg1 (.ok y s) = .ok [y] s := rfl
/-- a walk with what it carries: env and store told by it -/
theorem forFix_run {β σ : Type} {f : L → Env → Store → RS} {g : β → L} (st : σ → Env) (sr : σ → Store) (stp : σ → β → σ) (I : List β → σ → Prop) (h : ∀ m ms a, I (m :: ms) a → f (g m) (st a) (sr a) = .nx (st (stp a m)) (sr (stp a m)) ∧ I ms (stp a m)) :
    ∀ (ms : List β) (a : σ), I ms a → forFix f (ms.map g) (st a) (sr a) = .nx (st (ms.foldl stp a)) (sr (ms.foldl stp a)) ∧ I [] (ms.foldl stp a)
  | [], a, i => ⟨rfl, i⟩
  | m :: ms, a, i => by
    obtain ⟨h1, h2⟩ := h m ms a i
    obtain ⟨h3, h4⟩ := forFix_run st sr stp I h ms (stp a m) h2
    exact ⟨by rw [List.map_cons, forFix_cons, h1, sFx_nx, h3]; rfl, h4⟩
theorem forDyn_run {β σ : Type} {f : L → Env → Store → RS} {c : Nat} {g : β → L} (all : List β) (st : σ → Env) (sr : σ → Store) (stp : σ → β → σ) (I : List β → σ → Prop) (hc : ∀ ms a, I ms a → (sr a)[c]? = some (.lst (all.map g))) (h : ∀ m ms a, I (m :: ms) a → f (g m) (st a) (sr a) = .nx (st (stp a m)) (sr (stp a m)) ∧ I ms (stp a m)) :
    ∀ (ms pre : List β) (a : σ) (k : Nat), all = pre ++ ms → ms.length < k → I ms a → forDyn f c k pre.length (st a) (sr a) = .nx (st (ms.foldl stp a)) (sr (ms.foldl stp a)) ∧ I [] (ms.foldl stp a)
  | _, _, _, 0, _, hk, _ => absurd hk (Nat.not_lt_zero _)
  | [], pre, a, k + 1, e, _, i => by
    refine ⟨?_, i⟩
    show (match (sr a)[c]? with
      | some (.lst xs) => (match xs[pre.length]? with
        | some x => (match f x (st a) (sr a) with
          | .nx e' s' => forDyn f c k (pre.length + 1) e' s'
          | r => r)
        | none => .nx (st a) (sr a))
      | _ => .bad) = _
    have e1 : (all.map g)[pre.length]? = none := List.getElem?_eq_none (by rw [e, List.append_nil, List.length_map]; exact Nat.le_refl _)
    rw [hc _ a i]
    simp only [e1]
    rfl
  | m :: ms, pre, a, k + 1, e, hk, i => by
    obtain ⟨h1, h2⟩ := h m ms a i
    obtain ⟨h3, h4⟩ := forDyn_run all st sr stp I hc h ms (pre ++ [m]) (stp a m) k (by rw [e, List.append_assoc]; rfl) (by simp only [List.length_cons] at hk; omega) h2
    refine ⟨?_, h4⟩
    show (match (sr a)[c]? with
      | some (.lst xs) => (match xs[pre.length]? with
        | some x => (match f x (st a) (sr a) with
          | .nx e' s' => forDyn f c k (pre.length + 1) e' s'
          | r => r)
        | none => .nx (st a) (sr a))
      | _ => .bad) = _
    have e1 : (all.map g)[pre.length]? = some (g m) := by
      rw [e, List.map_append, List.getElem?_append_right (by rw [List.length_map]; exact Nat.le_refl _), List.length_map, Nat.sub_self]
      rfl
    rw [hc _ a i]
    simp only [e1, h1]
    rw [List.length_append] at h3
    exact h3
def lcT (G : Glb) (F : Fns) (n : Nat) (x : DE) (e : Env) : R Bool → R (List L)
  | .ok t s => if t = true then sg1 (den G F n x e s) else .ok [] s
  | .ex c p s => .ex c p s
  | .bad => .bad
def cnd (G : Glb) (F : Fns) (n : Nat) (c : DO) (e : Env) (s : Store) : R Bool := denC G F n c e s
def lcE (G : Glb) (F : Fns) (n : Nat) (c : DO) (x : DE) (s : Store) : Option Env → R (List L)
  | some e => lcT G F n x e (cnd G F n c e s)
  | none => .bad
theorem lcF_ev (own : List Nat) (t : DT) (c : DO) (x : DE) (e : Env) (v : L) (s : Store) : lcF G F n own t c x e v s = lcE G F n c x s (setT t v (wipe e own)) := by
  unfold lcF lcE
  cases setT t v (wipe e own) with
  | none => rfl
  | some e' =>
    show (denC G F n c e' >>= fun t => if t = true then (den G F n x e' >>= fun y => pure [y]) else pure []) s = lcT G F n x e' (denC G F n c e' s)
    rw [bnd_k1]
    cases denC G F n c e' s with
    | ok t s1 =>
      cases t with
      | true =>
        show (den G F n x e' >>= fun y => pure [y]) s1 = sg1 (den G F n x e' s1)
        rw [bnd_k1]
        cases den G F n x e' s1 <;> rfl
      | false => rfl
    | ex c p s1 => rfl
    | bad => rfl
theorem lcE_s (c : DO) (x : DE) (s : Store) (e : Env) : lcE G F n c x s (some e) = lcT G F n x e (cnd G F n c e s) := rfl
theorem cnd_non (e : Env) (s : Store) : cnd G F n .non e s = .ok true s := rfl
theorem cnd_som (a : DE) (e : Env) (s : Store) : cnd G F n (.som a) e s = k1 truM (den G F n a e s) := by
  show (den G F n a e >>= truM) s = _
  rw [bnd_k1]
theorem lcT_ok (x : DE) (e : Env) (t : Bool) (s : Store) : lcT G F n x e (.ok t s) = if t = true then sg1 (den G F n x e s) else .ok [] s := rfl
theorem wipe_n (e : Env) : wipe e [] = e := rfl
theorem wipe_c (e : Env) (v : Nat) (vs : List Nat) : wipe e (v :: vs) = (wipe e vs).set v none := rfl
end
/-! ### the store -/
theorem sl_app {s g : Store} {i : Nat} (h : i < s.length) : (s ++ g)[i]? = s[i]? := List.getElem?_append_left h
theorem sl_new {s g : Store} {i : Nat} (h : s.length ≤ i) : (s ++ g)[i]? = g[i - s.length]? := List.getElem?_append_right h
theorem ss_app {s g : Store} {i : Nat} {o : Ob} (h : i < s.length) : (s ++ g).set i o = s.set i o ++ g := List.set_append_left i o h
theorem ss_new {s g : Store} {i : Nat} {o : Ob} (h : s.length ≤ i) : (s ++ g).set i o = s ++ g.set (i - s.length) o := List.set_append_right i o h
theorem sl_set {s : Store} {i j : Nat} {o : Ob} (h : i ≠ j) : (s.set i o)[j]? = s[j]? := List.getElem?_set_ne h
theorem sl_self {s : Store} {i : Nat} {o : Ob} (h : i < s.length) : (s.set i o)[i]? = some o := List.getElem?_set_self h
theorem at_lt {s : Store} {i : Nat} {o : Ob} (h : s[i]? = some o) : i < s.length := (List.getElem?_eq_some_iff.mp h).1
theorem fin_app {s g : Store} {v : L} (h : noLoc v = true) : fin s (.rt v (s ++ g)) = .ok v s := gcR_app h
theorem fin_here {s : Store} {v : L} (h : noLoc v = true) : fin s (.rt v s) = .ok v s := by
  have := fin_app (s := s) (g := []) h
  rwa [List.append_nil] at this
theorem finn_app {s g : Store} {e : Env} : fin s (.nx e (s ++ g)) = .ok .non s := gcR_app rfl
theorem finn_here {s : Store} {e : Env} : fin s (.nx e s) = .ok .non s := by
  have := finn_app (s := s) (g := []) (e := e)
  rwa [List.append_nil] at this
/-- a list of plain things is all that is kept -/
theorem fin_list {s g : Store} {k : Nat} {xs : List L} (hk : (s ++ g)[k]? = some (.lst xs)) (hl : s.length ≤ k) (h : noLocs xs = true) : fin s (.rt (.loc k) (s ++ g)) = .ok (.loc s.length) (s ++ [.lst xs]) := by
  show gcR _ _ _ = _
  unfold gcR
  rw [if_pos (take_app s _), if_neg (by show ¬ (false = true); decide)]
  simp only [hk]
  rw [if_pos (by rw [decide_eq_true hl, h]; rfl)]
/-- something was changed -/
theorem gcR_mut {s s1 g : Store} {v : L} (h : noLoc v = true) (hl : s1.length = s.length) : ∃ g', gcR s v (s1 ++ g) = .ok v (s1 ++ g') := by
  unfold gcR
  by_cases q : (s1 ++ g).take s.length = s
  · rw [if_pos q, if_pos h]
    have : s1 = s := by
      rw [← hl, List.take_left] at q
      exact q
    exact ⟨[], by rw [List.append_nil, this]⟩
  · rw [if_neg q]
    exact ⟨g, rfl⟩
theorem fin_mut {s s1 g : Store} {v : L} (h : noLoc v = true) (hl : s1.length = s.length) : ∃ g', fin s (.rt v (s1 ++ g)) = .ok v (s1 ++ g') := gcR_mut h hl
theorem finn_mut {s s1 g : Store} {e : Env} (hl : s1.length = s.length) : ∃ g', fin s (.nx e (s1 ++ g)) = .ok .non (s1 ++ g') := gcR_mut rfl hl
theorem cutL_to {xs : List L} {i : Nat} (h : i ≤ xs.length) : cutL xs none (some (i : Int)) = xs.take i := by
  unfold cutL
  have e1 : HT.sIx xs.length 0 none = 0 := rfl
  have e2 : HT.sIx xs.length xs.length (some (i : Int)) = i := by rw [HT.sIx_nat]; omega
  rw [e1, e2]
  rfl
theorem cutL_from {xs : List L} {i : Nat} (h : i ≤ xs.length) : cutL xs (some (i : Int)) none = xs.drop i := by
  unfold cutL
  have e1 : HT.sIx xs.length 0 (some (i : Int)) = i := by rw [HT.sIx_nat]; omega
  have e2 : HT.sIx xs.length xs.length none = xs.length := rfl
  rw [e1, e2, List.take_of_length_le (by rw [List.length_drop]; exact Nat.le_refl _)]
end D
end

section
/-! E1: the sums, in plain numbers. -/
namespace HP
inductive Lt where
  | refused | agreed | taken
  deriving DecidableEq, Inhabited
inductive By where
  | refused | cut | taken
  deriving DecidableEq, Inhabited
structure Rl where
  once : Bool
  late : Lt
  bey : By
  stays : Bool
  giv : Bool
  rest : Bool
  word : Bool
  spent : Bool
  deriving DecidableEq, Inhabited
structure Msg where
  give : Bool
  sum : Int
  times : Int
  deriving DecidableEq, Inhabited
structure St where
  ag : Int
  h : Int
  tk : Int
  gv : Int
  age : Option Int
  mail : List Msg
  deriving DecidableEq, Inhabited
inductive Dd where
  | send (g : Bool) (a : Int) | come (n : Nat) | tick | release | renew | raise | lower
  deriving DecidableEq, Inhabited
def St.net (x : St) : Int := x.tk - x.gv
def start (a : Int) : St := ⟨a, a, 0, 0, some 0, []⟩
def openS (r : Rl) (h t g a : Int) : Int × Int × Int :=
  if a ≤ h then (h - a, t + a, g) else match r.bey with
    | .refused => (h, t, g)
    | .cut => (0, t + h, g)
    | .taken => (0, t + a, g)
def lateS (r : Rl) (ag h t g a : Int) : Int × Int × Int := match r.late with
  | .refused => (h, t, g)
  | .agreed => (h, t + max (min a (ag - (t - g))) 0, g)
  | .taken => (h, t + a, g)
def part (r : Rl) (t g a : Int) : Int := if r.giv then a else max (min a (t - g)) 0
def giveS (r : Rl) (o : Bool) (h t g a : Int) : Int × Int × Int := (h + (if o && !r.stays then part r t g a else 0), t, g + part r t g a)
def St.wth (x : St) (p : Int × Int × Int) : St := { x with h := p.1, tk := p.2.1, gv := p.2.2 }
def cameS (r : Rl) (x : St) (m : Msg) : Int × Int × Int := if m.give then giveS r x.age.isSome x.h x.tk x.gv m.sum else match x.age with
  | none => lateS r x.ag x.h x.tk x.gv m.sum
  | some _ => openS r x.h x.tk x.gv m.sum
def bump (m : Msg) : Msg := { m with times := m.times + 1 }
def come1 (r : Rl) (x : St) (n : Nat) (m : Msg) : St :=
  { (if m.times = 0 ∨ r.once = false then x.wth (cameS r x m) else x) with mail := x.mail.set n (bump m) }
def once1 (m : Msg) : Msg := { m with times := max m.times 1 }
def behind (r : Rl) (life : Int) (x : St) : Dd → Option St
  | .send g a => some { x with mail := x.mail ++ [⟨g, a, 0⟩] }
  | .come n => match x.mail[n]? with
    | none => none
    | some m => some (come1 r x n m)
  | .tick => match x.age with
    | none => none
    | some a => some (if a + 1 < life then { x with age := some (a + 1) } else { x with h := 0, age := none })
  | .release => match x.age with
    | none => none
    | some _ => some { x with h := 0, age := none, mail := if r.spent then x.mail.map once1 else x.mail }
  | .renew => some { x with h := if r.rest then max (x.ag - (x.tk - x.gv)) 0 else x.ag, age := some 0 }
  | .raise => some { x with ag := x.ag + 1, h := x.h + (if x.age.isNone then 0 else 1) }
  | .lower => if x.ag = 0 then none else some { x with ag := x.ag - 1, h := if r.word then x.h else max (x.h - 1) 0 }
def stepO (r : Rl) (life : Int) (x : St) (d : Dd) : St := (behind r life x d).getD x
def isCome : Dd → Bool
  | .come _ => true
  | _ => false
def timesAt (x : St) : Dd → Int
  | .come n => ((x.mail[n]?).map Msg.times).getD 0
  | _ => 0
/-- the i-th fault comes with a deed from x to y -/
def flt (x : St) (d : Dd) (y : St) : Nat → Bool
  | 0 => decide (y.ag < y.tk - y.gv) && decide (x.tk < y.tk)
  | 1 => isCome d && (decide (0 < timesAt x d) && (decide (x.tk < y.tk) || decide (x.gv < y.gv)))
  | 2 => isCome d && (decide (timesAt x d = 0) && (decide (y.tk = x.tk) && decide (y.gv = x.gv)))
  | 3 => decide (x.gv < y.gv) && decide (y.tk < y.gv)
  | 4 => decide (0 < y.h) && decide (y.ag - (y.tk - y.gv) < y.h)
  | _ => false
def faults (r : Rl) (life : Int) (x : St) (d : Dd) : List Nat := match behind r life x d with
  | none => []
  | some y => [0, 1, 2, 3, 4].filter (flt x d y)
/-- what holds of every standing -/
structure Ok (life : Int) (x : St) : Prop where
  ag : 0 ≤ x.ag
  h : 0 ≤ x.h
  age : ∀ a, x.age = some a → 0 ≤ a ∧ a < life
  mail : ∀ m ∈ x.mail, 1 ≤ m.sum ∧ 0 ≤ m.times
def DOk : Dd → Prop
  | .send _ a => 1 ≤ a
  | _ => True
theorem start_ok {life a : Int} (h : 0 ≤ a) (hl : 0 < life) : Ok life (start a) := ⟨h, h, fun b hb => by cases hb; exact ⟨Int.le_refl _, hl⟩, fun m hm => by cases hm⟩
theorem behind_ok {r : Rl} {life : Int} {x y : St} {d : Dd} (hl : 0 < life) (hx : Ok life x) (hd : DOk d) (h : behind r life x d = some y) : Ok life y := by
  obtain ⟨ha, hh, hg, hm⟩ := hx
  cases d with
  | send g a =>
    cases h
    refine ⟨ha, hh, hg, fun m h => ?_⟩
    rcases List.mem_append.mp h with h | h
    · exact hm m h
    · rw [List.mem_singleton.mp h]; exact ⟨hd, Int.le_refl _⟩
  | come n =>
    simp only [behind] at h
    split at h
    · cases h
    · rename_i m hn
      obtain ⟨h1, h2⟩ := hm m (List.mem_of_getElem? hn)
      have hset : ∀ m' ∈ x.mail.set n (bump m), 1 ≤ m'.sum ∧ 0 ≤ m'.times := fun m' h => by
        rcases List.mem_or_eq_of_mem_set h with h | h
        · exact hm m' h
        · rw [h]; exact ⟨h1, by simp only [bump]; omega⟩
      cases h
      have key : 0 ≤ x.h → 0 ≤ (cameS r x m).1 := fun hh => by
        unfold cameS
        split
        · simp only [giveS, part]
          repeat' split
          all_goals omega
        · split
          · unfold lateS
            split <;> exact hh
          · unfold openS
            split
            · simp only; omega
            · split
              · exact hh
              · exact Int.le_refl _
              · exact Int.le_refl _
      unfold come1
      split
      · exact ⟨ha, key hh, hg, hset⟩
      · exact ⟨ha, hh, hg, hset⟩
  | tick =>
    simp only [behind] at h
    split at h
    · cases h
    · rename_i a hn
      obtain ⟨h1, h2⟩ := hg a hn
      cases h
      split
      · exact ⟨ha, hh, fun b hb => by cases hb; omega, hm⟩
      · exact ⟨ha, Int.le_refl _, fun b hb => (by cases hb), hm⟩
  | release =>
    simp only [behind] at h
    split at h
    · cases h
    · cases h
      refine ⟨ha, Int.le_refl _, fun b hb => (by cases hb), fun m h => ?_⟩
      simp only at h
      split at h
      · obtain ⟨m', h1, h2⟩ := List.mem_map.mp h
        subst h2
        obtain ⟨h3, h4⟩ := hm m' h1
        exact ⟨h3, by simp only [once1]; omega⟩
      · exact hm m h
  | renew =>
    cases h
    refine ⟨ha, ?_, fun b hb => by cases hb; omega, hm⟩
    simp only
    split <;> omega
  | raise =>
    cases h
    refine ⟨by simp only; omega, ?_, hg, hm⟩
    simp only
    split <;> omega
  | lower =>
    simp only [behind] at h
    split at h
    · cases h
    · cases h
      refine ⟨by simp only; omega, ?_, hg, hm⟩
      simp only
      split <;> omega
end HP
end

section
set_option maxRecDepth 100000
set_option maxHeartbeats 1000000
/-! E2: rules, standings, deeds as data; each def of the deeds. -/
namespace D
open PySem DL HP
/-- a def of the text, and that it is there -/
class HF (P : Pg) (f : FK) (d : outParam Def) : Prop where
  fn : P.fn f = some d
  has : P.gl.has f = true
theorem HF_has {P : Pg} {f : FK} {d : Def} [h : HF P f d] : P.gl.has f = true := h.has
theorem ev_callF {P : Pg} {n k : Nat} {f : Str} {es : DEs} {e : Env} {s : Store} {d : Def} [h : HF P (f, none) d] : den P.gl (callD P n k) n (.call f es) e s = k1 (callD P n k (f, none)) (dens P.gl (callD P n k) n es e s) := ev_call _ _ _ _ h.has
def agL (b : Bool) : L := .str (wd (if b then 9 else 8))
def ltL : Lt → L
  | .refused => .str (wd 10)
  | .agreed => .str (wd 11)
  | .taken => .str (wd 12)
def byL : By → L
  | .refused => .str (wd 10)
  | .cut => .str (wd 13)
  | .taken => .str (wd 12)
def bkL (b : Bool) : L := .str (wd (if b then 15 else 14))
def ovL (b : Bool) : L := .str (wd (if b then 16 else 13))
def rnL (b : Bool) : L := .str (wd (if b then 18 else 17))
def lwL (b : Bool) : L := .str (wd (if b then 20 else 19))
def rlL (r : Rl) : List L := [agL r.once, ltL r.late, byL r.bey, bkL r.stays, ovL r.giv, rnL r.rest, lwL r.word, .bl r.spent]
def wL (g : Bool) : L := .str (wd (if g then 27 else 28))
def lmsg (m : Msg) : L := .tup [wL m.give, .int m.sum, .int m.times]
def ageL : Option Int → L
  | none => .non
  | some a => .int a
def stL (x : St) : L := .tup [.int x.ag, .int x.h, .int x.tk, .int x.gv, ageL x.age, .tup (x.mail.map lmsg)]
def dL : Dd → L
  | .send g a => .tup [.str (wd 21), wL g, .int a]
  | .come n => .tup [.str (wd 22), .int (n : Int)]
  | .tick => .tup [.str (wd 23)]
  | .release => .tup [.str (wd 24)]
  | .renew => .tup [.str (wd 25)]
  | .raise => .tup [.str (wd 26)]
  | .lower => .tup [.str (wd 29)]
def sumL (p : Int × Int × Int) : L := .tup [.int p.1, .int p.2.1, .int p.2.2]
def optL : Option St → L
  | none => .non
  | some x => stL x
section
variable {hs : FK → Bool} {F : Fns} {s : Store}
theorem eq_ag8 (b : Bool) : eqqM hs F (agL b) (.str (wd 8)) s = .ok (.bl !b) s := by cases b <;> simp only [agL, eqq_wd] <;> simp [wd_eq]
theorem eq_lt10 (l : Lt) : eqqM hs F (ltL l) (.str (wd 10)) s = .ok (.bl (decide (l = .refused))) s := by cases l <;> simp only [ltL, eqq_wd] <;> simp [wd_eq]
theorem eq_lt11 (l : Lt) : eqqM hs F (ltL l) (.str (wd 11)) s = .ok (.bl (decide (l = .agreed))) s := by cases l <;> simp only [ltL, eqq_wd] <;> simp [wd_eq]
theorem eq_by10 (l : By) : eqqM hs F (byL l) (.str (wd 10)) s = .ok (.bl (decide (l = .refused))) s := by cases l <;> simp only [byL, eqq_wd] <;> simp [wd_eq]
theorem eq_by13 (l : By) : eqqM hs F (byL l) (.str (wd 13)) s = .ok (.bl (decide (l = .cut))) s := by cases l <;> simp only [byL, eqq_wd] <;> simp [wd_eq]
theorem eq_by12 (l : By) : eqqM hs F (byL l) (.str (wd 12)) s = .ok (.bl (decide (l = .taken))) s := by cases l <;> simp only [byL, eqq_wd] <;> simp [wd_eq]
theorem neO_wd (i j : Nat) : neO (.str (wd i)) (.str (wd j)) s = .ok (.bl !(decide (wd i = wd j))) s := by unfold neO; rw [eqM_wd]
theorem ne_by10 (l : By) : neO (byL l) (.str (wd 10)) s = .ok (.bl (!decide (l = .refused))) s := by cases l <;> simp only [byL, neO_wd] <;> simp [wd_eq]
theorem eq_bk14 (b : Bool) : eqqM hs F (bkL b) (.str (wd 14)) s = .ok (.bl !b) s := by cases b <;> simp only [bkL, eqq_wd] <;> simp [wd_eq]
theorem eq_ov13 (b : Bool) : eqqM hs F (ovL b) (.str (wd 13)) s = .ok (.bl !b) s := by cases b <;> simp only [ovL, eqq_wd] <;> simp [wd_eq]
theorem eq_rn17 (b : Bool) : eqqM hs F (rnL b) (.str (wd 17)) s = .ok (.bl !b) s := by cases b <;> simp only [rnL, eqq_wd] <;> simp [wd_eq]
theorem eq_lw19 (b : Bool) : eqqM hs F (lwL b) (.str (wd 19)) s = .ok (.bl !b) s := by cases b <;> simp only [lwL, eqq_wd] <;> simp [wd_eq]
theorem eq_w27 (b : Bool) : eqqM hs F (wL b) (.str (wd 27)) s = .ok (.bl b) s := by cases b <;> simp only [wL, eqq_wd] <;> simp [wd_eq]
theorem eq_w28 (b : Bool) : eqqM hs F (wL b) (.str (wd 28)) s = .ok (.bl !b) s := by cases b <;> simp only [wL, eqq_wd] <;> simp [wd_eq]
theorem o_isN : isO false .non s = .ok (.bl true) s := rfl
theorem o_isnN : isO true .non s = .ok (.bl false) s := rfl
theorem o_isI (i : Int) : isO false (.int i) s = .ok (.bl false) s := rfl
theorem o_isnI (i : Int) : isO true (.int i) s = .ok (.bl true) s := rfl
theorem o_isA (a : Option Int) : isO false (ageL a) s = .ok (.bl a.isNone) s := by cases a <;> rfl
theorem o_isnA (a : Option Int) : isO true (ageL a) s = .ok (.bl a.isSome) s := by cases a <;> rfl
theorem tupO_5 (vs : List L) (h : vs.length ≤ 16777216) : tupO vs s = .ok (.tup vs) s := tupO_ok vs s h
theorem lstO_5 (vs : List L) (h : vs.length ≤ 16777216) : lstO vs s = .ok (.loc s.length) (s ++ [.lst vs]) := lstO_ok vs s h
theorem o_addT5 (xs ys : List L) (h : xs.length + ys.length ≤ 16777216) : addM (.tup xs) (.tup ys) s = .ok (.tup (xs ++ ys)) s := o_addT xs ys s h
theorem o_maxx (i j : Int) : biM hs F .max [.int i, .int j] s = .ok (.int (max i j)) s := by
  rw [o_max]
  have : (if j > i then j else i) = max i j := by omega
  rw [this]
theorem o_minn (i j : Int) : biM hs F .min [.int i, .int j] s = .ok (.int (min i j)) s := by
  rw [o_min]
  have : (if j < i then j else i) = min i j := by omega
  rw [this]
end
local macro_rules
  | `(tactic| walk_at "ev") => `(tactic| simp (config := {decide := false}) only [ev_var, ev_cst, ev_glb, ev_add, ev_sub, ev_mul, ev_fdv, ev_mod, ev_pow, ev_neg, ev_not, ev_eq, ev_ne, ev_lt, ev_le, ev_gt, ev_ge, ev_isn, ev_isnn, ev_inn, ev_nin, ev_and, ev_or, ev_ite, ev_tup, ev_lst, ev_dS0, ev_dSc, ev_idx, ev_fld, ev_call, ev_isi, ev_bi, ev_bx, ev_lc, ev_idxX, ev_inX, evX_disp, evX_lc0, evs_nil, evs_cons, ev_chn, ev_slc, ev_append, ev_meth,
      k1_ok, k1_ex, k2_ok, kAnd_ok, kA_b, kOr_ok, kO_b, kI_b, kCs_ok, kCons_ok, kX_ok, kN_ok, kC1_ok, kC2_ok, kC3_b, kC4_ok, kS_ok, kSl_ok, kSh_ok, pt_non, pt_som, ptI_ok, kApp_ok, kApp2_l, kApp3_ok, appG_5, dspO_5, o_ixO, o_lcO, kMeth_ok, o_mth,
      es_nil, es_cons, sSeq_nx, sSeq_rt, sSeq_ex, es_asg, sAsg_ok, sAsg_ex, es_ret, sRet_ok, sRet_ex, es_expr, sExp_ok, sExp_ex, es_ife, sIf_b, es_iset, sIs1_ok, sIs2_ok, sIs3_ok, sEnd_ok, es_asgT, sSetT_k, sSt_s, setT_tp, setT_nm, setAll_n, setAll_c, es_par, sPar1_ok, sPar2_ok, es_fset, sFs1_ok, sFs2_ok, es_rse, es_tr, sTr_nx, sTr_ex, es_fr, sFr_fix, sFr_dyn, evI_val, o_srcT, o_src, srcG_l, forFix_nil, forFix_cons, sFx_nx, sFx_rt, sFx_ex, frF_nm,
      ap_ofO, tru_b, tru_int, tru_non, o_add, o_sub, o_lt, o_le, o_gt, o_ge, o_not, o_idx, idxG_l, idxG_d, o_idxT, o_set, setG_l, setJ_s, setG_d, o_len, lenG_l, o_fld, fldG_i, o_lenT, at0, at1, at2, at3, at4, at5, at6, at7, at8, ix4_0, ix4_1, ix4_2, ix4_3, ix3_0, ix3_1, ix3_2, List.set_set, o_intI, o_intB, o_slcT, o_slcL, slcG_l, tupO_5, lstO_5, o_addT5, o_maxx, o_minn, eq_ag8, eq_lt10, eq_lt11, eq_by10, eq_by13, eq_by12, ne_by10, eq_bk14, eq_ov13, eq_rn17, eq_lw19, eq_w27, eq_w28, o_isA, o_isnA, eqq_int, eqq_wd, lcF_ev, lcE_s, cnd_non, cnd_som, lcT_ok, sg1_ok, wipe_n, wipe_c, HF_has, o_isN, o_isnN, o_isI, o_isnI,
      List.map_cons, List.map_nil, List.replicate, List.cons_append, List.nil_append, List.append_assoc, List.length_append, List.length_set, List.getElem?_cons_zero, List.getElem?_cons_succ, List.set_cons_zero, List.set_cons_succ, Option.join, Option.bind_some, id_eq, List.length_cons, List.length_nil, List.length_map, eq_self, decide_true, decide_false, decide_eq_true_eq, Nat.reduceAdd, Nat.reduceSub, Nat.reduceLeDiff, Nat.reduceLT, Nat.reduceEqDiff, Int.reduceAdd, Int.reduceSub, Int.reduceLT, Int.reduceLE, Int.reduceEq, Nat.zero_add, Nat.zero_le, Bool.not_true, Bool.not_false, Bool.not_eq_true', decide_eq_false_iff_not, if_true, if_false, ite_true, ite_false, reduceIte, Bool.false_eq_true, reduceCtorEq, wd_eq, *])
theorem noLoc_w (g : Bool) : noLoc (wL g) = true := rfl
theorem noLoc_age (a : Option Int) : noLoc (ageL a) = true := by cases a <;> rfl
theorem nl_mail : ∀ ms : List Msg, noLocs (ms.map lmsg) = true
  | [] => rfl
  | m :: ms => by
    show (noLoc (lmsg m) && noLocs (ms.map lmsg)) = true
    rw [nl_mail ms]
    rfl
theorem noLocs_app : ∀ xs ys : List L, noLocs (xs ++ ys) = (noLocs xs && noLocs ys)
  | [], _ => rfl
  | x :: xs, ys => by
    show (noLoc x && noLocs (xs ++ ys)) = ((noLoc x && noLocs xs) && noLocs ys)
    rw [noLocs_app xs ys, Bool.and_assoc]
theorem nl_take (i : Nat) (ms : List Msg) : noLocs ((ms.map lmsg).take i) = true := by rw [← List.map_take]; exact nl_mail _
theorem nl_drop (i : Nat) (ms : List Msg) : noLocs ((ms.map lmsg).drop i) = true := by rw [← List.map_drop]; exact nl_mail _
theorem noLoc_st (x : St) : noLoc (stL x) = true := by
  show (noLoc (.int x.ag) && (noLoc (.int x.h) && (noLoc (.int x.tk) && (noLoc (.int x.gv) && (noLoc (ageL x.age) && (noLocs (x.mail.map lmsg) && true)))))) = true
  rw [nl_mail, noLoc_age]
  rfl
theorem noLoc_opt (x : Option St) : noLoc (optL x) = true := by
  cases x with
  | none => rfl
  | some x => exact noLoc_st x
theorem noLoc_d (d : Dd) : noLoc (dL d) = true := by cases d <;> rfl
/-- the rule stands at r -/
abbrev RlAt (s : Store) (r : Nat) (rl : Rl) : Prop := s[r]? = some (.ins "Rule" (flds (rlL rl)))
theorem rl0 {s : Store} {r : Nat} {rl : Rl} (h : RlAt s r rl) : fldO (wd 0) (.loc r) s = .ok (agL rl.once) s := by rw [o_fld, h, fldG_i, rlL, lkf0]; rfl
theorem rl1 {s : Store} {r : Nat} {rl : Rl} (h : RlAt s r rl) : fldO (wd 1) (.loc r) s = .ok (ltL rl.late) s := by rw [o_fld, h, fldG_i, rlL, lkf1]; rfl
theorem rl2 {s : Store} {r : Nat} {rl : Rl} (h : RlAt s r rl) : fldO (wd 2) (.loc r) s = .ok (byL rl.bey) s := by rw [o_fld, h, fldG_i, rlL, lkf2]; rfl
theorem rl3 {s : Store} {r : Nat} {rl : Rl} (h : RlAt s r rl) : fldO (wd 3) (.loc r) s = .ok (bkL rl.stays) s := by rw [o_fld, h, fldG_i, rlL, lkf3]; rfl
theorem rl4 {s : Store} {r : Nat} {rl : Rl} (h : RlAt s r rl) : fldO (wd 4) (.loc r) s = .ok (ovL rl.giv) s := by rw [o_fld, h, fldG_i, rlL, lkf4]; rfl
theorem rl5 {s : Store} {r : Nat} {rl : Rl} (h : RlAt s r rl) : fldO (wd 5) (.loc r) s = .ok (rnL rl.rest) s := by rw [o_fld, h, fldG_i, rlL, lkf5]; rfl
theorem rl6 {s : Store} {r : Nat} {rl : Rl} (h : RlAt s r rl) : fldO (wd 6) (.loc r) s = .ok (lwL rl.word) s := by rw [o_fld, h, fldG_i, rlL, lkf6]; rfl
theorem rl7 {s : Store} {r : Nat} {rl : Rl} (h : RlAt s r rl) : fldO (wd 7) (.loc r) s = .ok (.bl rl.spent) s := by rw [o_fld, h, fldG_i, rlL, lkf7]; rfl
theorem start_ok' {P : Pg} {n k : Nat} [h : HF P ("start", none) d_start] (hk : 1 ≤ k) (a : Int) (s : Store) : callD P n k ("start", none) [.int a] s = .ok (stL (start a)) s := by
  obtain ⟨k, rfl⟩ : ∃ j, k = j + 1 := ⟨k - 1, by omega⟩
  rw [call_at h.fn rfl]
  simp only [d_start]
  walk_at "ev"
  rw [fin_here rfl]
  rfl
theorem topen_ok {P : Pg} {n k : Nat} [hf : HF P ("taken_open", none) d_taken_open] (hk : 1 ≤ k) {r : Nat} {rl : Rl} {s : Store} (hr : RlAt s r rl) (h t g a : Int) :
    callD P n k ("taken_open", none) [.loc r, .tup [.int h, .int t, .int g], .int a] s = .ok (sumL (openS rl h t g a)) s := by
  obtain ⟨k, rfl⟩ : ∃ j, k = j + 1 := ⟨k - 1, by omega⟩
  have h2 := rl2 hr
  rw [call_at hf.fn rfl]
  simp only [d_taken_open]
  clear hr hk
  unfold openS
  by_cases hle : a ≤ h
  · walk_at "ev"
    exact fin_here rfl
  · cases hb : rl.bey <;> rw [hb] at h2 <;> simp only [byL] at h2 <;> walk_at "ev" <;> exact fin_here rfl
end D
end

section
set_option maxRecDepth 100000
set_option maxHeartbeats 1000000
/-! E3: the deeds, def by def. -/
namespace D
open PySem DL HP
local macro_rules
  | `(tactic| walk_at "ev") => `(tactic| simp (config := {decide := false}) only [ev_var, ev_cst, ev_glb, ev_add, ev_sub, ev_mul, ev_fdv, ev_mod, ev_pow, ev_neg, ev_not, ev_eq, ev_ne, ev_lt, ev_le, ev_gt, ev_ge, ev_isn, ev_isnn, ev_inn, ev_nin, ev_and, ev_or, ev_ite, ev_tup, ev_lst, ev_dS0, ev_dSc, ev_idx, ev_fld, ev_call, ev_isi, ev_bi, ev_bx, ev_lc, ev_idxX, ev_inX, evX_disp, evX_lc0, evs_nil, evs_cons, ev_chn, ev_slc, ev_append, ev_meth,
      k1_ok, k1_ex, k2_ok, kAnd_ok, kA_b, kOr_ok, kO_b, kI_b, kCs_ok, kCons_ok, kX_ok, kN_ok, kC1_ok, kC2_ok, kC3_b, kC4_ok, kS_ok, kSl_ok, kSh_ok, pt_non, pt_som, ptI_ok, kApp_ok, kApp2_l, kApp3_ok, appG_5, dspO_5, o_ixO, o_lcO, kMeth_ok, o_mth,
      es_nil, es_cons, sSeq_nx, sSeq_rt, sSeq_ex, es_asg, sAsg_ok, sAsg_ex, es_ret, sRet_ok, sRet_ex, es_expr, sExp_ok, sExp_ex, es_ife, sIf_b, es_iset, sIs1_ok, sIs2_ok, sIs3_ok, sEnd_ok, es_asgT, sSetT_k, sSt_s, setT_tp, setT_nm, setAll_n, setAll_c, es_par, sPar1_ok, sPar2_ok, es_fset, sFs1_ok, sFs2_ok, es_rse, es_tr, sTr_nx, sTr_ex, es_fr, sFr_fix, sFr_dyn, evI_val, o_srcT, o_src, srcG_l, forFix_nil, forFix_cons, sFx_nx, sFx_rt, sFx_ex, frF_nm,
      ap_ofO, tru_b, tru_int, tru_non, o_add, o_sub, o_lt, o_le, o_gt, o_ge, o_not, o_idx, idxG_l, idxG_d, o_idxT, o_set, setG_l, setJ_s, setG_d, o_len, lenG_l, o_fld, fldG_i, o_lenT, at0, at1, at2, at3, at4, at5, at6, at7, at8, ix4_0, ix4_1, ix4_2, ix4_3, ix3_0, ix3_1, ix3_2, List.set_set, o_intI, o_intB, o_slcT, o_slcL, slcG_l, tupO_5, lstO_5, o_addT5, o_maxx, o_minn, eq_ag8, eq_lt10, eq_lt11, eq_by10, eq_by13, eq_by12, ne_by10, eq_bk14, eq_ov13, eq_rn17, eq_lw19, eq_w27, eq_w28, o_isA, o_isnA, eqq_int, eqq_wd, lcF_ev, lcE_s, cnd_non, cnd_som, lcT_ok, sg1_ok, wipe_n, wipe_c, HF_has, o_isN, o_isnN, o_isI, o_isnI,
      List.map_cons, List.map_nil, List.replicate, List.cons_append, List.nil_append, List.append_assoc, List.length_append, List.length_set, List.getElem?_cons_zero, List.getElem?_cons_succ, List.set_cons_zero, List.set_cons_succ, Option.join, Option.bind_some, id_eq, List.length_cons, List.length_nil, List.length_map, eq_self, decide_true, decide_false, decide_eq_true_eq, Nat.reduceAdd, Nat.reduceSub, Nat.reduceLeDiff, Nat.reduceLT, Nat.reduceEqDiff, Int.reduceAdd, Int.reduceSub, Int.reduceLT, Int.reduceLE, Int.reduceEq, Nat.zero_add, Nat.zero_le, Bool.not_true, Bool.not_false, Bool.not_eq_true', decide_eq_false_iff_not, if_true, if_false, ite_true, ite_false, reduceIte, Bool.false_eq_true, reduceCtorEq, wd_eq, *])
theorem tlate_ok {P : Pg} {n k : Nat} [hf : HF P ("taken_late", none) d_taken_late] (hk : 1 ≤ k) {r : Nat} {rl : Rl} {s : Store} (hr : RlAt s r rl) (ag h t g a : Int) :
    callD P n k ("taken_late", none) [.loc r, .int ag, .tup [.int h, .int t, .int g], .int a] s = .ok (sumL (lateS rl ag h t g a)) s := by
  obtain ⟨k, rfl⟩ : ∃ j, k = j + 1 := ⟨k - 1, by omega⟩
  have h1 := rl1 hr
  rw [call_at hf.fn rfl]
  simp only [d_taken_late]
  clear hr hk
  unfold lateS
  cases hb : rl.late <;> rw [hb] at h1 <;> simp only [ltL] at h1 <;> walk_at "ev" <;> exact fin_here rfl
theorem gback_ok {P : Pg} {n k : Nat} [hf : HF P ("given_back", none) d_given_back] (hk : 1 ≤ k) {r : Nat} {rl : Rl} {s : Store} (hr : RlAt s r rl) (o : Bool) (h t g a : Int) :
    callD P n k ("given_back", none) [.loc r, .bl o, .tup [.int h, .int t, .int g], .int a] s = .ok (sumL (giveS rl o h t g a)) s := by
  obtain ⟨k, rfl⟩ : ∃ j, k = j + 1 := ⟨k - 1, by omega⟩
  have h1 := rl3 hr
  have h2 := rl4 hr
  rw [call_at hf.fn rfl]
  simp only [d_given_back]
  clear hr hk
  unfold giveS part
  cases o <;> cases hb : rl.giv <;> rw [hb] at h2 <;> cases hc : rl.stays <;> rw [hc] at h1 <;> walk_at "ev" <;> exact fin_here rfl
theorem ticked_ok {P : Pg} {n k : Nat} [hf : HF P ("ticked", none) d_ticked] (hk : 1 ≤ k) (rl : Rl) (life : Int) (x : St) (s : Store) :
    callD P n k ("ticked", none) [.int life, stL x] s = .ok (optL (behind rl life x .tick)) s := by
  obtain ⟨k, rfl⟩ : ∃ j, k = j + 1 := ⟨k - 1, by omega⟩
  obtain ⟨ag, h, tk, gv, age, mail⟩ := x
  rw [call_at hf.fn rfl]
  simp only [d_ticked, stL, behind]
  clear hk
  have hnl : noLocs (mail.map lmsg) = true := nl_mail mail
  cases age with
  | none =>
    simp only [ageL]
    walk_at "ev"
    exact fin_here rfl
  | some a =>
    simp only [ageL]
    by_cases hlt : a + 1 < life
    · walk_at "ev"
      exact fin_here (by simp only [noLoc, noLocs, hnl]; rfl)
    · walk_at "ev"
      exact fin_here (by simp only [noLoc, noLocs, hnl]; rfl)
theorem come_ok {P : Pg} {n k : Nat} [hf : HF P ("come", none) d_come] [HF P ("taken_open", none) d_taken_open] [HF P ("taken_late", none) d_taken_late] [HF P ("given_back", none) d_given_back]
    (hk : 2 ≤ k) {r : Nat} {rl : Rl} {s : Store} (hr : RlAt s r rl) (life : Int) (x : St) (hm : x.mail.length < 1000000) (i : Nat) :
    callD P n k ("come", none) [.loc r, stL x, .int (i : Int)] s = .ok (optL (behind rl life x (.come i))) s := by
  obtain ⟨k, rfl⟩ : ∃ j, k = j + 1 := ⟨k - 1, by omega⟩
  have c1 := fun h t g a => topen_ok (P := P) (n := n) (k := k) (by omega) hr h t g a
  have c2 := fun ag h t g a => tlate_ok (P := P) (n := n) (k := k) (by omega) hr ag h t g a
  have c3 := fun o h t g a => gback_ok (P := P) (n := n) (k := k) (by omega) hr o h t g a
  simp only [sumL] at c1 c2 c3
  have h0 := rl0 hr
  clear hr hk
  obtain ⟨ag, h, tk, gv, age, mail⟩ := x
  rw [call_at hf.fn rfl]
  have i0 : (0 : Int) ≤ (i : Int) := by omega
  cases hi : mail[i]? with
  | none =>
    simp only [behind, hi, optL]
    have hlt : ¬ (i : Int) < (mail.length : Int) := by
      have := List.getElem?_eq_none_iff.mp hi
      omega
    simp only [d_come, stL]
    clear hi c1 c2 c3
    walk_at "ev"
    exact fin_here rfl
  | some m =>
    obtain ⟨mg, ms, mt⟩ := m
    have hl := (List.getElem?_eq_some_iff.mp hi).1
    have hlt : (i : Int) < (mail.length : Int) := by omega
    have e1 : L2.atI (mail.map lmsg) (i : Int) = some (lmsg ⟨mg, ms, mt⟩) := atI_get _ _ _ (by rw [List.getElem?_map, hi]; rfl)
    have e2 : cutL (mail.map lmsg) none (some (i : Int)) = (mail.map lmsg).take i := cutL_to (by rw [List.length_map]; omega)
    have e3 : cutL (mail.map lmsg) (some ((i : Int) + 1)) none = (mail.map lmsg).drop (i + 1) := cutL_from (i := i + 1) (by rw [List.length_map]; omega)
    have e4 : (mail.map lmsg).take i ++ (lmsg (HP.bump ⟨mg, ms, mt⟩) :: (mail.map lmsg).drop (i + 1)) = (mail.set i (HP.bump ⟨mg, ms, mt⟩)).map lmsg := by
      rw [List.set_eq_take_append_cons_drop, if_pos hl, List.map_append, List.map_cons, List.map_take, List.map_drop]
    have l1 : ((mail.map lmsg).take i).length + 1 ≤ 16777216 := by
      rw [List.length_take, List.length_map]; simp only at hm; omega
    have l2 : ((mail.map lmsg).take i).length + 1 + ((mail.map lmsg).drop (i + 1)).length ≤ 16777216 := by
      rw [List.length_take, List.length_drop, List.length_map]; simp only at hm; omega
    simp only [d_come, stL, behind, hi, optL, come1, cameS, HP.St.wth]
    rw [← e4]
    simp only [lmsg, HP.bump] at e1 e4 ⊢
    clear hi hl hm e4
    have hb := eq_ag8 (hs := P.gl.has) (F := callD P n k) (s := s) rl.once
    by_cases ht : mt = 0
    · cases mg with
      | true =>
        walk_at "ev"
        exact fin_here (by simp only [noLoc, noLocs, noLoc_age, noLoc_w, noLocs_app, nl_take, nl_drop, nl_mail]; rfl)
      | false =>
        cases age with
        | none =>
          simp only [ageL]
          walk_at "ev"
          exact fin_here (by simp only [noLoc, noLocs, noLoc_age, noLoc_w, noLocs_app, nl_take, nl_drop, nl_mail]; rfl)
        | some a =>
          simp only [ageL]
          walk_at "ev"
          exact fin_here (by simp only [noLoc, noLocs, noLoc_age, noLoc_w, noLocs_app, nl_take, nl_drop, nl_mail]; rfl)
    · cases ho : rl.once with
      | true =>
        rw [ho] at h0
        walk_at "ev"
        exact fin_here (by simp only [noLoc, noLocs, noLoc_age, noLoc_w, noLocs_app, nl_take, nl_drop, nl_mail]; rfl)
      | false =>
        rw [ho] at h0
        cases mg with
        | true =>
          walk_at "ev"
          exact fin_here (by simp only [noLoc, noLocs, noLoc_age, noLoc_w, noLocs_app, nl_take, nl_drop, nl_mail]; rfl)
        | false =>
          cases age with
          | none =>
            simp only [ageL]
            walk_at "ev"
            exact fin_here (by simp only [noLoc, noLocs, noLoc_age, noLoc_w, noLocs_app, nl_take, nl_drop, nl_mail]; rfl)
          | some a =>
            simp only [ageL]
            walk_at "ev"
            exact fin_here (by simp only [noLoc, noLocs, noLoc_age, noLoc_w, noLocs_app, nl_take, nl_drop, nl_mail]; rfl)
end D
end

section
set_option maxRecDepth 100000
set_option maxHeartbeats 1000000
/-! E4: behind, step. -/
namespace D
open PySem DL HP
local macro_rules
  | `(tactic| walk_at "ev") => `(tactic| simp (config := {decide := false}) only [ev_var, ev_cst, ev_glb, ev_add, ev_sub, ev_mul, ev_fdv, ev_mod, ev_pow, ev_neg, ev_not, ev_eq, ev_ne, ev_lt, ev_le, ev_gt, ev_ge, ev_isn, ev_isnn, ev_inn, ev_nin, ev_and, ev_or, ev_ite, ev_tup, ev_lst, ev_dS0, ev_dSc, ev_idx, ev_fld, ev_call, ev_isi, ev_bi, ev_bx, ev_lc, ev_idxX, ev_inX, evX_disp, evX_lc0, evs_nil, evs_cons, ev_chn, ev_slc, ev_append, ev_meth,
      k1_ok, k1_ex, k2_ok, kAnd_ok, kA_b, kOr_ok, kO_b, kI_b, kCs_ok, kCons_ok, kX_ok, kN_ok, kC1_ok, kC2_ok, kC3_b, kC4_ok, kS_ok, kSl_ok, kSh_ok, pt_non, pt_som, ptI_ok, kApp_ok, kApp2_l, kApp3_ok, appG_5, dspO_5, o_ixO, o_lcO, kMeth_ok, o_mth,
      es_nil, es_cons, sSeq_nx, sSeq_rt, sSeq_ex, es_asg, sAsg_ok, sAsg_ex, es_ret, sRet_ok, sRet_ex, es_expr, sExp_ok, sExp_ex, es_ife, sIf_b, es_iset, sIs1_ok, sIs2_ok, sIs3_ok, sEnd_ok, es_asgT, sSetT_k, sSt_s, setT_tp, setT_nm, setAll_n, setAll_c, es_par, sPar1_ok, sPar2_ok, es_fset, sFs1_ok, sFs2_ok, es_rse, es_tr, sTr_nx, sTr_ex, es_fr, sFr_fix, sFr_dyn, evI_val, o_srcT, o_src, srcG_l, forFix_nil, forFix_cons, sFx_nx, sFx_rt, sFx_ex, frF_nm,
      ap_ofO, tru_b, tru_int, tru_non, o_add, o_sub, o_lt, o_le, o_gt, o_ge, o_not, o_idx, idxG_l, idxG_d, o_idxT, o_set, setG_l, setJ_s, setG_d, o_len, lenG_l, o_fld, fldG_i, o_lenT, at0, at1, at2, at3, at4, at5, at6, at7, at8, ix4_0, ix4_1, ix4_2, ix4_3, ix3_0, ix3_1, ix3_2, List.set_set, o_intI, o_intB, o_slcT, o_slcL, slcG_l, tupO_5, lstO_5, o_addT5, o_maxx, o_minn, eq_ag8, eq_lt10, eq_lt11, eq_by10, eq_by13, eq_by12, ne_by10, eq_bk14, eq_ov13, eq_rn17, eq_lw19, eq_w27, eq_w28, o_isA, o_isnA, eqq_int, eqq_wd, lcF_ev, lcE_s, cnd_non, cnd_som, lcT_ok, sg1_ok, wipe_n, wipe_c, HF_has, o_isN, o_isnN, o_isI, o_isnI,
      List.map_cons, List.map_nil, List.replicate, List.cons_append, List.nil_append, List.append_assoc, List.length_append, List.length_set, List.getElem?_cons_zero, List.getElem?_cons_succ, List.set_cons_zero, List.set_cons_succ, Option.join, Option.bind_some, id_eq, List.length_cons, List.length_nil, List.length_map, eq_self, decide_true, decide_false, decide_eq_true_eq, Nat.reduceAdd, Nat.reduceSub, Nat.reduceLeDiff, Nat.reduceLT, Nat.reduceEqDiff, Int.reduceAdd, Int.reduceSub, Int.reduceLT, Int.reduceLE, Int.reduceEq, Nat.zero_add, Nat.zero_le, Bool.not_true, Bool.not_false, Bool.not_eq_true', decide_eq_false_iff_not, if_true, if_false, ite_true, ite_false, reduceIte, Bool.false_eq_true, reduceCtorEq, wd_eq, *])
theorem released_ok {P : Pg} {n k : Nat} [hf : HF P ("released", none) d_released] (hk : 1 ≤ k) {r : Nat} {rl : Rl} {s : Store} (hr : RlAt s r rl) (life : Int) (x : St) (hm : x.mail.length < 1000000) :
    callD P n k ("released", none) [.loc r, stL x] s = .ok (optL (behind rl life x .release)) s := by
  obtain ⟨k, rfl⟩ : ∃ j, k = j + 1 := ⟨k - 1, by omega⟩
  have h7 := rl7 hr
  clear hr hk
  obtain ⟨ag, h, tk, gv, age, mail⟩ := x
  rw [call_at hf.fn rfl]
  cases age with
  | none =>
    simp only [d_released, stL, behind, ageL]
    walk_at "ev"
    exact fin_here rfl
  | some a =>
    have hx : ∀ e0 e1 e2 e3 e4 e5 e6 e7, xLc P.gl (callD P n k) n [8, 9, 10] (.tp [8, 9, 10]) .non (.tup (.cons (.var 8) (.cons (.var 9) (.cons (.bi .max (.cons (.var 10) (.cons (.cst (.int 1)) .nil))) .nil)))) [e0, e1, e2, e3, e4, e5, e6, e7, none, none, none] (.ok (.fix (mail.map lmsg)) s) = .ok (mail.map fun m => lmsg (once1 m)) s := by
      intro e0 e1 e2 e3 e4 e5 e6 e7
      refine xLc_map _ (fun m _ => ?_) (by simp only at hm; omega)
      simp only [lmsg, once1]
      clear h7 hm
      walk_at "ev"
    have hb : ∀ xs s, bxM .tuple xs s = .ok (.tup xs) s := fun xs s => rfl
    simp only [d_released, stL, behind, ageL, optL]
    clear hm
    cases hs : rl.spent with
    | true =>
      rw [hs] at h7
      walk_at "ev"
      have e1 : (mail.map once1).map lmsg = mail.map fun m => lmsg (once1 m) := by rw [List.map_map]; rfl
      rw [e1]
      exact fin_here (by rw [← e1]; simp only [noLoc, noLocs, nl_mail]; rfl)
    | false =>
      rw [hs] at h7
      walk_at "ev"
      exact fin_here (by simp only [noLoc, noLocs, nl_mail]; rfl)
/-- the defs of the deeds are there -/
class HB (P : Pg) : Prop where
  a : HF P ("taken_open", none) d_taken_open
  b : HF P ("taken_late", none) d_taken_late
  c : HF P ("given_back", none) d_given_back
  d : HF P ("come", none) d_come
  e : HF P ("ticked", none) d_ticked
  f : HF P ("released", none) d_released
  g : HF P ("behind", none) d_behind
  h : HF P ("start", none) d_start
theorem behind_call {P : Pg} {n k : Nat} [H : HB P] (hk : 3 ≤ k) {r : Nat} {rl : Rl} {s : Store} (hr : RlAt s r rl) (life : Int) (x : St) (hm : x.mail.length < 1000000) (d : Dd) :
    callD P n k ("behind", none) [.loc r, .int life, stL x, dL d] s = .ok (optL (behind rl life x d)) s := by
  obtain ⟨k, rfl⟩ : ∃ j, k = j + 1 := ⟨k - 1, by omega⟩
  have i1 := H.a
  have i2 := H.b
  have i3 := H.c
  have i4 := H.d
  have i5 := H.e
  have i6 := H.f
  have hf := H.g
  have c1 := fun i => come_ok (P := P) (n := n) (k := k) (by omega) hr life x hm i
  have c2 := ticked_ok (P := P) (n := n) (k := k) (by omega) rl life x s
  have c3 := released_ok (P := P) (n := n) (k := k) (by omega) hr life x hm
  have h5 := rl5 hr
  have h6 := rl6 hr
  obtain ⟨ag, h, tk, gv, age, mail⟩ := x
  rw [call_at hf.fn rfl]
  have l1 : mail.length + 1 ≤ 16777216 := by simp only at hm; omega
  clear hr hk hm
  simp only [stL] at c1 c2 c3
  cases d with
  | send g a =>
    simp only [d_behind, stL, dL, behind, optL, List.map_append, List.map_cons, List.map_nil, lmsg]
    clear c1 c2 c3
    walk_at "ev"
    exact fin_here (by simp only [noLoc, noLocs, noLoc_age, noLoc_w, noLocs_app, nl_mail]; rfl)
  | come i =>
    have q := noLoc_opt (behind rl life ⟨ag, h, tk, gv, age, mail⟩ (.come i))
    simp only [d_behind, stL, dL]
    clear c2 c3
    walk_at "ev"
    exact fin_here q
  | tick =>
    have q := noLoc_opt (behind rl life ⟨ag, h, tk, gv, age, mail⟩ .tick)
    simp only [d_behind, stL, dL]
    clear c1 c3
    walk_at "ev"
    exact fin_here q
  | release =>
    have q := noLoc_opt (behind rl life ⟨ag, h, tk, gv, age, mail⟩ .release)
    simp only [d_behind, stL, dL]
    clear c1 c2
    walk_at "ev"
    exact fin_here q
  | renew =>
    simp only [d_behind, stL, dL, behind, optL, ageL]
    clear c1 c2 c3
    cases hs : rl.rest <;> rw [hs] at h5 <;> walk_at "ev" <;> exact fin_here (by simp only [noLoc, noLocs, nl_mail]; rfl)
  | raise =>
    simp only [d_behind, stL, dL, behind, optL]
    clear c1 c2 c3
    cases age <;> simp only [ageL, Option.isNone] <;> walk_at "ev" <;> exact fin_here (by simp only [noLoc, noLocs, nl_mail]; rfl)
  | lower =>
    simp only [d_behind, stL, dL, behind]
    clear c1 c2 c3
    by_cases h0 : ag = 0
    · simp only [h0]
      walk_at "ev"
      exact fin_here rfl
    · simp only [if_neg h0, optL, stL]
      cases hs : rl.word <;> rw [hs] at h6 <;> walk_at "ev" <;> exact fin_here (by simp only [noLoc, noLocs, noLoc_age, nl_mail]; rfl)
def stepL (rl : Rl) (life : Int) (x : St) (d : Dd) : L := match behind rl life x d with
  | none => .tup [.str (wd 10), stL x]
  | some y => .tup [.str (wd 8), stL y]
theorem noLoc_step (rl : Rl) (life : Int) (x : St) (d : Dd) : noLoc (stepL rl life x d) = true := by
  unfold stepL
  split <;> simp only [noLoc, noLocs, noLoc_st] <;> rfl
theorem step_ok {P : Pg} {n k : Nat} [H : HB P] [hf : HF P ("step", none) d_step] (hk : 4 ≤ k) {r : Nat} {rl : Rl} {s : Store} (hr : RlAt s r rl) (life : Int) (x : St) (hm : x.mail.length < 1000000) (d : Dd) :
    callD P n k ("step", none) [.loc r, .int life, stL x, dL d] s = .ok (stepL rl life x d) s := by
  obtain ⟨k, rfl⟩ : ∃ j, k = j + 1 := ⟨k - 1, by omega⟩
  have i4 := H.g
  have c1 := behind_call (P := P) (n := n) (k := k) (by omega) hr life x hm d
  rw [call_at hf.fn rfl]
  have q := noLoc_step rl life x d
  clear hr hk hm
  unfold stepL at q ⊢
  simp only [d_step]
  cases hb : behind rl life x d with
  | none =>
    rw [hb] at c1 q
    simp only [optL] at c1
    walk_at "ev"
    exact fin_here q
  | some y =>
    rw [hb] at c1 q
    have e1 : optL (some y) = .tup [.int y.ag, .int y.h, .int y.tk, .int y.gv, ageL y.age, .tup (y.mail.map lmsg)] := rfl
    rw [e1] at c1
    have e2 : ∀ s, isO false (.tup [.int y.ag, .int y.h, .int y.tk, .int y.gv, ageL y.age, .tup (y.mail.map lmsg)]) s = .ok (.bl false) s := fun s => rfl
    walk_at "ev"
    exact fin_here q
end D
end

section
set_option maxRecDepth 100000
set_option maxHeartbeats 1000000
/-! E5: the faults of a deed. -/
namespace D
open PySem DL HP
class HC (P : Pg) (x : Str) (v : outParam L) : Prop where
  con : P.gl.con x = some v
theorem HC_con {P : Pg} {x : Str} {v : L} [h : HC P x v] : P.gl.con x = some v := h.con
/-- put behind, if so -/
def apd (c : Bool) (xs : List L) (v : L) : List L := if c = true then xs ++ [v] else xs
theorem ite_nx (c : Bool) (e : Env) (s : Store) (xs : List L) (v : L) : (if c = true then RS.nx e (s ++ [.lst (xs ++ [v])]) else RS.nx e (s ++ [.lst xs])) = RS.nx e (s ++ [.lst (apd c xs v)]) := by
  cases c <;> rfl
theorem ite_nx0 (c : Bool) (e : Env) (s : Store) (v : L) : (if c = true then RS.nx e (s ++ [.lst [v]]) else RS.nx e (s ++ [.lst []])) = RS.nx e (s ++ [.lst (apd c [] v)]) := by
  cases c <;> rfl
theorem apd_len (c : Bool) (xs : List L) (v : L) : (apd c xs v).length ≤ xs.length + 1 := by
  cases c
  · show xs.length ≤ _; omega
  · show (xs ++ [v]).length ≤ _; rw [List.length_append]; exact Nat.le_refl _
theorem and_bl (p : Prop) [Decidable p] (b : Bool) (s : Store) : (if p then R.ok (L.bl b) s else R.ok (L.bl (decide p)) s) = R.ok (L.bl (decide p && b)) s := by
  by_cases h : p
  · rw [if_pos h, decide_eq_true h, Bool.true_and]
  · rw [if_neg h, decide_eq_false h, Bool.false_and]
theorem or_bl (p : Prop) [Decidable p] (b : Bool) (s : Store) : (if p then R.ok (L.bl (decide p)) s else R.ok (L.bl b) s) = R.ok (L.bl (decide p || b)) s := by
  by_cases h : p
  · rw [if_pos h, decide_eq_true h, Bool.true_or]
  · rw [if_neg h, decide_eq_false h, Bool.false_or]
theorem eqq_t2 {hs : FK → Bool} {F : Fns} (a b c d : Int) (s : Store) : eqqM hs F (.tup [.int a, .int b]) (.tup [.int c, .int d]) s = .ok (.bl (decide (a = c) && decide (b = d))) s := by
  refine eqq_of rfl ?_
  rw [eqM_tup rfl rfl]
  show R.ok ((a == c) && ((b == d) && true)) s = _
  rw [Bool.and_true]
  rfl
theorem cut24 (a b c d e f : L) : cutL [a, b, c, d, e, f] (some 2) (some 4) = [c, d] := rfl
local macro_rules
  | `(tactic| walk_at "ev") => `(tactic| simp (config := {decide := false}) only [ev_var, ev_cst, ev_glb, ev_add, ev_sub, ev_mul, ev_fdv, ev_mod, ev_pow, ev_neg, ev_not, ev_eq, ev_ne, ev_lt, ev_le, ev_gt, ev_ge, ev_isn, ev_isnn, ev_inn, ev_nin, ev_and, ev_or, ev_ite, ev_tup, ev_lst, ev_dS0, ev_dSc, ev_idx, ev_fld, ev_call, ev_isi, ev_bi, ev_bx, ev_lc, ev_idxX, ev_inX, evX_disp, evX_lc0, evs_nil, evs_cons, ev_chn, ev_slc, ev_append, ev_meth,
      k1_ok, k1_ex, k2_ok, kAnd_ok, kA_b, kOr_ok, kO_b, kI_b, kCs_ok, kCons_ok, kX_ok, kN_ok, kC1_ok, kC2_ok, kC3_b, kC4_ok, kS_ok, kSl_ok, kSh_ok, pt_non, pt_som, ptI_ok, kApp_ok, kApp2_l, kApp3_ok, appG_5, dspO_5, o_ixO, o_lcO, kMeth_ok, o_mth,
      es_nil, es_cons, sSeq_nx, sSeq_rt, sSeq_ex, es_asg, sAsg_ok, sAsg_ex, es_ret, sRet_ok, sRet_ex, es_expr, sExp_ok, sExp_ex, es_ife, sIf_b, es_iset, sIs1_ok, sIs2_ok, sIs3_ok, sEnd_ok, es_asgT, sSetT_k, sSt_s, setT_tp, setT_nm, setAll_n, setAll_c, es_par, sPar1_ok, sPar2_ok, es_fset, sFs1_ok, sFs2_ok, es_rse, es_tr, sTr_nx, sTr_ex, es_fr, sFr_fix, sFr_dyn, evI_val, o_srcT, o_src, srcG_l, forFix_nil, forFix_cons, sFx_nx, sFx_rt, sFx_ex, frF_nm,
      ap_ofO, tru_b, tru_int, tru_non, o_add, o_sub, o_lt, o_le, o_gt, o_ge, o_not, o_idx, idxG_l, idxG_d, o_idxT, o_set, setG_l, setJ_s, setG_d, o_len, lenG_l, o_fld, fldG_i, o_lenT, at0, at1, at2, at3, at4, at5, at6, at7, at8, ix4_0, ix4_1, ix4_2, ix4_3, ix3_0, ix3_1, ix3_2, List.set_set, o_intI, o_intB, o_slcT, o_slcL, slcG_l, tupO_5, lstO_5, o_addT5, o_maxx, o_minn, eq_ag8, eq_lt10, eq_lt11, eq_by10, eq_by13, eq_by12, ne_by10, eq_bk14, eq_ov13, eq_rn17, eq_lw19, eq_w27, eq_w28, o_isA, o_isnA, eqq_int, eqq_wd, lcF_ev, lcE_s, cnd_non, cnd_som, lcT_ok, sg1_ok, wipe_n, wipe_c, HF_has, o_isN, o_isnN, o_isI, o_isnI,
      List.map_cons, List.map_nil, List.replicate, List.cons_append, List.nil_append, List.append_assoc, List.length_append, List.length_set, List.getElem?_cons_zero, List.getElem?_cons_succ, List.set_cons_zero, List.set_cons_succ, Option.join, Option.bind_some, id_eq, List.length_cons, List.length_nil, List.length_map, eq_self, decide_true, decide_false, decide_eq_true_eq, Nat.reduceAdd, Nat.reduceSub, Nat.reduceLeDiff, Nat.reduceLT, Nat.reduceEqDiff, Int.reduceAdd, Int.reduceSub, Int.reduceLT, Int.reduceLE, Int.reduceEq, Nat.zero_add, Nat.zero_le, Bool.not_true, Bool.not_false, Bool.not_eq_true', decide_eq_false_iff_not, if_true, if_false, ite_true, ite_false, reduceIte, Bool.false_eq_true, reduceCtorEq, wd_eq, HC_con, and_bl, or_bl, ite_nx, ite_nx0, cut24, eqq_t2, *])
theorem net_ok {P : Pg} {n k : Nat} [hf : HF P ("net_of", none) d_net_of] (hk : 1 ≤ k) (x : St) (s : Store) : callD P n k ("net_of", none) [stL x] s = .ok (.int (x.tk - x.gv)) s := by
  obtain ⟨k, rfl⟩ : ∃ j, k = j + 1 := ⟨k - 1, by omega⟩
  rw [call_at hf.fn rfl]
  simp only [d_net_of, stL]
  walk_at "ev"
  exact fin_here rfl
def cfL (x : St) (i : Nat) (y : St) : List L := apd (decide (timesAt x (.come i) = 0) && (decide (y.tk = x.tk) && decide (y.gv = x.gv))) (apd (decide (0 < timesAt x (.come i)) && (decide (x.tk < y.tk) || decide (x.gv < y.gv))) [] (.str (wd 34))) (.str (wd 35))
theorem noLoc_s (z : Str) : noLoc (.str z) = true := rfl
theorem nl_apd {c : Bool} {xs : List L} {v : L} (h : noLocs xs = true) (h2 : noLoc v = true) : noLocs (apd c xs v) = true := by
  cases c
  · exact h
  · show noLocs (xs ++ [v]) = true
    rw [noLocs_app, h]
    show (noLoc v && true) = true
    rw [h2]
    rfl
theorem cf_ok {P : Pg} {n k : Nat} [hf : HF P ("come_faults", none) d_come_faults] (hk : 1 ≤ k) (x y : St) (i : Nat) (hi : i < x.mail.length) (s : Store) :
    callD P n k ("come_faults", none) [stL x, dL (.come i), stL y] s = .ok (.loc s.length) (s ++ [.lst (cfL x i y)]) := by
  obtain ⟨k, rfl⟩ : ∃ j, k = j + 1 := ⟨k - 1, by omega⟩
  rw [call_at hf.fn rfl]
  obtain ⟨m, hm⟩ : ∃ m, x.mail[i]? = some m := ⟨_, List.getElem?_eq_getElem hi⟩
  have e1 : L2.atI (x.mail.map lmsg) (i : Int) = some (.tup [wL m.give, .int m.sum, .int m.times]) := atI_get _ _ _ (by rw [List.getElem?_map, hm]; rfl)
  have e2 : timesAt x (.come i) = m.times := by show ((x.mail[i]?).map Msg.times).getD 0 = _; rw [hm]; rfl
  simp only [d_come_faults, stL, dL, cfL, e2]
  clear hm hi hk e2
  have a1 : ∀ o : Ob, (s ++ [o])[s.length]? = some o := fun o => app_at0 s [o]
  have a2 : ∀ o o' : Ob, (s ++ [o]).set s.length o' = s ++ [o'] := set_end s
  have z0 : ([] : List L).length < 16777216 := by decide
  have z1 : ∀ c v, (apd c [] v).length < 16777216 := fun c v => Nat.lt_of_le_of_lt (apd_len c [] v) (by decide)
  walk_at "ev"
  exact fin_list (a1 _) (Nat.le_refl _) (nl_apd (nl_apd (xs := []) rfl (noLoc_s _)) (noLoc_s _))
def ftL (x : St) (d : Dd) (y : St) : List L := (match d with
  | .come i => cfL x i y
  | _ => [])
def fl5 (x : St) (d : Dd) (y : St) : List L := apd (flt x d y 4) (apd (flt x d y 3) (apd (flt x d y 0) (ftL x d y) (.str (wd 33))) (.str (wd 36))) (.str (wd 37))
def flW (i : Nat) : L := .str (wd (33 + i))
def faultsL : L := .tup ([0, 1, 2, 3, 4].map flW)
theorem in5 : ∀ b0 b1 b2 b3 b4 : Bool, ∀ i ∈ [0, 1, 2, 3, 4], ((apd b4 (apd b3 (apd b0 (apd b2 (apd b1 [] (.str (wd 34))) (.str (wd 35))) (.str (wd 33))) (.str (wd 36))) (.str (wd 37))).any fun y => eqF y (flW i)) = ([b0, b1, b2, b3, b4] : List Bool).getD i false := by decide +kernel
theorem fl5_in (x : St) (d : Dd) (y : St) : ∀ i ∈ [0, 1, 2, 3, 4], ((fl5 x d y).any fun z => eqF z (flW i)) = flt x d y i := by
  intro i hi
  have e1 : ftL x d y = apd (flt x d y 2) (apd (flt x d y 1) [] (.str (wd 34))) (.str (wd 35)) := by
    cases d <;> rfl
  unfold fl5
  rw [e1, in5 _ _ _ _ _ i hi]
  simp only [List.mem_cons, List.not_mem_nil, or_false] at hi
  rcases hi with rfl | rfl | rfl | rfl | rfl <;> rfl
theorem ok_apd {c : Bool} {xs : List L} {v : L} (h : xs.all okF = true) (h2 : okF v = true) : (apd c xs v).all okF = true := by
  cases c
  · exact h
  · show (xs ++ [v]).all okF = true
    rw [List.all_append, h]
    show (okF v && true) = true
    rw [h2]
    rfl
theorem fl5_ok (x : St) (d : Dd) (y : St) : (fl5 x d y).all okF = true := by
  unfold fl5
  refine ok_apd (ok_apd (ok_apd ?_ (wd_ok _)) (wd_ok _)) (wd_ok _)
  cases d <;> first | rfl | exact ok_apd (ok_apd rfl (wd_ok _)) (wd_ok _)
theorem inM_f {a : L} {xs : List L} (h : okF a = true) (hx : xs.all okF = true) (s : Store) : inM a xs s = .ok (xs.any fun y => eqF y a) s := by
  unfold inM
  have e1 : toD s a = some (fdat a) := toDn_f h
  have e2 : toDs (gD s 8) xs = some (xs.map fdat) := toDs_f hx
  rw [e1, e2]
  simp only
  rw [if_pos (by rw [shp_f h, shp_lst hx]; rfl)]
  have e3 : ∀ {ys : List L}, ys.all okF = true → ((ys.map fdat).any fun z => PyData.eqv z (fdat a)) = ys.any fun y => eqF y a := by
    intro ys hy
    induction ys with
    | nil => rfl
    | cons y ys ih =>
      rw [List.all_cons, Bool.and_eq_true] at hy
      rw [List.map_cons, List.any_cons, List.any_cons, ih hy.2, eqv_f hy.1 h]
  rw [e3 hx]
theorem inO_l (kd : Str → Option (List (Str × L))) (neg : Bool) {a : L} {c : Nat} {s : Store} {xs : List L} (hc : s[c]? = some (.lst xs)) (h : okF a = true) (hx : xs.all okF = true) : inO kd neg a (.loc c) s = .ok (.bl (if neg then !(xs.any fun y => eqF y a) else (xs.any fun y => eqF y a))) s := by
  unfold inO
  have e1 : inqM kd a (.loc c) s = .ok (xs.any fun y => eqF y a) s := by
    show (getC c >>= _) s = _
    rw [bnd_ok (getC_at hc)]
    exact inM_f h hx s
  rw [e1]
def dW : Dd → L
  | .send _ _ => .str (wd 21)
  | .come _ => .str (wd 22)
  | .tick => .str (wd 23)
  | .release => .str (wd 24)
  | .renew => .str (wd 25)
  | .raise => .str (wd 26)
  | .lower => .str (wd 29)
section
variable {kd : Str → Option (List (Str × L))} {hs : FK → Bool} {F : Fns} {s : Store}
theorem st_i0 (x : St) : idxM kd (stL x) (.int 0) s = .ok (.int x.ag) s := by rw [stL, o_idxT, at0]; rfl
theorem st_i1 (x : St) : idxM kd (stL x) (.int 1) s = .ok (.int x.h) s := by rw [stL, o_idxT, at1]; rfl
theorem st_i2 (x : St) : idxM kd (stL x) (.int 2) s = .ok (.int x.tk) s := by rw [stL, o_idxT, at2]; rfl
theorem st_i3 (x : St) : idxM kd (stL x) (.int 3) s = .ok (.int x.gv) s := by rw [stL, o_idxT, at3]; rfl
theorem st_i4 (x : St) : idxM kd (stL x) (.int 4) s = .ok (ageL x.age) s := by rw [stL, o_idxT, at4]; rfl
theorem st_i5 (x : St) : idxM kd (stL x) (.int 5) s = .ok (.tup (x.mail.map lmsg)) s := by rw [stL, o_idxT, at5]; rfl
theorem dw_i0 (d : Dd) : idxM kd (dL d) (.int 0) s = .ok (dW d) s := by cases d <;> simp only [dL, dW, o_idxT, at0] <;> rfl
theorem eq_dw22 (d : Dd) : eqqM hs F (dW d) (.str (wd 22)) s = .ok (.bl (isCome d)) s := by cases d <;> simp only [dW, eqq_wd, isCome] <;> simp [wd_eq]
end
local macro_rules
  | `(tactic| walk_at "ev") => `(tactic| simp (config := {decide := false}) only [ev_var, ev_cst, ev_glb, ev_add, ev_sub, ev_mul, ev_fdv, ev_mod, ev_pow, ev_neg, ev_not, ev_eq, ev_ne, ev_lt, ev_le, ev_gt, ev_ge, ev_isn, ev_isnn, ev_inn, ev_nin, ev_and, ev_or, ev_ite, ev_tup, ev_lst, ev_dS0, ev_dSc, ev_idx, ev_fld, ev_call, ev_isi, ev_bi, ev_bx, ev_lc, ev_idxX, ev_inX, evX_disp, evX_lc0, evs_nil, evs_cons, ev_chn, ev_slc, ev_append, ev_meth,
      k1_ok, k1_ex, k2_ok, kAnd_ok, kA_b, kOr_ok, kO_b, kI_b, kCs_ok, kCons_ok, kX_ok, kN_ok, kC1_ok, kC2_ok, kC3_b, kC4_ok, kS_ok, kSl_ok, kSh_ok, pt_non, pt_som, ptI_ok, kApp_ok, kApp2_l, kApp3_ok, appG_5, dspO_5, o_ixO, o_lcO, kMeth_ok, o_mth,
      es_nil, es_cons, sSeq_nx, sSeq_rt, sSeq_ex, es_asg, sAsg_ok, sAsg_ex, es_ret, sRet_ok, sRet_ex, es_expr, sExp_ok, sExp_ex, es_ife, sIf_b, es_iset, sIs1_ok, sIs2_ok, sIs3_ok, sEnd_ok, es_asgT, sSetT_k, sSt_s, setT_tp, setT_nm, setAll_n, setAll_c, es_par, sPar1_ok, sPar2_ok, es_fset, sFs1_ok, sFs2_ok, es_rse, es_tr, sTr_nx, sTr_ex, es_fr, sFr_fix, sFr_dyn, evI_val, o_srcT, o_src, srcG_l, forFix_nil, forFix_cons, sFx_nx, sFx_rt, sFx_ex, frF_nm,
      ap_ofO, tru_b, tru_int, tru_non, o_add, o_sub, o_lt, o_le, o_gt, o_ge, o_not, o_idx, idxG_l, idxG_d, o_idxT, o_set, setG_l, setJ_s, setG_d, o_len, lenG_l, o_fld, fldG_i, o_lenT, at0, at1, at2, at3, at4, at5, at6, at7, at8, ix4_0, ix4_1, ix4_2, ix4_3, ix3_0, ix3_1, ix3_2, List.set_set, o_intI, o_intB, o_slcT, o_slcL, slcG_l, tupO_5, lstO_5, o_addT5, o_maxx, o_minn, eq_ag8, eq_lt10, eq_lt11, eq_by10, eq_by13, eq_by12, ne_by10, eq_bk14, eq_ov13, eq_rn17, eq_lw19, eq_w27, eq_w28, o_isA, o_isnA, eqq_int, eqq_wd, lcF_ev, lcE_s, cnd_non, cnd_som, lcT_ok, sg1_ok, wipe_n, wipe_c, HF_has, o_isN, o_isnN, o_isI, o_isnI,
      List.map_cons, List.map_nil, List.replicate, List.cons_append, List.nil_append, List.append_assoc, List.length_append, List.length_set, List.getElem?_cons_zero, List.getElem?_cons_succ, List.set_cons_zero, List.set_cons_succ, Option.join, Option.bind_some, id_eq, List.length_cons, List.length_nil, List.length_map, eq_self, decide_true, decide_false, decide_eq_true_eq, Nat.reduceAdd, Nat.reduceSub, Nat.reduceLeDiff, Nat.reduceLT, Nat.reduceEqDiff, Int.reduceAdd, Int.reduceSub, Int.reduceLT, Int.reduceLE, Int.reduceEq, Nat.zero_add, Nat.zero_le, Bool.not_true, Bool.not_false, Bool.not_eq_true', decide_eq_false_iff_not, if_true, if_false, ite_true, ite_false, reduceIte, Bool.false_eq_true, reduceCtorEq, wd_eq, HC_con, and_bl, or_bl, ite_nx, ite_nx0, cut24, eqq_t2, st_i0, st_i1, st_i2, st_i3, st_i4, st_i5, dw_i0, eq_dw22, faultsL, *])
/-- the deeds' defs and their faults' are there -/
class HFa (P : Pg) : Prop extends HB P where
  s1 : HF P ("step", none) d_step
  s2 : HF P ("net_of", none) d_net_of
  s3 : HF P ("come_faults", none) d_come_faults
  s4 : HF P ("faults_of", none) d_faults_of
  s5 : HC P "FAULTS" faultsL
theorem faults_ok {P : Pg} {n k : Nat} [H : HFa P] (hk : 5 ≤ k) {r : Nat} {rl : Rl} {s : Store} (hr : RlAt s r rl) (life : Int) (x : St) (hm : x.mail.length < 1000000) (d : Dd) :
    callD P n k ("faults_of", none) [.loc r, .int life, stL x, dL d] s = .ok (.loc s.length) (s ++ [.lst ((faults rl life x d).map flW)]) := by
  obtain ⟨k, rfl⟩ : ∃ j, k = j + 1 := ⟨k - 1, by omega⟩
  have i1 := H.s1
  have i2 := H.s2
  have i3 := H.s3
  have i5 := H.s5
  have c1 := step_ok (P := P) (n := n) (k := k) (by omega) hr life x hm d
  have c2 := fun x s => net_ok (P := P) (n := n) (k := k) (by omega) x s
  have c3 := fun y i h s => cf_ok (P := P) (n := n) (k := k) (by omega) x y i h s
  rw [call_at H.s4.fn rfl]
  have a1 : ∀ o : Ob, (s ++ [o])[s.length]? = some o := fun o => app_at0 s [o]
  have a2 : ∀ o o' : Ob, (s ++ [o]).set s.length o' = s ++ [o'] := set_end s
  have z0 : ([] : List L).length < 16777216 := by decide
  unfold stepL at c1
  clear hr hk hm
  cases hb : behind rl life x d with
  | none =>
    rw [hb] at c1
    simp only at c1
    simp only [d_faults_of, faults, hb]
    clear c2 c3
    walk_at "ev"
    exact fin_list (a1 _) (Nat.le_refl _) rfl
  | some y =>
    rw [hb] at c1
    simp only at c1
    have hq : ∀ e0 e1 e2 e3 e5 e6, xLc P.gl (callD P n k) n [7] (.nm 7) (.som (.inn (.var 7) (.var 4))) (.var 7) [e0, e1, e2, e3, some (.loc s.length), e5, e6, none] (.ok (.fix ([0, 1, 2, 3, 4].map flW)) (s ++ [.lst (fl5 x d y)])) = .ok ((([0, 1, 2, 3, 4] : List Nat).filter (flt x d y)).map flW) (s ++ [.lst (fl5 x d y)]) := by
      intro e0 e1 e2 e3 e5 e6
      refine xLc_fil _ _ (fun i hi => ?_) (by decide)
      have h1 : inO P.gl.kd false (flW i) (.loc s.length) (s ++ [.lst (fl5 x d y)]) = .ok (.bl (flt x d y i)) (s ++ [.lst (fl5 x d y)]) := by
        rw [inO_l (a := flW i) _ _ (a1 _) (okF_wd (33 + i)) (fl5_ok x d y), ← fl5_in x d y i hi]
        rfl
      clear c1 c2 c3 a1 a2 z0 hb
      walk_at "ev"
      split <;> rfl
    simp only [List.map_cons, List.map_nil] at hq
    have z4 : (fl5 x d y).length ≤ 16777216 := by
      unfold fl5
      have h1 : (ftL x d y).length ≤ 2 := by
        cases d <;> first | exact Nat.zero_le _ | exact Nat.le_trans (apd_len _ _ _) (Nat.succ_le_succ (apd_len _ _ _))
      exact Nat.le_trans (Nat.le_trans (apd_len _ _ _) (Nat.succ_le_succ (Nat.le_trans (apd_len _ _ _) (Nat.succ_le_succ (Nat.le_trans (apd_len _ _ _) (Nat.succ_le_succ h1)))))) (by decide)
    have hfin : ∀ xs : List Nat, noLocs (xs.map flW) = true := fun xs => by
      induction xs with
      | nil => rfl
      | cons x xs ih => exact ih
    have hf1 : fin s (.rt (.loc (s.length + 1)) (s ++ [.lst (fl5 x d y), .lst ((([0, 1, 2, 3, 4] : List Nat).filter (flt x d y)).map flW)])) = .ok (.loc s.length) (s ++ [.lst ((([0, 1, 2, 3, 4] : List Nat).filter (flt x d y)).map flW)]) := fin_list (app_at s _ 1) (Nat.le_succ _) (hfin _)
    by_cases hc : ∃ i, d = .come i
    · obtain ⟨i, rfl⟩ := hc
      have hi : i < x.mail.length := by
        simp only [behind] at hb
        cases hm : x.mail[i]? with
        | none => rw [hm] at hb; cases hb
        | some m => exact (List.getElem?_eq_some_iff.mp hm).1
      have c3' := fun s => c3 y i hi s
      have z1 : (cfL x i y).length < 16777216 := Nat.lt_of_le_of_lt (Nat.le_trans (apd_len _ _ _) (Nat.succ_le_succ (apd_len _ _ _))) (by decide)
      have z2 : ∀ c v, (apd c (cfL x i y) v).length < 16777216 := fun c v => Nat.lt_of_le_of_lt (Nat.le_trans (apd_len _ _ _) (Nat.succ_le_succ (Nat.le_trans (apd_len _ _ _) (Nat.succ_le_succ (apd_len _ _ _))))) (by decide)
      have z3 : ∀ c v c' v', (apd c' (apd c (cfL x i y) v) v').length < 16777216 := fun c v c' v' => Nat.lt_of_le_of_lt (Nat.le_trans (apd_len _ _ _) (Nat.succ_le_succ (Nat.le_trans (apd_len _ _ _) (Nat.succ_le_succ (Nat.le_trans (apd_len _ _ _) (Nat.succ_le_succ (apd_len _ _ _))))))) (by decide)
      have e5 : fl5 x (.come i) y = apd (decide (0 < y.h) && decide (y.ag - (y.tk - y.gv) < y.h)) (apd (decide (x.gv < y.gv) && decide (y.tk < y.gv)) (apd (decide (y.ag < y.tk - y.gv) && decide (x.tk < y.tk)) (cfL x i y) (.str (wd 33))) (.str (wd 36))) (.str (wd 37)) := rfl
      rw [e5] at hq hf1 z4
      have eC : isCome (.come i) = true := rfl
      simp only [d_faults_of, faults, hb]
      simp only [faultsL] at i5
      clear c3 z0 hb hi hfin e5
      walk_at "ev"
    · have eC : isCome d = false := by
        cases d <;> first | rfl | exact (hc ⟨_, rfl⟩).elim
      have z2 : ∀ c v, (apd c [] v).length < 16777216 := fun c v => Nat.lt_of_le_of_lt (apd_len _ _ _) (by decide)
      have z3 : ∀ c v c' v', (apd c' (apd c [] v) v').length < 16777216 := fun c v c' v' => Nat.lt_of_le_of_lt (Nat.le_trans (apd_len _ _ _) (Nat.succ_le_succ (apd_len _ _ _))) (by decide)
      have e5 : fl5 x d y = apd (decide (0 < y.h) && decide (y.ag - (y.tk - y.gv) < y.h)) (apd (decide (x.gv < y.gv) && decide (y.tk < y.gv)) (apd (decide (y.ag < y.tk - y.gv) && decide (x.tk < y.tk)) [] (.str (wd 33))) (.str (wd 36))) (.str (wd 37)) := by
        cases d <;> first | rfl | exact (hc ⟨_, rfl⟩).elim
      rw [e5] at hq hf1 z4
      simp only [d_faults_of, faults, hb]
      clear c3 hb hfin e5 hc
      walk_at "ev"
end D
end

section
set_option maxRecDepth 100000
set_option maxHeartbeats 1000000
/-! E6: histories run. -/
namespace D
open PySem DL HP
def okD (rl : Rl) (life : Int) (x : St) (d : Dd) : Bool := (behind rl life x d).isSome
def wordL (b : Bool) : L := .str (wd (if b then 8 else 10))
theorem stepL_eq (rl : Rl) (life : Int) (x : St) (d : Dd) : stepL rl life x d = .tup [wordL (okD rl life x d), stL (stepO rl life x d)] := by
  unfold stepL okD stepO
  cases behind rl life x d <;> rfl
theorem step_ok' {P : Pg} {n k : Nat} [H : HB P] [hf : HF P ("step", none) d_step] (hk : 4 ≤ k) {r : Nat} {rl : Rl} {s : Store} (hr : RlAt s r rl) (life : Int) (x : St) (hm : x.mail.length < 1000000) (d : Dd) :
    callD P n k ("step", none) [.loc r, .int life, stL x, dL d] s = .ok (.tup [wordL (okD rl life x d), stL (stepO rl life x d)]) s := by
  rw [step_ok hk hr life x hm d, stepL_eq]
theorem mail_step (rl : Rl) (life : Int) (x : St) (d : Dd) : (stepO rl life x d).mail.length ≤ x.mail.length + 1 := by
  unfold stepO
  cases h : behind rl life x d with
  | none => exact Nat.le_succ _
  | some y =>
    show y.mail.length ≤ _
    cases d with
    | send g a => cases h; simp only [List.length_append, List.length_cons, List.length_nil]; omega
    | come i =>
      simp only [behind] at h
      split at h
      · cases h
      · cases h
        simp only [come1, List.length_set]
        omega
    | tick =>
      simp only [behind] at h
      split at h
      · cases h
      · cases h
        split <;> exact Nat.le_succ _
    | release =>
      simp only [behind] at h
      split at h
      · cases h
      · cases h
        simp only
        split
        · rw [List.length_map]; omega
        · omega
    | renew => cases h; exact Nat.le_succ _
    | raise => cases h; exact Nat.le_succ _
    | lower =>
      simp only [behind] at h
      split at h
      · cases h
      · cases h
        exact Nat.le_succ _
def runO (rl : Rl) (life : Int) (x : St) : List Dd → List Bool
  | [] => []
  | d :: ds => okD rl life x d :: runO rl life (stepO rl life x d) ds
def standO (rl : Rl) (life : Int) (x : St) (ds : List Dd) : St := ds.foldl (stepO rl life) x
local macro_rules
  | `(tactic| walk_at "ev") => `(tactic| simp (config := {decide := false}) only [ev_var, ev_cst, ev_glb, ev_add, ev_sub, ev_mul, ev_fdv, ev_mod, ev_pow, ev_neg, ev_not, ev_eq, ev_ne, ev_lt, ev_le, ev_gt, ev_ge, ev_isn, ev_isnn, ev_inn, ev_nin, ev_and, ev_or, ev_ite, ev_tup, ev_lst, ev_dS0, ev_dSc, ev_idx, ev_fld, ev_call, ev_isi, ev_bi, ev_bx, ev_lc, ev_idxX, ev_inX, evX_disp, evX_lc0, evs_nil, evs_cons, ev_chn, ev_slc, ev_append, ev_meth,
      k1_ok, k1_ex, k2_ok, kAnd_ok, kA_b, kOr_ok, kO_b, kI_b, kCs_ok, kCons_ok, kX_ok, kN_ok, kC1_ok, kC2_ok, kC3_b, kC4_ok, kS_ok, kSl_ok, kSh_ok, pt_non, pt_som, ptI_ok, kApp_ok, kApp2_l, kApp3_ok, appG_5, dspO_5, o_ixO, o_lcO, kMeth_ok, o_mth,
      es_nil, es_cons, sSeq_nx, sSeq_rt, sSeq_ex, es_asg, sAsg_ok, sAsg_ex, es_ret, sRet_ok, sRet_ex, es_expr, sExp_ok, sExp_ex, es_ife, sIf_b, es_iset, sIs1_ok, sIs2_ok, sIs3_ok, sEnd_ok, es_asgT, sSetT_k, sSt_s, setT_tp, setT_nm, setAll_n, setAll_c, es_par, sPar1_ok, sPar2_ok, es_fset, sFs1_ok, sFs2_ok, es_rse, es_tr, sTr_nx, sTr_ex, es_fr, sFr_fix, sFr_dyn, evI_val, o_srcT, o_src, srcG_l, forFix_nil, forFix_cons, sFx_nx, sFx_rt, sFx_ex, frF_nm,
      ap_ofO, tru_b, tru_int, tru_non, o_add, o_sub, o_lt, o_le, o_gt, o_ge, o_not, o_idx, idxG_l, idxG_d, o_idxT, o_set, setG_l, setJ_s, setG_d, o_len, lenG_l, o_fld, fldG_i, o_lenT, at0, at1, at2, at3, at4, at5, at6, at7, at8, ix4_0, ix4_1, ix4_2, ix4_3, ix3_0, ix3_1, ix3_2, List.set_set, o_intI, o_intB, o_slcT, o_slcL, slcG_l, tupO_5, lstO_5, o_addT5, o_maxx, o_minn, eq_ag8, eq_lt10, eq_lt11, eq_by10, eq_by13, eq_by12, ne_by10, eq_bk14, eq_ov13, eq_rn17, eq_lw19, eq_w27, eq_w28, o_isA, o_isnA, eqq_int, eqq_wd, lcF_ev, lcE_s, cnd_non, cnd_som, lcT_ok, sg1_ok, wipe_n, wipe_c, HF_has, o_isN, o_isnN, o_isI, o_isnI,
      List.map_cons, List.map_nil, List.replicate, List.cons_append, List.nil_append, List.append_assoc, List.length_append, List.length_set, List.getElem?_cons_zero, List.getElem?_cons_succ, List.set_cons_zero, List.set_cons_succ, Option.join, Option.bind_some, id_eq, List.length_cons, List.length_nil, List.length_map, eq_self, decide_true, decide_false, decide_eq_true_eq, Nat.reduceAdd, Nat.reduceSub, Nat.reduceLeDiff, Nat.reduceLT, Nat.reduceEqDiff, Int.reduceAdd, Int.reduceSub, Int.reduceLT, Int.reduceLE, Int.reduceEq, Nat.zero_add, Nat.zero_le, Bool.not_true, Bool.not_false, Bool.not_eq_true', decide_eq_false_iff_not, if_true, if_false, ite_true, ite_false, reduceIte, Bool.false_eq_true, reduceCtorEq, wd_eq, HC_con, and_bl, or_bl, ite_nx, ite_nx0, cut24, eqq_t2, st_i0, st_i1, st_i2, st_i3, st_i4, st_i5, dw_i0, eq_dw22, *])
def srcV (v : L) (s : Store) : R Src := match v with
  | .loc c => .ok (.dyn c) s
  | .tup xs => .ok (.fix xs) s
  | _ => .bad
def histAt (s : Store) (ds : List Dd) : L → Prop
  | .loc c => s[c]? = some (.lst (ds.map dL))
  | v => v = .tup (ds.map dL)
theorem stand_ok {P : Pg} {n k : Nat} [H : HB P] [hs : HF P ("step", none) d_step] [hf : HF P ("standing_after", none) d_standing_after] (hn : 1000 < n) (hk : 5 ≤ k) {r : Nat} {rl : Rl} {s : Store} (hr : RlAt s r rl) (life a : Int) (ds : List Dd) (hl : ds.length < 1000) (hv : L) (hh : histAt s ds hv) :
    callD P n k ("standing_after", none) [.loc r, .int life, .int a, hv] s = .ok (stL (standO rl life (start a) ds)) s := by
  obtain ⟨k, rfl⟩ : ∃ j, k = j + 1 := ⟨k - 1, by omega⟩
  have i1 := H.h
  have c1 := fun x h d => step_ok' (P := P) (n := n) (k := k) (by omega) hr life x h d
  have c0 := start_ok' (P := P) (n := n) (k := k) (by omega) a s
  have c2 : ∀ (kd : Str → Option (List (Str × L))) (b : Bool) (x : St) (s : Store), idxM kd (.tup [wordL b, stL x]) (.int 1) s = .ok (stL x) s := fun kd b x s => by rw [o_idxT, at1]; rfl
  have key : ∀ b : St × Option L, b.1 = start a → b.2 = none → ∃ o, (sFr P.gl (callD P n k) n P.er (.nm 5) (.cons (.asg 4 (.idx (.call "step" (.cons (.var 0) (.cons (.var 1) (.cons (.var 4) (.cons (.var 5) .nil))))) (.cst (.int 1)))) .nil) [some (.loc r), some (.int life), some (.int a), some hv, some (stL b.1), b.2] (srcV hv s)) = .nx [some (.loc r), some (.int life), some (.int a), some hv, some (stL (standO rl life (start a) ds)), o] s := by
    intro b hb1 hb2
    have hfold : ∀ (ds : List Dd) (b : St × Option L), (ds.foldl (fun (b : St × Option L) d => (stepO rl life b.1 d, some (dL d))) b).1 = standO rl life b.1 ds := by
      intro ds
      induction ds with
      | nil => intro b; rfl
      | cons d ds ih => intro b; exact ih _
    have hstep : ∀ m ms (b : St × Option L), b.1.mail.length + (m :: ms).length < 1000 → frF P.gl (callD P n k) n P.er (.nm 5) (.cons (.asg 4 (.idx (.call "step" (.cons (.var 0) (.cons (.var 1) (.cons (.var 4) (.cons (.var 5) .nil))))) (.cst (.int 1)))) .nil) (dL m) [some (.loc r), some (.int life), some (.int a), some hv, some (stL b.1), b.2] s = .nx [some (.loc r), some (.int life), some (.int a), some hv, some (stL (stepO rl life b.1 m)), some (dL m)] s ∧ (stepO rl life b.1 m).mail.length + ms.length < 1000 := by
      intro m ms b hb
      have hm := mail_step rl life b.1 m
      simp only [List.length_cons] at hb
      have c1' := c1 b.1 (by omega) m
      refine ⟨?_, by omega⟩
      clear hm hb c1 hh hr hfold c0
      walk_at "ev"
    have h0 : b.1.mail.length + ds.length < 1000 := by rw [hb1]; show 0 + ds.length < 1000; omega
    cases hv with
    | loc c =>
      obtain ⟨h1, _⟩ := forDyn_run (f := frF P.gl (callD P n k) n P.er (.nm 5) (.cons (.asg 4 (.idx (.call "step" (.cons (.var 0) (.cons (.var 1) (.cons (.var 4) (.cons (.var 5) .nil))))) (.cst (.int 1)))) .nil)) (c := c) (g := dL) ds (fun b : St × Option L => [some (.loc r), some (.int life), some (.int a), some (.loc c), some (stL b.1), b.2]) (fun _ => s) (fun b d => (stepO rl life b.1 d, some (dL d))) (fun ms b => b.1.mail.length + ms.length < 1000) (fun _ _ _ => hh) hstep ds [] b n rfl (by omega) h0
      refine ⟨(ds.foldl (fun (b : St × Option L) d => (stepO rl life b.1 d, some (dL d))) b).2, ?_⟩
      have e1 : srcV (.loc c) s = .ok (.dyn c) s := rfl
      rw [e1, sFr_dyn]
      refine h1.trans ?_
      simp only [hfold, hb1]
    | tup xs =>
      have hx : xs = ds.map dL := by
        have : L.tup xs = .tup (ds.map dL) := hh
        cases this
        rfl
      subst hx
      obtain ⟨h1, _⟩ := forFix_run (f := frF P.gl (callD P n k) n P.er (.nm 5) (.cons (.asg 4 (.idx (.call "step" (.cons (.var 0) (.cons (.var 1) (.cons (.var 4) (.cons (.var 5) .nil))))) (.cst (.int 1)))) .nil)) (g := dL) (fun b : St × Option L => [some (.loc r), some (.int life), some (.int a), some (.tup (ds.map dL)), some (stL b.1), b.2]) (fun _ => s) (fun b d => (stepO rl life b.1 d, some (dL d))) (fun ms b => b.1.mail.length + ms.length < 1000) hstep ds b h0
      refine ⟨(ds.foldl (fun (b : St × Option L) d => (stepO rl life b.1 d, some (dL d))) b).2, ?_⟩
      have e1 : srcV (.tup (ds.map dL)) s = .ok (.fix (ds.map dL)) s := rfl
      rw [e1, sFr_fix]
      refine h1.trans ?_
      simp only [hfold, hb1]
    | _ => exact L.noConfusion (show _ = L.tup (ds.map dL) from hh)
  obtain ⟨o, hkey⟩ := key (start a, none) rfl rfl
  simp only at hkey
  have hS : srcOf hv s = srcV hv s := by
    cases hv with
    | loc c => rw [o_src, show s[c]? = _ from hh]; rfl
    | tup xs => rfl
    | _ => exact L.noConfusion (show _ = L.tup (ds.map dL) from hh)
  rw [call_at hf.fn rfl]
  simp only [d_standing_after]
  clear key hr c1 c2 hh
  walk_at "ev"
  exact fin_here (noLoc_st _)
end D
end

section
set_option maxRecDepth 100000
set_option maxHeartbeats 1000000
/-! E7: the law's own account of a hold. -/
namespace D
open PySem DL HP
def stD (x : St) (m : Nat) : List (Str × L) := [(wd 11, .int x.ag), (wd 30, .int x.h), (wd 12, .int x.tk), (wd 16, .int x.gv), (wd 31, ageL x.age), (wd 32, .loc m)]
theorem lkD11 (x : St) (m : Nat) : lk (wd 11) (stD x m) = some (.int x.ag) := by simp [lk, stD, wd_eq]
theorem lkD30 (x : St) (m : Nat) : lk (wd 30) (stD x m) = some (.int x.h) := by simp [lk, stD, wd_eq]
theorem lkD12 (x : St) (m : Nat) : lk (wd 12) (stD x m) = some (.int x.tk) := by simp [lk, stD, wd_eq]
theorem lkD16 (x : St) (m : Nat) : lk (wd 16) (stD x m) = some (.int x.gv) := by simp [lk, stD, wd_eq]
theorem lkD31 (x : St) (m : Nat) : lk (wd 31) (stD x m) = some (ageL x.age) := by simp [lk, stD, wd_eq]
theorem lkD32 (x : St) (m : Nat) : lk (wd 32) (stD x m) = some (.loc m) := by simp [lk, stD, wd_eq]
theorem putD11 (x : St) (m : Nat) (v : Int) : putD (wd 11) (.int v) (stD x m) = stD { x with ag := v } m := by simp [putD, stD, wd_eq]
theorem putD30 (x : St) (m : Nat) (v : Int) : putD (wd 30) (.int v) (stD x m) = stD { x with h := v } m := by simp [putD, stD, wd_eq]
theorem putD12 (x : St) (m : Nat) (v : Int) : putD (wd 12) (.int v) (stD x m) = stD { x with tk := v } m := by simp [putD, stD, wd_eq]
theorem putD16 (x : St) (m : Nat) (v : Int) : putD (wd 16) (.int v) (stD x m) = stD { x with gv := v } m := by simp [putD, stD, wd_eq]
theorem putD31i (x : St) (m : Nat) (v : Int) : putD (wd 31) (.int v) (stD x m) = stD { x with age := some v } m := by simp [putD, stD, wd_eq, ageL]
theorem putD31n (x : St) (m : Nat) : putD (wd 31) .non (stD x m) = stD { x with age := none } m := by simp [putD, stD, wd_eq, ageL]
theorem stD_len (x : St) (m : Nat) : (stD x m).length = 6 := by simp [stD]
theorem setG_d5 (c : Nat) (k : Str) (v : L) (s : Store) (xs : List (Str × L)) (hl : xs.length < 16777216) : setG c (.str k) v s (some (.dS xs)) = .ok () (s.set c (.dS (putD k v xs))) := if_pos hl
theorem inMO_f (a : L) (xs : List L) (s : Store) (h : okF a = true) (hx : xs.all okF = true) : inMO a xs s = .ok (.bl (xs.any fun y => eqF y a)) s := by
  unfold inMO
  rw [inM_f h hx]
theorem neO_int (i j : Int) (s : Store) : neO (.int i) (.int j) s = .ok (.bl !(decide (i = j))) s := by unfold neO; rw [eqM_int]
/-- cells of a state: the dict, its mail, the mail's rows -/
structure SA (s : Store) (d m : Nat) (rs : List Nat) (x : St) : Prop where
  c : s[d]? = some (.dS (stD x m))
  l : s[m]? = some (.lst (rs.map .loc))
  len : rs.length = x.mail.length
  r : ∀ (i q : Nat) (g : Msg), rs[i]? = some q → x.mail[i]? = some g → s[q]? = some (.lst [wL g.give, .int g.sum, .int g.times])
  nd : (d :: m :: rs).Nodup
/-- nothing but these changed -/
structure Fm (F : List Nat) (s s' : Store) : Prop where
  len : s.length ≤ s'.length
  at_ : ∀ i, i < s.length → i ∉ F → s'[i]? = s[i]?
theorem Fm.refl (F : List Nat) (s : Store) : Fm F s s := ⟨Nat.le_refl _, fun _ _ _ => rfl⟩
theorem Fm.trans {F : List Nat} {s s' s'' : Store} (h : Fm F s s') (h' : Fm F s' s'') : Fm F s s'' := ⟨Nat.le_trans h.len h'.len, fun i hi hd => by rw [h'.at_ i (Nat.lt_of_lt_of_le hi h.len) hd, h.at_ i hi hd]⟩
theorem Fm.mono {F F' : List Nat} {s s' : Store} (h : Fm F s s') (i : ∀ q, q < s.length → q ∈ F → q ∈ F') : Fm F' s s' := ⟨h.len, fun q hq hf => h.at_ q hq fun hF => hf (i q hq hF)⟩
theorem Fm.set {F : List Nat} {s : Store} {c : Nat} {o : Ob} (h : c ∈ F) : Fm F s (s.set c o) := ⟨by rw [List.length_set]; exact Nat.le_refl _, fun i _ hf => sl_set fun e => hf (e ▸ h)⟩
theorem Fm.app (F : List Nat) (s g : Store) : Fm F s (s ++ g) := ⟨by rw [List.length_append]; omega, fun i hi _ => sl_app hi⟩
theorem Fm.at {F : List Nat} {s s' : Store} (h : Fm F s s') {i : Nat} {o : Ob} (hi : s[i]? = some o) (hf : i ∉ F) : s'[i]? = some o := by rw [h.at_ i (at_lt hi) hf]; exact hi
local macro_rules
  | `(tactic| walk_at "ev") => `(tactic| simp (config := {decide := false}) only [ev_var, ev_cst, ev_glb, ev_add, ev_sub, ev_mul, ev_fdv, ev_mod, ev_pow, ev_neg, ev_not, ev_eq, ev_ne, ev_lt, ev_le, ev_gt, ev_ge, ev_isn, ev_isnn, ev_inn, ev_nin, ev_and, ev_or, ev_ite, ev_tup, ev_lst, ev_dS0, ev_dSc, ev_idx, ev_fld, ev_call, ev_isi, ev_bi, ev_bx, ev_lc, ev_idxX, ev_inX, evX_disp, evX_lc0, evs_nil, evs_cons, ev_chn, ev_slc, ev_append, ev_meth,
      k1_ok, k1_ex, k2_ok, kAnd_ok, kA_b, kOr_ok, kO_b, kI_b, kCs_ok, kCons_ok, kX_ok, kN_ok, kC1_ok, kC2_ok, kC3_b, kC4_ok, kS_ok, kSl_ok, kSh_ok, pt_non, pt_som, ptI_ok, kApp_ok, kApp2_l, kApp3_ok, appG_5, dspO_5, o_ixO, o_lcO, kMeth_ok, o_mth,
      es_nil, es_cons, sSeq_nx, sSeq_rt, sSeq_ex, es_asg, sAsg_ok, sAsg_ex, es_ret, sRet_ok, sRet_ex, es_expr, sExp_ok, sExp_ex, es_ife, sIf_b, es_iset, sIs1_ok, sIs2_ok, sIs3_ok, sEnd_ok, es_asgT, sSetT_k, sSt_s, setT_tp, setT_nm, setAll_n, setAll_c, es_par, sPar1_ok, sPar2_ok, es_fset, sFs1_ok, sFs2_ok, es_rse, es_tr, sTr_nx, sTr_ex, es_fr, sFr_fix, sFr_dyn, evI_val, o_srcT, o_src, srcG_l, forFix_nil, forFix_cons, sFx_nx, sFx_rt, sFx_ex, frF_nm,
      ap_ofO, tru_b, tru_int, tru_non, o_add, o_sub, o_lt, o_le, o_gt, o_ge, o_not, o_idx, idxG_l, idxG_d, o_idxT, o_set, setG_l, setJ_s, setG_d, o_len, lenG_l, o_fld, fldG_i, o_lenT, at0, at1, at2, at3, at4, at5, at6, at7, at8, ix4_0, ix4_1, ix4_2, ix4_3, ix3_0, ix3_1, ix3_2, List.set_set, o_intI, o_intB, o_slcT, o_slcL, slcG_l, tupO_5, lstO_5, o_addT5, o_maxx, o_minn, eq_ag8, eq_lt10, eq_lt11, eq_by10, eq_by13, eq_by12, ne_by10, eq_bk14, eq_ov13, eq_rn17, eq_lw19, eq_w27, eq_w28, o_isA, o_isnA, eqq_int, eqq_wd, lcF_ev, lcE_s, cnd_non, cnd_som, lcT_ok, sg1_ok, wipe_n, wipe_c, HF_has, o_isN, o_isnN, o_isI, o_isnI,
      List.map_cons, List.map_nil, List.replicate, List.cons_append, List.nil_append, List.append_assoc, List.length_append, List.length_set, List.getElem?_cons_zero, List.getElem?_cons_succ, List.set_cons_zero, List.set_cons_succ, Option.join, Option.bind_some, id_eq, List.length_cons, List.length_nil, List.length_map, eq_self, decide_true, decide_false, decide_eq_true_eq, Nat.reduceAdd, Nat.reduceSub, Nat.reduceLeDiff, Nat.reduceLT, Nat.reduceEqDiff, Int.reduceAdd, Int.reduceSub, Int.reduceLT, Int.reduceLE, Int.reduceEq, Nat.zero_add, Nat.zero_le, Bool.not_true, Bool.not_false, Bool.not_eq_true', decide_eq_false_iff_not, if_true, if_false, ite_true, ite_false, reduceIte, Bool.false_eq_true, reduceCtorEq, wd_eq, HC_con, and_bl, or_bl, ite_nx, ite_nx0, cut24, eqq_t2, st_i0, st_i1, st_i2, st_i3, st_i4, st_i5, dw_i0, eq_dw22, Int.add_zero, lkD11, lkD30, lkD12, lkD16, lkD31, lkD32, putD11, putD30, putD12, putD16, putD31i, putD31n, stD_len, setG_d5, inMO_f, okF_wd, List.all_cons, List.all_nil, List.any_cons, List.any_nil, eqF_wd, Bool.and_true, Bool.true_and, Bool.and_self, Bool.or_false, Bool.or_true, Bool.false_or, Bool.true_or, Bool.or_self, Bool.and_false, Bool.false_and, neO_wd, neO_int, HP.St.wth, *])
theorem lnet_ok {P : Pg} {n k : Nat} [hf : HF P ("_law_net", none) d__law_net] (hk : 1 ≤ k) {d m : Nat} {x : St} {s : Store} (hd : s[d]? = some (.dS (stD x m))) : callD P n k ("_law_net", none) [.loc d] s = .ok (.int (x.tk - x.gv)) s := by
  obtain ⟨k, rfl⟩ : ∃ j, k = j + 1 := ⟨k - 1, by omega⟩
  rw [call_at hf.fn rfl]
  simp only [d__law_net]
  walk_at "ev"
  exact fin_here rfl
theorem set_same {s : Store} {i : Nat} {o : Ob} (h : s[i]? = some o) : s.set i o = s := by
  apply List.ext_getElem?
  intro j
  by_cases e : i = j
  · subst e; rw [sl_self (at_lt h), h]
  · rw [sl_set e]
abbrev PaAt (s : Store) (c : Nat) (rl : Rl) : Prop := s[c]? = some (.lst (rlL rl))
def tkS (rl : Rl) (x : St) (a : Int) : Int × Int × Int := match x.age with
  | none => lateS rl x.ag x.h x.tk x.gv a
  | some _ => openS rl x.h x.tk x.gv a
theorem ltake_ok {P : Pg} {n k : Nat} [hf : HF P ("_law_take", none) d__law_take] [hg : HF P ("_law_net", none) d__law_net] (hk : 2 ≤ k) {c d m : Nat} {rl : Rl} {x : St} {s : Store} (hc : PaAt s c rl) (hd : s[d]? = some (.dS (stD x m))) (a : Int) :
    callD P n k ("_law_take", none) [.loc c, .loc d, .int a] s = .ok .non (s.set d (.dS (stD (x.wth (tkS rl x a)) m))) := by
  obtain ⟨k, rfl⟩ : ∃ j, k = j + 1 := ⟨k - 1, by omega⟩
  have hcd : d ≠ c := fun e => by rw [e] at hd; rw [show s[c]? = _ from hc] at hd; cases hd
  have c1 := lnet_ok (P := P) (n := n) (k := k) (by omega) hd
  have hlt := at_lt hd
  have g1 : ∀ X, (s.set d X)[d]? = some X := fun X => sl_self hlt
  have g2 : ∀ X, (s.set d X)[c]? = s[c]? := fun X => sl_set hcd
  have hc' : s[c]? = some (.lst (rlL rl)) := hc
  simp only [rlL] at hc'
  have hq : ∀ e X, fin s (.nx e (s.set d X)) = .ok .non (s.set d X) := fun e X => gcR_same rfl (by rw [List.length_set])
  have hq0 : ∀ e, fin s (.nx e s) = .ok .non s := fun e => finn_here
  rw [call_at hf.fn rfl]
  simp only [d__law_take]
  cases ha : x.age with
  | none =>
    have ea : ageL x.age = .non := by rw [ha]; rfl
    have em : max 0 (min a (x.ag - (x.tk - x.gv))) = max (min a (x.ag - (x.tk - x.gv))) 0 := Int.max_comm _ _
    simp only [tkS, ha, lateS]
    clear hc hcd hk hlt ha
    cases hl : rl.late <;> rw [hl] at hc' <;> simp only [ltL] at hc' <;> clear hl
    · walk_at "ev"
    · walk_at "ev"
    · walk_at "ev"
  | some b =>
    have ea : ageL x.age = .int b := by rw [ha]; rfl
    simp only [tkS, ha, openS]
    clear hc hcd hk hlt ha
    by_cases hle : a ≤ x.h
    · walk_at "ev"
    · cases hb : rl.bey <;> rw [hb] at hc' <;> simp only [byL] at hc' <;> clear hb
      · walk_at "ev"
        exact congrArg _ (set_same hd).symm
      · walk_at "ev"
      · walk_at "ev"
theorem lgive_ok {P : Pg} {n k : Nat} [hf : HF P ("_law_give", none) d__law_give] [hg : HF P ("_law_net", none) d__law_net] (hk : 2 ≤ k) {c d m : Nat} {rl : Rl} {x : St} {s : Store} (hc : PaAt s c rl) (hd : s[d]? = some (.dS (stD x m))) (a : Int) :
    callD P n k ("_law_give", none) [.loc c, .loc d, .int a] s = .ok .non (s.set d (.dS (stD (x.wth (giveS rl x.age.isSome x.h x.tk x.gv a)) m))) := by
  obtain ⟨k, rfl⟩ : ∃ j, k = j + 1 := ⟨k - 1, by omega⟩
  have hcd : d ≠ c := fun e => by rw [e] at hd; rw [show s[c]? = _ from hc] at hd; cases hd
  have c1 := lnet_ok (P := P) (n := n) (k := k) (by omega) hd
  have hlt := at_lt hd
  have g1 : ∀ X, (s.set d X)[d]? = some X := fun X => sl_self hlt
  have g2 : ∀ X, (s.set d X)[c]? = s[c]? := fun X => sl_set hcd
  have hc' : s[c]? = some (.lst (rlL rl)) := hc
  simp only [rlL] at hc'
  have hq : ∀ e X, fin s (.nx e (s.set d X)) = .ok .non (s.set d X) := fun e X => gcR_same rfl (by rw [List.length_set])
  have em : max 0 (min a (x.tk - x.gv)) = max (min a (x.tk - x.gv)) 0 := Int.max_comm _ _
  rw [call_at hf.fn rfl]
  simp only [d__law_give, giveS, part]
  clear hc hcd hk hlt
  cases ho : x.age.isSome <;> cases hg : rl.giv <;> cases hs : rl.stays <;> rw [hg, hs] at hc' <;> walk_at "ev"
theorem lend_ok {P : Pg} {n k : Nat} [hf : HF P ("_law_end", none) d__law_end] (hk : 1 ≤ k) {d m : Nat} {x : St} {s : Store} (hd : s[d]? = some (.dS (stD x m))) :
    callD P n k ("_law_end", none) [.loc d] s = .ok .non (s.set d (.dS (stD { x with h := 0, age := none } m))) := by
  obtain ⟨k, rfl⟩ : ∃ j, k = j + 1 := ⟨k - 1, by omega⟩
  have hlt := at_lt hd
  have g1 : ∀ X, (s.set d X)[d]? = some X := fun X => sl_self hlt
  have hq : ∀ e X, fin s (.nx e (s.set d X)) = .ok .non (s.set d X) := fun e X => gcR_same rfl (by rw [List.length_set])
  rw [call_at hf.fn rfl]
  simp only [d__law_end]
  clear hk hlt
  walk_at "ev"
def freeB (x : St) : Dd → Bool
  | .come i => decide (i < x.mail.length)
  | .tick | .release => x.age.isSome
  | .lower => decide (0 < x.ag)
  | _ => true
theorem lfree_ok {P : Pg} {n k : Nat} [hf : HF P ("_law_free", none) d__law_free] (hk : 1 ≤ k) {d m : Nat} {rs : List Nat} {x : St} {s : Store} (h : SA s d m rs x) (dd : Dd) :
    callD P n k ("_law_free", none) [.loc d, dL dd] s = .ok (.bl (freeB x dd)) s := by
  obtain ⟨k, rfl⟩ : ∃ j, k = j + 1 := ⟨k - 1, by omega⟩
  obtain ⟨hd, hm, hl, _, _⟩ := h
  rw [call_at hf.fn rfl]
  simp only [d__law_free]
  clear hk
  cases dd with
  | come i =>
    have i0 : (0 : Int) ≤ (i : Int) := by omega
    have e1 : decide ((i : Int) < (x.mail.length : Int)) = decide (i < x.mail.length) := by
      by_cases q : i < x.mail.length
      · rw [decide_eq_true q, decide_eq_true (by omega)]
      · rw [decide_eq_false q, decide_eq_false (by omega)]
    simp only [dL, freeB]
    walk_at "ev"
    exact fin_here rfl
  | _ =>
    simp only [dL, freeB]
    walk_at "ev"
    first | exact fin_here rfl | skip
end D
end

section
set_option maxRecDepth 100000
set_option maxHeartbeats 1000000
/-! E8: a state made, copied, told; a message's coming. -/
namespace D
open PySem DL HP
local macro_rules
  | `(tactic| walk_at "ev") => `(tactic| simp (config := {decide := false}) only [ev_var, ev_cst, ev_glb, ev_add, ev_sub, ev_mul, ev_fdv, ev_mod, ev_pow, ev_neg, ev_not, ev_eq, ev_ne, ev_lt, ev_le, ev_gt, ev_ge, ev_isn, ev_isnn, ev_inn, ev_nin, ev_and, ev_or, ev_ite, ev_tup, ev_lst, ev_dS0, ev_dSc, ev_idx, ev_fld, ev_call, ev_isi, ev_bi, ev_bx, ev_lc, ev_idxX, ev_inX, evX_disp, evX_lc0, evs_nil, evs_cons, ev_chn, ev_slc, ev_append, ev_meth,
      k1_ok, k1_ex, k2_ok, kAnd_ok, kA_b, kOr_ok, kO_b, kI_b, kCs_ok, kCons_ok, kX_ok, kN_ok, kC1_ok, kC2_ok, kC3_b, kC4_ok, kS_ok, kSl_ok, kSh_ok, pt_non, pt_som, ptI_ok, kApp_ok, kApp2_l, kApp3_ok, appG_5, dspO_5, o_ixO, o_lcO, kMeth_ok, o_mth,
      es_nil, es_cons, sSeq_nx, sSeq_rt, sSeq_ex, es_asg, sAsg_ok, sAsg_ex, es_ret, sRet_ok, sRet_ex, es_expr, sExp_ok, sExp_ex, es_ife, sIf_b, es_iset, sIs1_ok, sIs2_ok, sIs3_ok, sEnd_ok, es_asgT, sSetT_k, sSt_s, setT_tp, setT_nm, setAll_n, setAll_c, es_par, sPar1_ok, sPar2_ok, es_fset, sFs1_ok, sFs2_ok, es_rse, es_tr, sTr_nx, sTr_ex, es_fr, sFr_fix, sFr_dyn, evI_val, o_srcT, o_src, srcG_l, forFix_nil, forFix_cons, sFx_nx, sFx_rt, sFx_ex, frF_nm,
      ap_ofO, tru_b, tru_int, tru_non, o_add, o_sub, o_lt, o_le, o_gt, o_ge, o_not, o_idx, idxG_l, idxG_d, o_idxT, o_set, setG_l, setJ_s, setG_d, o_len, lenG_l, o_fld, fldG_i, o_lenT, at0, at1, at2, at3, at4, at5, at6, at7, at8, ix4_0, ix4_1, ix4_2, ix4_3, ix3_0, ix3_1, ix3_2, List.set_set, o_intI, o_intB, o_slcT, o_slcL, slcG_l, tupO_5, lstO_5, o_addT5, o_maxx, o_minn, eq_ag8, eq_lt10, eq_lt11, eq_by10, eq_by13, eq_by12, ne_by10, eq_bk14, eq_ov13, eq_rn17, eq_lw19, eq_w27, eq_w28, o_isA, o_isnA, eqq_int, eqq_wd, lcF_ev, lcE_s, cnd_non, cnd_som, lcT_ok, sg1_ok, wipe_n, wipe_c, HF_has, o_isN, o_isnN, o_isI, o_isnI,
      List.map_cons, List.map_nil, List.replicate, List.cons_append, List.nil_append, List.append_assoc, List.length_append, List.length_set, List.getElem?_cons_zero, List.getElem?_cons_succ, List.set_cons_zero, List.set_cons_succ, Option.join, Option.bind_some, id_eq, List.length_cons, List.length_nil, List.length_map, eq_self, decide_true, decide_false, decide_eq_true_eq, Nat.reduceAdd, Nat.reduceSub, Nat.reduceLeDiff, Nat.reduceLT, Nat.reduceEqDiff, Int.reduceAdd, Int.reduceSub, Int.reduceLT, Int.reduceLE, Int.reduceEq, Nat.zero_add, Nat.zero_le, Bool.not_true, Bool.not_false, Bool.not_eq_true', decide_eq_false_iff_not, if_true, if_false, ite_true, ite_false, reduceIte, Bool.false_eq_true, reduceCtorEq, wd_eq, HC_con, and_bl, or_bl, ite_nx, ite_nx0, cut24, eqq_t2, st_i0, st_i1, st_i2, st_i3, st_i4, st_i5, dw_i0, eq_dw22, Int.add_zero, lkD11, lkD30, lkD12, lkD16, lkD31, lkD32, putD11, putD30, putD12, putD16, putD31i, putD31n, stD_len, setG_d5, inMO_f, okF_wd, List.all_cons, List.all_nil, List.any_cons, List.any_nil, eqF_wd, Bool.and_true, Bool.true_and, Bool.and_self, Bool.or_false, Bool.or_true, Bool.false_or, Bool.true_or, Bool.or_self, Bool.and_false, Bool.false_and, neO_wd, neO_int, HP.St.wth, *])
theorem fin_dic {s g : Store} {k : Nat} {kvs : List (Str × L)} (hk : (s ++ g)[k]? = some (.dS kvs)) : fin s (.rt (.loc k) (s ++ g)) = .ok (.loc k) (s ++ g) := by
  show gcR _ _ _ = _
  unfold gcR
  rw [if_pos (take_app s _), if_neg (by show ¬ (false = true); decide)]
  simp only [hk]
theorem ne_nm {a b : Nat} {l : List Nat} (h : a ∉ l) (hb : b ∈ l) : a ≠ b := fun e => h (e ▸ hb)
theorem SA.keep {s s' : Store} {d m : Nat} {rs : List Nat} {x : St} (h : SA s d m rs x) (hk : ∀ i, i ∈ d :: m :: rs → s'[i]? = s[i]?) : SA s' d m rs x where
  c := by rw [hk d List.mem_cons_self]; exact h.c
  l := by rw [hk m (List.mem_cons_of_mem _ List.mem_cons_self)]; exact h.l
  len := h.len
  r := fun i q g hq hg => by rw [hk q (List.mem_cons_of_mem _ (List.mem_cons_of_mem _ (List.mem_of_getElem? hq)))]; exact h.r i q g hq hg
  nd := h.nd
theorem SA.lt {s : Store} {d m : Nat} {rs : List Nat} {x : St} (h : SA s d m rs x) : ∀ i, i ∈ d :: m :: rs → i < s.length := by
  intro i hi
  rcases List.mem_cons.mp hi with rfl | hi
  · exact at_lt h.c
  · rcases List.mem_cons.mp hi with rfl | hi
    · exact at_lt h.l
    · obtain ⟨j, hj, e⟩ := List.getElem_of_mem hi
      have h1 : rs[j]? = some i := by rw [List.getElem?_eq_getElem hj, e]
      have h2 : j < x.mail.length := by rw [← h.len]; exact hj
      exact at_lt (h.r j i _ h1 (List.getElem?_eq_getElem h2))
theorem SA.frame {s s' : Store} {d m : Nat} {rs : List Nat} {x : St} {F : List Nat} (h : SA s d m rs x) (hf : Fm F s s') (hd : ∀ i, i ∈ d :: m :: rs → i ∉ F) : SA s' d m rs x := h.keep fun i hi => hf.at_ i (h.lt i hi) (hd i hi)
theorem SA.app {s : Store} {d m : Nat} {rs : List Nat} {x : St} (h : SA s d m rs x) (g : Store) : SA (s ++ g) d m rs x := h.keep fun i hi => sl_app (h.lt i hi)
theorem SA.setD {s : Store} {d m : Nat} {rs : List Nat} {x x' : St} (h : SA s d m rs x) (e : x'.mail = x.mail) : SA (s.set d (.dS (stD x' m))) d m rs x' := by
  have hn := h.nd
  rw [List.nodup_cons] at hn
  exact ⟨sl_self (at_lt h.c), by rw [sl_set (ne_nm hn.1 List.mem_cons_self)]; exact h.l, by rw [e]; exact h.len, fun i q g hq hg => by
    rw [sl_set (ne_nm hn.1 (List.mem_cons_of_mem _ (List.mem_of_getElem? hq)))]
    exact h.r i q g hq (by rw [← e]; exact hg), h.nd⟩
theorem SA.setRow {s : Store} {d m : Nat} {rs : List Nat} {x : St} (h : SA s d m rs x) {i q : Nat} (hq : rs[i]? = some q) (g : Msg) : SA (s.set q (.lst [wL g.give, .int g.sum, .int g.times])) d m rs { x with mail := x.mail.set i g } := by
  have hn := h.nd
  rw [List.nodup_cons, List.nodup_cons] at hn
  have hqm := List.mem_of_getElem? hq
  have hql := h.lt q (List.mem_cons_of_mem _ (List.mem_cons_of_mem _ hqm))
  refine ⟨by rw [sl_set (ne_nm hn.1 (List.mem_cons_of_mem _ hqm)).symm]; exact h.c, by rw [sl_set (ne_nm hn.2.1 hqm).symm]; exact h.l, by rw [List.length_set]; exact h.len, fun j q' g' hq' hg' => ?_, h.nd⟩
  simp only at hg'
  by_cases e : i = j
  · subst e
    rw [hq] at hq'
    cases hq'
    have hlt : i < x.mail.length := by rw [← h.len]; exact (List.getElem?_eq_some_iff.mp hq).1
    rw [List.getElem?_set_self hlt] at hg'
    cases hg'
    exact sl_self hql
  · rw [List.getElem?_set_ne e] at hg'
    have e2 : q ≠ q' := fun e2 => by
      subst e2
      obtain ⟨l1, q1⟩ := List.getElem?_eq_some_iff.mp hq
      obtain ⟨l2, q2⟩ := List.getElem?_eq_some_iff.mp hq'
      exact e ((List.getElem_inj hn.2.2).mp (q1.trans q2.symm))
    rw [sl_set e2]
    exact h.r j q' g' hq' hg'
theorem SA.push {s : Store} {d m : Nat} {rs : List Nat} {x : St} (h : SA s d m rs x) (g : Msg) : SA ((s ++ [Ob.lst [wL g.give, .int g.sum, .int g.times]]).set m (Ob.lst (rs.map L.loc ++ [L.loc s.length]))) d m (rs ++ [s.length]) { x with mail := x.mail ++ [g] } := by
  have hn := h.nd
  have hlt := h.lt
  rw [List.nodup_cons, List.nodup_cons] at hn
  have hm := hlt m (List.mem_cons_of_mem _ List.mem_cons_self)
  have hd := hlt d List.mem_cons_self
  refine ⟨by rw [sl_set (ne_nm hn.1 List.mem_cons_self).symm, sl_app hd]; exact h.c, by rw [sl_self (by rw [List.length_append]; omega), List.map_append]; rfl, by simp only [List.length_append, h.len]; rfl, fun j q g' hq hg => ?_, ?_⟩
  · simp only at hg
    by_cases hj : j < rs.length
    · rw [List.getElem?_append_left hj] at hq
      rw [List.getElem?_append_left (by rw [← h.len]; exact hj)] at hg
      have hqm := List.mem_of_getElem? hq
      rw [sl_set (ne_nm hn.2.1 hqm), sl_app (hlt q (List.mem_cons_of_mem _ (List.mem_cons_of_mem _ hqm)))]
      exact h.r j q g' hq hg
    · rw [List.getElem?_append_right (by omega)] at hq
      rw [List.getElem?_append_right (by rw [← h.len]; omega), ← h.len] at hg
      have e0 : j - rs.length = 0 := by
        rcases h0 : j - rs.length with _ | t
        · rfl
        · rw [h0] at hq; cases hq
      rw [e0] at hq hg
      cases hq
      cases hg
      rw [sl_set (by omega), sl_new (Nat.le_refl _), Nat.sub_self]
      rfl
  · have hs : ∀ i, i ∈ d :: m :: rs → i ≠ s.length := fun i hi => Nat.ne_of_lt (hlt i hi)
    show (d :: m :: (rs ++ [s.length])).Nodup
    have : d :: m :: (rs ++ [s.length]) = (d :: m :: rs) ++ [s.length] := rfl
    rw [this, List.nodup_append]
    exact ⟨h.nd, by simp, fun a ha b hb => by rw [List.mem_singleton.mp hb]; exact hs a ha⟩
theorem dSc_st (a b c d : Int) (m : Nat) (s : Store) : dScO [wd 11, wd 30, wd 12, wd 16, wd 31, wd 32] [.int a, .int b, .int c, .int d, .int 0, .loc m] s = .ok (.loc s.length) (s ++ [.dS (stD ⟨a, b, c, d, some 0, []⟩ m)]) := by
  unfold dScO
  rw [if_pos ⟨rfl, by decide⟩]
  simp [merge, putD, wd_eq, stD, ageL]
theorem lnew_ok {P : Pg} {n k : Nat} [hf : HF P ("_law_new", none) d__law_new] (hk : 1 ≤ k) (a : Int) (s : Store) :
    callD P n k ("_law_new", none) [.int a] s = .ok (.loc (s.length + 1)) (s ++ [.lst [], .dS (stD (start a) s.length)]) := by
  obtain ⟨k, rfl⟩ : ∃ j, k = j + 1 := ⟨k - 1, by omega⟩
  have h1 := fun m s => dSc_st a a 0 0 m s
  rw [call_at hf.fn rfl]
  simp only [d__law_new]
  walk_at "ev"
  exact fin_dic (app_at s _ 1)
theorem lnew_sa (a : Int) (s : Store) : SA (s ++ [.lst [], .dS (stD (start a) s.length)]) (s.length + 1) s.length [] (start a) :=
  ⟨app_at s _ 1, app_at0 s _, rfl, fun i q g hq _ => (by cases hq), by simp⟩
/-! the state as a key -/
theorem rs_zip {rs : List Nat} {ms : List Msg} (h : rs.length = ms.length) : rs.map L.loc = (rs.zip ms).map fun p => L.loc p.1 := by
  have e : ((rs.zip ms).map Prod.fst).map L.loc = (rs.zip ms).map fun p => L.loc p.1 := List.map_map
  rw [← e, List.map_fst_zip (by omega)]
theorem ms_zip {rs : List Nat} {ms : List Msg} (h : rs.length = ms.length) : ms.map lmsg = (rs.zip ms).map fun p => lmsg p.2 := by
  have e : ((rs.zip ms).map Prod.snd).map lmsg = (rs.zip ms).map fun p => lmsg p.2 := List.map_map
  rw [← e, List.map_snd_zip (by omega)]
theorem SA.zip {s : Store} {d m : Nat} {rs : List Nat} {x : St} (h : SA s d m rs x) : ∀ p ∈ rs.zip x.mail, s[p.1]? = some (.lst [wL p.2.give, .int p.2.sum, .int p.2.times]) := by
  intro p hp
  obtain ⟨i, hi, e⟩ := List.getElem_of_mem hp
  rw [List.getElem_zip] at e
  rw [List.length_zip] at hi
  have h1 : rs[i]? = some p.1 := by rw [List.getElem?_eq_getElem (by omega), ← e]
  have h2 : x.mail[i]? = some p.2 := by rw [List.getElem?_eq_getElem (by omega), ← e]
  exact h.r i p.1 p.2 h1 h2
theorem lkey_ok {P : Pg} {n k : Nat} [hf : HF P ("_law_key", none) d__law_key] (hn : 1000 < n) (hk : 1 ≤ k) {d m : Nat} {rs : List Nat} {x : St} {s : Store} (h : SA s d m rs x) (hm : x.mail.length < 1000) :
    callD P n k ("_law_key", none) [.loc d] s = .ok (stL x) s := by
  obtain ⟨k, rfl⟩ : ∃ j, k = j + 1 := ⟨k - 1, by omega⟩
  have hz := h.zip
  obtain ⟨hd, hl, hlen, _, _⟩ := h
  have hx : xLc P.gl (callD P n k) n [2] (.nm 2) .non (.bi .tuple (.cons (.var 2) .nil)) [some (.loc d), none, none] (.ok (.dyn m) s) = .ok (x.mail.map lmsg) s := by
    rw [ms_zip hlen]
    refine xLc_mapD (g := fun p : Nat × Msg => .loc p.1) (ms := rs.zip x.mail) (by rw [hl, rs_zip hlen]) (by rw [List.length_zip]; omega) _ (fun p hp => ?_) (by rw [List.length_zip]; omega)
    have h1 := hz p hp
    have h2 := fun hs F => o_tupL hs F h1
    clear hz hd hl hm hn hk
    simp only [lmsg]
    walk_at "ev"
  have hb : ∀ xs s, bxM .tuple xs s = .ok (.tup xs) s := fun xs s => rfl
  rw [call_at hf.fn rfl]
  simp only [d__law_key, stL]
  clear hz hk hm hn hlen
  walk_at "ev"
  exact fin_here (noLoc_st x)
end D
end

section
set_option maxRecDepth 100000
set_option maxHeartbeats 1000000
/-! E9: a state copied; a message's coming; a deed. -/
namespace D
open PySem DL HP
local macro_rules
  | `(tactic| walk_at "ev") => `(tactic| simp (config := {decide := false}) only [ev_var, ev_cst, ev_glb, ev_add, ev_sub, ev_mul, ev_fdv, ev_mod, ev_pow, ev_neg, ev_not, ev_eq, ev_ne, ev_lt, ev_le, ev_gt, ev_ge, ev_isn, ev_isnn, ev_inn, ev_nin, ev_and, ev_or, ev_ite, ev_tup, ev_lst, ev_dS0, ev_dSc, ev_idx, ev_fld, ev_call, ev_isi, ev_bi, ev_bx, ev_lc, ev_idxX, ev_inX, evX_disp, evX_lc0, evs_nil, evs_cons, ev_chn, ev_slc, ev_append, ev_meth,
      k1_ok, k1_ex, k2_ok, kAnd_ok, kA_b, kOr_ok, kO_b, kI_b, kCs_ok, kCons_ok, kX_ok, kN_ok, kC1_ok, kC2_ok, kC3_b, kC4_ok, kS_ok, kSl_ok, kSh_ok, pt_non, pt_som, ptI_ok, kApp_ok, kApp2_l, kApp3_ok, appG_5, dspO_5, o_ixO, o_lcO, kMeth_ok, o_mth,
      es_nil, es_cons, sSeq_nx, sSeq_rt, sSeq_ex, es_asg, sAsg_ok, sAsg_ex, es_ret, sRet_ok, sRet_ex, es_expr, sExp_ok, sExp_ex, es_ife, sIf_b, es_iset, sIs1_ok, sIs2_ok, sIs3_ok, sEnd_ok, es_asgT, sSetT_k, sSt_s, setT_tp, setT_nm, setAll_n, setAll_c, es_par, sPar1_ok, sPar2_ok, es_fset, sFs1_ok, sFs2_ok, es_rse, es_tr, sTr_nx, sTr_ex, es_fr, sFr_fix, sFr_dyn, evI_val, o_srcT, o_src, srcG_l, forFix_nil, forFix_cons, sFx_nx, sFx_rt, sFx_ex, frF_nm,
      ap_ofO, tru_b, tru_int, tru_non, o_add, o_sub, o_lt, o_le, o_gt, o_ge, o_not, o_idx, idxG_l, idxG_d, o_idxT, o_set, setG_l, setJ_s, setG_d, o_len, lenG_l, o_fld, fldG_i, o_lenT, at0, at1, at2, at3, at4, at5, at6, at7, at8, ix4_0, ix4_1, ix4_2, ix4_3, ix3_0, ix3_1, ix3_2, List.set_set, o_intI, o_intB, o_slcT, o_slcL, slcG_l, tupO_5, lstO_5, o_addT5, o_maxx, o_minn, eq_ag8, eq_lt10, eq_lt11, eq_by10, eq_by13, eq_by12, ne_by10, eq_bk14, eq_ov13, eq_rn17, eq_lw19, eq_w27, eq_w28, o_isA, o_isnA, eqq_int, eqq_wd, lcF_ev, lcE_s, cnd_non, cnd_som, lcT_ok, sg1_ok, wipe_n, wipe_c, HF_has, o_isN, o_isnN, o_isI, o_isnI,
      List.map_cons, List.map_nil, List.replicate, List.cons_append, List.nil_append, List.append_assoc, List.length_append, List.length_set, List.getElem?_cons_zero, List.getElem?_cons_succ, List.set_cons_zero, List.set_cons_succ, Option.join, Option.bind_some, id_eq, List.length_cons, List.length_nil, List.length_map, eq_self, decide_true, decide_false, decide_eq_true_eq, Nat.reduceAdd, Nat.reduceSub, Nat.reduceLeDiff, Nat.reduceLT, Nat.reduceEqDiff, Int.reduceAdd, Int.reduceSub, Int.reduceLT, Int.reduceLE, Int.reduceEq, Nat.zero_add, Nat.zero_le, Bool.not_true, Bool.not_false, Bool.not_eq_true', decide_eq_false_iff_not, if_true, if_false, ite_true, ite_false, reduceIte, Bool.false_eq_true, reduceCtorEq, wd_eq, HC_con, and_bl, or_bl, ite_nx, ite_nx0, cut24, eqq_t2, st_i0, st_i1, st_i2, st_i3, st_i4, st_i5, dw_i0, eq_dw22, Int.add_zero, lkD11, lkD30, lkD12, lkD16, lkD31, lkD32, putD11, putD30, putD12, putD16, putD31i, putD31n, stD_len, setG_d5, inMO_f, okF_wd, List.all_cons, List.all_nil, List.any_cons, List.any_nil, eqF_wd, Bool.and_true, Bool.true_and, Bool.and_self, Bool.or_false, Bool.or_true, Bool.false_or, Bool.true_or, Bool.or_self, Bool.and_false, Bool.false_and, neO_wd, neO_int, HP.St.wth, *])
theorem putD32 (x : St) (m m' : Nat) : putD (wd 32) (.loc m') (stD x m) = stD x m' := by simp [putD, stD, wd_eq]
theorem o_dictL (hs : FK → Bool) (F : Fns) {c : Nat} {s : Store} {kvs : List (Str × L)} (h : s[c]? = some (.dS kvs)) : biM hs F .dict [.loc c] s = .ok (.loc s.length) (s ++ [.dS kvs]) := by
  show (getC c >>= _) s = _
  rw [bnd_ok (getC_at h)]
  rfl
theorem set_mid (s g : Store) (o o' : Ob) : (s ++ o :: g).set s.length o' = s ++ o' :: g := by
  rw [ss_new (Nat.le_refl _), Nat.sub_self]
  rfl
def rowOb (g : Msg) : Ob := .lst [wL g.give, .int g.sum, .int g.times]
def locsB (b n : Nat) : List Nat := (List.range n).map fun i => b + i
theorem locsB_at {b n i : Nat} (h : i < n) : (locsB b n)[i]? = some (b + i) := by
  unfold locsB
  rw [List.getElem?_map, List.getElem?_range h]
  rfl
theorem locsB_succ (b n : Nat) : locsB b (n + 1) = locsB b n ++ [b + n] := by
  unfold locsB
  rw [List.range_succ, List.map_append]
  rfl
theorem locsB_len (b n : Nat) : (locsB b n).length = n := by
  unfold locsB
  rw [List.length_map, List.length_range]
theorem locsB_mem {b n i : Nat} (h : i ∈ locsB b n) : b ≤ i ∧ i < b + n := by
  unfold locsB at h
  obtain ⟨j, h1, h2⟩ := List.mem_map.mp h
  have := List.mem_range.mp h1
  omega
theorem locsB_nd (b : Nat) : ∀ n, (locsB b n).Nodup
  | 0 => by simp [locsB]
  | n + 1 => by
    rw [locsB_succ, List.nodup_append]
    exact ⟨locsB_nd b n, by simp, fun a ha c hc => by
      rw [List.mem_singleton.mp hc]
      have := locsB_mem ha
      omega⟩
theorem xLc_ofD {G : Glb} {F : Fns} {n : Nat} {own : List Nat} {t : DT} {c : DO} {x : DE} {e : Env} {k : Nat} {s s2 : Store} {r : List L} (h : mapDyn (lcF G F n own t c x e) k n 0 s = .ok r s2) (hz : r.length ≤ 16777216) : xLc G F n own t c x e (.ok (.dyn k) s) = .ok r s2 := by
  show (noEx (mapDyn (lcF G F n own t c x e) k n 0) >>= fun xs => if xs.length ≤ szMax then pure xs else die) s = _
  have e1 : noEx (mapDyn (lcF G F n own t c x e) k n 0) s = .ok r s2 := by
    unfold noEx
    rw [h]
  rw [bnd_ok e1, if_pos hz]
  rfl
theorem lcopy_ok {P : Pg} {n k : Nat} [hf : HF P ("_law_copy", none) d__law_copy] (hn : 1000 < n) (hk : 1 ≤ k) {d m : Nat} {rs : List Nat} {x : St} {s : Store} (h : SA s d m rs x) (hm : x.mail.length < 1000) :
    ∃ g m' rs', callD P n k ("_law_copy", none) [.loc d] s = .ok (.loc s.length) (s ++ g) ∧ SA (s ++ g) s.length m' rs' x ∧ ∀ q ∈ s.length :: m' :: rs', s.length ≤ q := by
  obtain ⟨k, rfl⟩ : ∃ j, k = j + 1 := ⟨k - 1, by omega⟩
  have hz := h.zip
  have hlt := h.lt
  obtain ⟨hd, hl, hlen, hr, _⟩ := h
  have hmlt := at_lt hl
  have hx : ∀ e0 e1, xLc P.gl (callD P n k) n [2] (.nm 2) .non (.bi .list (.cons (.var 2) .nil)) [e0, e1, none] (.ok (.dyn m) (s ++ [.dS (stD x m)])) = .ok ((locsB (s.length + 1) x.mail.length).map .loc) (s ++ .dS (stD x m) :: x.mail.map rowOb) := by
    intro e0 e1
    obtain ⟨r, s2, h1, h2, h3⟩ := mapDyn_inv (f := lcF P.gl (callD P n k) n [2] (.nm 2) .non (.bi .list (.cons (.var 2) .nil)) [e0, e1, none]) (c := m) (xs := rs.map .loc)
      (fun i acc s' => s' = s ++ .dS (stD x m) :: (x.mail.take i).map rowOb ∧ acc = (locsB (s.length + 1) i).map .loc ∧ i ≤ rs.length)
      (fun i a s' hi => by rw [hi.1, sl_app hmlt]; exact hl)
      (fun i v acc s' hv hi => by
        obtain ⟨rfl, rfl, hi⟩ := hi
        rw [List.getElem?_map] at hv
        cases hq : rs[i]? with
        | none => rw [hq] at hv; cases hv
        | some q =>
          rw [hq] at hv
          cases hv
          have hil := (List.getElem?_eq_some_iff.mp hq).1
          have hg : x.mail[i]? = some x.mail[i] := List.getElem?_eq_getElem (by omega)
          have hrow := hr i q _ hq hg
          have hrow' : (s ++ .dS (stD x m) :: (x.mail.take i).map rowOb)[q]? = some (.lst [wL x.mail[i].give, .int x.mail[i].sum, .int x.mail[i].times]) := by rw [sl_app (at_lt hrow)]; exact hrow
          have e1 := fun hs F => o_listL hs F hrow'
          have el : (s ++ .dS (stD x m) :: (x.mail.take i).map rowOb).length = s.length + 1 + i := by
            rw [List.length_append, List.length_cons, List.length_map, List.length_take]; omega
          refine ⟨[.loc (s.length + 1 + i)], (s ++ .dS (stD x m) :: (x.mail.take i).map rowOb) ++ [rowOb x.mail[i]], ?_, ?_, ?_, by omega⟩
          · rw [lcF_ev]
            clear hz hlt hr hrow hrow' hn hk hl hd
            rw [setT_nm, lcE_s, cnd_non, lcT_ok, if_pos rfl, ev_bi, evs_cons, ev_var]
            show sg1 (k1 (biM P.gl.has (callD P n k) .list) (kCs P.gl (callD P n k) n .nil _ (.ok (.loc q) _))) = _
            rw [kCs_ok, evs_nil, kCons_ok, k1_ok, e1, sg1_ok, el]
            rfl
          · have ht : x.mail.take (i + 1) = x.mail.take i ++ [x.mail[i]] := (List.take_append_getElem (by omega)).symm
            rw [ht, List.map_append, List.append_assoc]
            rfl
          · rw [locsB_succ, List.map_append]
            rfl)
      n 0 [] (s ++ [.dS (stD x m)]) (by rw [List.length_map]; omega) (Nat.zero_le _) ⟨rfl, rfl, Nat.zero_le _⟩
    refine xLc_ofD (r := (locsB (s.length + 1) x.mail.length).map .loc) ?_ (by rw [List.length_map, locsB_len]; omega)
    rw [h1]
    rw [List.nil_append, List.length_map, hlen] at h3
    rw [List.length_map, hlen, List.take_length] at h2
    rw [h2, h3.1]
  have hE : callD P n (k + 1) ("_law_copy", none) [.loc d] s = .ok (.loc s.length) (s ++ (.dS (stD x (s.length + 1 + x.mail.length)) :: (x.mail.map rowOb ++ [.lst ((locsB (s.length + 1) x.mail.length).map .loc)]))) := by
    have e1 := fun hs F => o_dictL hs F hd
    have e2 : (s ++ [Ob.dS (stD x m)])[d]? = some (.dS (stD x m)) := by rw [sl_app (at_lt hd)]; exact hd
    have e3 : (s ++ [Ob.dS (stD x m)])[m]? = some (.lst (rs.map .loc)) := by rw [sl_app hmlt]; exact hl
    have e4 : s.length + (x.mail.length + 1) = s.length + 1 + x.mail.length := by omega
    have e5 : ∀ g o, (s ++ o :: g)[s.length]? = some o := fun g o => app_at0 s (o :: g)
    have e6 := set_mid s
    have e7 := fun m' => putD32 x m m'
    rw [call_at hf.fn rfl]
    simp only [d__law_copy]
    clear hz hlt hr hl hlen hn hk hm hd hmlt
    walk_at "ev"
    exact fin_dic (app_at0 s _)
  refine ⟨_, s.length + 1 + x.mail.length, locsB (s.length + 1) x.mail.length, hE, ⟨app_at0 s _, ?_, locsB_len _ _, ?_, ?_⟩, ?_⟩
  · have : s.length + 1 + x.mail.length = s.length + (x.mail.length + 1) := by omega
    rw [this, app_at, List.getElem?_cons_succ, List.getElem?_append_right (by rw [List.length_map]; exact Nat.le_refl _), List.length_map, Nat.sub_self]
    rfl
  · intro i q g hq hg
    have hil : i < x.mail.length := (List.getElem?_eq_some_iff.mp hg).1
    rw [locsB_at hil] at hq
    cases hq
    have : s.length + 1 + i = s.length + (i + 1) := by omega
    rw [this, app_at, List.getElem?_cons_succ, List.getElem?_append_left (by rw [List.length_map]; exact hil), List.getElem?_map, hg]
    rfl
  · rw [List.nodup_cons, List.nodup_cons]
    refine ⟨fun hi => ?_, fun hi => ?_, locsB_nd _ _⟩
    · rcases List.mem_cons.mp hi with h | h
      · omega
      · have := locsB_mem h; omega
    · have := locsB_mem hi; omega
  · intro q hq
    rcases List.mem_cons.mp hq with h | h
    · omega
    · rcases List.mem_cons.mp h with h | h
      · omega
      · have := locsB_mem h; omega
theorem lcome_ok {P : Pg} {n k : Nat} [hf : HF P ("_law_come", none) d__law_come] [HF P ("_law_take", none) d__law_take] [HF P ("_law_give", none) d__law_give] [HF P ("_law_net", none) d__law_net] (hk : 3 ≤ k) {c d m : Nat} {rs : List Nat} {rl : Rl} {x : St} {s : Store} (hc : PaAt s c rl) (h : SA s d m rs x) {i : Nat} {g : Msg} (hi : x.mail[i]? = some g) :
    ∃ s', callD P n k ("_law_come", none) [.loc c, .loc d, .int (i : Int)] s = .ok .non s' ∧ SA s' d m rs (come1 rl x i g) ∧ Fm (d :: m :: rs) s s' ∧ s'.length = s.length := by
  obtain ⟨k, rfl⟩ : ∃ j, k = j + 1 := ⟨k - 1, by omega⟩
  obtain ⟨q, hq⟩ : ∃ q, rs[i]? = some q := ⟨_, List.getElem?_eq_getElem (by rw [h.len]; exact (List.getElem?_eq_some_iff.mp hi).1)⟩
  have hrow := h.r i q g hq hi
  have hql := at_lt hrow
  have hS := h.setRow hq (HP.bump g)
  have hcq : q ≠ c := fun e => by
    subst e
    rw [show s[q]? = _ from hc] at hrow
    simp [rlL] at hrow
  have hc1 : PaAt (s.set q (.lst [wL g.give, .int g.sum, .int (g.times + 1)])) c rl := by
    show _ = _
    rw [sl_set hcq]; exact hc
  have hc' : (s.set q (.lst [wL g.give, .int g.sum, .int (g.times + 1)]))[c]? = some (.lst (rlL rl)) := hc1
  have hqm := List.mem_of_getElem? hq
  have f1 : Fm (d :: m :: rs) s (s.set q (.lst [wL g.give, .int g.sum, .int (g.times + 1)])) := Fm.set (List.mem_cons_of_mem _ (List.mem_cons_of_mem _ hqm))
  have f2 : ∀ X, Fm (d :: m :: rs) (s.set q (.lst [wL g.give, .int g.sum, .int (g.times + 1)])) ((s.set q (.lst [wL g.give, .int g.sum, .int (g.times + 1)])).set d X) := fun X => Fm.set List.mem_cons_self
  have c1 := ltake_ok (P := P) (n := n) (k := k) (by omega) hc1 hS.c g.sum
  have c2 := lgive_ok (P := P) (n := n) (k := k) (by omega) hc1 hS.c g.sum
  have hat : L2.atI (rs.map L.loc) (i : Int) = some (.loc q) := atI_get _ _ _ (by rw [List.getElem?_map, hq]; rfl)
  have e1 : ∀ X, (s.set q X)[q]? = some X := fun X => sl_self hql
  have hd := h.c
  have hl := h.l
  have hq1 : ∀ e X, fin s (.nx e (s.set q X)) = .ok .non (s.set q X) := fun e X => gcR_same rfl (by rw [List.length_set])
  have hq2 : ∀ e X Y, fin s (.nx e ((s.set q X).set d Y)) = .ok .non ((s.set q X).set d Y) := fun e X Y => gcR_same rfl (by rw [List.length_set, List.length_set])
  by_cases hcond : g.times = 0 ∨ rl.once = false
  · refine ⟨(s.set q (.lst [wL g.give, .int g.sum, .int (g.times + 1)])).set d (.dS (stD (come1 rl x i g) m)), ?_, ?_, f1.trans (f2 _), by rw [List.length_set, List.length_set]⟩
    · rw [call_at hf.fn rfl]
      simp only [d__law_come]
      have ec : come1 rl x i g = { x.wth (cameS rl x g) with mail := x.mail.set i (HP.bump g) } := by
        unfold come1
        rw [if_pos hcond]
      rw [ec]
      have hor : (decide (g.times + 1 = 1) = true) ∨ (decide (g.times + 1 = 1) = false ∧ rl.once = false) := by
        by_cases h : g.times = 0
        · exact .inl (decide_eq_true (by omega))
        · exact .inr ⟨decide_eq_false (by omega), by rcases hcond with h1 | h1; exact (h h1).elim; exact h1⟩
      clear hS hc hql hcq hqm f1 f2 hq hi hc1 ec hcond
      simp only [rlL] at hc'
      obtain ⟨gg, gs, gt⟩ := g
      simp only [cameS, tkS] at *
      cases gg with
      | true =>
        simp only [if_true] at *
        rcases hor with ht | ⟨ht, ho⟩
        · walk_at "ev"
        · rw [ho] at hc'
          walk_at "ev"
      | false =>
        simp only [Bool.false_eq_true, if_false] at *
        rcases hor with ht | ⟨ht, ho⟩
        · walk_at "ev" <;> rfl
        · rw [ho] at hc'
          walk_at "ev" <;> rfl
    · exact hS.setD (x' := come1 rl x i g) rfl
  · refine ⟨s.set q (.lst [wL g.give, .int g.sum, .int (g.times + 1)]), ?_, ?_, f1, by rw [List.length_set]⟩
    · have ht : g.times ≠ 0 := fun e => hcond (.inl e)
      have ho : rl.once = true := by cases h : rl.once with
        | true => rfl
        | false => exact (hcond (.inr h)).elim
      rw [call_at hf.fn rfl]
      simp only [d__law_come]
      clear hS hc hql hcq hqm f1 f2 hq hi hc1 c1 c2 hcond
      simp only [rlL, ho] at hc'
      have ht1 : decide (g.times + 1 = 1) = false := decide_eq_false (by omega)
      clear ht
      walk_at "ev"
    · have ec : come1 rl x i g = { x with mail := x.mail.set i (HP.bump g) } := by
        unfold come1
        rw [if_neg hcond]
      rw [ec]
      exact hS
end D
end

section
set_option maxRecDepth 100000
set_option maxHeartbeats 1000000
/-! E10: a deed by the law's own account. -/
namespace D
open PySem DL HP
local macro_rules
  | `(tactic| walk_at "ev") => `(tactic| simp (config := {decide := false}) only [ev_var, ev_cst, ev_glb, ev_add, ev_sub, ev_mul, ev_fdv, ev_mod, ev_pow, ev_neg, ev_not, ev_eq, ev_ne, ev_lt, ev_le, ev_gt, ev_ge, ev_isn, ev_isnn, ev_inn, ev_nin, ev_and, ev_or, ev_ite, ev_tup, ev_lst, ev_dS0, ev_dSc, ev_idx, ev_fld, ev_call, ev_isi, ev_bi, ev_bx, ev_lc, ev_idxX, ev_inX, evX_disp, evX_lc0, evs_nil, evs_cons, ev_chn, ev_slc, ev_append, ev_meth,
      k1_ok, k1_ex, k2_ok, kAnd_ok, kA_b, kOr_ok, kO_b, kI_b, kCs_ok, kCons_ok, kX_ok, kN_ok, kC1_ok, kC2_ok, kC3_b, kC4_ok, kS_ok, kSl_ok, kSh_ok, pt_non, pt_som, ptI_ok, kApp_ok, kApp2_l, kApp3_ok, appG_5, dspO_5, o_ixO, o_lcO, kMeth_ok, o_mth,
      es_nil, es_cons, sSeq_nx, sSeq_rt, sSeq_ex, es_asg, sAsg_ok, sAsg_ex, es_ret, sRet_ok, sRet_ex, es_expr, sExp_ok, sExp_ex, es_ife, sIf_b, es_iset, sIs1_ok, sIs2_ok, sIs3_ok, sEnd_ok, es_asgT, sSetT_k, sSt_s, setT_tp, setT_nm, setAll_n, setAll_c, es_par, sPar1_ok, sPar2_ok, es_fset, sFs1_ok, sFs2_ok, es_rse, es_tr, sTr_nx, sTr_ex, es_fr, sFr_fix, sFr_dyn, evI_val, o_srcT, o_src, srcG_l, forFix_nil, forFix_cons, sFx_nx, sFx_rt, sFx_ex, frF_nm,
      ap_ofO, tru_b, tru_int, tru_non, o_add, o_sub, o_lt, o_le, o_gt, o_ge, o_not, o_idx, idxG_l, idxG_d, o_idxT, o_set, setG_l, setJ_s, setG_d, o_len, lenG_l, o_fld, fldG_i, o_lenT, at0, at1, at2, at3, at4, at5, at6, at7, at8, ix4_0, ix4_1, ix4_2, ix4_3, ix3_0, ix3_1, ix3_2, List.set_set, o_intI, o_intB, o_slcT, o_slcL, slcG_l, tupO_5, lstO_5, o_addT5, o_maxx, o_minn, eq_ag8, eq_lt10, eq_lt11, eq_by10, eq_by13, eq_by12, ne_by10, eq_bk14, eq_ov13, eq_rn17, eq_lw19, eq_w27, eq_w28, o_isA, o_isnA, eqq_int, eqq_wd, lcF_ev, lcE_s, cnd_non, cnd_som, lcT_ok, sg1_ok, wipe_n, wipe_c, HF_has, o_isN, o_isnN, o_isI, o_isnI,
      List.map_cons, List.map_nil, List.replicate, List.cons_append, List.nil_append, List.append_assoc, List.length_append, List.length_set, List.getElem?_cons_zero, List.getElem?_cons_succ, List.set_cons_zero, List.set_cons_succ, Option.join, Option.bind_some, id_eq, List.length_cons, List.length_nil, List.length_map, eq_self, decide_true, decide_false, decide_eq_true_eq, Nat.reduceAdd, Nat.reduceSub, Nat.reduceLeDiff, Nat.reduceLT, Nat.reduceEqDiff, Int.reduceAdd, Int.reduceSub, Int.reduceLT, Int.reduceLE, Int.reduceEq, Nat.zero_add, Nat.zero_le, Bool.not_true, Bool.not_false, Bool.not_eq_true', decide_eq_false_iff_not, if_true, if_false, ite_true, ite_false, reduceIte, Bool.false_eq_true, reduceCtorEq, wd_eq, HC_con, and_bl, or_bl, ite_nx, ite_nx0, cut24, eqq_t2, st_i0, st_i1, st_i2, st_i3, st_i4, st_i5, dw_i0, eq_dw22, Int.add_zero, lkD11, lkD30, lkD12, lkD16, lkD31, lkD32, putD11, putD30, putD12, putD16, putD31i, putD31n, stD_len, setG_d5, inMO_f, okF_wd, List.all_cons, List.all_nil, List.any_cons, List.any_nil, eqF_wd, Bool.and_true, Bool.true_and, Bool.and_self, Bool.or_false, Bool.or_true, Bool.false_or, Bool.true_or, Bool.or_self, Bool.and_false, Bool.false_and, neO_wd, neO_int, HP.St.wth, *])
theorem gcR_ne {s s1 g : Store} {v : L} (hl : s1.length = s.length) (h : s1 ≠ s) : gcR s v (s1 ++ g) = .ok v (s1 ++ g) := by
  unfold gcR
  rw [if_neg]
  intro q
  rw [← hl, List.take_left] at q
  exact h q
/-- the law's defs of a hold are there -/
class HL (P : Pg) : Prop where
  a : HF P ("_law_net", none) d__law_net
  b : HF P ("_law_take", none) d__law_take
  c : HF P ("_law_give", none) d__law_give
  d : HF P ("_law_end", none) d__law_end
  e : HF P ("_law_come", none) d__law_come
  f : HF P ("_law_free", none) d__law_free
  g : HF P ("_law_do", none) d__law_do
  h : HF P ("_law_new", none) d__law_new
  i : HF P ("_law_copy", none) d__law_copy
  j : HF P ("_law_key", none) d__law_key
theorem free_behind {rl : Rl} {life : Int} {x : St} (hx : Ok life x) (dd : Dd) : freeB x dd = (behind rl life x dd).isSome := by
  cases dd with
  | come i =>
    simp only [freeB, behind]
    cases h : x.mail[i]? with
    | none => rw [decide_eq_false (by have := List.getElem?_eq_none_iff.mp h; omega)]; rfl
    | some g => rw [decide_eq_true (List.getElem?_eq_some_iff.mp h).1]; rfl
  | tick => simp only [freeB, behind]; cases x.age <;> rfl
  | release => simp only [freeB, behind]; cases x.age <;> rfl
  | lower =>
    have := hx.ag
    simp only [freeB, behind]
    by_cases h : x.ag = 0
    · rw [if_pos h, decide_eq_false (by omega)]; rfl
    · rw [if_neg h, decide_eq_true (by omega)]; rfl
  | _ => rfl
def relB : DSs := (.cons (.ife (.and (.idx (.var 0) (.cst (.int 7))) (.eq (.idx (.var 5) (.cst (.int 2))) (.cst (.int 0)))) (.cons (.iset (.var 5) (.cst (.int 2)) (.cst (.int 1)))
    .nil) .nil)
    .nil)
def once2 (b : Bool) (g : Msg) : Msg := if b then once1 g else g
theorem SA.row_of {s : Store} {d m : Nat} {rs : List Nat} {x : St} (h : SA s d m rs x) {i q : Nat} (hq : rs[i]? = some q) : ∃ g, x.mail[i]? = some g ∧ s[q]? = some (.lst [wL g.give, .int g.sum, .int g.times]) := by
  have hl : i < x.mail.length := by rw [← h.len]; exact (List.getElem?_eq_some_iff.mp hq).1
  exact ⟨_, List.getElem?_eq_getElem hl, h.r i q _ hq (List.getElem?_eq_getElem hl)⟩
theorem rel_loop {P : Pg} {n k : Nat} (hn : 1000 < n) {c d m : Nat} {rs : List Nat} {rl : Rl} {x : St} {s : Store} (hc : PaAt s c rl) (h : SA s d m rs x) (hm : x.mail.length < 1000) (ht : ∀ g ∈ x.mail, 0 ≤ g.times) (e1 e2 e3 e4 e5 e6 : Option L) :
    ∃ o s', forDyn (frF P.gl (callD P n k) n P.er (.nm 5) relB) m n 0 [some (.loc c), e1, e2, e3, e4, e5, e6] s = .nx [some (.loc c), e1, e2, e3, e4, o, e6] s' ∧ SA s' d m rs { x with mail := x.mail.map (once2 rl.spent) } ∧ Fm (d :: m :: rs) s s' ∧ s'.length = s.length := by
  have hml : (rs.map L.loc).length = x.mail.length := by rw [List.length_map, h.len]
  have hcf : c ∉ d :: m :: rs := by
    intro hi
    rcases List.mem_cons.mp hi with e | hi
    · have := h.c; rw [← e, show s[c]? = _ from hc] at this; cases this
    · rcases List.mem_cons.mp hi with e | hi
      · have := h.l
        rw [← e, show s[c]? = _ from hc] at this
        cases rs with
        | nil => simp [rlL] at this
        | cons r rs => simp [rlL, agL] at this
      · obtain ⟨j, hj, e⟩ := List.getElem_of_mem hi
        obtain ⟨g, _, h2⟩ := h.row_of (i := j) (q := c) (by rw [List.getElem?_eq_getElem hj, e])
        rw [show s[c]? = _ from hc] at h2
        simp [rlL] at h2
  obtain ⟨e', s', h1, ⟨o, rfl⟩, h3, h4, h5⟩ := forDyn_inv (f := frF P.gl (callD P n k) n P.er (.nm 5) relB) (c := m) (xs := rs.map .loc)
    (fun i e s' => (∃ o, e = [some (.loc c), e1, e2, e3, e4, o, e6]) ∧ SA s' d m rs { x with mail := (x.mail.take i).map (once2 rl.spent) ++ x.mail.drop i } ∧ Fm (d :: m :: rs) s s' ∧ s'.length = s.length)
    (fun i e s' hi => hi.2.1.l)
    (fun i v e s' hv hi => by
      obtain ⟨⟨o, rfl⟩, hS, hF, hL⟩ := hi
      rw [List.getElem?_map] at hv
      cases hq : rs[i]? with
      | none => rw [hq] at hv; cases hv
      | some q =>
        rw [hq] at hv
        cases hv
        have hil : i < x.mail.length := by rw [← h.len]; exact (List.getElem?_eq_some_iff.mp hq).1
        obtain ⟨g, hg, hrow⟩ := hS.row_of hq
        have hdrop : x.mail.drop i = x.mail[i] :: x.mail.drop (i + 1) := List.drop_eq_getElem_cons hil
        have hlen : ((x.mail.take i).map (once2 rl.spent)).length = i := by rw [List.length_map, List.length_take]; omega
        have hge : g = x.mail[i] := by
          simp only at hg
          rw [List.getElem?_append_right (by rw [hlen]; exact Nat.le_refl _), hlen, Nat.sub_self, hdrop] at hg
          cases hg
          rfl
        have hgt : 0 ≤ g.times := ht g (hge ▸ List.getElem_mem hil)
        have hnew : ((x.mail.take i).map (once2 rl.spent) ++ x.mail.drop i).set i (once2 rl.spent g) = (x.mail.take (i + 1)).map (once2 rl.spent) ++ x.mail.drop (i + 1) := by
          rw [List.set_append_right i _ (by rw [hlen]; exact Nat.le_refl _), hlen, Nat.sub_self, hdrop, ← List.take_append_getElem hil, List.map_append, List.append_assoc, hge]
          rfl
        have hS' := hS.setRow hq (once2 rl.spent g)
        simp only [hnew] at hS'
        have hc2 : s'[c]? = some (.lst (rlL rl)) := hF.at hc hcf
        simp only [rlL] at hc2
        have hqm : q ∈ d :: m :: rs := List.mem_cons_of_mem _ (List.mem_cons_of_mem _ (List.mem_of_getElem? hq))
        have hfr : frF P.gl (callD P n k) n P.er (.nm 5) relB (.loc q) [some (.loc c), e1, e2, e3, e4, o, e6] s' = denSs P.gl (callD P n k) n P.er relB [some (.loc c), e1, e2, e3, e4, some (.loc q), e6] s' := rfl
        by_cases hz : rl.spent = true ∧ g.times = 0
        · refine ⟨[some (.loc c), e1, e2, e3, e4, some (.loc q), e6], s'.set q (.lst [wL g.give, .int g.sum, .int 1]), ?_, ⟨_, rfl⟩, ?_, hF.trans (Fm.set hqm), by rw [List.length_set]; exact hL⟩
          · obtain ⟨z1, z2⟩ := hz
            rw [hfr]
            simp only [relB]
            clear hS hS' hF hL hg hdrop hlen hge hgt hnew hqm hfr hil hq h hc hcf hml hm hn ht
            rw [z1] at hc2
            walk_at "ev"
          · have e9 : once2 rl.spent g = ⟨g.give, g.sum, 1⟩ := by
              unfold once2
              rw [if_pos hz.1, once1, hz.2]
              rfl
            rw [e9] at hS'
            exact hS'
        · refine ⟨[some (.loc c), e1, e2, e3, e4, some (.loc q), e6], s', ?_, ⟨_, rfl⟩, ?_, hF, hL⟩
          · rw [hfr]
            simp only [relB]
            clear hS hS' hF hL hg hdrop hlen hge hgt hnew hqm hfr hil hq h hc hcf hml hm hn ht
            cases hsp : rl.spent with
            | true =>
              have z1 : decide (g.times = 0) = false := decide_eq_false fun e => hz ⟨hsp, e⟩
              rw [hsp] at hc2
              clear hz
              walk_at "ev"
            | false =>
              rw [hsp] at hc2
              clear hz
              walk_at "ev"
          · have e9 : once2 rl.spent g = g := by
              unfold once2
              cases hsp : rl.spent with
              | true =>
                have : g.times ≠ 0 := fun e => hz ⟨hsp, e⟩
                show once1 g = g
                unfold once1
                have : max g.times 1 = g.times := by omega
                rw [this]
              | false => rfl
            rw [e9] at hS' hnew
            have e10 : s'.set q (.lst [wL g.give, .int g.sum, .int g.times]) = s' := set_same hrow
            rw [e10] at hS'
            exact hS')
    n 0 _ s (by rw [hml]; omega) (Nat.zero_le _) ⟨⟨e5, rfl⟩, by rw [List.take_zero, List.drop_zero]; exact h, Fm.refl _ _, rfl⟩
  refine ⟨o, s', h1, ?_, h4, h5⟩
  rw [hml, List.take_length, List.drop_length, List.append_nil] at h3
  exact h3
end D
end

section
set_option maxRecDepth 100000
set_option maxHeartbeats 1000000
/-! E11: a deed by the law's own account. -/
namespace D
open PySem DL HP
local macro_rules
  | `(tactic| walk_at "ev") => `(tactic| simp (config := {decide := false}) only [ev_var, ev_cst, ev_glb, ev_add, ev_sub, ev_mul, ev_fdv, ev_mod, ev_pow, ev_neg, ev_not, ev_eq, ev_ne, ev_lt, ev_le, ev_gt, ev_ge, ev_isn, ev_isnn, ev_inn, ev_nin, ev_and, ev_or, ev_ite, ev_tup, ev_lst, ev_dS0, ev_dSc, ev_idx, ev_fld, ev_call, ev_isi, ev_bi, ev_bx, ev_lc, ev_idxX, ev_inX, evX_disp, evX_lc0, evs_nil, evs_cons, ev_chn, ev_slc, ev_append, ev_meth,
      k1_ok, k1_ex, k2_ok, kAnd_ok, kA_b, kOr_ok, kO_b, kI_b, kCs_ok, kCons_ok, kX_ok, kN_ok, kC1_ok, kC2_ok, kC3_b, kC4_ok, kS_ok, kSl_ok, kSh_ok, pt_non, pt_som, ptI_ok, kApp_ok, kApp2_l, kApp3_ok, appG_5, dspO_5, o_ixO, o_lcO, kMeth_ok, o_mth,
      es_nil, es_cons, sSeq_nx, sSeq_rt, sSeq_ex, es_asg, sAsg_ok, sAsg_ex, es_ret, sRet_ok, sRet_ex, es_expr, sExp_ok, sExp_ex, es_ife, sIf_b, es_iset, sIs1_ok, sIs2_ok, sIs3_ok, sEnd_ok, es_asgT, sSetT_k, sSt_s, setT_tp, setT_nm, setAll_n, setAll_c, es_par, sPar1_ok, sPar2_ok, es_fset, sFs1_ok, sFs2_ok, es_rse, es_tr, sTr_nx, sTr_ex, es_fr, sFr_fix, sFr_dyn, evI_val, o_srcT, o_src, srcG_l, forFix_nil, forFix_cons, sFx_nx, sFx_rt, sFx_ex, frF_nm,
      ap_ofO, tru_b, tru_int, tru_non, o_add, o_sub, o_lt, o_le, o_gt, o_ge, o_not, o_idx, idxG_l, idxG_d, o_idxT, o_set, setG_l, setJ_s, setG_d, o_len, lenG_l, o_fld, fldG_i, o_lenT, at0, at1, at2, at3, at4, at5, at6, at7, at8, ix4_0, ix4_1, ix4_2, ix4_3, ix3_0, ix3_1, ix3_2, List.set_set, o_intI, o_intB, o_slcT, o_slcL, slcG_l, tupO_5, lstO_5, o_addT5, o_maxx, o_minn, eq_ag8, eq_lt10, eq_lt11, eq_by10, eq_by13, eq_by12, ne_by10, eq_bk14, eq_ov13, eq_rn17, eq_lw19, eq_w27, eq_w28, o_isA, o_isnA, eqq_int, eqq_wd, lcF_ev, lcE_s, cnd_non, cnd_som, lcT_ok, sg1_ok, wipe_n, wipe_c, HF_has, o_isN, o_isnN, o_isI, o_isnI,
      List.map_cons, List.map_nil, List.replicate, List.cons_append, List.nil_append, List.append_assoc, List.length_append, List.length_set, List.getElem?_cons_zero, List.getElem?_cons_succ, List.set_cons_zero, List.set_cons_succ, Option.join, Option.bind_some, id_eq, List.length_cons, List.length_nil, List.length_map, eq_self, decide_true, decide_false, decide_eq_true_eq, Nat.reduceAdd, Nat.reduceSub, Nat.reduceLeDiff, Nat.reduceLT, Nat.reduceEqDiff, Int.reduceAdd, Int.reduceSub, Int.reduceLT, Int.reduceLE, Int.reduceEq, Nat.zero_add, Nat.zero_le, Bool.not_true, Bool.not_false, Bool.not_eq_true', decide_eq_false_iff_not, if_true, if_false, ite_true, ite_false, reduceIte, Bool.false_eq_true, reduceCtorEq, wd_eq, HC_con, and_bl, or_bl, ite_nx, ite_nx0, cut24, eqq_t2, st_i0, st_i1, st_i2, st_i3, st_i4, st_i5, dw_i0, eq_dw22, Int.add_zero, lkD11, lkD30, lkD12, lkD16, lkD31, lkD32, putD11, putD30, putD12, putD16, putD31i, putD31n, stD_len, setG_d5, inMO_f, okF_wd, List.all_cons, List.all_nil, List.any_cons, List.any_nil, eqF_wd, Bool.and_true, Bool.true_and, Bool.and_self, Bool.or_false, Bool.or_true, Bool.false_or, Bool.true_or, Bool.or_self, Bool.and_false, Bool.false_and, neO_wd, neO_int, HP.St.wth, *])
def NewRs (rs rs' : List Nat) (s : Store) : Prop := ∀ q ∈ rs', q ∈ rs ∨ s.length ≤ q
theorem ldo_ok {P : Pg} {n k : Nat} [H : HL P] (hn : 1000 < n) (hk : 4 ≤ k) {c d m : Nat} {rs : List Nat} {rl : Rl} {life : Int} {x : St} {s : Store} (hc : PaAt s c rl) (h : SA s d m rs x) (hx : Ok life x) (hm : x.mail.length < 1000) (dd : Dd) :
    ∃ s' rs', callD P n k ("_law_do", none) [.loc c, .int life, .loc d, dL dd] s = .ok (wordL (okD rl life x dd)) s' ∧ SA s' d m rs' (stepO rl life x dd) ∧ Fm (d :: m :: rs) s s' ∧ NewRs rs rs' s := by
  obtain ⟨k, rfl⟩ : ∃ j, k = j + 1 := ⟨k - 1, by omega⟩
  have i1 := H.a
  have i2 := H.b
  have i3 := H.c
  have i4 := H.d
  have i5 := H.e
  have i6 := H.f
  have cf := lfree_ok (P := P) (n := n) (k := k) (by omega) h dd
  rw [free_behind (rl := rl) hx dd] at cf
  have hd := h.c
  have hl := h.l
  have hdl := at_lt hd
  have hcd : d ≠ c := fun e => by rw [e] at hd; rw [show s[c]? = _ from hc] at hd; cases hd
  have g1 : ∀ X, (s.set d X)[d]? = some X := fun X => sl_self hdl
  have g2 : ∀ X, (s.set d X)[c]? = s[c]? := fun X => sl_set hcd
  have hc' : s[c]? = some (.lst (rlL rl)) := hc
  simp only [rlL] at hc'
  have same : ∀ rs : List Nat, NewRs rs rs s := fun rs q hq => .inl hq
  cases hb : behind rl life x dd with
  | none =>
    refine ⟨s, rs, ?_, by rw [stepO, hb]; exact h, Fm.refl _ _, same rs⟩
    rw [okD, hb]
    rw [hb] at cf
    simp only [Option.isSome] at cf
    rw [call_at H.g.fn rfl]
    simp only [d__law_do]
    clear hx hm hb h hc hn hk
    walk_at "ev"
    exact fin_here rfl
  | some y =>
    have eS : stepO rl life x dd = y := by rw [stepO, hb]; rfl
    rw [okD, hb, eS]
    rw [hb] at cf
    simp only [Option.isSome] at cf ⊢
    have hw : ∀ (X : Store), X.length = s.length → fin s (.rt (.str (wd 8)) X) = .ok (.str (wd 8)) X := fun X hX => gcR_same rfl hX
    have hwd : ∀ X, fin s (.rt (.str (wd 8)) (s.set d X)) = .ok (.str (wd 8)) (s.set d X) := fun X => hw _ (by rw [List.length_set])
    have cn : ∀ z s, s[d]? = some (.dS (stD z m)) → callD P n k ("_law_net", none) [.loc d] s = .ok (.int (z.tk - z.gv)) s := fun z s hz => lnet_ok (P := P) (n := n) (k := k) (by omega) hz
    rw [call_at H.g.fn rfl]
    simp only [d__law_do, wordL]
    cases dd with
    | send g a =>
      cases hb
      have e1 : (s ++ [Ob.lst [wL g, .int a, .int 0]])[m]? = some (.lst (rs.map .loc)) := by rw [sl_app (at_lt hl)]; exact hl
      have e2 : (s ++ [Ob.lst [wL g, .int a, .int 0]]).set m (.lst (rs.map .loc ++ [.loc s.length])) = s.set m (.lst (rs.map .loc ++ [.loc s.length])) ++ [Ob.lst [wL g, .int a, .int 0]] := ss_app (at_lt hl)
      have z0 : rs.length < 16777216 := by rw [h.len]; omega
      refine ⟨(s ++ [Ob.lst [wL g, .int a, .int 0]]).set m (.lst (rs.map .loc ++ [.loc s.length])), rs ++ [s.length], ?_, h.push ⟨g, a, 0⟩, ?_, ?_⟩
      · have hne : s.set m (.lst (rs.map L.loc ++ [L.loc s.length])) ≠ s := by
          intro e
          have e3 : (s.set m (.lst (rs.map L.loc ++ [L.loc s.length])))[m]? = some (.lst (rs.map L.loc ++ [L.loc s.length])) := sl_self (at_lt hl)
          rw [e, hl] at e3
          have e4 := Ob.lst.inj (Option.some.inj e3)
          have e5 := congrArg List.length e4
          rw [List.length_append] at e5
          simp at e5
        have hF : fin s (.rt (.str (wd 8)) (s.set m (.lst (rs.map L.loc ++ [L.loc s.length])) ++ [Ob.lst [wL g, .int a, .int 0]])) = .ok (.str (wd 8)) (s.set m (.lst (rs.map L.loc ++ [L.loc s.length])) ++ [Ob.lst [wL g, .int a, .int 0]]) := gcR_ne (by rw [List.length_set]) hne
        rw [e2]
        simp only [dL] at cf ⊢
        clear hx hm h hc hn hk hne eS same hw hcd
        walk_at "ev"
      · exact (Fm.app _ s _).trans (Fm.set (List.mem_cons_of_mem _ List.mem_cons_self))
      · intro q hq
        rcases List.mem_append.mp hq with h | h
        · exact .inl h
        · rw [List.mem_singleton.mp h]; exact .inr (Nat.le_refl _)
    | come i =>
      simp only [behind] at hb
      cases hi : x.mail[i]? with
      | none => rw [hi] at hb; cases hb
      | some g =>
        rw [hi] at hb
        cases hb
        obtain ⟨s', h1, h2, h3, h4⟩ := lcome_ok (P := P) (n := n) (k := k) (by omega) hc h hi
        have hw' := hw s' h4
        refine ⟨s', rs, ?_, h2, h3, same rs⟩
        simp only [dL] at cf ⊢
        clear hx hm h hc hn hk eS same hw hcd h2 h3 h4
        walk_at "ev"
    | tick =>
      simp only [behind] at hb
      cases hg : x.age with
      | none => rw [hg] at hb; cases hb
      | some a =>
        rw [hg] at hb
        have ha := hx.age a hg
        have ea : ageL x.age = .int a := by rw [hg]; rfl
        have ce : ∀ z s, s[d]? = some (.dS (stD z m)) → callD P n k ("_law_end", none) [.loc d] s = .ok .non (s.set d (.dS (stD { z with h := 0, age := none } m))) := fun z s hz => lend_ok (P := P) (n := n) (k := k) (by omega) hz
        by_cases hlt : a + 1 < life
        · simp only [if_pos hlt] at hb
          cases hb
          refine ⟨s.set d (.dS (stD { x with age := some (a + 1) } m)), rs, ?_, h.setD rfl, Fm.set List.mem_cons_self, same rs⟩
          have e1 : decide (a + 1 = life) = false := decide_eq_false (by omega)
          have e2 : ageL (some (a + 1)) = .int (a + 1) := rfl
          simp only [dL] at cf ⊢
          clear hx hm h hc hn hk eS same hw hcd hlt ha hg
          walk_at "ev"
        · simp only [if_neg hlt] at hb
          cases hb
          refine ⟨s.set d (.dS (stD { x with h := 0, age := none } m)), rs, ?_, h.setD rfl, Fm.set List.mem_cons_self, same rs⟩
          have e1 : decide (a + 1 = life) = true := decide_eq_true (by omega)
          have e2 : ageL (some (a + 1)) = .int (a + 1) := rfl
          have ce' := ce { x with age := some (a + 1) } (s.set d (.dS (stD { x with age := some (a + 1) } m))) (g1 _)
          simp only [dL] at cf ⊢
          clear hx hm h hc hn hk eS same hw hcd hlt ha hg ce
          walk_at "ev"
    | release =>
      simp only [behind] at hb
      cases hg : x.age with
      | none => rw [hg] at hb; cases hb
      | some a =>
        rw [hg] at hb
        have hS1 : SA (s.set d (.dS (stD { x with h := 0, age := none } m))) d m rs { x with h := 0, age := none } := h.setD rfl
        have hc1 : PaAt (s.set d (.dS (stD { x with h := 0, age := none } m))) c rl := (g2 _).trans hc
        obtain ⟨o, s', h1, h2, h3, h4⟩ := rel_loop (P := P) (n := n) (k := k) hn hc1 hS1 hm (fun g hg => (hx.mail g hg).2) (some (.int life)) (some (.loc d)) (some (dL .release)) (some (.str (wd 24))) none none
        have ey : y = { x with h := 0, age := none, mail := x.mail.map (once2 rl.spent) } := by
          cases hb
          have e1 : (if rl.spent = true then x.mail.map once1 else x.mail) = x.mail.map (once2 rl.spent) := by
            unfold once2
            cases rl.spent with
            | true => rfl
            | false => show x.mail = x.mail.map (fun g => g); rw [List.map_id']
          rw [e1]
        rw [ey]
        refine ⟨s', rs, ?_, h2, (Fm.set List.mem_cons_self).trans h3, same rs⟩
        have ce := lend_ok (P := P) (n := n) (k := k) (by omega) hd
        have hw' := hw s' (by rw [h4, List.length_set])
        have hm1 := hS1.l
        simp only [dL] at cf h1 ⊢
        rw [show relB = (.cons (.ife (.and (.idx (.var 0) (.cst (.int 7))) (.eq (.idx (.var 5) (.cst (.int 2))) (.cst (.int 0)))) (.cons (.iset (.var 5) (.cst (.int 2)) (.cst (.int 1))) .nil) .nil) .nil) from rfl] at h1
        clear hx hm h hc hn hk eS same hw hcd hg hS1 hc1 h2 h3 h4 ey hb
        walk_at "ev"
    | renew =>
      cases hb
      refine ⟨s.set d (.dS (stD { x with h := if rl.rest = true then max (x.ag - (x.tk - x.gv)) 0 else x.ag, age := some 0 } m)), rs, ?_, h.setD rfl, Fm.set List.mem_cons_self, same rs⟩
      have cn' := cn { x with age := some 0 } (s.set d (.dS (stD { x with age := some 0 } m))) (g1 _)
      have em : max 0 (x.ag - (x.tk - x.gv)) = max (x.ag - (x.tk - x.gv)) 0 := Int.max_comm _ _
      simp only [dL] at cf ⊢
      clear hx hm h hc hn hk eS same hw hcd cn
      cases hr : rl.rest <;> rw [hr] at hc' <;> walk_at "ev"
    | raise =>
      cases hb
      refine ⟨s.set d (.dS (stD { x with ag := x.ag + 1, h := x.h + (if x.age.isNone = true then 0 else 1) } m)), rs, ?_, h.setD rfl, Fm.set List.mem_cons_self, same rs⟩
      simp only [dL] at cf ⊢
      clear hx hm h hc hn hk eS same hw hcd cn
      cases hr : x.age <;> walk_at "ev" <;> rfl
    | lower =>
      simp only [behind] at hb
      by_cases h0 : x.ag = 0
      · rw [if_pos h0] at hb; cases hb
      · rw [if_neg h0] at hb
        cases hb
        refine ⟨s.set d (.dS (stD { x with ag := x.ag - 1, h := if rl.word = true then x.h else max (x.h - 1) 0 } m)), rs, ?_, h.setD rfl, Fm.set List.mem_cons_self, same rs⟩
        have hh := hx.h
        simp only [dL] at cf ⊢
        clear hx hm h hc hn hk eS same hw hcd cn h0
        cases hr : rl.word <;> rw [hr] at hc'
        · by_cases hp : 0 < x.h
          · have em : max (x.h - 1) 0 = x.h - 1 := by omega
            clear hh
            walk_at "ev"
          · have e0 : x.h = 0 := by omega
            have hp' : decide (0 < x.h) = false := decide_eq_false hp
            have em : max (x.h - 1) 0 = x.h := by omega
            clear hh hp e0
            walk_at "ev"
        · walk_at "ev"
end D
end

section
set_option maxRecDepth 100000
set_option maxHeartbeats 1000000
/-! E12: the faults of a deed by the law's own account. -/
namespace D
open PySem DL HP
theorem putF0 (a : L) : putD (wd 33) a [] = [(wd 33, a)] := by simp [putD, wd_eq]
theorem putF1 (a b : L) : putD (wd 34) b [(wd 33, a)] = [(wd 33, a), (wd 34, b)] := by simp [putD, wd_eq]
theorem putF2 (a b c : L) : putD (wd 35) c [(wd 33, a), (wd 34, b)] = [(wd 33, a), (wd 34, b), (wd 35, c)] := by simp [putD, wd_eq]
theorem putF3 (a b c d : L) : putD (wd 36) d [(wd 33, a), (wd 34, b), (wd 35, c)] = [(wd 33, a), (wd 34, b), (wd 35, c), (wd 36, d)] := by simp [putD, wd_eq]
theorem putF4 (a b c d e : L) : putD (wd 37) e [(wd 33, a), (wd 34, b), (wd 35, c), (wd 36, d)] = [(wd 33, a), (wd 34, b), (wd 35, c), (wd 36, d), (wd 37, e)] := by simp [putD, wd_eq]
def fndD (p : Nat → Bool) : List (Str × L) := [(wd 33, .bl (p 0)), (wd 34, .bl (p 1)), (wd 35, .bl (p 2)), (wd 36, .bl (p 3)), (wd 37, .bl (p 4))]
theorem lkF (p : Nat → Bool) : ∀ i ∈ [0, 1, 2, 3, 4], lk (wd (33 + i)) (fndD p) = some (.bl (p i)) := by
  intro i hi
  simp only [List.mem_cons, List.not_mem_nil, or_false] at hi
  rcases hi with rfl | rfl | rfl | rfl | rfl <;> simp [lk, fndD, wd_eq]
theorem and_bln (p : Prop) [Decidable p] (b : Bool) (s : Store) : (if ¬p then R.ok (L.bl b) s else R.ok (L.bl (!decide p)) s) = R.ok (L.bl (!decide p && b)) s := by
  by_cases h : p
  · rw [if_neg (fun q => q h), decide_eq_true h]; rfl
  · rw [if_pos h, decide_eq_false h]; rfl
local macro_rules
  | `(tactic| walk_at "ev") => `(tactic| simp (config := {decide := false}) only [ev_var, ev_cst, ev_glb, ev_add, ev_sub, ev_mul, ev_fdv, ev_mod, ev_pow, ev_neg, ev_not, ev_eq, ev_ne, ev_lt, ev_le, ev_gt, ev_ge, ev_isn, ev_isnn, ev_inn, ev_nin, ev_and, ev_or, ev_ite, ev_tup, ev_lst, ev_dS0, ev_dSc, ev_idx, ev_fld, ev_call, ev_isi, ev_bi, ev_bx, ev_lc, ev_idxX, ev_inX, evX_disp, evX_lc0, evs_nil, evs_cons, ev_chn, ev_slc, ev_append, ev_meth,
      k1_ok, k1_ex, k2_ok, kAnd_ok, kA_b, kOr_ok, kO_b, kI_b, kCs_ok, kCons_ok, kX_ok, kN_ok, kC1_ok, kC2_ok, kC3_b, kC4_ok, kS_ok, kSl_ok, kSh_ok, pt_non, pt_som, ptI_ok, kApp_ok, kApp2_l, kApp3_ok, appG_5, dspO_5, o_ixO, o_lcO, kMeth_ok, o_mth,
      es_nil, es_cons, sSeq_nx, sSeq_rt, sSeq_ex, es_asg, sAsg_ok, sAsg_ex, es_ret, sRet_ok, sRet_ex, es_expr, sExp_ok, sExp_ex, es_ife, sIf_b, es_iset, sIs1_ok, sIs2_ok, sIs3_ok, sEnd_ok, es_asgT, sSetT_k, sSt_s, setT_tp, setT_nm, setAll_n, setAll_c, es_par, sPar1_ok, sPar2_ok, es_fset, sFs1_ok, sFs2_ok, es_rse, es_tr, sTr_nx, sTr_ex, es_fr, sFr_fix, sFr_dyn, evI_val, o_srcT, o_src, srcG_l, forFix_nil, forFix_cons, sFx_nx, sFx_rt, sFx_ex, frF_nm,
      ap_ofO, tru_b, tru_int, tru_non, o_add, o_sub, o_lt, o_le, o_gt, o_ge, o_not, o_idx, idxG_l, idxG_d, o_idxT, o_set, setG_l, setJ_s, setG_d, o_len, lenG_l, o_fld, fldG_i, o_lenT, at0, at1, at2, at3, at4, at5, at6, at7, at8, ix4_0, ix4_1, ix4_2, ix4_3, ix3_0, ix3_1, ix3_2, List.set_set, o_intI, o_intB, o_slcT, o_slcL, slcG_l, tupO_5, lstO_5, o_addT5, o_maxx, o_minn, eq_ag8, eq_lt10, eq_lt11, eq_by10, eq_by13, eq_by12, ne_by10, eq_bk14, eq_ov13, eq_rn17, eq_lw19, eq_w27, eq_w28, o_isA, o_isnA, eqq_int, eqq_wd, lcF_ev, lcE_s, cnd_non, cnd_som, lcT_ok, sg1_ok, wipe_n, wipe_c, HF_has, o_isN, o_isnN, o_isI, o_isnI,
      List.map_cons, List.map_nil, List.replicate, List.cons_append, List.nil_append, List.append_assoc, List.length_append, List.length_set, List.getElem?_cons_zero, List.getElem?_cons_succ, List.set_cons_zero, List.set_cons_succ, Option.join, Option.bind_some, id_eq, List.length_cons, List.length_nil, List.length_map, eq_self, decide_true, decide_false, decide_eq_true_eq, Nat.reduceAdd, Nat.reduceSub, Nat.reduceLeDiff, Nat.reduceLT, Nat.reduceEqDiff, Int.reduceAdd, Int.reduceSub, Int.reduceLT, Int.reduceLE, Int.reduceEq, Nat.zero_add, Nat.zero_le, Bool.not_true, Bool.not_false, Bool.not_eq_true', decide_eq_false_iff_not, if_true, if_false, ite_true, ite_false, reduceIte, Bool.false_eq_true, reduceCtorEq, wd_eq, HC_con, and_bl, or_bl, ite_nx, ite_nx0, cut24, eqq_t2, st_i0, st_i1, st_i2, st_i3, st_i4, st_i5, dw_i0, eq_dw22, Int.add_zero, lkD11, lkD30, lkD12, lkD16, lkD31, lkD32, putD11, putD30, putD12, putD16, putD31i, putD31n, stD_len, setG_d5, inMO_f, okF_wd, List.all_cons, List.all_nil, List.any_cons, List.any_nil, eqF_wd, Bool.and_true, Bool.true_and, Bool.and_self, Bool.or_false, Bool.or_true, Bool.false_or, Bool.true_or, Bool.or_self, Bool.and_false, Bool.false_and, neO_wd, neO_int, HP.St.wth, putF0, putF1, putF2, putF3, putF4, and_bln, *])
theorem lwords_ok {P : Pg} {n k : Nat} [hf : HF P ("_law_words", none) d__law_words] (hk : 1 ≤ k) (s : Store) : callD P n k ("_law_words", none) [] s = .ok (.loc s.length) (s ++ [.lst (([0, 1, 2, 3, 4] : List Nat).map flW)]) := by
  obtain ⟨k, rfl⟩ : ∃ j, k = j + 1 := ⟨k - 1, by omega⟩
  rw [call_at hf.fn rfl]
  simp only [d__law_words]
  walk_at "ev"
  exact fin_list (app_at0 s _) (Nat.le_refl _) rfl
/-- takes and gives never fall -/
theorem tk_mono {rl : Rl} {life : Int} {x y : St} {d : Dd} (hx : Ok life x) (h : behind rl life x d = some y) : x.tk ≤ y.tk ∧ x.gv ≤ y.gv := by
  cases d with
  | send g a => cases h; exact ⟨Int.le_refl _, Int.le_refl _⟩
  | come i =>
    simp only [behind] at h
    split at h
    · cases h
    · rename_i g hg
      obtain ⟨h1, h2⟩ := hx.mail g (List.mem_of_getElem? hg)
      have hh := hx.h
      cases h
      unfold come1
      have key : x.tk ≤ (cameS rl x g).2.1 ∧ x.gv ≤ (cameS rl x g).2.2 := by
        unfold cameS
        split
        · simp only [giveS, part]
          repeat' split
          all_goals omega
        · split
          · unfold lateS
            split <;> simp only <;> omega
          · unfold openS
            split
            · simp only; omega
            · split <;> simp only <;> omega
      split
      · exact key
      · exact ⟨Int.le_refl _, Int.le_refl _⟩
  | tick =>
    simp only [behind] at h
    split at h
    · cases h
    · cases h
      split <;> exact ⟨Int.le_refl _, Int.le_refl _⟩
  | release =>
    simp only [behind] at h
    split at h
    · cases h
    · cases h; exact ⟨Int.le_refl _, Int.le_refl _⟩
  | renew => cases h; exact ⟨Int.le_refl _, Int.le_refl _⟩
  | raise => cases h; exact ⟨Int.le_refl _, Int.le_refl _⟩
  | lower =>
    simp only [behind] at h
    split at h
    · cases h
    · cases h; exact ⟨Int.le_refl _, Int.le_refl _⟩
/-- the law's account of the faults, from what it asks -/
def lfB (x y : St) (fst cm : Bool) : Nat → Bool
  | 0 => decide (x.tk < y.tk) && decide (y.ag < y.tk - y.gv)
  | 1 => cm && (!fst && (decide (x.tk < y.tk) || decide (x.gv < y.gv)))
  | 2 => fst && (!decide (x.tk < y.tk) && !decide (x.gv < y.gv))
  | 3 => decide (x.gv < y.gv) && decide (y.tk - y.gv < 0)
  | 4 => decide (max 0 (y.ag - (y.tk - y.gv)) < y.h)
  | _ => false
theorem lfB_flt {rl : Rl} {life : Int} {x y : St} {d : Dd} (hx : Ok life x) (h : behind rl life x d = some y) (fst : Bool) (hf : fst = (isCome d && decide (timesAt x d = 0))) : ∀ i, lfB x y fst (isCome d) i = flt x d y i := by
  obtain ⟨m1, m2⟩ := tk_mono hx h
  have ht : 0 ≤ timesAt x d := by
    cases d with
    | come i =>
      show 0 ≤ ((x.mail[i]?).map Msg.times).getD 0
      cases q : x.mail[i]? with
      | none => exact Int.le_refl _
      | some g => exact (hx.mail g (List.mem_of_getElem? q)).2
    | _ => exact Int.le_refl _
  subst hf
  intro i
  rcases i with _ | _ | _ | _ | _ | i
  · exact Bool.and_comm _ _
  · simp only [lfB, flt]
    cases isCome d with
    | false => rfl
    | true =>
      by_cases q : timesAt x d = 0
      · rw [decide_eq_true q, decide_eq_false (show ¬ 0 < timesAt x d by omega)]; rfl
      · rw [decide_eq_false q, decide_eq_true (show 0 < timesAt x d by omega)]; rfl
  · simp only [lfB, flt]
    have e1 : (!decide (x.tk < y.tk)) = decide (y.tk = x.tk) := by
      by_cases q : x.tk < y.tk
      · rw [decide_eq_true q, decide_eq_false (by omega)]; rfl
      · rw [decide_eq_false q, decide_eq_true (by omega)]; rfl
    have e2 : (!decide (x.gv < y.gv)) = decide (y.gv = x.gv) := by
      by_cases q : x.gv < y.gv
      · rw [decide_eq_true q, decide_eq_false (by omega)]; rfl
      · rw [decide_eq_false q, decide_eq_true (by omega)]; rfl
    rw [e1, e2, Bool.and_assoc]
  · simp only [lfB, flt]
    have e1 : decide (y.tk - y.gv < 0) = decide (y.tk < y.gv) := by
      by_cases q : y.tk < y.gv
      · rw [decide_eq_true q, decide_eq_true (by omega)]
      · rw [decide_eq_false q, decide_eq_false (by omega)]
    rw [e1]
  · simp only [lfB, flt]
    by_cases q : 0 < y.h
    · by_cases q2 : y.ag - (y.tk - y.gv) < y.h
      · rw [decide_eq_true q, decide_eq_true q2, decide_eq_true (by omega)]; rfl
      · rw [decide_eq_true q, decide_eq_false q2, decide_eq_false (by omega)]; rfl
    · rw [decide_eq_false q, decide_eq_false (by omega)]; rfl
  · rfl
theorem grown {s s2 : Store} (hl : s.length ≤ s2.length) (h : ∀ i, i < s.length → s2[i]? = s[i]?) : ∃ g, s2 = s ++ g := by
  refine ⟨s2.drop s.length, List.ext_getElem? fun i => ?_⟩
  by_cases q : i < s.length
  · rw [sl_app q, h i q]
  · rw [sl_new (by omega), List.getElem?_drop]
    congr 1
    omega
theorem nl_flW : ∀ xs : List Nat, noLocs (xs.map flW) = true
  | [] => rfl
  | _ :: xs => nl_flW xs
theorem lf_words {P : Pg} {n k : Nat} (hn : 1000 < n) (S : Store) (p : Nat → Bool) (e0 e1 e2 e3 e4 e5 e6 e7 : Option L) : xLc P.gl (callD P n k) n [9] (.nm 9) (.som (.idx (.var 8) (.var 9))) (.var 9) [e0, e1, e2, e3, e4, e5, e6, e7, some (.loc S.length), none] (.ok (.dyn (S.length + 1)) (S ++ [.dS (fndD p), .lst (([0, 1, 2, 3, 4] : List Nat).map flW)])) = .ok ((([0, 1, 2, 3, 4] : List Nat).filter p).map flW) (S ++ [.dS (fndD p), .lst (([0, 1, 2, 3, 4] : List Nat).map flW)]) := by
  refine xLc_filD (app_at S _ 1) (by show 5 < n; omega) _ _ (fun i hi => ?_) (by decide)
  have h1 : (S ++ [Ob.dS (fndD p), .lst (([0, 1, 2, 3, 4] : List Nat).map flW)])[S.length]? = some (.dS (fndD p)) := app_at0 _ _
  have h2 := lkF p i hi
  have h3 : flW i = .str (wd (33 + i)) := rfl
  generalize (S ++ [Ob.dS (fndD p), .lst (([0, 1, 2, 3, 4] : List Nat).map flW)]) = S1 at *
  rw [h3]
  clear hi h3 hn
  walk_at "ev"
  split <;> rfl
class HLf (P : Pg) : Prop extends HL P where
  w : HF P ("_law_words", none) d__law_words
  z : HF P ("_law_faults", none) d__law_faults
theorem lfaults_ok {P : Pg} {n k : Nat} [H : HLf P] (hn : 1000 < n) (hk : 6 ≤ k) {c d m : Nat} {rs : List Nat} {rl : Rl} {life : Int} {x : St} {s : Store} (hc : PaAt s c rl) (h : SA s d m rs x) (hx : Ok life x) (hm : x.mail.length < 999) (dd : Dd) :
    callD P n k ("_law_faults", none) [.loc c, .int life, .loc d, dL dd] s = .ok (.loc s.length) (s ++ [.lst ((faults rl life x dd).map flW)]) := by
  obtain ⟨k, rfl⟩ : ∃ j, k = j + 1 := ⟨k - 1, by omega⟩
  have j1 := H.a
  have j2 := H.i
  have j3 := H.g
  have j4 := H.w
  obtain ⟨g, m', rs', c1, sa1, fp⟩ := lcopy_ok (P := P) (n := n) (k := k) hn (by omega) h (by omega)
  have hc1 : PaAt (s ++ g) c rl := by show _ = _; rw [sl_app (at_lt hc)]; exact hc
  obtain ⟨s2, rs2, c2, sa2, fm2, _⟩ := ldo_ok (P := P) (n := n) (k := k) hn (by omega) hc1 sa1 hx (by omega) dd
  obtain ⟨g2, rfl⟩ : ∃ g2, s2 = s ++ g2 := grown (by have := fm2.len; rw [List.length_append] at this; omega) fun i hi => by
    rw [fm2.at_ i (by rw [List.length_append]; omega) fun hF => by have := fp i hF; omega, sl_app hi]
  have hd := h.c
  have hl := h.l
  have hd2 : (s ++ g2)[d]? = some (.dS (stD x m)) := by rw [sl_app (at_lt hd)]; exact hd
  have hn2 := sa2.c
  have cn : ∀ g, callD P n k ("_law_net", none) [.loc s.length] (s ++ (g2 ++ g)) = .ok (.int ((stepO rl life x dd).tk - (stepO rl life x dd).gv)) (s ++ (g2 ++ g)) := fun g => lnet_ok (P := P) (n := n) (k := k) (by omega) (m := m') (x := stepO rl life x dd) (by rw [← List.append_assoc, sl_app (at_lt hn2)]; exact hn2)
  rw [call_at H.z.fn rfl]
  cases hb : behind rl life x dd with
  | none =>
    have ef : faults rl life x dd = [] := by unfold faults; rw [hb]
    have eo : okD rl life x dd = false := by unfold okD; rw [hb]; rfl
    rw [ef]
    rw [eo] at c2
    have e1 : (s ++ (g2 ++ [Ob.lst []]))[s.length + g2.length]? = some (.lst []) := by
      rw [app_at, List.getElem?_append_right (Nat.le_refl _), Nat.sub_self]; rfl
    simp only [d__law_faults]
    simp only [wordL] at c2
    clear hx hm h hc hn hk sa1 hc1 sa2 fm2 fp hd hl hd2 hn2 cn hb
    walk_at "ev"
    exact fin_list e1 (by omega) rfl
  | some y =>
    have eo : okD rl life x dd = true := by unfold okD; rw [hb]; rfl
    have ey : stepO rl life x dd = y := by unfold stepO; rw [hb]; rfl
    rw [eo] at c2
    rw [ey] at hn2 cn
    simp only [wordL, if_true] at c2
    have hrd : ∀ o, ((s ++ g2) ++ [o])[d]? = some (.dS (stD x m)) := fun o => by rw [sl_app (at_lt hd2)]; exact hd2
    have hrn : ∀ o, ((s ++ g2) ++ [o])[s.length]? = some (.dS (stD y m')) := fun o => by rw [sl_app (at_lt hn2)]; exact hn2
    have hrm : ∀ o, ((s ++ g2) ++ [o])[m]? = some (.lst (rs.map .loc)) := fun o => by rw [List.append_assoc, sl_app (at_lt hl)]; exact hl
    have hsm : (s ++ g2)[m]? = some (.lst (rs.map .loc)) := by rw [sl_app (at_lt hl)]; exact hl
    have hrr : ∀ (i q : Nat) (gq : Msg), rs[i]? = some q → x.mail[i]? = some gq → (s ++ g2)[q]? = some (Ob.lst [wL gq.give, .int gq.sum, .int gq.times]) := fun i q gq h1 h2 => by
      have := h.r i q gq h1 h2
      rw [sl_app (at_lt this)]; exact this
    have cn1 : callD P n k ("_law_net", none) [.loc s.length] (s ++ g2) = .ok (.int (y.tk - y.gv)) (s ++ g2) := by
      have := cn []
      rwa [List.append_nil] at this
    have cn2 : ∀ o, callD P n k ("_law_net", none) [.loc s.length] ((s ++ g2) ++ [o]) = .ok (.int (y.tk - y.gv)) ((s ++ g2) ++ [o]) := fun o => by
      have := cn [o]
      rwa [← List.append_assoc] at this
    have cw := lwords_ok (P := P) (n := n) (k := k) (by omega)
    have hfin : ∀ (o1 o2 : Ob) (xs : List Nat), fin s (.rt (.loc ((s ++ g2).length + 2)) ((s ++ g2) ++ [o1, o2, .lst (xs.map flW)])) = .ok (.loc s.length) (s ++ [.lst (xs.map flW)]) := fun o1 o2 xs => by
      have e1 : ((s ++ g2) ++ [o1, o2, Ob.lst (xs.map flW)])[(s ++ g2).length + 2]? = some (.lst (xs.map flW)) := app_at (s ++ g2) _ 2
      rw [List.append_assoc] at e1 ⊢
      exact fin_list e1 (by rw [List.length_append]; omega) (nl_flW xs)
    have ef : faults rl life x dd = [0, 1, 2, 3, 4].filter (flt x dd y) := by unfold faults; rw [hb]
    have hq := lf_words (P := P) (n := n) (k := k) hn (s ++ g2)
    rw [ef]
    clear cn
    have c1' := c1
    have e0 : s.length = s.length := rfl
    generalize hS : s ++ g2 = S at *
    have a1 : ∀ o : Ob, (S ++ [o])[S.length]? = some o := fun o => app_at0 S [o]
    have a2 : ∀ o o' : Ob, (S ++ [o]).set S.length o' = S ++ [o'] := set_end S
    have a3 : ∀ o1 o2 : Ob, (S ++ [o1, o2])[S.length + 1]? = some o2 := fun o1 o2 => app_at S [o1, o2] 1
    simp only [d__law_faults]
    by_cases hcm : ∃ i, dd = .come i
    · obtain ⟨i, rfl⟩ := hcm
      obtain ⟨gq, hgq⟩ : ∃ gq, x.mail[i]? = some gq := by
        simp only [behind] at hb
        cases hm : x.mail[i]? with
        | none => rw [hm] at hb; cases hb
        | some gq => exact ⟨gq, rfl⟩
      obtain ⟨q, hqi⟩ : ∃ q, rs[i]? = some q := ⟨_, List.getElem?_eq_getElem (by rw [h.len]; exact (List.getElem?_eq_some_iff.mp hgq).1)⟩
      have hrow := hrr i q gq hqi hgq
      have hat : L2.atI (rs.map L.loc) (i : Int) = some (.loc q) := atI_get _ _ _ (by rw [List.getElem?_map, hqi]; rfl)
      have hfl : ([0, 1, 2, 3, 4] : List Nat).filter (flt x (.come i) y) = [0, 1, 2, 3, 4].filter (lfB x y (decide (gq.times = 0)) true) := by
        have e1 := lfB_flt hx hb (decide (gq.times = 0)) (by
          show _ = (true && decide (((x.mail[i]?).map Msg.times).getD 0 = 0))
          rw [hgq]; rfl)
        congr 1
        funext j
        exact (e1 j).symm
      have hq' := hq (lfB x y (decide (gq.times = 0)) true)
      rw [hfl]
      have hfin' := fun o1 o2 => hfin o1 o2 (([0, 1, 2, 3, 4] : List Nat).filter (lfB x y (decide (gq.times = 0)) true))
      generalize ([0, 1, 2, 3, 4] : List Nat).filter (lfB x y (decide (gq.times = 0)) true) = R at *
      simp only [fndD, lfB, Bool.true_and, List.map_cons, List.map_nil] at hq'
      simp only [dL] at c2 ⊢
      clear hx hm h hc hn hk sa1 hc1 sa2 fm2 fp hd hb ef c1' e0 hS hrr hqi hgq hfl hq hfin eo ey
      walk_at "ev"
    · have ec : isCome dd = false := by
        cases dd <;> first | rfl | exact (hcm ⟨_, rfl⟩).elim
      have hfl : ([0, 1, 2, 3, 4] : List Nat).filter (flt x dd y) = [0, 1, 2, 3, 4].filter (lfB x y false false) := by
        have e1 := lfB_flt hx hb false (by rw [ec]; rfl)
        rw [ec] at e1
        congr 1
        funext j
        exact (e1 j).symm
      have hq' := hq (lfB x y false false)
      rw [hfl]
      have hfin' := fun o1 o2 => hfin o1 o2 (([0, 1, 2, 3, 4] : List Nat).filter (lfB x y false false))
      generalize ([0, 1, 2, 3, 4] : List Nat).filter (lfB x y false false) = R at *
      simp only [fndD, lfB, Bool.false_and, List.map_cons, List.map_nil] at hq'
      clear hx hm h hc hn hk sa1 hc1 sa2 fm2 fp hd hb ef c1' e0 hS hrr hfl hq hfin eo ey hcm
      walk_at "ev"
end D
end

section
set_option maxRecDepth 100000
set_option maxHeartbeats 1000000
/-! E13: a deed drawn; like; words of a history. -/
namespace D
open PySem DL HP
theorem is_non_bl  (s : Store) : isiO .bl .non s = .ok (.bl false) s := rfl
theorem is_non_int  (s : Store) : isiO .int .non s = .ok (.bl false) s := rfl
theorem is_non_str  (s : Store) : isiO .str .non s = .ok (.bl false) s := rfl
theorem is_non_tup  (s : Store) : isiO .tup .non s = .ok (.bl false) s := rfl
theorem is_non_lst  (s : Store) : isiO .lst .non s = .ok (.bl false) s := rfl
theorem is_bl_bl (b : Bool) (s : Store) : isiO .bl (.bl b) s = .ok (.bl true) s := rfl
theorem is_bl_int (b : Bool) (s : Store) : isiO .int (.bl b) s = .ok (.bl true) s := rfl
theorem is_bl_str (b : Bool) (s : Store) : isiO .str (.bl b) s = .ok (.bl false) s := rfl
theorem is_bl_tup (b : Bool) (s : Store) : isiO .tup (.bl b) s = .ok (.bl false) s := rfl
theorem is_bl_lst (b : Bool) (s : Store) : isiO .lst (.bl b) s = .ok (.bl false) s := rfl
theorem is_int_bl (i : Int) (s : Store) : isiO .bl (.int i) s = .ok (.bl false) s := rfl
theorem is_int_int (i : Int) (s : Store) : isiO .int (.int i) s = .ok (.bl true) s := rfl
theorem is_int_str (i : Int) (s : Store) : isiO .str (.int i) s = .ok (.bl false) s := rfl
theorem is_int_tup (i : Int) (s : Store) : isiO .tup (.int i) s = .ok (.bl false) s := rfl
theorem is_int_lst (i : Int) (s : Store) : isiO .lst (.int i) s = .ok (.bl false) s := rfl
theorem is_str_bl (z : Str) (s : Store) : isiO .bl (.str z) s = .ok (.bl false) s := rfl
theorem is_str_int (z : Str) (s : Store) : isiO .int (.str z) s = .ok (.bl false) s := rfl
theorem is_str_str (z : Str) (s : Store) : isiO .str (.str z) s = .ok (.bl true) s := rfl
theorem is_str_tup (z : Str) (s : Store) : isiO .tup (.str z) s = .ok (.bl false) s := rfl
theorem is_str_lst (z : Str) (s : Store) : isiO .lst (.str z) s = .ok (.bl false) s := rfl
theorem is_tup_bl (xs : List L) (s : Store) : isiO .bl (.tup xs) s = .ok (.bl false) s := rfl
theorem is_tup_int (xs : List L) (s : Store) : isiO .int (.tup xs) s = .ok (.bl false) s := rfl
theorem is_tup_str (xs : List L) (s : Store) : isiO .str (.tup xs) s = .ok (.bl false) s := rfl
theorem is_tup_tup (xs : List L) (s : Store) : isiO .tup (.tup xs) s = .ok (.bl true) s := rfl
theorem is_tup_lst (xs : List L) (s : Store) : isiO .lst (.tup xs) s = .ok (.bl false) s := rfl
theorem is_loc_bl {c : Nat} {xs : List L} {s : Store} (h : s[c]? = some (.lst xs)) : isiO .bl (.loc c) s = .ok (.bl false) s := by
  unfold isiO isiM
  simp only [kdOf, h]
  rfl
theorem is_loc_int {c : Nat} {xs : List L} {s : Store} (h : s[c]? = some (.lst xs)) : isiO .int (.loc c) s = .ok (.bl false) s := by
  unfold isiO isiM
  simp only [kdOf, h]
  rfl
theorem is_loc_str {c : Nat} {xs : List L} {s : Store} (h : s[c]? = some (.lst xs)) : isiO .str (.loc c) s = .ok (.bl false) s := by
  unfold isiO isiM
  simp only [kdOf, h]
  rfl
theorem is_loc_tup {c : Nat} {xs : List L} {s : Store} (h : s[c]? = some (.lst xs)) : isiO .tup (.loc c) s = .ok (.bl false) s := by
  unfold isiO isiM
  simp only [kdOf, h]
  rfl
theorem is_loc_lst {c : Nat} {xs : List L} {s : Store} (h : s[c]? = some (.lst xs)) : isiO .lst (.loc c) s = .ok (.bl true) s := by
  unfold isiO isiM
  simp only [kdOf, h]
  rfl
local macro_rules
  | `(tactic| walk_at "ev") => `(tactic| simp (config := {decide := false}) only [ev_var, ev_cst, ev_glb, ev_add, ev_sub, ev_mul, ev_fdv, ev_mod, ev_pow, ev_neg, ev_not, ev_eq, ev_ne, ev_lt, ev_le, ev_gt, ev_ge, ev_isn, ev_isnn, ev_inn, ev_nin, ev_and, ev_or, ev_ite, ev_tup, ev_lst, ev_dS0, ev_dSc, ev_idx, ev_fld, ev_call, ev_isi, ev_bi, ev_bx, ev_lc, ev_idxX, ev_inX, evX_disp, evX_lc0, evs_nil, evs_cons, ev_chn, ev_slc, ev_append, ev_meth,
      k1_ok, k1_ex, k2_ok, kAnd_ok, kA_b, kOr_ok, kO_b, kI_b, kCs_ok, kCons_ok, kX_ok, kN_ok, kC1_ok, kC2_ok, kC3_b, kC4_ok, kS_ok, kSl_ok, kSh_ok, pt_non, pt_som, ptI_ok, kApp_ok, kApp2_l, kApp3_ok, appG_5, dspO_5, o_ixO, o_lcO, kMeth_ok, o_mth,
      es_nil, es_cons, sSeq_nx, sSeq_rt, sSeq_ex, es_asg, sAsg_ok, sAsg_ex, es_ret, sRet_ok, sRet_ex, es_expr, sExp_ok, sExp_ex, es_ife, sIf_b, es_iset, sIs1_ok, sIs2_ok, sIs3_ok, sEnd_ok, es_asgT, sSetT_k, sSt_s, setT_tp, setT_nm, setAll_n, setAll_c, es_par, sPar1_ok, sPar2_ok, es_fset, sFs1_ok, sFs2_ok, es_rse, es_tr, sTr_nx, sTr_ex, es_fr, sFr_fix, sFr_dyn, evI_val, o_srcT, o_src, srcG_l, forFix_nil, forFix_cons, sFx_nx, sFx_rt, sFx_ex, frF_nm,
      ap_ofO, tru_b, tru_int, tru_non, o_add, o_sub, o_lt, o_le, o_gt, o_ge, o_not, o_idx, idxG_l, idxG_d, o_idxT, o_set, setG_l, setJ_s, setG_d, o_len, lenG_l, o_fld, fldG_i, o_lenT, at0, at1, at2, at3, at4, at5, at6, at7, at8, ix4_0, ix4_1, ix4_2, ix4_3, ix3_0, ix3_1, ix3_2, List.set_set, o_intI, o_intB, o_slcT, o_slcL, slcG_l, tupO_5, lstO_5, o_addT5, o_maxx, o_minn, eq_ag8, eq_lt10, eq_lt11, eq_by10, eq_by13, eq_by12, ne_by10, eq_bk14, eq_ov13, eq_rn17, eq_lw19, eq_w27, eq_w28, o_isA, o_isnA, eqq_int, eqq_wd, lcF_ev, lcE_s, cnd_non, cnd_som, lcT_ok, sg1_ok, wipe_n, wipe_c, HF_has, o_isN, o_isnN, o_isI, o_isnI,
      List.map_cons, List.map_nil, List.replicate, List.cons_append, List.nil_append, List.append_assoc, List.length_append, List.length_set, List.getElem?_cons_zero, List.getElem?_cons_succ, List.set_cons_zero, List.set_cons_succ, Option.join, Option.bind_some, id_eq, List.length_cons, List.length_nil, List.length_map, eq_self, decide_true, decide_false, decide_eq_true_eq, Nat.reduceAdd, Nat.reduceSub, Nat.reduceLeDiff, Nat.reduceLT, Nat.reduceEqDiff, Int.reduceAdd, Int.reduceSub, Int.reduceLT, Int.reduceLE, Int.reduceEq, Nat.zero_add, Nat.zero_le, Bool.not_true, Bool.not_false, Bool.not_eq_true', decide_eq_false_iff_not, if_true, if_false, ite_true, ite_false, reduceIte, Bool.false_eq_true, reduceCtorEq, wd_eq, HC_con, and_bl, or_bl, ite_nx, ite_nx0, cut24, eqq_t2, st_i0, st_i1, st_i2, st_i3, st_i4, st_i5, dw_i0, eq_dw22, Int.add_zero, lkD11, lkD30, lkD12, lkD16, lkD31, lkD32, putD11, putD30, putD12, putD16, putD31i, putD31n, stD_len, setG_d5, inMO_f, okF_wd, List.all_cons, List.all_nil, List.any_cons, List.any_nil, eqF_wd, Bool.and_true, Bool.true_and, Bool.and_self, Bool.or_false, Bool.or_true, Bool.false_or, Bool.true_or, Bool.or_self, Bool.and_false, Bool.false_and, neO_wd, neO_int, HP.St.wth, is_non_bl, is_non_int, is_non_str, is_non_tup, is_non_lst, is_bl_bl, is_bl_int, is_bl_str, is_bl_tup, is_bl_lst, is_int_bl, is_int_int, is_int_str, is_int_tup, is_int_lst, is_str_bl, is_str_int, is_str_str, is_str_tup, is_str_lst, is_tup_bl, is_tup_int, is_tup_str, is_tup_tup, is_tup_lst, is_loc_bl, is_loc_int, is_loc_str, is_loc_tup, is_loc_lst, *])
theorem gcR_or {s s' : Store} {v : L} (h : noLoc v = true) : ∃ s'', fin s (.rt v s') = .ok v s'' ∧ (s'' = s ∨ s'' = s') := by
  show ∃ s'', gcR s v s' = .ok v s'' ∧ _
  unfold gcR
  by_cases q : s'.take s.length = s
  · rw [if_pos q, if_pos h]; exact ⟨s, rfl, .inl rfl⟩
  · rw [if_neg q]; exact ⟨s', rfl, .inr rfl⟩
/-- the law's draws go on -/
structure DrF (dr e : Nat) (s s' : Store) : Prop where
  d : Dr dr e s'
  f : Fr dr s s'
theorem DrF.or {dr e : Nat} {s s' s'' : Store} (h : Dr dr e s) (h' : DrF dr e s s') (o : s'' = s ∨ s'' = s') : DrF dr e s s'' := by
  rcases o with rfl | rfl
  · exact ⟨h, Fr.refl _ _⟩
  · exact h'
theorem Fr.fm {dr : Nat} {s s' : Store} (h : Fr dr s s') : Fm [dr] s s' := ⟨h.1, fun i hi hf => h.2 i hi fun e => hf (by rw [e]; exact List.mem_singleton.mpr rfl)⟩
theorem SA.fr {dr d m : Nat} {rs : List Nat} {x : St} {s s' : Store} (h : SA s d m rs x) (hf : Fr dr s s') (hd : dr ∉ d :: m :: rs) : SA s' d m rs x := h.frame hf.fm fun i hi e => hd (by rw [← List.mem_singleton.mp e]; exact hi)
theorem draw_i {P : Pg} {n k : Nat} [hw : HF P ("_law_draw", none) d__law_draw] (hk : 1 ≤ k) {dr e : Nat} {s : Store} (hd : Dr dr e s) {z : Int} (h0 : 0 < z) (h1 : z < 1000000) : ∃ (v : Nat) (s' : Store), (v : Int) < z ∧ callD P n k ("_law_draw", none) [.loc dr, .int z] s = .ok (.int v) s' ∧ Dr dr e s' ∧ Fr dr s s' := by
  obtain ⟨k, rfl⟩ : ∃ j, k = j + 1 := ⟨k - 1, by omega⟩
  obtain ⟨v, s', h2, h3, h4, h5⟩ := draw_ok' (P := P) (n := n) (k := k) hw.fn hd (z := z.toNat) (by omega) (by omega)
  have e : ((z.toNat : Nat) : Int) = z := by omega
  rw [e] at h3
  exact ⟨v, s', by omega, h3, h4, h5⟩
theorem lany_ok {P : Pg} {n k : Nat} [hf : HF P ("_law_any", none) d__law_any] [hw : HF P ("_law_draw", none) d__law_draw] (hk : 2 ≤ k) {dr e d m : Nat} {rs : List Nat} {x : St} {s : Store} (hd : Dr dr e s) (h : SA s d m rs x) (hdr : dr ∉ d :: m :: rs) (hm : x.mail.length < 999) :
    ∃ dd s', callD P n k ("_law_any", none) [.loc dr, .loc d] s = .ok (dL dd) s' ∧ DrF dr e s s' ∧ DOk dd := by
  obtain ⟨k, rfl⟩ : ∃ j, k = j + 1 + 1 := ⟨k - 2, by omega⟩
  obtain ⟨v, s1, hv, c1, d1, f1⟩ := draw_i (P := P) (n := n) (k := k + 1) (by omega) hd (z := 12) (by omega) (by omega)
  have hS1 := h.fr f1 hdr
  rw [call_at hf.fn rfl]
  simp only [d__law_any]
  by_cases h2 : v ≤ 2
  · obtain ⟨v2, s2, hv2, c2, d2, f2⟩ := draw_i (P := P) (n := n) (k := k + 1) (by omega) d1 (z := 3) (by omega) (by omega)
    obtain ⟨v3, s3, hv3, c3, d3, f3⟩ := draw_i (P := P) (n := n) (k := k + 1) (by omega) d2 (z := 4) (by omega) (by omega)
    have e1 : decide ((v : Int) ≤ 2) = true := decide_eq_true (by omega)
    have hex : ∃ g : Bool, L2.atI [L.str (wd 28), .str (wd 28), .str (wd 27)] (v2 : Int) = some (wL g) := by
      rcases v2 with _ | _ | _ | v2
      · exact ⟨false, rfl⟩
      · exact ⟨false, rfl⟩
      · exact ⟨true, rfl⟩
      · omega
    obtain ⟨g, hg⟩ := hex
    obtain ⟨s4, h4, o4⟩ := gcR_or (s := s) (s' := s3) (v := dL (.send g (1 + (v3 : Int)))) rfl
    refine ⟨.send g (1 + (v3 : Int)), s4, ?_, DrF.or hd ⟨d3, (f1.trans f2).trans f3⟩ o4, by show (1 : Int) ≤ 1 + (v3 : Int); omega⟩
    simp only [dL] at h4 ⊢
    clear hd h hdr hm hS1 d1 d2 d3 f1 f2 f3 hv hv2 hv3 hk h2
    walk_at "ev"
  · by_cases h6 : v ≤ 6
    · obtain ⟨v2, s2, hv2, c2, d2, f2⟩ := draw_i (P := P) (n := n) (k := k + 1) (by omega) d1 (z := 5) (by omega) (by omega)
      have e1 : decide ((v : Int) ≤ 2) = false := decide_eq_false (by omega)
      have e2 : decide ((v : Int) ≤ 6) = true := decide_eq_true (by omega)
      have hd1 := hS1.c
      have hl1 := hS1.l
      have hlen := h.len
      have hz : ∀ z : Nat, (x.mail.length : Int) + (if (v2 : Int) = 0 then 1 else 0) = (z : Int) → 0 < z → z < 1000000 → ∃ dd s', fin s (denSs P.gl (callD P n (k + 1)) n P.er d__law_any.body [some (.loc dr), some (.loc d), none, none] s) = .ok (dL dd) s' ∧ DrF dr e s s' ∧ DOk dd := by
        intro z ez hz0 hz1
        obtain ⟨v3, s3, hv3, c3, d3, f3⟩ := draw_i (P := P) (n := n) (k := k + 1) (by omega) d2 (z := (z : Int)) (by omega) (by omega)
        obtain ⟨s4, h4, o4⟩ := gcR_or (s := s) (s' := s3) (v := dL (.come v3)) rfl
        refine ⟨.come v3, s4, ?_, DrF.or hd ⟨d3, (f1.trans f2).trans f3⟩ o4, trivial⟩
        have e3 : (0 : Int) < (z : Int) := by omega
        simp only [dL, d__law_any] at h4 ⊢
        clear hd h hdr hm hS1 d1 d2 d3 f1 f2 f3 hv hv2 hv3 hk h2 h6 hz0 hz1
        walk_at "ev"
      by_cases hv0 : v2 = 0
      · exact hz (x.mail.length + 1) (by rw [if_pos (by omega)]; omega) (by omega) (by omega)
      · by_cases hm0 : x.mail.length = 0
        · obtain ⟨s4, h4, o4⟩ := gcR_or (s := s) (s' := s2) (v := dL .renew) rfl
          refine ⟨.renew, s4, ?_, DrF.or hd ⟨d2, f1.trans f2⟩ o4, trivial⟩
          have e3 : ¬ ((v2 : Int) = 0) := by omega
          have e4 : (x.mail.length : Int) = 0 := by omega
          simp only [dL, d__law_any] at h4 ⊢
          clear hd h hdr hm hS1 d1 d2 f1 f2 hv hv2 hk h2 h6 hz hv0 hm0
          walk_at "ev"
        · exact hz x.mail.length (by rw [if_neg (by omega)]; omega) (by omega) (by omega)
    · have e1 : decide ((v : Int) ≤ 2) = false := decide_eq_false (by omega)
      have e2 : decide ((v : Int) ≤ 6) = false := decide_eq_false (by omega)
      have hex : ∃ dd, L2.atI [L.tup [.str (wd 23)], .tup [.str (wd 24)], .tup [.str (wd 25)], .tup [.str (wd 26)], .tup [.str (wd 29)]] ((v : Int) - 7) = some (dL dd) ∧ DOk dd := by
        have : v = 7 ∨ v = 8 ∨ v = 9 ∨ v = 10 ∨ v = 11 := by omega
        rcases this with rfl | rfl | rfl | rfl | rfl
        · exact ⟨.tick, rfl, trivial⟩
        · exact ⟨.release, rfl, trivial⟩
        · exact ⟨.renew, rfl, trivial⟩
        · exact ⟨.raise, rfl, trivial⟩
        · exact ⟨.lower, rfl, trivial⟩
      obtain ⟨dd, hdd, hok⟩ := hex
      obtain ⟨s4, h4, o4⟩ := gcR_or (s := s) (s' := s1) (v := dL dd) (noLoc_d dd)
      refine ⟨dd, s4, ?_, DrF.or hd ⟨d1, f1⟩ o4, hok⟩
      clear hd h hdr hm hS1 d1 f1 hv hk h2 h6
      walk_at "ev"
def rngK : R L → R Src
  | .ok x s => rngO x s
  | .ex c p s => .ex c p s
  | .bad => .bad
theorem evI_rngK {G : Glb} {F : Fns} {n : Nat} (a : DE) (e : Env) (s : Store) : denI G F n (.rng1 a) e s = rngK (den G F n a e s) := by
  rw [evI_rng1]
  cases den G F n a e s <;> rfl
theorem rngK_nat (m : Nat) (s : Store) (h : m < 1000000) : rngK (.ok (.int (m : Int)) s) = .ok (Src.fix ((List.range m).map fun i => .int (i : Nat))) s := by
  show rngO (.int (m : Int)) s = _
  rw [o_rng _ _ (by omega)]
  rw [Int.toNat_natCast]
/-- alike, to a depth -/
def Sm (s : Store) : Nat → L → L → Prop
  | 0, _, _ => False
  | j + 1, a, b => match b with
    | .tup ys => ∃ xs, a = .tup xs ∧ xs.length = ys.length ∧ ys.length < 1000000 ∧ ∀ (i : Nat) (x y : L), xs[i]? = some x → ys[i]? = some y → Sm s j x y
    | .loc c => ∃ c' xs ys, a = .loc c' ∧ s[c']? = some (.lst xs) ∧ s[c]? = some (.lst ys) ∧ xs.length = ys.length ∧ ys.length < 1000000 ∧ ∀ (i : Nat) (x y : L), xs[i]? = some x → ys[i]? = some y → Sm s j x y
    | .fn _ => False
    | v => a = v ∧ okF v = true
theorem Sm.flat {s : Store} {j : Nat} {v : L} (h : okF v = true) : Sm s (j + 1) v v := by
  cases v with
  | tup xs => exact (Bool.false_ne_true h).elim
  | loc c => exact (Bool.false_ne_true h).elim
  | fn c => exact (Bool.false_ne_true h).elim
  | _ => exact ⟨rfl, h⟩
theorem eqF_self {v : L} (h : okF v = true) : eqF v v = true := by
  cases v <;> first | rfl | exact beq_self_eq_true _ | exact (Bool.false_ne_true h).elim
theorem eqq_self {hs : FK → Bool} {F : Fns} {v : L} (h : okF v = true) (s : Store) : eqqM hs F v v s = .ok (.bl true) s := by rw [eqq_f h h, eqF_self h]
theorem isO_tup (xs : List L) (s : Store) : isO false (.tup xs) s = .ok (.bl false) s := rfl
theorem isO_loc (c : Nat) (s : Store) : isO false (.loc c) s = .ok (.bl false) s := rfl
theorem isO_str (z : Str) (s : Store) : isO false (.str z) s = .ok (.bl false) s := rfl
theorem isO_bl (b : Bool) (s : Store) : isO false (.bl b) s = .ok (.bl false) s := rfl
def likB : DSs := (.cons (.ife (.not (.call "_law_like" (.cons (.idx (.var 0) (.var 2)) (.cons (.idx (.var 1) (.var 2)) .nil)))) (.cons (.ret (.cst (.bl false)))
    .nil) .nil)
    .nil)
theorem ife_skip (s : Store) (e : Env) (c : Bool) (X : RS) : (if c = true then X else RS.nx e s) = if c = true then X else RS.nx e s := rfl
local macro_rules
  | `(tactic| walk_at "ev") => `(tactic| simp (config := {decide := false}) only [ev_var, ev_cst, ev_glb, ev_add, ev_sub, ev_mul, ev_fdv, ev_mod, ev_pow, ev_neg, ev_not, ev_eq, ev_ne, ev_lt, ev_le, ev_gt, ev_ge, ev_isn, ev_isnn, ev_inn, ev_nin, ev_and, ev_or, ev_ite, ev_tup, ev_lst, ev_dS0, ev_dSc, ev_idx, ev_fld, ev_call, ev_isi, ev_bi, ev_bx, ev_lc, ev_idxX, ev_inX, evX_disp, evX_lc0, evs_nil, evs_cons, ev_chn, ev_slc, ev_append, ev_meth,
      k1_ok, k1_ex, k2_ok, kAnd_ok, kA_b, kOr_ok, kO_b, kI_b, kCs_ok, kCons_ok, kX_ok, kN_ok, kC1_ok, kC2_ok, kC3_b, kC4_ok, kS_ok, kSl_ok, kSh_ok, pt_non, pt_som, ptI_ok, kApp_ok, kApp2_l, kApp3_ok, appG_5, dspO_5, o_ixO, o_lcO, kMeth_ok, o_mth,
      es_nil, es_cons, sSeq_nx, sSeq_rt, sSeq_ex, es_asg, sAsg_ok, sAsg_ex, es_ret, sRet_ok, sRet_ex, es_expr, sExp_ok, sExp_ex, es_ife, sIf_b, es_iset, sIs1_ok, sIs2_ok, sIs3_ok, sEnd_ok, es_asgT, sSetT_k, sSt_s, setT_tp, setT_nm, setAll_n, setAll_c, es_par, sPar1_ok, sPar2_ok, es_fset, sFs1_ok, sFs2_ok, es_rse, es_tr, sTr_nx, sTr_ex, es_fr, sFr_fix, sFr_dyn, evI_val, o_srcT, o_src, srcG_l, forFix_nil, forFix_cons, sFx_nx, sFx_rt, sFx_ex, frF_nm,
      ap_ofO, tru_b, tru_int, tru_non, o_add, o_sub, o_lt, o_le, o_gt, o_ge, o_not, o_idx, idxG_l, idxG_d, o_idxT, o_set, setG_l, setJ_s, setG_d, o_len, lenG_l, o_fld, fldG_i, o_lenT, at0, at1, at2, at3, at4, at5, at6, at7, at8, ix4_0, ix4_1, ix4_2, ix4_3, ix3_0, ix3_1, ix3_2, List.set_set, o_intI, o_intB, o_slcT, o_slcL, slcG_l, tupO_5, lstO_5, o_addT5, o_maxx, o_minn, eq_ag8, eq_lt10, eq_lt11, eq_by10, eq_by13, eq_by12, ne_by10, eq_bk14, eq_ov13, eq_rn17, eq_lw19, eq_w27, eq_w28, o_isA, o_isnA, eqq_int, eqq_wd, lcF_ev, lcE_s, cnd_non, cnd_som, lcT_ok, sg1_ok, wipe_n, wipe_c, HF_has, o_isN, o_isnN, o_isI, o_isnI,
      List.map_cons, List.map_nil, List.replicate, List.cons_append, List.nil_append, List.append_assoc, List.length_append, List.length_set, List.getElem?_cons_zero, List.getElem?_cons_succ, List.set_cons_zero, List.set_cons_succ, Option.join, Option.bind_some, id_eq, List.length_cons, List.length_nil, List.length_map, eq_self, decide_true, decide_false, decide_eq_true_eq, Nat.reduceAdd, Nat.reduceSub, Nat.reduceLeDiff, Nat.reduceLT, Nat.reduceEqDiff, Int.reduceAdd, Int.reduceSub, Int.reduceLT, Int.reduceLE, Int.reduceEq, Nat.zero_add, Nat.zero_le, Bool.not_true, Bool.not_false, Bool.not_eq_true', decide_eq_false_iff_not, if_true, if_false, ite_true, ite_false, reduceIte, Bool.false_eq_true, reduceCtorEq, wd_eq, HC_con, and_bl, or_bl, ite_nx, ite_nx0, cut24, eqq_t2, st_i0, st_i1, st_i2, st_i3, st_i4, st_i5, dw_i0, eq_dw22, Int.add_zero, lkD11, lkD30, lkD12, lkD16, lkD31, lkD32, putD11, putD30, putD12, putD16, putD31i, putD31n, stD_len, setG_d5, inMO_f, okF_wd, List.all_cons, List.all_nil, List.any_cons, List.any_nil, eqF_wd, Bool.and_true, Bool.true_and, Bool.and_self, Bool.or_false, Bool.or_true, Bool.false_or, Bool.true_or, Bool.or_self, Bool.and_false, Bool.false_and, neO_wd, neO_int, HP.St.wth, is_non_bl, is_non_int, is_non_str, is_non_tup, is_non_lst, is_bl_bl, is_bl_int, is_bl_str, is_bl_tup, is_bl_lst, is_int_bl, is_int_int, is_int_str, is_int_tup, is_int_lst, is_str_bl, is_str_int, is_str_str, is_str_tup, is_str_lst, is_tup_bl, is_tup_int, is_tup_str, is_tup_tup, is_tup_lst, is_loc_bl, is_loc_int, is_loc_str, is_loc_tup, is_loc_lst, evI_rngK, isO_tup, isO_loc, isO_str, isO_bl, *])
theorem like_ok {P : Pg} {n : Nat} [hf : HF P ("_law_like", none) d__law_like] (s : Store) : ∀ (j k : Nat) (a b : L), j ≤ k → Sm s j a b → callD P n k ("_law_like", none) [a, b] s = .ok (.bl true) s := by
  intro j
  induction j with
  | zero => exact fun _ _ _ _ h => h.elim
  | succ j ih' =>
    intro k a b hk h
    obtain ⟨k, rfl⟩ : ∃ i, k = i + 1 := ⟨k - 1, by omega⟩
    have ih := ih' k
    clear ih'
    have loop : ∀ (xs ys : List L), xs.length = ys.length → (∀ (i : Nat) (x y : L), xs[i]? = some x → ys[i]? = some y → Sm s j x y) → (∀ i : Nat, i < xs.length → idxM P.gl.kd a (.int i) s = ofO xs[i]? s) → (∀ i : Nat, i < ys.length → idxM P.gl.kd b (.int i) s = ofO ys[i]? s) → ∃ o, forFix (frF P.gl (callD P n k) n P.er (.nm 2) likB) ((List.range ys.length).map fun i => .int (i : Nat)) [some a, some b, none] s = .nx [some a, some b, o] s := by
      intro xs ys hl hs ha hb
      have := forFix_run (f := frF P.gl (callD P n k) n P.er (.nm 2) likB) (g := fun i : Nat => .int (i : Nat)) (fun o : Option L => [some a, some b, o]) (fun _ => s) (fun _ (i : Nat) => some (.int (i : Nat))) (fun is _ => ∀ i ∈ is, i < ys.length) (fun i is o hi => by
        have hil := hi i List.mem_cons_self
        refine ⟨?_, fun i' h' => hi i' (List.mem_cons_of_mem _ h')⟩
        obtain ⟨u, hx⟩ : ∃ u, xs[i]? = some u := ⟨_, List.getElem?_eq_getElem (by omega)⟩
        obtain ⟨w, hy⟩ : ∃ w, ys[i]? = some w := ⟨_, List.getElem?_eq_getElem hil⟩
        have e1 := ha i (by omega)
        have e2 := hb i hil
        rw [hx] at e1
        rw [hy] at e2
        have e3 := ih _ _ (by omega) (hs i _ _ hx hy)
        show denSs P.gl (callD P n k) n P.er likB [some a, some b, some (.int (i : Nat))] s = _
        simp only [likB]
        clear hi hs ha hb hx hy hil ih
        walk_at "ev") (List.range ys.length) none (fun i hi => List.mem_range.mp hi)
      exact ⟨_, this.1⟩
    have hfin : ∀ (v : Bool), fin s (.rt (.bl v) s) = .ok (.bl v) s := fun v => fin_here rfl
    rw [call_at hf.fn rfl]
    cases b with
    | tup ys =>
      obtain ⟨xs, rfl, hl, hz, hs⟩ := h
      obtain ⟨o, hlp⟩ := loop xs ys hl hs (fun i hi => by rw [o_idxT, atI_nat _ _ hi]) (fun i hi => by rw [o_idxT, atI_nat _ _ hi])
      have hr := rngK_nat ys.length s hz
      simp only [d__law_like]
      simp only [likB] at hlp
      clear loop ih hs hk hz
      walk_at "ev"
    | loc c =>
      obtain ⟨c', xs, ys, rfl, hc', hc, hl, hz, hs⟩ := h
      obtain ⟨o, hlp⟩ := loop xs ys hl hs (fun i hi => by rw [o_idx, hc', idxG_l, atI_nat _ _ hi]) (fun i hi => by rw [o_idx, hc, idxG_l, atI_nat _ _ hi])
      have hr := rngK_nat ys.length s hz
      have i1 := is_loc_bl hc
      have i2 := is_loc_int hc
      have i3 := is_loc_str hc
      have i4 := is_loc_tup hc
      have i5 := is_loc_lst hc'
      simp only [d__law_like]
      simp only [likB] at hlp
      clear loop ih hs hk hz
      walk_at "ev"
    | fn x => exact h.elim
    | non => obtain ⟨rfl, h⟩ := h; simp only [d__law_like]; clear loop ih; walk_at "ev"
    | bl b => obtain ⟨rfl, h⟩ := h; have e1 := fun hs F => eqq_self (hs := hs) (F := F) h s; simp only [d__law_like]; clear loop ih; walk_at "ev"
    | int b => obtain ⟨rfl, h⟩ := h; have e1 := fun hs F => eqq_self (hs := hs) (F := F) h s; simp only [d__law_like]; clear loop ih; walk_at "ev"
    | str b => obtain ⟨rfl, h⟩ := h; have e1 := fun hs F => eqq_self (hs := hs) (F := F) h s; simp only [d__law_like]; clear loop ih; walk_at "ev"
end D
end

section
set_option maxRecDepth 100000
set_option maxHeartbeats 1000000
/-! E14: parts and rules drawn; what a law holds on to. -/
namespace D
open PySem DL HP
theorem forFix_inv {β : Type} {f : L → Env → Store → RS} {g : β → L} (I : List β → Env → Store → Prop) (hs : ∀ m ms e s, I (m :: ms) e s → ∃ e' s', f (g m) e s = .nx e' s' ∧ I ms e' s') : ∀ (ms : List β) (e : Env) (s : Store), I ms e s → ∃ e' s', forFix f (ms.map g) e s = .nx e' s' ∧ I [] e' s'
  | [], e, s, i => ⟨e, s, rfl, i⟩
  | m :: ms, e, s, i => by
    obtain ⟨e1, s1, h1, i1⟩ := hs m ms e s i
    obtain ⟨e2, s2, h2, i2⟩ := forFix_inv I hs ms e1 s1 i1
    exact ⟨e2, s2, by rw [List.map_cons, forFix_cons, h1, sFx_nx, h2], i2⟩
/-- the draws, the parts, the rules are there -/
class HRu (P : Pg) : Prop where
  r : HasR P
  beg : HF P ("_law_begin", none) d__law_begin
  drw : HF P ("_law_draw", none) d__law_draw
  val : HF P ("_law_values", none) d__law_values
  prt : HF P ("_law_parts", none) d__law_parts
  rul : HF P ("_law_rule", none) mkDef
theorem isv_b (f : Bool → L) (vs : List L) (h : ∀ b, isV vs (f b) = true) (b : Bool) : isV vs (f b) = true := h b
theorem due_rl (rl : Rl) : due (rlL rl) = none := by
  have h0 : isV [.str (wd 8), .str (wd 9)] (agL rl.once) = true := by cases rl.once <;> simp [isV, agL, isS, eqF, wd_eq]
  have h1 : isV [.str (wd 10), .str (wd 11), .str (wd 12)] (ltL rl.late) = true := by cases rl.late <;> simp [isV, ltL, isS, eqF, wd_eq]
  have h2 : isV [.str (wd 10), .str (wd 13), .str (wd 12)] (byL rl.bey) = true := by cases rl.bey <;> simp [isV, byL, isS, eqF, wd_eq]
  have h3 : isV [.str (wd 14), .str (wd 15)] (bkL rl.stays) = true := by cases rl.stays <;> simp [isV, bkL, isS, eqF, wd_eq]
  have h4 : isV [.str (wd 13), .str (wd 16)] (ovL rl.giv) = true := by cases rl.giv <;> simp [isV, ovL, isS, eqF, wd_eq]
  have h5 : isV [.str (wd 17), .str (wd 18)] (rnL rl.rest) = true := by cases rl.rest <;> simp [isV, rnL, isS, eqF, wd_eq]
  have h6 : isV [.str (wd 19), .str (wd 20)] (lwL rl.word) = true := by cases rl.word <;> simp [isV, lwL, isS, eqF, wd_eq]
  have h7 : isV [.bl true, .bl false] (.bl rl.spent) = true := by cases rl.spent <;> rfl
  have e : due (rlL rl) = bad1 [(0, agL rl.once, [.str (wd 8), .str (wd 9)]), (1, ltL rl.late, [.str (wd 10), .str (wd 11), .str (wd 12)]), (2, byL rl.bey, [.str (wd 10), .str (wd 13), .str (wd 12)]), (3, bkL rl.stays, [.str (wd 14), .str (wd 15)]), (4, ovL rl.giv, [.str (wd 13), .str (wd 16)]), (5, rnL rl.rest, [.str (wd 17), .str (wd 18)]), (6, lwL rl.word, [.str (wd 19), .str (wd 20)]), (7, .bl rl.spent, [.bl true, .bl false])] := rfl
  rw [e]
  simp only [bad1, h0, h1, h2, h3, h4, h5, h6, h7, if_true]
theorem rlL_ok (rl : Rl) : (rlL rl).all okF = true := by
  have h : ∀ v ∈ rlL rl, okF v = true := by
    intro v hv
    simp only [rlL, List.mem_cons, List.not_mem_nil, or_false] at hv
    rcases hv with rfl | rfl | rfl | rfl | rfl | rfl | rfl | rfl
    · exact okF_wd _
    · cases rl.late <;> exact okF_wd _
    · cases rl.bey <;> exact okF_wd _
    · exact okF_wd _
    · exact okF_wd _
    · exact okF_wd _
    · exact okF_wd _
    · rfl
  exact List.all_eq_true.mpr h
theorem rlL_okV (rl : Rl) : (rlL rl).all okV = true := by
  rw [List.all_eq_true]
  intro v hv
  have h := List.all_eq_true.mp (rlL_ok rl) v hv
  cases v <;> first | exact h | exact (Bool.false_ne_true h).elim
theorem lrule_ok {P : Pg} {n k : Nat} [H : HRu P] (hk : 3 ≤ k) {c : Nat} {rl : Rl} {s : Store} (hc : PaAt s c rl) :
    callD P n k ("_law_rule", none) [.loc c] s = .ok (.loc s.length) (s ++ [.ins "Rule" (flds (rlL rl))]) := by
  obtain ⟨k, rfl⟩ : ∃ j, k = j + 3 := ⟨k - 3, by omega⟩
  have h1 := make_ok (n := n) (k := k) H.r H.rul.fn (c := c) (rlL_okV rl) s hc
  have h2 := due_rl rl
  unfold rlL at h2
  rw [h2] at h1
  exact h1
theorem pick_b {x : L} {a b : Nat} (h : x ∈ [L.str (wd a), .str (wd b)]) : ∃ c : Bool, x = .str (wd (if c then b else a)) := by
  simp only [List.mem_cons, List.not_mem_nil, or_false] at h
  rcases h with rfl | rfl
  · exact ⟨false, rfl⟩
  · exact ⟨true, rfl⟩
theorem picks_rl {ps : List L} (h : Picks ps) : ∃ rl, ps = rlL rl := by
  obtain ⟨hl, hp⟩ := h
  match ps, hl, hp with
  | [p0, p1, p2, p3, p4, p5, p6, p7], _, hp =>
    have g : ∀ (j : Nat) x vs, [p0, p1, p2, p3, p4, p5, p6, p7][j]? = some x → vals[j]? = some vs → x ∈ vs := fun j x vs h1 h2 => by
      obtain ⟨vs', h3, h4⟩ := hp j x h1
      rw [h2] at h3
      cases h3
      exact h4
    obtain ⟨b0, rfl⟩ := pick_b (g 0 p0 _ rfl rfl)
    obtain ⟨b3, rfl⟩ := pick_b (g 3 p3 _ rfl rfl)
    obtain ⟨b4, rfl⟩ := pick_b (g 4 p4 _ rfl rfl)
    obtain ⟨b5, rfl⟩ := pick_b (g 5 p5 _ rfl rfl)
    obtain ⟨b6, rfl⟩ := pick_b (g 6 p6 _ rfl rfl)
    have h1 : ∃ l, p1 = ltL l := by
      have := g 1 p1 _ rfl rfl
      simp only [List.mem_cons, List.not_mem_nil, or_false] at this
      rcases this with rfl | rfl | rfl
      · exact ⟨.refused, rfl⟩
      · exact ⟨.agreed, rfl⟩
      · exact ⟨.taken, rfl⟩
    have h2 : ∃ l, p2 = byL l := by
      have := g 2 p2 _ rfl rfl
      simp only [List.mem_cons, List.not_mem_nil, or_false] at this
      rcases this with rfl | rfl | rfl
      · exact ⟨.refused, rfl⟩
      · exact ⟨.cut, rfl⟩
      · exact ⟨.taken, rfl⟩
    have h7 : ∃ b, p7 = .bl b := by
      have := g 7 p7 _ rfl rfl
      simp only [List.mem_cons, List.not_mem_nil, or_false] at this
      rcases this with rfl | rfl
      · exact ⟨true, rfl⟩
      · exact ⟨false, rfl⟩
    obtain ⟨l1, rfl⟩ := h1
    obtain ⟨l2, rfl⟩ := h2
    obtain ⟨b7, rfl⟩ := h7
    exact ⟨⟨b0, l1, l2, b3, b4, b5, b6, b7⟩, rfl⟩
theorem lparts_ok {P : Pg} {n k : Nat} [H : HRu P] (hn : 8 < n) (hk : 2 ≤ k) {s : Store} {d e : Nat} (hd : Dr d e s) :
    ∃ (c : Nat) (rl : Rl) (s' : Store), callD P n k ("_law_parts", none) [.loc d] s = .ok (.loc c) s' ∧ PaAt s' c rl ∧ s.length ≤ c ∧ Dr d e s' ∧ Fr d s s' := by
  obtain ⟨k, rfl⟩ : ∃ j, k = j + 2 := ⟨k - 2, by omega⟩
  obtain ⟨c, ps, s', h1, h2, h3, h4, h5, h6⟩ := parts_ok (n := n) (k := k) hn H.prt.fn H.val.fn H.drw.fn H.val.has H.drw.has hd
  obtain ⟨rl, rfl⟩ := picks_rl h2
  exact ⟨c, rl, s', h1, h4, h3, h5, h6⟩
theorem lbegin_ok {P : Pg} {n k : Nat} [H : HRu P] (hk : 1 ≤ k) (ns : List Int) : callD P n k ("_law_begin", none) [.loc 0] [.scr ns] = .ok (.loc 2) [.scr ns, .lst (ns.map .int), .lst [.loc 1, .int 0, .int 0, .int 7]] := by
  obtain ⟨k, rfl⟩ : ∃ j, k = j + 1 := ⟨k - 1, by omega⟩
  exact begin_ok H.beg.fn ns
/-- what a law holds on to: its draws, cells that stand still, one state -/
structure GI (s : Store) (dr e : Nat) (st : List (Nat × Ob)) (d m : Nat) (rs : List Nat) (x : St) : Prop where
  hd : Dr dr e s
  ht : ∀ p ∈ st, s[p.1]? = some p.2
  sa : SA s d m rs x
  nd : (dr :: e :: (st.map (·.1) ++ (d :: m :: rs))).Nodup
section
variable {s : Store} {dr e : Nat} {st : List (Nat × Ob)} {d m : Nat} {rs : List Nat} {x : St}
theorem GI.dis (h : GI s dr e st d m rs x) : dr ∉ d :: m :: rs ∧ e ∉ d :: m :: rs ∧ (∀ p ∈ st, p.1 ∉ d :: m :: rs ∧ p.1 ≠ dr ∧ p.1 ≠ e) := by
  have hn := h.nd
  rw [List.nodup_cons, List.nodup_cons, List.nodup_append] at hn
  obtain ⟨h1, h2, h3, h4, h5⟩ := hn
  refine ⟨fun q => h1 (List.mem_cons_of_mem _ (List.mem_append_right _ q)), fun q => h2 (List.mem_append_right _ q), fun p hp => ⟨fun q => ?_, fun q => ?_, fun q => ?_⟩⟩
  · exact h5 p.1 (List.mem_map_of_mem hp) p.1 q rfl
  · exact h1 (List.mem_cons_of_mem _ (List.mem_append_left _ (q ▸ List.mem_map_of_mem hp)))
  · exact h2 (List.mem_append_left _ (q ▸ List.mem_map_of_mem hp))
theorem GI.app (h : GI s dr e st d m rs x) (g : Store) : GI (s ++ g) dr e st d m rs x :=
  ⟨h.hd.app g, fun p hp => by rw [sl_app (at_lt (h.ht p hp))]; exact h.ht p hp, h.sa.app g, h.nd⟩
theorem GI.draw (h : GI s dr e st d m rs x) {s' : Store} (hf : Fr dr s s') (hd : Dr dr e s') : GI s' dr e st d m rs x :=
  ⟨hd, fun p hp => hf.at (h.ht p hp) (h.dis.2.2 p hp).2.1, h.sa.fr hf h.dis.1, h.nd⟩
theorem Dr.fm {F : List Nat} {s s' : Store} (h : Dr dr e s) (hf : Fm F s s') (h1 : dr ∉ F) (h2 : e ∉ F) : Dr dr e s' := by
  obtain ⟨hd, ns, i, b, a, q1, q2, q3⟩ := h
  exact ⟨hd, ns, i, b, a, hf.at q1 h1, hf.at q2 h2, q3⟩
theorem GI.lt (h : GI s dr e st d m rs x) : ∀ q, q ∈ dr :: e :: (st.map (·.1) ++ (d :: m :: rs)) → q < s.length := by
  intro q hq
  have hl := h.hd.lt
  rcases List.mem_cons.mp hq with rfl | hq
  · exact hl.1
  · rcases List.mem_cons.mp hq with rfl | hq
    · exact hl.2
    · rcases List.mem_append.mp hq with hq | hq
      · obtain ⟨p, hp, rfl⟩ := List.mem_map.mp hq
        exact at_lt (h.ht p hp)
      · exact h.sa.lt q hq
/-- the state is led on -/
theorem GI.led (h : GI s dr e st d m rs x) {s' : Store} {rs' : List Nat} {x' : St} (hf : Fm (d :: m :: rs) s s') (hs : SA s' d m rs' x') (hn : NewRs rs rs' s) : GI s' dr e st d m rs' x' := by
  obtain ⟨h1, h2, h3⟩ := h.dis
  refine ⟨h.hd.fm hf h1 h2, fun p hp => hf.at (h.ht p hp) (h3 p hp).1, hs, ?_⟩
  have hnd := h.nd
  have key : ∀ q, q ∈ d :: m :: rs' → q ∈ d :: m :: rs ∨ s.length ≤ q := by
    intro q hq
    rcases List.mem_cons.mp hq with rfl | hq
    · exact .inl List.mem_cons_self
    · rcases List.mem_cons.mp hq with rfl | hq
      · exact .inl (List.mem_cons_of_mem _ List.mem_cons_self)
      · rcases hn q hq with h | h
        · exact .inl (List.mem_cons_of_mem _ (List.mem_cons_of_mem _ h))
        · exact .inr h
  have hlt := h.lt
  rw [List.nodup_cons, List.nodup_cons, List.nodup_append] at hnd ⊢
  obtain ⟨n1, n2, n3, n4, n5⟩ := hnd
  refine ⟨fun q => ?_, fun q => ?_, n3, hs.nd, fun a ha b hb e1 => ?_⟩
  · rcases List.mem_cons.mp q with q | q
    · exact n1 (q ▸ List.mem_cons_self)
    · rcases List.mem_append.mp q with q | q
      · exact n1 (List.mem_cons_of_mem _ (List.mem_append_left _ q))
      · rcases key _ q with q | q
        · exact h1 q
        · have := hlt dr List.mem_cons_self; omega
  · rcases List.mem_append.mp q with q | q
    · exact n2 (List.mem_append_left _ q)
    · rcases key _ q with q | q
      · exact h2 q
      · have := hlt e (List.mem_cons_of_mem _ List.mem_cons_self); omega
  · subst e1
    rcases key _ hb with q | q
    · exact n5 a ha a q rfl
    · have := hlt a (List.mem_cons_of_mem _ (List.mem_cons_of_mem _ (List.mem_append_left _ ha))); omega
/-- a cell is given another object -/
theorem GI.put (h : GI s dr e st d m rs x) {i q : Nat} {o o' : Ob} (hi : st[i]? = some (q, o)) : GI (s.set q o') dr e (st.set i (q, o')) d m rs x := by
  obtain ⟨h1, h2, h3⟩ := h.dis
  have hq := h3 (q, o) (List.mem_of_getElem? hi)
  have hnd := h.nd
  have hql : q < s.length := at_lt (h.ht (q, o) (List.mem_of_getElem? hi))
  have hil := (List.getElem?_eq_some_iff.mp hi).1
  have hm : (st.set i (q, o')).map (·.1) = st.map (·.1) := by
    rw [List.map_set]
    have e1 : (st.map (·.1))[i]? = some q := by rw [List.getElem?_map, hi]; rfl
    apply List.ext_getElem?
    intro j
    by_cases e2 : i = j
    · subst e2
      rw [List.getElem?_set_self (by rw [List.length_map]; exact hil), e1]
    · rw [List.getElem?_set_ne e2]
  have hsn : (st.map (·.1)).Nodup := by
    rw [List.nodup_cons, List.nodup_cons, List.nodup_append] at hnd
    exact hnd.2.2.1
  refine ⟨h.hd.set _ hq.2.1 hq.2.2, fun p hp => ?_, h.sa.frame (Fm.set (F := [q]) (List.mem_singleton.mpr rfl)) fun j hj e1 => hq.1 (by rw [← List.mem_singleton.mp e1]; exact hj), by rw [hm]; exact h.nd⟩
  obtain ⟨j, hj⟩ := List.getElem?_of_mem hp
  by_cases e2 : i = j
  · subst e2
    rw [List.getElem?_set_self hil] at hj
    cases hj
    exact sl_self hql
  · rw [List.getElem?_set_ne e2] at hj
    have e3 : q ≠ p.1 := fun e3 => by
      have g1 : (st.map (·.1))[i]? = some q := by rw [List.getElem?_map, hi]; rfl
      have g2 : (st.map (·.1))[j]? = some p.1 := by rw [List.getElem?_map, hj]; rfl
      rw [← e3] at g2
      obtain ⟨l1, q1⟩ := List.getElem?_eq_some_iff.mp g1
      obtain ⟨l2, q2⟩ := List.getElem?_eq_some_iff.mp g2
      exact e2 ((List.getElem_inj hsn).mp (q1.trans q2.symm))
    rw [sl_set e3]
    exact h.ht p (List.mem_of_getElem? hj)
/-- a new cell is held on to -/
theorem GI.add (h : GI s dr e st d m rs x) {q : Nat} {o : Ob} {g : Store} (hq : s.length ≤ q) (ho : (s ++ g)[q]? = some o) : GI (s ++ g) dr e (st ++ [(q, o)]) d m rs x := by
  have hlt := h.lt
  have h0 := h.app g
  have hnd := h.nd
  refine ⟨h0.hd, fun p hp => ?_, h0.sa, ?_⟩
  · rcases List.mem_append.mp hp with hp | hp
    · exact h0.ht p hp
    · rw [List.mem_singleton.mp hp]; exact ho
  · have hne : ∀ a, a ∈ dr :: e :: (st.map (·.1) ++ (d :: m :: rs)) → a ≠ q := fun a ha e1 => by have := hlt a ha; omega
    rw [List.map_append, List.append_assoc]
    rw [List.nodup_cons, List.nodup_cons, List.nodup_append] at hnd
    obtain ⟨n1, n2, n3, n4, n5⟩ := hnd
    have c1 : ∀ y : Nat, y ∈ st.map (·.1) ++ (d :: m :: rs) → y ≠ q := fun y hy => hne y (List.mem_cons_of_mem _ (List.mem_cons_of_mem _ hy))
    have c2 : ∀ y : Nat, y ∈ st.map (·.1) ++ ([(q, o)].map (·.1) ++ (d :: m :: rs)) → y ∈ st.map (·.1) ++ (d :: m :: rs) ∨ y = q := fun y hy => by
      rcases List.mem_append.mp hy with hy | hy
      · exact .inl (List.mem_append_left _ hy)
      · rcases List.mem_append.mp hy with hy | hy
        · exact .inr (List.mem_singleton.mp hy)
        · exact .inl (List.mem_append_right _ hy)
    rw [List.nodup_cons, List.nodup_cons, List.nodup_append]
    refine ⟨fun hy => ?_, fun hy => ?_, n3, ?_, ?_⟩
    · rcases List.mem_cons.mp hy with hy | hy
      · exact n1 (hy ▸ List.mem_cons_self)
      · rcases c2 _ hy with hy | hy
        · exact n1 (List.mem_cons_of_mem _ hy)
        · exact hne dr List.mem_cons_self hy
    · rcases c2 _ hy with hy | hy
      · exact n2 hy
      · exact hne e (List.mem_cons_of_mem _ List.mem_cons_self) hy
    · show (q :: (d :: m :: rs)).Nodup
      rw [List.nodup_cons]
      exact ⟨fun hy => c1 q (List.mem_append_right _ hy) rfl, n4⟩
    · intro a ha b hb e1
      subst e1
      rcases List.mem_append.mp hb with hb | hb
      · exact c1 a (List.mem_append_left _ ha) (List.mem_singleton.mp hb)
      · exact n5 a ha a hb rfl
end
end D
end

section
set_option maxRecDepth 100000
/-! DLk02: the def of the law, printed by genlib.py. -/
namespace DL
open PySem D
/-- law: 0 _law_script, 1 _law_draws, 2 _law_parts_here, 3 _law_rule_here, 4 _law_life, 5 _law_agreed, 6 _law_state, 7 _law_standing, 8 _law_history, 9 _law_words_here, 10 _law_k, 11 _law_deed, 12 _law_due, 13 _law_word, 14 _law_told -/
def d_law_k02 : Def := ⟨1, 15, (.cons (.asg 1 (.call "_law_begin" (.cons (.var 0) .nil)))
    (.cons (.asg 2 (.call "_law_parts" (.cons (.var 1) .nil)))
    (.cons (.asg 3 (.call "_law_rule" (.cons (.var 2) .nil)))
    (.cons (.asg 4 (.add (.cst (.int 1)) (.call "_law_draw" (.cons (.var 1) (.cons (.cst (.int 4)) .nil)))))
    (.cons (.asg 5 (.add (.cst (.int 1)) (.call "_law_draw" (.cons (.var 1) (.cons (.cst (.int 6)) .nil)))))
    (.cons (.asg 6 (.call "_law_new" (.cons (.var 5) .nil)))
    (.cons (.asg 7 (.call "start" (.cons (.var 5) .nil)))
    (.cons (.asg 8 (.lst .nil))
    (.cons (.asg 9 (.lst .nil))
    (.cons (.fr (.nm 10) (.rng1 (.cst (.int 40))) (.cons (.asg 11 (.call "_law_any" (.cons (.var 1) (.cons (.var 6) .nil))))
    (.cons (.ife (.and (.eq (.idx (.var 11) (.cst (.int 0))) (.cst (.str (wd 23)))) (.eq (.call "_law_draw" (.cons (.var 1) (.cons (.cst (.int 2)) .nil))) (.cst (.int 0)))) (.cons (.asg 11 (.tup (.cons (.cst (.str (wd 25))) .nil)))
    .nil) .nil)
    (.cons (.asg 12 (.lst .nil))
    (.cons (.ife (.or (.ne (.idx (.var 11) (.cst (.int 0))) (.cst (.str (wd 22)))) (.lt (.idx (.var 11) (.cst (.int 1))) (.bi .len (.cons (.idx (.var 6) (.cst (.str (wd 32)))) .nil)))) (.cons (.asg 12 (.call "_law_faults" (.cons (.var 2) (.cons (.var 4) (.cons (.var 6) (.cons (.var 11) .nil))))))
    .nil) .nil)
    (.cons (.ife (.not (.call "_law_like" (.cons (.call "faults_of" (.cons (.var 3) (.cons (.var 4) (.cons (.var 7) (.cons (.var 11) .nil))))) (.cons (.var 12) .nil)))) (.cons (.ret (.cst (.bl false)))
    .nil) .nil)
    (.cons (.asg 13 (.call "_law_do" (.cons (.var 2) (.cons (.var 4) (.cons (.var 6) (.cons (.var 11) .nil))))))
    (.cons (.asg 14 (.call "step" (.cons (.var 3) (.cons (.var 4) (.cons (.var 7) (.cons (.var 11) .nil))))))
    (.cons (.asg 7 (.idx (.var 14) (.cst (.int 1))))
    (.cons (.expr (.bm .append (.var 8) (.cons (.var 11) .nil)))
    (.cons (.expr (.bm .append (.var 9) (.cons (.var 13) .nil)))
    (.cons (.ife (.not (.call "_law_like" (.cons (.var 14) (.cons (.tup (.cons (.var 13) (.cons (.call "_law_key" (.cons (.var 6) .nil)) .nil))) .nil)))) (.cons (.ret (.cst (.bl false)))
    .nil) .nil)
    .nil))))))))))))
    (.cons (.ife (.not (.call "_law_like" (.cons (.call "run" (.cons (.var 3) (.cons (.var 4) (.cons (.var 5) (.cons (.var 8) .nil))))) (.cons (.var 9) .nil)))) (.cons (.ret (.cst (.bl false)))
    .nil) .nil)
    (.cons (.ret (.call "_law_like" (.cons (.call "standing_after" (.cons (.var 3) (.cons (.var 4) (.cons (.var 5) (.cons (.bi .tuple (.cons (.var 8) .nil)) .nil))))) (.cons (.call "_law_key" (.cons (.var 6) .nil)) .nil))))
    .nil))))))))))))⟩
end DL
end

section
set_option maxRecDepth 100000
set_option maxHeartbeats 1000000
/-! E15: the words of a history; k02's turn. -/
namespace D
open PySem DL HP
section
variable {G : Glb} {F : Fns} {n : Nat} {E : Er}
theorem dss_ex {Q : Env → Store → Prop} {a : DS} {r : DSs} {e e1 : Env} {s s1 : Store} (h : denS G F n E a e s = .nx e1 s1) (h2 : ∃ e' s', denSs G F n E r e1 s1 = .nx e' s' ∧ Q e' s') : ∃ e' s', denSs G F n E (.cons a r) e s = .nx e' s' ∧ Q e' s' := by
  rw [es_cons, h, sSeq_nx]; exact h2
theorem dss_end {Q : Env → Store → Prop} {e : Env} {s : Store} (h : Q e s) : ∃ e' s', denSs G F n E .nil e s = .nx e' s' ∧ Q e' s' := ⟨e, s, rfl, h⟩
end
def isTick : Dd → Bool
  | .tick => true
  | _ => false
section
variable {kd : Str → Option (List (Str × L))} {hs : FK → Bool} {F : Fns} {s : Store}
theorem eq_dw23 (d : Dd) : eqqM hs F (dW d) (.str (wd 23)) s = .ok (.bl (isTick d)) s := by cases d <;> simp only [dW, eqq_wd, isTick] <;> simp [wd_eq]
theorem ne_dw22 (d : Dd) : neO (dW d) (.str (wd 22)) s = .ok (.bl (!isCome d)) s := by cases d <;> simp only [dW, neO_wd, isCome] <;> simp [wd_eq]
end
local macro_rules
  | `(tactic| walk_at "ev") => `(tactic| simp (config := {decide := false}) only [ev_var, ev_cst, ev_glb, ev_add, ev_sub, ev_mul, ev_fdv, ev_mod, ev_pow, ev_neg, ev_not, ev_eq, ev_ne, ev_lt, ev_le, ev_gt, ev_ge, ev_isn, ev_isnn, ev_inn, ev_nin, ev_and, ev_or, ev_ite, ev_tup, ev_lst, ev_dS0, ev_dSc, ev_idx, ev_fld, ev_call, ev_isi, ev_bi, ev_bx, ev_lc, ev_idxX, ev_inX, evX_disp, evX_lc0, evs_nil, evs_cons, ev_chn, ev_slc, ev_append, ev_meth,
      k1_ok, k1_ex, k2_ok, kAnd_ok, kA_b, kOr_ok, kO_b, kI_b, kCs_ok, kCons_ok, kX_ok, kN_ok, kC1_ok, kC2_ok, kC3_b, kC4_ok, kS_ok, kSl_ok, kSh_ok, pt_non, pt_som, ptI_ok, kApp_ok, kApp2_l, kApp3_ok, appG_5, dspO_5, o_ixO, o_lcO, kMeth_ok, o_mth,
      es_nil, es_cons, sSeq_nx, sSeq_rt, sSeq_ex, es_asg, sAsg_ok, sAsg_ex, es_ret, sRet_ok, sRet_ex, es_expr, sExp_ok, sExp_ex, es_ife, sIf_b, es_iset, sIs1_ok, sIs2_ok, sIs3_ok, sEnd_ok, es_asgT, sSetT_k, sSt_s, setT_tp, setT_nm, setAll_n, setAll_c, es_par, sPar1_ok, sPar2_ok, es_fset, sFs1_ok, sFs2_ok, es_rse, es_tr, sTr_nx, sTr_ex, es_fr, sFr_fix, sFr_dyn, evI_val, o_srcT, o_src, srcG_l, forFix_nil, forFix_cons, sFx_nx, sFx_rt, sFx_ex, frF_nm,
      ap_ofO, tru_b, tru_int, tru_non, o_add, o_sub, o_lt, o_le, o_gt, o_ge, o_not, o_idx, idxG_l, idxG_d, o_idxT, o_set, setG_l, setJ_s, setG_d, o_len, lenG_l, o_fld, fldG_i, o_lenT, at0, at1, at2, at3, at4, at5, at6, at7, at8, ix4_0, ix4_1, ix4_2, ix4_3, ix3_0, ix3_1, ix3_2, List.set_set, o_intI, o_intB, o_slcT, o_slcL, slcG_l, tupO_5, lstO_5, o_addT5, o_maxx, o_minn, eq_ag8, eq_lt10, eq_lt11, eq_by10, eq_by13, eq_by12, ne_by10, eq_bk14, eq_ov13, eq_rn17, eq_lw19, eq_w27, eq_w28, o_isA, o_isnA, eqq_int, eqq_wd, lcF_ev, lcE_s, cnd_non, cnd_som, lcT_ok, sg1_ok, wipe_n, wipe_c, HF_has, o_isN, o_isnN, o_isI, o_isnI,
      List.map_cons, List.map_nil, List.replicate, List.cons_append, List.nil_append, List.append_assoc, List.length_append, List.length_set, List.getElem?_cons_zero, List.getElem?_cons_succ, List.set_cons_zero, List.set_cons_succ, Option.join, Option.bind_some, id_eq, List.length_cons, List.length_nil, List.length_map, eq_self, decide_true, decide_false, decide_eq_true_eq, Nat.reduceAdd, Nat.reduceSub, Nat.reduceLeDiff, Nat.reduceLT, Nat.reduceEqDiff, Int.reduceAdd, Int.reduceSub, Int.reduceLT, Int.reduceLE, Int.reduceEq, Nat.zero_add, Nat.zero_le, Bool.not_true, Bool.not_false, Bool.not_eq_true', decide_eq_false_iff_not, if_true, if_false, ite_true, ite_false, reduceIte, Bool.false_eq_true, reduceCtorEq, wd_eq, HC_con, and_bl, or_bl, ite_nx, ite_nx0, cut24, eqq_t2, st_i0, st_i1, st_i2, st_i3, st_i4, st_i5, dw_i0, eq_dw22, Int.add_zero, lkD11, lkD30, lkD12, lkD16, lkD31, lkD32, putD11, putD30, putD12, putD16, putD31i, putD31n, stD_len, setG_d5, inMO_f, okF_wd, List.all_cons, List.all_nil, List.any_cons, List.any_nil, eqF_wd, Bool.and_true, Bool.true_and, Bool.and_self, Bool.or_false, Bool.or_true, Bool.false_or, Bool.true_or, Bool.or_self, Bool.and_false, Bool.false_and, neO_wd, neO_int, HP.St.wth, is_non_bl, is_non_int, is_non_str, is_non_tup, is_non_lst, is_bl_bl, is_bl_int, is_bl_str, is_bl_tup, is_bl_lst, is_int_bl, is_int_int, is_int_str, is_int_tup, is_int_lst, is_str_bl, is_str_int, is_str_str, is_str_tup, is_str_lst, is_tup_bl, is_tup_int, is_tup_str, is_tup_tup, is_tup_lst, is_loc_bl, is_loc_int, is_loc_str, is_loc_tup, is_loc_lst, evI_rngK, eq_dw23, ne_dw22, *])
theorem wordsL_nl : ∀ ws : List Bool, noLocs (ws.map wordL) = true
  | [] => rfl
  | _ :: ws => wordsL_nl ws
theorem run_ok {P : Pg} {n k : Nat} [H : HB P] [hs : HF P ("step", none) d_step] [hf : HF P ("run", none) d_run] (hn : 1000 < n) (hk : 5 ≤ k) {r : Nat} {rl : Rl} {s : Store} (hr : RlAt s r rl) (life a : Int) (ds : List Dd) (hl : ds.length < 1000) {c : Nat} (hh : s[c]? = some (.lst (ds.map dL))) :
    callD P n k ("run", none) [.loc r, .int life, .int a, .loc c] s = .ok (.loc s.length) (s ++ [.lst ((runO rl life (start a) ds).map wordL)]) := by
  obtain ⟨k, rfl⟩ : ∃ j, k = j + 1 := ⟨k - 1, by omega⟩
  have i1 := H.h
  have hr1 : ∀ g, RlAt (s ++ g) r rl := fun g => by show _ = _; rw [sl_app (at_lt hr)]; exact hr
  have c1 := fun g x h d => step_ok' (P := P) (n := n) (k := k) (by omega) (hr1 g) life x h d
  have c0 := start_ok' (P := P) (n := n) (k := k) (by omega) a s
  rw [call_at hf.fn rfl]
  have hlast : ∀ (ds : List Dd) (x : St) (ws : List Bool), x.mail.length + ds.length < 1000 → ws.length + ds.length < 1000 → ∀ (o o' : Option L), ∀ pre all, all = pre ++ ds → s[c]? = some (.lst (all.map dL)) → ∃ o2 o3 x2, forDyn (frF P.gl (callD P n k) n P.er (.nm 6) (.cons (.asgT [7, 4] (.call "step" (.cons (.var 0) (.cons (.var 1) (.cons (.var 4) (.cons (.var 6) .nil))))))
    (.cons (.expr (.bm .append (.var 5) (.cons (.var 7) .nil)))
    .nil))) c n pre.length [some (.loc r), some (.int life), some (.int a), some (.loc c), some (stL x), some (.loc s.length), o, o'] (s ++ [.lst (ws.map wordL)]) = .nx [some (.loc r), some (.int life), some (.int a), some (.loc c), some (stL x2), some (.loc s.length), o2, o3] (s ++ [.lst ((ws ++ runO rl life x ds).map wordL)]) := by
    intro ds x ws hm hw o o' pre all ha hh
    have := forDyn_run (f := frF P.gl (callD P n k) n P.er (.nm 6) (.cons (.asgT [7, 4] (.call "step" (.cons (.var 0) (.cons (.var 1) (.cons (.var 4) (.cons (.var 6) .nil))))))
    (.cons (.expr (.bm .append (.var 5) (.cons (.var 7) .nil)))
    .nil))) (c := c) (g := dL) all (fun b : (St × List Bool) × Option L × Option L => [some (.loc r), some (.int life), some (.int a), some (.loc c), some (stL b.1.1), some (.loc s.length), b.2.1, b.2.2]) (fun b => s ++ [.lst (b.1.2.map wordL)]) (fun b d => ((stepO rl life b.1.1 d, b.1.2 ++ [okD rl life b.1.1 d]), some (dL d), some (wordL (okD rl life b.1.1 d)))) (fun ms b => b.1.1.mail.length + ms.length < 1000 ∧ b.1.2.length + ms.length < 1000)
      (fun ms b _ => by rw [sl_app (at_lt hh)]; exact hh)
      (fun m ms b hb => by
        obtain ⟨⟨y, vs⟩, o1, o2⟩ := b
        obtain ⟨hb1, hb2⟩ := hb
        simp only [List.length_cons] at hb1 hb2
        have hm1 := mail_step rl life y m
        refine ⟨?_, by simp only; omega, by simp only [List.length_append, List.length_cons, List.length_nil]; omega⟩
        have c1' := c1 [.lst (vs.map wordL)] y (by omega) m
        have a1 : ∀ o : Ob, (s ++ [o])[s.length]? = some o := fun o => app_at0 s [o]
        have a2 : ∀ o o' : Ob, (s ++ [o]).set s.length o' = s ++ [o'] := set_end s
        have z : vs.length < 16777216 := by omega
        simp only [List.map_append, List.map_cons, List.map_nil]
        clear hb1 hb2 hm1 c1 c0 hh hr hr1 hm hw ha
        walk_at "ev") ds pre ((x, ws), o, o') n ha (by omega) ⟨hm, hw⟩
    have hfold : ∀ (ds : List Dd) (b : (St × List Bool) × Option L × Option L), (ds.foldl (fun (b : (St × List Bool) × Option L × Option L) d => ((stepO rl life b.1.1 d, b.1.2 ++ [okD rl life b.1.1 d]), some (dL d), some (wordL (okD rl life b.1.1 d)))) b).1.2 = b.1.2 ++ runO rl life b.1.1 ds := by
      intro ds
      induction ds with
      | nil => intro b; show b.1.2 = b.1.2 ++ []; rw [List.append_nil]
      | cons d ds ih =>
        intro b
        rw [List.foldl_cons, ih, List.append_assoc]
        rfl
    have h1 := this.1
    simp only [hfold] at h1
    exact ⟨_, _, _, h1⟩
  obtain ⟨o2, o3, x2, hl2⟩ := hlast ds (start a) [] (by show 0 + ds.length < 1000; omega) (by show 0 + ds.length < 1000; omega) none none [] ds rfl hh
  have hc2 : (s ++ [Ob.lst []])[c]? = some (.lst (ds.map dL)) := by rw [sl_app (at_lt hh)]; exact hh
  simp only [d_run]
  simp only [List.map_nil, List.nil_append, List.length_nil] at hl2
  clear hlast hr hr1 c1 hh
  walk_at "ev"
  exact fin_list (app_at0 s _) (Nat.le_refl _) (wordsL_nl _)
end D
end

section
set_option maxRecDepth 100000
set_option maxHeartbeats 1000000
/-! E16: k02's turn. -/
namespace D
open PySem DL HP
section
variable {P : Pg}
instance [H : HB P] : HF P ("taken_open", none) d_taken_open := H.a
instance [H : HB P] : HF P ("taken_late", none) d_taken_late := H.b
instance [H : HB P] : HF P ("given_back", none) d_given_back := H.c
instance [H : HB P] : HF P ("come", none) d_come := H.d
instance [H : HB P] : HF P ("ticked", none) d_ticked := H.e
instance [H : HB P] : HF P ("released", none) d_released := H.f
instance [H : HB P] : HF P ("behind", none) d_behind := H.g
instance [H : HB P] : HF P ("start", none) d_start := H.h
instance [H : HFa P] : HF P ("step", none) d_step := H.s1
instance [H : HFa P] : HF P ("net_of", none) d_net_of := H.s2
instance [H : HFa P] : HF P ("come_faults", none) d_come_faults := H.s3
instance [H : HFa P] : HF P ("faults_of", none) d_faults_of := H.s4
instance [H : HFa P] : HC P "FAULTS" faultsL := H.s5
instance [H : HL P] : HF P ("_law_net", none) d__law_net := H.a
instance [H : HL P] : HF P ("_law_take", none) d__law_take := H.b
instance [H : HL P] : HF P ("_law_give", none) d__law_give := H.c
instance [H : HL P] : HF P ("_law_end", none) d__law_end := H.d
instance [H : HL P] : HF P ("_law_come", none) d__law_come := H.e
instance [H : HL P] : HF P ("_law_free", none) d__law_free := H.f
instance [H : HL P] : HF P ("_law_do", none) d__law_do := H.g
instance [H : HL P] : HF P ("_law_new", none) d__law_new := H.h
instance [H : HL P] : HF P ("_law_copy", none) d__law_copy := H.i
instance [H : HL P] : HF P ("_law_key", none) d__law_key := H.j
instance [H : HLf P] : HF P ("_law_words", none) d__law_words := H.w
instance [H : HLf P] : HF P ("_law_faults", none) d__law_faults := H.z
instance [H : HRu P] : HF P ("_law_begin", none) d__law_begin := H.beg
instance [H : HRu P] : HF P ("_law_draw", none) d__law_draw := H.drw
instance [H : HRu P] : HF P ("_law_values", none) d__law_values := H.val
instance [H : HRu P] : HF P ("_law_parts", none) d__law_parts := H.prt
instance [H : HRu P] : HF P ("_law_rule", none) mkDef := H.rul
end
/-! like, of the same -/
def okT : Nat → L → Prop
  | 0, _ => False
  | j + 1, v => match v with
    | .tup xs => xs.length < 1000000 ∧ ∀ x ∈ xs, okT j x
    | v => okF v = true
theorem okT.flat {j : Nat} {v : L} (h : okF v = true) : okT (j + 1) v := by
  cases v with
  | tup xs => exact (Bool.false_ne_true h).elim
  | _ => exact h
theorem Sm.self {s : Store} : ∀ (j : Nat) (v : L), okT j v → Sm s j v v := by
  intro j
  induction j with
  | zero => exact fun _ h => h.elim
  | succ j ih =>
    intro v h
    cases v with
    | tup xs =>
      obtain ⟨h1, h2⟩ := h
      refine ⟨xs, rfl, rfl, h1, fun i x y hx hy => ?_⟩
      rw [hx] at hy
      cases hy
      exact ih x (h2 x (List.mem_of_getElem? hx))
    | loc c => exact (Bool.false_ne_true h).elim
    | fn c => exact (Bool.false_ne_true h).elim
    | _ => exact ⟨rfl, h⟩
theorem Sm.list {s : Store} {j a b : Nat} {xs : List L} (ha : s[a]? = some (.lst xs)) (hb : s[b]? = some (.lst xs)) (hl : xs.length < 1000000) (h : ∀ x ∈ xs, okT j x) : Sm s (j + 1) (.loc a) (.loc b) := by
  refine ⟨a, xs, xs, rfl, ha, hb, rfl, hl, fun i x y hx hy => ?_⟩
  rw [hx] at hy
  cases hy
  exact Sm.self j x (h x (List.mem_of_getElem? hx))
theorem okF_age (a : Option Int) : okF (ageL a) = true := by cases a <;> rfl
theorem okT_st {x : St} (h : x.mail.length < 1000000) (j : Nat) : okT (j + 4) (stL x) := by
  refine ⟨by show 6 < 1000000; decide, fun v hv => ?_⟩
  simp only [List.mem_cons, List.not_mem_nil, or_false] at hv
  rcases hv with rfl | rfl | rfl | rfl | rfl | rfl
  · exact .flat rfl
  · exact .flat rfl
  · exact .flat rfl
  · exact .flat rfl
  · exact .flat (okF_age _)
  · refine ⟨by rw [List.length_map]; exact h, fun v hv => ?_⟩
    obtain ⟨g, _, rfl⟩ := List.mem_map.mp hv
    refine ⟨by show 3 < 1000000; decide, fun v hv => ?_⟩
    simp only [List.mem_cons, List.not_mem_nil, or_false] at hv
    rcases hv with rfl | rfl | rfl
    · exact .flat (okF_wd _)
    · exact .flat rfl
    · exact .flat rfl
def b02 : DSs := (.cons (.asg 11 (.call "_law_any" (.cons (.var 1) (.cons (.var 6) .nil))))
    (.cons (.ife (.and (.eq (.idx (.var 11) (.cst (.int 0))) (.cst (.str (wd 23)))) (.eq (.call "_law_draw" (.cons (.var 1) (.cons (.cst (.int 2)) .nil))) (.cst (.int 0)))) (.cons (.asg 11 (.tup (.cons (.cst (.str (wd 25))) .nil)))
    .nil) .nil)
    (.cons (.asg 12 (.lst .nil))
    (.cons (.ife (.or (.ne (.idx (.var 11) (.cst (.int 0))) (.cst (.str (wd 22)))) (.lt (.idx (.var 11) (.cst (.int 1))) (.bi .len (.cons (.idx (.var 6) (.cst (.str (wd 32)))) .nil)))) (.cons (.asg 12 (.call "_law_faults" (.cons (.var 2) (.cons (.var 4) (.cons (.var 6) (.cons (.var 11) .nil))))))
    .nil) .nil)
    (.cons (.ife (.not (.call "_law_like" (.cons (.call "faults_of" (.cons (.var 3) (.cons (.var 4) (.cons (.var 7) (.cons (.var 11) .nil))))) (.cons (.var 12) .nil)))) (.cons (.ret (.cst (.bl false)))
    .nil) .nil)
    (.cons (.asg 13 (.call "_law_do" (.cons (.var 2) (.cons (.var 4) (.cons (.var 6) (.cons (.var 11) .nil))))))
    (.cons (.asg 14 (.call "step" (.cons (.var 3) (.cons (.var 4) (.cons (.var 7) (.cons (.var 11) .nil))))))
    (.cons (.asg 7 (.idx (.var 14) (.cst (.int 1))))
    (.cons (.expr (.bm .append (.var 8) (.cons (.var 11) .nil)))
    (.cons (.expr (.bm .append (.var 9) (.cons (.var 13) .nil)))
    (.cons (.ife (.not (.call "_law_like" (.cons (.var 14) (.cons (.tup (.cons (.var 13) (.cons (.call "_law_key" (.cons (.var 6) .nil)) .nil))) .nil)))) (.cons (.ret (.cst (.bl false)))
    .nil) .nil)
    .nil)))))))))))

def st4 (c r hl wl : Nat) (rl : Rl) (ds : List Dd) (ws : List Bool) : List (Nat × Ob) := [(c, .lst (rlL rl)), (r, .ins "Rule" (flds (rlL rl))), (hl, .lst (ds.map dL)), (wl, .lst (ws.map wordL))]
local macro_rules
  | `(tactic| walk_at "ev") => `(tactic| simp (config := {decide := false}) only [ev_var, ev_cst, ev_glb, ev_add, ev_sub, ev_mul, ev_fdv, ev_mod, ev_pow, ev_neg, ev_not, ev_eq, ev_ne, ev_lt, ev_le, ev_gt, ev_ge, ev_isn, ev_isnn, ev_inn, ev_nin, ev_and, ev_or, ev_ite, ev_tup, ev_lst, ev_dS0, ev_dSc, ev_idx, ev_fld, ev_call, ev_isi, ev_bi, ev_bx, ev_lc, ev_idxX, ev_inX, evX_disp, evX_lc0, evs_nil, evs_cons, ev_chn, ev_slc, ev_append, ev_meth,
      k1_ok, k1_ex, k2_ok, kAnd_ok, kA_b, kOr_ok, kO_b, kI_b, kCs_ok, kCons_ok, kX_ok, kN_ok, kC1_ok, kC2_ok, kC3_b, kC4_ok, kS_ok, kSl_ok, kSh_ok, pt_non, pt_som, ptI_ok, kApp_ok, kApp2_l, kApp3_ok, appG_5, dspO_5, o_ixO, o_lcO, kMeth_ok, o_mth,
      es_nil, es_cons, sSeq_nx, sSeq_rt, sSeq_ex, es_asg, sAsg_ok, sAsg_ex, es_ret, sRet_ok, sRet_ex, es_expr, sExp_ok, sExp_ex, es_ife, sIf_b, es_iset, sIs1_ok, sIs2_ok, sIs3_ok, sEnd_ok, es_asgT, sSetT_k, sSt_s, setT_tp, setT_nm, setAll_n, setAll_c, es_par, sPar1_ok, sPar2_ok, es_fset, sFs1_ok, sFs2_ok, es_rse, es_tr, sTr_nx, sTr_ex, es_fr, sFr_fix, sFr_dyn, evI_val, o_srcT, o_src, srcG_l, forFix_nil, forFix_cons, sFx_nx, sFx_rt, sFx_ex, frF_nm,
      ap_ofO, tru_b, tru_int, tru_non, o_add, o_sub, o_lt, o_le, o_gt, o_ge, o_not, o_idx, idxG_l, idxG_d, o_idxT, o_set, setG_l, setJ_s, setG_d, o_len, lenG_l, o_fld, fldG_i, o_lenT, at0, at1, at2, at3, at4, at5, at6, at7, at8, ix4_0, ix4_1, ix4_2, ix4_3, ix3_0, ix3_1, ix3_2, List.set_set, o_intI, o_intB, o_slcT, o_slcL, slcG_l, tupO_5, lstO_5, o_addT5, o_maxx, o_minn, eq_ag8, eq_lt10, eq_lt11, eq_by10, eq_by13, eq_by12, ne_by10, eq_bk14, eq_ov13, eq_rn17, eq_lw19, eq_w27, eq_w28, o_isA, o_isnA, eqq_int, eqq_wd, lcF_ev, lcE_s, cnd_non, cnd_som, lcT_ok, sg1_ok, wipe_n, wipe_c, HF_has, o_isN, o_isnN, o_isI, o_isnI,
      List.map_cons, List.map_nil, List.replicate, List.cons_append, List.nil_append, List.append_assoc, List.length_append, List.length_set, List.getElem?_cons_zero, List.getElem?_cons_succ, List.set_cons_zero, List.set_cons_succ, Option.join, Option.bind_some, id_eq, List.length_cons, List.length_nil, List.length_map, eq_self, decide_true, decide_false, decide_eq_true_eq, Nat.reduceAdd, Nat.reduceSub, Nat.reduceLeDiff, Nat.reduceLT, Nat.reduceEqDiff, Int.reduceAdd, Int.reduceSub, Int.reduceLT, Int.reduceLE, Int.reduceEq, Nat.zero_add, Nat.zero_le, Bool.not_true, Bool.not_false, Bool.not_eq_true', decide_eq_false_iff_not, if_true, if_false, ite_true, ite_false, reduceIte, Bool.false_eq_true, reduceCtorEq, wd_eq, HC_con, and_bl, or_bl, ite_nx, ite_nx0, cut24, eqq_t2, st_i0, st_i1, st_i2, st_i3, st_i4, st_i5, dw_i0, eq_dw22, Int.add_zero, lkD11, lkD30, lkD12, lkD16, lkD31, lkD32, putD11, putD30, putD12, putD16, putD31i, putD31n, stD_len, setG_d5, inMO_f, okF_wd, List.all_cons, List.all_nil, List.any_cons, List.any_nil, eqF_wd, Bool.and_true, Bool.true_and, Bool.and_self, Bool.or_false, Bool.or_true, Bool.false_or, Bool.true_or, Bool.or_self, Bool.and_false, Bool.false_and, neO_wd, neO_int, HP.St.wth, is_non_bl, is_non_int, is_non_str, is_non_tup, is_non_lst, is_bl_bl, is_bl_int, is_bl_str, is_bl_tup, is_bl_lst, is_int_bl, is_int_int, is_int_str, is_int_tup, is_int_lst, is_str_bl, is_str_int, is_str_str, is_str_tup, is_str_lst, is_tup_bl, is_tup_int, is_tup_str, is_tup_tup, is_tup_lst, is_loc_bl, is_loc_int, is_loc_str, is_loc_tup, is_loc_lst, evI_rngK, eq_dw23, ne_dw22, *])
class H02 (P : Pg) : Prop where
  fa : HFa P
  lf : HLf P
  ru : HRu P
  an : HF P ("_law_any", none) d__law_any
  lk : HF P ("_law_like", none) d__law_like
  rn : HF P ("run", none) d_run
  sa : HF P ("standing_after", none) d_standing_after
instance {P : Pg} [H : H02 P] : HFa P := H.fa
instance {P : Pg} [H : H02 P] : HLf P := H.lf
instance {P : Pg} [H : H02 P] : HRu P := H.ru
instance {P : Pg} [H : H02 P] : HF P ("_law_any", none) d__law_any := H.an
instance {P : Pg} [H : H02 P] : HF P ("_law_like", none) d__law_like := H.lk
instance {P : Pg} [H : H02 P] : HF P ("run", none) d_run := H.rn
instance {P : Pg} [H : H02 P] : HF P ("standing_after", none) d_standing_after := H.sa
theorem turn02 {P : Pg} {n k : Nat} [H : H02 P] (hn : 1000 < n) (hk : 9 ≤ k) {s : Store} {dr e c r hl wl d m : Nat} {rs : List Nat} {rl : Rl} {x : St} {ds : List Dd} {ws : List Bool} {life ag : Int}
    (G : GI s dr e (st4 c r hl wl rl ds ws) d m rs x) (hx : Ok life x) (hlf : 0 < life) (hd : ds.length < 40) (hw : ws.length = ds.length) (hm : x.mail.length ≤ ds.length) (v : L) (o0 o10 o11 o12 o13 o14 : Option L) :
    ∃ e' s', frF P.gl (callD P n k) n P.er (.nm 10) b02 v [o0, some (.loc dr), some (.loc c), some (.loc r), some (.int life), some (.int ag), some (.loc d), some (stL x), some (.loc hl), some (.loc wl), o10, o11, o12, o13, o14] s = .nx e' s' ∧
      ∃ dd rs' p10 p11 p12 p13 p14, e' = [o0, some (.loc dr), some (.loc c), some (.loc r), some (.int life), some (.int ag), some (.loc d), some (stL (stepO rl life x dd)), some (.loc hl), some (.loc wl), p10, p11, p12, p13, p14] ∧ GI s' dr e (st4 c r hl wl rl (ds ++ [dd]) (ws ++ [okD rl life x dd])) d m rs' (stepO rl life x dd) ∧ DOk dd := by
  show ∃ e' s', denSs P.gl (callD P n k) n P.er b02 [o0, some (.loc dr), some (.loc c), some (.loc r), some (.int life), some (.int ag), some (.loc d), some (stL x), some (.loc hl), some (.loc wl), some v, o11, o12, o13, o14] s = .nx e' s' ∧ _
  simp only [b02]
  obtain ⟨dd0, s1, c1, ⟨hd1, hf1⟩, ok0⟩ := lany_ok (P := P) (n := n) (k := k) (by omega) G.hd G.sa G.dis.1 (by omega)
  have G1 := G.draw hf1 hd1
  refine dss_ex (e1 := [o0, some (.loc dr), some (.loc c), some (.loc r), some (.int life), some (.int ag), some (.loc d), some (stL x), some (.loc hl), some (.loc wl), some v, some (dL dd0), o12, o13, o14]) (s1 := s1) (by clear G hx hd hw hm hk; walk_at "ev") ?_
  obtain ⟨dd, s2, c2, G2, ok2⟩ : ∃ dd s2, denS P.gl (callD P n k) n P.er (.ife (.and (.eq (.idx (.var 11) (.cst (.int 0))) (.cst (.str (wd 23)))) (.eq (.call "_law_draw" (.cons (.var 1) (.cons (.cst (.int 2)) .nil))) (.cst (.int 0)))) (.cons (.asg 11 (.tup (.cons (.cst (.str (wd 25))) .nil)))
    .nil) .nil) [o0, some (.loc dr), some (.loc c), some (.loc r), some (.int life), some (.int ag), some (.loc d), some (stL x), some (.loc hl), some (.loc wl), some v, some (dL dd0), o12, o13, o14] s1 = .nx [o0, some (.loc dr), some (.loc c), some (.loc r), some (.int life), some (.int ag), some (.loc d), some (stL x), some (.loc hl), some (.loc wl), some v, some (dL dd), o12, o13, o14] s2 ∧ GI s2 dr e (st4 c r hl wl rl ds ws) d m rs x ∧ DOk dd := by
    by_cases ht : isTick dd0 = true
    · obtain ⟨u, s2, hu, c2, d2, f2⟩ := draw_i (P := P) (n := n) (k := k) (by omega) G1.hd (z := 2) (by omega) (by omega)
      by_cases hu0 : (u : Int) = 0
      · refine ⟨.renew, s2, ?_, G1.draw f2 d2, True.intro⟩
        rw [show dL .renew = .tup [.str (wd 25)] from rfl]
        clear G G1 hx hd hw hm hk hf1 hd1 d2 f2 ok0 hu
        walk_at "ev"
      · refine ⟨dd0, s2, ?_, G1.draw f2 d2, ok0⟩
        clear G G1 hx hd hw hm hk hf1 hd1 d2 f2 ok0 hu
        walk_at "ev"
    · have ht' : isTick dd0 = false := by cases h : isTick dd0 with
        | true => exact (ht h).elim
        | false => rfl
      refine ⟨dd0, s1, ?_, G1, ok0⟩
      clear G G1 hx hd hw hm hk hf1 hd1 ok0 ht
      walk_at "ev"
  refine dss_ex c2 ?_
  clear c1 c2 G G1 hf1 hd1 ok0
  -- what is due
  have G3 := G2.app [.lst []]
  refine dss_ex (e1 := [o0, some (.loc dr), some (.loc c), some (.loc r), some (.int life), some (.int ag), some (.loc d), some (stL x), some (.loc hl), some (.loc wl), some v, some (dL dd), some (.loc s2.length), o13, o14]) (s1 := s2 ++ [.lst []]) (by clear G2 G3 hx hd hw hm hk ok2; walk_at "ev") ?_
  have hfl : ((faults rl life x dd).map flW).all okF = true := by
    rw [List.all_eq_true]
    intro y hy
    obtain ⟨i, _, rfl⟩ := List.mem_map.mp hy
    exact okF_wd _
  have hfn : ((faults rl life x dd).map flW).length < 1000000 := by
    rw [List.length_map]
    unfold faults
    split
    · decide
    · exact Nat.lt_of_le_of_lt (List.length_filter_le _ _) (by decide)
  obtain ⟨q, s4, c4, G4, hq4⟩ : ∃ q s4, denS P.gl (callD P n k) n P.er (.ife (.or (.ne (.idx (.var 11) (.cst (.int 0))) (.cst (.str (wd 22)))) (.lt (.idx (.var 11) (.cst (.int 1))) (.bi .len (.cons (.idx (.var 6) (.cst (.str (wd 32)))) .nil)))) (.cons (.asg 12 (.call "_law_faults" (.cons (.var 2) (.cons (.var 4) (.cons (.var 6) (.cons (.var 11) .nil))))))
    .nil) .nil) [o0, some (.loc dr), some (.loc c), some (.loc r), some (.int life), some (.int ag), some (.loc d), some (stL x), some (.loc hl), some (.loc wl), some v, some (dL dd), some (.loc s2.length), o13, o14] (s2 ++ [.lst []]) = .nx [o0, some (.loc dr), some (.loc c), some (.loc r), some (.int life), some (.int ag), some (.loc d), some (stL x), some (.loc hl), some (.loc wl), some v, some (dL dd), some (.loc q), o13, o14] s4 ∧ GI s4 dr e (st4 c r hl wl rl ds ws) d m rs x ∧ s4[q]? = some (.lst ((faults rl life x dd).map flW)) := by
    have hpa : PaAt (s2 ++ [.lst []]) c rl := G3.ht (c, _) List.mem_cons_self
    have cf := lfaults_ok (P := P) (n := n) (k := k) hn (by omega) hpa G3.sa hx (by omega) dd
    have hd3 := G3.sa.c
    have hl3 := G3.sa.l
    have hlen := G3.sa.len
    by_cases hcm : ∃ i, dd = .come i ∧ ¬ i < x.mail.length
    · obtain ⟨i, rfl, hi⟩ := hcm
      refine ⟨s2.length, s2 ++ [.lst []], ?_, G3, ?_⟩
      · have hlt : ¬ (i : Int) < (x.mail.length : Int) := by omega
        simp only [dL]
        clear cf G2 G3 hx hd hw hm hk ok2 hpa hfl hfn
        walk_at "ev"
      · have : faults rl life x (.come i) = [] := by
          have e0 : x.mail[i]? = none := List.getElem?_eq_none (by omega)
          simp only [faults, behind, e0]
        rw [this]
        exact app_at0 s2 _
    · have hc : isCome dd = false ∨ ∃ i, dd = .come i ∧ i < x.mail.length := by
        cases dd with
        | come i => exact .inr ⟨i, rfl, Classical.byContradiction fun q => hcm ⟨i, rfl, q⟩⟩
        | _ => exact .inl rfl
      refine ⟨(s2 ++ [Ob.lst []]).length, _, ?_, G3.app [Ob.lst ((faults rl life x dd).map flW)], app_at0 _ _⟩
      rcases hc with hc | ⟨i, rfl, hi⟩
      · clear G2 G3 hx hd hw hm hk ok2 hpa hfl hfn hcm
        generalize s2 ++ [Ob.lst []] = s3 at *
        walk_at "ev"
      · have hlt : (i : Int) < (x.mail.length : Int) := by omega
        simp only [dL] at cf ⊢
        clear G2 G3 hx hd hw hm hk ok2 hpa hfl hfn hcm hi
        generalize s2 ++ [Ob.lst []] = s3 at *
        walk_at "ev"
  refine dss_ex c4 ?_
  clear c4 G2 G3
  -- the faults told
  have hru : RlAt s4 r rl := G4.ht (r, _) (List.mem_cons_of_mem _ List.mem_cons_self)
  have cF := faults_ok (P := P) (n := n) (k := k) (by omega) hru life x (by omega) dd
  have G5 := G4.app [.lst ((faults rl life x dd).map flW)]
  have cL := like_ok (P := P) (n := n) (s4 ++ [.lst ((faults rl life x dd).map flW)]) 2 k (.loc s4.length) (.loc q) (by omega) (Sm.list (app_at0 _ _) (by rw [sl_app (at_lt hq4)]; exact hq4) hfn fun y hy => .flat (List.all_eq_true.mp hfl y hy))
  refine dss_ex (e1 := [o0, some (.loc dr), some (.loc c), some (.loc r), some (.int life), some (.int ag), some (.loc d), some (stL x), some (.loc hl), some (.loc wl), some v, some (dL dd), some (.loc q), o13, o14]) (s1 := s4 ++ [.lst ((faults rl life x dd).map flW)]) (by clear G4 G5 hx hd hw hm hk ok2 hfl hfn hru hq4; walk_at "ev") ?_
  clear cF cL hru hq4 G4
  generalize s4 ++ [.lst ((faults rl life x dd).map flW)] = s5 at *
  -- the deed done
  have hpa : PaAt s5 c rl := G5.ht (c, _) List.mem_cons_self
  obtain ⟨s6, rs', cD, sa6, fm6, nr6⟩ := ldo_ok (P := P) (n := n) (k := k) hn (by omega) hpa G5.sa hx (by omega) dd
  have G6 := G5.led fm6 sa6 nr6
  refine dss_ex (e1 := [o0, some (.loc dr), some (.loc c), some (.loc r), some (.int life), some (.int ag), some (.loc d), some (stL x), some (.loc hl), some (.loc wl), some v, some (dL dd), some (.loc q), some (wordL (okD rl life x dd)), o14]) (s1 := s6) (by clear G5 G6 hx hd hw hm hk ok2 hfl hfn hpa sa6 fm6 nr6; walk_at "ev") ?_
  clear cD hpa sa6 fm6 nr6 G5
  have hru : RlAt s6 r rl := G6.ht (r, _) (List.mem_cons_of_mem _ List.mem_cons_self)
  have cS := step_ok' (P := P) (n := n) (k := k) (by omega) hru life x (by omega) dd
  refine dss_ex (e1 := [o0, some (.loc dr), some (.loc c), some (.loc r), some (.int life), some (.int ag), some (.loc d), some (stL x), some (.loc hl), some (.loc wl), some v, some (dL dd), some (.loc q), some (wordL (okD rl life x dd)), some (.tup [wordL (okD rl life x dd), stL (stepO rl life x dd)])]) (s1 := s6) (by clear G6 hx hd hw hm hk ok2 hfl hfn hru; walk_at "ev") ?_
  clear cS hru
  refine dss_ex (e1 := [o0, some (.loc dr), some (.loc c), some (.loc r), some (.int life), some (.int ag), some (.loc d), some (stL (stepO rl life x dd)), some (.loc hl), some (.loc wl), some v, some (dL dd), some (.loc q), some (wordL (okD rl life x dd)), some (.tup [wordL (okD rl life x dd), stL (stepO rl life x dd)])]) (s1 := s6) (by clear G6 hx hd hw hm hk ok2 hfl hfn; walk_at "ev") ?_
  have h1 := G6.ht (hl, .lst (ds.map dL)) (List.mem_cons_of_mem _ (List.mem_cons_of_mem _ List.mem_cons_self))
  have G7 := G6.put (i := 2) (q := hl) (o := .lst (ds.map dL)) (o' := .lst (ds.map dL ++ [dL dd])) rfl
  have z1 : ds.length < 16777216 := by omega
  refine dss_ex (e1 := [o0, some (.loc dr), some (.loc c), some (.loc r), some (.int life), some (.int ag), some (.loc d), some (stL (stepO rl life x dd)), some (.loc hl), some (.loc wl), some v, some (dL dd), some (.loc q), some (wordL (okD rl life x dd)), some (.tup [wordL (okD rl life x dd), stL (stepO rl life x dd)])]) (s1 := s6.set hl (.lst (ds.map dL ++ [dL dd]))) (by clear G6 G7 hx hd hw hm hk ok2 hfl hfn; walk_at "ev") ?_
  have h2 := G7.ht (wl, .lst (ws.map wordL)) (List.mem_cons_of_mem _ (List.mem_cons_of_mem _ (List.mem_cons_of_mem _ List.mem_cons_self)))
  have G8 := G7.put (i := 3) (q := wl) (o := .lst (ws.map wordL)) (o' := .lst (ws.map wordL ++ [wordL (okD rl life x dd)])) rfl
  clear h1 G6
  generalize s6.set hl (.lst (ds.map dL ++ [dL dd])) = s7 at *
  have z2 : ws.length < 16777216 := by omega
  refine dss_ex (e1 := [o0, some (.loc dr), some (.loc c), some (.loc r), some (.int life), some (.int ag), some (.loc d), some (stL (stepO rl life x dd)), some (.loc hl), some (.loc wl), some v, some (dL dd), some (.loc q), some (wordL (okD rl life x dd)), some (.tup [wordL (okD rl life x dd), stL (stepO rl life x dd)])]) (s1 := s7.set wl (.lst (ws.map wordL ++ [wordL (okD rl life x dd)]))) (by clear G7 G8 hx hd hw hm hk ok2 hfl hfn; walk_at "ev") ?_
  clear h2 G7
  generalize s7.set wl (.lst (ws.map wordL ++ [wordL (okD rl life x dd)])) = s8 at *
  have hms := mail_step rl life x dd
  have cK := lkey_ok (P := P) (n := n) (k := k) hn (by omega) G8.sa (by omega)
  have cL := like_ok (P := P) (n := n) s8 5 k (.tup [wordL (okD rl life x dd), stL (stepO rl life x dd)]) (.tup [wordL (okD rl life x dd), stL (stepO rl life x dd)]) (by omega) (Sm.self _ _ ⟨by show 2 < 1000000; decide, fun y hy => by
    simp only [List.mem_cons, List.not_mem_nil, or_false] at hy
    rcases hy with rfl | rfl
    · exact .flat (okF_wd _)
    · exact okT_st (by omega) 0⟩)
  refine dss_ex (e1 := [o0, some (.loc dr), some (.loc c), some (.loc r), some (.int life), some (.int ag), some (.loc d), some (stL (stepO rl life x dd)), some (.loc hl), some (.loc wl), some v, some (dL dd), some (.loc q), some (wordL (okD rl life x dd)), some (.tup [wordL (okD rl life x dd), stL (stepO rl life x dd)])]) (s1 := s8) (by clear G8 hx hd hw hm hk ok2 hfl hfn hms; walk_at "ev") ?_
  refine dss_end ⟨dd, rs', _, _, _, _, _, rfl, ?_, ok2⟩
  have e1 : st4 c r hl wl rl (ds ++ [dd]) (ws ++ [okD rl life x dd]) = [(c, .lst (rlL rl)), (r, .ins "Rule" (flds (rlL rl))), (hl, .lst (ds.map dL ++ [dL dd])), (wl, .lst (ws.map wordL ++ [wordL (okD rl life x dd)]))] := by
    unfold st4
    rw [List.map_append, List.map_append]
    rfl
  rw [e1]
  exact G8
end D
end

section
set_option maxRecDepth 100000
set_option maxHeartbeats 1000000
/-! E17: k02's law answers True. -/
namespace D
open PySem DL HP
local macro_rules
  | `(tactic| walk_at "ev") => `(tactic| simp (config := {decide := false}) only [ev_var, ev_cst, ev_glb, ev_add, ev_sub, ev_mul, ev_fdv, ev_mod, ev_pow, ev_neg, ev_not, ev_eq, ev_ne, ev_lt, ev_le, ev_gt, ev_ge, ev_isn, ev_isnn, ev_inn, ev_nin, ev_and, ev_or, ev_ite, ev_tup, ev_lst, ev_dS0, ev_dSc, ev_idx, ev_fld, ev_call, ev_isi, ev_bi, ev_bx, ev_lc, ev_idxX, ev_inX, evX_disp, evX_lc0, evs_nil, evs_cons, ev_chn, ev_slc, ev_append, ev_meth,
      k1_ok, k1_ex, k2_ok, kAnd_ok, kA_b, kOr_ok, kO_b, kI_b, kCs_ok, kCons_ok, kX_ok, kN_ok, kC1_ok, kC2_ok, kC3_b, kC4_ok, kS_ok, kSl_ok, kSh_ok, pt_non, pt_som, ptI_ok, kApp_ok, kApp2_l, kApp3_ok, appG_5, dspO_5, o_ixO, o_lcO, kMeth_ok, o_mth,
      es_nil, es_cons, sSeq_nx, sSeq_rt, sSeq_ex, es_asg, sAsg_ok, sAsg_ex, es_ret, sRet_ok, sRet_ex, es_expr, sExp_ok, sExp_ex, es_ife, sIf_b, es_iset, sIs1_ok, sIs2_ok, sIs3_ok, sEnd_ok, es_asgT, sSetT_k, sSt_s, setT_tp, setT_nm, setAll_n, setAll_c, es_par, sPar1_ok, sPar2_ok, es_fset, sFs1_ok, sFs2_ok, es_rse, es_tr, sTr_nx, sTr_ex, es_fr, sFr_fix, sFr_dyn, evI_val, o_srcT, o_src, srcG_l, forFix_nil, forFix_cons, sFx_nx, sFx_rt, sFx_ex, frF_nm,
      ap_ofO, tru_b, tru_int, tru_non, o_add, o_sub, o_lt, o_le, o_gt, o_ge, o_not, o_idx, idxG_l, idxG_d, o_idxT, o_set, setG_l, setJ_s, setG_d, o_len, lenG_l, o_fld, fldG_i, o_lenT, at0, at1, at2, at3, at4, at5, at6, at7, at8, ix4_0, ix4_1, ix4_2, ix4_3, ix3_0, ix3_1, ix3_2, List.set_set, o_intI, o_intB, o_slcT, o_slcL, slcG_l, tupO_5, lstO_5, o_addT5, o_maxx, o_minn, eq_ag8, eq_lt10, eq_lt11, eq_by10, eq_by13, eq_by12, ne_by10, eq_bk14, eq_ov13, eq_rn17, eq_lw19, eq_w27, eq_w28, o_isA, o_isnA, eqq_int, eqq_wd, lcF_ev, lcE_s, cnd_non, cnd_som, lcT_ok, sg1_ok, wipe_n, wipe_c, HF_has, o_isN, o_isnN, o_isI, o_isnI,
      List.map_cons, List.map_nil, List.replicate, List.cons_append, List.nil_append, List.append_assoc, List.length_append, List.length_set, List.getElem?_cons_zero, List.getElem?_cons_succ, List.set_cons_zero, List.set_cons_succ, Option.join, Option.bind_some, id_eq, List.length_cons, List.length_nil, List.length_map, eq_self, decide_true, decide_false, decide_eq_true_eq, Nat.reduceAdd, Nat.reduceSub, Nat.reduceLeDiff, Nat.reduceLT, Nat.reduceEqDiff, Int.reduceAdd, Int.reduceSub, Int.reduceLT, Int.reduceLE, Int.reduceEq, Nat.zero_add, Nat.zero_le, Bool.not_true, Bool.not_false, Bool.not_eq_true', decide_eq_false_iff_not, if_true, if_false, ite_true, ite_false, reduceIte, Bool.false_eq_true, reduceCtorEq, wd_eq, HC_con, and_bl, or_bl, ite_nx, ite_nx0, cut24, eqq_t2, st_i0, st_i1, st_i2, st_i3, st_i4, st_i5, dw_i0, eq_dw22, Int.add_zero, lkD11, lkD30, lkD12, lkD16, lkD31, lkD32, putD11, putD30, putD12, putD16, putD31i, putD31n, stD_len, setG_d5, inMO_f, okF_wd, List.all_cons, List.all_nil, List.any_cons, List.any_nil, eqF_wd, Bool.and_true, Bool.true_and, Bool.and_self, Bool.or_false, Bool.or_true, Bool.false_or, Bool.true_or, Bool.or_self, Bool.and_false, Bool.false_and, neO_wd, neO_int, HP.St.wth, is_non_bl, is_non_int, is_non_str, is_non_tup, is_non_lst, is_bl_bl, is_bl_int, is_bl_str, is_bl_tup, is_bl_lst, is_int_bl, is_int_int, is_int_str, is_int_tup, is_int_lst, is_str_bl, is_str_int, is_str_str, is_str_tup, is_str_lst, is_tup_bl, is_tup_int, is_tup_str, is_tup_tup, is_tup_lst, is_loc_bl, is_loc_int, is_loc_str, is_loc_tup, is_loc_lst, evI_rngK, *])
theorem run_snoc (rl : Rl) (life : Int) (d : Dd) : ∀ (ds : List Dd) (x : St), runO rl life x (ds ++ [d]) = runO rl life x ds ++ [okD rl life (standO rl life x ds) d]
  | [], _ => rfl
  | y :: ds, x => by
    show okD rl life x y :: runO rl life (stepO rl life x y) (ds ++ [d]) = _
    rw [run_snoc rl life d ds]
    rfl
theorem stand_snoc (rl : Rl) (life : Int) (d : Dd) (ds : List Dd) (x : St) : standO rl life x (ds ++ [d]) = stepO rl life (standO rl life x ds) d := by
  unfold standO
  rw [List.foldl_append]
  rfl
theorem run_len (rl : Rl) (life : Int) : ∀ (ds : List Dd) (x : St), (runO rl life x ds).length = ds.length
  | [], _ => rfl
  | y :: ds, x => by
    show (runO rl life (stepO rl life x y) ds).length + 1 = _
    rw [run_len rl life ds]
    rfl
theorem stepO_ok {rl : Rl} {life : Int} {x : St} {d : Dd} (hl : 0 < life) (hx : Ok life x) (hd : DOk d) : Ok life (stepO rl life x d) := by
  unfold stepO
  cases h : behind rl life x d with
  | none => exact hx
  | some y => exact HP.behind_ok hl hx hd h
theorem frF_nmE {G : Glb} {F : Fns} {n : Nat} {E : Er} (i : Nat) (b : DSs) : frF G F n E (.nm i) b = fun v e s => denSs G F n E b (e.set i (some v)) s := by
  funext v e s; rfl
theorem law02_ok {P : Pg} {n k : Nat} [H : H02 P] (hn : 1000 < n) (hk : 10 ≤ k) (h : P.fn ("law", none) = some d_law_k02) (ns : List Int) : ∃ s', callD P n k ("law", none) [.loc 0] [.scr ns] = .ok (.bl true) s' := by
  obtain ⟨k, rfl⟩ : ∃ j, k = j + 1 := ⟨k - 1, by omega⟩
  suffices hs : ∃ s2, denSs P.gl (callD P n k) n P.er d_law_k02.body [some (.loc 0), none, none, none, none, none, none, none, none, none, none, none, none, none, none] [.scr ns] = .rt (.bl true) s2 by
    obtain ⟨s2, hs⟩ := hs
    rw [call_at h rfl]
    show ∃ s', fin [.scr ns] (denSs P.gl (callD P n k) n P.er d_law_k02.body [some (.loc 0), none, none, none, none, none, none, none, none, none, none, none, none, none, none] [.scr ns]) = .ok (.bl true) s'
    rw [hs]
    exact fin_bl true
  simp only [d_law_k02]
  have cb := lbegin_ok (P := P) (n := n) (k := k) (by omega) ns
  refine seq_nx (e' := [some (.loc 0), some (.loc 2), none, none, none, none, none, none, none, none, none, none, none, none, none]) (s' := [.scr ns, .lst (ns.map .int), .lst [.loc 1, .int 0, .int 0, .int 7]]) (by clear hk hn h; walk_at "ev") ?_
  have d1 := begin_dr ns
  have l1 : ([Ob.scr ns, .lst (ns.map .int), .lst [.loc 1, .int 0, .int 0, .int 7]] : Store).length = 3 := rfl
  clear cb
  generalize [Ob.scr ns, .lst (ns.map .int), .lst [.loc 1, .int 0, .int 0, .int 7]] = s1 at *
  obtain ⟨c, rl, s2, c2, pa2, hc2, d2, f2⟩ := lparts_ok (P := P) (n := n) (k := k) (by omega) (by omega) d1
  refine seq_nx (e' := [some (.loc 0), some (.loc 2), some (.loc c), none, none, none, none, none, none, none, none, none, none, none, none]) (s' := s2) (by clear hk hn h pa2 d2 f2 d1 l1 hc2; walk_at "ev") ?_
  have c3 := lrule_ok (P := P) (n := n) (k := k) (by omega) pa2
  have d3 := d2.app [.ins "Rule" (flds (rlL rl))]
  have pa3 : PaAt (s2 ++ [.ins "Rule" (flds (rlL rl))]) c rl := by show _ = _; rw [sl_app (at_lt pa2)]; exact pa2
  have ru3 : RlAt (s2 ++ [.ins "Rule" (flds (rlL rl))]) s2.length rl := app_at0 s2 _
  have hcl := at_lt pa2
  have l3 : (s2 ++ [Ob.ins "Rule" (flds (rlL rl))]).length = s2.length + 1 := by rw [List.length_append]; rfl
  refine seq_nx (e' := [some (.loc 0), some (.loc 2), some (.loc c), some (.loc s2.length), none, none, none, none, none, none, none, none, none, none, none]) (s' := s2 ++ [.ins "Rule" (flds (rlL rl))]) (by clear hk hn h pa2 d2 f2 d1 l1 hc2 d3 pa3 ru3 hcl l3; walk_at "ev") ?_
  generalize hr : s2.length = r at *
  generalize s2 ++ [Ob.ins "Rule" (flds (rlL rl))] = s3 at *
  obtain ⟨v4, s4, hv4, c4, d4, f4⟩ := draw_i (P := P) (n := n) (k := k) (by omega) d3 (z := 4) (by omega) (by omega)
  refine seq_nx (e' := [some (.loc 0), some (.loc 2), some (.loc c), some (.loc r), some (.int (1 + (v4 : Int))), none, none, none, none, none, none, none, none, none, none]) (s' := s4) (by clear hk hn h pa2 d2 f2 d1 l1 hc2 d3 pa3 ru3 hcl l3 d4 f4 c2 c3 hv4 hr; walk_at "ev") ?_
  obtain ⟨v5, s5, hv5, c5, d5, f5⟩ := draw_i (P := P) (n := n) (k := k) (by omega) d4 (z := 6) (by omega) (by omega)
  refine seq_nx (e' := [some (.loc 0), some (.loc 2), some (.loc c), some (.loc r), some (.int (1 + (v4 : Int))), some (.int (1 + (v5 : Int))), none, none, none, none, none, none, none, none, none]) (s' := s5) (by clear hk hn h pa2 d2 f2 d1 l1 hc2 d3 pa3 ru3 hcl l3 d4 f4 c2 c3 hv4 hr d5 f5 c4 hv5; walk_at "ev") ?_
  have f35 := f4.trans f5
  have pa5 : PaAt s5 c rl := f35.at pa3 (by omega)
  have ru5 : RlAt s5 r rl := f35.at ru3 (by omega)
  have l5 : r < s5.length := at_lt ru5
  generalize hlife : (1 : Int) + (v4 : Int) = life at *
  generalize hag : (1 : Int) + (v5 : Int) = ag at *
  have c6 := lnew_ok (P := P) (n := n) (k := k) (by omega) ag s5
  have sa6 := lnew_sa ag s5
  have c7 := fun s => start_ok' (P := P) (n := n) (k := k) (by omega) ag s
  refine seq_nx (e' := [some (.loc 0), some (.loc 2), some (.loc c), some (.loc r), some (.int life), some (.int ag), some (.loc (s5.length + 1)), none, none, none, none, none, none, none, none]) (s' := s5 ++ [.lst [], .dS (stD (start ag) s5.length)]) (by clear hk hn h pa2 d2 f2 d1 l1 hc2 d3 pa3 ru3 hcl l3 d4 f4 c2 c3 hv4 hr d5 f5 c4 hv5 c5 f35 pa5 ru5 l5 sa6 hlife hag; walk_at "ev") ?_
  refine seq_nx (e' := [some (.loc 0), some (.loc 2), some (.loc c), some (.loc r), some (.int life), some (.int ag), some (.loc (s5.length + 1)), some (stL (start ag)), none, none, none, none, none, none, none]) (s' := s5 ++ [.lst [], .dS (stD (start ag) s5.length)]) (by clear hk hn h pa2 d2 f2 d1 l1 hc2 d3 pa3 ru3 hcl l3 d4 f4 c2 c3 hv4 hr d5 f5 c4 hv5 c5 f35 pa5 ru5 l5 sa6 c6 hlife hag; walk_at "ev") ?_
  refine seq_nx (e' := [some (.loc 0), some (.loc 2), some (.loc c), some (.loc r), some (.int life), some (.int ag), some (.loc (s5.length + 1)), some (stL (start ag)), some (.loc (s5.length + 2)), none, none, none, none, none, none]) (s' := s5 ++ [.lst [], .dS (stD (start ag) s5.length), .lst []]) (by clear hk hn h pa2 d2 f2 d1 l1 hc2 d3 pa3 ru3 hcl l3 d4 f4 c2 c3 hv4 hr d5 f5 c4 hv5 c5 f35 pa5 ru5 l5 sa6 c6 c7 hlife hag; walk_at "ev") ?_
  refine seq_nx (e' := [some (.loc 0), some (.loc 2), some (.loc c), some (.loc r), some (.int life), some (.int ag), some (.loc (s5.length + 1)), some (stL (start ag)), some (.loc (s5.length + 2)), some (.loc (s5.length + 3)), none, none, none, none, none]) (s' := s5 ++ [.lst [], .dS (stD (start ag) s5.length), .lst [], .lst []]) (by clear hk hn h pa2 d2 f2 d1 l1 hc2 d3 pa3 ru3 hcl l3 d4 f4 c2 c3 hv4 hr d5 f5 c4 hv5 c5 f35 pa5 ru5 l5 sa6 c6 c7 hlife hag; walk_at "ev") ?_
  have G : GI (s5 ++ [.lst [], .dS (stD (start ag) s5.length), .lst [], .lst []]) 2 1 (st4 c r (s5.length + 2) (s5.length + 3) rl [] []) (s5.length + 1) s5.length [] (start ag) := by
    refine ⟨d5.app _, fun p hp => ?_, ?_, ?_⟩
    · simp only [st4, List.mem_cons, List.not_mem_nil, or_false] at hp
      rcases hp with rfl | rfl | rfl | rfl
      · simp only; rw [sl_app (at_lt pa5)]; exact pa5
      · simp only; rw [sl_app (at_lt ru5)]; exact ru5
      · exact app_at s5 _ 2
      · exact app_at s5 _ 3
    · have := sa6.app [.lst [], .lst []]
      rw [List.append_assoc] at this
      exact this
    · simp only [st4, List.map_cons, List.map_nil, List.cons_append, List.nil_append, List.nodup_cons, List.mem_cons, List.not_mem_nil, or_false, not_false_eq_true, List.nodup_nil, and_true]
      omega
  generalize hd : s5.length + 1 = d at *
  generalize hm : s5.length = m at *
  generalize hhl : m + 2 = hl at *
  generalize hwl : m + 3 = wl at *
  have hlf : 0 < life := by omega
  have hag0 : 0 < ag := by omega
  clear c7 c6 sa6 pa5 ru5 l5 f35 d5 c5 f5 d4 c4 f4 l3 hcl ru3 pa3 d3 c3 pa2 c2 d2 f2 d1 l1 hr hhl hwl hlife hag hv4 hv5
  generalize s5 ++ [Ob.lst [], .dS (stD (start ag) m), .lst [], .lst []] = s9 at *
  -- forty turns
  obtain ⟨e9, s10, h10, ds, rs, p10, p11, p12, p13, p14, he, hG, hOk, hlen⟩ := forFix_inv (f := frF P.gl (callD P n k) n P.er (.nm 10) b02) (g := fun i : Nat => L.int (i : Nat)) (fun ms e s => ∃ ds rs p10 p11 p12 p13 p14, e = [some (.loc 0), some (.loc 2), some (.loc c), some (.loc r), some (.int life), some (.int ag), some (.loc d), some (stL (standO rl life (start ag) ds)), some (.loc hl), some (.loc wl), p10, p11, p12, p13, p14] ∧ GI s 2 1 (st4 c r hl wl rl ds (runO rl life (start ag) ds)) d m rs (standO rl life (start ag) ds) ∧ (Ok life (standO rl life (start ag) ds) ∧ (standO rl life (start ag) ds).mail.length ≤ ds.length) ∧ ds.length + ms.length = 40)
    (fun i ms e s hI => by
      obtain ⟨ds, rs, p10, p11, p12, p13, p14, rfl, hG, ⟨hOk, hM⟩, hlen⟩ := hI
      simp only [List.length_cons] at hlen
      obtain ⟨e', s', h1, dd, rs', q10, q11, q12, q13, q14, h2, h3, h4⟩ := turn02 (P := P) (n := n) (k := k) hn (by omega) hG hOk hlf (by omega) (run_len _ _ _ _) hM (.int (i : Nat)) (some (.loc 0)) p10 p11 p12 p13 p14
      refine ⟨e', s', h1, ds ++ [dd], rs', q10, q11, q12, q13, q14, ?_, ?_, ⟨?_, ?_⟩, ?_⟩
      · rw [stand_snoc]; exact h2
      · rw [stand_snoc, run_snoc]; exact h3
      · rw [stand_snoc]; exact stepO_ok hlf hOk h4
      · rw [stand_snoc]
        have := mail_step rl life (standO rl life (start ag) ds) dd
        rw [List.length_append]
        exact Nat.le_trans this (Nat.succ_le_succ hM)
      · rw [List.length_append, List.length_cons, List.length_nil]; omega)
    (List.range 40) _ s9 ⟨[], [], none, none, none, none, none, rfl, G, ⟨HP.start_ok (by omega) hlf, Nat.le_refl _⟩, rfl⟩
  subst he
  have hrk := fun s => rngK_nat 40 s (by decide)
  refine seq_nx (e' := [some (.loc 0), some (.loc 2), some (.loc c), some (.loc r), some (.int life), some (.int ag), some (.loc d), some (stL (standO rl life (start ag) ds)), some (.loc hl), some (.loc wl), p10, p11, p12, p13, p14]) (s' := s10) ?_ ?_
  · rw [es_fr, evI_rngK, ev_cst]
    exact (congrArg _ (hrk s9)).trans h10
  clear h10 hrk G
  have hlen' : ds.length = 40 := by simpa using hlen
  have ru : RlAt s10 r rl := hG.ht (r, _) (List.mem_cons_of_mem _ List.mem_cons_self)
  have hh : s10[hl]? = some (.lst (ds.map dL)) := hG.ht (hl, _) (List.mem_cons_of_mem _ (List.mem_cons_of_mem _ List.mem_cons_self))
  have hwd : s10[wl]? = some (.lst ((runO rl life (start ag) ds).map wordL)) := hG.ht (wl, _) (List.mem_cons_of_mem _ (List.mem_cons_of_mem _ (List.mem_cons_of_mem _ List.mem_cons_self)))
  have cR := run_ok (P := P) (n := n) (k := k) hn (by omega) ru life ag ds (by omega) hh
  have hrl := run_len rl life ds (start ag)
  have cL := like_ok (P := P) (n := n) (s10 ++ [.lst ((runO rl life (start ag) ds).map wordL)]) 2 k (.loc s10.length) (.loc wl) (by omega) (Sm.list (app_at0 _ _) (by rw [sl_app (at_lt hwd)]; exact hwd) (by rw [List.length_map]; omega) fun y hy => by
    obtain ⟨b, _, rfl⟩ := List.mem_map.mp hy
    exact .flat (okF_wd _))
  have G2 := hG.app [.lst ((runO rl life (start ag) ds).map wordL)]
  have ru2 : RlAt (s10 ++ [.lst ((runO rl life (start ag) ds).map wordL)]) r rl := G2.ht (r, _) (List.mem_cons_of_mem _ List.mem_cons_self)
  have hh2 : (s10 ++ [.lst ((runO rl life (start ag) ds).map wordL)])[hl]? = some (.lst (ds.map dL)) := G2.ht (hl, _) (List.mem_cons_of_mem _ (List.mem_cons_of_mem _ List.mem_cons_self))
  refine seq_nx (e' := [some (.loc 0), some (.loc 2), some (.loc c), some (.loc r), some (.int life), some (.int ag), some (.loc d), some (stL (standO rl life (start ag) ds)), some (.loc hl), some (.loc wl), p10, p11, p12, p13, p14]) (s' := s10 ++ [.lst ((runO rl life (start ag) ds).map wordL)]) (by clear hG G2 hOk hlen hlen' ru hh hwd hrl ru2 hh2 hk hn h; walk_at "ev") ?_
  clear cR cL hG ru hh hwd
  generalize s10 ++ [.lst ((runO rl life (start ag) ds).map wordL)] = s11 at *
  have cA := stand_ok (P := P) (n := n) (k := k) hn (by omega) ru2 life ag ds (by omega) (.tup (ds.map dL)) rfl
  have cK := lkey_ok (P := P) (n := n) (k := k) hn (by omega) G2.sa (by omega)
  have cT := fun hs F => o_tupL hs F hh2
  have cL := like_ok (P := P) (n := n) s11 4 k (stL (standO rl life (start ag) ds)) (stL (standO rl life (start ag) ds)) (by omega) (Sm.self _ _ (okT_st (by omega) 0))
  refine seq_rt (s' := s11) (by clear G2 hOk hlen hlen' hrl ru2 hh2 hk hn h; walk_at "ev")
end D
end

section
set_option maxRecDepth 100000
set_option maxHeartbeats 0
/-! Lk02: the table of the law, printed by gen.py. -/
namespace Lk02
open PySem D
def top (i : Nat) : Stmt := PySem.Challenge.pw_holdparts_k02_whole_steps.main.body.getD i (.Pass ⟨0, 0, 0, 0⟩)
def sub (i j : Nat) : Stmt := match top i with
  | .ClassDef _ _ _ b _ _ _ _ _ _ _ => b.getD j (.Pass ⟨0, 0, 0, 0⟩)
  | s => s
def rowOf (k : FK) (nm ql : Str) (st : Stmt) (N : List Str) (d : Def) : Row := ⟨k, nm, ql, (L2.defArgs st).args, L2.defBody st, L2.defScope st, N, d⟩
/-- start: 0 agreed -/
def d_start : Def := ⟨1, 1, (.cons (.ret (.tup (.cons (.var 0) (.cons (.var 0) (.cons (.cst (.int 0)) (.cons (.cst (.int 0)) (.cons (.cst (.int 0)) (.cons (.tup .nil) .nil))))))))
    .nil)⟩
/-- taken_open: 0 rule, 1 sums, 2 asked, 3 held, 4 taken, 5 given -/
def d_taken_open : Def := ⟨3, 6, (.cons (.asgT [3, 4, 5] (.var 1))
    (.cons (.ife (.le (.var 2) (.var 3)) (.cons (.ret (.tup (.cons (.sub (.var 3) (.var 2)) (.cons (.add (.var 4) (.var 2)) (.cons (.var 5) .nil)))))
    .nil) .nil)
    (.cons (.ife (.eq (.fld (.var 0) "beyond") (.cst (.str "refused"))) (.cons (.ret (.var 1))
    .nil) .nil)
    (.cons (.ret (.tup (.cons (.cst (.int 0)) (.cons (.add (.var 4) (.ite (.eq (.fld (.var 0) "beyond") (.cst (.str "cut"))) (.var 3) (.var 2))) (.cons (.var 5) .nil)))))
    .nil))))⟩
/-- taken_late: 0 rule, 1 agreed, 2 sums, 3 asked, 4 held, 5 taken, 6 given -/
def d_taken_late : Def := ⟨4, 7, (.cons (.asgT [4, 5, 6] (.var 2))
    (.cons (.ife (.eq (.fld (.var 0) "late") (.cst (.str "refused"))) (.cons (.ret (.var 2))
    .nil) .nil)
    (.cons (.ife (.eq (.fld (.var 0) "late") (.cst (.str "agreed"))) (.cons (.asg 3 (.bi .max (.cons (.bi .min (.cons (.var 3) (.cons (.sub (.var 1) (.sub (.var 5) (.var 6))) .nil))) (.cons (.cst (.int 0)) .nil))))
    .nil) .nil)
    (.cons (.ret (.tup (.cons (.var 4) (.cons (.add (.var 5) (.var 3)) (.cons (.var 6) .nil)))))
    .nil))))⟩
/-- given_back: 0 rule, 1 is_open, 2 sums, 3 asked, 4 held, 5 taken, 6 given -/
def d_given_back : Def := ⟨4, 7, (.cons (.asgT [4, 5, 6] (.var 2))
    (.cons (.ife (.eq (.fld (.var 0) "over") (.cst (.str "cut"))) (.cons (.asg 3 (.bi .max (.cons (.bi .min (.cons (.var 3) (.cons (.sub (.var 5) (.var 6)) .nil))) (.cons (.cst (.int 0)) .nil))))
    .nil) .nil)
    (.cons (.ret (.tup (.cons (.add (.var 4) (.ite (.and (.var 1) (.eq (.fld (.var 0) "back") (.cst (.str "opens")))) (.var 3) (.cst (.int 0)))) (.cons (.var 5) (.cons (.add (.var 6) (.var 3)) .nil)))))
    .nil)))⟩
/-- come: 0 rule, 1 standing, 2 number, 3 mail, 4 sums, 5 agreed, 6 held, 7 taken, 8 given, 9 age, 10 word, 11 asked, 12 times -/
def d_come : Def := ⟨3, 13, (.cons (.asgT [5, 6, 7, 8, 9, 3] (.var 1))
    (.cons (.ife (.not (.chn true false (.cst (.int 0)) (.var 2) (.bi .len (.cons (.var 3) .nil)))) (.cons (.ret (.cst .non))
    .nil) .nil)
    (.cons (.asgT [10, 11, 12] (.idx (.var 3) (.var 2)))
    (.cons (.asg 3 (.add (.add (.slc (.var 3) .non (.som (.var 2))) (.tup (.cons (.tup (.cons (.var 10) (.cons (.var 11) (.cons (.add (.var 12) (.cst (.int 1))) .nil)))) .nil))) (.slc (.var 3) (.som (.add (.var 2) (.cst (.int 1)))) .non)))
    (.cons (.asg 4 (.tup (.cons (.var 6) (.cons (.var 7) (.cons (.var 8) .nil)))))
    (.cons (.ife (.or (.eq (.var 12) (.cst (.int 0))) (.eq (.fld (.var 0) "again") (.cst (.str "done")))) (.cons (.ife (.eq (.var 10) (.cst (.str "give"))) (.cons (.asg 4 (.call "given_back" (.cons (.var 0) (.cons (.isnn (.var 9)) (.cons (.var 4) (.cons (.var 11) .nil))))))
    .nil) (.cons (.ife (.isn (.var 9)) (.cons (.asg 4 (.call "taken_late" (.cons (.var 0) (.cons (.var 5) (.cons (.var 4) (.cons (.var 11) .nil))))))
    .nil) (.cons (.asg 4 (.call "taken_open" (.cons (.var 0) (.cons (.var 4) (.cons (.var 11) .nil)))))
    .nil))
    .nil))
    .nil) .nil)
    (.cons (.ret (.add (.add (.tup (.cons (.var 5) .nil)) (.var 4)) (.tup (.cons (.var 9) (.cons (.var 3) .nil)))))
    .nil)))))))⟩
/-- ticked: 0 life, 1 standing, 2 agreed, 3 held, 4 taken, 5 given, 6 age, 7 mail -/
def d_ticked : Def := ⟨2, 8, (.cons (.asgT [2, 3, 4, 5, 6, 7] (.var 1))
    (.cons (.ife (.isn (.var 6)) (.cons (.ret (.cst .non))
    .nil) .nil)
    (.cons (.ife (.lt (.add (.var 6) (.cst (.int 1))) (.var 0)) (.cons (.ret (.tup (.cons (.var 2) (.cons (.var 3) (.cons (.var 4) (.cons (.var 5) (.cons (.add (.var 6) (.cst (.int 1))) (.cons (.var 7) .nil))))))))
    .nil) .nil)
    (.cons (.ret (.tup (.cons (.var 2) (.cons (.cst (.int 0)) (.cons (.var 4) (.cons (.var 5) (.cons (.cst .non) (.cons (.var 7) .nil))))))))
    .nil))))⟩
/-- released: 0 rule, 1 standing, 2 agreed, 3 held, 4 taken, 5 given, 6 age, 7 mail, 8 word, 9 asked, 10 times -/
def d_released : Def := ⟨2, 11, (.cons (.asgT [2, 3, 4, 5, 6, 7] (.var 1))
    (.cons (.ife (.isn (.var 6)) (.cons (.ret (.cst .non))
    .nil) .nil)
    (.cons (.ife (.fld (.var 0) "spent") (.cons (.asg 7 (.bx .tuple (.lc [8, 9, 10] (.tp [8, 9, 10]) (.val (.var 7)) .non (.tup (.cons (.var 8) (.cons (.var 9) (.cons (.bi .max (.cons (.var 10) (.cons (.cst (.int 1)) .nil))) .nil)))))))
    .nil) .nil)
    (.cons (.ret (.tup (.cons (.var 2) (.cons (.cst (.int 0)) (.cons (.var 4) (.cons (.var 5) (.cons (.cst .non) (.cons (.var 7) .nil))))))))
    .nil))))⟩
/-- behind: 0 rule, 1 life, 2 standing, 3 deed, 4 word, 5 agreed, 6 held, 7 taken, 8 given, 9 age, 10 mail -/
def d_behind : Def := ⟨4, 11, (.cons (.asgT [5, 6, 7, 8, 9, 10] (.var 2))
    (.cons (.asg 4 (.idx (.var 3) (.cst (.int 0))))
    (.cons (.ife (.eq (.var 4) (.cst (.str "send"))) (.cons (.ret (.tup (.cons (.var 5) (.cons (.var 6) (.cons (.var 7) (.cons (.var 8) (.cons (.var 9) (.cons (.add (.var 10) (.tup (.cons (.tup (.cons (.idx (.var 3) (.cst (.int 1))) (.cons (.idx (.var 3) (.cst (.int 2))) (.cons (.cst (.int 0)) .nil)))) .nil))) .nil))))))))
    .nil) .nil)
    (.cons (.ife (.eq (.var 4) (.cst (.str "come"))) (.cons (.ret (.call "come" (.cons (.var 0) (.cons (.var 2) (.cons (.idx (.var 3) (.cst (.int 1))) .nil)))))
    .nil) .nil)
    (.cons (.ife (.eq (.var 4) (.cst (.str "tick"))) (.cons (.ret (.call "ticked" (.cons (.var 1) (.cons (.var 2) .nil))))
    .nil) .nil)
    (.cons (.ife (.eq (.var 4) (.cst (.str "release"))) (.cons (.ret (.call "released" (.cons (.var 0) (.cons (.var 2) .nil))))
    .nil) .nil)
    (.cons (.ife (.eq (.var 4) (.cst (.str "renew"))) (.cons (.asg 6 (.ite (.eq (.fld (.var 0) "renewing") (.cst (.str "full"))) (.var 5) (.bi .max (.cons (.sub (.var 5) (.sub (.var 7) (.var 8))) (.cons (.cst (.int 0)) .nil)))))
    (.cons (.ret (.tup (.cons (.var 5) (.cons (.var 6) (.cons (.var 7) (.cons (.var 8) (.cons (.cst (.int 0)) (.cons (.var 10) .nil))))))))
    .nil)) .nil)
    (.cons (.ife (.eq (.var 4) (.cst (.str "raise"))) (.cons (.ret (.tup (.cons (.add (.var 5) (.cst (.int 1))) (.cons (.add (.var 6) (.ite (.isn (.var 9)) (.cst (.int 0)) (.cst (.int 1)))) (.cons (.var 7) (.cons (.var 8) (.cons (.var 9) (.cons (.var 10) .nil))))))))
    .nil) .nil)
    (.cons (.ife (.eq (.var 5) (.cst (.int 0))) (.cons (.ret (.cst .non))
    .nil) .nil)
    (.cons (.ret (.tup (.cons (.sub (.var 5) (.cst (.int 1))) (.cons (.ite (.eq (.fld (.var 0) "lowering") (.cst (.str "hold"))) (.bi .max (.cons (.sub (.var 6) (.cst (.int 1))) (.cons (.cst (.int 0)) .nil))) (.var 6)) (.cons (.var 7) (.cons (.var 8) (.cons (.var 9) (.cons (.var 10) .nil))))))))
    .nil))))))))))⟩
/-- step: 0 rule, 1 life, 2 standing, 3 deed, 4 after -/
def d_step : Def := ⟨4, 5, (.cons (.asg 4 (.call "behind" (.cons (.var 0) (.cons (.var 1) (.cons (.var 2) (.cons (.var 3) .nil))))))
    (.cons (.ret (.ite (.isn (.var 4)) (.tup (.cons (.cst (.str "refused")) (.cons (.var 2) .nil))) (.tup (.cons (.cst (.str "done")) (.cons (.var 4) .nil)))))
    .nil))⟩
/-- net_of: 0 standing -/
def d_net_of : Def := ⟨1, 1, (.cons (.ret (.sub (.idx (.var 0) (.cst (.int 2))) (.idx (.var 0) (.cst (.int 3)))))
    .nil)⟩
/-- come_faults: 0 standing, 1 deed, 2 after, 3 times, 4 found -/
def d_come_faults : Def := ⟨3, 5, (.cons (.asg 3 (.idx (.idx (.idx (.var 0) (.cst (.int 5))) (.idx (.var 1) (.cst (.int 1)))) (.cst (.int 2))))
    (.cons (.asg 4 (.lst .nil))
    (.cons (.ife (.and (.gt (.var 3) (.cst (.int 0))) (.or (.gt (.idx (.var 2) (.cst (.int 2))) (.idx (.var 0) (.cst (.int 2)))) (.gt (.idx (.var 2) (.cst (.int 3))) (.idx (.var 0) (.cst (.int 3)))))) (.cons (.expr (.bm .append (.var 4) (.cons (.cst (.str "twice")) .nil)))
    .nil) .nil)
    (.cons (.ife (.and (.eq (.var 3) (.cst (.int 0))) (.eq (.slc (.var 2) (.som (.cst (.int 2))) (.som (.cst (.int 4)))) (.slc (.var 0) (.som (.cst (.int 2))) (.som (.cst (.int 4)))))) (.cons (.expr (.bm .append (.var 4) (.cons (.cst (.str "never")) .nil)))
    .nil) .nil)
    (.cons (.ret (.var 4))
    .nil)))))⟩
/-- faults_of: 0 rule, 1 life, 2 standing, 3 deed, 4 found, 5 word, 6 after, 7 fault -/
def d_faults_of : Def := ⟨4, 8, (.cons (.asgT [5, 6] (.call "step" (.cons (.var 0) (.cons (.var 1) (.cons (.var 2) (.cons (.var 3) .nil))))))
    (.cons (.ife (.eq (.var 5) (.cst (.str "refused"))) (.cons (.ret (.lst .nil))
    .nil) .nil)
    (.cons (.asg 4 (.ite (.eq (.idx (.var 3) (.cst (.int 0))) (.cst (.str "come"))) (.call "come_faults" (.cons (.var 2) (.cons (.var 3) (.cons (.var 6) .nil)))) (.lst .nil)))
    (.cons (.ife (.and (.gt (.call "net_of" (.cons (.var 6) .nil)) (.idx (.var 6) (.cst (.int 0)))) (.gt (.idx (.var 6) (.cst (.int 2))) (.idx (.var 2) (.cst (.int 2))))) (.cons (.expr (.bm .append (.var 4) (.cons (.cst (.str "more")) .nil)))
    .nil) .nil)
    (.cons (.ife (.and (.gt (.idx (.var 6) (.cst (.int 3))) (.idx (.var 2) (.cst (.int 3)))) (.gt (.idx (.var 6) (.cst (.int 3))) (.idx (.var 6) (.cst (.int 2))))) (.cons (.expr (.bm .append (.var 4) (.cons (.cst (.str "owed")) .nil)))
    .nil) .nil)
    (.cons (.ife (.and (.gt (.idx (.var 6) (.cst (.int 1))) (.cst (.int 0))) (.gt (.idx (.var 6) (.cst (.int 1))) (.sub (.idx (.var 6) (.cst (.int 0))) (.call "net_of" (.cons (.var 6) .nil))))) (.cons (.expr (.bm .append (.var 4) (.cons (.cst (.str "outlives")) .nil)))
    .nil) .nil)
    (.cons (.ret (.lc (.lc [7] (.nm 7) (.val (.glb "FAULTS")) (.som (.inn (.var 7) (.var 4))) (.var 7))))
    .nil)))))))⟩
/-- run: 0 rule, 1 life, 2 agreed, 3 history, 4 standing, 5 found, 6 deed, 7 word -/
def d_run : Def := ⟨4, 8, (.cons (.asg 4 (.call "start" (.cons (.var 2) .nil)))
    (.cons (.asg 5 (.lst .nil))
    (.cons (.fr (.nm 6) (.val (.var 3)) (.cons (.asgT [7, 4] (.call "step" (.cons (.var 0) (.cons (.var 1) (.cons (.var 4) (.cons (.var 6) .nil))))))
    (.cons (.expr (.bm .append (.var 5) (.cons (.var 7) .nil)))
    .nil)))
    (.cons (.ret (.var 5))
    .nil))))⟩
/-- standing_after: 0 rule, 1 life, 2 agreed, 3 history, 4 standing, 5 deed -/
def d_standing_after : Def := ⟨4, 6, (.cons (.asg 4 (.call "start" (.cons (.var 2) .nil)))
    (.cons (.fr (.nm 5) (.val (.var 3)) (.cons (.asg 4 (.idx (.call "step" (.cons (.var 0) (.cons (.var 1) (.cons (.var 4) (.cons (.var 5) .nil))))) (.cst (.int 1))))
    .nil))
    (.cons (.ret (.var 4))
    .nil)))⟩
/-- is_value: 0 value, 1 some -/
def d_is_value : Def := ⟨2, 2, (.cons (.ife (.isi (.idx (.var 1) (.cst (.int 0))) .bl) (.cons (.ret (.isi (.var 0) .bl))
    .nil) .nil)
    (.cons (.ret (.and (.isi (.var 0) .str) (.inn (.var 0) (.var 1))))
    .nil))⟩
/-- _law_begin: 0 _law_script -/
def d__law_begin : Def := ⟨1, 1, (.cons (.ret (.lst (.cons (.bi .list (.cons (.var 0) .nil)) (.cons (.cst (.int 0)) (.cons (.cst (.int 0)) (.cons (.cst (.int 7)) .nil))))))
    .nil)⟩
/-- _law_draw: 0 _law_draws, 1 _law_size, 2 _law_found, 3 _law_cell -/
def d__law_draw : Def := ⟨2, 4, (.cons (.ife (.eq (.idx (.var 0) (.cst (.int 2))) (.cst (.int 0))) (.cons (.ife (.lt (.idx (.var 0) (.cst (.int 1))) (.bi .len (.cons (.idx (.var 0) (.cst (.int 0))) .nil))) (.cons (.asg 3 (.idx (.idx (.var 0) (.cst (.int 0))) (.idx (.var 0) (.cst (.int 1)))))
    (.cons (.iset (.var 0) (.cst (.int 1)) (.add (.idx (.var 0) (.cst (.int 1))) (.cst (.int 1))))
    (.cons (.ife (.ge (.var 3) (.pow (.cst (.int 10)) (.cst (.int 18)))) (.cons (.iset (.var 0) (.cst (.int 2)) (.var 3))
    .nil) (.cons (.iset (.var 0) (.cst (.int 3)) (.mod (.bi .int (.cons (.add (.add (.mul (.idx (.var 0) (.cst (.int 3))) (.cst (.int 48271))) (.mul (.var 3) (.cst (.int 69621)))) (.cst (.int 11))) .nil)) (.cst (.int 2147483647))))
    .nil))
    .nil))) (.cons (.iset (.var 0) (.cst (.int 3)) (.mod (.bi .int (.cons (.add (.mul (.idx (.var 0) (.cst (.int 3))) (.cst (.int 48271))) (.cst (.int 7))) .nil)) (.cst (.int 2147483647))))
    .nil))
    .nil) .nil)
    (.cons (.ife (.gt (.idx (.var 0) (.cst (.int 2))) (.cst (.int 0))) (.cons (.asg 2 (.mod (.bi .int (.cons (.idx (.var 0) (.cst (.int 2))) .nil)) (.var 1)))
    (.cons (.iset (.var 0) (.cst (.int 2)) (.fdv (.idx (.var 0) (.cst (.int 2))) (.var 1)))
    (.cons (.ret (.var 2))
    .nil))) .nil)
    (.cons (.ret (.mod (.mod (.bi .int (.cons (.mul (.idx (.var 0) (.cst (.int 3))) (.cst (.int 16807))) .nil)) (.cst (.int 2147483629))) (.var 1)))
    .nil)))⟩
/-- _law_values: 0 _law_first -/
def d__law_values : Def := ⟨0, 1, (.cons (.asg 0 (.lst (.cons (.lst (.cons (.cst (.str "done")) (.cons (.cst (.str "once")) .nil))) (.cons (.lst (.cons (.cst (.str "refused")) (.cons (.cst (.str "agreed")) (.cons (.cst (.str "taken")) .nil)))) (.cons (.lst (.cons (.cst (.str "refused")) (.cons (.cst (.str "cut")) (.cons (.cst (.str "taken")) .nil)))) (.cons (.lst (.cons (.cst (.str "opens")) (.cons (.cst (.str "stays")) .nil))) .nil))))))
    (.cons (.ret (.add (.var 0) (.lst (.cons (.lst (.cons (.cst (.str "cut")) (.cons (.cst (.str "given")) .nil))) (.cons (.lst (.cons (.cst (.str "full")) (.cons (.cst (.str "rest")) .nil))) (.cons (.lst (.cons (.cst (.str "hold")) (.cons (.cst (.str "word")) .nil))) (.cons (.lst (.cons (.cst (.bl true)) (.cons (.cst (.bl false)) .nil))) .nil)))))))
    .nil))⟩
/-- _law_names:  -/
def d__law_names : Def := ⟨0, 0, (.cons (.ret (.lst (.cons (.cst (.str "again")) (.cons (.cst (.str "late")) (.cons (.cst (.str "beyond")) (.cons (.cst (.str "back")) (.cons (.cst (.str "over")) (.cons (.cst (.str "renewing")) (.cons (.cst (.str "lowering")) (.cons (.cst (.str "spent")) .nil))))))))))
    .nil)⟩
/-- _law_parts: 0 _law_draws, 1 _law_some -/
def d__law_parts : Def := ⟨1, 2, (.cons (.ret (.lc (.lc [1] (.nm 1) (.val (.call "_law_values" .nil)) .non (.idx (.var 1) (.call "_law_draw" (.cons (.var 0) (.cons (.bi .len (.cons (.var 1) .nil)) .nil)))))))
    .nil)⟩
/-- _law_rule: 0 _law_parts_here -/
def d__law_rule : Def := ⟨1, 1, (.cons (.ret (.make "Rule" (.cons (.idx (.var 0) (.cst (.int 0))) (.cons (.idx (.var 0) (.cst (.int 1))) (.cons (.idx (.var 0) (.cst (.int 2))) (.cons (.idx (.var 0) (.cst (.int 3))) (.cons (.idx (.var 0) (.cst (.int 4))) (.cons (.idx (.var 0) (.cst (.int 5))) (.cons (.idx (.var 0) (.cst (.int 6))) (.cons (.idx (.var 0) (.cst (.int 7))) .nil))))))))))
    .nil)⟩
/-- _law_new: 0 _law_agreed -/
def d__law_new : Def := ⟨1, 1, (.cons (.ret (.dSc ["agreed", "held", "taken", "given", "age", "mail"] (.cons (.var 0) (.cons (.var 0) (.cons (.cst (.int 0)) (.cons (.cst (.int 0)) (.cons (.cst (.int 0)) (.cons (.lst .nil) .nil))))))))
    .nil)⟩
/-- _law_copy: 0 _law_state, 1 _law_found, 2 _law_row -/
def d__law_copy : Def := ⟨1, 3, (.cons (.asg 1 (.bi .dict (.cons (.var 0) .nil)))
    (.cons (.iset (.var 1) (.cst (.str "mail")) (.lc (.lc [2] (.nm 2) (.val (.idx (.var 0) (.cst (.str "mail")))) .non (.bi .list (.cons (.var 2) .nil)))))
    (.cons (.ret (.var 1))
    .nil)))⟩
/-- _law_key: 0 _law_state, 1 _law_mail, 2 _law_row -/
def d__law_key : Def := ⟨1, 3, (.cons (.asg 1 (.bx .tuple (.lc [2] (.nm 2) (.val (.idx (.var 0) (.cst (.str "mail")))) .non (.bi .tuple (.cons (.var 2) .nil)))))
    (.cons (.ret (.tup (.cons (.idx (.var 0) (.cst (.str "agreed"))) (.cons (.idx (.var 0) (.cst (.str "held"))) (.cons (.idx (.var 0) (.cst (.str "taken"))) (.cons (.idx (.var 0) (.cst (.str "given"))) (.cons (.idx (.var 0) (.cst (.str "age"))) (.cons (.var 1) .nil))))))))
    .nil))⟩
/-- _law_net: 0 _law_state -/
def d__law_net : Def := ⟨1, 1, (.cons (.ret (.sub (.idx (.var 0) (.cst (.str "taken"))) (.idx (.var 0) (.cst (.str "given")))))
    .nil)⟩
/-- _law_take: 0 _law_parts_here, 1 _law_state, 2 _law_coins, 3 _law_part -/
def d__law_take : Def := ⟨3, 4, (.cons (.ife (.isn (.idx (.var 1) (.cst (.str "age")))) (.cons (.asg 3 (.var 2))
    (.cons (.ife (.eq (.idx (.var 0) (.cst (.int 1))) (.cst (.str "refused"))) (.cons (.asg 3 (.cst (.int 0)))
    .nil) .nil)
    (.cons (.ife (.eq (.idx (.var 0) (.cst (.int 1))) (.cst (.str "agreed"))) (.cons (.asg 3 (.bi .max (.cons (.cst (.int 0)) (.cons (.bi .min (.cons (.var 2) (.cons (.sub (.idx (.var 1) (.cst (.str "agreed"))) (.call "_law_net" (.cons (.var 1) .nil))) .nil))) .nil))))
    .nil) .nil)
    (.cons (.iset (.var 1) (.cst (.str "taken")) (.add (.idx (.var 1) (.cst (.str "taken"))) (.var 3)))
    .nil)))) (.cons (.ife (.le (.var 2) (.idx (.var 1) (.cst (.str "held")))) (.cons (.iset (.var 1) (.cst (.str "taken")) (.add (.idx (.var 1) (.cst (.str "taken"))) (.var 2)))
    (.cons (.iset (.var 1) (.cst (.str "held")) (.sub (.idx (.var 1) (.cst (.str "held"))) (.var 2)))
    .nil)) (.cons (.ife (.ne (.idx (.var 0) (.cst (.int 2))) (.cst (.str "refused"))) (.cons (.iset (.var 1) (.cst (.str "taken")) (.add (.idx (.var 1) (.cst (.str "taken"))) (.idxX (.disp (.cons (.idx (.var 1) (.cst (.str "held"))) (.cons (.var 2) .nil))) (.bi .int (.cons (.eq (.idx (.var 0) (.cst (.int 2))) (.cst (.str "taken"))) .nil)))))
    (.cons (.iset (.var 1) (.cst (.str "held")) (.cst (.int 0)))
    .nil)) .nil)
    .nil))
    .nil))
    .nil)⟩
/-- _law_give: 0 _law_parts_here, 1 _law_state, 2 _law_coins, 3 _law_part -/
def d__law_give : Def := ⟨3, 4, (.cons (.asg 3 (.var 2))
    (.cons (.ife (.eq (.idx (.var 0) (.cst (.int 4))) (.cst (.str "cut"))) (.cons (.asg 3 (.bi .max (.cons (.cst (.int 0)) (.cons (.bi .min (.cons (.var 2) (.cons (.call "_law_net" (.cons (.var 1) .nil)) .nil))) .nil))))
    .nil) .nil)
    (.cons (.iset (.var 1) (.cst (.str "given")) (.add (.idx (.var 1) (.cst (.str "given"))) (.var 3)))
    (.cons (.ife (.and (.eq (.idx (.var 0) (.cst (.int 3))) (.cst (.str "opens"))) (.isnn (.idx (.var 1) (.cst (.str "age"))))) (.cons (.iset (.var 1) (.cst (.str "held")) (.add (.idx (.var 1) (.cst (.str "held"))) (.var 3)))
    .nil) .nil)
    .nil))))⟩
/-- _law_end: 0 _law_state -/
def d__law_end : Def := ⟨1, 1, (.cons (.iset (.var 0) (.cst (.str "age")) (.cst .non))
    (.cons (.iset (.var 0) (.cst (.str "held")) (.cst (.int 0)))
    .nil))⟩
/-- _law_come: 0 _law_parts_here, 1 _law_state, 2 _law_number, 3 _law_row -/
def d__law_come : Def := ⟨3, 4, (.cons (.asg 3 (.idx (.idx (.var 1) (.cst (.str "mail"))) (.var 2)))
    (.cons (.iset (.var 3) (.cst (.int 2)) (.add (.idx (.var 3) (.cst (.int 2))) (.cst (.int 1))))
    (.cons (.ife (.or (.eq (.idx (.var 3) (.cst (.int 2))) (.cst (.int 1))) (.eq (.idx (.var 0) (.cst (.int 0))) (.cst (.str "done")))) (.cons (.ife (.eq (.idx (.var 3) (.cst (.int 0))) (.cst (.str "take"))) (.cons (.expr (.call "_law_take" (.cons (.var 0) (.cons (.var 1) (.cons (.idx (.var 3) (.cst (.int 1))) .nil)))))
    .nil) (.cons (.expr (.call "_law_give" (.cons (.var 0) (.cons (.var 1) (.cons (.idx (.var 3) (.cst (.int 1))) .nil)))))
    .nil))
    .nil) .nil)
    .nil)))⟩
/-- _law_free: 0 _law_state, 1 _law_deed -/
def d__law_free : Def := ⟨2, 2, (.cons (.ife (.eq (.idx (.var 1) (.cst (.int 0))) (.cst (.str "come"))) (.cons (.ret (.chn true false (.cst (.int 0)) (.idx (.var 1) (.cst (.int 1))) (.bi .len (.cons (.idx (.var 0) (.cst (.str "mail"))) .nil))))
    .nil) .nil)
    (.cons (.ife (.inX (.idx (.var 1) (.cst (.int 0))) (.disp (.cons (.cst (.str "tick")) (.cons (.cst (.str "release")) .nil)))) (.cons (.ret (.isnn (.idx (.var 0) (.cst (.str "age")))))
    .nil) .nil)
    (.cons (.ret (.or (.ne (.idx (.var 1) (.cst (.int 0))) (.cst (.str "lower"))) (.gt (.idx (.var 0) (.cst (.str "agreed"))) (.cst (.int 0)))))
    .nil)))⟩
/-- _law_do: 0 _law_parts_here, 1 _law_life, 2 _law_state, 3 _law_deed, 4 _law_word, 5 _law_row, 6 _law_rest -/
def d__law_do : Def := ⟨4, 7, (.cons (.asg 4 (.idx (.var 3) (.cst (.int 0))))
    (.cons (.ife (.not (.call "_law_free" (.cons (.var 2) (.cons (.var 3) .nil)))) (.cons (.ret (.cst (.str "refused")))
    .nil) .nil)
    (.cons (.ife (.eq (.var 4) (.cst (.str "send"))) (.cons (.expr (.bm .append (.idx (.var 2) (.cst (.str "mail"))) (.cons (.lst (.cons (.idx (.var 3) (.cst (.int 1))) (.cons (.idx (.var 3) (.cst (.int 2))) (.cons (.cst (.int 0)) .nil)))) .nil)))
    .nil) (.cons (.ife (.eq (.var 4) (.cst (.str "come"))) (.cons (.expr (.call "_law_come" (.cons (.var 0) (.cons (.var 2) (.cons (.idx (.var 3) (.cst (.int 1))) .nil)))))
    .nil) (.cons (.ife (.eq (.var 4) (.cst (.str "tick"))) (.cons (.iset (.var 2) (.cst (.str "age")) (.add (.idx (.var 2) (.cst (.str "age"))) (.cst (.int 1))))
    (.cons (.ife (.eq (.idx (.var 2) (.cst (.str "age"))) (.var 1)) (.cons (.expr (.call "_law_end" (.cons (.var 2) .nil)))
    .nil) .nil)
    .nil)) (.cons (.ife (.eq (.var 4) (.cst (.str "release"))) (.cons (.expr (.call "_law_end" (.cons (.var 2) .nil)))
    (.cons (.fr (.nm 5) (.val (.idx (.var 2) (.cst (.str "mail")))) (.cons (.ife (.and (.idx (.var 0) (.cst (.int 7))) (.eq (.idx (.var 5) (.cst (.int 2))) (.cst (.int 0)))) (.cons (.iset (.var 5) (.cst (.int 2)) (.cst (.int 1)))
    .nil) .nil)
    .nil))
    .nil)) (.cons (.ife (.eq (.var 4) (.cst (.str "renew"))) (.cons (.iset (.var 2) (.cst (.str "age")) (.cst (.int 0)))
    (.cons (.asg 6 (.bi .max (.cons (.cst (.int 0)) (.cons (.sub (.idx (.var 2) (.cst (.str "agreed"))) (.call "_law_net" (.cons (.var 2) .nil))) .nil))))
    (.cons (.iset (.var 2) (.cst (.str "held")) (.idxX (.disp (.cons (.var 6) (.cons (.idx (.var 2) (.cst (.str "agreed"))) .nil))) (.bi .int (.cons (.eq (.idx (.var 0) (.cst (.int 5))) (.cst (.str "full"))) .nil))))
    .nil))) (.cons (.ife (.eq (.var 4) (.cst (.str "raise"))) (.cons (.iset (.var 2) (.cst (.str "agreed")) (.add (.idx (.var 2) (.cst (.str "agreed"))) (.cst (.int 1))))
    (.cons (.iset (.var 2) (.cst (.str "held")) (.add (.idx (.var 2) (.cst (.str "held"))) (.bi .int (.cons (.isnn (.idx (.var 2) (.cst (.str "age")))) .nil))))
    .nil)) (.cons (.iset (.var 2) (.cst (.str "agreed")) (.sub (.idx (.var 2) (.cst (.str "agreed"))) (.cst (.int 1))))
    (.cons (.ife (.and (.eq (.idx (.var 0) (.cst (.int 6))) (.cst (.str "hold"))) (.gt (.idx (.var 2) (.cst (.str "held"))) (.cst (.int 0)))) (.cons (.iset (.var 2) (.cst (.str "held")) (.sub (.idx (.var 2) (.cst (.str "held"))) (.cst (.int 1))))
    .nil) .nil)
    .nil)))
    .nil))
    .nil))
    .nil))
    .nil))
    .nil))
    (.cons (.ret (.cst (.str "done")))
    .nil))))⟩
/-- _law_words:  -/
def d__law_words : Def := ⟨0, 0, (.cons (.ret (.lst (.cons (.cst (.str "more")) (.cons (.cst (.str "twice")) (.cons (.cst (.str "never")) (.cons (.cst (.str "owed")) (.cons (.cst (.str "outlives")) .nil)))))))
    .nil)⟩
/-- _law_faults: 0 _law_parts_here, 1 _law_life, 2 _law_state, 3 _law_deed, 4 _law_after, 5 _law_took, 6 _law_gave, 7 _law_first, 8 _law_found, 9 _law_name -/
def d__law_faults : Def := ⟨4, 10, (.cons (.asg 4 (.call "_law_copy" (.cons (.var 2) .nil)))
    (.cons (.ife (.eq (.call "_law_do" (.cons (.var 0) (.cons (.var 1) (.cons (.var 4) (.cons (.var 3) .nil))))) (.cst (.str "refused"))) (.cons (.ret (.lst .nil))
    .nil) .nil)
    (.cons (.asg 5 (.gt (.idx (.var 4) (.cst (.str "taken"))) (.idx (.var 2) (.cst (.str "taken")))))
    (.cons (.asg 6 (.gt (.idx (.var 4) (.cst (.str "given"))) (.idx (.var 2) (.cst (.str "given")))))
    (.cons (.asg 7 (.and (.eq (.idx (.var 3) (.cst (.int 0))) (.cst (.str "come"))) (.eq (.idx (.idx (.idx (.var 2) (.cst (.str "mail"))) (.idx (.var 3) (.cst (.int 1)))) (.cst (.int 2))) (.cst (.int 0)))))
    (.cons (.asg 8 .dS0)
    (.cons (.iset (.var 8) (.cst (.str "more")) (.and (.var 5) (.gt (.call "_law_net" (.cons (.var 4) .nil)) (.idx (.var 4) (.cst (.str "agreed"))))))
    (.cons (.iset (.var 8) (.cst (.str "twice")) (.and (.eq (.idx (.var 3) (.cst (.int 0))) (.cst (.str "come"))) (.and (.not (.var 7)) (.or (.var 5) (.var 6)))))
    (.cons (.iset (.var 8) (.cst (.str "never")) (.and (.var 7) (.and (.not (.var 5)) (.not (.var 6)))))
    (.cons (.iset (.var 8) (.cst (.str "owed")) (.and (.var 6) (.lt (.call "_law_net" (.cons (.var 4) .nil)) (.cst (.int 0)))))
    (.cons (.iset (.var 8) (.cst (.str "outlives")) (.gt (.idx (.var 4) (.cst (.str "held"))) (.bi .max (.cons (.cst (.int 0)) (.cons (.sub (.idx (.var 4) (.cst (.str "agreed"))) (.call "_law_net" (.cons (.var 4) .nil))) .nil)))))
    (.cons (.ret (.lc (.lc [9] (.nm 9) (.val (.call "_law_words" .nil)) (.som (.idx (.var 8) (.var 9))) (.var 9))))
    .nil))))))))))))⟩
/-- _law_any: 0 _law_draws, 1 _law_state, 2 _law_word, 3 _law_size -/
def d__law_any : Def := ⟨2, 4, (.cons (.asg 2 (.call "_law_draw" (.cons (.var 0) (.cons (.cst (.int 12)) .nil))))
    (.cons (.ife (.le (.var 2) (.cst (.int 2))) (.cons (.ret (.tup (.cons (.cst (.str "send")) (.cons (.idxX (.disp (.cons (.cst (.str "take")) (.cons (.cst (.str "take")) (.cons (.cst (.str "give")) .nil)))) (.call "_law_draw" (.cons (.var 0) (.cons (.cst (.int 3)) .nil)))) (.cons (.add (.cst (.int 1)) (.call "_law_draw" (.cons (.var 0) (.cons (.cst (.int 4)) .nil)))) .nil)))))
    .nil) .nil)
    (.cons (.ife (.le (.var 2) (.cst (.int 6))) (.cons (.asg 3 (.add (.bi .len (.cons (.idx (.var 1) (.cst (.str "mail"))) .nil)) (.bi .int (.cons (.eq (.call "_law_draw" (.cons (.var 0) (.cons (.cst (.int 5)) .nil))) (.cst (.int 0))) .nil))))
    (.cons (.ret (.ite (.gt (.var 3) (.cst (.int 0))) (.tup (.cons (.cst (.str "come")) (.cons (.call "_law_draw" (.cons (.var 0) (.cons (.var 3) .nil))) .nil))) (.tup (.cons (.cst (.str "renew")) .nil))))
    .nil)) .nil)
    (.cons (.ret (.idxX (.disp (.cons (.tup (.cons (.cst (.str "tick")) .nil)) (.cons (.tup (.cons (.cst (.str "release")) .nil)) (.cons (.tup (.cons (.cst (.str "renew")) .nil)) (.cons (.tup (.cons (.cst (.str "raise")) .nil)) (.cons (.tup (.cons (.cst (.str "lower")) .nil)) .nil)))))) (.sub (.var 2) (.cst (.int 7)))))
    .nil))))⟩
/-- _law_like: 0 _law_actual, 1 _law_due, 2 _law_k -/
def d__law_like : Def := ⟨2, 3, (.cons (.ife (.isn (.var 1)) (.cons (.ret (.isn (.var 0)))
    .nil) .nil)
    (.cons (.ife (.isi (.var 1) .bl) (.cons (.ret (.and (.isi (.var 0) .bl) (.eq (.var 0) (.var 1))))
    .nil) .nil)
    (.cons (.ife (.isi (.var 1) .int) (.cons (.ret (.and (.isi (.var 0) .int) (.and (.not (.isi (.var 0) .bl)) (.eq (.var 0) (.var 1)))))
    .nil) .nil)
    (.cons (.ife (.isi (.var 1) .str) (.cons (.ret (.and (.isi (.var 0) .str) (.eq (.var 0) (.var 1))))
    .nil) .nil)
    (.cons (.ife (.isi (.var 1) .tup) (.cons (.ife (.or (.not (.isi (.var 0) .tup)) (.ne (.bi .len (.cons (.var 0) .nil)) (.bi .len (.cons (.var 1) .nil)))) (.cons (.ret (.cst (.bl false)))
    .nil) .nil)
    .nil) (.cons (.ife (.or (.not (.isi (.var 0) .lst)) (.ne (.bi .len (.cons (.var 0) .nil)) (.bi .len (.cons (.var 1) .nil)))) (.cons (.ret (.cst (.bl false)))
    .nil) .nil)
    .nil))
    (.cons (.fr (.nm 2) (.rng1 (.bi .len (.cons (.var 1) .nil))) (.cons (.ife (.not (.call "_law_like" (.cons (.idx (.var 0) (.var 2)) (.cons (.idx (.var 1) (.var 2)) .nil)))) (.cons (.ret (.cst (.bl false)))
    .nil) .nil)
    .nil))
    (.cons (.ret (.cst (.bl true)))
    .nil)))))))⟩
/-- law: 0 _law_script, 1 _law_draws, 2 _law_parts_here, 3 _law_rule_here, 4 _law_life, 5 _law_agreed, 6 _law_state, 7 _law_standing, 8 _law_history, 9 _law_words_here, 10 _law_k, 11 _law_deed, 12 _law_due, 13 _law_word, 14 _law_told -/
def d_law : Def := ⟨1, 15, (.cons (.asg 1 (.call "_law_begin" (.cons (.var 0) .nil)))
    (.cons (.asg 2 (.call "_law_parts" (.cons (.var 1) .nil)))
    (.cons (.asg 3 (.call "_law_rule" (.cons (.var 2) .nil)))
    (.cons (.asg 4 (.add (.cst (.int 1)) (.call "_law_draw" (.cons (.var 1) (.cons (.cst (.int 4)) .nil)))))
    (.cons (.asg 5 (.add (.cst (.int 1)) (.call "_law_draw" (.cons (.var 1) (.cons (.cst (.int 6)) .nil)))))
    (.cons (.asg 6 (.call "_law_new" (.cons (.var 5) .nil)))
    (.cons (.asg 7 (.call "start" (.cons (.var 5) .nil)))
    (.cons (.asg 8 (.lst .nil))
    (.cons (.asg 9 (.lst .nil))
    (.cons (.fr (.nm 10) (.rng1 (.cst (.int 40))) (.cons (.asg 11 (.call "_law_any" (.cons (.var 1) (.cons (.var 6) .nil))))
    (.cons (.ife (.and (.eq (.idx (.var 11) (.cst (.int 0))) (.cst (.str "tick"))) (.eq (.call "_law_draw" (.cons (.var 1) (.cons (.cst (.int 2)) .nil))) (.cst (.int 0)))) (.cons (.asg 11 (.tup (.cons (.cst (.str "renew")) .nil)))
    .nil) .nil)
    (.cons (.asg 12 (.lst .nil))
    (.cons (.ife (.or (.ne (.idx (.var 11) (.cst (.int 0))) (.cst (.str "come"))) (.lt (.idx (.var 11) (.cst (.int 1))) (.bi .len (.cons (.idx (.var 6) (.cst (.str "mail"))) .nil)))) (.cons (.asg 12 (.call "_law_faults" (.cons (.var 2) (.cons (.var 4) (.cons (.var 6) (.cons (.var 11) .nil))))))
    .nil) .nil)
    (.cons (.ife (.not (.call "_law_like" (.cons (.call "faults_of" (.cons (.var 3) (.cons (.var 4) (.cons (.var 7) (.cons (.var 11) .nil))))) (.cons (.var 12) .nil)))) (.cons (.ret (.cst (.bl false)))
    .nil) .nil)
    (.cons (.asg 13 (.call "_law_do" (.cons (.var 2) (.cons (.var 4) (.cons (.var 6) (.cons (.var 11) .nil))))))
    (.cons (.asg 14 (.call "step" (.cons (.var 3) (.cons (.var 4) (.cons (.var 7) (.cons (.var 11) .nil))))))
    (.cons (.asg 7 (.idx (.var 14) (.cst (.int 1))))
    (.cons (.expr (.bm .append (.var 8) (.cons (.var 11) .nil)))
    (.cons (.expr (.bm .append (.var 9) (.cons (.var 13) .nil)))
    (.cons (.ife (.not (.call "_law_like" (.cons (.var 14) (.cons (.tup (.cons (.var 13) (.cons (.call "_law_key" (.cons (.var 6) .nil)) .nil))) .nil)))) (.cons (.ret (.cst (.bl false)))
    .nil) .nil)
    .nil))))))))))))
    (.cons (.ife (.not (.call "_law_like" (.cons (.call "run" (.cons (.var 3) (.cons (.var 4) (.cons (.var 5) (.cons (.var 8) .nil))))) (.cons (.var 9) .nil)))) (.cons (.ret (.cst (.bl false)))
    .nil) .nil)
    (.cons (.ret (.call "_law_like" (.cons (.call "standing_after" (.cons (.var 3) (.cons (.var 4) (.cons (.var 5) (.cons (.bi .tuple (.cons (.var 8) .nil)) .nil))))) (.cons (.call "_law_key" (.cons (.var 6) .nil)) .nil))))
    .nil))))))))))))⟩
/-- Rule.__init__: 0 self, 1 again, 2 late, 3 beyond, 4 back, 5 over, 6 renewing, 7 lowering, 8 spent, 9 row, 10 part, 11 value, 12 some -/
def d_Rule___init__ : Def := ⟨9, 13, (.cons (.asg 9 (.tup (.cons (.var 1) (.cons (.var 2) (.cons (.var 3) (.cons (.var 4) (.cons (.var 5) (.cons (.var 6) (.cons (.var 7) (.cons (.var 8) .nil))))))))))
    (.cons (.fr (.tp [10, 11, 12]) (.zip3 (.glb "PARTS") (.var 9) (.glb "VALUES")) (.cons (.ife (.not (.call "is_value" (.cons (.var 11) (.cons (.var 12) .nil)))) (.cons (.rse "BadRule" (.cons (.var 10) .nil))
    .nil) .nil)
    .nil))
    (.cons (.fset (.var 0) "again" (.var 1))
    (.cons (.fset (.var 0) "late" (.var 2))
    (.cons (.fset (.var 0) "beyond" (.var 3))
    (.cons (.fset (.var 0) "back" (.var 4))
    (.cons (.fset (.var 0) "over" (.var 5))
    (.cons (.fset (.var 0) "renewing" (.var 6))
    (.cons (.fset (.var 0) "lowering" (.var 7))
    (.cons (.fset (.var 0) "spent" (.var 8))
    .nil))))))))))⟩
/-- Rule.parts: 0 self, 1 first -/
def d_Rule_parts : Def := ⟨1, 2, (.cons (.asg 1 (.tup (.cons (.fld (.var 0) "again") (.cons (.fld (.var 0) "late") (.cons (.fld (.var 0) "beyond") (.cons (.fld (.var 0) "back") .nil))))))
    (.cons (.ret (.add (.var 1) (.tup (.cons (.fld (.var 0) "over") (.cons (.fld (.var 0) "renewing") (.cons (.fld (.var 0) "lowering") (.cons (.fld (.var 0) "spent") .nil)))))))
    .nil))⟩
/-- Rule.__eq__: 0 self, 1 other -/
def d_Rule___eq__ : Def := ⟨2, 2, (.cons (.ret (.and (.isi (.var 1) (.own "Rule")) (.eq (.meth "parts" (.var 0) .nil) (.meth "parts" (.var 1) .nil))))
    .nil)⟩
def rows0 : List Row := [rowOf ("start", none) "start" "start" (top 3) ["agreed"] d_start,
  rowOf ("taken_open", none) "taken_open" "taken_open" (top 4) ["rule", "sums", "asked", "held", "taken", "given"] d_taken_open,
  rowOf ("taken_late", none) "taken_late" "taken_late" (top 5) ["rule", "agreed", "sums", "asked", "held", "taken", "given"] d_taken_late,
  rowOf ("given_back", none) "given_back" "given_back" (top 6) ["rule", "is_open", "sums", "asked", "held", "taken", "given"] d_given_back,
  rowOf ("come", none) "come" "come" (top 7) ["rule", "standing", "number", "mail", "sums", "agreed", "held", "taken", "given", "age", "word", "asked", "times"] d_come,
  rowOf ("ticked", none) "ticked" "ticked" (top 8) ["life", "standing", "agreed", "held", "taken", "given", "age", "mail"] d_ticked,
  rowOf ("released", none) "released" "released" (top 9) ["rule", "standing", "agreed", "held", "taken", "given", "age", "mail", "word", "asked", "times"] d_released,
  rowOf ("behind", none) "behind" "behind" (top 10) ["rule", "life", "standing", "deed", "word", "agreed", "held", "taken", "given", "age", "mail"] d_behind,
  rowOf ("step", none) "step" "step" (top 11) ["rule", "life", "standing", "deed", "after"] d_step,
  rowOf ("net_of", none) "net_of" "net_of" (top 12) ["standing"] d_net_of,
  rowOf ("come_faults", none) "come_faults" "come_faults" (top 13) ["standing", "deed", "after", "times", "found"] d_come_faults,
  rowOf ("faults_of", none) "faults_of" "faults_of" (top 14) ["rule", "life", "standing", "deed", "found", "word", "after", "fault"] d_faults_of]
def rows1 : List Row := [rowOf ("run", none) "run" "run" (top 15) ["rule", "life", "agreed", "history", "standing", "found", "deed", "word"] d_run,
  rowOf ("standing_after", none) "standing_after" "standing_after" (top 16) ["rule", "life", "agreed", "history", "standing", "deed"] d_standing_after,
  rowOf ("is_value", none) "is_value" "is_value" (top 23) ["value", "some"] d_is_value,
  rowOf ("_law_begin", none) "_law_begin" "_law_begin" (top 26) ["_law_script"] d__law_begin,
  rowOf ("_law_draw", none) "_law_draw" "_law_draw" (top 27) ["_law_draws", "_law_size", "_law_found", "_law_cell"] d__law_draw,
  rowOf ("_law_values", none) "_law_values" "_law_values" (top 28) ["_law_first"] d__law_values,
  rowOf ("_law_names", none) "_law_names" "_law_names" (top 29) [] d__law_names,
  rowOf ("_law_parts", none) "_law_parts" "_law_parts" (top 30) ["_law_draws", "_law_some"] d__law_parts,
  rowOf ("_law_rule", none) "_law_rule" "_law_rule" (top 31) ["_law_parts_here"] d__law_rule,
  rowOf ("_law_new", none) "_law_new" "_law_new" (top 32) ["_law_agreed"] d__law_new,
  rowOf ("_law_copy", none) "_law_copy" "_law_copy" (top 33) ["_law_state", "_law_found", "_law_row"] d__law_copy,
  rowOf ("_law_key", none) "_law_key" "_law_key" (top 34) ["_law_state", "_law_mail", "_law_row"] d__law_key]
def rows2 : List Row := [rowOf ("_law_net", none) "_law_net" "_law_net" (top 35) ["_law_state"] d__law_net,
  rowOf ("_law_take", none) "_law_take" "_law_take" (top 36) ["_law_parts_here", "_law_state", "_law_coins", "_law_part"] d__law_take,
  rowOf ("_law_give", none) "_law_give" "_law_give" (top 37) ["_law_parts_here", "_law_state", "_law_coins", "_law_part"] d__law_give,
  rowOf ("_law_end", none) "_law_end" "_law_end" (top 38) ["_law_state"] d__law_end,
  rowOf ("_law_come", none) "_law_come" "_law_come" (top 39) ["_law_parts_here", "_law_state", "_law_number", "_law_row"] d__law_come,
  rowOf ("_law_free", none) "_law_free" "_law_free" (top 40) ["_law_state", "_law_deed"] d__law_free,
  rowOf ("_law_do", none) "_law_do" "_law_do" (top 41) ["_law_parts_here", "_law_life", "_law_state", "_law_deed", "_law_word", "_law_row", "_law_rest"] d__law_do,
  rowOf ("_law_words", none) "_law_words" "_law_words" (top 42) [] d__law_words,
  rowOf ("_law_faults", none) "_law_faults" "_law_faults" (top 43) ["_law_parts_here", "_law_life", "_law_state", "_law_deed", "_law_after", "_law_took", "_law_gave", "_law_first", "_law_found", "_law_name"] d__law_faults,
  rowOf ("_law_any", none) "_law_any" "_law_any" (top 44) ["_law_draws", "_law_state", "_law_word", "_law_size"] d__law_any,
  rowOf ("_law_like", none) "_law_like" "_law_like" (top 45) ["_law_actual", "_law_due", "_law_k"] d__law_like,
  rowOf ("law", none) "law" "law" (top 46) ["_law_script", "_law_draws", "_law_parts_here", "_law_rule_here", "_law_life", "_law_agreed", "_law_state", "_law_standing", "_law_history", "_law_words_here", "_law_k", "_law_deed", "_law_due", "_law_word", "_law_told"] d_law]
def rows3 : List Row := [rowOf ("Rule", some "__init__") "__init__" "Rule.__init__" (sub 24 0) ["self", "again", "late", "beyond", "back", "over", "renewing", "lowering", "spent", "row", "part", "value", "some"] d_Rule___init__,
  rowOf ("Rule", some "parts") "parts" "Rule.parts" (sub 24 1) ["self", "first"] d_Rule_parts,
  rowOf ("Rule", some "__eq__") "__eq__" "Rule.__eq__" (sub 24 2) ["self", "other"] d_Rule___eq__]
def rowsA : List Row := rows0 ++ rows1 ++ rows2 ++ rows3
def xrowsA : List (Str × Str × Row) := [("BadRule", "part", rowOf ("BadRule", some "__init__") "__init__" "BadRule.__init__" (sub 19 0) ["self", "part"] ⟨0, 0, .nil⟩)]
def conA : List (Str × L) := [("FAULTS", (.tup [(.str "more"), (.str "twice"), (.str "never"), (.str "owed"), (.str "outlives")])), ("PARTS", (.tup [(.str "again"), (.str "late"), (.str "beyond"), (.str "back"), (.str "over"), (.str "renewing"), (.str "lowering"), (.str "spent")])), ("VALUES", (.tup [(.tup [(.str "done"), (.str "once")]), (.tup [(.str "refused"), (.str "agreed"), (.str "taken")]), (.tup [(.str "refused"), (.str "cut"), (.str "taken")]), (.tup [(.str "opens"), (.str "stays")]), (.tup [(.str "cut"), (.str "given")]), (.tup [(.str "full"), (.str "rest")]), (.tup [(.str "hold"), (.str "word")]), (.tup [(.bl true), (.bl false)])]))]
def flA : List (Str × Str) := [("Rule", "again"), ("Rule", "late"), ("Rule", "beyond"), ("Rule", "back"), ("Rule", "over"), ("Rule", "renewing"), ("Rule", "lowering"), ("Rule", "spent")]
def erA : Er := ⟨[], [("BadRule", some "part")]⟩
def T : Tab := ⟨rowsA, xrowsA, conA, flA, erA⟩
end Lk02
end

section
set_option maxRecDepth 100000
set_option maxHeartbeats 0
/-! HLk02: the head of the law, printed by genhead.py. -/
namespace Lk02
open PySem PySem.W PySem.Calls PyProof.Rows D
abbrev R : OpenRow := OpenLaw.row PySem.Challenge.rw_holdparts_k02_whole_steps
abbrev qv : Program := view R.prog [46]
def names0 : List PySem.Str := ["_wall", "FAULTS", "start", "taken_open", "taken_late", "given_back", "come", "ticked", "released", "behind", "step", "net_of", "come_faults", "faults_of", "run", "standing_after", "HoldError", "BadRule", "PARTS", "VALUES", "is_value", "Rule", "_law_begin", "_law_draw", "_law_values", "_law_names", "_law_parts", "_law_rule", "_law_new", "_law_copy"]
def names1 : List PySem.Str := ["_law_key", "_law_net", "_law_take", "_law_give", "_law_end", "_law_come", "_law_free", "_law_do", "_law_words", "_law_faults", "_law_any", "_law_like"]
def names : List PySem.Str := names0 ++ names1
abbrev hk : PySem.W.Hook := hookT T 5
def ob (s : PySem.W.SharedT) : AlT := obsTG T 5 (HandSHeadRun.getT s)
theorem ob_eq (s : PySem.W.SharedT) : ob s = hk.obs s.abs := obsTG_eq (HandSHeadRun.getT_eq s)
theorem run (w : World) : HandSHeadRun.RunEq R qv hk ob 4000 names w := by
  intro os
  kernel_rfl
theorem rows_ok : T.rows.all (fun r => r.ok T.gl T.er) = true := by kernel_rfl
def lawRow : Row := ((T.rows.find? fun r => decide (r.key = (("law", none) : FK))).getD ⟨("", none), "", "", [], [], ⟨.function, [], false, false, []⟩, [], ⟨0, 0, .nil⟩⟩)
theorem lawRow_at : T.rows.find? (fun r => decide (r.key = (("law", none) : FK))) = some lawRow := by kernel_rfl
theorem lawRow_ps : lawRow.ps = (["_law_script"] : List PySem.Str) := by kernel_rfl
/-- what is left: the law's own def answers True at every script -/
def Main : Prop := ∀ ns : List Int, ns.length ≤ 63 → ∃ s', callD T.pg 100000 (30 + 1) ("law", none) [.loc 0] [.scr ns] = .ok (.bl true) s'
theorem ends (h : Main) : PySem.Challenge.rw_holdparts_k02_whole_steps.Holds := by
  w_on; o_law
  refine HandSHeadRun.head_any (r := OpenLaw.row PySem.Challenge.rw_holdparts_k02_whole_steps) (q := view (OpenLaw.row PySem.Challenge.rw_holdparts_k02_whole_steps).prog [46]) (H := hk) (ob := ob) (M := 4000) (loose := names) (d := HandSHeadRun.topDef (OpenLaw.row PySem.Challenge.rw_holdparts_k02_whole_steps).prog 46) (kwd := []) ob_eq
    (by kernel_rfl) (fun s => by kernel_rfl) run (by kernel_rfl) (by kernel_rfl) (by kernel_rfl) (by rfl) (by first | assumption | decide +kernel) (by decide +kernel) ⟨rfl, rfl, rfl, rfl, rfl, by decide +kernel⟩ ?hw ?hc
  case hw => w_witness2
  case hc =>
    refine LamX.walk_ofTsE (l := PySem.Challenge.rw_holdparts_k02_whole_steps) (n := 63) (k := 2 * 30 + 2 + 2) (x := "_law_script") (CX := fun w => L2.CX (PySem.Challenge.rw_holdparts_k02_whole_steps).prog w) rfl (by decide) (by kernel_rfl) ⟨rfl, by decide, by decide⟩ ?F (fun w H s e s' z => ?Z)
    case Z =>
      obtain ⟨_, _, _, _, _, _, _, _, _, _, _, _, z⟩ := z
      exact z
    intro w mg fa h0 Y G hmg0
    obtain ⟨K, KX, c⟩ := Y
    have hmg : mg ("law" : PySem.Str) = some (.ref fa) := by
      have e : (HandSHeadRun.topDef (OpenLaw.row PySem.Challenge.rw_holdparts_k02_whole_steps).prog 46).name = ("law" : PySem.Str) := by kernel_rfl
      rw [← e]
      exact hmg0
    obtain ⟨fd, sp, hb, hsp, hF⟩ := law_def (P := (PySem.Challenge.rw_holdparts_k02_whole_steps).prog) (w := w) (N := 100000) (j := 30) (n := 63) c KX G rows_ok hmg lawRow_at lawRow_ps h
    exact ⟨K, KX, fd, [], sp, (fun p hp => nomatch hp), (fun p hp => nomatch hp), (fun p hp => nomatch hp), hb, fun H a ns hl _ _ hS => hsp H a ns hl trivial hS, fun base hK hN _ => hF base hK hN⟩
end Lk02
end

section
set_option maxRecDepth 100000
set_option maxHeartbeats 0
/-! K02f: the facts of k02's table. -/
namespace Lk02
open PySem D DL
instance : HF T.pg ("start", none) d_start := ⟨by kernel_rfl, by kernel_rfl⟩
instance : HF T.pg ("taken_open", none) d_taken_open := ⟨by kernel_rfl, by kernel_rfl⟩
instance : HF T.pg ("taken_late", none) d_taken_late := ⟨by kernel_rfl, by kernel_rfl⟩
instance : HF T.pg ("given_back", none) d_given_back := ⟨by kernel_rfl, by kernel_rfl⟩
instance : HF T.pg ("come", none) d_come := ⟨by kernel_rfl, by kernel_rfl⟩
instance : HF T.pg ("ticked", none) d_ticked := ⟨by kernel_rfl, by kernel_rfl⟩
instance : HF T.pg ("released", none) d_released := ⟨by kernel_rfl, by kernel_rfl⟩
instance : HF T.pg ("behind", none) d_behind := ⟨by kernel_rfl, by kernel_rfl⟩
instance : HF T.pg ("step", none) d_step := ⟨by kernel_rfl, by kernel_rfl⟩
instance : HF T.pg ("net_of", none) d_net_of := ⟨by kernel_rfl, by kernel_rfl⟩
instance : HF T.pg ("come_faults", none) d_come_faults := ⟨by kernel_rfl, by kernel_rfl⟩
instance : HF T.pg ("faults_of", none) d_faults_of := ⟨by kernel_rfl, by kernel_rfl⟩
instance : HF T.pg ("run", none) d_run := ⟨by kernel_rfl, by kernel_rfl⟩
instance : HF T.pg ("standing_after", none) d_standing_after := ⟨by kernel_rfl, by kernel_rfl⟩
instance : HF T.pg ("is_value", none) d_is_value := ⟨by kernel_rfl, by kernel_rfl⟩
instance : HF T.pg ("_law_begin", none) d__law_begin := ⟨by kernel_rfl, by kernel_rfl⟩
instance : HF T.pg ("_law_draw", none) d__law_draw := ⟨by kernel_rfl, by kernel_rfl⟩
instance : HF T.pg ("_law_values", none) d__law_values := ⟨by kernel_rfl, by kernel_rfl⟩
instance : HF T.pg ("_law_names", none) d__law_names := ⟨by kernel_rfl, by kernel_rfl⟩
instance : HF T.pg ("_law_parts", none) d__law_parts := ⟨by kernel_rfl, by kernel_rfl⟩
instance : HF T.pg ("_law_rule", none) mkDef := ⟨by kernel_rfl, by kernel_rfl⟩
instance : HF T.pg ("_law_new", none) d__law_new := ⟨by kernel_rfl, by kernel_rfl⟩
instance : HF T.pg ("_law_copy", none) d__law_copy := ⟨by kernel_rfl, by kernel_rfl⟩
instance : HF T.pg ("_law_key", none) d__law_key := ⟨by kernel_rfl, by kernel_rfl⟩
instance : HF T.pg ("_law_net", none) d__law_net := ⟨by kernel_rfl, by kernel_rfl⟩
instance : HF T.pg ("_law_take", none) d__law_take := ⟨by kernel_rfl, by kernel_rfl⟩
instance : HF T.pg ("_law_give", none) d__law_give := ⟨by kernel_rfl, by kernel_rfl⟩
instance : HF T.pg ("_law_end", none) d__law_end := ⟨by kernel_rfl, by kernel_rfl⟩
instance : HF T.pg ("_law_come", none) d__law_come := ⟨by kernel_rfl, by kernel_rfl⟩
instance : HF T.pg ("_law_free", none) d__law_free := ⟨by kernel_rfl, by kernel_rfl⟩
instance : HF T.pg ("_law_do", none) d__law_do := ⟨by kernel_rfl, by kernel_rfl⟩
instance : HF T.pg ("_law_words", none) d__law_words := ⟨by kernel_rfl, by kernel_rfl⟩
instance : HF T.pg ("_law_faults", none) d__law_faults := ⟨by kernel_rfl, by kernel_rfl⟩
instance : HF T.pg ("_law_any", none) d__law_any := ⟨by kernel_rfl, by kernel_rfl⟩
instance : HF T.pg ("_law_like", none) d__law_like := ⟨by kernel_rfl, by kernel_rfl⟩
instance : HF T.pg ("Rule", some "__init__") d_Rule___init__ := ⟨by kernel_rfl, by kernel_rfl⟩
instance : HF T.pg ("Rule", some "parts") d_Rule_parts := ⟨by kernel_rfl, by kernel_rfl⟩
instance : HF T.pg ("Rule", some "__eq__") d_Rule___eq__ := ⟨by kernel_rfl, by kernel_rfl⟩
theorem hasR : HasR T.pg where
  f_isv := by kernel_rfl
  h_isv := by kernel_rfl
  f_ini := by kernel_rfl
  h_ini := by kernel_rfl
  c_par := by kernel_rfl
  c_val := by kernel_rfl
  fl0 := by kernel_rfl
  fl1 := by kernel_rfl
  fl2 := by kernel_rfl
  fl3 := by kernel_rfl
  fl4 := by kernel_rfl
  fl5 := by kernel_rfl
  fl6 := by kernel_rfl
  fl7 := by kernel_rfl
  er := by kernel_rfl
instance : HC T.pg "FAULTS" faultsL := ⟨by kernel_rfl⟩
instance : HB T.pg := ⟨inferInstance, inferInstance, inferInstance, inferInstance, inferInstance, inferInstance, inferInstance, inferInstance⟩
instance : HFa T.pg where
  s1 := inferInstance
  s2 := inferInstance
  s3 := inferInstance
  s4 := inferInstance
  s5 := inferInstance
instance : HL T.pg := ⟨inferInstance, inferInstance, inferInstance, inferInstance, inferInstance, inferInstance, inferInstance, inferInstance, inferInstance, inferInstance⟩
instance : HLf T.pg where
  w := inferInstance
  z := inferInstance
instance : HRu T.pg := ⟨hasR, inferInstance, inferInstance, inferInstance, inferInstance, inferInstance⟩
instance : H02 T.pg := ⟨inferInstance, inferInstance, inferInstance, inferInstance, inferInstance, inferInstance, inferInstance⟩
theorem main : Main := fun ns _ => law02_ok (n := 100000) (k := 30 + 1) (by decide) (by decide) (by kernel_rfl) ns

end Lk02
theorem PySem.Challenge.cw_holdparts_k02_whole_steps_holds : PySem.Challenge.rw_holdparts_k02_whole_steps.Holds :=
  Lk02.ends Lk02.main
end
