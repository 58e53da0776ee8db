import PyProof.Rows.All
import Wide.All
import OpenK.AllK
import Wide.FinOn
import HandS.ForMost
import HandS.Evl
import HandS.IsInst
import HandS.Style
import HandS.Exc
import HandS.Wide
import HandS.ExcInit
import HandS.HeadHook2
import HandS.HeadHook1
import HandS.Deep
import HandS.TupAny
import HandS.TupMul
import HandS.WordsExc
import HandS.CallSlots
import HandS.Defaults
import KE.KExcSuper
import KE.KExcIs
import HandS.Nested
import HandS.ExcSuper
import HandS.ExcField
import HandS.ExcIs
import HandS.Head0
import HandS.Head1
import HandS.Head2
import HandS.HeadEnd
import PySem.Challenge.RW_leastwright_k10_whole_parts_and_errors
set_option Elab.async false
set_option linter.all false
set_option maxRecDepth 100000
/-! ZSem: what a program's parts come to, as plain functions over data (no heap): values D, slots S, the law's own state, expressions, tests, statements. -/
namespace Zn
open PySem

/-- data: what a value is, whole -/
inductive D where
  | non | bl (b : Bool) | int (i : Int) | str (s : Str) | tup (l : List D) | lst (l : List D) | st | scr (ns : List Int) | ex (c : Str) (ns : List Str) (l : List D)
/-- a slot's value: data that stays; a list of one's own that may be changed -/
inductive S where
  | frz (d : D) | own (d : D)
def S.d : S → D
  | .frz d => d
  | .own d => d
/-- an exception: its class's name, its fields -/
structure EV where
  cls : Str
  fs : List (Str × D)
inductive O (α τ : Type) where
  | ok (a : α) (t : τ) | exc (e : EV) (t : τ) | stk
def O.bind {α β τ : Type} (o : O α τ) (f : α → τ → O β τ) : O β τ := match o with
  | .ok a t => f a t
  | .exc e t => .exc e t
  | .stk => .stk
/-- what stands beside the slots: the law's state (place, cells) -/
structure G where
  st : Option (Int × List Int)
structure Zs where
  r : List (Option S)
  g : G
abbrev E := Zs → O S Zs
abbrev T := Zs → O Bool Zs
inductive Fl where
  | nx | rt (s : S) | bk | ct
abbrev SS := Zs → O Fl Zs
abbrev Fn := List D → G → O S G

def Zs.at (z : Zs) (i : Nat) : Option D := match z.r[i]? with
  | some (some s) => some s.d
  | _ => none
def Zs.put (z : Zs) (i : Nat) (s : Option S) : Zs := { z with r := z.r.set i s }

/-! ### expressions -/
def eC (d : D) : E := fun z => .ok (.frz d) z
/-- a name's value; a list of one's own is changed no more from here on -/
def eV (i : Nat) : E := fun z => match z.r[i]? with
  | some (some (.frz d)) => .ok (.frz d) z
  | some (some (.own d)) => .ok (.frz d) (z.put i (some (.frz d)))
  | _ => .stk
/-- a name's value, given away -/
def eMv (i : Nat) : E := fun z => match z.r[i]? with
  | some (some (.frz d)) => .ok (.frz d) z
  | some (some (.own d)) => .ok (.own d) (z.put i none)
  | _ => .stk
inductive Opd where
  | v (i : Nat) | e (m : E)
def evO : Opd → Zs → O (Nat ⊕ D) Zs
  | .v i, z => (match z.at i with
    | some _ => .ok (.inl i) z
    | none => .stk)
  | .e m, z => (m z).bind fun s z1 => .ok (.inr s.d) z1
def Zs.res (z : Zs) : Nat ⊕ D → Option D
  | .inl i => z.at i
  | .inr d => some d
def fin (o : Option S) (z : Zs) : O S Zs := match o with
  | some s => .ok s z
  | none => .stk
def finB (o : Option Bool) (z : Zs) : O Bool Zs := match o with
  | some b => .ok b z
  | none => .stk
def eB2 (f : D → D → Option S) (a b : Opd) : E := fun z => (evO a z).bind fun x z1 => (evO b z1).bind fun y z2 => match z2.res x, z2.res y with
  | some c, some d => fin (f c d) z2
  | _, _ => .stk
def eB1 (f : D → Option S) (a : Opd) : E := fun z => (evO a z).bind fun x z1 => match z1.res x with
  | some c => fin (f c) z1
  | none => .stk
/-- a test on one, on two operands -/
def tB1 (f : D → Option Bool) (a : Opd) : T := fun z => (evO a z).bind fun x z1 => match z1.res x with
  | some c => finB (f c) z1
  | none => .stk
def tB2 (f : D → D → Option Bool) (a b : Opd) : T := fun z => (evO a z).bind fun x z1 => (evO b z1).bind fun y z2 => match z2.res x, z2.res y with
  | some c, some d => finB (f c d) z2
  | _, _ => .stk
def tAnd (a b : T) : T := fun z => (a z).bind fun c z1 => if c then b z1 else .ok false z1
def tOr (a b : T) : T := fun z => (a z).bind fun c z1 => if c then .ok true z1 else b z1
def tNot (a : T) : T := fun z => (a z).bind fun c z1 => .ok (!c) z1
/-- a test as a value -/
def eT (a : T) : E := fun z => (a z).bind fun c z1 => .ok (.frz (.bl c)) z1
def eIf (c : T) (a b : E) : E := fun z => (c z).bind fun k z1 => if k then a z1 else b z1
/-- argument lists -/
def args : List E → Zs → O (List D) Zs
  | [], z => .ok [] z
  | m :: ms, z => (m z).bind fun s z1 => (args ms z1).bind fun ds z2 => .ok (s.d :: ds) z2
def eTup (ms : List E) : E := fun z => (args ms z).bind fun ds z1 => if ds.length ≤ sizeLine then .ok (.frz (.tup ds)) z1 else .stk
def eLst (ms : List E) : E := fun z => (args ms z).bind fun ds z1 => if ds.length ≤ sizeLine then .ok (.own (.lst ds)) z1 else .stk
def eCall (f : Fn) (ms : List E) : E := fun z => (args ms z).bind fun ds z1 => match f ds z1.g with
  | .ok s g => .ok s { z1 with g := g }
  | .exc e g => .exc e { z1 with g := g }
  | .stk => .stk

/-! ### targets -/
inductive Tg where
  | nm (i : Nat) | tp (l : List Tg) | ix (i : Nat) (k : E)
def ixN (n : Nat) (i : Int) : Option Nat := L2.ixN n i
def setAt (i : Nat) (k : D) (x : D) (z : Zs) : Option Zs := match k, z.r[i]? with
  | .int k, some (some (.own (.lst l))) => (match ixN l.length k with
    | some j => some (z.put i (some (.own (.lst (l.set j x)))))
    | none => none)
  | _, _ => none
mutual
def asg : Tg → S → Zs → O Unit Zs
  | .nm i, s, z => .ok () (z.put i (some s))
  | .ix i k, s, z => (match z.at i with
    | none => .stk
    | some _ => (k z).bind fun q z1 => match setAt i q.d s.d z1 with
      | some z2 => .ok () z2
      | none => .stk)
  | .tp l, .frz (.tup ds), z => if ds.length = l.length then asgs l ds z else .stk
  | .tp _, _, _ => .stk
def asgs : List Tg → List D → Zs → O Unit Zs
  | [], [], z => .ok () z
  | t :: ts, d :: ds, z => (asg t (.frz d) z).bind fun _ z1 => asgs ts ds z1
  | _, _, _ => .stk
end

/-! ### statements -/
def sNx : SS := fun z => .ok .nx z
def sSeq (a b : SS) : SS := fun z => (a z).bind fun f z1 => match f with
  | .nx => b z1
  | f => .ok f z1
def sAsg (t : Tg) (e : E) : SS := fun z => (e z).bind fun s z1 => (asg t s z1).bind fun _ z2 => .ok .nx z2
/-- a, b, .. = e1, e2, .. -/
def argsS : List E → Zs → O (List S) Zs
  | [], z => .ok [] z
  | m :: ms, z => (m z).bind fun s z1 => (argsS ms z1).bind fun ss z2 => .ok (s :: ss) z2
def puts : List Nat → List S → Zs → Option Zs
  | [], [], z => some z
  | i :: is, s :: ss, z => puts is ss (z.put i (some s))
  | _, _, _ => none
/-- a and b, a or b, not a as values that are True or False -/
def eAnd (a b : E) : E := fun z => (a z).bind fun s z1 => match s with
  | .frz (.bl true) => b z1
  | .frz (.bl false) => .ok (.frz (.bl false)) z1
  | _ => .stk
def eOr (a b : E) : E := fun z => (a z).bind fun s z1 => match s with
  | .frz (.bl true) => .ok (.frz (.bl true)) z1
  | .frz (.bl false) => b z1
  | _ => .stk
def eNot (a : E) : E := fun z => (a z).bind fun s z1 => match s with
  | .frz (.bl c) => .ok (.frz (.bl (!c))) z1
  | _ => .stk
/-- a value that is True or False, as a test -/
def tVal (a : E) : T := fun z => (a z).bind fun s z1 => match s with
  | .frz (.bl c) => .ok c z1
  | _ => .stk
def sPar (is : List Nat) (ms : List E) : SS := fun z => (argsS ms z).bind fun ss z1 => match puts is ss z1 with
  | some z2 => .ok .nx z2
  | none => .stk
def sIf (c : T) (a b : SS) : SS := fun z => (c z).bind fun k z1 => if k then a z1 else b z1
def sRet (e : E) : SS := fun z => (e z).bind fun s z1 => .ok (.rt s) z1
def sDrop (e : E) : SS := fun z => (e z).bind fun _ z1 => .ok .nx z1
def sBk : SS := fun z => .ok .bk z
def sCt : SS := fun z => .ok .ct z
/-- found.append(e) -/
def appAt (i : Nat) (x : D) (z : Zs) : Option Zs := match z.r[i]? with
  | some (some (.own (.lst l))) => if l.length < sizeLine then some (z.put i (some (.own (.lst (l ++ [x]))))) else none
  | _ => none
def Zs.isL (z : Zs) (i : Nat) : Bool := match z.r[i]? with
  | some (some (.own (.lst _))) => true
  | _ => false
def sApp (i : Nat) (e : E) : SS := fun z => if z.isL i then (e z).bind fun s z1 => match appAt i s.d z1 with
  | some z2 => .ok .nx z2
  | none => .stk
  else .stk
/-- found.extend(e) -/
def extAt (i : Nat) (x : D) (z : Zs) : Option Zs := match x, z.r[i]? with
  | .lst m, some (some (.own (.lst l))) => if l.length + m.length ≤ sizeLine then some (z.put i (some (.own (.lst (l ++ m))))) else none
  | _, _ => none

/-- for target in items: body -/
def forL (t : Tg) (b : SS) : List D → SS
  | [], z => .ok .nx z
  | x :: xs, z => (asg t (.frz x) z).bind fun _ z1 => (b z1).bind fun f z2 => match f with
    | .nx => forL t b xs z2
    | .ct => forL t b xs z2
    | .bk => .ok .nx z2
    | .rt s => .ok (.rt s) z2
/-- what is walked -/
abbrev I := Zs → O (List D) Zs
def iList (e : E) : I := fun z => (e z).bind fun s z1 => match s.d with
  | .lst l => .ok l z1
  | _ => .stk
def iTup (e : E) : I := fun z => (e z).bind fun s z1 => match s.d with
  | .tup l => .ok l z1
  | _ => .stk
def iSeq (e : E) : I := fun z => (e z).bind fun s z1 => match s.d with
  | .lst l => .ok l z1
  | .tup l => .ok l z1
  | _ => .stk
def rng (a b : Int) : List D := (List.range (b - a).toNat).map fun i => .int (a + (i : Nat))
def smallI (i : Int) : Bool := decide (-(2 ^ 62) ≤ i) && decide (i < 2 ^ 62)
def iR1 (e : Opd) : I := fun z => (evO e z).bind fun x z1 => match z1.res x with
  | some (.int b) => if smallI b then .ok (rng 0 b) z1 else .stk
  | _ => .stk
def iR2 (a b : Opd) : I := fun z => (evO a z).bind fun x z1 => (evO b z1).bind fun y z2 => match z2.res x, z2.res y with
  | some (.int a), some (.int b) => if smallI a && smallI b then .ok (rng a b) z2 else .stk
  | _, _ => .stk
def sFor (t : Tg) (i : I) (b : SS) : SS := fun z => (i z).bind fun l z1 => forL t b l z1

/-- while c: b -/
def whF (c : T) (b : SS) : Nat → Zs → Option (O Fl Zs)
  | 0, _ => none
  | n + 1, z => match c z with
    | .ok true z1 => (match b z1 with
      | .ok .nx z2 => whF c b n z2
      | .ok .ct z2 => whF c b n z2
      | .ok .bk z2 => some (.ok .nx z2)
      | .ok (.rt s) z2 => some (.ok (.rt s) z2)
      | .exc e z2 => some (.exc e z2)
      | .stk => some .stk)
    | .ok false z1 => some (.ok .nx z1)
    | .exc e z1 => some (.exc e z1)
    | .stk => some .stk
open Classical in
noncomputable def sWh (c : T) (b : SS) : SS := fun z => if h : ∃ n o, whF c b n z = some o then (h.choose_spec).choose else .stk

/-! ### comprehensions -/
def wipe (vs : List Nat) (z : Zs) : Zs := { z with r := vs.foldr (fun v r => r.set v none) z.r }
def lcL (t : Tg) (c : T) (e : E) (vs : List Nat) : List D → List D → Zs → Option (List D × Zs)
  | [], acc, z => some (acc, z)
  | x :: xs, acc, z => match asg t (.frz x) z with
    | .ok _ z1 => (match c z1 with
      | .ok true z2 => (match e z2 with
        | .ok s z3 => if acc.length < sizeLine then lcL t c e vs xs (acc ++ [s.d]) (wipe vs z3) else none
        | _ => none)
      | .ok false z2 => lcL t c e vs xs acc (wipe vs z2)
      | _ => none)
    | _ => none
def tYes : T := fun z => .ok true z
/-- behind the block its names stand for what they stood for -/
def unwR (q : List (Option S)) (v : Nat) (r : List (Option S)) : List (Option S) := match q[v]? with
  | some (some (.frz d)) => r.set v (some (.frz d))
  | _ => r
def unw (vs : List Nat) (z1 z2 : Zs) : Zs := { z2 with r := vs.foldr (unwR z1.r) z2.r }
def eLc (t : Tg) (i : I) (c : T) (e : E) (vs : List Nat) : E := fun z => (i z).bind fun l z1 => match lcL t c e vs l [] (wipe vs z1) with
  | some (ds, z2) => .ok (.own (.lst ds)) (unw vs z1 z2)
  | none => .stk

/-! ### a def -/
def callB (n : Nat) (b : SS) : Fn := fun ds g => match b ⟨ds.map (fun d => some (.frz d)) ++ List.replicate (n - ds.length) none, g⟩ with
  | .ok .nx z => .ok (.frz .non) z.g
  | .ok (.rt s) z => .ok s z.g
  | .exc e z => .exc e z.g
  | _ => .stk

/-! ### the operations -/
mutual
def toPy : D → PyData
  | .non => .none
  | .bl b => .bool b
  | .int i => .int i
  | .str s => .str s
  | .tup l => .tuple (toPys l)
  | .lst l => .list (toPys l)
  | .st => .dict []
  | .scr _ => .dict []
  | .ex _ _ _ => .dict []
def toPys : List D → List PyData
  | [] => []
  | d :: ds => toPy d :: toPys ds
end
def eqD (a b : D) : Option Bool := if SeqAt.shaped (toPy a) && SeqAt.shaped (toPy b) then some (PyData.eqv (toPy a) (toPy b)) else none
def fEq (a b : D) : Option Bool := eqD a b
def fNe (a b : D) : Option Bool := (eqD a b).map (!·)
def fInt2 (f : Int → Int → Int) (a b : D) : Option S := match a, b with
  | .int i, .int j => some (.frz (.int (f i j)))
  | _, _ => none
def fAdd (a b : D) : Option S := match a, b with
  | .int i, .int j => some (.frz (.int (i + j)))
  | _, _ => none
def fSub (a b : D) : Option S := match a, b with
  | .int i, .int j => some (.frz (.int (i - j)))
  | _, _ => none
/-- factors of together less than 134 million bits -/
def mulOk (i j : Int) : Bool := decide (i.natAbs.log2 + j.natAbs.log2 < 1000000) || (decide (-(2 ^ 64) < i) && decide (i < 2 ^ 64)) || (decide (-(2 ^ 64) < j) && decide (j < 2 ^ 64))
def fMul (a b : D) : Option S := match a, b with
  | .int i, .int j => if mulOk i j then some (.frz (.int (i * j))) else none
  | _, _ => none
def fDiv (a b : D) : Option S := match a, b with
  | .int i, .int j => if decide (0 < j) && decide (j.natAbs.log2 < 9000) then some (.frz (.int (i / j))) else none
  | _, _ => none
def fMod (a b : D) : Option S := match a, b with
  | .int i, .int j => if decide (0 < j) then some (.frz (.int (i % j))) else none
  | _, _ => none
def fNeg (a : D) : Option S := match a with
  | .int i => some (.frz (.int (-i)))
  | _ => none
def fAbs (a : D) : Option S := match a with
  | .int i => some (.frz (.int (if i < 0 then -i else i)))
  | _ => none
/-- int(x) -/
def fIntOf (a : D) : Option S := match a with
  | .int i => some (.frz (.int i))
  | .bl b => some (.frz (.int (if b then 1 else 0)))
  | _ => none
def fLt (a b : D) : Option Bool := match a, b with
  | .int i, .int j => some (decide (i < j))
  | _, _ => none
def fLe (a b : D) : Option Bool := match a, b with
  | .int i, .int j => some (decide (i ≤ j))
  | _, _ => none
def fGt (a b : D) : Option Bool := match a, b with
  | .int i, .int j => some (decide (j < i))
  | _, _ => none
def fGe (a b : D) : Option Bool := match a, b with
  | .int i, .int j => some (decide (j ≤ i))
  | _, _ => none
def D.isN : D → Bool
  | .non => true
  | _ => false
def fIsN (a b : D) : Option Bool := match b with
  | .non => some a.isN
  | _ => none
def fNotN (a b : D) : Option Bool := match b with
  | .non => some (!a.isN)
  | _ => none
/-- x is True, x is not False .. -/
def fIsB (a b : D) : Option Bool := match a, b with
  | .bl a, .bl b => some (decide (a = b))
  | _, _ => none
def fNotB (a b : D) : Option Bool := match a, b with
  | .bl a, .bl b => some (!decide (a = b))
  | _, _ => none
def vB (f : D → D → Option Bool) (a b : D) : Option S := (f a b).map fun k => .frz (.bl k)
def fTru (a : D) : Option Bool := match a with
  | .non => some false
  | .bl b => some b
  | .int i => some (i != 0)
  | .lst l => some (!l.isEmpty)
  | .tup l => some (!l.isEmpty)
  | _ => none
def fLen (a : D) : Option S := match a with
  | .lst l => some (.frz (.int l.length))
  | .tup l => some (.frz (.int l.length))
  | _ => none
def fIx (a b : D) : Option S := match a, b with
  | .lst l, .int k => (L2.atI l k).map S.frz
  | .tup l, .int k => (L2.atI l k).map S.frz
  | _, _ => none
def fTupOf (a : D) : Option S := match a with
  | .lst l => some (.frz (.tup l))
  | .tup l => some (.frz (.tup l))
  | _ => none
def fLstOf (a : D) : Option S := match a with
  | .lst l => some (.own (.lst l))
  | .tup l => some (.own (.lst l))
  | _ => none
def boolsD : List D → Option (List Bool)
  | [] => some []
  | .bl b :: r => (boolsD r).map (b :: ·)
  | _ => none
def intsD : List D → Option (List Int)
  | [] => some []
  | .int b :: r => (intsD r).map (b :: ·)
  | _ => none
def fAll (a : D) : Option S := match a with
  | .lst l => (boolsD l).map fun bs => .frz (.bl (bs.all id))
  | _ => none
def fAny (a : D) : Option S := match a with
  | .lst l => (boolsD l).map fun bs => .frz (.bl (bs.any id))
  | _ => none
def fSum (a : D) : Option S := match a with
  | .lst l => (intsD l).map fun ns => .frz (.int ns.sum)
  | _ => none
def fCat (a b : D) : Option S := match a, b with
  | .lst l, .lst m => if l.length + m.length ≤ sizeLine then some (.own (.lst (l ++ m))) else none
  | .tup l, .tup m => if l.length + m.length ≤ sizeLine then some (.frz (.tup (l ++ m))) else none
  | _, _ => none
def fRep (a b : D) : Option S := match a, b with
  | .lst l, .int k => if decide (-(2 ^ 63) ≤ k) && decide (k < 2 ^ 63) && decide (l.length * k.toNat ≤ sizeLine) then some (.own (.lst (List.replicate k.toNat l).flatten)) else none
  | _, _ => none
/-- x in (a, b, ..), x in [..]: data of any depth -/
def fIn (a b : D) : Option Bool := match b with
  | .lst l => if SeqAt.shaped (toPy a) && SeqAt.shaped (toPy b) then some ((toPys l).any fun z => PyData.eqv z (toPy a)) else none
  | _ => none
def fNotIn (a b : D) : Option Bool := (fIn a b).map (!·)
def D.flat : D → Bool
  | .non => true
  | .bl _ => true
  | .int _ => true
  | .str _ => true
  | _ => false
/-- the same where all are flat -/
def fInF (a b : D) : Option Bool := match b with
  | .lst l => if a.flat && l.all D.flat then some (l.any fun z => PyData.eqv (toPy z) (toPy a)) else none
  | .tup l => if a.flat && l.all D.flat then some (l.any fun z => PyData.eqv (toPy z) (toPy a)) else none
  | _ => none
def fNotInF (a b : D) : Option Bool := (fInF a b).map (!·)
def fPlus (a b : D) : Option S := match a, b with
  | .int i, .int j => some (.frz (.int (i + j)))
  | .str i, .str j => if i.length + j.length ≤ sizeLine then some (.frz (.str (i ++ j))) else none
  | .lst l, .lst m => if l.length + m.length ≤ sizeLine then some (.own (.lst (l ++ m))) else none
  | .tup l, .tup m => if l.length + m.length ≤ sizeLine then some (.frz (.tup (l ++ m))) else none
  | _, _ => none
def fTimes (a b : D) : Option S := match a, b with
  | .int i, .int j => if mulOk i j then some (.frz (.int (i * j))) else none
  | .lst l, .int k => if decide (-(2 ^ 63) ≤ k) && decide (k < 2 ^ 63) && decide (l.length * k.toNat ≤ sizeLine) then some (.own (.lst (List.replicate k.toNat l).flatten)) else none
  | _, _ => none
/-- a slice -/
def cutD (xs : List D) (lo hi : Option Int) : List D := (xs.drop (HT.sIx xs.length 0 lo)).take (HT.sIx xs.length xs.length hi - HT.sIx xs.length 0 lo)
def fSl (lo hi : Option Int) (a : D) : Option S := match a with
  | .lst l => some (.own (.lst (cutD l lo hi)))
  | .tup l => some (.frz (.tup (cutD l lo hi)))
  | _ => none
inductive Sp1 where
  | none | some (o : Opd)
def evS : Sp1 → Zs → O (Option Int) Zs
  | .none, z => .ok Option.none z
  | .some o, z => (evO o z).bind fun x z1 => match z1.res x with
    | Option.some (.int i) => .ok (Option.some i) z1
    | _ => .stk
def eSl (a : Opd) (lo hi : Sp1) : E := fun z => (evO a z).bind fun x z1 => (evS lo z1).bind fun l z2 => (evS hi z2).bind fun h z3 => match z3.res x with
  | some c => fin (fSl l h c) z3
  | none => .stk
/-- what a value is -/
def D.ty : D → Option String
  | .non => some "NoneType"
  | .bl _ => some "bool"
  | .int _ => some "int"
  | .str _ => some "str"
  | .tup _ => some "tuple"
  | .lst _ => some "list"
  | .st => none
  | .scr _ => none
  | .ex _ _ _ => none
def isTy (t c : String) : Bool := t == c || (t == "bool" && c == "int")
def fIsi (c : String) (a : D) : Option S := (a.ty).map fun t => .frz (.bl (isTy t c))
def fMax2 (a b : D) : Option S := match a, b with
  | .int i, .int j => some (.frz (.int (if j > i then j else i)))
  | _, _ => none
def fMin2 (a b : D) : Option S := match a, b with
  | .int i, .int j => some (.frz (.int (if j < i then j else i)))
  | _, _ => none
def maxI : List Int → Int
  | [] => 0
  | [a] => a
  | a :: r => if maxI r > a then maxI r else a
def minI : List Int → Int
  | [] => 0
  | [a] => a
  | a :: r => if minI r < a then minI r else a
def fMax (a : D) : Option S := match a with
  | .lst l => (match intsD l with
    | some (n :: r) => some (.frz (.int (maxI (n :: r))))
    | _ => none)
  | _ => none
def fMin (a : D) : Option S := match a with
  | .lst l => (match intsD l with
    | some (n :: r) => some (.frz (.int (minI (n :: r))))
    | _ => none)
  | _ => none
/-- an exception made, its field read, isinstance by its class -/
def eMk (c : Str) (ns : List Str) (ms : List E) : E := fun z => (args ms z).bind fun ds z1 => if ds.length ≤ 900 then .ok (.frz (.ex c ns ds)) z1 else .stk
def fAttr (cs : List Str) (n : Str) (a : D) : Option S := match a with
  | .ex c ns ds => if cs.contains c then ((ns.zip ds).reverse.lookup n).map S.frz else none
  | _ => none
def fIsX (t : List (Str × Bool)) (a : D) : Option S := match a with
  | .ex c _ _ => (t.lookup c).map fun b => .frz (.bl b)
  | _ => none
/-! ### the law's own state -/
/-- _law_take: what it gives, the place and the cells behind it -/
def takeF (i : Int) (cs : List Int) (m : Int) : Int × Int × List Int :=
  if m < 2 then (0, i, cs)
  else
    let at_ := i % (cs.length : Int)
    let cell := cs.getD at_.toNat 0
    if 1000000000000000000 ≤ cell then (cell % m, i, cs.set at_.toNat (cell / m))
    else
      let m1 := (cell * 48271 + (i + 1) * 69621) % 2147483647
      let m2 := (m1 * 16807 + (i + 1) * 7919) % 1000000007
      ((m2 / 7) % m, i + 1, cs)
def qTake : Fn := fun ds g => match ds, g.st with
  | [.st, .int m], some (i, cs) => if cs.isEmpty || decide (1073741824 ≤ m) then .stk else .ok (.frz (.int (takeF i cs m).1)) ⟨some (takeF i cs m).2⟩
  | _, _ => .stk
def cells0 (ns : List Int) : List Int := if ns.isEmpty then [0] else ns.map fun n => if n < 0 then -n else n
def qState : Fn := fun ds g => match ds, g.st with
  | [.scr ns], none => if ns.length ≤ 63 then .ok (.frz .st) ⟨some (0, cells0 ns)⟩ else .stk
  | _, _ => .stk
end Zn

set_option maxHeartbeats 4000000
/-! ZCore: how data stands in the layer's heap; what a rule is. -/
namespace Zn
open PySem L2
end Zn
namespace Zn
open PySem L2 Evl

/-- Hs: what stays as it is from here on; Fr: what others hold; st: where the law's state stands -/
structure Aux where
  Hs : Hp
  Fr : Hp
  st : Option (Addr × Addr)
structure Aux.le (x y : Aux) : Prop where
  hs : Ex x.Hs y.Hs
  fr : y.Fr = x.Fr
  st : x.st = none ∨ y.st = x.st
theorem Aux.le.refl (x : Aux) : x.le x := ⟨Ex.refl _, rfl, .inr rfl⟩
theorem Aux.le.trans {x y w : Aux} (a : x.le y) (b : y.le w) : x.le w := ⟨a.hs.trans b.hs, b.fr.trans a.fr, by
  rcases a.st with h | h
  · exact .inl h
  · rcases b.st with q | q
    · exact .inl (h ▸ q)
    · exact .inr (q.trans h)⟩

mutual
def Rep (K : PySem.W.Frag) (x : Aux) : D → V → Prop
  | .non, v => v = .non
  | .bl b, v => v = .bl b
  | .int i, v => v = .int i
  | .str s, v => v = .str s
  | .tup l, v => ∃ a vs, v = .ref a ∧ SqT K x.Hs a vs ∧ Reps K x l vs
  | .lst l, v => ∃ a vs, v = .ref a ∧ x.Hs a = some (.lst vs) ∧ Reps K x l vs
  | .scr ns, v => ∃ a, v = .ref a ∧ SqL K x.Hs a (ns.map V.int)
  | .st, v => ∃ a c, x.st = some (a, c) ∧ v = .ref a
  | .ex c ns l, v => ∃ a d vs, v = .ref a ∧ x.Hs a = some (exo a (He.ga K c) (some d)) ∧ x.Hs d = some (exd d (ns.zip vs).reverse) ∧ Reps K x l vs
def Reps (K : PySem.W.Frag) (x : Aux) : List D → List V → Prop
  | [], vs => vs = []
  | d :: ds, vs => ∃ v r, vs = v :: r ∧ Rep K x d v ∧ Reps K x ds r
end
section
variable {K : PySem.W.Frag} {x y : Aux} {H H' : Hp} {v : V} {d : D}
structure Aux.le0 (x y : Aux) : Prop where
  hs : Ex x.Hs y.Hs
  st : x.st = none ∨ y.st = x.st
theorem Aux.le.to0 (h : x.le y) : x.le0 y := ⟨h.hs, h.st⟩
mutual
theorem Rep.mono0 (h : x.le0 y) : ∀ {d : D} {v : V}, Rep K x d v → Rep K y d v
  | .non, _, e => e
  | .bl _, _, e => e
  | .int _, _, e => e
  | .str _, _, e => e
  | .tup _, _, ⟨a, vs, e, q, r⟩ => ⟨a, vs, e, ex_t h.hs q, Reps.mono0 h r⟩
  | .lst _, _, ⟨a, vs, e, q, r⟩ => ⟨a, vs, e, h.hs _ _ q, Reps.mono0 h r⟩
  | .scr _, _, ⟨a, e, q⟩ => ⟨a, e, ex_l h.hs q⟩
  | .ex _ _ _, _, ⟨a, d, vs, e, q, t, r⟩ => ⟨a, d, vs, e, h.hs _ _ q, h.hs _ _ t, Reps.mono0 h r⟩
  | .st, _, ⟨a, c, e, q⟩ => ⟨a, c, by
    rcases h.st with s | s
    · rw [s] at e; cases e
    · rw [s]; exact e, q⟩
theorem Reps.mono0 (h : x.le0 y) : ∀ {ds : List D} {vs : List V}, Reps K x ds vs → Reps K y ds vs
  | [], _, e => e
  | _ :: _, _, ⟨v, r, e, q, t⟩ => ⟨v, r, e, Rep.mono0 h q, Reps.mono0 h t⟩
end
theorem Rep.mono (h : x.le y) {d : D} {v : V} (r : Rep K x d v) : Rep K y d v := Rep.mono0 h.to0 r
theorem Reps.mono (h : x.le y) {ds : List D} {vs : List V} (r : Reps K x ds vs) : Reps K y ds vs := Reps.mono0 h.to0 r
theorem Reps.length : ∀ {ds : List D} {vs : List V}, Reps K x ds vs → vs.length = ds.length
  | [], _, e => by cases e; rfl
  | _ :: _, _, ⟨v, r, e, q, t⟩ => by cases e; exact congrArg Nat.succ (Reps.length t)
theorem Reps.get : ∀ {ds : List D} {vs : List V} {i : Nat} {d : D}, Reps K x ds vs → ds[i]? = some d → ∃ v, vs[i]? = some v ∧ Rep K x d v
  | [], _, _, _, _, h => by simp at h
  | _ :: _, _, 0, _, ⟨v, r, e, q, t⟩, h => by cases e; simp at h; cases h; exact ⟨v, rfl, q⟩
  | _ :: _, _, i + 1, _, ⟨v, r, e, q, t⟩, h => by cases e; simpa using Reps.get (i := i) t (by simpa using h)
theorem Reps.getV : ∀ {ds : List D} {vs : List V} {i : Nat} {v : V}, Reps K x ds vs → vs[i]? = some v → ∃ d, ds[i]? = some d ∧ Rep K x d v
  | [], _, _, _, e, h => by cases e; simp at h
  | _ :: _, _, 0, _, ⟨v, r, e, q, t⟩, h => by cases e; simp at h; cases h; exact ⟨_, rfl, q⟩
  | _ :: _, _, i + 1, _, ⟨v, r, e, q, t⟩, h => by cases e; simpa using Reps.getV (i := i) t (by simpa using h)
theorem Reps.app : ∀ {ds es : List D} {vs us : List V}, Reps K x ds vs → Reps K x es us → Reps K x (ds ++ es) (vs ++ us)
  | [], _, _, _, e, h => by cases e; exact h
  | _ :: _, _, _, _, ⟨v, r, e, q, t⟩, h => by cases e; exact ⟨v, _, rfl, q, Reps.app t h⟩
theorem Reps.one (h : Rep K x d v) : Reps K x [d] [v] := ⟨v, [], rfl, h, rfl⟩
theorem Reps.set : ∀ {ds : List D} {vs : List V} {i : Nat} {d : D} {v : V}, Reps K x ds vs → Rep K x d v → Reps K x (ds.set i d) (vs.set i v)
  | [], _, _, _, _, e, _ => by cases e; rfl
  | _ :: _, _, 0, _, _, ⟨v, r, e, q, t⟩, h => by cases e; exact ⟨_, _, rfl, h, t⟩
  | _ :: _, _, i + 1, _, _, ⟨v, r, e, q, t⟩, h => by cases e; exact ⟨_, _, rfl, q, Reps.set t h⟩
theorem Reps.take : ∀ {ds : List D} {vs : List V} (n : Nat), Reps K x ds vs → Reps K x (ds.take n) (vs.take n)
  | _, _, 0, _ => rfl
  | [], _, _ + 1, e => by cases e; rfl
  | _ :: _, _, n + 1, ⟨v, r, e, q, t⟩ => by cases e; exact ⟨_, _, rfl, q, Reps.take n t⟩
theorem Reps.drop : ∀ {ds : List D} {vs : List V} (n : Nat), Reps K x ds vs → Reps K x (ds.drop n) (vs.drop n)
  | _, _, 0, h => h
  | [], _, _ + 1, e => by cases e; rfl
  | _ :: _, _, n + 1, ⟨v, r, e, q, t⟩ => by cases e; exact Reps.drop n t
theorem Reps.rev : ∀ {ds : List D} {vs : List V}, Reps K x ds vs → Reps K x ds.reverse vs.reverse
  | [], _, e => by cases e; rfl
  | _ :: _, _, ⟨v, r, e, q, t⟩ => by
    cases e
    rw [List.reverse_cons, List.reverse_cons]
    exact Reps.app (Reps.rev t) (Reps.one q)
theorem Reps.intsV : ∀ {ds : List D} {vs : List V} {ns : List Int}, Reps K x ds vs → intsD ds = some ns → vs = ns.map V.int
  | [], _, _, e, h => by cases e; cases h; rfl
  | d :: ds, _, ns, ⟨v, r, e, q, t⟩, h => by
    cases e
    cases d with
    | int i =>
      unfold intsD at h
      cases hm : intsD ds with
      | none => rw [hm] at h; cases h
      | some ms =>
        rw [hm] at h; cases h
        rw [Reps.intsV t hm]
        have e : v = .int i := q
        rw [e]; rfl
    | _ => cases h
theorem Reps.boolsV : ∀ {ds : List D} {vs : List V} {ns : List Bool}, Reps K x ds vs → boolsD ds = some ns → vs = ns.map V.bl
  | [], _, _, e, h => by cases e; cases h; rfl
  | d :: ds, _, ns, ⟨v, r, e, q, t⟩, h => by
    cases e
    cases d with
    | bl i =>
      unfold boolsD at h
      cases hm : boolsD ds with
      | none => rw [hm] at h; cases h
      | some ms =>
        rw [hm] at h; cases h
        rw [Reps.boolsV t hm]
        have e : v = .bl i := q
        rw [e]; rfl
    | _ => cases h
theorem Reps.ofInts : ∀ {ns : List Int}, Reps K x (ns.map D.int) (ns.map V.int)
  | [] => rfl
  | n :: ns => ⟨_, _, rfl, rfl, Reps.ofInts⟩
end

/-- the content of an object that may be changed -/
def HRep (K : PySem.W.Frag) (x : Aux) : HO → D → Prop
  | .lst vs, .lst l => Reps K x l vs
  | _, _ => False
/-- the content of a new object -/
def NRep (K : PySem.W.Frag) (x : Aux) : HO → D → Prop
  | .lst vs, .lst l => Reps K x l vs
  | .tup vs, .tup l => Reps K x l vs
  | _, _ => False
def Free (x : Aux) (p : Addr) : Prop := x.Hs p = none ∧ x.Fr p = none ∧ ∀ a c, x.st = some (a, c) → p ≠ a ∧ p ≠ c
def SRep (K : PySem.W.Frag) (x : Aux) (H : Hp) (v : V) : S → Prop
  | .frz d => Rep K x d v
  | .own d => ∃ p ho, v = .ref p ∧ H p = some ho ∧ HRep K x ho d ∧ Free x p
def StR (x : Aux) (H : Hp) : Option (Int × List Int) → Prop
  | none => x.st = none
  | some (i, cs) => ∃ a c, x.st = some (a, c) ∧ a ≠ c ∧ H a = some (.lst [.int i, .ref c]) ∧ H c = some (.lst (cs.map V.int)) ∧ x.Hs a = none ∧ x.Hs c = none ∧ x.Fr a = none ∧ x.Fr c = none
structure R0 (x : Aux) (H : Hp) (g : G) : Prop where
  hs : Ex x.Hs H
  fr : Ex x.Fr H
  dj : ∀ a o, x.Hs a = some o → x.Fr a = none
  st : StR x H g.st
structure R (K : PySem.W.Frag) (x : Aux) (σ : L2.St) (H : Hp) (z : Zs) : Prop where
  r0 : R0 x H z.g
  len : z.r.length = σ.length
  sl : ∀ (i : Nat) s, z.r[i]? = some (some s) → ∃ v, σ[i]? = some (some v) ∧ SRep K x H v s
  ap : ∀ (i j : Nat) d d', i ≠ j → z.r[i]? = some (some (.own d)) → z.r[j]? = some (some (.own d')) → σ[i]? ≠ σ[j]?
/-- a value of one's own is none that a slot owns -/
def Apart (σ : L2.St) (z : Zs) (v : V) : S → Prop
  | .frz _ => True
  | .own _ => ∀ (j : Nat) d, z.r[j]? = some (some (.own d)) → σ[j]? ≠ some (some v)

def Aux.add (x : Aux) (p : Addr) (o : HO) : Aux := { x with Hs := upd x.Hs p o }
theorem Aux.le_add {x : Aux} {p : Addr} {o : HO} (h : x.Hs p = none) : x.le (x.add p o) := ⟨Ex.new h, rfl, .inr rfl⟩

section
variable {K : PySem.W.Frag} {x : Aux} {σ : L2.St} {H H' : Hp} {z : Zs} {v : V} {d : D} {s : S} {p : Addr} {o : HO}
theorem HRep.mono {y : Aux} (h : x.le y) (q : HRep K x o d) : HRep K y o d := by
  cases o <;> cases d <;> first | exact Reps.mono h q | exact q
theorem SRep.ex (h : Ex H H') (q : SRep K x H v s) : SRep K x H' v s := by
  cases s with
  | frz d => exact q
  | own d => obtain ⟨p, ho, e, hp, q, f⟩ := q; exact ⟨p, ho, e, h p _ hp, q, f⟩
theorem StR.ex {g : Option (Int × List Int)} (h : Ex H H') (q : StR x H g) : StR x H' g := by
  cases g with
  | none => exact q
  | some w =>
    obtain ⟨a, c, e, n, h1, h2, q⟩ := q
    exact ⟨a, c, e, n, h _ _ h1, h _ _ h2, q⟩
theorem R0.ex {g : G} (h : Ex H H') (r : R0 x H g) : R0 x H' g := ⟨r.hs.trans h, r.fr.trans h, r.dj, r.st.ex h⟩
theorem R.ex (h : Ex H H') (r : R K x σ H z) : R K x σ H' z :=
  ⟨r.r0.ex h, r.len, fun i s e => by obtain ⟨v, a, b⟩ := r.sl i s e; exact ⟨v, a, b.ex h⟩, r.ap⟩
/-- an object of our own stays as it is from here on -/
theorem R0.add {g : G} (r : R0 x H g) (hp : H p = some o) (f : Free x p) : R0 (x.add p o) H g := by
  refine ⟨fun a u e => ?_, r.fr, fun a u e => ?_, ?_⟩
  · by_cases h : a = p
    · subst h; unfold Aux.add at e; simp only [upd_same] at e; rw [hp]; exact e
    · unfold Aux.add at e; simp only [upd_ne h] at e; exact r.hs a u e
  · by_cases h : a = p
    · subst h; exact f.2.1
    · unfold Aux.add at e; simp only [upd_ne h] at e; exact r.dj a u e
  · have q := r.st
    have f3 := f.2.2
    cases hg : g.st with
    | none => rw [hg] at q; exact q
    | some w =>
      rw [hg] at q
      obtain ⟨a, c, e, n, h1, h2, h3, h4, h5⟩ := q
      obtain ⟨n1, n2⟩ := f3 a c e
      exact ⟨a, c, e, n, h1, h2, (upd_ne (Ne.symm n1)).trans h3, (upd_ne (Ne.symm n2)).trans h4, h5⟩
theorem Free.add {q : Addr} (f : Free x q) (h : q ≠ p) : Free (x.add p o) q := ⟨(upd_ne h).trans f.1, f.2.1, f.2.2⟩
theorem R.add (r : R K x σ H z) (hp : H p = some o) (f : Free x p) (n : ∀ (j : Nat) d, z.r[j]? = some (some (.own d)) → σ[j]? ≠ some (some (.ref p))) : R K (x.add p o) σ H z := by
  refine ⟨r.r0.add hp f, r.len, fun i s e => ?_, r.ap⟩
  obtain ⟨v, a, b⟩ := r.sl i s e
  refine ⟨v, a, ?_⟩
  cases s with
  | frz d => exact Rep.mono (Aux.le_add f.1) b
  | own d =>
    obtain ⟨q, ho, ev, hq, hr, fq⟩ := b
    refine ⟨q, ho, ev, hq, hr.mono (Aux.le_add f.1), fq.add fun z => ?_⟩
    subst z; subst ev
    exact n i d e a
/-- a new object -/
theorem Free.new (r : R0 x H z.g) (hn : H p = none) : Free x p := by
  refine ⟨Evl.fresh_back r.hs hn, Evl.fresh_back r.fr hn, fun a c e => ?_⟩
  have q := r.st
  cases hg : z.g.st with
  | none => rw [hg] at q; exact absurd (q.symm.trans e) (by simp)
  | some w =>
    rw [hg] at q
    obtain ⟨a', c', e', n, h1, h2, _⟩ := q
    rw [e] at e'
    cases e'
    exact ⟨ne_of_none h1 hn |>.symm, ne_of_none h2 hn |>.symm⟩
theorem R.noslot (r : R K x σ H z) (hn : H p = none) : ∀ (j : Nat) d, z.r[j]? = some (some (.own d)) → σ[j]? ≠ some (some (.ref p)) := fun j d e y => by
  obtain ⟨v, a, q, ho, ev, hq, _⟩ := r.sl j _ e
  rw [a] at y
  cases y; cases ev
  rw [hn] at hq; cases hq
theorem NRep.rep (q : NRep K x o d) (hn : x.Hs p = none) : Rep K (x.add p o) d (.ref p) := by
  cases o <;> cases d <;> first | exact q.elim | skip
  · exact ⟨p, _, rfl, upd_same, Reps.mono (Aux.le_add hn) q⟩
  · exact ⟨p, _, rfl, .inl (.inl upd_same), Reps.mono (Aux.le_add hn) q⟩
/-- a new object, kept as data -/
theorem R.newF (r : R K x σ H z) (hn : H p = none) (q : NRep K x o d) : R K (x.add p o) σ (upd H p o) z ∧ Rep K (x.add p o) d (.ref p) ∧ x.le (x.add p o) := by
  have f : Free x p := Free.new (z := z) r.r0 hn
  refine ⟨(r.ex (Ex.new hn)).add upd_same f (r.noslot hn), q.rep f.1, Aux.le_add f.1⟩
/-- .. kept as one's own -/
theorem R.newO (r : R K x σ H z) (hn : H p = none) (q : HRep K x o d) : R K x σ (upd H p o) z ∧ SRep K x (upd H p o) (.ref p) (.own d) ∧ Apart σ z (.ref p) (.own d) :=
  ⟨r.ex (Ex.new hn), ⟨p, o, rfl, upd_same, q, Free.new (z := z) r.r0 hn⟩, r.noslot hn⟩
theorem NRep.h (q : NRep K x o (.lst l)) : HRep K x o (.lst l) := by
  cases o <;> first | exact q | exact q.elim
/-! ### what others hold -/
def Aux.fr' (x : Aux) (F : Hp) : Aux := { x with Fr := F }
theorem Aux.fr0 (x : Aux) (F : Hp) : x.le0 (x.fr' F) := ⟨Ex.refl _, .inr rfl⟩
theorem HRep.mono0 {y : Aux} (h : x.le0 y) (q : HRep K x o d) : HRep K y o d := by
  cases o <;> cases d <;> first | exact Reps.mono0 h q | exact q
theorem ex_none {A B : Hp} (h : Ex A B) {a : Addr} (n : B a = none) : A a = none := Evl.fresh_back h n
/-- fewer others -/
theorem R0.less {g : G} {F : Hp} (r : R0 x H g) (h : Ex F x.Fr) : R0 (x.fr' F) H g := by
  refine ⟨r.hs, h.trans r.fr, fun a o e => ex_none h (r.dj a o e), ?_⟩
  have q := r.st
  cases hg : g.st with
  | none => rw [hg] at q; exact q
  | some w =>
    rw [hg] at q
    obtain ⟨a, c, e, n, h1, h2, h3, h4, h5, h6⟩ := q
    exact ⟨a, c, e, n, h1, h2, h3, h4, ex_none h h5, ex_none h h6⟩
theorem Free.less {F : Hp} {q : Addr} (f : Free x q) (h : Ex F x.Fr) : Free (x.fr' F) q := ⟨f.1, ex_none h f.2.1, f.2.2⟩
theorem SRep.less {F : Hp} (q : SRep K x H v s) (h : Ex F x.Fr) : SRep K (x.fr' F) H v s := by
  cases s with
  | frz d => exact Rep.mono0 (x.fr0 F) q
  | own d => obtain ⟨p, ho, e, hp, hr, f⟩ := q; exact ⟨p, ho, e, hp, hr.mono0 (x.fr0 F), f.less h⟩
theorem R.less {F : Hp} (r : R K x σ H z) (h : Ex F x.Fr) : R K (x.fr' F) σ H z :=
  ⟨r.r0.less h, r.len, fun i s e => by obtain ⟨v, a, b⟩ := r.sl i s e; exact ⟨v, a, b.less h⟩, r.ap⟩
/-- one more: a pending object -/
theorem R0.more {g : G} (r : R0 x H g) (hp : H p = some o) (f : Free x p) : R0 (x.fr' (upd x.Fr p o)) H g := by
  refine ⟨r.hs, fun a u e => ?_, fun a u e => ?_, ?_⟩
  · by_cases h : a = p
    · subst h; unfold Aux.fr' at e; simp only [upd_same] at e; rw [hp]; exact e
    · unfold Aux.fr' at e; simp only [upd_ne h] at e; exact r.fr a u e
  · have : a ≠ p := fun h => by subst h; have e' : x.Hs a = some u := e; rw [f.1] at e'; cases e'
    exact (upd_ne this).trans (r.dj a u e)
  · have q := r.st
    cases hg : g.st with
    | none => rw [hg] at q; exact q
    | some w =>
      rw [hg] at q
      obtain ⟨a, c, e, n, h1, h2, h3, h4, h5, h6⟩ := q
      obtain ⟨n1, n2⟩ := f.2.2 a c e
      exact ⟨a, c, e, n, h1, h2, h3, h4, (upd_ne (Ne.symm n1)).trans h5, (upd_ne (Ne.symm n2)).trans h6⟩
theorem R.more (r : R K x σ H z) (hp : H p = some o) (f : Free x p) (n : ∀ (j : Nat) d, z.r[j]? = some (some (.own d)) → σ[j]? ≠ some (some (.ref p))) : R K (x.fr' (upd x.Fr p o)) σ H z := by
  refine ⟨r.r0.more hp f, r.len, fun i s e => ?_, r.ap⟩
  obtain ⟨v, a, b⟩ := r.sl i s e
  refine ⟨v, a, ?_⟩
  cases s with
  | frz d => exact Rep.mono0 (x.fr0 _) b
  | own d =>
    obtain ⟨q, ho, ev, hq, hr, fq⟩ := b
    refine ⟨q, ho, ev, hq, hr.mono0 (x.fr0 _), fq.1, (upd_ne fun y => ?_).trans fq.2.1, fq.2.2⟩
    subst y; subst ev
    exact n i d e a
theorem Aux.fr_fr (x : Aux) (F G : Hp) : (x.fr' F).fr' G = x.fr' G := rfl
/-- back from the frame F to x's own -/
theorem Aux.le.back {x y : Aux} {F : Hp} (h : (x.fr' F).le y) : x.le (y.fr' x.Fr) := ⟨h.hs, rfl, h.st⟩
theorem StR.notFr {p : Addr} {o : HO} (r : R0 x H z.g) (e : x.Fr p = some o) : ∀ a c, x.st = some (a, c) → p ≠ a ∧ p ≠ c := fun a c es => by
  have q := r.st
  cases hg : z.g.st with
  | none => rw [hg] at q; exact absurd (q.symm.trans es) (by simp)
  | some w =>
    rw [hg] at q
    obtain ⟨a', c', e', n, h1, h2, h3, h4, h5, h6⟩ := q
    rw [es] at e'; cases e'
    refine ⟨fun y => ?_, fun y => ?_⟩
    · rw [y, h5] at e; cases e
    · rw [y, h6] at e; cases e
/-- what was pending is as it was -/
theorem R0.pend {F : Hp} {g : G} (r : R0 x H g) (e : x.Fr p = some o) (n : F p = none) : H p = some o ∧ Free (x.fr' F) p := by
  have h : x.Hs p = none := by
    cases h : x.Hs p with
    | none => rfl
    | some u => have := r.dj p u h; rw [e] at this; cases this
  refine ⟨r.fr p o e, h, n, ?_⟩
  exact fun a c es => StR.notFr (x := x) (z := ⟨[], g⟩) r e a c es
end
end Zn

/-! ZExp: rules of expressions and tests. -/
namespace Zn
open PySem L2 Evl

def ERep (K : PySem.W.Frag) (x : Aux) (H : Hp) (cls : Value) (d : Option Addr) (e : EV) : Prop :=
  cls = .ref (He.ga K e.cls) ∧ ∃ dd fs, d = some dd ∧ H dd = some (.xd fs) ∧ ∀ f y, e.fs.lookup f = some y → ∃ v, fs.lookup f = some v ∧ Rep K x y v
/-- what an outcome asks of what follows -/
def PostX (K : PySem.W.Frag) (x : Aux) (σ : L2.St) (W : WX) (e : EV) (z' : Zs) : Prop :=
  ∀ x' H' cls d, x.le x' → R K x' σ H' z' → ERep K x' H' cls d e → W cls d σ H'
def Post {α : Type} (K : PySem.W.Frag) (x : Aux) (σ : L2.St) (W : WX) (k : Aux → Hp → α → Zs → Prop) : O α Zs → Prop
  | .ok a z' => ∀ x' H', x.le x' → R K x' σ H' z' → k x' H' a z'
  | .exc e z' => PostX K x σ W e z'
  | .stk => False
section
variable {K : PySem.W.Frag} {x y : Aux} {σ : L2.St} {W : WX} {α β : Type} {k k' : Aux → Hp → α → Zs → Prop}
theorem PostX.mono {e : EV} {z : Zs} (l : x.le y) (h : PostX K x σ W e z) : PostX K y σ W e z := fun x' H' c d l' => h x' H' c d (l.trans l')
theorem Post.mono {o : O α Zs} (l : x.le y) (h : Post K x σ W k o) : Post K y σ W k o := by
  cases o with
  | ok a z => exact fun x' H' l' => h x' H' (l.trans l')
  | exc e z => exact PostX.mono l h
  | stk => exact h
theorem Post.imp {o : O α Zs} (h : Post K x σ W k o) (f : ∀ x' H' a z', x.le x' → R K x' σ H' z' → k x' H' a z' → k' x' H' a z') : Post K x σ W k' o := by
  cases o with
  | ok a z => exact fun x' H' l r => f x' H' a z l r (h x' H' l r)
  | exc e z => exact h
  | stk => exact h
/-- from a bind: the first part's end is what the rest asks -/
theorem Post.bind {o : O α Zs} {f : α → Zs → O β Zs} {q : Aux → Hp → β → Zs → Prop} (h : Post K x σ W q (o.bind f)) : Post K x σ W (fun x' H' a z' => Post K x' σ W q (f a z')) o := by
  cases o with
  | ok a z =>
    intro x' H' l r
    exact Post.mono l (show Post K x σ W q (f a z) from h)
  | exc e z => exact h
  | stk => exact h
end
abbrev kE (K : PySem.W.Frag) (σ : L2.St) (Q : VK) : Aux → Hp → S → Zs → Prop := fun x' H' s z' => ∀ v, SRep K x' H' v s → Apart σ z' v s → Q v H'
abbrev kD (K : PySem.W.Frag) (Q : VK) : Aux → Hp → D → Zs → Prop := fun x' H' d _ => ∀ v, Rep K x' d v → Q v H'
abbrev kA (K : PySem.W.Frag) (Q : List V → Hp → Prop) : Aux → Hp → List D → Zs → Prop := fun x' H' ds _ => ∀ vs, Reps K x' ds vs → Q vs H'
abbrev kT (Q : Bool → Hp → Prop) : Aux → Hp → Bool → Zs → Prop := fun _ H' b _ => Q b H'
def OR (K : PySem.W.Frag) (x : Aux) (σ : L2.St) (v : V) : Nat ⊕ D → Prop
  | .inl i => σ[i]? = some (some v)
  | .inr d => Rep K x d v
abbrev kO (K : PySem.W.Frag) (σ : L2.St) (Q : VK) : Aux → Hp → Nat ⊕ D → Zs → Prop := fun x' H' n _ => ∀ v, OR K x' σ v n → Q v H'

def SndE (K : PySem.W.Frag) (W : WX) (t : TE) (m : E) : Prop := ∀ x σ H z, R K x σ H z → ∀ Q, Post K x σ W (kE K σ Q) (m z) → t σ H Q
def SndA (K : PySem.W.Frag) (W : WX) (t : TA) (m : List E) : Prop := ∀ x σ H z, R K x σ H z → ∀ Q, Post K x σ W (kA K Q) (args m z) → t σ H Q
def SndT (K : PySem.W.Frag) (W : WX) (t : TT) (m : T) : Prop := ∀ x σ H z, R K x σ H z → ∀ Q, Post K x σ W (kT Q) (m z) → t σ H Q
def SndO (K : PySem.W.Frag) (W : WX) (t : TE) (m : Opd) : Prop := ∀ x σ H z, R K x σ H z → ∀ Q, Post K x σ W (kO K σ Q) (evO m z) → t σ H Q
/-- what a function over data asks, as a reading -/
def semE (K : PySem.W.Frag) (W : WX) (m : E) : TE := fun σ H Q => ∃ x z, R K x σ H z ∧ Post K x σ W (kE K σ Q) (m z)
def semA (K : PySem.W.Frag) (W : WX) (m : List E) : TA := fun σ H Q => ∃ x z, R K x σ H z ∧ Post K x σ W (kA K Q) (args m z)
def semT (K : PySem.W.Frag) (W : WX) (m : T) : TT := fun σ H Q => ∃ x z, R K x σ H z ∧ Post K x σ W (kT Q) (m z)
def semO (K : PySem.W.Frag) (W : WX) (m : Opd) : TE := fun σ H Q => ∃ x z, R K x σ H z ∧ Post K x σ W (kO K σ Q) (evO m z)
theorem sndE {K : PySem.W.Frag} {W : WX} {m : E} : SndE K W (semE K W m) m := fun x _ _ z r _ h => ⟨x, z, r, h⟩
theorem sndA {K : PySem.W.Frag} {W : WX} {m : List E} : SndA K W (semA K W m) m := fun x _ _ z r _ h => ⟨x, z, r, h⟩
theorem sndT {K : PySem.W.Frag} {W : WX} {m : T} : SndT K W (semT K W m) m := fun x _ _ z r _ h => ⟨x, z, r, h⟩
theorem sndO {K : PySem.W.Frag} {W : WX} {m : Opd} : SndO K W (semO K W m) m := fun x _ _ z r _ h => ⟨x, z, r, h⟩
abbrev PD (X : Cx) (W : WX) (e : Expr) (m : E) : Prop := PE X e (semE X.K W m)
abbrev PDa (X : Cx) (W : WX) (es : List Expr) (m : List E) : Prop := PA X es (semA X.K W m)
abbrev PDt (X : Cx) (W : WX) (e : Expr) (m : T) : Prop := PT X e (semT X.K W m)
abbrev PDw (X : Cx) (W : WX) (e : Expr) (m : T) : Prop := PW X e (semT X.K W m)
abbrev PDo (X : Cx) (W : WX) (e : Expr) (m : Opd) : Prop := PE X e (semO X.K W m)
section
variable {X : Cx} {W : WX}
theorem PD.of {e : Expr} {t : TE} {m : E} (h : PE X e t) (s : SndE X.K W t m) : PD X W e m := ⟨fun pins s0 σ H Q I ⟨x, z, r, p⟩ => h.run pins s0 σ H Q I (s x σ H z r Q p)⟩
theorem PDa.of {e : List Expr} {t : TA} {m : List E} (h : PA X e t) (s : SndA X.K W t m) : PDa X W e m := ⟨fun pos pins s0 σ H Q I ⟨x, z, r, p⟩ => h.run pos pins s0 σ H Q I (s x σ H z r Q p)⟩
theorem PDt.of {e : Expr} {t : TT} {m : T} (h : PT X e t) (s : SndT X.K W t m) : PDt X W e m := ⟨fun pins s0 σ H Q I ⟨x, z, r, p⟩ => h.run pins s0 σ H Q I (s x σ H z r Q p)⟩
theorem PDw.of {e : Expr} {t : TT} {m : T} (h : PW X e t) (s : SndT X.K W t m) : PDw X W e m := ⟨fun w pins s0 σ H Q I ⟨x, z, r, p⟩ => h.run w pins s0 σ H Q I (s x σ H z r Q p)⟩
theorem PDo.of {e : Expr} {t : TE} {m : Opd} (h : PE X e t) (s : SndO X.K W t m) : PDo X W e m := ⟨fun pins s0 σ H Q I ⟨x, z, r, p⟩ => h.run pins s0 σ H Q I (s x σ H z r Q p)⟩
end
section
variable {K : PySem.W.Frag} {x : Aux} {σ : L2.St} {H : Hp} {z : Zs} {v : V} {W : WX}
/-- data where it lies: kept, or one's own -/
def BRep (K : PySem.W.Frag) (x : Aux) (H : Hp) (d : D) (v : V) : Prop := Rep K x d v ∨ ∃ p ho, v = .ref p ∧ H p = some ho ∧ HRep K x ho d
theorem SRep.b {s : S} (h : SRep K x H v s) : BRep K x H s.d v := by
  cases s with
  | frz d => exact .inl h
  | own d => obtain ⟨p, ho, e, hp, q, _⟩ := h; exact .inr ⟨p, ho, e, hp, q⟩
theorem R.at (r : R K x σ H z) {i : Nat} {d : D} (e : z.at i = some d) : ∃ v, σ[i]? = some (some v) ∧ BRep K x H d v := by
  unfold Zs.at at e
  cases h : z.r[i]? with
  | none => rw [h] at e; cases e
  | some o =>
    cases o with
    | none => rw [h] at e; cases e
    | some s =>
      rw [h] at e; cases e
      obtain ⟨v, a, b⟩ := r.sl i s h
      exact ⟨v, a, b.b⟩
theorem OR.mono {y : Aux} (l : x.le y) {n : Nat ⊕ D} (h : OR K x σ v n) : OR K y σ v n := by
  cases n with
  | inl i => exact h
  | inr d => exact Rep.mono l h
theorem OR.res (r : R K x σ H z) {n : Nat ⊕ D} {d : D} (h : OR K x σ v n) (e : z.res n = some d) : BRep K x H d v := by
  cases n with
  | inl i =>
    obtain ⟨u, a, b⟩ := r.at (show z.at i = some d from e)
    have h' : σ[i]? = some (some v) := h
    rw [a] at h'; cases h'
    exact b
  | inr d' => cases e; exact .inl h
/-- freezing what a slot owns -/
theorem R.freeze (r : R K x σ H z) {i : Nat} {d : D} (e : z.r[i]? = some (some (.own d))) : ∃ p ho, σ[i]? = some (some (.ref p)) ∧ x.le (x.add p ho) ∧ R K (x.add p ho) σ H (z.put i (some (.frz d))) ∧ Rep K (x.add p ho) d (.ref p) := by
  obtain ⟨v, a, p, ho, ev, hp, hr, f⟩ := r.sl i _ e
  subst ev
  have l := Aux.le_add (o := ho) f.1
  have rp : Rep K (x.add p ho) d (.ref p) := by
    cases ho <;> cases d <;> first | exact hr.elim | exact ⟨p, _, rfl, upd_same, Reps.mono l hr⟩
  have hlt : i < z.r.length := (List.getElem?_eq_some_iff.mp e).1
  refine ⟨p, ho, a, l, ⟨r.r0.add hp f, by rw [← r.len]; exact List.length_set, fun j s ej => ?_, fun j k d1 d2 n e1 e2 => ?_⟩, rp⟩
  · by_cases h : i = j
    · subst h
      have ej' : (z.r.set i (some (.frz d)))[i]? = some (some s) := ej
      rw [List.getElem?_set_self hlt] at ej'
      cases ej'
      exact ⟨_, a, rp⟩
    · have ej' : (z.r.set i (some (.frz d)))[j]? = some (some s) := ej
      rw [List.getElem?_set_ne h] at ej'
      obtain ⟨u, b, c⟩ := r.sl j s ej'
      refine ⟨u, b, ?_⟩
      cases s with
      | frz d' => exact Rep.mono l c
      | own d' =>
        obtain ⟨q, ho', eu, hq, hr', fq⟩ := c
        refine ⟨q, ho', eu, hq, hr'.mono l, fq.add fun y => ?_⟩
        subst y; subst eu
        exact r.ap i j d d' h e ej' (a.trans b.symm)
  · have key : ∀ (m : Nat) (dm : D), (z.put i (some (S.frz d))).r[m]? = some (some (S.own dm)) → z.r[m]? = some (some (S.own dm)) := fun m dm em => by
      have em' : (z.r.set i (some (S.frz d)))[m]? = some (some (S.own dm)) := em
      by_cases h : i = m
      · subst h; rw [List.getElem?_set_self hlt] at em'; cases em'
      · rwa [List.getElem?_set_ne h] at em'
    exact r.ap j k d1 d2 n (key _ _ e1) (key _ _ e2)
/-- a slot forgotten, or what it owned given away -/
theorem R.drop (r : R K x σ H z) (i : Nat) : R K x σ H (z.put i none) := by
  have key : ∀ m sm, (z.put i none).r[m]? = some (some sm) → m ≠ i ∧ z.r[m]? = some (some sm) := fun m sm em => by
    have em' : (z.r.set i none)[m]? = some (some sm) := em
    by_cases h : i = m
    · subst h
      by_cases hl : i < z.r.length
      · rw [List.getElem?_set_self hl] at em'; cases em'
      · rw [List.getElem?_eq_none (by rw [List.length_set]; omega)] at em'; cases em'
    · rw [List.getElem?_set_ne h] at em'; exact ⟨Ne.symm h, em'⟩
  exact ⟨r.r0, by rw [← r.len]; exact List.length_set, fun m s em => r.sl m s (key m s em).2, fun j k d1 d2 n e1 e2 => r.ap j k d1 d2 n (key _ _ e1).2 (key _ _ e2).2⟩

/-! ### leaves -/
theorem snd_c {d : D} {v : V} (h : ∀ x, Rep K x d v) : SndE K W (tC v) (eC d) := fun x σ H z r Q h1 => h1 x H (.refl _) r v (h x) trivial
theorem snd_v {i : Nat} : SndE K W (tVar i) (eV i) := fun x σ H z r Q h => by
  unfold eV at h
  cases e : z.r[i]? with
  | none => rw [e] at h; exact h.elim
  | some o =>
    cases o with
    | none => rw [e] at h; exact h.elim
    | some s =>
      rw [e] at h
      cases s with
      | frz d =>
        obtain ⟨v, a, b⟩ := r.sl i _ e
        exact ⟨v, a, h x H (.refl _) r v b trivial⟩
      | own d =>
        obtain ⟨p, ho, a, l, r', b⟩ := r.freeze e
        exact ⟨_, a, h _ H l r' _ b trivial⟩
theorem snd_mv {i : Nat} : SndE K W (tVar i) (eMv i) := fun x σ H z r Q h => by
  unfold eMv at h
  cases e : z.r[i]? with
  | none => rw [e] at h; exact h.elim
  | some o =>
    cases o with
    | none => rw [e] at h; exact h.elim
    | some s =>
      rw [e] at h
      obtain ⟨v, a, b⟩ := r.sl i _ e
      cases s with
      | frz d => exact ⟨v, a, h x H (.refl _) r v b trivial⟩
      | own d =>
        refine ⟨v, a, h x H (.refl _) (r.drop i) v b fun j d' ej y => ?_⟩
        have hlt : i < z.r.length := (List.getElem?_eq_some_iff.mp e).1
        have ej' : (z.r.set i none)[j]? = some (some (.own d')) := ej
        by_cases h : i = j
        · subst h; rw [List.getElem?_set_self hlt] at ej'; cases ej'
        · rw [List.getElem?_set_ne h] at ej'
          exact r.ap i j d d' h e ej' (a.trans y.symm)
theorem snd_ov {i : Nat} : SndO K W (tVar i) (.v i) := fun x σ H z r Q h => by
  unfold evO at h
  cases e : z.at i with
  | none => simp only [e] at h; exact h.elim
  | some d =>
    simp only [e] at h
    obtain ⟨v, a, b⟩ := r.at e
    exact ⟨v, a, h x H (.refl _) r v a⟩
/-- an expression's end, as data -/
theorem kE.toD {Q : VK} {x' : Aux} {H' : Hp} {s : S} {z' : Zs} (r : R K x' σ H' z') (v : V) (hs : SRep K x' H' v s) (ha : Apart σ z' v s) :
    ∃ y, x'.le y ∧ R K y σ H' z' ∧ Rep K y s.d v := by
  cases s with
  | frz d => exact ⟨x', .refl _, r, hs⟩
  | own d =>
    obtain ⟨p, ho, ev, hp, hr, f⟩ := hs
    subst ev
    have l := Aux.le_add (o := ho) f.1
    refine ⟨x'.add p ho, l, r.add hp f ha, ?_⟩
    cases ho <;> cases d <;> first | exact hr.elim | exact ⟨p, _, rfl, upd_same, Reps.mono l hr⟩
/-- the same for what follows -/
theorem SndE.toD {t : TE} {m : E} (h : SndE K W t m) (r : R K x σ H z) {Q : VK} (q : Post K x σ W (fun x' H' s _ => ∀ v, Rep K x' s.d v → Q v H') (m z)) : t σ H Q := by
  refine h x σ H z r Q ?_
  cases e : m z with
  | ok s z' =>
    rw [e] at q
    intro x' H' l r' v hs ha
    obtain ⟨y, l2, r2, b⟩ := kE.toD (Q := Q) r' v hs ha
    exact q y H' (l.trans l2) r2 v b
  | exc e' z' => rw [e] at q; exact q
  | stk => rw [e] at q; exact q
theorem snd_oe {t : TE} {m : E} (h : SndE K W t m) : SndO K W t (.e m) := fun x σ H z r Q q => by
  refine h.toD r ?_
  exact (Post.bind q).imp fun x' H' s z' l r' k v b => k x' H' (.refl _) r' v b
/-! ### argument lists -/
theorem snd_nil : SndA K W tNil [] := fun x σ H z r Q h => h x H (.refl _) r [] rfl
theorem snd_cons {te : TE} {m : E} {t : TA} {ms : List E} (h : SndE K W te m) (h2 : SndA K W t ms) : SndA K W (tCons te t) (m :: ms) := fun x σ H z r Q q => by
  refine h.toD r ?_
  refine (Post.bind (show Post K x σ W _ ((m z).bind fun s z1 => (args ms z1).bind fun ds z2 => .ok (s.d :: ds) z2) from q)).imp fun x' H' s z' l r' k v b => ?_
  refine h2 x' σ H' z' r' _ ?_
  exact (Post.bind k).imp fun x2 H2 ds z2 l2 r2 k2 vs bs => k2 x2 H2 (.refl _) r2 (v :: vs) ⟨v, vs, rfl, Rep.mono l2 b, bs⟩
theorem snd_tup {t : TA} {ms : List E} (h : SndA K W t ms) : SndE K W (tTup t) (eTup ms) := fun x σ H z r Q q => by
  refine h x σ H z r _ ?_
  refine (Post.bind (f := fun ds z1 => if ds.length ≤ sizeLine then .ok (S.frz (.tup ds)) z1 else .stk) q).imp fun x' H' ds z' l r' k vs b => ?_
  by_cases hl : ds.length ≤ sizeLine
  · rw [if_pos hl] at k
    refine ⟨by rw [b.length]; exact hl, fun p hp => ?_⟩
    obtain ⟨r2, b2, l2⟩ := r'.newF (o := .tup vs) (d := .tup ds) hp b
    exact k _ _ l2 r2 _ b2 trivial
  · rw [if_neg hl] at k; exact k.elim
theorem snd_lst {t : TA} {ms : List E} (h : SndA K W t ms) : SndE K W (tLst t) (eLst ms) := fun x σ H z r Q q => by
  refine h x σ H z r _ ?_
  refine (Post.bind (f := fun ds z1 => if ds.length ≤ sizeLine then .ok (S.own (.lst ds)) z1 else .stk) q).imp fun x' H' ds z' l r' k vs b => ?_
  by_cases hl : ds.length ≤ sizeLine
  · rw [if_pos hl] at k
    refine ⟨by rw [b.length]; exact hl, fun p hp => ?_⟩
    obtain ⟨r2, b2, a2⟩ := r'.newO (o := .lst vs) (d := .lst ds) hp b
    exact k _ _ (.refl _) r2 _ b2 a2
  · rw [if_neg hl] at k; exact k.elim

/-! ### operations by values -/
/-- what an operation may end in -/
structure Fi (K : PySem.W.Frag) (x : Aux) (H : Hp) (s : S) (Q : VK) : Prop where
  same : ∀ w d, s = .frz d → Rep K x d w → Q w H
  new : ∀ p ho, H p = none → NRep K x ho s.d → Q (.ref p) (upd H p ho)
theorem Fi.of {Q : VK} {s : S} {z' : Zs} (r : R K x σ H z') (h : ∀ x' H', x.le x' → R K x' σ H' z' → ∀ v, SRep K x' H' v s → Apart σ z' v s → Q v H') (hs : ∀ d, s = .own d → ∃ l, d = .lst l) : Fi K x H s Q := by
  refine ⟨fun w d e b => ?_, fun p ho hn b => ?_⟩
  · subst e; exact h x H (.refl _) r w b trivial
  · cases s with
    | frz d =>
      obtain ⟨r2, b2, l2⟩ := r.newF hn (show NRep K x ho d from b)
      exact h _ _ l2 r2 _ b2 trivial
    | own d =>
      obtain ⟨l, rfl⟩ := hs d rfl
      obtain ⟨r2, b2, a2⟩ := r.newO hn (NRep.h (show NRep K x ho (.lst l) from b))
      exact h _ _ (.refl _) r2 _ b2 a2
def S.okOwn : S → Prop
  | .frz _ => True
  | .own d => ∃ l, d = .lst l
def Op2 (K : PySem.W.Frag) (r : R2) (f : D → D → Option S) : Prop := ∀ x H v u c d s Q, Ex x.Hs H → BRep K x H c v → BRep K x H d u → f c d = some s → Fi K x H s Q → r v u H Q
def Op1 (K : PySem.W.Frag) (r : V → Hp → VK → Prop) (f : D → Option S) : Prop := ∀ x H v c s Q, Ex x.Hs H → BRep K x H c v → f c = some s → Fi K x H s Q → r v H Q
/-- what an operation gives as one's own is a list -/
def Own2 (f : D → D → Option S) : Prop := ∀ a b d, f a b = some (.own d) → ∃ l, d = .lst l
def Own1 (f : D → Option S) : Prop := ∀ a d, f a = some (.own d) → ∃ l, d = .lst l
theorem snd_b2 {rr : R2} {f : D → D → Option S} {ta tb : TE} {a b : Opd} (ho : Op2 K rr f) (hw : Own2 f) (ha : SndO K W ta a) (hb : SndO K W tb b) : SndE K W (tOp rr ta tb) (eB2 f a b) := fun x σ H z r Q q => by
  refine ha x σ H z r _ ?_
  refine (Post.bind (f := fun n z1 => (evO b z1).bind fun m z2 => match z2.res n, z2.res m with
    | some c, some d => fin (f c d) z2
    | _, _ => .stk) q).imp fun x1 H1 n z1 l1 r1 k v bv => ?_
  refine hb x1 σ H1 z1 r1 _ ?_
  refine (Post.bind k).imp fun x2 H2 m z2 l2 r2 k u bu => ?_
  have bv2 := OR.mono l2 bv
  cases e1 : z2.res n with
  | none => simp only [e1] at k; exact k.elim
  | some c =>
    cases e2 : z2.res m with
    | none => simp only [e1, e2] at k; exact k.elim
    | some d =>
      simp only [e1, e2] at k
      cases e3 : f c d with
      | none => rw [e3] at k; exact k.elim
      | some s =>
        rw [e3] at k
        exact ho x2 H2 v u c d s Q r2.r0.hs (bv2.res r2 e1) (bu.res r2 e2) e3 (Fi.of r2 (fun x' H' l' r' => k x' H' l' r') fun d' es => hw c d d' (es ▸ e3))
theorem snd_b1 {rr : V → Hp → VK → Prop} {f : D → Option S} {ta : TE} {a : Opd} (ho : Op1 K rr f) (hw : Own1 f) (ha : SndO K W ta a) : SndE K W (tUn rr ta) (eB1 f a) := fun x σ H z r Q q => by
  refine ha x σ H z r _ ?_
  refine (Post.bind (f := fun n z1 => match z1.res n with
    | some c => fin (f c) z1
    | none => .stk) q).imp fun x2 H2 n z2 l1 r2 k v bv => ?_
  cases e1 : z2.res n with
  | none => simp only [e1] at k; exact k.elim
  | some c =>
    simp only [e1] at k
    cases e3 : f c with
    | none => rw [e3] at k; exact k.elim
    | some s =>
      rw [e3] at k
      exact ho x2 H2 v c s Q r2.r0.hs (bv.res r2 e1) e3 (Fi.of r2 (fun x' H' l' r' => k x' H' l' r') fun d' es => hw c d' (es ▸ e3))
/-- the reading of a call of a built-in with one argument -/
theorem snd_c1 {rr : List V → Hp → VK → Prop} {f : D → Option S} {ta : TE} {a : Opd} (ho : Op1 K (fun v => rr [v]) f) (hw : Own1 f) (ha : SndO K W ta a) : SndE K W (tCB rr (tCons ta tNil)) (eB1 f a) := snd_b1 (rr := fun v => rr [v]) ho hw ha
theorem snd_c2 {rr : List V → Hp → VK → Prop} {f : D → D → Option S} {ta tb : TE} {a b : Opd} (ho : Op2 K (fun v u => rr [v, u]) f) (hw : Own2 f) (ha : SndO K W ta a) (hb : SndO K W tb b) : SndE K W (tCB rr (tCons ta (tCons tb tNil))) (eB2 f a b) := snd_b2 (rr := fun v u => rr [v, u]) ho hw ha hb
/-- tests on operands -/
theorem snd_t2 {rr : R2} {f : D → D → Option Bool} {ta tb : TE} {a b : Opd} (ho : Op2 K rr (vB f)) (ha : SndO K W ta a) (hb : SndO K W tb b) : SndT K W (tTest (tOp rr ta tb)) (tB2 f a b) := fun x σ H z r Q q => by
  refine ha x σ H z r _ ?_
  refine (Post.bind (f := fun n z1 => (evO b z1).bind fun m z2 => match z2.res n, z2.res m with
    | some c, some d => finB (f c d) z2
    | _, _ => .stk) q).imp fun x1 H1 n z1 l1 r1 k v bv => ?_
  refine hb x1 σ H1 z1 r1 _ ?_
  refine (Post.bind k).imp fun x2 H2 m z2 l2 r2 k u bu => ?_
  have bv2 := OR.mono l2 bv
  cases e1 : z2.res n with
  | none => simp only [e1] at k; exact k.elim
  | some c =>
    cases e2 : z2.res m with
    | none => simp only [e1, e2] at k; exact k.elim
    | some d =>
      simp only [e1, e2] at k
      cases e3 : f c d with
      | none => rw [e3] at k; exact k.elim
      | some s =>
        rw [e3] at k
        refine ho x2 H2 v u c d (.frz (.bl s)) _ r2.r0.hs (bv2.res r2 e1) (bu.res r2 e2) (by unfold vB; rw [e3]; rfl) ⟨fun w d' es b => ?_, fun p o hn b => ?_⟩
        · cases es; exact ⟨s, b, k x2 H2 (.refl _) r2⟩
        · cases o <;> exact b.elim
theorem snd_e2 {rr : R2} {f : D → D → Option Bool} {ta tb : TE} {a b : Opd} (ho : Op2 K rr (vB f)) (ha : SndO K W ta a) (hb : SndO K W tb b) : SndE K W (tOp rr ta tb) (eB2 (vB f) a b) :=
  snd_b2 ho (fun a b d h => by unfold vB at h; cases e : f a b <;> rw [e] at h <;> cases h) ha hb
theorem snd_and {t u : TT} {a b : T} (ha : SndT K W t a) (hb : SndT K W u b) : SndT K W (L2.tAnd t u) (tAnd a b) := fun x σ H z r Q q => by
  refine ha x σ H z r _ ?_
  refine (Post.bind (f := fun c z1 => if c then b z1 else .ok false z1) q).imp fun x1 H1 c z1 l1 r1 k => ?_
  cases c with
  | true => exact hb x1 σ H1 z1 r1 Q k
  | false => exact k x1 H1 (.refl _) r1
theorem snd_or {t u : TT} {a b : T} (ha : SndT K W t a) (hb : SndT K W u b) : SndT K W (L2.tOr t u) (tOr a b) := fun x σ H z r Q q => by
  refine ha x σ H z r _ ?_
  refine (Post.bind (f := fun c z1 => if c then .ok true z1 else b z1) q).imp fun x1 H1 c z1 l1 r1 k => ?_
  cases c with
  | true => exact k x1 H1 (.refl _) r1
  | false => exact hb x1 σ H1 z1 r1 Q k
theorem snd_not {t : TT} {a : T} (ha : SndT K W t a) : SndT K W (L2.tNot t) (tNot a) := fun x σ H z r Q q => by
  refine ha x σ H z r _ ?_
  exact (Post.bind (f := fun c z1 => .ok (!c) z1) q).imp fun x1 H1 c z1 l1 r1 k => k x1 H1 (.refl _) r1
theorem snd_if {t : TT} {ta tb : TE} {c : T} {a b : E} (hc : SndT K W t c) (ha : SndE K W ta a) (hb : SndE K W tb b) : SndE K W (L2.tIf t ta tb) (eIf c a b) := fun x σ H z r Q q => by
  refine hc x σ H z r _ ?_
  refine (Post.bind (f := fun k z1 => if k then a z1 else b z1) q).imp fun x1 H1 k z1 l1 r1 kk => ?_
  cases k with
  | true => exact ha x1 σ H1 z1 r1 Q kk
  | false => exact hb x1 σ H1 z1 r1 Q kk
end
end Zn

/-! ZOps: the operations by values keep to their functions. -/
namespace Zn
open PySem L2 Evl
section
variable {K : PySem.W.Frag} {x : Aux} {H : Hp} {v : V} {d : D}
theorem BRep.int {i : Int} (h : BRep K x H (.int i) v) : v = .int i := by
  rcases h with h | ⟨p, ho, _, _, q⟩
  · exact h
  · cases ho <;> exact q.elim
theorem BRep.bl {i : Bool} (h : BRep K x H (.bl i) v) : v = .bl i := by
  rcases h with h | ⟨p, ho, _, _, q⟩
  · exact h
  · cases ho <;> exact q.elim
theorem BRep.non (h : BRep K x H .non v) : v = .non := by
  rcases h with h | ⟨p, ho, _, _, q⟩
  · exact h
  · cases ho <;> exact q.elim
theorem BRep.str {s : Str} (h : BRep K x H (.str s) v) : v = .str s := by
  rcases h with h | ⟨p, ho, _, _, q⟩
  · exact h
  · cases ho <;> exact q.elim
theorem BRep.tup {l : List D} (hs : Ex x.Hs H) (h : BRep K x H (.tup l) v) : ∃ a vs, v = .ref a ∧ SqT K H a vs ∧ Reps K x l vs := by
  rcases h with ⟨a, vs, e, q, r⟩ | ⟨p, ho, _, _, q⟩
  · exact ⟨a, vs, e, ex_t hs q, r⟩
  · cases ho <;> exact q.elim
theorem BRep.lst {l : List D} (hs : Ex x.Hs H) (h : BRep K x H (.lst l) v) : ∃ a vs, v = .ref a ∧ H a = some (.lst vs) ∧ Reps K x l vs := by
  rcases h with ⟨a, vs, e, q, r⟩ | ⟨p, ho, e, hp, q⟩
  · exact ⟨a, vs, e, hs _ _ q, r⟩
  · cases ho <;> first | exact q.elim | exact ⟨p, _, e, hp, q⟩
theorem Fi.int {Q : VK} {i : Int} (h : Fi K x H (.frz (.int i)) Q) : Q (.int i) H := h.same _ _ rfl rfl
theorem Fi.bl {Q : VK} {i : Bool} (h : Fi K x H (.frz (.bl i)) Q) : Q (.bl i) H := h.same _ _ rfl rfl

/-! ### ints -/
theorem o_add : Op2 K (rI0 fun i j => .int (i + j)) fAdd := fun x H v u c d s Q hs a b e f => by
  cases c <;> cases d <;> cases e
  exact ⟨_, _, a.int, b.int, f.int⟩
theorem o_sub : Op2 K (rI0 fun i j => .int (i - j)) fSub := fun x H v u c d s Q hs a b e f => by
  cases c <;> cases d <;> cases e
  exact ⟨_, _, a.int, b.int, f.int⟩
/-- * where one factor is small, or both together are not too long -/
def CMulA (i j : Int) : Prop := CMulW i j ∨ CMul i j
theorem op_mulA {X : Cx} : OpR X (binaryOp .Mult) (rI CMulA fun i j => .int (i * j)) := fun pins s σ H x y v u Q I rx ry h => by
  obtain ⟨i, j, e1, e2, c, q⟩ := h
  rcases c with c | c
  · exact op_mulW pins s σ H x y v u Q I rx ry ⟨i, j, e1, e2, c, q⟩
  · exact op_mul pins s σ H x y v u Q I rx ry ⟨i, j, e1, e2, c, q⟩
theorem mulOk_ok {i j : Int} (h : mulOk i j = true) : CMulA i j := by
  unfold mulOk at h
  rcases Bool.or_eq_true_iff.mp h with h | h
  · rcases Bool.or_eq_true_iff.mp h with h | h
    · exact .inl (by have q : i.natAbs.log2 + j.natAbs.log2 < 1000000 := of_decide_eq_true h; exact q)
    · obtain ⟨a, b⟩ := Bool.and_eq_true_iff.mp h
      exact .inr (.inl ⟨of_decide_eq_true a, of_decide_eq_true b⟩)
  · obtain ⟨a, b⟩ := Bool.and_eq_true_iff.mp h
    exact .inr (.inr ⟨of_decide_eq_true a, of_decide_eq_true b⟩)
theorem o_mul : Op2 K (rI CMulA fun i j => .int (i * j)) fMul := fun x H v u c d s Q hs a b e f => by
  cases c <;> cases d <;> first | cases e | skip
  unfold fMul at e
  dsimp only at e
  split at e
  · rename_i i j h
    cases e
    exact ⟨_, _, a.int, b.int, mulOk_ok h, f.int⟩
  · cases e
theorem o_div : Op2 K (rI CDivW fun i j => .int (i / j)) fDiv := fun x H v u c d s Q hs a b e f => by
  cases c <;> cases d <;> first | cases e | skip
  unfold fDiv at e
  dsimp only at e
  split at e
  · rename_i i j h
    cases e
    obtain ⟨h1, h2⟩ := Bool.and_eq_true_iff.mp h
    exact ⟨_, _, a.int, b.int, ⟨of_decide_eq_true h1, of_decide_eq_true h2⟩, f.int⟩
  · cases e
theorem o_mod : Op2 K (rI (fun _ j => 0 < j) fun i j => .int (i % j)) fMod := fun x H v u c d s Q hs a b e f => by
  cases c <;> cases d <;> first | cases e | skip
  unfold fMod at e
  dsimp only at e
  split at e
  · rename_i i j h
    cases e
    exact ⟨_, _, a.int, b.int, of_decide_eq_true h, f.int⟩
  · cases e
theorem o_neg : Op1 K (rU fun i => .int (-i)) fNeg := fun x H v c s Q hs a e f => by
  cases c <;> cases e
  exact ⟨_, a.int, f.int⟩
theorem o_abs : Op1 K (fun v H Q => ∃ i, [v] = [V.int i] ∧ Q (.int (if i < 0 then -i else i)) H) fAbs := fun x H v c s Q hs a e f => by
  cases c <;> cases e
  exact ⟨_, by rw [a.int], f.int⟩
theorem o_int : Op1 K (fun v H Q => (∃ i, [v] = [V.int i] ∧ Q (.int i) H) ∨ ∃ k, [v] = [V.bl k] ∧ Q (.int (if k then 1 else 0)) H) fIntOf := fun x H v c s Q hs a e f => by
  cases c <;> cases e
  · exact .inr ⟨_, by rw [a.bl], f.int⟩
  · exact .inl ⟨_, by rw [a.int], f.int⟩
theorem o_lt : Op2 K (rI0 fun i j => .bl (decide (i < j))) (vB fLt) := fun x H v u c d s Q hs a b e f => by
  cases c <;> cases d <;> cases e
  exact ⟨_, _, a.int, b.int, f.bl⟩
theorem o_le : Op2 K (rI0 fun i j => .bl (decide (i ≤ j))) (vB fLe) := fun x H v u c d s Q hs a b e f => by
  cases c <;> cases d <;> cases e
  exact ⟨_, _, a.int, b.int, f.bl⟩
theorem o_gt : Op2 K (rI0 fun i j => .bl (decide (j < i))) (vB fGt) := fun x H v u c d s Q hs a b e f => by
  cases c <;> cases d <;> cases e
  exact ⟨_, _, a.int, b.int, f.bl⟩
theorem o_ge : Op2 K (rI0 fun i j => .bl (decide (j ≤ i))) (vB fGe) := fun x H v u c d s Q hs a b e f => by
  cases c <;> cases d <;> cases e
  exact ⟨_, _, a.int, b.int, f.bl⟩
/-! ### equality -/
mutual
theorem Rep.dp (hs : Ex x.Hs H) : ∀ {d : D} {v : V}, (toPy d).canLay0 = true → Rep K x d v → Dp K H v (toPy d)
  | .non, _, _, e => by cases e; exact .non
  | .bl _, _, _, e => by cases e; exact .bl _
  | .int _, _, _, e => by cases e; exact .int _
  | .str _, _, _, e => by cases e; exact .str _
  | .tup l, _, h, ⟨a, vs, e, q, r⟩ => by cases e; exact .tup (ex_t hs q) (Reps.dp hs (by simpa only [toPy, PyData.canLay0] using h) r)
  | .lst l, _, h, ⟨a, vs, e, q, r⟩ => by cases e; exact .lst (SqL.of (hs _ _ q)) (Reps.dp hs (by simpa only [toPy, PyData.canLay0] using h) r)
  | .st, _, h, _ => by simp [toPy, PyData.canLay0] at h
  | .scr _, _, h, _ => by simp [toPy, PyData.canLay0] at h
  | .ex _ _ _, _, h, _ => by simp [toPy, PyData.canLay0] at h
theorem Reps.dp (hs : Ex x.Hs H) : ∀ {ds : List D} {vs : List V}, PyData.canLayAll0 (toPys ds) = true → Reps K x ds vs → DpAll K H vs (toPys ds)
  | [], _, _, e => by cases e; exact .nil
  | d :: ds, _, h, ⟨v, r, e, q, t⟩ => by
    cases e
    obtain ⟨h1, h2⟩ := Bool.and_eq_true_iff.mp (show ((toPy d).canLay0 && PyData.canLayAll0 (toPys ds)) = true by simpa only [toPys, PyData.canLayAll0] using h)
    exact .cons (Rep.dp hs h1 q) (Reps.dp hs h2 t)
end
theorem BRep.dp (hs : Ex x.Hs H) {d : D} (h : SeqAt.shaped (toPy d) = true) (b : BRep K x H d v) : Dp K H v (toPy d) := by
  have hc := SeqAt.canLay_of_shaped h
  rcases b with b | ⟨p, ho, e, hp, q⟩
  · exact Rep.dp hs hc b
  · subst e
    cases ho <;> cases d <;> first | exact q.elim | exact .lst (SqL.of hp) (Reps.dp hs (by simpa only [toPy, PyData.canLay0] using hc) q)
theorem o_eq : Op2 K (rEqD K) (vB fEq) := fun x H v u c d s Q hs a b e f => by
  unfold vB fEq eqD at e
  split at e
  · rename_i h
    obtain ⟨h1, h2⟩ := Bool.and_eq_true_iff.mp h
    cases e
    exact ⟨_, _, a.dp hs h1, b.dp hs h2, h1, h2, f.bl⟩
  · cases e
theorem o_ne : Op2 K (rNeD K) (vB fNe) := fun x H v u c d s Q hs a b e f => by
  unfold vB fNe eqD at e
  split at e
  · rename_i h
    obtain ⟨h1, h2⟩ := Bool.and_eq_true_iff.mp h
    cases e
    exact ⟨_, _, a.dp hs h1, b.dp hs h2, h1, h2, f.bl⟩
  · cases e
theorem toPys_eq : ∀ l : List D, toPys l = l.map toPy
  | [] => rfl
  | d :: ds => by unfold toPys; rw [toPys_eq ds]; rfl
theorem o_in : Op2 K (rInD K) (vB fIn) := fun x H v u c d s Q hs a b e f => by
  cases d <;> first | cases e | skip
  unfold vB fIn at e
  dsimp only at e
  split at e
  · rename_i h
    obtain ⟨h1, h2⟩ := Bool.and_eq_true_iff.mp h
    cases e
    have b2 := b.dp hs h2
    simp only [toPy] at b2 h2
    exact ⟨_, _, a.dp hs h1, b2, h1, h2, f.bl⟩
  · cases e
theorem o_notIn : Op2 K (rNotInD K) (vB fNotIn) := fun x H v u c d s Q hs a b e f => by
  cases d <;> first | cases e | skip
  unfold vB fNotIn fIn at e
  dsimp only at e
  split at e
  · rename_i h
    obtain ⟨h1, h2⟩ := Bool.and_eq_true_iff.mp h
    cases e
    have b2 := b.dp hs h2
    simp only [toPy] at b2 h2
    exact ⟨_, _, a.dp hs h1, b2, h1, h2, f.bl⟩
  · cases e
/-! ### flat items -/
theorem Rep.flat {d : D} (h : d.flat = true) (b : Rep K x d v) : flatV v = true := by
  cases d <;> first | (cases h; done) | (cases b; rfl)
theorem Rep.eqV {d e : D} {u : V} (h : d.flat = true) (h2 : e.flat = true) (b : Rep K x d v) (c : Rep K x e u) : eqV v u = PyData.eqv (toPy d) (toPy e) := by
  cases d <;> first | (cases h; done) | skip
  all_goals (cases e <;> first | (cases h2; done) | skip)
  all_goals (cases b; cases c; simp only [toPy, PyData.eqv, L2.eqV])
theorem Reps.flat : ∀ {ds : List D} {vs : List V}, ds.all D.flat = true → Reps K x ds vs → vs.all flatV = true
  | [], _, _, e => by cases e; rfl
  | d :: ds, _, h, ⟨v, r, e, q, t⟩ => by
    cases e
    obtain ⟨h1, h2⟩ := Bool.and_eq_true_iff.mp (show (d.flat && ds.all D.flat) = true from h)
    rw [List.all_cons, Rep.flat h1 q, Reps.flat h2 t]
    rfl
theorem Reps.inV {a : D} {w : V} (ha : a.flat = true) (b : Rep K x a w) : ∀ {ds : List D} {vs : List V}, ds.all D.flat = true → Reps K x ds vs → inV w vs = ds.any fun z => PyData.eqv (toPy z) (toPy a)
  | [], _, _, e => by cases e; rfl
  | d :: ds, _, h, ⟨v, r, e, q, t⟩ => by
    cases e
    obtain ⟨h1, h2⟩ := Bool.and_eq_true_iff.mp (show (d.flat && ds.all D.flat) = true from h)
    have ih := Reps.inV ha b h2 t
    unfold L2.inV at ih ⊢
    rw [List.any_cons, List.any_cons, ih, Rep.eqV h1 ha q b]
theorem BRep.flatR (h : d.flat = true) (b : BRep K x H d v) : Rep K x d v := by
  rcases b with b | ⟨p, ho, e, hp, q⟩
  · exact b
  · cases d <;> first | (cases h; done) | (cases ho <;> exact q.elim)
theorem inF_key {neg : Bool} {c d : D} {u : V} {k : Bool} {Q : VK} (hs : Ex x.Hs H) (a : BRep K x H c v) (b : BRep K x H d u) (e : fInF c d = some k) (f : Q (.bl (if neg then !k else k)) H) : rIn K neg v u H Q := by
  cases d <;> first | cases e | skip
  · unfold fInF at e
    dsimp only at e
    split at e
    · rename_i h
      obtain ⟨h1, h2⟩ := Bool.and_eq_true_iff.mp h
      cases e
      obtain ⟨p, vs, rfl, hp, r⟩ := b.tup hs
      have ar := a.flatR h1
      exact ⟨p, vs, rfl, .inr hp, ar.flat h1, r.flat h2, by rw [r.inV h1 ar h2]; exact f⟩
    · cases e
  · unfold fInF at e
    dsimp only at e
    split at e
    · rename_i h
      obtain ⟨h1, h2⟩ := Bool.and_eq_true_iff.mp h
      cases e
      obtain ⟨p, vs, rfl, hp, r⟩ := b.lst hs
      have ar := a.flatR h1
      exact ⟨p, vs, rfl, .inl (SqL.of hp), ar.flat h1, r.flat h2, by rw [r.inV h1 ar h2]; exact f⟩
    · cases e
theorem o_inF : Op2 K (rIn K false) (vB fInF) := fun x H v u c d s Q hs a b e f => by
  unfold vB at e
  cases h : fInF c d with
  | none => rw [h] at e; cases e
  | some k => rw [h] at e; cases e; exact inF_key hs a b h f.bl
theorem o_notInF : Op2 K (rIn K true) (vB fNotInF) := fun x H v u c d s Q hs a b e f => by
  unfold vB fNotInF at e
  cases h : fInF c d with
  | none => rw [h] at e; cases e
  | some k => rw [h] at e; cases e; exact inF_key hs a b h f.bl
/-! ### is -/
theorem isN_dec (hs : Ex x.Hs H) (a : BRep K x H d v) : decide (v = V.non) = d.isN := by
  rcases a with a | ⟨p, ho, e, hp, q⟩
  · cases d with
    | non => cases a; rfl
    | bl b => cases a; rfl
    | int b => cases a; rfl
    | str b => cases a; exact decide_eq_false (fun h => nomatch h)
    | tup l => obtain ⟨p, vs, e, _⟩ := a; subst e; exact decide_eq_false (fun h => nomatch h)
    | lst l => obtain ⟨p, vs, e, _⟩ := a; subst e; exact decide_eq_false (fun h => nomatch h)
    | scr l => obtain ⟨p, e, _⟩ := a; subst e; exact decide_eq_false (fun h => nomatch h)
    | st => obtain ⟨p, c, _, e⟩ := a; subst e; exact decide_eq_false (fun h => nomatch h)
    | ex c n l => obtain ⟨p, q, vs, e, _⟩ := a; subst e; exact decide_eq_false (fun h => nomatch h)
  · subst e
    have : d.isN = false := by cases ho <;> cases d <;> first | exact q.elim | rfl
    rw [this]
    exact decide_eq_false (fun h => nomatch h)
theorem o_isN : Op2 K (fun x y H Q => y = .non ∧ Q (.bl (decide (x = .non))) H) (vB fIsN) := fun x H v u c d s Q hs a b e f => by
  cases d <;> cases e
  refine ⟨b.non, ?_⟩
  rw [isN_dec hs a]; exact f.bl
theorem o_notN : Op2 K (fun x y H Q => y = .non ∧ Q (.bl (!decide (x = .non))) H) (vB fNotN) := fun x H v u c d s Q hs a b e f => by
  cases d <;> cases e
  refine ⟨b.non, ?_⟩
  rw [isN_dec hs a]; exact f.bl
theorem o_isB : Op2 K rIsB (vB fIsB) := fun x H v u c d s Q hs a b e f => by
  cases c <;> cases d <;> cases e
  exact ⟨_, _, a.bl, b.bl, f.bl⟩
theorem o_notB : Op2 K rNotB (vB fNotB) := fun x H v u c d s Q hs a b e f => by
  cases c <;> cases d <;> cases e
  exact ⟨_, _, a.bl, b.bl, f.bl⟩
/-! ### lists and tuples -/
theorem ixN_at {α β : Type} {l : List α} {vs : List β} (h : vs.length = l.length) {k : Int} {d : α} (e : atI l k = some d) : ∃ j : Nat, ixN vs.length k = some j ∧ l[j]? = some d := by
  unfold atI at e
  rw [h]
  cases q : L2.ixN l.length k with
  | none => rw [q] at e; cases e
  | some j => rw [q] at e; exact ⟨j, q, e⟩
theorem o_ix : Op2 K (rIx K) fIx := fun x H v u c d s Q hs a b e f => by
  cases c <;> cases d <;> first | cases e | skip
  · unfold fIx at e
    dsimp only at e
    obtain ⟨p, vs, rfl, hp, r⟩ := a.tup hs
    rename_i l k
    cases q : atI l k with
    | none => rw [q] at e; cases e
    | some y =>
      rw [q] at e; cases e
      obtain ⟨j, h1, h2⟩ := ixN_at r.length q
      obtain ⟨w, h3, h4⟩ := r.get h2
      exact .inr (.inl ⟨p, vs, k, w, rfl, b.int, hp, by unfold atI; rw [show L2.ixN vs.length k = some j from h1]; exact h3, f.same _ _ rfl h4⟩)
  · unfold fIx at e
    dsimp only at e
    obtain ⟨p, vs, rfl, hp, r⟩ := a.lst hs
    rename_i l k
    cases q : atI l k with
    | none => rw [q] at e; cases e
    | some y =>
      rw [q] at e; cases e
      obtain ⟨j, h1, h2⟩ := ixN_at r.length q
      obtain ⟨w, h3, h4⟩ := r.get h2
      exact .inl ⟨p, vs, k, w, rfl, b.int, SqL.of hp, by unfold atI; rw [show L2.ixN vs.length k = some j from h1]; exact h3, f.same _ _ rfl h4⟩
theorem o_len : Op1 K (fun v H Q => ∃ p ys, [v] = [V.ref p] ∧ (SqL K H p ys ∨ SqT K H p ys) ∧ Q (.int ys.length) H) fLen := fun x H v c s Q hs a e f => by
  cases c <;> cases e
  · obtain ⟨p, vs, rfl, hp, r⟩ := a.tup hs
    exact ⟨p, vs, rfl, .inr hp, by rw [r.length]; exact f.int⟩
  · obtain ⟨p, vs, rfl, hp, r⟩ := a.lst hs
    exact ⟨p, vs, rfl, .inl (SqL.of hp), by rw [r.length]; exact f.int⟩
theorem o_lstOf : Op1 K (fun v H Q => ∃ p ys, [v] = [V.ref p] ∧ (SqL K H p ys ∨ SqT K H p ys) ∧ ∀ l, H l = none → Q (.ref l) (upd H l (.lst ys))) fLstOf := fun x H v c s Q hs a e f => by
  cases c <;> cases e
  · obtain ⟨p, vs, rfl, hp, r⟩ := a.tup hs
    exact ⟨p, vs, rfl, .inr hp, fun l hl => f.new l _ hl r⟩
  · obtain ⟨p, vs, rfl, hp, r⟩ := a.lst hs
    exact ⟨p, vs, rfl, .inl (SqL.of hp), fun l hl => f.new l _ hl r⟩
theorem BRep.tupR {l : List D} (b : BRep K x H (.tup l) v) : Rep K x (.tup l) v := by
  rcases b with b | ⟨p, ho, e, hp, q⟩
  · exact b
  · cases ho <;> exact q.elim
theorem o_tupOf : Op1 K (fun v H Q => ∃ p ys, [v] = [V.ref p] ∧ ((SqL K H p ys ∧ ∀ l, H l = none → Q (.ref l) (upd H l (.tup ys))) ∨ (SqT K H p ys ∧ Q (.ref p) H))) fTupOf := fun x H v c s Q hs a e f => by
  cases c <;> cases e
  · have ar := a.tupR
    obtain ⟨p, vs, rfl, hp, r⟩ := a.tup hs
    exact ⟨p, vs, rfl, .inr ⟨hp, f.same _ _ rfl ar⟩⟩
  · obtain ⟨p, vs, rfl, hp, r⟩ := a.lst hs
    exact ⟨p, vs, rfl, .inl ⟨SqL.of hp, fun l hl => f.new l _ hl r⟩⟩
theorem o_all : Op1 K (fun v => rAll K [v]) fAll := fun x H v c s Q hs a e f => by
  cases c <;> first | cases e | skip
  unfold fAll at e
  obtain ⟨p, vs, rfl, hp, r⟩ := a.lst hs
  rename_i l
  cases q : boolsD l with
  | none => simp only [q] at e; cases e
  | some bs =>
    simp only [q] at e; cases e
    exact ⟨p, bs, rfl, by rw [← r.boolsV q]; exact SqL.of hp, f.bl⟩
theorem o_any : Op1 K (fun v => rAny K [v]) fAny := fun x H v c s Q hs a e f => by
  cases c <;> first | cases e | skip
  unfold fAny at e
  obtain ⟨p, vs, rfl, hp, r⟩ := a.lst hs
  rename_i l
  cases q : boolsD l with
  | none => simp only [q] at e; cases e
  | some bs =>
    simp only [q] at e; cases e
    exact ⟨p, bs, rfl, by rw [← r.boolsV q]; exact SqL.of hp, f.bl⟩
theorem o_sum : Op1 K (fun v => rSum K [v]) fSum := fun x H v c s Q hs a e f => by
  cases c <;> first | cases e | skip
  unfold fSum at e
  obtain ⟨p, vs, rfl, hp, r⟩ := a.lst hs
  rename_i l
  cases q : intsD l with
  | none => simp only [q] at e; cases e
  | some bs =>
    simp only [q] at e; cases e
    exact ⟨p, bs, rfl, by rw [← r.intsV q]; exact SqL.of hp, f.int⟩
theorem o_cat : Op2 K (fun x y H Q => rCat x y H Q ∨ rCatA K x y H Q) fCat := fun x H v u c d s Q hs a b e f => by
  cases c <;> cases d <;> first | cases e | skip
  · unfold fCat at e
    dsimp only at e
    split at e
    · rename_i l m h
      cases e
      have ar := a.tupR
      have br := b.tupR
      obtain ⟨p, vs, rfl, hp, r⟩ := a.tup hs
      obtain ⟨q, us, rfl, hq, r2⟩ := b.tup hs
      refine .inr ⟨p, q, vs, us, rfl, rfl, hp, hq, by rw [r.length, r2.length]; exact h, fun ev => ?_, fun ev eu => ?_, fun _ _ l hl => f.new l _ hl (r.app r2)⟩
      · have e2 : l = [] := List.length_eq_zero_iff.mp (by rw [← r.length, ev]; rfl)
        subst e2
        exact f.same _ _ rfl br
      · have e2 : m = [] := List.length_eq_zero_iff.mp (by rw [← r2.length, eu]; rfl)
        subst e2
        exact f.same _ _ rfl (by simpa using ar)
    · cases e
  · unfold fCat at e
    dsimp only at e
    split at e
    · rename_i l m h
      cases e
      obtain ⟨p, vs, rfl, hp, r⟩ := a.lst hs
      obtain ⟨q, us, rfl, hq, r2⟩ := b.lst hs
      exact .inl ⟨p, q, vs, us, rfl, rfl, hp, hq, by rw [r.length, r2.length]; exact h, fun l hl => f.new l _ hl (r.app r2)⟩
    · cases e
theorem Reps.rep {ds : List D} {vs : List V} (h : Reps K x ds vs) : ∀ k : Nat, Reps K x (List.replicate k ds).flatten (List.replicate k vs).flatten
  | 0 => rfl
  | k + 1 => by
    rw [List.replicate_succ, List.replicate_succ, List.flatten_cons, List.flatten_cons]
    exact Reps.app h (Reps.rep h k)
theorem o_rep : Op2 K rRep fRep := fun x H v u c d s Q hs a b e f => by
  cases c <;> cases d <;> first | cases e | skip
  unfold fRep at e
  dsimp only at e
  split at e
  · rename_i l k h
    obtain ⟨h12, h3⟩ := Bool.and_eq_true_iff.mp h
    obtain ⟨h1, h2⟩ := Bool.and_eq_true_iff.mp h12
    cases e
    obtain ⟨p, vs, rfl, hp, r⟩ := a.lst hs
    exact ⟨p, k, vs, rfl, b.int, hp, of_decide_eq_true h1, of_decide_eq_true h2, by rw [r.length]; exact of_decide_eq_true h3, fun l hl => f.new l _ hl (r.rep _)⟩
  · cases e
/-! ### what they give as their own is a list -/
theorem w_add : Own2 fAdd := fun a b d h => by cases a <;> cases b <;> cases h
theorem w_sub : Own2 fSub := fun a b d h => by cases a <;> cases b <;> cases h
theorem w_mul : Own2 fMul := fun a b d h => by
  cases a <;> cases b <;> first | cases h | (unfold fMul at h; dsimp only at h; split at h <;> cases h)
theorem w_div : Own2 fDiv := fun a b d h => by
  cases a <;> cases b <;> first | cases h | (unfold fDiv at h; dsimp only at h; split at h <;> cases h)
theorem w_mod : Own2 fMod := fun a b d h => by
  cases a <;> cases b <;> first | cases h | (unfold fMod at h; dsimp only at h; split at h <;> cases h)
theorem w_cat : Own2 fCat := fun a b d h => by
  cases a <;> cases b <;> first | cases h | (unfold fCat at h; dsimp only at h; split at h <;> first | (cases h; done) | (cases h; exact ⟨_, rfl⟩))
theorem w_rep : Own2 fRep := fun a b d h => by
  cases a <;> cases b <;> first | cases h | (unfold fRep at h; dsimp only at h; split at h <;> first | (cases h; done) | (cases h; exact ⟨_, rfl⟩))
theorem w_ix : Own2 fIx := fun a b d h => by
  cases a <;> cases b <;> first | cases h | (unfold fIx at h; dsimp only at h; rename_i l k; cases q : atI l k <;> rw [q] at h <;> cases h)
theorem w_vB {f : D → D → Option Bool} : Own2 (vB f) := fun a b d h => by unfold vB at h; cases e : f a b <;> rw [e] at h <;> cases h
theorem w_neg : Own1 fNeg := fun a d h => by cases a <;> cases h
theorem w_abs : Own1 fAbs := fun a d h => by cases a <;> cases h
theorem w_int : Own1 fIntOf := fun a d h => by cases a <;> cases h
theorem w_len : Own1 fLen := fun a d h => by cases a <;> cases h
theorem w_tup : Own1 fTupOf := fun a d h => by cases a <;> cases h
theorem w_lst : Own1 fLstOf := fun a d h => by cases a <;> cases h <;> exact ⟨_, rfl⟩
theorem w_all : Own1 fAll := fun a d h => by
  cases a <;> first | cases h | (unfold fAll at h; rename_i l; cases q : boolsD l <;> simp only [q] at h <;> cases h)
theorem w_any : Own1 fAny := fun a d h => by
  cases a <;> first | cases h | (unfold fAny at h; rename_i l; cases q : boolsD l <;> simp only [q] at h <;> cases h)
theorem w_sum : Own1 fSum := fun a d h => by
  cases a <;> first | cases h | (unfold fSum at h; rename_i l; cases q : intsD l <;> simp only [q] at h <;> cases h)
end
end Zn

/-! ZStm: statements, targets, loops, comprehensions. -/
namespace Zn
open PySem L2 Evl

/-- what a statement's outcome asks of its ends -/
def PostS (K : PySem.W.Frag) (x : Aux) (σ : L2.St) (W : WX) (D : Ends) : O Fl Zs → Prop
  | .ok .nx z => ∀ x' σ' H', x.le x' → R K x' σ' H' z → D.nx σ' H'
  | .ok .bk z => ∀ x' σ' H', x.le x' → R K x' σ' H' z → D.bk σ' H'
  | .ok .ct z => ∀ x' σ' H', x.le x' → R K x' σ' H' z → D.ct σ' H'
  | .ok (.rt s) z => ∀ x' H' v, x.le x' → R0 x' H' z.g → SRep K x' H' v s → D.rt v H'
  | .exc e z => ∀ x' σ' H' cls d, x.le x' → R K x' σ' H' z → ERep K x' H' cls d e → W cls d σ' H'
  | .stk => False
def SndS (K : PySem.W.Frag) (W : WX) (t : TS) (m : SS) : Prop := ∀ x σ H z, R K x σ H z → ∀ De, PostS K x σ W De (m z) → t De σ H
def semS (K : PySem.W.Frag) (W : WX) (m : SS) : TS := fun De σ H => ∃ x z, R K x σ H z ∧ PostS K x σ W De (m z)
theorem sndS {K : PySem.W.Frag} {W : WX} {m : SS} : SndS K W (semS K W m) m := fun x _ _ z r _ h => ⟨x, z, r, h⟩
abbrev SD (X : Cx) (W : WX) (st : Stmt) (m : SS) : Prop := PS X st (semS X.K W m)
abbrev SDs (X : Cx) (W : WX) (st : List Stmt) (m : SS) : Prop := PSs X st (semS X.K W m)
theorem SD.of {X : Cx} {W : WX} {e : Stmt} {t : TS} {m : SS} (h : PS X e t) (s : SndS X.K W t m) : SD X W e m := ⟨fun pins s0 σ H De I ⟨x, z, r, p⟩ => h.run pins s0 σ H De I (s x σ H z r De p)⟩
theorem SDs.of {X : Cx} {W : WX} {e : List Stmt} {t : TS} {m : SS} (h : PSs X e t) (s : SndS X.K W t m) : SDs X W e m := ⟨fun pins s0 σ H De I ⟨x, z, r, p⟩ => h.run pins s0 σ H De I (s x σ H z r De p)⟩
/-- targets -/
def SndG (K : PySem.W.Frag) (W : WX) (t : TG) (g : Tg) : Prop := ∀ x σ H z v s, R K x σ H z → SRep K x H v s → Apart σ z v s → ∀ Q, PostS K x σ W { nx := Q, rt := fun _ _ => False } ((asg g s z).bind fun _ z1 => .ok .nx z1) → t v σ H Q
def SndGs (K : PySem.W.Frag) (W : WX) (t : TGs) (g : List Tg) : Prop := ∀ x σ H z vs ds, R K x σ H z → Reps K x ds vs → ∀ Q, PostS K x σ W { nx := Q, rt := fun _ _ => False } ((asgs g ds z).bind fun _ z1 => .ok .nx z1) → t vs σ H Q
def semG (K : PySem.W.Frag) (W : WX) (g : Tg) : TG := fun v σ H Q => ∃ x z s, R K x σ H z ∧ SRep K x H v s ∧ Apart σ z v s ∧ PostS K x σ W { nx := Q, rt := fun _ _ => False } ((asg g s z).bind fun _ z1 => .ok .nx z1)
def semGs (K : PySem.W.Frag) (W : WX) (g : List Tg) : TGs := fun vs σ H Q => ∃ x z ds, R K x σ H z ∧ Reps K x ds vs ∧ PostS K x σ W { nx := Q, rt := fun _ _ => False } ((asgs g ds z).bind fun _ z1 => .ok .nx z1)
theorem sndG {K : PySem.W.Frag} {W : WX} {g : Tg} : SndG K W (semG K W g) g := fun x _ _ z _ s r a b _ h => ⟨x, z, s, r, a, b, h⟩
theorem sndGs {K : PySem.W.Frag} {W : WX} {g : List Tg} : SndGs K W (semGs K W g) g := fun x _ _ z _ ds r a _ h => ⟨x, z, ds, r, a, h⟩
abbrev GD (X : Cx) (W : WX) (e : Expr) (g : Tg) : Prop := PG X e (semG X.K W g)
abbrev GDs (X : Cx) (W : WX) (es : List Expr) (g : List Tg) : Prop := PGs X es (semGs X.K W g)
theorem GD.of {X : Cx} {W : WX} {e : Expr} {t : TG} {m : Tg} (h : PG X e t) (s : SndG X.K W t m) : GD X W e m := ⟨fun pins s0 σ H v u Q I rv ⟨x, z, sv, r, a, b, p⟩ => h.run pins s0 σ H v u Q I rv (s x σ H z v sv r a b Q p)⟩
theorem GDs.of {X : Cx} {W : WX} {e : List Expr} {t : TGs} {m : List Tg} (h : PGs X e t) (s : SndGs X.K W t m) : GDs X W e m := ⟨fun pins s0 σ H vs us Q I rv ⟨x, z, ds, r, a, p⟩ => h.run pins s0 σ H vs us Q I rv (s x σ H z vs ds r a Q p)⟩
def kI (K : PySem.W.Frag) (Q : It → Hp → Prop) : Aux → Hp → List D → Zs → Prop := fun x' H' ds z' => (∀ a vs, x'.Hs a = some (.lst vs) → Reps K x' ds vs → Q (Itl K a) H') ∧ (∀ a vs, SqT K x'.Hs a vs → Reps K x' ds vs → Q (Itt K a) H') ∧ (∀ lo n, ds = (List.range n).map (fun (i : Nat) => D.int (lo + (i : Int))) → Q (Itr lo n) H')
def SndI (K : PySem.W.Frag) (W : WX) (t : TI) (i : I) : Prop := ∀ x σ H z, R K x σ H z → ∀ Q : It → Hp → Prop, Post K x σ W (kI K Q) (i z) → t σ H Q
def semI (K : PySem.W.Frag) (W : WX) (m : I) : TI := fun σ H Q => ∃ x z, R K x σ H z ∧ Post K x σ W (kI K Q) (m z)
theorem sndI {K : PySem.W.Frag} {W : WX} {m : I} : SndI K W (semI K W m) m := fun x _ _ z r _ h => ⟨x, z, r, h⟩
abbrev ID (X : Cx) (W : WX) (tg iter : Expr) (i : I) : Prop := PI X tg iter (semI X.K W i)
theorem ID.of {X : Cx} {W : WX} {tg e : Expr} {t : TI} {m : I} (h : PI X tg e t) (s : SndI X.K W t m) : ID X W tg e m := ⟨fun pins s0 σ H Q I ⟨x, z, r, p⟩ => h.run pins s0 σ H Q I (s x σ H z r Q p)⟩

section
variable {K : PySem.W.Frag} {x y : Aux} {σ : L2.St} {H : Hp} {z : Zs} {W : WX} {De : Ends}
theorem PostS.mono {o : O Fl Zs} (l : x.le y) (h : PostS K x σ W De o) : PostS K y σ W De o := by
  cases o with
  | ok f z => cases f <;> exact fun x' σ' H' l' => h x' σ' H' (l.trans l')
  | exc e z => exact fun x' σ' H' cls d l' => h x' σ' H' cls d (l.trans l')
  | stk => exact h
theorem PostS.sig {σ' : L2.St} {o : O Fl Zs} (h : PostS K x σ W De o) : PostS K x σ' W De o := h
/-- from an expression's end to a statement's -/
theorem PostS.bindE {α : Type} {o : O α Zs} {f : α → Zs → O Fl Zs} (h : PostS K x σ W De (o.bind f)) : Post K x σ W (fun x' H' a z' => PostS K x' σ W De (f a z')) o := by
  cases o with
  | ok a z => exact fun x' H' l r => PostS.mono l (show PostS K x σ W De (f a z) from h)
  | exc e z => exact fun x' H' cls d l r er => h x' σ H' cls d l r er
  | stk => exact h
theorem PostS.imp {D' : Ends} {o : O Fl Zs} (h : PostS K x σ W De o) (n : ∀ x' σ' H' z, o = .ok .nx z → x.le x' → R K x' σ' H' z → De.nx σ' H' → D'.nx σ' H') (b : ∀ x' σ' H' z, o = .ok .bk z → x.le x' → R K x' σ' H' z → De.bk σ' H' → D'.bk σ' H')
    (c : ∀ x' σ' H' z, o = .ok .ct z → x.le x' → R K x' σ' H' z → De.ct σ' H' → D'.ct σ' H') (rt : ∀ v H', De.rt v H' → D'.rt v H') : PostS K x σ W D' o := by
  cases o with
  | ok f z =>
    cases f with
    | nx => exact fun x' σ' H' l r => n x' σ' H' z rfl l r (h x' σ' H' l r)
    | bk => exact fun x' σ' H' l r => b x' σ' H' z rfl l r (h x' σ' H' l r)
    | ct => exact fun x' σ' H' l r => c x' σ' H' z rfl l r (h x' σ' H' l r)
    | rt s => exact fun x' H' v l r q => rt v H' (h x' H' v l r q)
  | exc e z => exact h
  | stk => exact h

/-! ### small statements -/
theorem ss_nx : SndS K W tNext sNx := fun x σ H z r De h => h x σ H (.refl _) r
theorem ss_bk : SndS K W tBreak sBk := fun x σ H z r De h => h x σ H (.refl _) r
theorem ss_ct : SndS K W tCont sCt := fun x σ H z r De h => h x σ H (.refl _) r
theorem ss_seq {t u : TS} {a b : SS} (ha : SndS K W t a) (hb : SndS K W u b) : SndS K W (tSeq t u) (sSeq a b) := fun x σ H z r De h => by
  refine ha x σ H z r _ ?_
  have h' : PostS K x σ W De ((a z).bind fun f z1 => match f with
    | .nx => b z1
    | f => .ok f z1) := h
  cases e : a z with
  | ok f z1 =>
    rw [e] at h'
    cases f with
    | nx => exact fun x' σ' H' l r' => hb x' σ' H' z1 r' De (PostS.mono l h').sig
    | bk => exact h'
    | ct => exact h'
    | rt s => exact h'
  | exc e1 z1 => rw [e] at h'; exact h'
  | stk => rw [e] at h'; exact h'
theorem ss_if {t : TT} {ta tb : TS} {c : T} {a b : SS} (hc : SndT K W t c) (ha : SndS K W ta a) (hb : SndS K W tb b) : SndS K W (tIfS t ta tb) (sIf c a b) := fun x σ H z r De h => by
  refine hc x σ H z r _ ?_
  refine (PostS.bindE (f := fun k z1 => if k then a z1 else b z1) h).imp fun x1 H1 k z1 l1 r1 q => ?_
  cases k with
  | true => exact ha x1 σ H1 z1 r1 De q
  | false => exact hb x1 σ H1 z1 r1 De q
theorem ss_ret {t : TE} {e : E} (he : SndE K W t e) : SndS K W (tRet t) (sRet e) := fun x σ H z r De h => by
  refine he x σ H z r _ ?_
  exact (PostS.bindE (f := fun s z1 => .ok (.rt s) z1) h).imp fun x1 H1 s z1 l1 r1 q v hs _ => q x1 H1 v (.refl _) r1.r0 hs
theorem ss_drop {t : TE} {e : E} (he : SndE K W t e) : SndS K W (tDrop t) (sDrop e) := fun x σ H z r De h => by
  refine he x σ H z r _ ?_
  exact (PostS.bindE (f := fun _ z1 => .ok .nx z1) h).imp fun x1 H1 s z1 l1 r1 q v hs _ => q x1 σ H1 (.refl _) r1
/-! ### stores -/
theorem R.put {v : V} {s : S} {i : Nat} (r : R K x σ H z) (hs : SRep K x H v s) (ha : Apart σ z v s) : R K x (σ.set i (some v)) H (z.put i (some s)) := by
  refine ⟨r.r0, by show (z.r.set i (some s)).length = _; rw [List.length_set, List.length_set, r.len], fun j s' e => ?_, fun j k d1 d2 n e1 e2 => ?_⟩
  · have e' : (z.r.set i (some s))[j]? = some (some s') := e
    by_cases h : i = j
    · subst h
      have hl : i < z.r.length := by
        have := (List.getElem?_eq_some_iff.mp e').1
        rwa [List.length_set] at this
      rw [List.getElem?_set_self hl] at e'; cases e'
      exact ⟨v, by rw [List.getElem?_set_self (by rw [← r.len]; exact hl)], hs⟩
    · rw [List.getElem?_set_ne h] at e'
      obtain ⟨u, a, b⟩ := r.sl j s' e'
      exact ⟨u, by rw [List.getElem?_set_ne h]; exact a, b⟩
  · have e1' : (z.r.set i (some s))[j]? = some (some (S.own d1)) := e1
    have e2' : (z.r.set i (some s))[k]? = some (some (S.own d2)) := e2
    by_cases hj : i = j
    · subst hj
      have hl : i < z.r.length := by
        have := (List.getElem?_eq_some_iff.mp e1').1
        rwa [List.length_set] at this
      rw [List.getElem?_set_self hl] at e1'; cases e1'
      rw [List.getElem?_set_ne n] at e2'
      rw [List.getElem?_set_self (by rw [← r.len]; exact hl), List.getElem?_set_ne n]
      exact fun q => ha k d2 e2' q.symm
    · rw [List.getElem?_set_ne hj] at e1'
      by_cases hk : i = k
      · subst hk
        have hl : i < z.r.length := by
          have := (List.getElem?_eq_some_iff.mp e2').1
          rwa [List.length_set] at this
        rw [List.getElem?_set_self hl] at e2'; cases e2'
        rw [List.getElem?_set_ne hj, List.getElem?_set_self (by rw [← r.len]; exact hl)]
        exact ha j d1 e1'
      · rw [List.getElem?_set_ne hk] at e2'
        rw [List.getElem?_set_ne hj, List.getElem?_set_ne hk]
        exact r.ap j k d1 d2 n e1' e2'
/-- what a slot owns is changed -/
theorem R.change {i : Nat} {d d' : D} (r : R K x σ H z) (e : z.r[i]? = some (some (.own d))) : ∃ p ho, σ[i]? = some (some (.ref p)) ∧ H p = some ho ∧ HRep K x ho d ∧
    ∀ ho', HRep K x ho' d' → R K x σ (upd H p ho') (z.put i (some (.own d'))) := by
  obtain ⟨v, a, p, ho, ev, hp, hr, f⟩ := r.sl i _ e
  subst ev
  have hlt : i < z.r.length := (List.getElem?_eq_some_iff.mp e).1
  refine ⟨p, ho, a, hp, hr, fun ho' hr' => ?_⟩
  have hex : ∀ (A : Hp), Ex A H → A p = none → Ex A (upd H p ho') := fun A h n b o eb => by
    rw [upd_ne (fun q => by subst q; rw [n] at eb; cases eb)]; exact h b o eb
  have r0 : R0 x (upd H p ho') z.g := by
    refine ⟨hex _ r.r0.hs f.1, hex _ r.r0.fr f.2.1, r.r0.dj, ?_⟩
    have q := r.r0.st
    cases hg : z.g.st with
    | none => rw [hg] at q; exact q
    | some w =>
      rw [hg] at q
      obtain ⟨a1, c1, e1, n1, h1, h2, q⟩ := q
      obtain ⟨m1, m2⟩ := f.2.2 a1 c1 e1
      exact ⟨a1, c1, e1, n1, (upd_ne (Ne.symm m1)).trans h1, (upd_ne (Ne.symm m2)).trans h2, q⟩
  refine ⟨r0, by show (z.r.set i _).length = _; rw [List.length_set, r.len], fun j s' ej => ?_, fun j k d1 d2 n e1 e2 => ?_⟩
  · have ej' : (z.r.set i (some (S.own d')))[j]? = some (some s') := ej
    by_cases h : i = j
    · subst h
      rw [List.getElem?_set_self hlt] at ej'; cases ej'
      exact ⟨_, a, p, ho', rfl, upd_same, hr', f⟩
    · rw [List.getElem?_set_ne h] at ej'
      obtain ⟨u, b, c⟩ := r.sl j s' ej'
      refine ⟨u, b, ?_⟩
      cases s' with
      | frz dd => exact c
      | own dd =>
        obtain ⟨q, hq, eu, eq, hr2, fq⟩ := c
        subst eu
        exact ⟨q, hq, rfl, (upd_ne fun w => by subst w; exact r.ap i j d dd h e ej' (a.trans b.symm)).trans eq, hr2, fq⟩
  · have key : ∀ (m : Nat) (dm : Zn.D), (z.put i (some (S.own d'))).r[m]? = some (some (S.own dm)) → ∃ dn, z.r[m]? = some (some (S.own dn)) := fun m dm em => by
      have em' : (z.r.set i (some (S.own d')))[m]? = some (some (S.own dm)) := em
      by_cases h : i = m
      · subst h; exact ⟨d, e⟩
      · rw [List.getElem?_set_ne h] at em'; exact ⟨dm, em'⟩
    obtain ⟨d3, e3⟩ := key _ _ e1
    obtain ⟨d4, e4⟩ := key _ _ e2
    exact r.ap j k d3 d4 n e3 e4
theorem sg_nm {i : Nat} : SndG K W (gName i) (.nm i) := fun x σ H z v s r hs ha Q h => h x _ H (.refl _) (r.put hs ha)
theorem SRep.toD {v : V} {s : S} (r : R K x σ H z) (hs : SRep K x H v s) (ha : Apart σ z v s) : ∃ y, x.le y ∧ R K y σ H z ∧ Rep K y s.d v := kE.toD (Q := fun _ _ => True) r v hs ha
theorem setAt_ok {i : Nat} {k dv : Zn.D} {kv v : V} {z2 : Zs} {Q : L2.St → Hp → Prop} (r : R K x σ H z) (hk : Rep K x k kv) (hv : Rep K x dv v) (e : setAt i k dv z = some z2) (q : ∀ H', R K x σ H' z2 → Q σ H') :
    ∃ o, σ[i]? = some (some o) ∧ rSetL o kv v H (fun H3 => Q σ H3) := by
  unfold setAt at e
  cases k <;> first | cases e | skip
  rename_i k
  cases e1 : z.r[i]? with
  | none => rw [e1] at e; cases e
  | some o =>
    cases o with
    | none => rw [e1] at e; cases e
    | some s =>
      cases s with
      | frz d => rw [e1] at e; cases e
      | own d =>
        cases d with
        | lst l =>
          rw [e1] at e
          dsimp only at e
          cases e2 : Zn.ixN l.length k with
          | none => rw [e2] at e; cases e
          | some j =>
            rw [e2] at e; cases e
            obtain ⟨p, ho, a, hp, hr, ch⟩ := r.change (d' := .lst (l.set j dv)) e1
            cases ho <;> first | exact hr.elim | skip
            rename_i vs
            refine ⟨_, a, p, vs, k, j, rfl, hk, hp, ?_, q _ (ch (.lst (vs.set j v)) ?_)⟩
            · rw [Reps.length (show Reps K x l vs from hr)]; exact e2
            · exact Reps.set (show Reps K x l vs from hr) hv
        | _ => rw [e1] at e; cases e
theorem sg_ix {i : Nat} {k : E} {tk : TE} (hk : SndE K W tk k) : SndG K W (gSub (tVar i) tk rSetL) (.ix i k) := fun x σ H z v s r hs ha Q h => by
  obtain ⟨y, l, r2, b⟩ := SRep.toD r hs ha
  unfold asg at h
  cases e : z.at i with
  | none => rw [e] at h; exact h.elim
  | some d0 =>
    rw [e] at h
    obtain ⟨o, ho, _⟩ := r.at e
    refine ⟨o, ho, ?_⟩
    refine hk.toD r2 ?_
    have h2 : PostS K y σ W { nx := Q, rt := fun _ _ => False } (((k z).bind fun q z1 => match setAt i q.d s.d z1 with
      | some z2 => .ok () z2
      | none => .stk).bind fun _ z1 => .ok .nx z1) := PostS.mono l h
    cases ek : k z with
    | ok q z1 =>
      rw [ek] at h2
      intro x1 H1 l1 r1 kv bk
      cases es : setAt i q.d s.d z1 with
      | none => simp only [O.bind, es] at h2; exact h2.elim
      | some z2 =>
        simp only [O.bind, es] at h2
        obtain ⟨o', ho', w⟩ := setAt_ok (Q := Q) r1 bk (Rep.mono l1 b) es (fun H' r' => h2 x1 σ H' l1 r')
        rw [ho] at ho'; cases ho'
        exact w
    | exc e1 z1 => rw [ek] at h2; exact fun x' H' cls d l' r' er => h2 x' σ H' cls d l' r' er
    | stk => rw [ek] at h2; exact h2.elim
theorem sgs_nil : SndGs K W gNil [] := fun x σ H z vs ds r hr Q h => by
  cases ds with
  | nil => cases hr; exact ⟨rfl, h x σ H (.refl _) r⟩
  | cons d ds => unfold asgs at h; exact h.elim
theorem sgs_cons {t : TG} {g : Tg} {ts : TGs} {gs : List Tg} (h1 : SndG K W t g) (h2 : SndGs K W ts gs) : SndGs K W (gCons t ts) (g :: gs) := fun x σ H z vs ds r hr Q h => by
  cases ds with
  | nil => unfold asgs at h; exact h.elim
  | cons d ds =>
    obtain ⟨v, vr, rfl, b, br⟩ := hr
    refine ⟨v, vr, rfl, h1 x σ H z v (.frz d) r b trivial _ ?_⟩
    unfold asgs at h
    cases e : asg g (.frz d) z with
    | ok u z1 =>
      rw [e] at h
      intro x1 σ1 H1 l1 r1
      exact h2 x1 σ1 H1 z1 vr ds r1 (Reps.mono l1 br) Q (PostS.mono l1 h).sig
    | exc e1 z1 => rw [e] at h; exact h
    | stk => rw [e] at h; exact h
theorem sg_tup {n : Nat} {t : TGs} {gs : List Tg} (h : SndGs K W t gs) (hn : gs.length = n) : SndG K W (gTup K n t) (.tp gs) := fun x σ H z v s r hs ha Q q => by
  cases s with
  | own d => unfold asg at q; exact q.elim
  | frz d =>
    cases d <;> first | (unfold asg at q; exact q.elim) | skip
    unfold asg at q
    obtain ⟨a, vs, rfl, hp, hr⟩ := hs
    split at q
    · rename_i l hl
      exact ⟨a, vs, rfl, ex_t r.r0.hs hp, by rw [hr.length, hl, hn], h x σ H z vs l r hr Q q⟩
    · exact q.elim
theorem ss_asg {t : TE} {g : TG} {tg : Tg} {e : E} (he : SndE K W t e) (hg : SndG K W g tg) : SndS K W (tAsg t g) (sAsg tg e) := fun x σ H z r De h => by
  refine he x σ H z r _ ?_
  refine (PostS.bindE (f := fun s z1 => (asg tg s z1).bind fun _ z2 => .ok .nx z2) h).imp fun x1 H1 s z1 l1 r1 q v hs ha => ?_
  refine hg x1 σ H1 z1 v s r1 hs ha _ ?_
  cases e : asg tg s z1 with
  | ok u z2 => rw [e] at q; exact q
  | exc e1 z2 => rw [e] at q; exact q
  | stk => rw [e] at q; exact q
/-! ### a, b = e1, e2 -/
def NotIn (v : V) : List S → List V → Prop
  | .own _ :: ss, u :: r => u ≠ v ∧ NotIn v ss r
  | .frz _ :: ss, _ :: r => NotIn v ss r
  | _, _ => True
def SReps (K : PySem.W.Frag) (x : Aux) (H : Hp) (σ : L2.St) (z : Zs) : List S → List V → Prop
  | [], vs => vs = []
  | s :: ss, vs => ∃ v r, vs = v :: r ∧ SRep K x H v s ∧ Apart σ z v s ∧ SReps K x H σ z ss r ∧ (∀ d, s = .own d → NotIn v ss r)
def SndAS (K : PySem.W.Frag) (W : WX) (t : TA) (m : List E) : Prop := ∀ x σ H z, R K x σ H z → ∀ Q, Post K x σ W (fun x' H' ss z' => ∀ vs, SReps K x' H' σ z' ss vs → Q vs H') (argsS m z) → t σ H Q
theorem sas_nil : SndAS K W tNil [] := fun x σ H z r Q h => h x H (.refl _) r [] rfl
theorem SReps.less {F : Hp} (h : Ex F x.Fr) : ∀ {ss : List S} {vs : List V}, SReps K x H σ z ss vs → SReps K (x.fr' F) H σ z ss vs
  | [], _, e => e
  | _ :: _, _, ⟨v, r, e, q, a, t, n⟩ => ⟨v, r, e, q.less h, a, SReps.less h t, n⟩
theorem SReps.notIn {p : Addr} {o : HO} (h : x.Fr p = some o) : ∀ {ss : List S} {vs : List V}, SReps K x H σ z ss vs → NotIn (.ref p) ss vs
  | [], _, e => by cases e; exact trivial
  | .frz d :: ss, _, ⟨v, r, e, q, a, t, n⟩ => by
    cases e
    show NotIn _ ss r
    exact SReps.notIn h t
  | .own d :: ss, _, ⟨v, r, e, ⟨u, ho, ev, hu, hr, f⟩, a, t, n⟩ => by
    cases e; subst ev
    refine ⟨fun y => ?_, SReps.notIn h t⟩
    cases y
    rw [f.2.1] at h; cases h
theorem sas_cons {te : TE} {m : E} {t : TA} {ms : List E} (h : SndE K W te m) (h2 : SndAS K W t ms) : SndAS K W (tCons te t) (m :: ms) := fun x σ H z r Q q => by
  refine h x σ H z r _ ?_
  refine (Post.bind (f := fun s z1 => (argsS ms z1).bind fun ss z2 => .ok (s :: ss) z2) q).imp fun x1 H1 s z1 l1 r1 k v b a => ?_
  cases s with
  | frz d =>
    refine h2 x1 σ H1 z1 r1 _ ?_
    exact (Post.bind (f := fun ss z2 => .ok (.frz d :: ss) z2) k).imp fun x2 H2 ss z2 l2 r2 k2 vs bs => k2 x2 H2 (.refl _) r2 (v :: vs) ⟨v, vs, rfl, Rep.mono l2 b, trivial, bs, fun d e => nomatch e⟩
  | own d =>
    obtain ⟨p, ho, ev, hp, hr, f⟩ := b
    subst ev
    have r1' := r1.more hp f a
    refine h2 _ σ H1 z1 r1' _ ?_
    have exF : Ex x1.Fr (upd x1.Fr p ho) := Ex.new f.2.1
    have kk := Post.bind (f := fun ss z2 => .ok (S.own d :: ss) z2) k
    cases e : argsS ms z1 with
    | ok ss z2 =>
      rw [e] at kk
      intro x2 H2 l2 r2 vs bs
      have l2' := l2.back
      have frE : x2.Fr = upd x1.Fr p ho := l2.fr
      have ex2 : Ex x1.Fr x2.Fr := by rw [frE]; exact exF
      have r2' := r2.less ex2
      obtain ⟨h1, h3⟩ := R0.pend (F := x1.Fr) r2.r0 (by rw [frE]; exact upd_same) f.2.1
      refine kk _ H2 l2' r2' _ H2 (.refl _) r2' (.ref p :: vs) ⟨_, _, rfl, ⟨p, ho, rfl, h1, ?_, h3⟩, ?_, bs.less ex2, fun _ _ => bs.notIn (by rw [frE]; exact upd_same)⟩
      · exact HRep.mono0 (x := x1) (y := x2.fr' x1.Fr) ⟨l2.hs, l2.st⟩ hr
      · intro j d' ej y
        obtain ⟨u, a1, q, ho', eu, hq, hr', fq⟩ := r2.sl j _ ej
        rw [a1] at y; cases y; cases eu
        have := fq.2.1
        rw [frE, upd_same] at this; cases this
    | exc e1 z2 =>
      rw [e] at kk
      intro x2 H2 cls dd l2 r2 er
      have frE : x2.Fr = upd x1.Fr p ho := l2.fr
      have ex2 : Ex x1.Fr x2.Fr := by rw [frE]; exact exF
      obtain ⟨e3, dd', fs, e4, e5, e6⟩ := er
      exact kk _ H2 cls dd l2.back (r2.less ex2) ⟨e3, dd', fs, e4, e5, fun f' y hy => by obtain ⟨w, h7, h8⟩ := e6 f' y hy; exact ⟨w, h7, Rep.mono0 (x2.fr0 _) h8⟩⟩
    | stk => rw [e] at kk; exact kk
/-- the stores -/
theorem puts_ok {i j : Nat} {s t : S} {v w : V} (r : R K x σ H z) (h : SReps K x H σ z [s, t] [v, w]) (hij : i ≠ j) : R K x ((σ.set i (some v)).set j (some w)) H ((z.put i (some s)).put j (some t)) := by
  obtain ⟨v', r', e, b1, a1, ⟨w', r2, e2, b2, a2, _, _⟩, n⟩ := h
  cases e; cases e2
  refine (r.put b1 a1).put b2 ?_
  cases t with
  | frz d => trivial
  | own d =>
    intro k dk ek y
    have ek' : (z.r.set i (some s))[k]? = some (some (S.own dk)) := ek
    by_cases hk : i = k
    · subst hk
      have hl : i < z.r.length := by
        have := (List.getElem?_eq_some_iff.mp ek').1
        rwa [List.length_set] at this
      rw [List.getElem?_set_self hl] at ek'
      rw [List.getElem?_set_self (by rw [← r.len]; exact hl)] at y
      cases ek'; cases y
      exact (n _ rfl).1 rfl
    · rw [List.getElem?_set_ne hk] at ek' y
      exact a2 k dk ek' y
theorem ss_par {i j : Nat} {ta : TA} {m1 m2 : E} (ha : SndAS K W ta [m1, m2]) (hij : i ≠ j) : SndS K W (tPar i j ta) (sPar [i, j] [m1, m2]) := fun x σ H z r De h => by
  refine ha x σ H z r _ ?_
  refine (PostS.bindE (f := fun ss z1 => match puts [i, j] ss z1 with
    | some z2 => .ok .nx z2
    | none => .stk) h).imp fun x1 H1 ss z1 l1 r1 q vs b => ?_
  match ss, q, b with
  | [], q, _ => exact q.elim
  | [_], q, _ => exact q.elim
  | [s, t], q, b =>
    obtain ⟨v, r', rfl, b1, a1, ⟨w, r2, rfl, b2, a2, e3, n2⟩, n⟩ := b
    cases e3
    exact ⟨v, w, rfl, q x1 _ H1 (.refl _) (puts_ok r1 ⟨v, _, rfl, b1, a1, ⟨w, _, rfl, b2, a2, rfl, n2⟩, n⟩ hij)⟩
  | _ :: _ :: _ :: _, q, _ => exact q.elim
theorem SReps.put {i : Nat} {s : S} {v : V} (r : R K x σ H z) : ∀ {ss : List S} {vs : List V}, SReps K x H σ z ss vs → (∀ d, s = .own d → NotIn v ss vs) → SReps K x H (σ.set i (some v)) (z.put i (some s)) ss vs
  | [], _, e, _ => e
  | t :: ss, _, ⟨w, u, e, b, a, tl, n⟩, h => by
    subst e
    have hs : ∀ d, s = .own d → NotIn v ss u := fun d e => by
      have := h d e
      cases t with
      | frz _ => exact this
      | own _ => exact this.2
    refine ⟨w, u, rfl, b, ?_, SReps.put r tl hs, n⟩
    cases t with
    | frz d => trivial
    | own d =>
      intro k dk ek y
      have ek' : (z.r.set i (some s))[k]? = some (some (S.own dk)) := ek
      by_cases hk : i = k
      · subst hk
        have hl : i < z.r.length := by
          have := (List.getElem?_eq_some_iff.mp ek').1
          rwa [List.length_set] at this
        rw [List.getElem?_set_self hl] at ek'
        rw [List.getElem?_set_self (by rw [← r.len]; exact hl)] at y
        cases ek'; cases y
        exact (h _ rfl).1 rfl
      · rw [List.getElem?_set_ne hk] at ek' y
        exact a k dk ek' y
theorem ss_par3 {i j l : Nat} {ta : TA} {m1 m2 m3 : E} (ha : SndAS K W ta [m1, m2, m3]) : SndS K W (tPar3 i j l ta) (sPar [i, j, l] [m1, m2, m3]) := fun x σ H z r De h => by
  refine ha x σ H z r _ ?_
  refine (PostS.bindE (f := fun ss z1 => match puts [i, j, l] ss z1 with
    | some z2 => .ok .nx z2
    | none => .stk) h).imp fun x1 H1 ss z1 l1 r1 q vs b => ?_
  match ss, q, b with
  | [], q, _ => exact q.elim
  | [_], q, _ => exact q.elim
  | [_, _], q, _ => exact q.elim
  | [s, t, p], q, b =>
    obtain ⟨v, u, rfl, b1, a1, bt, n1⟩ := b
    have bt2 := SReps.put (i := i) (s := s) (v := v) r1 bt n1
    have r2 := r1.put (i := i) b1 a1
    obtain ⟨w, u2, rfl, b2, a2, bu, n2⟩ := bt2
    have bu2 := SReps.put (i := j) (s := t) (v := w) r2 bu n2
    have r3 := r2.put (i := j) b2 a2
    obtain ⟨w3, u3, rfl, b3, a3, e3, n3⟩ := bu2
    cases e3
    exact ⟨v, w, w3, rfl, q x1 _ H1 (.refl _) (r3.put (i := l) b3 a3)⟩
  | _ :: _ :: _ :: _ :: _, q, _ => exact q.elim
end
end Zn

/-! ZLoop: append, loops, comprehensions. -/
namespace Zn
open PySem L2 Evl
section
variable {K : PySem.W.Frag} {x y : Aux} {σ : L2.St} {H : Hp} {z : Zs} {W : WX} {De : Ends}
theorem ss_app {i : Nat} {te : TE} {e : E} (he : SndE K W te e) : SndS K W (tDrop (tBM K "list" rAppend (tVar i) (tCons te tNil))) (sApp i e) := fun x σ H z r De h => by
  unfold sApp at h
  split at h
  · rename_i hi
    unfold Zs.isL at hi
    cases e1 : z.r[i]? with
    | none => rw [e1] at hi; cases hi
    | some o =>
      cases o with
      | none => rw [e1] at hi; cases hi
      | some s0 =>
        cases s0 with
        | frz d => rw [e1] at hi; cases hi
        | own d =>
          cases d <;> first | (rw [e1] at hi; cases hi; done) | skip
          obtain ⟨v, a, p, ho, ev, hp, hr, f⟩ := r.sl i _ e1
          subst ev
          cases ho <;> first | exact hr.elim | skip
          refine ⟨_, a, .inl ⟨rfl, _, SqL.of hp⟩, ?_⟩
          refine he.toD r ?_
          refine (PostS.bindE (f := fun s z1 => match appAt i s.d z1 with
            | some z2 => .ok .nx z2
            | none => .stk) h).imp fun x1 H1 s z1 l1 r1 q w b => ?_
          cases e2 : appAt i s.d z1 with
          | none => rw [e2] at q; exact q.elim
          | some z2 =>
            rw [e2] at q
            unfold appAt at e2
            cases e3 : z1.r[i]? with
            | none => rw [e3] at e2; cases e2
            | some o =>
              cases o with
              | none => rw [e3] at e2; cases e2
              | some s1 =>
                cases s1 with
                | frz d => rw [e3] at e2; cases e2
                | own d =>
                  cases d <;> first | (rw [e3] at e2; cases e2; done) | skip
                  rename_i l
                  rw [e3] at e2
                  dsimp only at e2
                  split at e2
                  · rename_i hlt
                    cases e2
                    obtain ⟨p2, ho2, a2, hp2, hr2, ch⟩ := r1.change (d' := .lst (l ++ [s.d])) e3
                    rw [a] at a2; cases a2
                    cases ho2 <;> first | exact hr2.elim | skip
                    rename_i vs
                    have hr2' : Reps K x1 l vs := hr2
                    exact ⟨_, vs, w, rfl, rfl, hp2, by rw [hr2'.length]; exact hlt, q x1 σ _ (.refl _) (ch (.lst (vs ++ [w])) (hr2'.app (Reps.one b)))⟩
                  · cases e2
  · exact h.elim
/-! ### while -/
theorem ss_wh {tt : TT} {tb : TS} {c : T} {b : SS} (hc : SndT K W tt c) (hb : SndS K W tb b) : SndS K W (tWhile tt tb) (sWh c b) := fun x σ H z r De h => by
  unfold sWh at h
  split at h
  · rename_i hex
    obtain ⟨o, ho⟩ : ∃ o, o = (hex.choose_spec).choose := ⟨_, rfl⟩
    have hspec := (hex.choose_spec).choose_spec
    rw [← ho] at h hspec
    refine ⟨fun m σ' H' => ∃ x' z', x.le x' ∧ R K x' σ' H' z' ∧ ∃ o, whF c b m z' = some o ∧ PostS K x' σ' W De o, ⟨_, x, z, .refl _, r, o, hspec, h⟩, ?_⟩
    rintro m σ' H' ⟨x', z', l', r', o', hw, hp⟩
    cases m with
    | zero => cases hw
    | succ n =>
      unfold whF at hw
      refine hc x' σ' H' z' r' _ ?_
      cases ec : c z' with
      | ok k z1 =>
        intro x1 H1 l1 r1
        rw [ec] at hw
        cases k with
        | false =>
          cases hw
          exact hp x1 σ' H1 l1 r1
        | true =>
          refine ⟨fun σ2 H2 => ∃ x2 z2, x'.le x2 ∧ R K x2 σ2 H2 z2 ∧ ∃ o, whF c b n z2 = some o ∧ PostS K x2 σ2 W De o, fun σ2 H2 ⟨x2, z2, l2, r2, o2, h1, h2⟩ => ⟨n, Nat.lt_succ_self n, x2, z2, l'.trans l2, r2, o2, h1, h2⟩, ?_⟩
          refine hb x1 σ' H1 z1 r1 _ ?_
          dsimp only at hw
          cases eb : b z1 with
          | ok f z2 =>
            rw [eb] at hw
            cases f with
            | nx => exact fun x2 σ2 H2 l2 r2 => ⟨x2, z2, l1.trans l2, r2, o', hw, (PostS.mono (l1.trans l2) hp).sig⟩
            | ct => exact fun x2 σ2 H2 l2 r2 => ⟨x2, z2, l1.trans l2, r2, o', hw, (PostS.mono (l1.trans l2) hp).sig⟩
            | bk => cases hw; exact fun x2 σ2 H2 l2 r2 => hp x2 σ2 H2 (l1.trans l2) r2
            | rt s => cases hw; exact fun x2 H2 v l2 r2 q => hp x2 H2 v (l1.trans l2) r2 q
          | exc e z2 => rw [eb] at hw; cases hw; exact fun x2 σ2 H2 cls d l2 => hp x2 σ2 H2 cls d (l1.trans l2)
          | stk => rw [eb] at hw; cases hw; exact hp.elim
      | exc e z1 => rw [ec] at hw; cases hw; exact fun x2 H2 cls d l2 => hp x2 σ' H2 cls d l2
      | stk => rw [ec] at hw; cases hw; exact hp.elim
  · exact h.elim
/-! ### what is walked -/
theorem si_list {te : TE} {e : E} (he : SndE K W te e) : SndI K W (L2.iList K te) (iList e) := fun x σ H z r Q h => by
  refine he.toD r ?_
  refine (Post.bind (f := fun s z1 => match s.d with
    | .lst l => .ok l z1
    | _ => .stk) h).imp fun x1 H1 s z1 l1 r1 q v b => ?_
  cases hd : s.d <;> rw [hd] at q b <;> first | exact q.elim | skip
  obtain ⟨a, vs, ev, hp, hr⟩ := b
  exact ⟨a, ev, ⟨vs, SqL.of (r1.r0.hs _ _ hp)⟩, (q x1 H1 (.refl _) r1).1 a vs hp hr⟩
theorem si_tup {te : TE} {e : E} (he : SndE K W te e) : SndI K W (L2.iTup K te) (iTup e) := fun x σ H z r Q h => by
  refine he.toD r ?_
  refine (Post.bind (f := fun s z1 => match s.d with
    | .tup l => .ok l z1
    | _ => .stk) h).imp fun x1 H1 s z1 l1 r1 q v b => ?_
  cases hd : s.d <;> rw [hd] at q b <;> first | exact q.elim | skip
  obtain ⟨a, vs, ev, hp, hr⟩ := b
  exact ⟨a, ev, ⟨vs, ex_t r1.r0.hs hp⟩, (q x1 H1 (.refl _) r1).2.1 a vs hp hr⟩
theorem smallI_ok {i : Int} (h : smallI i = true) : -(2 ^ 62) ≤ i ∧ i < 2 ^ 62 := by
  obtain ⟨h1, h2⟩ := Bool.and_eq_true_iff.mp h
  exact ⟨of_decide_eq_true h1, of_decide_eq_true h2⟩
theorem si_r1 {te : TE} {o : Opd} (he : SndO K W te o) : SndI K W (iRng1 (tCons te tNil)) (iR1 o) := fun x σ H z r Q h => by
  refine he x σ H z r _ ?_
  refine (Post.bind (f := fun y z1 => match z1.res y with
    | some (.int b) => if smallI b then .ok (rng 0 b) z1 else .stk
    | _ => .stk) h).imp fun x1 H1 n z1 l1 r1 q v b => ?_
  cases e : z1.res n with
  | none => rw [e] at q; exact q.elim
  | some d =>
    rw [e] at q
    cases d <;> first | exact q.elim | skip
    dsimp only at q
    split at q
    · rename_i j hj
      obtain ⟨h1, h2⟩ := smallI_ok hj
      refine ⟨j, by rw [BRep.int (b.res r1 e)], h1, h2, (q x1 H1 (.refl _) r1).2.2 0 _ ?_⟩
      unfold rng
      rw [Int.sub_zero]
    · exact q.elim
theorem si_r2 {ta tb : TE} {a b : Opd} (ha : SndO K W ta a) (hb : SndO K W tb b) : SndI K W (iRng2 (tCons ta (tCons tb tNil))) (iR2 a b) := fun x σ H z r Q h => by
  refine ha x σ H z r _ ?_
  refine (Post.bind (f := fun x z1 => (evO b z1).bind fun y z2 => match z2.res x, z2.res y with
    | some (.int a), some (.int b) => if smallI a && smallI b then .ok (rng a b) z2 else .stk
    | _, _ => .stk) h).imp fun x1 H1 n z1 l1 r1 k v bv => ?_
  refine hb x1 σ H1 z1 r1 _ ?_
  refine (Post.bind k).imp fun x2 H2 m z2 l2 r2 q u bu => ?_
  have bv2 := OR.mono l2 bv
  cases e1 : z2.res n with
  | none => rw [e1] at q; exact q.elim
  | some d1 =>
    cases e2 : z2.res m with
    | none => rw [e1, e2] at q; cases d1 <;> exact q.elim
    | some d2 =>
      rw [e1, e2] at q
      cases d1 <;> first | exact q.elim | skip
      cases d2 <;> first | exact q.elim | skip
      dsimp only at q
      split at q
      · rename_i i j hij
        obtain ⟨hi, hj⟩ := Bool.and_eq_true_iff.mp hij
        obtain ⟨h1, h2⟩ := smallI_ok hi
        obtain ⟨h3, h4⟩ := smallI_ok hj
        exact ⟨i, j, by rw [BRep.int (bv2.res r2 e1), BRep.int (bu.res r2 e2)], ⟨h1, h2, h3, h4⟩, (q x2 H2 (.refl _) r2).2.2 i _ rfl⟩
      · exact q.elim
/-! ### for -/
theorem for_step {g : TG} {t : Tg} {tb : TS} {b : SS} (hg : SndG K W g t) (hb : SndS K W tb b) {ds : List D} {i : Nat} {d : D} {v : V} (hd : ds[i]? = some d) (r : R K x σ H z) (hv : Rep K x d v) (hp : PostS K x σ W De (forL t b (ds.drop i) z))
    {N : L2.St → Hp → Prop} (hN : ∀ x' σ' H' z', x.le x' → R K x' σ' H' z' → PostS K x' σ' W De (forL t b (ds.drop (i + 1)) z') → N σ' H') :
    g v σ H fun σ2 H2 => tb { De with nx := N, ct := N, bk := De.nx } σ2 H2 := by
  have e : ds.drop i = d :: ds.drop (i + 1) := by
    have hl := (List.getElem?_eq_some_iff.mp hd)
    obtain ⟨hl, he⟩ := hl
    rw [List.drop_eq_getElem_cons hl, he]
  rw [e] at hp
  unfold forL at hp
  refine hg x σ H z v (.frz d) r hv trivial _ ?_
  cases ea : asg t (.frz d) z with
  | ok u z1 =>
    rw [ea] at hp
    intro x1 σ1 H1 l1 r1
    refine hb x1 σ1 H1 z1 r1 _ ?_
    have hp1 : PostS K x1 σ1 W De ((b z1).bind fun f z2 => match f with
      | .nx => forL t b (ds.drop (i + 1)) z2
      | .ct => forL t b (ds.drop (i + 1)) z2
      | .bk => .ok .nx z2
      | .rt s => .ok (.rt s) z2) := (PostS.mono l1 hp).sig
    cases eb : b z1 with
    | ok f z2 =>
      rw [eb] at hp1
      cases f with
      | nx => exact fun x2 σ2 H2 l2 r2 => hN x2 σ2 H2 z2 (l1.trans l2) r2 (PostS.mono l2 hp1).sig
      | ct => exact fun x2 σ2 H2 l2 r2 => hN x2 σ2 H2 z2 (l1.trans l2) r2 (PostS.mono l2 hp1).sig
      | bk => exact hp1
      | rt s => exact hp1
    | exc e1 z2 => rw [eb] at hp1; exact hp1
    | stk => rw [eb] at hp1; exact hp1
  | exc e1 z1 => rw [ea] at hp; exact hp
  | stk => rw [ea] at hp; exact hp
theorem ss_for {wi : TI} {g : TG} {t : Tg} {tb : TS} {i : I} {b : SS} (hi : SndI K W wi i) (hg : SndG K W g t) (hb : SndS K W tb b) : SndS K W (tFor wi g tb) (sFor t i b) := fun x σ H z r De h => by
  refine hi x σ H z r _ ?_
  refine (PostS.bindE (f := fun l z1 => forL t b l z1) h).imp fun x1 H1 ds z1 l1 r1 q => ?_
  have stop : ∀ σ' H', (∃ x' z', x1.le x' ∧ R K x' σ' H' z' ∧ PostS K x' σ' W De (forL t b (ds.drop ds.length) z')) → De.nx σ' H' := by
    rintro σ' H' ⟨x', z', l', r', p⟩
    rw [List.drop_length] at p
    exact p x' σ' H' (.refl _) r'
  refine ⟨fun a vs ha hr => ?_, fun a vs ha hr => ?_, fun lo n e => ?_⟩
  · refine for_list (K := K) (a := a) (xs := vs) (fun k σ' H' => ∃ x' z', x1.le x' ∧ R K x' σ' H' z' ∧ PostS K x' σ' W De (forL t b (ds.drop k) z')) ⟨x1, z1, .refl _, r1, q⟩ (fun k σ' H' _ ⟨x', z', l', r', _⟩ => SqL.of (r'.r0.hs _ _ (l'.hs _ _ ha))) ?_ ?_
    · rintro k v σ' H' hk ⟨x', z', l', r', p⟩
      obtain ⟨d, hd, hv⟩ := hr.getV hk
      exact for_step hg hb hd r' (Rep.mono l' hv) p fun x2 σ2 H2 z2 l2 r2 p2 => ⟨x2, z2, l'.trans l2, r2, p2⟩
    · intro σ' H' hh
      rw [hr.length] at hh
      exact stop σ' H' hh
  · refine for_tup (K := K) (a := a) (xs := vs) (fun k σ' H' => ∃ x' z', x1.le x' ∧ R K x' σ' H' z' ∧ PostS K x' σ' W De (forL t b (ds.drop k) z')) ⟨x1, z1, .refl _, r1, q⟩ (fun k σ' H' _ ⟨x', z', l', r', _⟩ => ex_t r'.r0.hs (ex_t l'.hs ha)) ?_ ?_
    · rintro k v σ' H' hk ⟨x', z', l', r', p⟩
      obtain ⟨d, hd, hv⟩ := hr.getV hk
      exact for_step hg hb hd r' (Rep.mono l' hv) p fun x2 σ2 H2 z2 l2 r2 p2 => ⟨x2, z2, l'.trans l2, r2, p2⟩
    · intro σ' H' hh
      rw [hr.length] at hh
      exact stop σ' H' hh
  · refine for_range (lo := lo) (n := n) (fun k σ' H' => ∃ x' z', x1.le x' ∧ R K x' σ' H' z' ∧ PostS K x' σ' W De (forL t b (ds.drop k) z')) ⟨x1, z1, .refl _, r1, q⟩ ?_ ?_
    · rintro k σ' H' hk ⟨x', z', l', r', p⟩
      have hd : ds[k]? = some (D.int (lo + (k : Int))) := by rw [e, List.getElem?_map, List.getElem?_range hk]; rfl
      exact for_step hg hb hd r' rfl p fun x2 σ2 H2 z2 l2 r2 p2 => ⟨x2, z2, l'.trans l2, r2, p2⟩
    · intro σ' H' hh
      have hn : ds.length = n := by rw [e, List.length_map, List.length_range]
      rw [← hn] at hh
      exact stop σ' H' hh
end
end Zn

/-! ZComp: comprehensions. -/
namespace Zn
open PySem L2 Evl
abbrev W0 : WX := fun _ _ _ _ => False
/-- a comprehension's target: it stores the block's own names alone -/
def SndGw (K : PySem.W.Frag) (vs : List Nat) (t : TG) (g : Tg) : Prop := ∀ x σ H z v d, R K x σ H z → Rep K x d v → ∀ u z2, asg g (.frz d) z = .ok u z2 → ∀ Q : L2.St → Hp → Prop, (∀ σ2, R K x σ2 H z2 → L2.wipe σ2 vs = L2.wipe σ vs → Q σ2 H) → t v σ H Q
def SndGsw (K : PySem.W.Frag) (vs : List Nat) (t : TGs) (g : List Tg) : Prop := ∀ x σ H z us ds, R K x σ H z → Reps K x ds us → ∀ u z2, asgs g ds z = .ok u z2 → ∀ Q : L2.St → Hp → Prop, (∀ σ2, R K x σ2 H z2 → L2.wipe σ2 vs = L2.wipe σ vs → Q σ2 H) → t us σ H Q
def semGw (K : PySem.W.Frag) (vs : List Nat) (g : Tg) : TG := fun v σ H Q => ∃ x z d, R K x σ H z ∧ Rep K x d v ∧ ∃ u z2, asg g (.frz d) z = .ok u z2 ∧ (∀ σ2, R K x σ2 H z2 → L2.wipe σ2 vs = L2.wipe σ vs → Q σ2 H)
abbrev GDw (X : Cx) (vs : List Nat) (e : Expr) (g : Tg) : Prop := PG X e (semGw X.K vs g)
theorem sndGw {K : PySem.W.Frag} {vs : List Nat} {g : Tg} : SndGw K vs (semGw K vs g) g := fun x _ _ z v d r h u z2 e Q q => ⟨x, z, d, r, h, u, z2, e, q⟩
theorem GDw.of {X : Cx} {vs : List Nat} {e : Expr} {t : TG} {g : Tg} (h : PG X e t) (s : SndGw X.K vs t g) : GDw X vs e g := ⟨fun pins s0 σ H v u Q I rv ⟨x, z, d, r, hd, u2, z2, ea, q⟩ => h.run pins s0 σ H v u Q I rv (s x σ H z v d r hd u2 z2 ea Q q)⟩
def semGsw (K : PySem.W.Frag) (vs : List Nat) (g : List Tg) : TGs := fun us σ H Q => ∃ x z ds, R K x σ H z ∧ Reps K x ds us ∧ ∃ u z2, asgs g ds z = .ok u z2 ∧ (∀ σ2, R K x σ2 H z2 → L2.wipe σ2 vs = L2.wipe σ vs → Q σ2 H)
abbrev GDsw (X : Cx) (vs : List Nat) (e : List Expr) (g : List Tg) : Prop := PGs X e (semGsw X.K vs g)
theorem sndGsw {K : PySem.W.Frag} {vs : List Nat} {g : List Tg} : SndGsw K vs (semGsw K vs g) g := fun x _ _ z v d r h u z2 e Q q => ⟨x, z, d, r, h, u, z2, e, q⟩
theorem GDsw.of {X : Cx} {vs : List Nat} {e : List Expr} {t : TGs} {g : List Tg} (h : PGs X e t) (s : SndGsw X.K vs t g) : GDsw X vs e g := ⟨fun pins s0 σ H v u Q I rv ⟨x, z, d, r, hd, u2, z2, ea, q⟩ => h.run pins s0 σ H v u Q I rv (s x σ H z v d r hd u2 z2 ea Q q)⟩
abbrev PDts (X : Cx) (W : WX) (ifs : List Expr) (m : T) : Prop := PTs X ifs (semT X.K W m)
theorem PDts.of {X : Cx} {W : WX} {e : List Expr} {t : TT} {m : T} (h : PTs X e t) (s : SndT X.K W t m) : PDts X W e m := ⟨fun pins s0 σ H Q I ⟨x, z, r, p⟩ => h.run pins s0 σ H Q I (s x σ H z r Q p)⟩
theorem set_nil' {σ : L2.St} {i : Nat} {x y : Option V} : (σ.set i x).set i y = σ.set i y := List.set_set ..
theorem wipe_len (σ : L2.St) (vs : List Nat) : (L2.wipe σ vs).length = σ.length := L2.wipe_length σ vs
theorem wipe_set {σ : L2.St} {i : Nat} {x : Option V} : ∀ {vs : List Nat}, i ∈ vs → L2.wipe (σ.set i x) vs = L2.wipe σ vs
  | [], h => by cases h
  | v :: vs, h => by
    unfold L2.wipe
    by_cases e : v = i
    · subst e
      by_cases hm : v ∈ vs
      · rw [wipe_set hm]
      · have comm : ∀ (ws : List Nat) (τ : L2.St), v ∉ ws → L2.wipe (τ.set v x) ws = (L2.wipe τ ws).set v x := by
          intro ws
          induction ws with
          | nil => intro τ _; rfl
          | cons w ws ih =>
            intro τ hn
            unfold L2.wipe
            rw [ih τ (fun q => hn (List.mem_cons_of_mem _ q))]
            exact List.set_comm _ _ (fun q => hn (q ▸ List.mem_cons_self))
        rw [comm vs σ hm, List.set_set]
    · have hm : i ∈ vs := by
        rcases List.mem_cons.mp h with q | q
        · exact absurd q.symm e
        · exact q
      rw [wipe_set hm]
theorem wipe_wipe {σ : L2.St} : ∀ {vs : List Nat}, L2.wipe (L2.wipe σ vs) vs = L2.wipe σ vs := fun {vs} => by
  have key : ∀ (ws : List Nat), (∀ w ∈ ws, w ∈ vs) → L2.wipe (L2.wipe σ ws) vs = L2.wipe σ vs := by
    intro ws
    induction ws with
    | nil => intro _; rfl
    | cons w ws ih =>
      intro h
      show L2.wipe ((L2.wipe σ ws).set w none) vs = _
      rw [wipe_set (h w List.mem_cons_self)]
      exact ih fun u hu => h u (List.mem_cons_of_mem _ hu)
  exact key vs fun _ h => h
section
variable {K : PySem.W.Frag} {x y : Aux} {σ : L2.St} {H : Hp} {z : Zs} {W : WX} {vs : List Nat}
theorem gw_nm {i : Nat} (h : i ∈ vs) : SndGw K vs (gName i) (.nm i) := fun x σ H z v d r hr u z2 e Q q => by
  cases e
  exact q _ (r.put (s := .frz d) hr trivial) (wipe_set h)
theorem gsw_nil : SndGsw K vs gNil [] := fun x σ H z us ds r hr u z2 e Q q => by
  cases ds with
  | nil => cases hr; cases e; exact ⟨rfl, q σ r rfl⟩
  | cons d ds => unfold asgs at e; cases e
theorem gsw_cons {t : TG} {g : Tg} {ts : TGs} {gs : List Tg} (h1 : SndGw K vs t g) (h2 : SndGsw K vs ts gs) : SndGsw K vs (gCons t ts) (g :: gs) := fun x σ H z us ds r hr u z2 e Q q => by
  cases ds with
  | nil => unfold asgs at e; cases e
  | cons d ds =>
    obtain ⟨v, vr, rfl, b, br⟩ := hr
    unfold asgs at e
    cases ea : asg g (.frz d) z with
    | ok u1 z1 =>
      rw [ea] at e
      exact ⟨v, vr, rfl, h1 x σ H z v d r b u1 z1 ea _ fun σ2 r2 w2 => h2 x σ2 H z1 vr ds r2 br u z2 e Q fun σ3 r3 w3 => q σ3 r3 (w3.trans w2)⟩
    | exc e1 z1 => rw [ea] at e; cases e
    | stk => rw [ea] at e; cases e
theorem gw_tup {n : Nat} {t : TGs} {gs : List Tg} (h : SndGsw K vs t gs) (hn : gs.length = n) : SndGw K vs (gTup K n t) (.tp gs) := fun x σ H z v d r hr u z2 e Q q => by
  cases d <;> first | (unfold asg at e; cases e; done) | skip
  unfold asg at e
  split at e
  · rename_i l hl
    obtain ⟨a, us, rfl, hp, hr⟩ := hr
    exact ⟨a, us, rfl, ex_t r.r0.hs hp, by rw [hr.length, hl, hn], h x σ H z us l r hr u z2 e Q q⟩
  · cases e
theorem zwipe_get {i : Nat} {s : S} (h : (Zn.wipe vs z).r[i]? = some (some s)) : z.r[i]? = some (some s) ∧ i ∉ vs := by
  have key : ∀ (ws : List Nat), (ws.foldr (fun v r => r.set v none) z.r)[i]? = some (some s) → z.r[i]? = some (some s) ∧ i ∉ ws := by
    intro ws
    induction ws with
    | nil => intro h; exact ⟨h, by simp⟩
    | cons w ws ih =>
      intro h
      have h' : ((ws.foldr (fun v r => r.set v none) z.r).set w none)[i]? = some (some s) := h
      by_cases e : w = i
      · subst e
        by_cases hl : w < (ws.foldr (fun v r => r.set v none) z.r).length
        · rw [List.getElem?_set_self hl] at h'; cases h'
        · rw [List.getElem?_eq_none (by rw [List.length_set]; omega)] at h'; cases h'
      · rw [List.getElem?_set_ne e] at h'
        obtain ⟨a, b⟩ := ih h'
        exact ⟨a, fun q => by
          rcases List.mem_cons.mp q with q | q
          · exact e q.symm
          · exact b q⟩
  exact key vs h
theorem zwipe_len : (Zn.wipe vs z).r.length = z.r.length := by
  have key : ∀ (ws : List Nat), (ws.foldr (fun v r => r.set v none) z.r).length = z.r.length := by
    intro ws
    induction ws with
    | nil => rfl
    | cons w ws ih => exact (List.length_set ..).trans ih
  exact key vs
theorem wipe_get {i : Nat} (h : i ∉ vs) : (L2.wipe σ vs)[i]? = σ[i]? := L2.wipe_out h
theorem R.wipe (r : R K x σ H z) : R K x (L2.wipe σ vs) H (Zn.wipe vs z) := by
  refine ⟨r.r0, by rw [zwipe_len, wipe_len, r.len], fun i s e => ?_, fun i j d d' n e1 e2 => ?_⟩
  · obtain ⟨e', hn⟩ := zwipe_get e
    obtain ⟨v, a, b⟩ := r.sl i s e'
    exact ⟨v, by rw [wipe_get hn]; exact a, b⟩
  · obtain ⟨e1', n1⟩ := zwipe_get e1
    obtain ⟨e2', n2⟩ := zwipe_get e2
    rw [wipe_get n1, wipe_get n2]
    exact r.ap i j d d' n e1' e2'
theorem R.unwipe (r : R K x (L2.wipe σ vs) H z) : R K x σ H z := by
  have key : ∀ (i : Nat) s, z.r[i]? = some (some s) → i ∉ vs := fun i s e => by
    obtain ⟨v, a, b⟩ := r.sl i s e
    exact (L2.wipe_some a).2
  refine ⟨r.r0, by rw [r.len, wipe_len], fun i s e => ?_, fun i j d d' n e1 e2 => ?_⟩
  · obtain ⟨v, a, b⟩ := r.sl i s e
    exact ⟨v, by rw [← wipe_get (key i s e)]; exact a, b⟩
  · have := r.ap i j d d' n e1 e2
    rwa [wipe_get (key i _ e1), wipe_get (key j _ e2)] at this
theorem unwR_or (q r : List (Option S)) (v : Nat) : unwR q v r = r ∨ ∃ d, q[v]? = some (some (.frz d)) ∧ unwR q v r = r.set v (some (.frz d)) := by
  unfold unwR
  split
  · rename_i d h
    exact .inr ⟨d, h, rfl⟩
  · exact .inl rfl
theorem unw_get {z1 z2 : Zs} {i : Nat} {s : S} (h : (unw vs z1 z2).r[i]? = some (some s)) : z2.r[i]? = some (some s) ∨ ∃ d, s = .frz d ∧ z1.r[i]? = some (some (.frz d)) := by
  have key : ∀ (ws : List Nat), (ws.foldr (unwR z1.r) z2.r)[i]? = some (some s) → z2.r[i]? = some (some s) ∨ ∃ d, s = .frz d ∧ z1.r[i]? = some (some (.frz d)) := by
    intro ws
    induction ws with
    | nil => intro h; exact .inl h
    | cons w ws ih =>
      intro h
      rw [List.foldr_cons] at h
      rcases unwR_or z1.r (ws.foldr (unwR z1.r) z2.r) w with e | ⟨d, hd, e⟩
      · rw [e] at h; exact ih h
      · rw [e] at h
        by_cases e : w = i
        · subst e
          by_cases hl : w < (ws.foldr (unwR z1.r) z2.r).length
          · rw [List.getElem?_set_self hl] at h
            cases h
            exact .inr ⟨d, rfl, hd⟩
          · rw [List.getElem?_eq_none (by rw [List.length_set]; omega)] at h; cases h
        · rw [List.getElem?_set_ne e] at h
          exact ih h
  exact key vs h
theorem unw_own {z1 z2 : Zs} {i : Nat} {d : D} (h : (unw vs z1 z2).r[i]? = some (some (.own d))) : z2.r[i]? = some (some (.own d)) := by
  rcases unw_get h with h | ⟨d', e, _⟩
  · exact h
  · cases e
theorem unw_len {z1 z2 : Zs} : (unw vs z1 z2).r.length = z2.r.length := by
  have key : ∀ (ws : List Nat), (ws.foldr (unwR z1.r) z2.r).length = z2.r.length := by
    intro ws
    induction ws with
    | nil => rfl
    | cons w ws ih =>
      rw [List.foldr_cons]
      rcases unwR_or z1.r (ws.foldr (unwR z1.r) z2.r) w with e | ⟨d, hd, e⟩
      · rw [e]; exact ih
      · rw [e, List.length_set]; exact ih
  exact key vs
theorem R.rest {z1 z2 : Zs} {H1 : Hp} (r1 : R K x σ H1 z1) (l : x.le y) (r2 : R K y σ H z2) : R K y σ H (unw vs z1 z2) := by
  refine ⟨r2.r0, by rw [unw_len, r2.len], fun i s e => ?_, fun i j d d' n e1 e2 => r2.ap i j d d' n (unw_own e1) (unw_own e2)⟩
  rcases unw_get e with h | ⟨d, rfl, h⟩
  · exact r2.sl i s h
  · obtain ⟨v, a, b⟩ := r1.sl i _ h
    exact ⟨v, a, Rep.mono l b⟩
/-- the pending object changes -/
theorem R.turn {F : Hp} {p : Addr} {o o' : HO} (r : R K x σ H z) (hF : x.Fr = upd F p o) (hn : F p = none) : R K (x.fr' (upd F p o')) σ (upd H p o') z := by
  have hp : x.Fr p = some o := by rw [hF]; exact upd_same
  obtain ⟨h1, h2, _, h4⟩ := R0.pend (F := F) r.r0 hp hn
  have h2 : x.Hs p = none := h2
  have exu : ∀ A : Hp, Ex A H → A p = none → Ex A (upd H p o') := fun A e n a u ea => by
    rw [upd_ne (fun q => by rw [q, n] at ea; cases ea)]; exact e a u ea
  refine ⟨⟨exu _ r.r0.hs h2, fun a u e => ?_, fun a u e => ?_, ?_⟩, r.len, fun i s e => ?_, r.ap⟩
  · by_cases ha : a = p
    · subst ha
      have e' : upd F a o' a = some u := e
      rw [upd_same] at e' ⊢; exact e'
    · have e' : upd F p o' a = some u := e
      rw [upd_ne ha] at e' ⊢
      exact r.r0.fr a u (by rw [hF, upd_ne ha]; exact e')
  · have ha : a ≠ p := fun q => by
      have e' : x.Hs a = some u := e
      rw [q, h2] at e'; cases e'
    have := r.r0.dj a u e
    rw [hF, upd_ne ha] at this
    exact (upd_ne ha).trans this
  · have q := r.r0.st
    cases hg : z.g.st with
    | none => rw [hg] at q; exact q
    | some w =>
      rw [hg] at q
      obtain ⟨a, c, e, n, g1, g2, g3, g4, g5, g6⟩ := q
      obtain ⟨m1, m2⟩ := h4 a c e
      rw [hF, upd_ne (Ne.symm m1)] at g5
      rw [hF, upd_ne (Ne.symm m2)] at g6
      exact ⟨a, c, e, n, (upd_ne (Ne.symm m1)).trans g1, (upd_ne (Ne.symm m2)).trans g2, g3, g4, (upd_ne (Ne.symm m1)).trans g5, (upd_ne (Ne.symm m2)).trans g6⟩
  · obtain ⟨v, a, b⟩ := r.sl i s e
    refine ⟨v, a, ?_⟩
    cases s with
    | frz d => exact Rep.mono0 (x.fr0 _) b
    | own d =>
      obtain ⟨q, ho, ev, hq, hr, f⟩ := b
      have hne : q ≠ p := fun w => by
        have := f.2.1
        rw [hF, w, upd_same] at this; cases this
      refine ⟨q, ho, ev, (upd_ne hne).trans hq, hr.mono0 (x.fr0 _), f.1, ?_, f.2.2⟩
      have := f.2.1
      rw [hF, upd_ne hne] at this
      exact (upd_ne hne).trans this
/-- one turn of a comprehension -/
theorem lc_turn {g : TG} {t : Tg} {tt : TT} {te : TE} {c : T} {e : E} (hg : SndGw K vs g t) (hc : SndT K W0 tt c) (he : SndE K W0 te e) {x1 : Aux} {Dl : Addr} {accV : List V} {acc ds : List D} {k : Nat} {d : D} {v : V} {out : List D × Zs}
    (hn : x1.Fr Dl = none) (hF : x.Fr = x1.Fr) (r : R K (x.fr' (upd x1.Fr Dl (.lst accV))) (L2.wipe σ vs) H z) (ha : Reps K x acc accV) (hd : ds[k]? = some d) (hv : Rep K x d v) (hl : lcL t c e vs (ds.drop k) acc z = some out)
    {N : Hp → Prop} (hN : ∀ x' H' z' acc' accV', x.le x' → R K (x'.fr' (upd x1.Fr Dl (.lst accV'))) (L2.wipe σ vs) H' z' → Reps K x' acc' accV' → lcL t c e vs (ds.drop (k + 1)) acc' z' = some out → N H') :
    g v (L2.wipe σ vs) H fun σ2 H2 => L2.wipe σ2 vs = L2.wipe σ vs ∧ tt σ2 H2 fun b H3 => if b = true then te σ2 H3 fun y H4 => ∃ acc, H4 Dl = some (.lst acc) ∧ acc.length < sizeLine ∧ N (upd H4 Dl (.lst (acc ++ [y]))) else N H3 := by
  have e0 : ds.drop k = d :: ds.drop (k + 1) := by
    obtain ⟨hlt, hk⟩ := List.getElem?_eq_some_iff.mp hd
    rw [List.drop_eq_getElem_cons hlt, hk]
  rw [e0] at hl
  unfold lcL at hl
  cases ea : asg t (.frz d) z with
  | exc e1 z1 => rw [ea] at hl; cases hl
  | stk => rw [ea] at hl; cases hl
  | ok u z1 =>
    rw [ea] at hl
    dsimp only at hl
    refine hg _ _ H z v d r (Rep.mono0 (x.fr0 _) hv) u z1 ea _ fun σ2 r2 w2 => ?_
    have w3 : L2.wipe σ2 vs = L2.wipe σ vs := w2.trans wipe_wipe
    refine ⟨w3, hc _ σ2 H z1 r2 _ ?_⟩
    cases ec : c z1 with
    | exc e1 z2 => rw [ec] at hl; cases hl
    | stk => rw [ec] at hl; cases hl
    | ok b z2 =>
      rw [ec] at hl
      intro x3 H3 l3 r3
      have fr3 : x3.Fr = upd x1.Fr Dl (.lst accV) := l3.fr
      have le3 : x.le (x3.fr' x1.Fr) := ⟨l3.hs, hF.symm, l3.st⟩
      have ef : (x3.fr' x1.Fr).fr' (upd x1.Fr Dl (.lst accV)) = x3 := by
        show ({ x3 with Fr := upd x1.Fr Dl (.lst accV) } : Aux) = x3
        rw [← fr3]
      cases b with
      | false =>
        show N H3
        refine hN (x3.fr' x1.Fr) H3 (Zn.wipe vs z2) acc accV le3 ?_ (Reps.mono le3 ha) hl
        rw [ef, ← w3]
        exact r3.wipe
      | true =>
        dsimp only at hl
        show te σ2 H3 _
        refine he.toD r3 ?_
        cases ee : e z2 with
        | exc e1 z3 => rw [ee] at hl; cases hl
        | stk => rw [ee] at hl; cases hl
        | ok s z3 =>
          rw [ee] at hl
          dsimp only at hl
          split at hl
          · rename_i hlt
            intro x4 H4 l4 r4 w hw
            have fr4 : x4.Fr = upd x1.Fr Dl (.lst accV) := l4.fr.trans fr3
            have le4 : x.le (x4.fr' x1.Fr) := ⟨l3.hs.trans l4.hs, hF.symm, (l3.trans l4).st⟩
            refine ⟨accV, r4.r0.fr _ _ (by rw [fr4]; exact upd_same), by rw [ha.length]; exact hlt, ?_⟩
            refine hN (x4.fr' x1.Fr) _ (Zn.wipe vs z3) (acc ++ [s.d]) (accV ++ [w]) le4 ?_ (Reps.app (Reps.mono le4 ha) (Reps.one (Rep.mono0 (x4.fr0 _) hw))) hl
            have := (r4.turn (o' := .lst (accV ++ [w])) fr4 hn).wipe (vs := vs)
            rw [w3] at this
            exact this
          · cases hl
theorem snd_lc {wi : TI} {g : TG} {t : Tg} {tt : TT} {te : TE} {i : I} {c : T} {e : E} (hi : SndI K W wi i) (hg : SndGw K vs g t) (hc : SndT K W0 tt c) (he : SndE K W0 te e) : SndE K W (tLc wi g tt te vs) (eLc t i c e vs) := fun x σ H z r Q h => by
  refine hi x σ H z r _ ?_
  refine (Post.bind (f := fun l z1 => match lcL t c e vs l [] (Zn.wipe vs z1) with
    | some (ds, z2) => .ok (S.own (.lst ds)) (unw vs z1 z2)
    | none => .stk) h).imp fun x1 H1 ds z1 l1 r1 q => ?_
  cases el : lcL t c e vs ds [] (Zn.wipe vs z1) with
  | none => rw [el] at q; exact q.elim
  | some out =>
    obtain ⟨out, z3⟩ := out
    rw [el] at q
    have q : Post K x1 σ W (kE K σ Q) (.ok (.own (.lst out)) (unw vs z1 z3)) := q
    -- the state at a turn
    let Pv : Addr → Nat → Hp → Prop := fun Dl k H' => ∃ x' z' acc accV, x1.le x' ∧ R K (x'.fr' (upd x1.Fr Dl (.lst accV))) (L2.wipe σ vs) H' z' ∧ Reps K x' acc accV ∧ lcL t c e vs (ds.drop k) acc z' = some (out, z3)
    have start : ∀ Dl, H1 Dl = none → x1.Fr Dl = none ∧ Pv Dl 0 (upd H1 Dl (.lst [])) := fun Dl hD => by
      have f : Free x1 Dl := Free.new (z := z1) r1.r0 hD
      refine ⟨f.2.1, x1, Zn.wipe vs z1, [], [], .refl _, ?_, rfl, el⟩
      have r2 := (r1.ex (Ex.new (o := .lst []) hD)).more (o := .lst []) upd_same f (r1.noslot hD)
      exact r2.wipe
    have fin : ∀ Dl, x1.Fr Dl = none → ∀ H', Pv Dl ds.length H' → Q (.ref Dl) H' := fun Dl hn H' ⟨x', z', acc, accV, l', r', b', hl'⟩ => by
      rw [List.drop_length] at hl'
      unfold lcL at hl'
      cases hl'
      have frE : (x'.fr' (upd x1.Fr Dl (.lst accV))).Fr Dl = some (.lst accV) := upd_same
      obtain ⟨h1, h3⟩ := R0.pend (F := x1.Fr) r'.r0 frE hn
      have r2 := r'.unwipe
      have r3 : R K (x'.fr' x1.Fr) σ H' (unw vs z1 z3) := R.rest r1 ⟨l'.hs, rfl, l'.st⟩ (r2.less (F := x1.Fr) (Ex.new hn))
      refine q (x'.fr' x1.Fr) H' ⟨l'.hs, rfl, l'.st⟩ r3 (.ref Dl) ⟨Dl, _, rfl, h1, ?_, h3⟩ ?_
      · exact Reps.mono0 (x'.fr0 _) b'
      · intro j dj ej y
        replace ej := unw_own ej
        obtain ⟨u, a1, p, ho', eu, hq, hr', fq⟩ := r2.sl j _ ej
        rw [a1] at y; cases y; cases eu
        have := fq.2.1
        rw [frE] at this; cases this
    refine ⟨fun a us ha hr => ?_, fun a us ha hr => ?_, fun lo n e1 => ?_⟩
    · intro Dl hD
      obtain ⟨hn, s0⟩ := start Dl hD
      refine lc_list (K := K) (a := a) (xs := us) (Pv Dl) s0 (fun k H' _ ⟨x', z', acc, accV, l', r', _, _⟩ => SqL.of (r'.r0.hs _ _ (l'.hs _ _ ha))) ?_ (fun H' hh => fin Dl hn H' (by rw [hr.length] at hh; exact hh))
      rintro k v H' hk ⟨x', z', acc, accV, l', r', b', hl'⟩
      obtain ⟨d, hd, hv⟩ := hr.getV hk
      exact lc_turn hg hc he hn l'.fr r' b' hd (Rep.mono l' hv) hl' fun x2 H2 z2 acc2 accV2 l2 r2 b2 h2 => ⟨x2, z2, acc2, accV2, l'.trans l2, r2, b2, h2⟩
    · intro Dl hD
      obtain ⟨hn, s0⟩ := start Dl hD
      refine lc_tup (K := K) (a := a) (xs := us) (Pv Dl) s0 (fun k H' _ ⟨x', z', acc, accV, l', r', _, _⟩ => ex_t r'.r0.hs (ex_t l'.hs ha)) ?_ (fun H' hh => fin Dl hn H' (by rw [hr.length] at hh; exact hh))
      rintro k v H' hk ⟨x', z', acc, accV, l', r', b', hl'⟩
      obtain ⟨d, hd, hv⟩ := hr.getV hk
      exact lc_turn hg hc he hn l'.fr r' b' hd (Rep.mono l' hv) hl' fun x2 H2 z2 acc2 accV2 l2 r2 b2 h2 => ⟨x2, z2, acc2, accV2, l'.trans l2, r2, b2, h2⟩
    · intro Dl hD
      obtain ⟨hn, s0⟩ := start Dl hD
      have hdn : ds.length = n := by rw [e1, List.length_map, List.length_range]
      refine lc_range (lo := lo) (n := n) (Pv Dl) s0 ?_ (fun H' hh => fin Dl hn H' (by rw [hdn]; exact hh))
      rintro k H' hk ⟨x', z', acc, accV, l', r', b', hl'⟩
      have hd : ds[k]? = some (D.int (lo + (k : Int))) := by rw [e1, List.getElem?_map, List.getElem?_range hk]; rfl
      exact lc_turn hg hc he hn l'.fr r' b' hd rfl hl' fun x2 H2 z2 acc2 accV2 l2 r2 b2 h2 => ⟨x2, z2, acc2, accV2, l'.trans l2, r2, b2, h2⟩
end
end Zn

/-! ZFn: calls and defs. -/
namespace Zn
open PySem L2 Evl PyProof.Rows
/-- what a call of a def comes to -/
def PostF (K : PySem.W.Frag) (x : Aux) (Q : VK) (E : XK) : O S G → Prop
  | .ok s g' => ∀ x' H' v, x.le x' → R0 x' H' g' → SRep K x' H' v s → Q v H'
  | .exc e g' => ∀ x' H' cls d, x.le x' → R0 x' H' g' → ERep K x' H' cls d e → E cls d H'
  | .stk => False
def spZ (K : PySem.W.Frag) (n : Nat) (m : Fn) : Sp := fun vs H Q E => ∃ x g ds, R0 x H g ∧ Reps K x ds vs ∧ ds.length = n ∧ PostF K x Q E (m ds g)
/-- a def that may be called -/
structure Cal (P : Program) (w : World) (K : PySem.W.Frag) (mg : Str → Option Value) (base : Heap) (k : Nat) (x : Str) (n : Nat) (m : Fn) : Prop where
  ex : ∃ f fd ps, mg x = some (.ref f) ∧ PySem.W.keepIn K (.ref f) = true ∧ Binds K fd ps [] ∧ FnOk P w K mg base (L2.CX P w) k f fd ps (spZ K n m)
theorem Cal.mono {P : Program} {w : World} {K : PySem.W.Frag} {mg : Str → Option Value} {base : Heap} {j k : Nat} {x : Str} {n : Nat} {m : Fn} (C : Cal P w K mg base j x n m) (h : j ≤ k) : Cal P w K mg base k x n m := by
  obtain ⟨f, fd, ps, a, b, c, d⟩ := C.ex
  exact ⟨f, fd, ps, a, b, c, d.mono h⟩
section
variable {K : PySem.W.Frag} {x y : Aux} {σ : L2.St} {H : Hp} {z : Zs} {W : WX}
open Classical in
/-- what a callee must leave as it is: the frame's own lists too -/
noncomputable def Aux.all (x : Aux) (σ : L2.St) (H : Hp) (z : Zs) : Hp := fun a => if ∃ (j : Nat) (d : D), z.r[j]? = some (some (.own d)) ∧ σ[j]? = some (some (.ref a)) then H a else x.Fr a
theorem R.owned (r : R K x σ H z) {j : Nat} {d : D} {a : Addr} (e : z.r[j]? = some (some (.own d))) (s : σ[j]? = some (some (.ref a))) : ∃ ho, H a = some ho ∧ HRep K x ho d ∧ Free x a := by
  obtain ⟨v, e1, p, ho, ev, hp, hr, f⟩ := r.sl j _ e
  rw [s] at e1; cases e1; cases ev
  exact ⟨ho, hp, hr, f⟩
theorem R.call (r : R K x σ H z) : R0 (x.fr' (x.all σ H z)) H z.g := by
  refine ⟨r.r0.hs, fun a o e => ?_, fun a o e => ?_, ?_⟩
  · have e' : x.all σ H z a = some o := e
    unfold Aux.all at e'
    split at e'
    · exact e'
    · exact r.r0.fr a o e'
  · show x.all σ H z a = none
    unfold Aux.all
    split
    · rename_i h
      obtain ⟨j, d, e1, e2⟩ := h
      obtain ⟨ho, _, _, f⟩ := r.owned e1 e2
      have e' : x.Hs a = some o := e
      rw [f.1] at e'; cases e'
    · exact r.r0.dj a o e
  · have q := r.r0.st
    cases hg : z.g.st with
    | none => rw [hg] at q; exact q
    | some w =>
      rw [hg] at q
      obtain ⟨a, c, e, n, g1, g2, g3, g4, g5, g6⟩ := q
      refine ⟨a, c, e, n, g1, g2, g3, g4, ?_, ?_⟩
      · show x.all σ H z a = none
        unfold Aux.all
        split
        · rename_i h
          obtain ⟨j, d, e1, e2⟩ := h
          obtain ⟨ho, _, _, f⟩ := r.owned e1 e2
          exact absurd rfl (f.2.2 a c e).1
        · exact g5
      · show x.all σ H z c = none
        unfold Aux.all
        split
        · rename_i h
          obtain ⟨j, d, e1, e2⟩ := h
          obtain ⟨ho, _, _, f⟩ := r.owned e1 e2
          exact absurd rfl (f.2.2 a c e).2
        · exact g6
theorem R.allFr (r : R K x σ H z) : Ex x.Fr (x.all σ H z) := fun a o e => by
  unfold Aux.all
  split
  · rename_i h
    obtain ⟨j, d, e1, e2⟩ := h
    obtain ⟨ho, _, _, f⟩ := r.owned e1 e2
    rw [f.2.1] at e; cases e
  · exact e
/-- behind a call -/
theorem R.called (r : R K x σ H z) {x3 : Aux} {H3 : Hp} {g3 : G} (l : (x.fr' (x.all σ H z)).le x3) (r3 : R0 x3 H3 g3) : R K (x3.fr' x.Fr) σ H3 { z with g := g3 } := by
  have frE : x3.Fr = x.all σ H z := l.fr
  have exF : Ex x.Fr x3.Fr := by rw [frE]; exact r.allFr
  refine ⟨r3.less exF, r.len, fun i s e => ?_, r.ap⟩
  obtain ⟨v, a, b⟩ := r.sl i s e
  refine ⟨v, a, ?_⟩
  cases s with
  | frz d => exact Rep.mono0 (x := x) (y := x3.fr' x.Fr) ⟨l.hs, l.st⟩ b
  | own d =>
    obtain ⟨p, ho, ev, hp, hr, f⟩ := b
    subst ev
    have hall : x3.Fr p = some ho := by
      rw [frE]
      unfold Aux.all
      rw [if_pos ⟨i, d, e, a⟩]
      exact hp
    obtain ⟨h1, h2⟩ := R0.pend (F := x.Fr) r3 hall f.2.1
    exact ⟨p, ho, rfl, h1, HRep.mono0 (x := x) (y := x3.fr' x.Fr) ⟨l.hs, l.st⟩ hr, h2⟩
/-- the call's reading -/
theorem snd_call {n : Nat} {m : Fn} {ta : TA} {ms : List E} (ha : SndA K W ta ms) (hn : ms.length = n) : SndE K W (tCallSD (spZ K n m) [] (fun σ cls d H => W cls d σ H) ta) (eCall m ms) := fun x σ H z r Q h => by
  refine ha x σ H z r _ ?_
  have hlen : ∀ (l : List E) (z0 z1 : Zs) ds, args l z0 = .ok ds z1 → ds.length = l.length := by
    intro l
    induction l with
    | nil => intro z0 z1 ds e; cases e; rfl
    | cons a l ih =>
      intro z0 z1 ds e
      unfold args at e
      cases ea : a z0 with
      | ok s z2 =>
        rw [ea] at e
        cases eb : args l z2 with
        | ok ds' z3 =>
          simp only [O.bind, eb] at e
          cases e
          exact congrArg Nat.succ (ih _ _ _ eb)
        | exc _ _ => simp only [O.bind, eb] at e; cases e
        | stk => simp only [O.bind, eb] at e; cases e
      | exc _ _ => rw [ea] at e; cases e
      | stk => rw [ea] at e; cases e
  have q := Post.bind (f := fun ds z1 => match m ds z1.g with
    | .ok s g => .ok s { z1 with g := g }
    | .exc e g => .exc e { z1 with g := g }
    | .stk => .stk) h
  cases ea : args ms z with
  | exc e z1 => rw [ea] at q; exact q
  | stk => rw [ea] at q; exact q
  | ok ds z1 =>
    rw [ea] at q
    intro x1 H1 l1 r1 vs b
    replace q := q x1 H1 l1 r1
    dsimp only at q
    rw [List.append_nil]
    refine ⟨x1.fr' (x1.all σ H1 z1), z1.g, ds, r1.call, Reps.mono0 (x1.fr0 _) b, (hlen _ _ _ _ ea).trans hn, ?_⟩
    cases em : m ds z1.g with
    | stk => rw [em] at q; exact q.elim
    | exc e g =>
      rw [em] at q
      intro x3 H3 cls d l3 r3 er
      obtain ⟨e3, dd', fs, e4, e5, e6⟩ := er
      exact q (x3.fr' x1.Fr) H3 cls d l3.back (r1.called l3 r3) ⟨e3, dd', fs, e4, e5, fun f' y hy => by obtain ⟨w, h7, h8⟩ := e6 f' y hy; exact ⟨w, h7, Rep.mono0 (x3.fr0 _) h8⟩⟩
    | ok s g =>
      rw [em] at q
      intro x3 H3 v l3 r3 hs
      have frE : x3.Fr = x1.all σ H1 z1 := l3.fr
      have exF : Ex x1.Fr x3.Fr := by rw [frE]; exact r1.allFr
      refine q (x3.fr' x1.Fr) H3 l3.back (r1.called l3 r3) v (hs.less exF) ?_
      cases s with
      | frz d => trivial
      | own d =>
        obtain ⟨p, ho, ev, hp, hr, f⟩ := hs
        subst ev
        intro j d' ej sj
        have ej' : z1.r[j]? = some (some (.own d')) := ej
        obtain ⟨ho', hp', _, _⟩ := r1.owned ej' sj
        have : x3.Fr p = some ho' := by
          rw [frE]
          unfold Aux.all
          rw [if_pos ⟨j, d', ej', sj⟩]
          exact hp'
        rw [f.2.1] at this; cases this
end
section
variable {X : Cx} {W : WX} {k n : Nat} {nm : Str} {m : Fn} {p pos : Pos} {e : Expr} {es : List Expr} {ms : List E}
/-- f(e, ..) -/
theorem pd_call (C : Cal X.prog X.w X.K X.mg X.base k nm n m) (hr : Room k X.A) (tk : Takes X W) (ha : PDa X W (e :: es) ms) (hn : ms.length = n := by rfl) (hg : Gl X nm := by rfl) (hdb : (nm == ("__debug__" : Str)) = false := by decide)
    (he : starEach (e :: es) X.env = (false, eval e X.env) :: starEach es X.env := by rfl) (hpl : (backTo pos (starEach es X.env)).any (·.1) = false := by rfl) : PD X W (.Call (.Name nm p) (e :: es) [] pos) (eCall m ms) := by
  obtain ⟨f, fd, ps, a, b, c, F⟩ := C.ex
  exact PD.of (pe_callSD F hr hg a b c .nil (fun σ => passAt tk σ) ha hdb he hpl) (snd_call sndA hn)
end
/-! ### a def keeps to its function -/
section
variable {P : Program} {w : World} {K : PySem.W.Frag} {mg : Str → Option Value} {base : Heap} {x qual : Str} {params : Arguments} {body : List Stmt} {scope : Scope} {f : Addr} {fd : FuncData}
theorem Reps.startV {y : Aux} {ds : List D} {vs : List V} (h : Reps K y ds vs) (N : List Str) (i : Nat) (s : S) (e : (ds.map (fun d => some (S.frz d)) ++ List.replicate (N.length - ds.length) none)[i]? = some (some s)) :
    ∃ d v, s = .frz d ∧ (L2.start N vs)[i]? = some (some v) ∧ Rep K y d v := by
  by_cases hi : i < ds.length
  · rw [List.getElem?_append_left (by rw [List.length_map]; exact hi), List.getElem?_map] at e
    obtain ⟨v, e1, b⟩ := h.get (List.getElem?_eq_getElem hi)
    rw [List.getElem?_eq_getElem hi] at e
    cases e
    refine ⟨_, v, rfl, ?_, b⟩
    unfold L2.start
    rw [List.getElem?_append_left (by rw [List.length_map, h.length]; exact hi), List.getElem?_map, e1]
    rfl
  · rw [List.getElem?_append_right (by rw [List.length_map]; omega)] at e
    have := List.getElem?_eq_some_iff.mp e
    obtain ⟨h1, h2⟩ := this
    rw [List.getElem_replicate] at h2
    cases h2
/-- THE RULE of a def -/
theorem fn_ok0 {N ps : List Str} {k : Nat} {M : SS} (F : FunD K x qual params body scope [] [] f fd) (Sc : FnScope N ps scope)
    (hb : ∀ (cdv : Value) (A : Around) (outer : List Env) (s : Shared) (H : Hp) (E : XK), Room k (A.deeper (envOfC qual scope s.heap.objs.size f cdv)) →
      Takes (cxOf (L2.CX P w) P w K mg base N qual scope f cdv A outer s H E) (fun cls d _ H => E cls d H) →
      SDs (cxOf (L2.CX P w) P w K mg base N qual scope f cdv A outer s H E) (fun cls d _ H => E cls d H) body M)
    : FnOk P w K mg base (L2.CX P w) (k + 1) f fd ps (spZ K ps.length (callB N.length M)) := by
  refine FunD.ok F Sc (fun vs H Q E ⟨y, g, ds, r, b, l, _⟩ => b.length.trans l) fun cdv A outer s H vs Q E hr ⟨y, g, ds, r, b, l, q⟩ => ?_
  refine ⟨_, hb cdv A outer s H E hr (takes_of rfl rfl rfl rfl), ?_⟩
  refine ⟨y, ⟨ds.map (fun d => some (S.frz d)) ++ List.replicate (N.length - ds.length) none, g⟩, ⟨r, ?_, fun i s0 e => ?_, fun i j d d' n e1 e2 => ?_⟩, ?_⟩
  · unfold L2.start
    simp only [List.length_append, List.length_map, List.length_replicate, b.length]
  · obtain ⟨d, v, rfl, h1, h2⟩ := b.startV N i s0 e
    exact ⟨v, h1, h2⟩
  · obtain ⟨_, _, h, _⟩ := b.startV N i _ e1
    cases h
  · unfold callB at q
    cases em : M ⟨ds.map (fun d => some (S.frz d)) ++ List.replicate (N.length - ds.length) none, g⟩ with
    | ok fl z =>
      rw [em] at q
      cases fl with
      | nx => exact fun x' σ' H' l' r' => q x' H' .non l' r'.r0 rfl
      | rt s0 => exact fun x' H' v l' r' hs => q x' H' v l' r' hs
      | bk => exact q.elim
      | ct => exact q.elim
    | exc e z => rw [em] at q; exact fun x' σ' H' cls d l' r' er => q x' H' cls d l' r'.r0 er
    | stk => rw [em] at q; exact q.elim
theorem fn_ok {N ps : List Str} {k : Nat} {M : SS} (F : FunD K x qual params body scope [] [] f fd) (Sc : FnScope N ps scope)
    (hb : ∀ (cdv : Value) (A : Around) (outer : List Env) (s : Shared) (H : Hp) (E : XK), Room k (A.deeper (envOfC qual scope s.heap.objs.size f cdv)) →
      Takes (cxOf (L2.CX P w) P w K mg base N qual scope f cdv A outer s H E) (fun cls d _ H => E cls d H) →
      SDs (cxOf (L2.CX P w) P w K mg base N qual scope f cdv A outer s H E) (fun cls d _ H => E cls d H) body M)
    (hg : mg x = some (.ref f)) (hbd : Binds K fd ps []) : Cal P w K mg base (k + 1) x ps.length (callB N.length M) :=
  ⟨f, fd, ps, hg, F.kp, hbd, fn_ok0 F Sc hb⟩
end
end Zn

/-! ZRules: a rule a construct, by short names. -/
namespace Zn
open PySem L2 Evl PyProof.Rows
/-- the built-ins that a program calls stand as they are -/
structure Blt (mg : Str → Option Value) : Prop where
  len : mg "len" = none
  range : mg "range" = none
  tuple : mg "tuple" = none
  list : mg "list" = none
  all : mg "all" = none
  any : mg "any" = none
  isinstance : mg "isinstance" = none
  int : mg "int" = none
  bool : mg "bool" = none
  str : mg "str" = none
  abs : mg "abs" = none
  sum : mg "sum" = none
  max : mg "max" = none
  min : mg "min" = none
section
variable {K : PySem.W.Frag} {x : Aux} {σ : L2.St} {H : Hp} {z : Zs} {W : WX}
/-! ### values that are True or False -/
theorem snd_andV {ta tb : TE} {a b : E} (ha : SndE K W ta a) (hb : SndE K W tb b) : SndE K W (tAndV ta tb) (eAnd a b) := fun x σ H z r Q q => by
  refine ha x σ H z r _ ?_
  refine (Post.bind (f := fun s z1 => match s with
    | .frz (.bl true) => b z1
    | .frz (.bl false) => .ok (.frz (.bl false)) z1
    | _ => .stk) q).imp fun x1 H1 s z1 l1 r1 k v bv _ => ?_
  cases s with
  | own d => exact k.elim
  | frz d =>
    cases d <;> first | exact k.elim | skip
    rename_i c _
    refine ⟨c, bv, ?_⟩
    cases c with
    | true => exact hb x1 σ H1 z1 r1 Q k
    | false => exact k x1 H1 (.refl _) r1 _ rfl trivial
theorem snd_orV {ta tb : TE} {a b : E} (ha : SndE K W ta a) (hb : SndE K W tb b) : SndE K W (tOrV ta tb) (eOr a b) := fun x σ H z r Q q => by
  refine ha x σ H z r _ ?_
  refine (Post.bind (f := fun s z1 => match s with
    | .frz (.bl true) => .ok (.frz (.bl true)) z1
    | .frz (.bl false) => b z1
    | _ => .stk) q).imp fun x1 H1 s z1 l1 r1 k v bv _ => ?_
  cases s with
  | own d => exact k.elim
  | frz d =>
    cases d <;> first | exact k.elim | skip
    rename_i c _
    refine ⟨c, bv, ?_⟩
    cases c with
    | true => exact k x1 H1 (.refl _) r1 _ rfl trivial
    | false => exact hb x1 σ H1 z1 r1 Q k
theorem snd_notV {ta : TE} {a : E} (ha : SndE K W ta a) : SndE K W (tNotV ta) (eNot a) := fun x σ H z r Q q => by
  refine ha x σ H z r _ ?_
  refine (Post.bind (f := fun s z1 => match s with
    | .frz (.bl c) => .ok (S.frz (.bl (!c))) z1
    | _ => .stk) q).imp fun x1 H1 s z1 l1 r1 k v bv _ => ?_
  cases s with
  | own d => exact k.elim
  | frz d =>
    cases d <;> first | exact k.elim | skip
    exact ⟨_, bv, k x1 H1 (.refl _) r1 _ rfl trivial⟩
theorem snd_val {ta : TE} {a : E} (ha : SndE K W ta a) : SndT K W (tB ta) (tVal a) := fun x σ H z r Q q => by
  refine ha x σ H z r _ ?_
  refine (Post.bind (f := fun s z1 => match s with
    | .frz (.bl c) => .ok c z1
    | _ => .stk) q).imp fun x1 H1 s z1 l1 r1 k v bv _ => ?_
  cases s with
  | own d => exact k.elim
  | frz d =>
    cases d <;> first | exact k.elim | skip
    exact ⟨_, bv, k x1 H1 (.refl _) r1⟩
theorem truD_ok {d : D} {v : V} {k : Bool} (hs : Ex x.Hs H) (b : BRep K x H d v) (e : fTru d = some k) : TruV K v H k := by
  cases d <;> first | (cases e; done) | skip
  · cases e; rw [b.non]; exact rfl
  · cases e; rw [b.bl]; exact rfl
  · cases e; rw [b.int]; exact rfl
  · cases e
    obtain ⟨p, vs, rfl, hp, r⟩ := b.tup hs
    refine .inr (.inl ⟨vs, hp, ?_⟩)
    rename_i l
    cases l with
    | nil => cases r; rfl
    | cons d ds => obtain ⟨v, t, rfl, _⟩ := r; rfl
  · cases e
    obtain ⟨p, vs, rfl, hp, r⟩ := b.lst hs
    refine .inl ⟨vs, SqL.of hp, ?_⟩
    rename_i l
    cases l with
    | nil => cases r; rfl
    | cons d ds => obtain ⟨v, t, rfl, _⟩ := r; rfl
theorem snd_tru {ta : TE} {a : Opd} (ha : SndO K W ta a) : SndT K W (fun σ H Q => ta σ H fun x H' => ∃ k, TruV K x H' k ∧ Q k H') (tB1 fTru a) := fun x σ H z r Q q => by
  refine ha x σ H z r _ ?_
  refine (Post.bind (f := fun n z1 => match z1.res n with
    | some c => finB (fTru c) z1
    | none => .stk) q).imp fun x2 H2 n z2 l1 r2 k v bv => ?_
  cases e1 : z2.res n with
  | none => simp only [e1] at k; exact k.elim
  | some c =>
    simp only [e1] at k
    cases e3 : fTru c with
    | none => rw [e3] at k; exact k.elim
    | some s =>
      rw [e3] at k
      exact ⟨s, truD_ok r2.r0.hs (bv.res r2 e1) e3, k x2 H2 (.refl _) r2⟩
/-! ### + and * of all kinds -/
theorem o_plus : Op2 K (fun x y H Q => rI0 (fun i j => .int (i + j)) x y H Q ∨ (∃ i j, x = .str i ∧ y = .str j ∧ i.length + j.length ≤ sizeLine ∧ Q (.str (i ++ j)) H) ∨ rCat x y H Q ∨ rCatA K x y H Q) fPlus := fun x H v u c d s Q hs a b e f => by
  cases c <;> cases d <;> first | (cases e; done) | skip
  · exact .inl (o_add x H v u _ _ s Q hs a b e f)
  · unfold fPlus at e
    dsimp only at e
    split at e
    · rename_i i j h
      cases e
      exact .inr (.inl ⟨i, j, a.str, b.str, h, f.same _ _ rfl rfl⟩)
    · cases e
  · exact .inr (.inr (o_cat x H v u _ _ s Q hs a b e f))
  · exact .inr (.inr (o_cat x H v u _ _ s Q hs a b e f))
theorem w_plus : Own2 fPlus := fun a b d h => by
  cases a <;> cases b <;> first | (cases h; done) | (unfold fPlus at h; dsimp only at h; split at h <;> first | (cases h; done) | (cases h; exact ⟨_, rfl⟩))
theorem o_times : Op2 K (fun x y H Q => rI CMulA (fun i j => .int (i * j)) x y H Q ∨ rRep x y H Q) fTimes := fun x H v u c d s Q hs a b e f => by
  cases c <;> cases d <;> first | (cases e; done) | skip
  · exact .inl (o_mul x H v u _ _ s Q hs a b e f)
  · exact .inr (o_rep x H v u _ _ s Q hs a b e f)
theorem w_times : Own2 fTimes := fun a b d h => by
  cases a <;> cases b <;> first | (cases h; done) | (unfold fTimes at h; dsimp only at h; split at h <;> first | (cases h; done) | (cases h; exact ⟨_, rfl⟩))
/-! ### max, min -/
theorem maxI_mem : ∀ (n : Int) (r : List Int), maxI (n :: r) ∈ n :: r ∧ ∀ y ∈ n :: r, y ≤ maxI (n :: r)
  | n, [] => ⟨List.mem_singleton.mpr rfl, fun y h => by rw [List.mem_singleton.mp h]; exact Int.le_refl _⟩
  | n, m :: r => by
    obtain ⟨h1, h2⟩ := maxI_mem m r
    show (if maxI (m :: r) > n then maxI (m :: r) else n) ∈ _ ∧ ∀ y ∈ n :: m :: r, y ≤ (if maxI (m :: r) > n then maxI (m :: r) else n)
    split
    · exact ⟨List.mem_cons_of_mem _ h1, fun y hy => by
        rcases List.mem_cons.mp hy with rfl | hy
        · omega
        · exact h2 y hy⟩
    · exact ⟨List.mem_cons_self, fun y hy => by
        rcases List.mem_cons.mp hy with rfl | hy
        · omega
        · have := h2 y hy; omega⟩
theorem minI_mem : ∀ (n : Int) (r : List Int), minI (n :: r) ∈ n :: r ∧ ∀ y ∈ n :: r, minI (n :: r) ≤ y
  | n, [] => ⟨List.mem_singleton.mpr rfl, fun y h => by rw [List.mem_singleton.mp h]; exact Int.le_refl _⟩
  | n, m :: r => by
    obtain ⟨h1, h2⟩ := minI_mem m r
    show (if minI (m :: r) < n then minI (m :: r) else n) ∈ _ ∧ ∀ y ∈ n :: m :: r, (if minI (m :: r) < n then minI (m :: r) else n) ≤ y
    split
    · exact ⟨List.mem_cons_of_mem _ h1, fun y hy => by
        rcases List.mem_cons.mp hy with rfl | hy
        · omega
        · exact h2 y hy⟩
    · exact ⟨List.mem_cons_self, fun y hy => by
        rcases List.mem_cons.mp hy with rfl | hy
        · omega
        · have := h2 y hy; omega⟩
theorem o_max : Op1 K (fun v => rMax K [v]) fMax := fun x H v c s Q hs a e f => by
  cases c <;> first | (cases e; done) | skip
  unfold fMax at e
  rename_i l
  obtain ⟨p, vs, rfl, hp, r⟩ := a.lst hs
  cases q : intsD l with
  | none => simp only [q] at e; cases e
  | some ns =>
    simp only [q] at e
    cases ns with
    | nil => cases e
    | cons n ns =>
      cases e
      refine ⟨p, n :: ns, rfl, by rw [← r.intsV q]; exact SqL.of hp, Nat.succ_pos _, fun m hm hle => ?_⟩
      obtain ⟨h1, h2⟩ := maxI_mem n ns
      have : m = maxI (n :: ns) := Int.le_antisymm (h2 m hm) (hle _ h1)
      rw [this]; exact f.int
theorem o_min : Op1 K (fun v => rMin K [v]) fMin := fun x H v c s Q hs a e f => by
  cases c <;> first | (cases e; done) | skip
  unfold fMin at e
  rename_i l
  obtain ⟨p, vs, rfl, hp, r⟩ := a.lst hs
  cases q : intsD l with
  | none => simp only [q] at e; cases e
  | some ns =>
    simp only [q] at e
    cases ns with
    | nil => cases e
    | cons n ns =>
      cases e
      refine ⟨p, n :: ns, rfl, by rw [← r.intsV q]; exact SqL.of hp, Nat.succ_pos _, fun m hm hle => ?_⟩
      obtain ⟨h1, h2⟩ := minI_mem n ns
      have : m = minI (n :: ns) := Int.le_antisymm (hle _ h1) (h2 m hm)
      rw [this]; exact f.int
theorem w_max : Own1 fMax := fun a d h => by
  cases a <;> first | (cases h; done) | skip
  unfold fMax at h
  rename_i l
  cases q : intsD l with
  | none => simp only [q] at h; cases h
  | some ns => simp only [q] at h; cases ns <;> cases h
theorem w_min : Own1 fMin := fun a d h => by
  cases a <;> first | (cases h; done) | skip
  unfold fMin at h
  rename_i l
  cases q : intsD l with
  | none => simp only [q] at h; cases h
  | some ns => simp only [q] at h; cases ns <;> cases h
theorem o_max2 : Op2 K (fun v u H Q => ∃ i j, [v, u] = [V.int i, V.int j] ∧ Q (.int (if j > i then j else i)) H) fMax2 := fun x H v u c d s Q hs a b e f => by
  cases c <;> cases d <;> cases e
  exact ⟨_, _, by rw [a.int, b.int], f.int⟩
theorem o_min2 : Op2 K (fun v u H Q => ∃ i j, [v, u] = [V.int i, V.int j] ∧ Q (.int (if j < i then j else i)) H) fMin2 := fun x H v u c d s Q hs a b e f => by
  cases c <;> cases d <;> cases e
  exact ⟨_, _, by rw [a.int, b.int], f.int⟩
theorem w_max2 : Own2 fMax2 := fun a b d h => by cases a <;> cases b <;> cases h
theorem w_min2 : Own2 fMin2 := fun a b d h => by cases a <;> cases b <;> cases h
/-! ### slices -/
def SndP (K : PySem.W.Frag) (W : WX) (t : TO) (m : Sp1) : Prop := ∀ x σ H z, R K x σ H z → ∀ Q : Option Int → Hp → Prop, Post K x σ W (fun _ H' o _ => Q o H') (evS m z) → t σ H Q
def semP (K : PySem.W.Frag) (W : WX) (m : Sp1) : TO := fun σ H Q => ∃ x z, R K x σ H z ∧ Post K x σ W (fun _ H' o _ => Q o H') (evS m z)
theorem sndP {m : Sp1} : SndP K W (semP K W m) m := fun x _ _ z r _ h => ⟨x, z, r, h⟩
abbrev PDp (X : Cx) (W : WX) (e : Option Expr) (m : Sp1) : Prop := PO X e (semP X.K W m)
theorem PDp.of {X : Cx} {e : Option Expr} {t : TO} {m : Sp1} (h : PO X e t) (s : SndP X.K W t m) : PDp X W e m := ⟨fun pins s0 σ H Q I ⟨x, z, r, p⟩ => h.run pins s0 σ H Q I (s x σ H z r Q p)⟩
theorem sp_none : SndP K W tNoPart .none := fun x σ H z r Q h => h x H (.refl _) r
theorem sp_some {t : TE} {o : Opd} (h : SndO K W t o) : SndP K W (tPart t) (.some o) := fun x σ H z r Q q => by
  refine h x σ H z r _ ?_
  refine (Post.bind (f := fun x z1 => match z1.res x with
    | Option.some (.int i) => .ok (Option.some i) z1
    | _ => .stk) q).imp fun x1 H1 n z1 l1 r1 k v b => ?_
  cases e : z1.res n with
  | none => rw [e] at k; exact k.elim
  | some d =>
    rw [e] at k
    cases d <;> first | exact k.elim | skip
    exact ⟨_, BRep.int (b.res r1 e), k x1 H1 (.refl _) r1⟩
theorem cut_rep {l : List D} {vs : List V} (h : Reps K x l vs) (lo hi : Option Int) : Reps K x (cutD l lo hi) (cutV vs lo hi) := by
  unfold cutD cutV
  rw [h.length]
  exact Reps.take _ (Reps.drop _ h)
theorem snd_sl {te : TE} {tl th : TO} {a : Opd} {lo hi : Sp1} (ha : SndO K W te a) (hl : SndP K W tl lo) (hh : SndP K W th hi) : SndE K W (tSl (fun x lo hi H Q => rSlL K x lo hi H Q ∨ rSlA K x lo hi H Q) te tl th) (eSl a lo hi) := fun x σ H z r Q q => by
  refine ha x σ H z r _ ?_
  refine (Post.bind (f := fun x z1 => (evS lo z1).bind fun l z2 => (evS hi z2).bind fun h z3 => match z3.res x with
    | some c => fin (fSl l h c) z3
    | none => .stk) q).imp fun x1 H1 n z1 l1 r1 k v b => ?_
  refine hl x1 σ H1 z1 r1 _ ?_
  refine (Post.bind (f := fun l z2 => (evS hi z2).bind fun h z3 => match z3.res n with
    | some c => fin (fSl l h c) z3
    | none => .stk) k).imp fun x2 H2 lo' z2 l2 r2 k => ?_
  refine hh x2 σ H2 z2 r2 _ ?_
  refine (Post.bind (f := fun h z3 => match z3.res n with
    | some c => fin (fSl lo' h c) z3
    | none => .stk) k).imp fun x3 H3 hi' z3 l3 r3 k => ?_
  have b3 := OR.mono (l2.trans l3) b
  cases e : z3.res n with
  | none => rw [e] at k; exact k.elim
  | some d =>
    rw [e] at k
    have bb := b3.res r3 e
    cases d <;> first | exact k.elim | skip
    · rename_i l
      have ar := bb.tupR
      obtain ⟨p, vs, rfl, hp, hr⟩ := bb.tup r3.r0.hs
      refine .inr ⟨p, vs, rfl, hp, fun hw => ?_, fun _ q hq => ?_⟩
      · have ew : cutD l lo' hi' = l := by
          unfold cutD
          rw [hr.length] at hw
          rw [hw.1, hw.2, List.drop_zero, Nat.sub_zero, List.take_length]
        refine k x3 H3 (.refl _) r3 _ ?_ trivial
        show Rep K x3 (.tup (cutD l lo' hi')) _
        rw [ew]; exact ar
      · obtain ⟨r4, b4, l4⟩ := r3.newF (o := .tup (cutV vs lo' hi')) (d := .tup (cutD l lo' hi')) hq (cut_rep hr lo' hi')
        exact k _ _ l4 r4 _ b4 trivial
    · rename_i l
      obtain ⟨p, vs, rfl, hp, hr⟩ := bb.lst r3.r0.hs
      refine .inl ⟨p, vs, rfl, SqL.of hp, fun q hq => ?_⟩
      obtain ⟨r4, b4, a4⟩ := r3.newO (o := .lst (cutV vs lo' hi')) (d := .lst (cutD l lo' hi')) hq (cut_rep hr lo' hi')
      exact k _ _ (.refl _) r4 _ b4 a4
/-! ### isinstance -/
theorem tyx {d : D} {v : V} {t : String} (b : BRep K x H d v) (hs : Ex x.Hs H) (e : d.ty = some t) : TyX K H v (.type t) := by
  cases d <;> first | (cases e; done) | skip
  · cases e; rw [b.non]; exact .base .non
  · cases e; rw [b.bl]; exact .base (.bl _)
  · cases e; rw [b.int]; exact .base (.int _)
  · cases e; rw [b.str]; exact .base (.str _)
  · cases e
    obtain ⟨p, vs, rfl, hp, r⟩ := b.tup hs
    rcases hp with (h | ⟨o, h⟩) | ⟨o, its, n, h1, h2, _⟩
    · exact .base (.tup h)
    · exact .fTuple h
    · exact .kTuple h1 h2
  · cases e
    obtain ⟨p, vs, rfl, hp, r⟩ := b.lst hs
    exact .base (.lst hp)
/-- what kitOne says of the built-in types -/
def KitOk (K : PySem.W.Frag) (c : String) : Prop := ∀ t ∈ (["NoneType", "bool", "int", "str", "tuple", "list"] : List String), PySem.W.kitOne K (.type t) (.type c) = some (isTy t c)
theorem ty_mem {d : D} {t : String} (e : d.ty = some t) : t ∈ (["NoneType", "bool", "int", "str", "tuple", "list"] : List String) := by
  cases d <;> cases e <;> decide
theorem o_isi {c : String} (h : KitOk K c) : Op1 K (fun v => rIsi K [v, .ty c]) (fIsi c) := fun x H v d s Q hs b e f => by
  unfold fIsi at e
  cases ht : d.ty with
  | none => rw [ht] at e; cases e
  | some t =>
    rw [ht] at e; cases e
    exact ⟨v, .ty c, .type t, .type c, isTy t c, rfl, .ty c, tyx b hs ht, h t (ty_mem ht), f.bl⟩
theorem w_isi {c : String} : Own1 (fIsi c) := fun a d h => by
  unfold fIsi at h
  cases e : a.ty <;> rw [e] at h <;> cases h
theorem kit_int : KitOk K "int" := fun t h => by
  simp only [List.mem_cons, List.not_mem_nil, or_false] at h
  rcases h with rfl | rfl | rfl | rfl | rfl | rfl <;> rfl
theorem kit_bool : KitOk K "bool" := fun t h => by
  simp only [List.mem_cons, List.not_mem_nil, or_false] at h
  rcases h with rfl | rfl | rfl | rfl | rfl | rfl <;> rfl
theorem kit_tuple : KitOk K "tuple" := fun t h => by
  simp only [List.mem_cons, List.not_mem_nil, or_false] at h
  rcases h with rfl | rfl | rfl | rfl | rfl | rfl <;> rfl
theorem kit_list : KitOk K "list" := fun t h => by
  simp only [List.mem_cons, List.not_mem_nil, or_false] at h
  rcases h with rfl | rfl | rfl | rfl | rfl | rfl <;> rfl
theorem kit_str : KitOk K "str" := fun t h => by
  simp only [List.mem_cons, List.not_mem_nil, or_false] at h
  rcases h with rfl | rfl | rfl | rfl | rfl | rfl <;> rfl
/-! ### x op= e -/
theorem ss_aug {i : Nat} {te : TE} {rr : R2} {f : D → D → Option S} {e : Opd} (ho : Op2 K rr f) (hw : Own2 f) (he : SndO K W te e) : SndS K W (tAug i te rr) (sAsg (.nm i) (eB2 f (.v i) e)) := fun x σ H z r De h => by
  cases ei : z.at i with
  | none =>
    have e0 : evO (.v i) z = .stk := by show (match z.at i with | some _ => _ | none => _) = _; rw [ei]
    unfold sAsg eB2 at h
    rw [e0] at h
    exact h.elim
  | some c =>
    have e0 : evO (.v i) z = .ok (.inl i) z := by show (match z.at i with | some _ => _ | none => _) = _; rw [ei]
    unfold sAsg eB2 at h
    rw [e0] at h
    replace h : PostS K x σ W De (((evO e z).bind fun y z2 => match z2.res (.inl i), z2.res y with
      | some c, some d => fin (f c d) z2
      | _, _ => .stk).bind fun s z1 => (asg (.nm i) s z1).bind fun _ z2 => .ok .nx z2) := h
    obtain ⟨v, hv, bv⟩ := r.at ei
    refine ⟨v, hv, he x σ H z r _ ?_⟩
    cases ee : evO e z with
    | stk => rw [ee] at h; exact h.elim
    | exc e1 z1 => rw [ee] at h; exact fun x' H' cls d l r' er => h x' σ H' cls d l r' er
    | ok n z1 =>
      rw [ee] at h
      intro x1 H1 l1 r1 u bu
      replace h : PostS K x σ W De ((match z1.res (.inl i), z1.res n with
        | some c, some d => fin (f c d) z1
        | _, _ => .stk).bind fun s z1 => (asg (.nm i) s z1).bind fun _ z2 => .ok .nx z2) := h
      cases e1 : z1.res (.inl i) with
      | none => simp only [e1] at h; exact h.elim
      | some c1 =>
        cases e2 : z1.res n with
        | none => simp only [e1, e2] at h; exact h.elim
        | some d =>
          simp only [e1, e2] at h
          cases e3 : f c1 d with
          | none => rw [e3] at h; exact h.elim
          | some s =>
            rw [e3] at h
            have bv1 : BRep K x1 H1 c1 v := OR.res r1 (show OR K x1 σ v (.inl i) from hv) e1
            refine ho x1 H1 v u c1 d s _ r1.r0.hs bv1 (bu.res r1 e2) e3 (Fi.of r1 (fun x' H' l' r' w hs ha => ?_) fun d' es => hw c1 d d' (es ▸ e3))
            exact h x' _ H' (l1.trans l') (r'.put hs ha)
end

section
variable {X : Cx} {W : WX} {a b c e : Expr} {es rest : List Expr} {pos p : Pos} {oa ob : Opd} {ma mb mc m : E} {ms : List E} {ta tb tc : T} {k : Nat}
/-! ### leaves -/
theorem pd_v {i : Nat} (h : PE X e (tVar i)) : PD X W e (eV i) := PD.of h snd_v
theorem pd_mv {i : Nat} (h : PE X e (tVar i)) : PD X W e (eMv i) := PD.of h snd_mv
theorem po_v {i : Nat} (h : PE X e (tVar i)) : PDo X W e (.v i) := PDo.of h snd_ov
theorem po_e (h : PD X W e m) : PDo X W e (.e m) := PDo.of h (snd_oe sndE)
theorem pd_int {i : Int} {j : Nat} : PD X W (.Constant (.int i) j pos) (eC (.int i)) := PD.of pe_int (snd_c fun _ => rfl)
theorem pd_bl {i : Bool} {j : Nat} : PD X W (.Constant (.bool i) j pos) (eC (.bl i)) := PD.of pe_bl (snd_c fun _ => rfl)
theorem pd_non {j : Nat} : PD X W (.Constant .none j pos) (eC .non) := PD.of pe_non (snd_c fun _ => rfl)
theorem pd_str {i : Str} {j : Nat} : PD X W (.Constant (.str i) j pos) (eC (.str i)) := PD.of pe_str (snd_c fun _ => rfl)
/-- a name of the module that stands for data -/
theorem pd_glob {x : Str} {v : V} {u : Value} {d : D} (hm : X.mg x = some u) (r : RelV v u) (hd : ∀ y, Rep X.K y d v) (hg : Gl X x := by rfl) (hdb : (x == ("__debug__" : Str)) = false := by decide) : PD X W (.Name x pos) (eC d) := PD.of (pe_glob hg hm r hdb) (snd_c hd)
/-! ### operations -/
theorem pd_plus (ha : PDo X W a oa) (hb : PDo X W b ob) : PD X W (.BinOp a .Add b pos) (eB2 fPlus oa ob) := PD.of (pe_op (op_add.or (op_add_str.or (op_cat.or op_catA))) ha hb) (snd_b2 o_plus w_plus sndO sndO)
theorem pd_sub (ha : PDo X W a oa) (hb : PDo X W b ob) : PD X W (.BinOp a .Sub b pos) (eB2 fSub oa ob) := PD.of (pe_op op_sub ha hb) (snd_b2 o_sub w_sub sndO sndO)
theorem pd_times (ha : PDo X W a oa) (hb : PDo X W b ob) : PD X W (.BinOp a .Mult b pos) (eB2 fTimes oa ob) := PD.of (pe_op (op_mulA.or op_rep) ha hb) (snd_b2 o_times w_times sndO sndO)
theorem pd_div (ha : PDo X W a oa) (hb : PDo X W b ob) : PD X W (.BinOp a .FloorDiv b pos) (eB2 fDiv oa ob) := PD.of (pe_op op_fdivW ha hb) (snd_b2 o_div w_div sndO sndO)
theorem pd_mod (ha : PDo X W a oa) (hb : PDo X W b ob) : PD X W (.BinOp a .Mod b pos) (eB2 fMod oa ob) := PD.of (pe_op op_mod ha hb) (snd_b2 o_mod w_mod sndO sndO)
theorem pd_neg (ha : PDo X W a oa) : PD X W (.UnaryOp .USub a pos) (eB1 fNeg oa) := PD.of (pe_un un_neg ha) (snd_b1 o_neg w_neg sndO)
theorem pd_ix (ha : PDo X W a oa) (hb : PDo X W b ob) (hs : PlainIx b := by exact fun _ _ => rfl) : PD X W (.Subscript a b pos) (eB2 fIx oa ob) := PD.of (pe_ix ix_seq ha hb hs) (snd_b2 o_ix w_ix sndO sndO)
theorem pp_none : PDp X W none .none := PDp.of po_none sp_none
theorem pp_some (h : PDo X W e oa) : PDp X W (some e) (.some oa) := PDp.of (po_some h) (sp_some sndO)
theorem pd_sl {lo hi : Option Expr} {l h : Sp1} {p2 : Pos} (ha : PDo X W a oa) (hl : PDp X W lo l) (hh : PDp X W hi h) : PD X W (.Subscript a (.Slice lo hi none p2) pos) (eSl oa l h) := PD.of (pe_slice (sl_list.or sl_tupA) ha hl hh) (snd_sl sndO sndP sndP)
/-! ### displays, argument lists -/
theorem pa_0 : PDa X W [] [] := PDa.of pa_nil snd_nil
theorem pa_1 (h : PD X W e m) (h2 : PDa X W es ms) (hs : starEach (e :: es) X.env = (false, eval e X.env) :: starEach es X.env := by rfl) : PDa X W (e :: es) (m :: ms) := PDa.of (pa_cons h h2 hs) (snd_cons sndE sndA)
theorem pd_tup {x1 : Nat} (h : PDa X W es ms) : PD X W (.Tuple es x1 pos) (eTup ms) := PD.of (pe_tup h) (snd_tup sndA)
theorem pd_lst (h : PDa X W es ms) : PD X W (.List es pos) (eLst ms) := PD.of (pe_lst h) (snd_lst sndA)
/-! ### comparisons as values -/
theorem pd_eq (hr : Room k X.A) (ha : PDo X W a oa) (hb : PDo X W b ob) : PD X W (.Compare a [.Eq] [b] pos) (eB2 (vB fEq) oa ob) := PD.of (pe_cmpR (op_eqD hr.units) ha hb (nomark _)) (snd_e2 o_eq sndO sndO)
theorem pd_ne (hr : Room k X.A) (ha : PDo X W a oa) (hb : PDo X W b ob) : PD X W (.Compare a [.NotEq] [b] pos) (eB2 (vB fNe) oa ob) := PD.of (pe_cmpR (op_neD hr.units) ha hb (nomark _)) (snd_e2 o_ne sndO sndO)
theorem pd_lt (ha : PDo X W a oa) (hb : PDo X W b ob) : PD X W (.Compare a [.Lt] [b] pos) (eB2 (vB fLt) oa ob) := PD.of (pe_cmpR op_lt ha hb (nomark _)) (snd_e2 o_lt sndO sndO)
theorem pd_le (ha : PDo X W a oa) (hb : PDo X W b ob) : PD X W (.Compare a [.LtE] [b] pos) (eB2 (vB fLe) oa ob) := PD.of (pe_cmpR op_le ha hb (nomark _)) (snd_e2 o_le sndO sndO)
theorem pd_gt (ha : PDo X W a oa) (hb : PDo X W b ob) : PD X W (.Compare a [.Gt] [b] pos) (eB2 (vB fGt) oa ob) := PD.of (pe_cmpR op_gt ha hb (nomark _)) (snd_e2 o_gt sndO sndO)
theorem pd_ge (ha : PDo X W a oa) (hb : PDo X W b ob) : PD X W (.Compare a [.GtE] [b] pos) (eB2 (vB fGe) oa ob) := PD.of (pe_cmpR op_ge ha hb (nomark _)) (snd_e2 o_ge sndO sndO)
theorem pd_isN (ha : PDo X W a oa) (hb : PDo X W b ob) : PD X W (.Compare a [.Is] [b] pos) (eB2 (vB fIsN) oa ob) := PD.of (pe_cmpR op_isN ha hb (nomark _)) (snd_e2 o_isN sndO sndO)
theorem pd_notN (ha : PDo X W a oa) (hb : PDo X W b ob) : PD X W (.Compare a [.IsNot] [b] pos) (eB2 (vB fNotN) oa ob) := PD.of (pe_cmpR op_notN ha hb (nomark _)) (snd_e2 o_notN sndO sndO)
theorem pd_isB (ha : PDo X W a oa) (hb : PDo X W b ob) : PD X W (.Compare a [.Is] [b] pos) (eB2 (vB fIsB) oa ob) := PD.of (pe_cmpR op_isBl ha hb (nomark _)) (snd_e2 o_isB sndO sndO)
theorem pd_notB (ha : PDo X W a oa) (hb : PDo X W b ob) : PD X W (.Compare a [.IsNot] [b] pos) (eB2 (vB fNotB) oa ob) := PD.of (pe_cmpR op_notBl ha hb (nomark _)) (snd_e2 o_notB sndO sndO)
theorem pd_inF (ha : PDo X W a oa) (hb : PDo X W b ob) (hm : behindInMarks .In b = false := by with_unfolding_all rfl) : PD X W (.Compare a [.In] [b] pos) (eB2 (vB fInF) oa ob) := PD.of (pe_cmpR op_in_seq ha hb hm) (snd_e2 o_inF sndO sndO)
theorem pd_notInF (ha : PDo X W a oa) (hb : PDo X W b ob) (hm : behindInMarks .NotIn b = false := by with_unfolding_all rfl) : PD X W (.Compare a [.NotIn] [b] pos) (eB2 (vB fNotInF) oa ob) := PD.of (pe_cmpR op_notIn_seq ha hb hm) (snd_e2 o_notInF sndO sndO)
theorem room65 (hr : Room k X.A) : X.A.units + 65 < cLine := by have := hr.un; omega
theorem pd_in (hr : Room k X.A) (ha : PDo X W a oa) (hb : PDo X W b ob) (hm : behindInMarks .In b = false := by with_unfolding_all rfl) : PD X W (.Compare a [.In] [b] pos) (eB2 (vB fIn) oa ob) := PD.of (pe_cmpR (op_inD (room65 hr)) ha hb hm) (snd_e2 o_in sndO sndO)
theorem pd_notIn (hr : Room k X.A) (ha : PDo X W a oa) (hb : PDo X W b ob) (hm : behindInMarks .NotIn b = false := by with_unfolding_all rfl) : PD X W (.Compare a [.NotIn] [b] pos) (eB2 (vB fNotIn) oa ob) := PD.of (pe_cmpR (op_notInD (room65 hr)) ha hb hm) (snd_e2 o_notIn sndO sndO)
/-! ### .. as tests -/
theorem pt_eq (hr : Room k X.A) (ha : PDo X W a oa) (hb : PDo X W b ob) : PDt X W (.Compare a [.Eq] [b] pos) (tB2 fEq oa ob) := PDt.of (pt_cmpR (op_eqD hr.units) ha hb (nomark _)) (snd_t2 o_eq sndO sndO)
theorem pt_ne (hr : Room k X.A) (ha : PDo X W a oa) (hb : PDo X W b ob) : PDt X W (.Compare a [.NotEq] [b] pos) (tB2 fNe oa ob) := PDt.of (pt_cmpR (op_neD hr.units) ha hb (nomark _)) (snd_t2 o_ne sndO sndO)
theorem pt_lt (ha : PDo X W a oa) (hb : PDo X W b ob) : PDt X W (.Compare a [.Lt] [b] pos) (tB2 fLt oa ob) := PDt.of (pt_cmpR op_lt ha hb (nomark _)) (snd_t2 o_lt sndO sndO)
theorem pt_le (ha : PDo X W a oa) (hb : PDo X W b ob) : PDt X W (.Compare a [.LtE] [b] pos) (tB2 fLe oa ob) := PDt.of (pt_cmpR op_le ha hb (nomark _)) (snd_t2 o_le sndO sndO)
theorem pt_gt (ha : PDo X W a oa) (hb : PDo X W b ob) : PDt X W (.Compare a [.Gt] [b] pos) (tB2 fGt oa ob) := PDt.of (pt_cmpR op_gt ha hb (nomark _)) (snd_t2 o_gt sndO sndO)
theorem pt_ge (ha : PDo X W a oa) (hb : PDo X W b ob) : PDt X W (.Compare a [.GtE] [b] pos) (tB2 fGe oa ob) := PDt.of (pt_cmpR op_ge ha hb (nomark _)) (snd_t2 o_ge sndO sndO)
theorem pt_isN (ha : PDo X W a oa) (hb : PDo X W b ob) : PDt X W (.Compare a [.Is] [b] pos) (tB2 fIsN oa ob) := PDt.of (pt_cmpR op_isN ha hb (nomark _)) (snd_t2 o_isN sndO sndO)
theorem pt_notN (ha : PDo X W a oa) (hb : PDo X W b ob) : PDt X W (.Compare a [.IsNot] [b] pos) (tB2 fNotN oa ob) := PDt.of (pt_cmpR op_notN ha hb (nomark _)) (snd_t2 o_notN sndO sndO)
theorem pt_isB (ha : PDo X W a oa) (hb : PDo X W b ob) : PDt X W (.Compare a [.Is] [b] pos) (tB2 fIsB oa ob) := PDt.of (pt_cmpR op_isBl ha hb (nomark _)) (snd_t2 o_isB sndO sndO)
theorem pt_notB (ha : PDo X W a oa) (hb : PDo X W b ob) : PDt X W (.Compare a [.IsNot] [b] pos) (tB2 fNotB oa ob) := PDt.of (pt_cmpR op_notBl ha hb (nomark _)) (snd_t2 o_notB sndO sndO)
theorem pt_inF (ha : PDo X W a oa) (hb : PDo X W b ob) (hm : behindInMarks .In b = false := by with_unfolding_all rfl) : PDt X W (.Compare a [.In] [b] pos) (tB2 fInF oa ob) := PDt.of (pt_cmpR op_in_seq ha hb hm) (snd_t2 o_inF sndO sndO)
theorem pt_notInF (ha : PDo X W a oa) (hb : PDo X W b ob) (hm : behindInMarks .NotIn b = false := by with_unfolding_all rfl) : PDt X W (.Compare a [.NotIn] [b] pos) (tB2 fNotInF oa ob) := PDt.of (pt_cmpR op_notIn_seq ha hb hm) (snd_t2 o_notInF sndO sndO)
theorem pt_in (hr : Room k X.A) (ha : PDo X W a oa) (hb : PDo X W b ob) (hm : behindInMarks .In b = false := by with_unfolding_all rfl) : PDt X W (.Compare a [.In] [b] pos) (tB2 fIn oa ob) := PDt.of (pt_cmpR (op_inD (room65 hr)) ha hb hm) (snd_t2 o_in sndO sndO)
theorem pt_notIn (hr : Room k X.A) (ha : PDo X W a oa) (hb : PDo X W b ob) (hm : behindInMarks .NotIn b = false := by with_unfolding_all rfl) : PDt X W (.Compare a [.NotIn] [b] pos) (tB2 fNotIn oa ob) := PDt.of (pt_cmpR (op_notInD (room65 hr)) ha hb hm) (snd_t2 o_notIn sndO sndO)
theorem pt_and1 (h : PDt X W a ta) : PDw X W (.BoolOp .And [a] pos) ta := PDw.of (pw_and1 h) sndT
theorem pt_or1 (h : PDt X W a ta) : PDw X W (.BoolOp .Or [a] pos) ta := PDw.of (pw_or1 h) sndT
theorem pt_and (h : PDt X W a ta) (h2 : PDw X W (.BoolOp .And (b :: rest) pos) tb) : PDw X W (.BoolOp .And (a :: b :: rest) pos) (tAnd ta tb) := PDw.of (pw_and h h2) (snd_and sndT sndT)
theorem pt_or (h : PDt X W a ta) (h2 : PDw X W (.BoolOp .Or (b :: rest) pos) tb) : PDw X W (.BoolOp .Or (a :: b :: rest) pos) (tOr ta tb) := PDw.of (pw_or h h2) (snd_or sndT sndT)
theorem pt_w (h : PDw X W e ta) : PDt X W e ta := h.pt
theorem pt_not (h : PDt X W a ta) : PDt X W (.UnaryOp .Not a pos) (tNot ta) := PDt.of (L2.pt_not h) (snd_not sndT)
theorem pt_vl (h : PD X W e m) (he : ∀ whole, isTrue e X.env whole = (do let v ← whole; standAt e.pos; holding [v] (truthy v)) := by intro _; rfl) : PDt X W e (tVal m) := PDt.of (pt_val h he) (snd_val sndE)
theorem pt_tru (h : PDo X W e oa) (he : ∀ whole, isTrue e X.env whole = (do let v ← whole; standAt e.pos; holding [v] (truthy v)) := by intro _; rfl) : PDt X W e (tB1 fTru oa) := PDt.of (pt_truth h he) (snd_tru sndO)
/-! ### and, or, not, if as values -/
theorem pd_1 {op : BoolOp} (h : PD X W a m) : PD X W (.BoolOp op [a] pos) m := PD.of (pe_one h) sndE
theorem pd_and (h : PD X W a ma) (h2 : PD X W (.BoolOp .And (b :: rest) pos) mb) : PD X W (.BoolOp .And (a :: b :: rest) pos) (eAnd ma mb) := PD.of (pe_and h h2) (snd_andV sndE sndE)
theorem pd_or (h : PD X W a ma) (h2 : PD X W (.BoolOp .Or (b :: rest) pos) mb) : PD X W (.BoolOp .Or (a :: b :: rest) pos) (eOr ma mb) := PD.of (pe_or h h2) (snd_orV sndE sndE)
theorem pd_not (h : PD X W a ma) : PD X W (.UnaryOp .Not a pos) (eNot ma) := PD.of (pe_not h) (snd_notV sndE)
theorem pd_if (hc : PDt X W c tc) (ha : PD X W a ma) (hb : PD X W b mb) : PD X W (.IfExp c a b pos) (eIf tc ma mb) := PD.of (pe_ifExp hc ha hb) (snd_if sndT sndE sndE)
/-! ### built-ins -/
variable {p2 : Pos}
theorem pd_len (T : Blt X.mg) (ha : PDo X W a oa) (hg : Gl X "len" := by rfl) (h1 : starEach [a] X.env = (false, eval a X.env) :: starEach [] X.env := by rfl) : PD X W (.Call (.Name "len" p2) [a] [] pos) (eB1 fLen oa) :=
  PD.of (pe_callB call_len_seq hg T.len PySem.boot_len (pa_cons ha pa_nil h1) (by decide) (by decide) h1) (snd_c1 o_len w_len sndO)
theorem pd_abs (T : Blt X.mg) (ha : PDo X W a oa) (hg : Gl X "abs" := by rfl) (h1 : starEach [a] X.env = (false, eval a X.env) :: starEach [] X.env := by rfl) : PD X W (.Call (.Name "abs" p2) [a] [] pos) (eB1 fAbs oa) :=
  PD.of (pe_callB call_abs hg T.abs (by decide +kernel) (pa_cons ha pa_nil h1) (by decide) (by decide) h1) (snd_c1 o_abs w_abs sndO)
theorem pd_intOf (T : Blt X.mg) (ha : PDo X W a oa) (hg : Gl X "int" := by rfl) (h1 : starEach [a] X.env = (false, eval a X.env) :: starEach [] X.env := by rfl) : PD X W (.Call (.Name "int" p2) [a] [] pos) (eB1 fIntOf oa) :=
  PD.of (pe_callTy call_int1 hg T.int (by decide +kernel) (pa_cons ha pa_nil h1) (by decide) (by decide) h1) (snd_c1 o_int w_int sndO)
theorem pd_tupOf (T : Blt X.mg) (ha : PDo X W a oa) (hg : Gl X "tuple" := by rfl) (h1 : starEach [a] X.env = (false, eval a X.env) :: starEach [] X.env := by rfl) : PD X W (.Call (.Name "tuple" p2) [a] [] pos) (eB1 fTupOf oa) :=
  PD.of (pe_callTy call_tuple_of hg T.tuple (by decide +kernel) (pa_cons ha pa_nil h1) (by decide) (by decide) h1) (snd_c1 o_tupOf w_tup sndO)
theorem pd_lstOf (T : Blt X.mg) (ha : PDo X W a oa) (hg : Gl X "list" := by rfl) (h1 : starEach [a] X.env = (false, eval a X.env) :: starEach [] X.env := by rfl) : PD X W (.Call (.Name "list" p2) [a] [] pos) (eB1 fLstOf oa) :=
  PD.of (pe_callTy call_list_of hg T.list (by decide +kernel) (pa_cons ha pa_nil h1) (by decide) (by decide) h1) (snd_c1 o_lstOf w_lst sndO)
theorem pd_all (T : Blt X.mg) (hc : X.calm = true) (ha : PDo X W a oa) (hg : Gl X "all" := by rfl) (h1 : starEach [a] X.env = (false, eval a X.env) :: starEach [] X.env := by rfl) : PD X W (.Call (.Name "all" p2) [a] [] pos) (eB1 fAll oa) :=
  PD.of (pe_callB (cr_all hc) hg T.all (by decide +kernel) (pa_cons ha pa_nil h1) (by decide) (by decide) h1) (snd_c1 o_all w_all sndO)
theorem pd_any (T : Blt X.mg) (hc : X.calm = true) (ha : PDo X W a oa) (hg : Gl X "any" := by rfl) (h1 : starEach [a] X.env = (false, eval a X.env) :: starEach [] X.env := by rfl) : PD X W (.Call (.Name "any" p2) [a] [] pos) (eB1 fAny oa) :=
  PD.of (pe_callB (cr_any hc) hg T.any (by decide +kernel) (pa_cons ha pa_nil h1) (by decide) (by decide) h1) (snd_c1 o_any w_any sndO)
theorem pd_sum (T : Blt X.mg) (hc : X.calm = true) (ha : PDo X W a oa) (hg : Gl X "sum" := by rfl) (h1 : starEach [a] X.env = (false, eval a X.env) :: starEach [] X.env := by rfl) : PD X W (.Call (.Name "sum" p2) [a] [] pos) (eB1 fSum oa) :=
  PD.of (pe_callB (cr_sum hc) hg T.sum (by decide +kernel) (pa_cons ha pa_nil h1) (by decide) (by decide) h1) (snd_c1 o_sum w_sum sndO)
theorem pd_max (T : Blt X.mg) (hc : X.calm = true) (ha : PDo X W a oa) (hg : Gl X "max" := by rfl) (h1 : starEach [a] X.env = (false, eval a X.env) :: starEach [] X.env := by rfl) : PD X W (.Call (.Name "max" p2) [a] [] pos) (eB1 fMax oa) :=
  PD.of (pe_callB (cr_max hc) hg T.max (by decide +kernel) (pa_cons ha pa_nil h1) (by decide) (by decide) h1) (snd_c1 o_max w_max sndO)
theorem pd_min (T : Blt X.mg) (hc : X.calm = true) (ha : PDo X W a oa) (hg : Gl X "min" := by rfl) (h1 : starEach [a] X.env = (false, eval a X.env) :: starEach [] X.env := by rfl) : PD X W (.Call (.Name "min" p2) [a] [] pos) (eB1 fMin oa) :=
  PD.of (pe_callB (cr_min hc) hg T.min (by decide +kernel) (pa_cons ha pa_nil h1) (by decide) (by decide) h1) (snd_c1 o_min w_min sndO)
theorem pd_max2 (T : Blt X.mg) (hc : X.calm = true) (ha : PDo X W a oa) (hb : PDo X W b ob) (hg : Gl X "max" := by rfl) (h1 : starEach [a, b] X.env = (false, eval a X.env) :: starEach [b] X.env := by rfl) (h2 : starEach [b] X.env = (false, eval b X.env) :: starEach [] X.env := by rfl) (h3 : (backTo pos (starEach [b] X.env)).any (·.1) = false := by rfl) : PD X W (.Call (.Name "max" p2) [a, b] [] pos) (eB2 fMax2 oa ob) :=
  PD.of (pe_callB (call_max2 hc) hg T.max (by decide +kernel) (pa_cons ha (pa_cons hb pa_nil h2) h1) (by decide) (by decide) h1 h3) (snd_c2 o_max2 w_max2 sndO sndO)
theorem pd_min2 (T : Blt X.mg) (hc : X.calm = true) (ha : PDo X W a oa) (hb : PDo X W b ob) (hg : Gl X "min" := by rfl) (h1 : starEach [a, b] X.env = (false, eval a X.env) :: starEach [b] X.env := by rfl) (h2 : starEach [b] X.env = (false, eval b X.env) :: starEach [] X.env := by rfl) (h3 : (backTo pos (starEach [b] X.env)).any (·.1) = false := by rfl) : PD X W (.Call (.Name "min" p2) [a, b] [] pos) (eB2 fMin2 oa ob) :=
  PD.of (pe_callB (call_min2 hc) hg T.min (by decide +kernel) (pa_cons ha (pa_cons hb pa_nil h2) h1) (by decide) (by decide) h1 h3) (snd_c2 o_min2 w_min2 sndO sndO)
theorem pd_isi {nm : Str} {q : String} {p3 : Pos} (T : Blt X.mg) (ht : KitOk X.K q) (hn : X.mg nm = none) (hb : bootBuiltins nm = some (.type q)) (ha : PDo X W a oa) (hg : Gl X "isinstance" := by rfl) (hg2 : Gl X nm := by rfl) (hne : nm ≠ "__name__" := by decide) (hdb : (nm == ("__debug__" : Str)) = false := by decide)
    (h1 : starEach [a, .Name nm p3] X.env = (false, eval a X.env) :: starEach [.Name nm p3] X.env := by rfl) (h2 : starEach [.Name nm p3] X.env = (false, eval (.Name nm p3) X.env) :: starEach [] X.env := by rfl) (h3 : (backTo pos (starEach [.Name nm p3] X.env)).any (·.1) = false := by rfl) :
    PD X W (.Call (.Name "isinstance" p2) [a, .Name nm p3] [] pos) (eB1 (fIsi q) oa) :=
  PD.of (pe_callB (call_isi) hg T.isinstance (by decide +kernel) (pa_cons ha (pa_cons (pe_bltn (v := .ty q) hg2 hn hb rfl hne hdb) pa_nil h2) h1) (by decide) (by decide) h1 h3) (snd_b1 (rr := fun v => rIsi X.K [v, .ty q]) (o_isi ht) w_isi sndO)
/-! ### what is walked -/
variable {tg iter : Expr}
theorem id_list (h : PD X W iter m) : ID X W tg iter (iList m) := ID.of (pi_list h) (si_list sndE)
theorem id_tup (h : PD X W iter m) : ID X W tg iter (iTup m) := ID.of (pi_tup h) (si_tup sndE)
theorem id_r1 (T : Blt X.mg) (ha : PDo X W a oa) (hg : Gl X "range" := by rfl) (h1 : starEach [a] X.env = [(false, eval a X.env)] := by rfl) : ID X W tg (.Call (.Name "range" p) [a] [] pos) (iR1 oa) := ID.of (pi_range1 hg T.range (pa_cons ha pa_nil h1) h1) (si_r1 sndO)
theorem id_r2 (T : Blt X.mg) (ha : PDo X W a oa) (hb : PDo X W b ob) (hg : Gl X "range" := by rfl) (h1 : starEach [a, b] X.env = [(false, eval a X.env), (false, eval b X.env)] := by rfl) (h2 : starEach [b] X.env = [(false, eval b X.env)] := by rfl) :
    ID X W tg (.Call (.Name "range" p) [a, b] [] pos) (iR2 oa ob) := ID.of (pi_range2 hg T.range (pa_cons ha (pa_cons hb pa_nil h2) (h1.trans (congrArg (fun l => (false, eval a X.env) :: l) h2.symm))) h1 h2) (si_r2 sndO sndO)
/-- a list or a tuple that is walked -/
theorem pi_seq {l : Expr} {tl : TE} (hl : PE X l tl) : PI X tg l (fun σ H R => tl σ H fun x H1 => ∃ a, x = .ref a ∧ (((∃ xs, SqL X.K H1 a xs) ∧ R (Itl X.K a) H1) ∨ ((∃ xs, SqT X.K H1 a xs) ∧ R (Itt X.K a) H1))) := by
  constructor
  intro pins s σ H R I h
  refine thn (hl.run pins s σ H _ I h) ?_
  rintro v s1 ⟨x, H1, I1, r1, a, rfl, q⟩
  cases r1
  have fresh : ∀ b ∈ [s1.heap.objs.size], FpOk X pins H1 b := fun b hb => by
    rcases List.mem_singleton.mp hb with rfl
    exact I1.fpOk (Nat.le_refl _) (I1.hok.fresh (Nat.le_refl _))
  rcases q with ⟨⟨xs, hq⟩, q⟩ | ⟨⟨xs, hq⟩, q⟩
  · obtain ⟨its, _, p, _⟩ := I1.list hq
    exact wpAny_pyIter_list p.isList ⟨_, [s1.heap.objs.size], _, _, H1, rfl, I1.kept (t' := s1.toks) (fun b o e => Heap.get?_push_of_some _ e), turn_list a _, ⟨_, Heap.get?_push_size _ rfl, rfl, rfl⟩, fresh, q⟩
  · obtain ⟨its, _, p, _⟩ := I1.tuple hq
    exact wpAny_pyIter_tuple (show s1.heap.IsTuple a its.toArray from p) ⟨_, [s1.heap.objs.size], _, _, H1, rfl, I1.kept (t' := s1.toks) (fun b o e => Heap.get?_push_of_some _ e), turn_tuple a _, ⟨_, Heap.get?_push_size _ rfl, rfl, rfl⟩, fresh, q⟩
theorem si_seq {K : PySem.W.Frag} {te : TE} {e : E} (he : SndE K W te e) : SndI K W (fun σ H R => te σ H fun x H1 => ∃ a, x = .ref a ∧ (((∃ xs, SqL K H1 a xs) ∧ R (Itl K a) H1) ∨ ((∃ xs, SqT K H1 a xs) ∧ R (Itt K a) H1))) (iSeq e) := fun x σ H z r Q h => by
  refine he.toD r ?_
  refine (Post.bind (f := fun s z1 => match s.d with
    | .lst l => .ok l z1
    | .tup l => .ok l z1
    | _ => .stk) h).imp fun x1 H1 s z1 l1 r1 q v b => ?_
  cases hd : s.d <;> rw [hd] at q b <;> first | exact q.elim | skip
  · obtain ⟨a, vs, ev, hp, hr⟩ := b
    exact ⟨a, ev, .inr ⟨⟨vs, ex_t r1.r0.hs hp⟩, (q x1 H1 (.refl _) r1).2.1 a vs hp hr⟩⟩
  · obtain ⟨a, vs, ev, hp, hr⟩ := b
    exact ⟨a, ev, .inl ⟨⟨vs, SqL.of (r1.r0.hs _ _ hp)⟩, (q x1 H1 (.refl _) r1).1 a vs hp hr⟩⟩
theorem id_seq (h : PD X W iter m) : ID X W tg iter (iSeq m) := ID.of (pi_seq h) (si_seq sndE)
/-! ### statements -/
variable {st : Stmt} {sts : List Stmt} {A B M : SS}
theorem sds_nil : SDs X W [] sNx := SDs.of pss_nil ss_nx
theorem sds_1 (h : SD X W st A) : SDs X W [st] A := SDs.of (pss_one h) sndS
theorem sds_c (h : SD X W st A) (h2 : SDs X W sts B) : SDs X W (st :: sts) (sSeq A B) := SDs.of (pss_cons h h2) (ss_seq sndS sndS)
theorem sd_pass : SD X W (.Pass pos) sNx := SD.of ps_pass ss_nx
theorem sd_bk : SD X W (.Break pos) sBk := SD.of ps_break ss_bk
theorem sd_ct : SD X W (.Continue pos) sCt := SD.of ps_continue ss_ct
theorem sd_ret (h : PD X W e m) : SD X W (.Return (some e) pos) (sRet m) := SD.of (ps_ret h) (ss_ret sndE)
theorem sd_if {s1 s2 : List Stmt} (hc : PDt X W c tc) (ha : SDs X W s1 A) (hb : SDs X W s2 B) : SD X W (.If c s1 s2 pos) (sIf tc A B) := SD.of (ps_if hc ha hb) (ss_if sndT sndS sndS)
theorem gd_nm {i : Nat} {x : Str} (hN : X.N.Nodup) (hx : Loc X.env.scope x) (hi : X.N[i]? = some x := by rfl) (hf : X.fn x = true ∨ X.env.scope.names.lookup x = some .local := by first | exact .inl rfl | exact .inr rfl) : GD X W (.Name x pos) (.nm i) := GD.of (pg_name hN hi hx hf) sg_nm
theorem gds_0 : GDs X W [] [] := GDs.of pgs_nil sgs_nil
theorem gds_1 {g : Tg} {gs : List Tg} (h : GD X W e g) (h2 : GDs X W es gs) (hs : (assignEach (e :: es) X.env).map (·.2) = assign e X.env :: (assignEach es X.env).map (·.2) := by rfl) : GDs X W (e :: es) (g :: gs) := GDs.of (pgs_cons h h2 hs) (sgs_cons sndG sndGs)
theorem gd_tup {gs : List Tg} {j : Nat} (hc : X.calm = true) (h : GDs X W es gs) (hn : (assignEach es X.env).length = gs.length := by rfl) (hst : (assignEach es X.env).findIdx? (·.1) = none := by rfl) : GD X W (.Tuple es j pos) (.tp gs) := GD.of (pg_tup hc h hn hst) (sg_tup sndGs rfl)
theorem gd_ix {i : Nat} (ho : PE X a (tVar i)) (hb : PD X W b m) (ha : ∀ v, assign (.Subscript a b pos) X.env v = (do
      let ov ← holding [v] (eval a X.env)
      let iv ← holding [v, ov] (eval b X.env)
      standAt pos
      holding [v, ov, iv] (setItem ov iv v)
      release [v, ov, iv] []) := by intro _; rfl) : GD X W (.Subscript a b pos) (.ix i m) := GD.of (pg_sub ho hb set_list ha) (sg_ix sndE)
theorem sd_set {i : Nat} {x : Str} {p2 : Pos} (hN : X.N.Nodup) (hx : Loc X.env.scope x) (he : PD X W e m) (hi : X.N[i]? = some x := by rfl) (hs : swapsWith e (some (.Name x p2)) pos.line X.env = pure false := by rfl) (hf : X.fn x = true ∨ X.env.scope.names.lookup x = some .local := by first | exact .inl rfl | exact .inr rfl) :
    SD X W (.Assign [.Name x p2] e pos) (sAsg (.nm i) m) := SD.of (ps_set hN hi hx he hs hf) (ss_asg sndE sg_nm)
theorem sd_asg {g : Tg} (he : PD X W e m) (hg : GD X W tg g) (hs : swapsWithSole [tg] e pos.line X.env = pure false := by rfl) (hw : swappedStores [tg] e X.env = pure none := by rfl)
    (h1 : (assignEach [tg] X.env).map (·.2) = [assign tg X.env] := by rfl) : SD X W (.Assign [tg] e pos) (sAsg g m) := SD.of (ps_asg he hg hs hw h1) (ss_asg sndE sndG)
theorem pas_0 : PA X [] tNil := pa_nil
theorem sd_par {i j : Nat} {x y : Str} {px py pt pt2 : Pos} {kt k2 : Nat} (hc : X.calm = true) (hN : X.N.Nodup) (hx : X.env.scope.names.lookup x = some .local) (hy : X.env.scope.names.lookup y = some .local) (ha : PD X W a ma) (hb : PD X W b mb) (hij : i ≠ j := by decide) (hi : X.N[i]? = some x := by rfl) (hj : X.N[j]? = some y := by rfl)
    (hw : swappedStores [.Tuple [.Name x px, .Name y py] kt pt] (.Tuple [a, b] k2 pt2) X.env = pure (some [x, y]) := by rfl) (hs : swapsWithSole [.Tuple [.Name x px, .Name y py] kt pt] (.Tuple [a, b] k2 pt2) pos.line X.env = pure false := by rfl)
    (h1 : starEach [a, b] X.env = (false, eval a X.env) :: starEach [b] X.env := by rfl) (h2 : starEach [b] X.env = (false, eval b X.env) :: starEach [] X.env := by rfl) :
    SD X W (.Assign [.Tuple [.Name x px, .Name y py] kt pt] (.Tuple [a, b] k2 pt2) pos) (sPar [i, j] [ma, mb]) :=
  SD.of (ps_par hc hN hi hj hij hx hy (pa_cons ha (pa_cons hb pa_nil h2) h1) hw hs) (ss_par (sas_cons sndE (sas_cons sndE sas_nil)) hij)
theorem sd_par3 {i j l : Nat} {x y w : Str} {px py pw pt pt2 : Pos} {kt k2 : Nat} (hc : X.calm = true) (hN : X.N.Nodup) (hx : X.env.scope.names.lookup x = some .local) (hy : X.env.scope.names.lookup y = some .local) (hz : X.env.scope.names.lookup w = some .local) (ha : PD X W a ma) (hb : PD X W b mb) (hcc : PD X W c mc) (hij : i ≠ j := by decide) (hil : i ≠ l := by decide) (hjl : j ≠ l := by decide)
    (hi : X.N[i]? = some x := by rfl) (hj : X.N[j]? = some y := by rfl) (hl : X.N[l]? = some w := by rfl)
    (hw : swappedStores [.Tuple [.Name x px, .Name y py, .Name w pw] kt pt] (.Tuple [a, b, c] k2 pt2) X.env = pure (some [x, y, w]) := by rfl) (hs : swapsWithSole [.Tuple [.Name x px, .Name y py, .Name w pw] kt pt] (.Tuple [a, b, c] k2 pt2) pos.line X.env = pure false := by rfl)
    (h1 : starEach [a, b, c] X.env = (false, eval a X.env) :: starEach [b, c] X.env := by rfl) (h2 : starEach [b, c] X.env = (false, eval b X.env) :: starEach [c] X.env := by rfl) (h3 : starEach [c] X.env = (false, eval c X.env) :: starEach [] X.env := by rfl) :
    SD X W (.Assign [.Tuple [.Name x px, .Name y py, .Name w pw] kt pt] (.Tuple [a, b, c] k2 pt2) pos) (sPar [i, j, l] [ma, mb, mc]) :=
  SD.of (ps_par3 hc hN hi hj hl hij hil hjl hx hy hz (pa_cons ha (pa_cons hb (pa_cons hcc pa_nil h3) h2) h1) hw hs) (ss_par3 (sas_cons sndE (sas_cons sndE (sas_cons sndE sas_nil))))
theorem sd_aug_plus {i : Nat} {x : Str} {p2 : Pos} (hN : X.N.Nodup) (hx : Loc X.env.scope x) (he : PDo X W e oa) (hi : X.N[i]? = some x := by rfl) (hf : X.fn x = true ∨ X.env.scope.names.lookup x = some .local := by first | exact .inl rfl | exact .inr rfl) :
    SD X W (.AugAssign (.Name x p2) .Add e pos) (sAsg (.nm i) (eB2 fAdd (.v i) oa)) := SD.of (ps_aug hN hi hx he (ti := rI0 fun i j => .int (i + j)) (fun pins s σ H x y v u Q I rx ry h => iop_add pins s σ H x y v u Q I rx ry h) hf) (ss_aug o_add w_add sndO)
theorem sd_app {i : Nat} {apos cpos : Pos} (ho : PE X a (tVar i)) (he : PD X W e m)
    (hs : swapsWith (.Call (.Attribute a "append" apos) [e] [] cpos) none pos.line X.env = pure false := by rfl)
    (hbase : attributeBase a "append" X.env (eval a X.env) = eval a X.env := by rfl)
    (hfew : ((backTo cpos (starEach [e] X.env)).all (fun x => !x.1) && (backToKw cpos (keywordEach [] X.env)).all (fun x => x.1.isSome)
      && decide ([e].length + ([] : List Keyword).length + (if ([] : List Keyword).isEmpty then 0 else 1) < 30)) = true := by rfl)
    (hline : (apos.endLine == cpos.line) = true := by rfl) (h1 : starEach [e] X.env = (false, eval e X.env) :: starEach [] X.env := by rfl) (hpl : (backTo cpos (starEach [] X.env)).any (·.1) = false := by rfl) :
    SD X W (.Expr (.Call (.Attribute a "append" apos) [e] [] cpos) pos) (sApp i m) :=
  SD.of (ps_expr (pe_bm PySem.F.plainAttrs_list PySem.F.slot_list_append PySem.F.type_list_append mt_append ho (pa_cons he pa_nil h1) hbase hfew hline h1 hpl) hs) (ss_app sndE)
theorem sd_for {i : I} {g : Tg} (hp : PassesOwn (model X.prog X.w) X.A X.env X.xe) (hc : X.calm = true) (hi : ID X W tg iter i) (hg : GD X W tg g) (hb : SDs X W sts B) (hs : ∀ x, foldedSetIterable iter X.env x = pure x := by intro _; rfl) :
    SD X W (.For tg iter sts [] pos) (sFor g i B) := SD.of (ps_for hp hc hi hg hb hs) (ss_for sndI sndG sndS)
theorem sd_wh (hp : PassesOwn (model X.prog X.w) X.A X.env X.xe) (hc : PDt X W c tc) (hb : SDs X W sts B) : SD X W (.While c sts [] pos) (sWh tc B) := SD.of (ps_while hp hc hb) (ss_wh sndT sndS)
/-! ### comprehensions -/
theorem gw_n {vs : List Nat} {i : Nat} {x : Str} (hN : X.N.Nodup) (hx : Loc X.env.scope x) (hm : i ∈ vs := by decide) (hi : X.N[i]? = some x := by rfl) (hf : X.fn x = true ∨ X.env.scope.names.lookup x = some .local := by first | exact .inl rfl | exact .inr rfl) : GDw X vs (.Name x pos) (.nm i) := GDw.of (pg_name hN hi hx hf) (gw_nm hm)
theorem gws_0 {vs : List Nat} : GDsw X vs [] [] := GDsw.of pgs_nil gsw_nil
theorem gws_1 {vs : List Nat} {g : Tg} {gs : List Tg} (h : GDw X vs e g) (h2 : GDsw X vs es gs) (hs : (assignEach (e :: es) X.env).map (·.2) = assign e X.env :: (assignEach es X.env).map (·.2) := by rfl) : GDsw X vs (e :: es) (g :: gs) := GDsw.of (pgs_cons h h2 hs) (gsw_cons sndGw sndGsw)
theorem gw_t {vs : List Nat} {gs : List Tg} {j : Nat} (hc : X.calm = true) (h : GDsw X vs es gs) (hn : (assignEach es X.env).length = gs.length := by rfl) (hst : (assignEach es X.env).findIdx? (·.1) = none := by rfl) : GDw X vs (.Tuple es j pos) (.tp gs) := GDw.of (pg_tup hc h hn hst) (gw_tup sndGsw rfl)
theorem ts_0 : PDts X W [] tYes := PDts.of pts_nil (fun x σ H z r Q h => h x H (.refl _) r)
theorem ts_1 (h : PDt X W c tc) : PDts X W [c] tc := PDts.of (pts_one h) sndT
theorem pd_lc {elt : Expr} {ifs : List Expr} {scope : Scope} {own : List (Str × Nat)} {i : I} {g : Tg} (hc : X.calm = true) (hN : X.N.Nodup) (hi : ID X W tg iter i) (ok : BlkOk X.N X.env.scope scope own)
    (hg : ∀ (s : Shared) (H : Hp) (C : Addr) (cl : List (Str × Addr)) (fp : List Addr), GDw (X.blk s H scope (compEnvC scope cl C X.env) fp) (own.map (·.2)) tg g) (ht : ∀ (s : Shared) (H : Hp) (C : Addr) (cl : List (Str × Addr)) (fp : List Addr), PDts (X.blk s H scope (compEnvC scope cl C X.env) fp) W0 ifs tc)
    (he : ∀ (s : Shared) (H : Hp) (C : Addr) (cl : List (Str × Addr)) (fp : List Addr), PD (X.blk s H scope (compEnvC scope cl C X.env) fp) W0 elt m) (hs : ∀ x, foldedSetIterable iter X.env x = pure x := by intro _; rfl) :
    PD X W (.ListComp elt [⟨tg, iter, ifs, 0⟩] scope pos) (eLc g i tc m (own.map (·.2))) := PD.of (pe_lc hc hN hi ok hg ht he hs) (snd_lc sndI sndGw sndT sndE)
theorem sd_lc {j : Nat} {y : Str} {py spos : Pos} {elt : Expr} {ifs : List Expr} {scope : Scope} {own : List (Str × Nat)} {i : I} {g : Tg} (hc : X.calm = true) (hN : X.N.Nodup) (hyl : X.env.scope.names.lookup y = some .local) (hsw : swapsWith (.ListComp elt [⟨tg, iter, ifs, 0⟩] scope pos) (some (.Name y py)) spos.line X.env = pure true) (hi : ID X W tg iter i) (ok : BlkOk X.N X.env.scope scope own)
    (hg : ∀ (s : Shared) (H : Hp) (C : Addr) (cl : List (Str × Addr)) (fp : List Addr), GDw (X.blk s H scope (compEnvC scope cl C X.env) fp) (own.map (·.2)) tg g) (ht : ∀ (s : Shared) (H : Hp) (C : Addr) (cl : List (Str × Addr)) (fp : List Addr), PDts (X.blk s H scope (compEnvC scope cl C X.env) fp) W0 ifs tc)
    (he : ∀ (s : Shared) (H : Hp) (C : Addr) (cl : List (Str × Addr)) (fp : List Addr), PD (X.blk s H scope (compEnvC scope cl C X.env) fp) W0 elt m) (hy : X.N[j]? = some y := by rfl) (hs : ∀ x, foldedSetIterable iter X.env x = pure x := by intro _; rfl) :
    SD X W (.Assign [.Name y py] (.ListComp elt [⟨tg, iter, ifs, 0⟩] scope pos) spos) (sAsg (.nm j) (eLc g i tc m (own.map (·.2)))) := SD.of (ps_setLc hc hN hy hyl hsw hi ok hg ht he hs) (ss_asg (snd_lc sndI sndGw sndT sndE) sg_nm)
end
end Zn

/-! ZExc: own exception classes over ValueError: an __init__ that says super().__init__(x) and stores its fields; C(..) as a value; its fields; isinstance. -/
namespace Zn
open PySem L2 Evl PyProof.Rows NdefX
section
variable {X : Cx} {pins : List (Addr × Obj)} {σ : L2.St} {H : Hp} {s : Shared} {a C u : Addr}
/-- the built-in __init__ bound to an exception that is being made, called -/
theorem bw_call {us : List Value} {Q : Value → Shared → Prop} {E : Value → Shared → Prop} {A : Around} (T : OexC X.K C) (I : Inv X pins σ H s) (e : H a = some (exo a C none)) (hu : s.heap.get? u = some (PySem.W.kxs_mw "ValueError.__init__" a)) (hl : us.length ≤ sizeLine) (h : ∀ s', Inv X pins σ H s' → Q .none s') :
    wpAny (model X.prog X.w) A (call (.ref u) us) Q E s := by
  obtain ⟨nm, q, N, bs, bm, sn, sub, ab, col, dd, k0, k1, k2, k3, k5, hC, hbm⟩ := T.cls
  obtain ⟨t1, ho⟩ := exo_at I.hok e
  obtain ⟨hp, g, d, t, os⟩ := s
  have key : ∀ h' t1, (∀ b o, b ≠ a → hp.get? b = some o → h'.get? b = some o) → h'.get? a = some (PySem.HandSPX.excO C t1) → Q .none ⟨h', g, d, t, os⟩ := fun h' t2 k hx => by
    have J := I.write (t' := t) (x := a) (e := a) (o := exo a C none) (by rw [e]; exact True.intro) (.inl rfl) k ⟨_, hx⟩ (exo_ok hx)
    have eu : upd H a (exo a C none) = H := by
      funext b
      by_cases hb : b = a
      · rw [hb, upd_same, e]
      · rw [upd_ne hb]
    rw [eu] at J
    exact h _ J
  refine wpAny_call (codeAny_of_tree ?_)
  show wpAny _ A.in1 (callAny (.ref u) ⟨us, []⟩) _ _ _
  simp only [callAny]
  refine wpAny_bind (wpAny_load hu ?_)
  simp only [PySem.W.kxs_mw, show (Value.type "method-wrapper" == Value.type "method" || Value.type "method-wrapper" == Value.type "builtin_function_or_method" || Value.type "method-wrapper" == Value.type "method-wrapper") = true by decide, if_true]
  refine PySem.W.KFB.if_so (by decide) ?_
  refine wpAny_bind (PySem.W.check_bound_init PySem.F.excBase_ValueError.toExcCallFacts (I.kIn _ _ hC) ho rfl ?_)
  refine wpAny_bind (wpAny_pure (wpAny_pure ?_))
  refine ⟨Code.quiet_builtin _ (by decide +kernel), codeAny_builtin PySem.F.excBase_ValueError.initEntry ?_⟩
  rw [Around.under_plainId PySem.F.excBase_ValueError.init.plain _]
  wp_walk
  refine key _ hp.objs.size (fun b o hb ho' => ?_) ?_
  · rw [Heap.get?_update_other _ _ (Ne.symm hb)]
    exact Heap.get?_push_of_some _ ho'
  · rw [Heap.get?_update_self _ (Heap.get?_push_of_some _ ho) rfl]
    rfl
/-- the __init__ of an own exception class: where it stands, what it closes over -/
structure InitF (P : Program) (K : PySem.W.Frag) (C f cc cda : Addr) (qual : Str) (params : Arguments) (body : List Stmt) (scope : Scope) (fd : FuncData) : Prop where
  ex : ∃ oc od osl kV doc pm an ct c1 d1 s1 vs file tf c2 d2 s2, fd = PySem.W.ksFn "__init__" qual params body scope .none kV doc pm an (.ref cda) ct cc ∧ K.lookup f = some ⟨oc, od, .func fd, osl⟩ ∧ PySem.W.codeIn K (.ref cda) qual = true ∧
    K.lookup cda = some ⟨c1, d1, .fields vs, s1⟩ ∧ vs[2]? = some (.str file tf) ∧ ((P.main.file : Str) == file) = true ∧ K.lookup cc = some ⟨c2, d2, .cell (some (.ref C)), s2⟩
theorem InitF.binds {P : Program} {K : PySem.W.Frag} {C f cc cda : Addr} {qual : Str} {params : Arguments} {body : List Stmt} {scope : Scope} {fd : FuncData} {ps : List Str} (F : InitF P K C f cc cda qual params body scope fd)
    (h : ∀ (kV doc pm : Value) (an : Option Addr) (ct : Value) (us : List Value), us.length = ps.length → bindArgs (PySem.W.ksFn "__init__" qual params body scope .none kV doc pm an (.ref cda) ct cc) ⟨us, []⟩ = pure (ps.zip us)) : Binds K fd ps [] := by
  obtain ⟨oc, od, osl, kV, doc, pm, an, ct, c1, d1, s1, vs2, file, tf, c2, d2, s2, rfl, _⟩ := F.ex
  exact .all (h kV doc pm an ct)
/-- what the written part says besides -/
structure SupC (P : Program) (K : PySem.W.Frag) (mg : Str → Option Value) (C : Addr) : Prop where
  T : OexC K C
  sup : mg "super" = none
  top : (P.main.scope.names.lookup ("super" : Str)).isSome = false
  opq : PySem.W.nsIn K cStatics "thirdparty.any" = some none
  ini : PySem.W.ks_superIn K C C "__init__" = some (some (.builtin "ValueError.__init__"))
  sub : PySem.W.subIn K (.ref C) (.type "ValueError") = some true
  mro : PySem.W.mroIn K C (.ref C) = some true
end
section
variable {CX : CXT} {P : Program} {w : World} {K : PySem.W.Frag} {mg : Str → Option Value} {base : Heap} {C f cc cda : Addr} {qual : Str} {params : Arguments} {body rest : List Stmt} {scope : Scope} {fd : FuncData} {N ps : List Str} {sp : Sp} {k : Nat}
  {p0 p1 p2 p3 p4 p5 : Pos} {wd : Str} {ar : Arg}
abbrev nfI (qual : Str) (params : Arguments) (body : List Stmt) (scope : Scope) (cc cda : Addr) : NF := ⟨"__init__", qual, params, body, scope, [("__class__", cc)], cda⟩
theorem fn_super (F : InitF P K C f cc cda qual params body scope fd) (T : SupC P K mg C) (S : NScope N ps ["__class__"] scope)
    (hbody : body = .Expr (.Call (.Attribute (.Call (.Name "super" p0) [] [] p1) "__init__" p2) [.Name wd p5] [] p3) p4 :: rest)
    (hp : (params.posonlyargs ++ params.args).head? = some ar) {iw : Nat} (hps : ps[0]? = some ar.arg) (hw : ps[iw]? = some wd) (hks : scope.names.lookup ("super" : Str) = some .globalImplicit) (hdw : (wd == ("__debug__" : Str)) = false)
    (len : ∀ vs H Q E, sp vs H Q E → vs.length = ps.length) (hsp : ∀ vs H Q E, sp vs H Q E → ∃ a us, vs = .ref a :: us ∧ H a = some (exo a C none))
    (he : ∀ L, eval (.Call (.Attribute (.Call (.Name "super" p0) [] [] p1) "__init__" p2) [.Name wd p5] [] p3) (envF (nfI qual params body scope cc cda) f L) = (do
      let ov ← attributeBase (.Call (.Name "super" p0) [] [] p1) "__init__" (envF (nfI qual params body scope cc cda) f L) (eval (.Call (.Name "super" p0) [] [] p1) (envF (nfI qual params body scope cc cda) f L))
      standAt p2.atName
      let (g, first) ← holding [ov] (getMethod ov "__init__" (do return (← importBound (.Call (.Name "super" p0) [] [] p1) (envF (nfI qual params body scope cc cda) f L)).getD true))
      callWith p3 g first (backTo p3 (starEach [.Name wd p5] (envF (nfI qual params body scope cc cda) f L))) []))
    (hrest : ∀ (A : Around) (outer : List Env) (s : Shared) (H : Hp) (vs : List V) (Q : VK) (E : XK), sp vs H Q E → ∃ t, PSs (ncx CX P w K mg base N (nfI qual params body scope cc cda) f A outer s H E) rest t ∧ t { nx := fun _ H' => Q .non H', rt := Q } (startF N vs [some (.ref C)]) H) :
    FnOk P w K mg base CX (k + 1) f fd ps sp := by
  obtain ⟨oc, od, osl, kV, doc, pm, an, ct, c1, d1, s1, vs2, file, tf, c2, d2, s2, hfd, lk, hcd, lcd, hvs2, hfile, lcc⟩ := F.ex
  obtain ⟨nm, q, N', bs, bm, sn, sub, ab, col, dd, k0, k1, k2, k3, k5, lC, hbm⟩ := T.T.cls
  refine ⟨len, fun A outer s H args us vs Q E hr e0 hb r hsp' => ?_⟩
  have hl := len _ _ _ _ hsp'
  obtain ⟨a, ws, rfl, ha⟩ := hsp _ _ _ _ hsp'
  have KX : K.In s.heap := e0.mod.kin.keeps fun b o e => (e0.bs b o e).1
  have lim : s.heap.NoLimit := e0.mod.nolimit.keeps fun b o e => (e0.bs b o e).1
  have hcell : ∀ x ∈ scope.names, x.2 ≠ .cell := S.nocell
  obtain ⟨t, ht, hq⟩ := hrest A outer s H _ Q E hsp'
  subst hfd
  have CL : CellsAt [("__class__", cc)] ["__class__"] [some (.ref C)] s.heap H := by
    have hcc : H cc = none := (e0.bs _ _ (e0.mod.kin _ _ lcc)).2
    have hce : s.heap.IsCell cc (some (.ref C)) := ⟨_, KX _ _ lcc, rfl⟩
    refine ⟨rfl, fun y c e => ?_, fun x y c e1 e2 => ?_, fun i y e => ?_⟩
    · by_cases hy : y = "__class__"
      · subst hy
        cases (show some cc = some c from e)
        exact ⟨hcc, _, hce⟩
      · have hb : (y == ("__class__" : Str)) = false := by simpa using hy
        rw [List.lookup_cons, hb] at e
        cases e
    · have one : ∀ z, [(("__class__" : Str), cc)].lookup z = some c → z = "__class__" := fun z hz => by
        by_cases hy : z = "__class__"
        · exact hy
        · have hb : (z == ("__class__" : Str)) = false := by simpa using hy
          rw [List.lookup_cons, hb] at hz
          cases hz
      rw [one x e1, one y e2]
    · cases i with
      | zero =>
        cases e
        exact ⟨cc, rfl, fun v hv => by cases hv; exact ⟨_, rfl, hce⟩⟩
      | succ i => cases i <;> cases e
  refine ks_codeAny_call_defAt (fd := PySem.W.ksFn "__init__" qual params body scope .none kV doc pm an (.ref cda) ct cc) (body := body) (binds := ps.zip us) hr.depth (KX _ _ lk) rfl lim (PySem.W.codeRec_of KX hcd) rfl hb hcell (fun ⟨n, _⟩ hy => S.par n (List.of_mem_zip hy).1) (fun h₁ hns kp => ?_) S.co S.gen S.kind
  have I : L2.Inv (ncx CX P w K mg base N (nfI qual params body scope cc cda) f A outer s H E) [] (startF N (.ref a :: ws) [some (.ref C)]) H { s with heap := h₁, toks := s.toks + (ps.zip us).length } := inv_startN S hr.hd e0 hl r CL hns kp
  have fin : ∀ {σ' : L2.St} {H' : Hp} {v : V} {u : Value} {s' : Shared}, L2.Inv (ncx CX P w K mg base N (nfI qual params body scope cc cda) f A outer s H E) [] σ' H' s' → L2.RelV v u → Q v H' → CE outer P w H s Q u s' :=
    fun {σ' H' v u s'} J rv q => ⟨v, H', J.os, J.bare, J.base, J.hok, rv, q⟩
  generalize hX : ncx CX P w K mg base N (nfI qual params body scope cc cda) f A outer s H E = X at I ht fin
  have eA : X.A = A.deeper (envF (nfI qual params body scope cc cda) f s.heap.objs.size) := by rw [← hX]; rfl
  have eE : X.env = envF (nfI qual params body scope cc cda) f s.heap.objs.size := by rw [← hX]; rfl
  have eK : X.K = K := by rw [← hX]; rfl
  have eP : X.prog = P := by rw [← hX]; rfl
  have ew : X.w = w := by rw [← hX]; rfl
  have em : X.mg = mg := by rw [← hX]; rfl
  have eN : X.N = N := by rw [← hX]; rfl
  have ex : X.xe = fun e s' => wpAny (model P w) (A.deeper (envF (nfI qual params body scope cc cda) f s.heap.objs.size)) (leaving (envF (nfI qual params body scope cc cda) f s.heap.objs.size) e) (fun _ s'' => CX outer H s E e s'') (fun e' s'' => CX outer H s E e' s'') s' := by rw [← hX]; rfl
  show _root_.PySem.wpAt (model P w) (A.deeper (envF (nfI qual params body scope cc cda) f s.heap.objs.size)) (.func body (envF (nfI qual params body scope cc cda) f s.heap.objs.size)) (execs body (envF (nfI qual params body scope cc cda) f s.heap.objs.size)) _
    (fun e s' => wpAny (model P w) (A.deeper (envF (nfI qual params body scope cc cda) f s.heap.objs.size)) (leaving (envF (nfI qual params body scope cc cda) f s.heap.objs.size) e) (fun _ s'' => CX outer H s E e s'') (fun e' s'' => CX outer H s E e' s'') s') _
  rw [← ex, ← eA, ← eE, ← eP, ← ew]
  have kS : X.env.scope = scope := by rw [eE]
  generalize hS1 : ({ s with heap := h₁, toks := s.toks + (ps.zip us).length } : Shared) = S1 at I
  have hsy : (body : List Stmt) = .Expr (.Call (.Attribute (.Call (.Name "super" p0) [] [] p1) "__init__" p2) [.Name wd p5] [] p3) p4 :: rest := hbody
  rw [show execs body X.env = execs (.Expr (.Call (.Attribute (.Call (.Name "super" p0) [] [] p1) "__init__" p2) [.Name wd p5] [] p3) p4 :: rest) X.env by rw [← hsy]]
  have KX1 : K.In S1.heap := eK ▸ I.kIn
  refine ks_wpAt_execs_cons (ks_wpAt_Expr_any (ks_wpAt_MethodCall (pl := (do return (← importBound (.Call (.Name "super" p0) [] [] p1) X.env).getD true)) ?main ?he) ?hi ?hs)
  case he => rw [eE]; exact he _
  case hi =>
    unfold interactive
    rw [kS, S.kind] <;> rfl
  case hs => rw [eE]; rfl
  obtain ⟨mb, hmb, hbt⟩ := I.mod.blt
  have kind : X.env.scope.kind = .function := by rw [kS]; exact S.kind
  have hkc : X.env.kindOf "__class__" = some .free := by
    show X.env.scope.names.lookup ("__class__" : Str) = _
    rw [kS]; exact S.frk _ (List.mem_singleton.mpr rfl)
  have hks2 : X.env.kindOf "super" = some .globalImplicit := by
    show X.env.scope.names.lookup ("super" : Str) = _
    rw [kS]; exact hks
  have loc : ∀ {s2 : Shared} {i : Nat} {y : Str} {v : V}, L2.Inv X [] (startF N (.ref a :: ws) [some (.ref C)]) H s2 → ps[i]? = some y → (V.ref a :: ws)[i]? = some v → ∃ m u, s2.heap.Ns X.env.locals m ∧ m y = some u ∧ L2.RelV v u ∧ X.env.kindOf y = some .local := fun {s2 i y v} J e1 e2 => by
    obtain ⟨m, hm, hv⟩ := J.loc
    have hN : X.N[i]? = some y := by
      have h1 := (List.getElem?_eq_some_iff.mp e1).1
      have q2 : (ps ++ [("__class__" : Str)])[i]? = some y := by rw [List.getElem?_append_left h1]; exact e1
      rw [← S.pre, List.getElem?_take_of_lt (by omega)] at q2
      rw [eN]; exact q2
    have hσ : (startF N (.ref a :: ws) [some (.ref C)])[i]? = some (some v) := by
      have h1 := (List.getElem?_eq_some_iff.mp e2).1
      unfold startF
      rw [List.getElem?_append_left (by rw [List.length_map]; exact h1), List.getElem?_map, e2] <;> rfl
    have hk : X.env.scope.names.lookup y = some .local := by rw [kS]; exact S.par _ (List.mem_of_getElem? e1)
    obtain ⟨u, ru, hu⟩ := hv i y v hN hσ (.inl hk)
    rcases hu with ⟨_, hu⟩ | ⟨h2, _⟩
    · exact ⟨m, u, hm, hu, ru, hk⟩
    · have h3 : X.env.scope.names.lookup y = some .cell ∨ X.env.scope.names.lookup y = some .free := h2
      rw [hk] at h3
      rcases h3 with h3 | h3 <;> cases h3
  have cw : 0 < ps.length := (List.getElem?_eq_some_iff.mp hps).1
  refine ks_wpAt_super_base (env := X.env) (f := f) (cc := cda) hks2 hkc rfl (by rw [eE]) (KX1 _ _ lk) rfl hp (by rw [eE]) (KX1 _ _ lcd) rfl hvs2 (by rw [eP]; exact hfile) (by rw [eP]; exact T.top) ?_
  refine PySem.W.ks_loadName_global kind hks2 (Calls.loadGlobal_builtin (env := X.env) (mg := X.mg) (mb := mb) (by rw [I.ok.glob]; exact I.mod.glob.keeps I.bk) (by rw [em]; exact T.sup) (by rw [I.ok.blt]; exact hmb.keeps I.bk) ((hbt "super" (by decide)).trans (show bootBuiltins "super" = some (.type "super") by decide +kernel)) ⟨rfl, ?_⟩)
  refine wpAny_loadName_free (v := .ref C) kind hkc (c := cc) (by rw [eE]; rfl) ⟨_, KX1 _ _ lcc, rfl⟩ ?_
  obtain ⟨m, u, hm, hu, ru, hkl⟩ := loc I hps rfl
  cases ru
  refine wpAny_loadName_local kind hkl hm hu ?_
  have hcl : PySem.W.clsIn K C = some { name := nm, bases := bs, mro := .ref C :: bm, ns := N', qualname := q, hasDict := true, slotNames := sn, subclasses := sub, abstract := ab, collection := col, hasDel := false } := by unfold PySem.W.clsIn; rw [lC] <;> rfl
  obtain ⟨t1, hoa⟩ := exo_at I.hok ha
  obtain ⟨hp1, g1, dr1, tk1, os1⟩ := S1
  refine PySem.ks_wpAny_isType_cls (KX1 _ _ lC) rfl ⟨rfl, ?_⟩
  refine PySem.ks_wpAny_call_super (KX1 _ _ lC) rfl hoa rfl (fun c z => nomatch z) (PySem.W.looks_mroIn KX1 T.mro) (fun h2 e2 k2 => ?_)
  have I2 : L2.Inv X [] (startF N (.ref a :: ws) [some (.ref C)]) H ⟨h2, g1, dr1, tk1, os1⟩ := I.kept (t' := tk1) k2
  have KX2 : K.In h2 := eK ▸ I2.kIn
  obtain ⟨t2, hoa2⟩ := exo_at I2.hok ha
  have hni : PySem.W.alongIn K "__init__" ((((.ref C :: bm) : List Value).dropWhile (· != .ref C)).drop 1) = some (some (.builtin "ValueError.__init__")) := by
    have z := T.ini
    unfold PySem.W.ks_superIn at z
    rw [hcl] at z
    exact z
  have IA : PySem.W.InstAt h2 a { cls := .ref C, dict := none, data := .fields #[.ref t2, .none, .none, .none, .bool false, .none] } C none := ⟨hoa2, rfl, rfl, trivial⟩
  refine PySem.W.kxs_getMethod PySem.W.kxs_ValueError e2 (PySem.W.looks_opaque KX2 T.opq) (l₀ := .ref C :: bm) ((PySem.W.looks_clsIn KX2 hcl).andThen .now) rfl KX2 hni (IA.type.andThen (PySem.W.looks_subIn KX2 T.sub)) (PySem.W.ks_ne KX2 IA hcl) rfl ?_
  have k3 : ∀ b o, h2.get? b = some o → (h2.push (PySem.W.kxs_mw "ValueError.__init__" a)).get? b = some o := fun b o z => Heap.get?_push_of_some _ z
  have I3 : L2.Inv X [] (startF N (.ref a :: ws) [some (.ref C)]) H ⟨h2.push (PySem.W.kxs_mw "ValueError.__init__" a), g1, dr1, tk1 + 1, os1⟩ := I2.kept (t' := tk1 + 1) k3
  have hbw : (h2.push (PySem.W.kxs_mw "ValueError.__init__" a)).get? h2.objs.size = some (PySem.W.kxs_mw "ValueError.__init__" a) := Heap.get?_push_size _ rfl
  obtain ⟨vw, hvw⟩ : ∃ vw, (V.ref a :: ws)[iw]? = some vw := by
    have h1 := (List.getElem?_eq_some_iff.mp hw).1
    rw [← hl] at h1
    exact ⟨_, List.getElem?_eq_getElem h1⟩
  obtain ⟨m3, u3, hm3, hu3, ru3, hk3⟩ := loc I3 hw hvw
  refine PySem.W.kxs_callWith (i := "ValueError.__init__") (x := a) rfl (PySem.Calls.evalArgs_plain (Calls.spliced_cons (wpAny_Name (wpAny_loadName_local kind hk3 hm3 hu3 ?_) hdw)))
  refine Calls.spliced_nil ⟨hbw, ?_⟩
  refine bw_call (X := X) (eK ▸ T.T) I3 ha hbw (by rw [sizeLine_eq]; show (1 : Nat) ≤ _; decide) fun s4 I4 => ?_
  refine wpAt_of_wpAny (wpAny_mono (ht.run [] s4 _ H _ I4 hq) (fun fl s' hs => ?_) fun e s' hs => hs)
  cases fl with
  | ret u =>
    obtain ⟨v, σ', H', J, rv, q⟩ := hs
    show CR CX outer X.prog X.w H s Q E (.ok (.ret u)) s'
    rw [eP, ew]
    exact fin J rv q
  | next =>
    obtain ⟨σ', H', J, q⟩ := hs
    show CR CX outer X.prog X.w H s Q E (.ok (.ret .none)) s'
    rw [eP, ew]
    exact fin (v := V.non) (u := Value.none) J rfl q
  | brk =>
    obtain ⟨_, _, _, q⟩ := hs
    exact False.elim q
  | cont =>
    obtain ⟨_, _, _, q⟩ := hs
    exact False.elim q
end

/-! ### its fields, stored one by one -/
def tOsts (K : PySem.W.Frag) : List (Str × Nat) → TS
  | [] => tNext
  | (f, i) :: r => tSeq (tOst K f (tVar 0) (tVar i)) (tOsts K r)
section
variable {K : PySem.W.Frag} {C a dx : Addr} {σ : L2.St} {H : Hp} {D : L2.Ends}
theorem upd_upd (H : Hp) (p : Addr) (o u : HO) : upd (upd H p o) p u = upd H p u := by
  funext b
  by_cases h : b = p
  · rw [h, upd_same, upd_same]
  · rw [upd_ne h, upd_ne h, upd_ne h]
theorem upd_comm (H : Hp) {p q : Addr} (h : p ≠ q) (o u : HO) : upd (upd H p o) q u = upd (upd H q u) p o := by
  funext b
  by_cases h1 : b = p
  · subst h1
    rw [upd_ne h, upd_same, upd_same]
  · by_cases h2 : b = q
    · subst h2
      rw [upd_same, upd_ne h1, upd_same]
    · rw [upd_ne h2, upd_ne h1, upd_ne h1, upd_ne h2]
theorem osts_old (T : OexC K C) (s0 : σ[0]? = some (some (.ref a))) : ∀ (r : List (Str × Nat)) (ys : List V) (fs : List (Str × V)) (H : Hp), (∀ q ∈ r, PySem.W.findIn K (.ref C) q.1 = some none) → r.map (fun q => σ[q.2]?) = ys.map (fun y => some (some y)) → fs.length + r.length ≤ 900 →
    H a = some (exo a C (some dx)) → H dx = some (exd dx fs) → dx ≠ a → D.nx σ (upd H dx (exd dx (((r.map (·.1)).zip ys).reverse ++ fs))) → tOsts K r D σ H
  | [], ys, fs, H, _, hy, _, ha, hd, ne, h => by
    have e : upd H dx (exd dx fs) = H := by
      funext b
      by_cases hb : b = dx
      · rw [hb, upd_same, hd]
      · rw [upd_ne hb]
    have h' : D.nx σ (upd H dx (exd dx fs)) := h
    rw [e] at h'
    exact h'
  | (f, i) :: r, [], fs, H, _, hy, _, _, _, _, _ => by cases hy
  | (f, i) :: r, y :: ys, fs, H, hf, hy, hl, ha, hd, ne, h => by
    obtain ⟨h1, h2⟩ := List.cons.inj hy
    refine ⟨y, h1, .ref a, s0, a, C, rfl, T, hf _ List.mem_cons_self, .inr ⟨dx, fs, ha, hd, by have := hl; simp only [List.length_cons] at this; omega, ?_⟩⟩
    refine osts_old T s0 r ys ((f, y) :: fs) _ (fun q hq => hf q (List.mem_cons_of_mem _ hq)) h2 (by simp only [List.length_cons] at hl ⊢; omega) (by rw [upd_ne (Ne.symm ne)]; exact ha) upd_same ne ?_
    rw [upd_upd]
    have e : ((r.map (·.1)).zip ys).reverse ++ (f, y) :: fs = ((((f, i) :: r).map (·.1)).zip (y :: ys)).reverse ++ fs := by simp
    rw [e]
    exact h
theorem osts_new (T : OexC K C) (s0 : σ[0]? = some (some (.ref a))) {r : List (Str × Nat)} {ys : List V} (hf : ∀ q ∈ r, PySem.W.findIn K (.ref C) q.1 = some none) (hy : r.map (fun q => σ[q.2]?) = ys.map (fun y => some (some y))) (hl : r.length ≤ 900) (h0 : r ≠ [])
    (ha : H a = some (exo a C none)) (h : ∀ dx, H dx = none → dx ≠ a → D.nx σ (upd (upd H dx (exd dx ((r.map (·.1)).zip ys).reverse)) a (exo a C (some dx)))) : tOsts K r D σ H := by
  cases r with
  | nil => exact absurd rfl h0
  | cons q r =>
    obtain ⟨f, i⟩ := q
    cases ys with
    | nil => cases hy
    | cons y ys =>
      obtain ⟨h1, h2⟩ := List.cons.inj hy
      refine ⟨y, h1, .ref a, s0, a, C, rfl, T, hf _ List.mem_cons_self, .inl ⟨ha, fun dx hd ne => ?_⟩⟩
      refine osts_old T s0 r ys [(f, y)] _ (fun q hq => hf q (List.mem_cons_of_mem _ hq)) h2 (by simp only [List.length_cons, List.length_nil] at hl ⊢; omega) upd_same (by rw [upd_ne ne]; exact upd_same) ne ?_
      have e : ((r.map (·.1)).zip ys).reverse ++ [(f, y)] = ((((f, i) :: r).map (·.1)).zip (y :: ys)).reverse := by simp
      rw [e]
      have e2 : upd (upd (upd H dx (exd dx [(f, y)])) a (exo a C (some dx))) dx (exd dx ((((f, i) :: r).map (·.1)).zip (y :: ys)).reverse) = upd (upd H dx (exd dx ((((f, i) :: r).map (·.1)).zip (y :: ys)).reverse)) a (exo a C (some dx)) := by
        rw [upd_comm _ (Ne.symm ne), upd_upd]
      rw [e2]
      exact h dx hd ne
end
/-- what such an __init__ promises: its fields are its parameters in their order -/
def spI (C : Addr) (ns : List Str) : Sp := fun vs H Q _ => ∃ a us, vs = .ref a :: us ∧ us.length = ns.length ∧ H a = some (exo a C none) ∧ ∀ dx, H dx = none → dx ≠ a → Q .non (upd (upd H dx (exd dx (ns.zip us).reverse)) a (exo a C (some dx)))
def nums : Nat → List Str → List (Str × Nat)
  | _, [] => []
  | i, n :: r => (n, i) :: nums (i + 1) r
theorem nums_fst : ∀ (i : Nat) (l : List Str), (nums i l).map (·.1) = l
  | _, [] => rfl
  | i, n :: r => congrArg (n :: ·) (nums_fst (i + 1) r)
theorem nums_at {σ : L2.St} : ∀ (i : Nat) (l : List Str) (us : List V), us.length = l.length → (∀ j, j < us.length → σ[i + j]? = (us[j]?).map some) → (nums i l).map (fun q => σ[q.2]?) = us.map (fun y => some (some y))
  | _, [], [], _, _ => rfl
  | _, [], _ :: _, h, _ => by cases h
  | _, _ :: _, [], h, _ => by cases h
  | i, n :: r, u :: us, h, k => by
    have h0 := k 0 (by simp)
    have h1 := nums_at (σ := σ) (i + 1) r us (by simpa using h) (fun j hj => by
      have := k (j + 1) (by simpa using hj)
      rw [show i + 1 + j = i + (j + 1) by omega, this]; rfl)
    show σ[i]? :: (nums (i + 1) r).map (fun q => σ[q.2]?) = _
    rw [h1]
    have h0' : σ[i]? = some (some u) := h0
    rw [h0']; rfl
theorem nums_mem {P : Str → Prop} : ∀ (i : Nat) (l : List Str), (∀ n ∈ l, P n) → ∀ q ∈ nums i l, P q.1
  | _, [], _, q, h => by cases h
  | i, n :: r, hp, q, h => by
    rcases List.mem_cons.mp h with rfl | h
    · exact hp _ List.mem_cons_self
    · exact nums_mem (i + 1) r (fun m hm => hp m (List.mem_cons_of_mem _ hm)) q h
section
variable {P : Program} {w : World} {K : PySem.W.Frag} {mg : Str → Option Value} {base : Heap} {C f cc cda : Addr} {qual : Str} {params : Arguments} {body rest : List Stmt} {scope : Scope} {fd : FuncData} {ns : List Str}
  {p0 p1 p2 p3 p4 p5 : Pos} {wd slf : Str} {ar : Arg}
/-- THE RULE of such an __init__ -/
theorem ok_init {CX : CXT} (F : InitF P K C f cc cda qual params body scope fd) (T : SupC P K mg C) (S : NScope (slf :: ns ++ [("__class__" : Str)]) (slf :: ns) ["__class__"] scope)
    (hbody : body = .Expr (.Call (.Attribute (.Call (.Name "super" p0) [] [] p1) "__init__" p2) [.Name wd p5] [] p3) p4 :: rest)
    (hp : (params.posonlyargs ++ params.args).head? = some ar) (har : ar.arg = slf) {iw : Nat} (hw : (slf :: ns)[iw]? = some wd) (hks : scope.names.lookup ("super" : Str) = some .globalImplicit) (hdw : (wd == ("__debug__" : Str)) = false)
    (he : ∀ L, eval (.Call (.Attribute (.Call (.Name "super" p0) [] [] p1) "__init__" p2) [.Name wd p5] [] p3) (envF (nfI qual params body scope cc cda) f L) = (do
      let ov ← attributeBase (.Call (.Name "super" p0) [] [] p1) "__init__" (envF (nfI qual params body scope cc cda) f L) (eval (.Call (.Name "super" p0) [] [] p1) (envF (nfI qual params body scope cc cda) f L))
      standAt p2.atName
      let (g, first) ← holding [ov] (getMethod ov "__init__" (do return (← importBound (.Call (.Name "super" p0) [] [] p1) (envF (nfI qual params body scope cc cda) f L)).getD true))
      callWith p3 g first (backTo p3 (starEach [.Name wd p5] (envF (nfI qual params body scope cc cda) f L))) []))
    (hno : ∀ n ∈ ns, PySem.W.findIn K (.ref C) n = some none) (h0 : ns ≠ []) (h9 : ns.length ≤ 800)
    (hrest : ∀ (A : Around) (outer : List Env) (s : Shared) (H : Hp) (E : XK), PSs (ncx CX P w K mg base (slf :: ns ++ [("__class__" : Str)]) (nfI qual params body scope cc cda) f A outer s H E) rest (tOsts K (nums 1 ns))) :
    FnOk P w K mg base CX 1 f fd (slf :: ns) (spI C ns) :=
  fn_super F T S hbody hp (by rw [har]; rfl) hw hks hdw (fun vs H Q E ⟨a, us, e, l, _⟩ => by rw [e]; simp [l]) (fun vs H Q E ⟨a, us, e, l, h, _⟩ => ⟨a, us, e, h⟩) he fun A outer s H vs Q E ⟨a, us, e, l, ha, hq⟩ => by
    subst e
    refine ⟨_, hrest A outer s H E, ?_⟩
    have hσ : ∀ j, j < us.length → (startF (slf :: ns ++ [("__class__" : Str)]) (.ref a :: us) [some (.ref C)])[1 + j]? = (us[j]?).map some := fun j hj => by
      unfold startF
      rw [List.getElem?_append_left (by simp; omega), List.getElem?_map, show 1 + j = j + 1 by omega]; rfl
    refine osts_new T.T rfl (ys := us) (nums_mem 1 ns hno) (nums_at 1 ns us l hσ) (by rw [← List.length_map (f := (·.1)), nums_fst]; omega) (fun z => h0 ?_) ha fun dx hd ne => ?_
    · have := nums_fst 1 ns
      rw [z] at this
      exact this.symm
    · rw [nums_fst]
      exact hq dx hd ne
end
end Zn

/-! ZExc2: C(..) as a value, its fields, isinstance. -/
namespace Zn
open PySem L2 Evl PyProof.Rows NdefX
/-- C(e, ..), C's own __init__ keeping sp, the exception as a value -/
def tMkX (C : Addr) (sp : Sp) (E : L2.St → XK) (ta : TA) : TE := fun σ H Q => ta σ H fun vs H1 => vs.length ≤ 1000 ∧ ∀ a, H1 a = none → sp (.ref a :: vs) (upd H1 a (exo a C none)) (fun v H2 => v = .non ∧ Q (.ref a) H2) (E σ)
section
variable {X : Cx} {e : Expr} {es : List Expr} {ta : TA} {p pos : Pos}
theorem pe_mkx {CX : CXT} {E : L2.St → XK} {x : Str} {C fI : Addr} {k : Nat} {fd : FuncData} {ps : List Str} {sp : Sp} (T : OexC X.K C) (iC : PySem.W.findIn X.K (.ref C) "__init__" = some (some (.ref fI))) (tI : PySem.W.typeIn X.K (.ref fI) = some (.type "function"))
    (F1 : FnOk X.prog X.w X.K X.mg X.base CX k fI fd ps sp) (hr : Room (k + 1) X.A) (hb : Binds X.K fd ps []) (hx : ∀ σ, PassesAt CX X σ (E σ)) (hg : Gl X x) (hm : X.mg x = some (.ref C)) (ha : PA X (e :: es) ta)
    (hdb : (x == ("__debug__" : Str)) = false := by decide) (he : starEach (e :: es) X.env = (false, eval e X.env) :: starEach es X.env := by rfl) (hpl : (backTo pos (starEach es X.env)).any (·.1) = false := by rfl) :
    PE X (.Call (.Name x p) (e :: es) [] pos) (tMkX C sp E ta) := by
  refine ⟨fun pins s σ H Q I h => ?_⟩
  obtain ⟨nm, q, N, bs, bm, sn, sub, ab, col, dd, k0, k1, k2, k3, k5, hC, hbm⟩ := T.cls
  refine wpAny_Call_Name_kw (ld_glob I hg hm ?_ hdb)
  refine PySem.W.callWith_K (h₀ := X.base) I.ok.mod.kin T.kC (thn (ha.run pos pins s σ H _ I h) fun us s1 ⟨vs, H1, I1, r1, hz, q1⟩ => ⟨I1.kIn, ?_⟩) he hpl
  show wpAny _ _ (call (.ref C) us) _ _ _
  obtain ⟨hp, g, dr, tk, os⟩ := s1
  have hsz : hp.objs.size ≤ hp.objs.size + 1 := Nat.le_succ _
  have hn : H1 (hp.objs.size + 1) = none := I1.hok.fresh hsz
  have hq := q1 (hp.objs.size + 1) hn
  have kk : ∀ b o, hp.get? b = some o → ((hp.push (PySem.W.kdv_tup us)).push (PySem.HandSPX.excO C hp.objs.size)).get? b = some o := fun b o e => Heap.get?_push_of_some _ (Heap.get?_push_of_some _ e)
  have hget : ((hp.push (PySem.W.kdv_tup us)).push (PySem.HandSPX.excO C hp.objs.size)).get? (hp.objs.size + 1) = some (PySem.HandSPX.excO C hp.objs.size) := by heap_get
  have I2 : L2.Inv X pins σ (upd H1 (hp.objs.size + 1) (exo (hp.objs.size + 1) C none)) ⟨(hp.push (PySem.W.kdv_tup us)).push (PySem.HandSPX.excO C hp.objs.size), g, dr, tk, os⟩ :=
    I1.laid (t' := tk) (a := hp.objs.size + 1) (o := exo (hp.objs.size + 1) C none) (h' := (hp.push (PySem.W.kdv_tup us)).push (PySem.HandSPX.excO C hp.objs.size)) kk hsz (exo_ok hget)
  have r2 : Vals (V.ref (hp.objs.size + 1) :: vs) (Value.ref (hp.objs.size + 1) :: us) := .cons rfl r1
  have hl : (Value.ref (hp.objs.size + 1) :: us).length = ps.length := by
    have e := r2.length
    rw [F1.len _ _ _ _ hq] at e
    exact e.symm
  have hus : us.length ≤ sizeLine := by
    rw [← Paired.length r1, sizeLine_eq]
    omega
  refine wpAny_call (PySem.HandSPX.call_own PySem.F.excBase_ValueError (fun Y => PySem.HandSPX.refsVE_contains Y bm hbm) (I1.kIn _ _ hC) (PySem.W.looks_findIn I1.kIn iC) (fun self => PySem.W.bind_fn I1.kIn self tI) hus
    (codeAny_mono (F1.run _ X.stack _ _ ⟨Value.ref (hp.objs.size + 1) :: us, []⟩ (Value.ref (hp.objs.size + 1) :: us) _ _ (E σ) (hr.make C us []) (I2.env0.make C us []) (by have := hb _ (Value.ref (hp.objs.size + 1) :: us) I2.kIn (by rw [List.append_nil]; exact hl); rw [List.append_nil] at this; exact this) r2 hq) fun r s' hq' => ?_))
  cases r with
  | error er => exact hx σ pins _ _ er s' I2 hq'
  | ok fl =>
    cases fl with
    | ret u =>
      obtain ⟨v, H2, J, rv, ev, q2⟩ := I2.after hq'
      subst ev
      exact ⟨rv, .ref (hp.objs.size + 1), H2, J, rfl, q2⟩
    | next => exact False.elim hq'
    | brk => exact False.elim hq'
    | cont => exact False.elim hq'
end
section
variable {K : PySem.W.Frag} {x : Aux} {σ : L2.St} {H : Hp} {z : Zs} {v : V} {d : D} {W : WX}
theorem R.ext (r : R K x σ H z) {p : Addr} {o : HO} (hn : H p = none) : R K (x.add p o) σ (upd H p o) z ∧ x.le (x.add p o) := by
  have f : Free x p := Free.new (z := z) r.r0 hn
  exact ⟨(r.ex (Ex.new hn)).add upd_same f (r.noslot hn), Aux.le_add f.1⟩
theorem snd_mk {C : Addr} {c : Str} {ns : List Str} {EE : L2.St → XK} {ta : TA} {ms : List E} (hC : C = He.ga K c) (ha : SndA K W ta ms) (hn : ms.length = ns.length) : SndE K W (tMkX C (spI C ns) EE ta) (eMk c ns ms) := fun x σ H z r Q q => by
  refine ha x σ H z r _ ?_
  have q' := Post.bind (f := fun ds z1 => if ds.length ≤ 900 then .ok (S.frz (.ex c ns ds)) z1 else .stk) q
  cases ea : args ms z with
  | exc e z1 => rw [ea] at q'; exact q'
  | stk => rw [ea] at q'; exact q'
  | ok ds z1 =>
    rw [ea] at q'
    intro x1 H1 l1 r1 vs b
    have k := q' x1 H1 l1 r1
    by_cases hl : ds.length ≤ 900
    · simp only [if_pos hl] at k
      refine ⟨by rw [b.length]; omega, fun a hna => ?_⟩
      have hlen : ∀ (l : List E) (z0 z1 : Zs) ds, args l z0 = .ok ds z1 → ds.length = l.length := by
        intro l
        induction l with
        | nil => intro z0 z1 ds e; cases e; rfl
        | cons a l ih =>
          intro z0 z1 ds e
          unfold args at e
          cases ea : a z0 with
          | ok s z2 =>
            rw [ea] at e
            cases eb : args l z2 with
            | ok ds' z3 =>
              simp only [O.bind, eb] at e
              cases e
              exact congrArg Nat.succ (ih _ _ _ eb)
            | exc _ _ => simp only [O.bind, eb] at e; cases e
            | stk => simp only [O.bind, eb] at e; cases e
          | exc _ _ => rw [ea] at e; cases e
          | stk => rw [ea] at e; cases e
      refine ⟨a, vs, rfl, b.length.trans ((hlen _ _ _ _ ea).trans hn), upd_same, fun dx hd ne => ⟨rfl, ?_⟩⟩
      rw [upd_ne ne] at hd
      rw [upd_comm _ (Ne.symm ne), upd_upd]
      obtain ⟨r2, l2⟩ := r1.ext (o := exd dx (ns.zip vs).reverse) hd
      have hna2 : upd H1 dx (exd dx (ns.zip vs).reverse) a = none := by rw [upd_ne (Ne.symm ne)]; exact hna
      obtain ⟨r3, l3⟩ := r2.ext (o := exo a C (some dx)) hna2
      refine k _ _ (l2.trans l3) r3 (.ref a) ⟨a, dx, vs, rfl, by rw [← hC]; exact upd_same, (upd_ne ne).trans upd_same, Reps.mono (l2.trans l3) b⟩ trivial
    · simp only [if_neg hl] at k
      exact k.elim
/-! ### its fields -/
def rAttr (K : PySem.W.Frag) (n : Str) : V → Hp → VK → Prop := fun x H Q => ∃ (a C d : Addr) (fs : List (Str × V)) (v : V), x = .ref a ∧ H a = some (exo a C (some d)) ∧ H d = some (exd d fs) ∧ XfC K C ∧ PySem.W.findIn K (.ref C) n = some none ∧ fs.lookup n = some v ∧ Q v H
theorem Reps.some? {n : Str} : ∀ {ns : List Str} {ds : List D} {vs : List V}, Reps K x ds vs → ((ns.zip vs).reverse.lookup n).isSome = ((ns.zip ds).reverse.lookup n).isSome
  | [], _, _, _ => by simp
  | _ :: _, [], _, e => by cases e; simp
  | m :: ns, d :: ds, _, ⟨v, r, e, q, t⟩ => by
    subst e
    rw [List.zip_cons_cons, List.reverse_cons, List.lookup_append, List.zip_cons_cons, List.reverse_cons, List.lookup_append]
    have h := Reps.some? (n := n) (ns := ns) t
    cases h1 : (ns.zip ds).reverse.lookup n <;> cases h2 : (ns.zip r).reverse.lookup n <;> rw [h1, h2] at h <;> first | (cases h; done) | skip
    · by_cases hm : n = m
      · subst hm; simp
      · have hb : (n == m) = false := by simpa using hm
        simp [List.lookup, hb]
    · rfl
theorem Reps.look {n : Str} {w : D} : ∀ {ns : List Str} {ds : List D} {vs : List V}, Reps K x ds vs → (ns.zip ds).reverse.lookup n = some w → ∃ v, (ns.zip vs).reverse.lookup n = some v ∧ Rep K x w v
  | [], _, _, _, h => by simp at h
  | _ :: _, [], _, _, h => by simp at h
  | m :: ns, d :: ds, _, ⟨v, r, e, q, t⟩, h => by
    subst e
    rw [List.zip_cons_cons, List.reverse_cons, List.lookup_append] at h
    rw [List.zip_cons_cons, List.reverse_cons, List.lookup_append]
    cases hl : (ns.zip ds).reverse.lookup n with
    | some w' =>
      rw [hl] at h
      cases h
      obtain ⟨v', h1, h2⟩ := Reps.look t hl
      exact ⟨v', by rw [h1]; rfl, h2⟩
    | none =>
      rw [hl] at h
      have hv : (ns.zip r).reverse.lookup n = none := by
        cases hr : (ns.zip r).reverse.lookup n with
        | none => rfl
        | some v' =>
          have h' := Reps.some? (n := n) (ns := ns) t
          rw [hl, hr] at h'
          cases h'
      rw [hv]
      by_cases hm : n = m
      · subst hm
        simp at h
        subst h
        exact ⟨v, by simp, q⟩
      · have hb : (n == m) = false := by simpa using hm
        simp [List.lookup, hb] at h
/-- what the written part says of the class named c -/
structure XCl (P : Program) (K : PySem.W.Frag) (mg : Str → Option Value) (c : Str) : Prop where
  S : SupC P K mg (He.ga K c)
  mgc : mg c = some (.ref (He.ga K c))
  xf : XfC K (He.ga K c)
  ec : L2.ExcC K (He.ga K c)
theorem BRep.ex {c : Str} {ns : List Str} {l : List D} (b : BRep K x H (.ex c ns l) v) : Rep K x (.ex c ns l) v := by
  rcases b with b | ⟨p, ho, _, _, q⟩
  · exact b
  · cases ho <;> exact q.elim
theorem o_attr {P : Program} {mg : Str → Option Value} {cs : List Str} {n : Str} (T : ∀ c ∈ cs, XCl P K mg c ∧ PySem.W.findIn K (.ref (He.ga K c)) n = some none) : Op1 K (rAttr K n) (fAttr cs n) := fun x H v c s Q hs a e f => by
  cases c <;> first | (cases e; done) | skip
  rename_i c ns l
  unfold fAttr at e
  by_cases hc : cs.contains c = true
  · simp only [if_pos hc] at e
    have hm : c ∈ cs := by simpa using hc
    cases hl : (ns.zip l).reverse.lookup n with
    | none => rw [hl] at e; cases e
    | some w =>
      rw [hl] at e; cases e
      obtain ⟨p, d, vs, ev, h1, h2, h3⟩ := a.ex
      obtain ⟨u, h4, h5⟩ := h3.look hl
      exact ⟨p, He.ga K c, d, _, u, ev, hs _ _ h1, hs _ _ h2, (T c hm).1.xf, (T c hm).2, h4, f.same _ _ rfl h5⟩
  · simp only [if_neg hc] at e
    cases e
theorem w_attr {cs : List Str} {n : Str} : Own1 (fAttr cs n) := fun a d e => by
  cases a <;> first | (exact nomatch (show (none : Option S) = some (.own d) from e)) | skip
  rename_i c ns l
  unfold fAttr at e
  by_cases hc : cs.contains c = true
  · simp only [if_pos hc] at e
    cases hl : (ns.zip l).reverse.lookup n <;> rw [hl] at e <;> cases e
  · simp only [if_neg hc] at e
    cases e
/-! ### isinstance -/
def rIsX (K : PySem.W.Frag) : List V → Hp → VK → Prop := fun xs H Q => ∃ (a C d : Addr) (fs : List (Str × V)) (c : V) (cv : Value) (b : Bool), xs = [.ref a, c] ∧ H a = some (exo a C (some d)) ∧ H d = some (exd d fs) ∧ L2.ExcC K C ∧ (∀ u, L2.RelV c u → u = cv) ∧ PySem.W.kitOne K (.ref C) cv = some b ∧ Q (.bl b) H
theorem call_isx {X : Cx} : CallR X (.builtin "isinstance") (rIsX X.K) := by
  intro pins s σ H xs us Q I r h
  obtain ⟨a, C, d, fs, c, cv, b, rfl, ha, hd, T, hcv, e, q⟩ := h
  cases r with
  | cons rx rr =>
    cases rr with
    | cons rt rr =>
      cases rr
      cases rx
      have ec := hcv _ rt
      subst ec
      obtain ⟨t1, ho⟩ := exo_at I.hok ha
      obtain ⟨mA, ⟨oD, es, ep, hoD, hrest⟩, _⟩ := exd_at I.hok hd
      have J : PySem.W.InstAt s.heap a { cls := .ref C, dict := some d, data := .fields #[.ref t1, .none, .none, .none, .bool false, .none] } C (some oD) := ⟨ho, rfl, rfl, hoD⟩
      have hcl : (PySem.W.clsIn X.K C).isSome = true := by
        obtain ⟨cdD, hcD, _⟩ := PySem.W.any_some T.hd
        rw [hcD]; rfl
      exact PySem.W.kia_one (PySem.W.kitx_exc (od := some oD) hcl T.hg T.hk T.hs T.ha T.hn T.ht T.hm) I.kIn J e (fun z => nomatch z) fun tk => ⟨.bl b, H, I.kept (t' := tk) fun _ _ z => z, rfl, q⟩
theorem o_isx {P : Program} {mg : Str → Option Value} {t : List (Str × Bool)} {c : V} {cv : Value} (hc : ∀ u, L2.RelV c u → u = cv) (T : ∀ q ∈ t, XCl P K mg q.1 ∧ PySem.W.kitOne K (.ref (He.ga K q.1)) cv = some q.2) : Op1 K (fun v => rIsX K [v, c]) (fIsX t) := fun x H v d s Q hs a e f => by
  cases d <;> first | (cases e; done) | skip
  rename_i n ns l
  unfold fIsX at e
  cases hl : t.lookup n with
  | none => simp only [hl] at e; cases e
  | some b =>
    simp only [hl] at e; cases e
    obtain ⟨p, d, vs, ev, h1, h2, h3⟩ := a.ex
    obtain ⟨T1, T2⟩ := T _ (PySem.mem_of_lookup hl)
    exact ⟨p, He.ga K n, d, _, c, cv, b, by rw [ev], hs _ _ h1, hs _ _ h2, T1.ec, hc, T2, f.same _ _ rfl rfl⟩
theorem w_isx {t : List (Str × Bool)} : Own1 (fIsX t) := fun a d e => by
  cases a <;> first | (cases e; done) | skip
  rename_i n ns l
  unfold fIsX at e
  cases hl : t.lookup n <;> simp only [hl] at e <;> cases e
end
section
variable {X : Cx} {W : WX} {a : Expr} {oa : Opd} {p p2 p3 pos : Pos} {es : List Expr} {e : Expr} {ms : List E}
/-- e.n, e an exception -/
theorem pe_xat {n : Str} {t : TE} (he : PE X e t) (hb : attributeBase e n X.env (eval e X.env) = eval e X.env := by rfl) : PE X (.Attribute e n pos) (tUn (rAttr X.K n) t) := by
  refine ⟨fun pins s σ H Q I h => ?_⟩
  refine attr_of hb (thn (he.run pins s σ H _ I h) fun u s1 hh => ?_)
  obtain ⟨x, H1, I1, rx, a, C, d, fs, v, ev, ha, hd, T, hno, l, q⟩ := hh
  subst ev
  obtain rfl : u = Value.ref a := rx
  obtain ⟨t1, ho⟩ := exo_at I1.hok ha
  obtain ⟨mA, hns, hr⟩ := exd_at I1.hok hd
  obtain ⟨od, hod, hl⟩ := lookIn_ns hns
  obtain ⟨u, hu, ru⟩ := RelO.some_of (v := v) (o := mA n) (by rw [← l]; exact hr n)
  have J : PySem.W.InstAt s1.heap a { cls := .ref C, dict := some d, data := .fields #[.ref t1, .none, .none, .none, .bool false, .none] } C (some od) := ⟨ho, rfl, rfl, hod⟩
  exact HandSPX.exc_get I1.kIn J T.ga T.gg T.exC (PySem.W.findObj_own T.hdC hno rfl (by rw [hl, hu])) (handed_of ru) ⟨v, H1, I1.tok _, ru, q⟩
theorem pd_xat {n : Str} {P : Program} {mg : Str → Option Value} (cs : List Str) (T : ∀ c ∈ cs, XCl P X.K mg c ∧ PySem.W.findIn X.K (.ref (He.ga X.K c)) n = some none) (ha : PDo X W a oa) (hb : attributeBase a n X.env (eval a X.env) = eval a X.env := by rfl) : PD X W (.Attribute a n pos) (eB1 (fAttr cs n) oa) :=
  PD.of (pe_xat ha hb) (snd_b1 (o_attr T) w_attr sndO)
theorem pd_isx {P : Program} {mg : Str → Option Value} {y : Expr} {c : V} {cv : Value} (t : List (Str × Bool)) (B : Blt X.mg) (hy : PE X y (tC c)) (hc : ∀ u, L2.RelV c u → u = cv) (T : ∀ q ∈ t, XCl P X.K mg q.1 ∧ PySem.W.kitOne X.K (.ref (He.ga X.K q.1)) cv = some q.2) (ha : PDo X W a oa) (hg : Gl X "isinstance" := by rfl)
    (h1 : starEach [a, y] X.env = (false, eval a X.env) :: starEach [y] X.env := by rfl) (h2 : starEach [y] X.env = (false, eval y X.env) :: starEach [] X.env := by rfl) (h3 : (backTo pos (starEach [y] X.env)).any (·.1) = false := by rfl) :
    PD X W (.Call (.Name "isinstance" p2) [a, y] [] pos) (eB1 (fIsX t) oa) :=
  PD.of (pe_callB (call_isx) hg B.isinstance (by decide +kernel) (pa_cons ha (pa_cons hy pa_nil h2) h1) (by decide) (by decide) h1 h3) (snd_b1 (rr := fun v => rIsX X.K [v, c]) (o_isx hc T) w_isx sndO)
/-- a class that may be made -/
structure XMk (P : Program) (w : World) (K : PySem.W.Frag) (mg : Str → Option Value) (base : Heap) (c : Str) (ns : List Str) : Prop where
  cl : XCl P K mg c
  ex : ∃ fI fd ps, PySem.W.findIn K (.ref (He.ga K c)) "__init__" = some (some (.ref fI)) ∧ PySem.W.typeIn K (.ref fI) = some (.type "function") ∧ Binds K fd ps [] ∧ FnOk P w K mg base (L2.CX P w) 1 fI fd ps (spI (He.ga K c) ns)
theorem pd_mk {c : Str} {ns : List Str} (M : XMk X.prog X.w X.K X.mg X.base c ns) (hr : Room 2 X.A) (tk : Takes X W) (ha : PDa X W (e :: es) ms) (hn : ms.length = ns.length := by rfl) (hg : Gl X c := by rfl) (hdb : (c == ("__debug__" : Str)) = false := by decide)
    (he : starEach (e :: es) X.env = (false, eval e X.env) :: starEach es X.env := by rfl) (hpl : (backTo pos (starEach es X.env)).any (·.1) = false := by rfl) : PD X W (.Call (.Name c p) (e :: es) [] pos) (eMk c ns ms) := by
  obtain ⟨fI, fd, ps, h1, h2, h3, F⟩ := M.ex
  exact PD.of (pe_mkx M.cl.S.T h1 h2 F hr h3 (fun σ => passAt tk σ) hg M.cl.mgc ha hdb he hpl) (snd_mk rfl sndA hn)
end
end Zn

/-! ZHead: what a law's head tells: the defs, the own exception classes, their __init__, further facts. -/
namespace Zn
open PySem L2 Evl PyProof.Rows
open He (ga ma eqO eqO_ok ba)
/-! ### an own exception class -/
def oexB (K : PySem.W.Frag) (C : Addr) : Bool := (match K.lookup C with
  | some ⟨.type t, _, .cls cd, sl⟩ => (match cd.mro, sl.toList with
    | .ref C' :: bm, [_, _, _, _, some (.builtin n), _] => decide (t = "type") && (decide (C' = C) && (decide (n = "ValueError.__new__") && (!cd.hasDel && (cd.hasDict && PySem.HandSPX.refsVE bm))))
    | _, _ => false)
  | _ => false) && (eqO (PySem.W.findIn K (.ref C) "__setattr__") (some (some (.builtin "object.__setattr__"))) && (decide (PySem.W.subIn K (.ref C) (.type "BaseException") = some true) && (decide (PySem.W.typeIn K (.ref C) = some (.type "type")) && PySem.W.keepIn K (.ref C))))
theorem oex_of {K : PySem.W.Frag} {C : Addr} (h : oexB K C = true) : OexC K C := by
  obtain ⟨h0, h⟩ := ba h
  obtain ⟨h1, h⟩ := ba h
  obtain ⟨h2, h⟩ := ba h
  obtain ⟨h3, h4⟩ := ba h
  refine ⟨?_, eqO_ok h1, of_decide_eq_true h2, of_decide_eq_true h3, h4⟩
  split at h0
  · rename_i t dd cd sl ho
    split at h0
    · rename_i C' bm k0 k1 k2 k3 n k5 hm hs
      obtain ⟨e1, h0⟩ := ba h0
      obtain ⟨e2, h0⟩ := ba h0
      obtain ⟨e3, h0⟩ := ba h0
      obtain ⟨e4, h0⟩ := ba h0
      obtain ⟨e5, hV⟩ := ba h0
      obtain rfl := of_decide_eq_true e1
      obtain rfl := of_decide_eq_true e2
      obtain rfl := of_decide_eq_true e3
      obtain ⟨nm, bs, mro, ns, qn, hd, sn, sub, ab, col, del⟩ := cd
      dsimp only at hm e4 e5
      subst hm
      have e4' : del = false := by simpa using e4
      subst e4' e5
      have hsl : sl = #[k0, k1, k2, k3, some (.builtin "ValueError.__new__"), k5] := by
        obtain ⟨l⟩ := sl
        simp only at hs
        rw [hs]
      subst hsl
      exact ⟨nm, qn, ns, bs, bm, sn, sub, ab, col, dd, k0, k1, k2, k3, k5, ho, hV⟩
    · cases h0
  · cases h0
def xecB (K : PySem.W.Frag) (D : Addr) : Bool := eqO (PySem.W.findIn K (.ref D) "__getattribute__") (some (some (.builtin "BaseException.__getattribute__"))) && (eqO (PySem.W.findIn K (.ref D) "__getattr__") (some none) && (decide (PySem.W.subIn K (.ref D) (.type "BaseException") = some true) && (PySem.W.hasDictIn K D &&
  (eqO (PySem.W.findIn K (.ref D) "__class__") (some (some (.builtin "object.__class__"))) && (eqO (PySem.W.specialIn K (.builtin "object.__class__") "__get__") (some (some (.builtin "getset_descriptor.__get__"))) && (decide (PySem.W.takesIn K (.builtin "object.__class__") = some true) && decide (PySem.W.mroIn K D (.type "object") = some true)))))))
theorem xec_of {K : PySem.W.Frag} {D : Addr} (h : xecB K D = true) : L2.ExcC K D := by
  obtain ⟨h1, h⟩ := ba h
  obtain ⟨h2, h⟩ := ba h
  obtain ⟨h3, h⟩ := ba h
  obtain ⟨h4, h⟩ := ba h
  obtain ⟨h5, h⟩ := ba h
  obtain ⟨h6, h⟩ := ba h
  obtain ⟨h7, h8⟩ := ba h
  exact ⟨eqO_ok h1, eqO_ok h2, of_decide_eq_true h3, h4, eqO_ok h5, eqO_ok h6, of_decide_eq_true h7, of_decide_eq_true h8⟩
/-- the class named c -/
def xclB (c : PySem.Str) (K : PySem.W.Frag) : Bool := oexB K (ga K c) && (eqO (PySem.W.nsIn K cStatics "thirdparty.any") (some none) && (eqO (PySem.W.ks_superIn K (ga K c) (ga K c) "__init__") (some (some (.builtin "ValueError.__init__"))) &&
  (decide (PySem.W.subIn K (.ref (ga K c)) (.type "ValueError") = some true) && (decide (PySem.W.mroIn K (ga K c) (.ref (ga K c)) = some true) && (xfB K (ga K c) && xecB K (ga K c))))))
theorem xcl_of {P : Program} {K : PySem.W.Frag} {mg : PySem.Str → Option Value} {c : PySem.Str} (h : xclB c K = true) (hs : mg "super" = none) (ht : (P.main.scope.names.lookup ("super" : PySem.Str)).isSome = false) (hm : mg c = some (.ref (ga K c))) : XCl P K mg c := by
  obtain ⟨h1, h⟩ := ba h
  obtain ⟨h2, h⟩ := ba h
  obtain ⟨h3, h⟩ := ba h
  obtain ⟨h4, h⟩ := ba h
  obtain ⟨h5, h⟩ := ba h
  obtain ⟨h6, h7⟩ := ba h
  exact ⟨⟨oex_of h1, hs, ht, eqO_ok h2, eqO_ok h3, of_decide_eq_true h4, of_decide_eq_true h5⟩, hm, xfB_ok h6, xec_of h7⟩
def noatB (c n : PySem.Str) (K : PySem.W.Frag) : Bool := eqO (PySem.W.findIn K (.ref (ga K c)) n) (some none)
def isxB (c : PySem.Str) (cv : PySem.W.Frag → Value) (b : Bool) (K : PySem.W.Frag) : Bool := decide (PySem.W.kitOne K (.ref (ga K c)) (cv K) = some b)
/-! ### its __init__ -/
structure IniD where
  c : PySem.Str
  qual : PySem.Str
  params : Arguments
  body : List Stmt
  scope : Scope
abbrev IniV : Type := Option (PySem.Str × PySem.Str × Arguments × FuncBody × Scope × Addr × Addr × List PySem.Str)
def iniObs (K : PySem.W.Frag) (c : PySem.Str) : IniV := match K.lookup (ma K (ga K c) "__init__") with
  | some ⟨_, _, .func fd, _⟩ => some (fd.name, fd.qualname, fd.params, fd.body, fd.scope, fd.globals, fd.builtins, fd.closure.map (·.1))
  | _ => none
def IniD.val (d : IniD) : IniV := some ("__init__", d.qual, d.params, .stmts d.body, d.scope, mainGlobals, builtinsNs, ["__class__"])
def iniB (file : PySem.Str) (d : IniD) (K : PySem.W.Frag) : Bool := eqO (PySem.W.findIn K (.ref (ga K d.c)) "__init__") (some (some (.ref (ma K (ga K d.c) "__init__")))) && (decide (PySem.W.typeIn K (.ref (ma K (ga K d.c) "__init__")) = some (.type "function")) && (match K.lookup (ma K (ga K d.c) "__init__") with
  | some ⟨_, _, .func fd, _⟩ => (match fd.code, fd.closure, fd.defaults with
    | .ref cda, [(_, cc)], .none => PySem.W.codeIn K (.ref cda) d.qual && ((match K.lookup cda with
      | some ⟨_, _, .fields vs, _⟩ => (match (vs : Array Value)[2]? with
        | some (Value.str f _) => (file : PySem.Str) == f
        | _ => false)
      | _ => false) && (match K.lookup cc with
      | some ⟨_, _, .cell (some (.ref C)), _⟩ => decide (C = ga K d.c)
      | _ => false))
    | _, _, _ => false)
  | _ => false))
theorem ini_of {P : Program} {K : PySem.W.Frag} {d : IniD} {file : PySem.Str} (e : iniObs K d.c = d.val) (h : iniB file d K = true) (hf : P.main.file = file) : PySem.W.findIn K (.ref (ga K d.c)) "__init__" = some (some (.ref (ma K (ga K d.c) "__init__"))) ∧ PySem.W.typeIn K (.ref (ma K (ga K d.c) "__init__")) = some (.type "function") ∧
    ∃ fd cc cda, InitF P K (ga K d.c) (ma K (ga K d.c) "__init__") cc cda d.qual d.params d.body d.scope fd := by
  obtain ⟨h1, h⟩ := ba h
  obtain ⟨h2, h⟩ := ba h
  refine ⟨eqO_ok h1, of_decide_eq_true h2, ?_⟩
  unfold iniObs at e
  split at h
  · rename_i oc od fd osl lk
    rw [lk] at e
    obtain ⟨n1, n2, n3, n4, n5, n6, n7, n8, n9, n10, n11, n12, n13, n14, n15⟩ := fd
    have e2 : (some (n1, n2, n3, n4, n5, n6, n15, n7.map (·.1)) : IniV) = (some (("__init__" : PySem.Str), d.qual, d.params, FuncBody.stmts d.body, d.scope, mainGlobals, builtinsNs, [("__class__" : PySem.Str)]) : IniV) := e
    simp only [Option.some.injEq, Prod.mk.injEq] at e2
    obtain ⟨q1, q2, q3, q4, q5, q6, q7, q8⟩ := e2
    subst q1 q2 q3 q4 q5 q6 q7
    dsimp only at h
    split at h
    · rename_i cv0 cl0 dv0 cda x cc
      have ex : x = "__class__" := by
        have : [x] = [("__class__" : PySem.Str)] := q8
        exact (List.cons.inj this).1
      subst ex
      obtain ⟨g1, h⟩ := ba h
      obtain ⟨g2, g3⟩ := ba h
      split at g2
      · rename_i c1 d1 vs s1 lcd
        split at g2
        · rename_i f tf hvs
          split at g3
          · rename_i c2 d2 C s2 lcc
            obtain rfl := of_decide_eq_true g3
            exact ⟨_, cc, cda, ⟨oc, od, osl, n9, n10, n11, n12, n14, c1, d1, s1, vs, f, tf, c2, d2, s2, rfl, lk, g1, lcd, hvs, by rw [hf]; exact g2, lcc⟩⟩
          · cases g3
        · cases g2
      · cases g2
    · cases h
  · cases h
/-! ### the Hook -/
abbrev AlZ : Type := He.AlD × Bool × List IniV
def obsZ (fa : List He.Fa) (fn : List He.DefD) (ini : List IniD) (xs : List (PySem.W.Frag → Bool)) (K : PySem.W.Frag) : AlZ := (He.obsD fa fn K, xs.all (fun b => b K), ini.map fun d => iniObs K d.c)
def valZ (fn : List He.DefD) (ini : List IniD) : AlZ := (He.valD fn, true, ini.map IniD.val)
def SaysZ (fa : List He.Fa) (fn : List He.DefD) (ini : List IniD) (xs : List (PySem.W.Frag → Bool)) (K : PySem.W.Frag) : Prop := obsZ fa fn ini xs K = valZ fn ini
def asZ (g : Addr → Option Obj) (n : Nat) : List Addr := He.asD g n ++ [cStatics]
def obsZG (n : Nat) (fa : List He.Fa) (fn : List He.DefD) (ini : List IniD) (xs : List (PySem.W.Frag → Bool)) (g : Addr → Option Obj) : AlZ := obsZ fa fn ini xs (He.frG g (asZ g n))
def hookZ (n : Nat) (fa : List He.Fa) (fn : List He.DefD) (ini : List IniD) (xs : List (PySem.W.Frag → Bool)) : PySem.W.Hook where
  α := AlZ
  obs := fun s => obsZG n fa fn ini xs s.heap.get?
  val := fun _ => valZ fn ini
  says := fun _ h => ∃ K : PySem.W.Frag, K.In h ∧ SaysZ fa fn ini xs K
  of := fun _ _ e => ⟨_, He.frG_in, e⟩
  keeps := fun _ _ _ ⟨K, hK, c⟩ k => ⟨K, PySem.W.Frag.In.keeps hK k, c⟩
theorem obsZG_eq {n : Nat} {fa : List He.Fa} {fn : List He.DefD} {ini : List IniD} {xs : List (PySem.W.Frag → Bool)} {g : Addr → Option Obj} {s : Shared} (h : ∀ a, g a = s.heap.get? a) : obsZG n fa fn ini xs g = (hookZ n fa fn ini xs).obs s := by
  have e : g = s.heap.get? := funext h
  rw [e] <;> rfl
section
variable {fa : List He.Fa} {fn : List He.DefD} {ini : List IniD} {xs : List (PySem.W.Frag → Bool)} {K : PySem.W.Frag}
theorem SaysZ.d (c : SaysZ fa fn ini xs K) : He.SaysD fa fn K := congrArg (fun z : AlZ => z.1) c
theorem SaysZ.x (c : SaysZ fa fn ini xs K) (i : Nat) {b : PySem.W.Frag → Bool} (h : xs[i]? = some b) : b K = true :=
  List.all_eq_true.mp (show (xs.all fun b => b K) = true from congrArg (fun z : AlZ => z.2.1) c) b (List.mem_of_getElem? h)
theorem SaysZ.i (c : SaysZ fa fn ini xs K) (i : Nat) {d : IniD} (h : ini[i]? = some d) : iniObs K d.c = d.val := by
  have e : ini.map (fun d => iniObs K d.c) = ini.map IniD.val := congrArg (fun z : AlZ => z.2.2) c
  have e2 : (ini.map fun d => iniObs K d.c)[i]? = (ini.map IniD.val)[i]? := by rw [e]
  rw [List.getElem?_map, List.getElem?_map, h] at e2
  exact Option.some.inj e2
end
/-! ### what a walk takes -/
structure TxG (fns : List He.DefD) (ini : List IniD) (xs : List (PySem.W.Frag → Bool)) (cls : List PySem.Str) (file : PySem.Str) (P : Program) (K : PySem.W.Frag) (mg : PySem.Str → Option Value) : Prop where
  B : Blt mg
  fn : ∀ (i : Nat) (d : He.DefD), fns[i]? = some d → ∃ fd, FunD K d.name d.qual d.params d.body d.scope (d.dvs K) (d.kws K) (He.fAd K d.at_) fd
  gl : ∀ (i : Nat) (d : He.DefD), fns[i]? = some d → mg d.name = some (.ref (ga K d.name))
  cl : ∀ (i : Nat) (c : PySem.Str), cls[i]? = some c → mg c = some (.ref (ga K c))
  x : ∀ (i : Nat) (b : PySem.W.Frag → Bool), xs[i]? = some b → b K = true
  i : ∀ (i : Nat) (d : IniD), ini[i]? = some d → iniObs K d.c = d.val
  sup : mg "super" = none
  ve : mg "ValueError" = none
  top : (P.main.scope.names.lookup ("super" : PySem.Str)).isSome = false
  file : P.main.file = file
def bltNames : List PySem.Str := ["len", "range", "tuple", "list", "all", "any", "isinstance", "int", "bool", "str", "abs", "sum", "max", "min", "super", "ValueError", "sorted", "set", "dict"]
def faZ (fns : List He.DefD) (cls : List PySem.Str) : List He.Fa := bltNames.map He.Fa.free ++ (fns.map (fun d => He.Fa.glo d.name) ++ cls.map He.Fa.glo)
theorem TxG.of {fns : List He.DefD} {ini : List IniD} {xs : List (PySem.W.Frag → Bool)} {cls : List PySem.Str} {file : PySem.Str} {P : Program} {K : PySem.W.Frag} {h : Heap} {mg : PySem.Str → Option Value} (X : K.In h) (G : h.Ns mainGlobals mg) (c : SaysZ (faZ fns cls) fns ini xs K)
    (ht : (P.main.scope.names.lookup ("super" : PySem.Str)).isSome = false) (hf : P.main.file = file) : TxG fns ini xs cls file P K mg := by
  have all : ∀ f ∈ faZ fns cls, f.ok K = true := fun f hf => by
    obtain ⟨i, hi⟩ := List.mem_iff_getElem?.mp hf
    exact c.d.fact i hi
  have fr : ∀ n ∈ bltNames, mg n = none := fun n hn => He.free_ok X G (all (.free n) (List.mem_append_left _ (List.mem_map_of_mem hn)))
  have gl : ∀ d ∈ fns, mg d.name = some (.ref (ga K d.name)) := fun d hd => He.glo_ok X G (all (.glo d.name) (List.mem_append_right _ (List.mem_append_left _ (List.mem_map_of_mem hd))))
  have gc : ∀ d ∈ cls, mg d = some (.ref (ga K d)) := fun d hd => He.glo_ok X G (all (.glo d) (List.mem_append_right _ (List.mem_append_right _ (List.mem_map_of_mem hd))))
  refine ⟨⟨?_, ?_, ?_, ?_, ?_, ?_, ?_, ?_, ?_, ?_, ?_, ?_, ?_, ?_⟩, fun i d hi => c.d.def_ i hi, fun i d hi => gl d (List.mem_of_getElem? hi), fun i d hi => gc d (List.mem_of_getElem? hi), fun i b hb => c.x i hb, fun i d hi => c.i i hi, ?_, ?_, ht, hf⟩ <;> exact fr _ (by decide +kernel)
/-! ### the law's end -/
theorem walk_ofZ {l : PySem.W.OpenLaw} {n k : Nat} {q : Program} {loose : List PySem.Str} {XP : (PySem.Str → Option Value) → Heap → Prop} {YP : World → Heap → Prop} {d : DefRec} {CX : World → CXT} {x : PySem.Str}
    (hn : l.most = some n) (hn2 : n ≤ sizeLine) (hdf : d.params.defaults = []) (hr : Room k callerA)
    (F : ∀ (w : World) (mg : PySem.Str → Option Value) (fa : Addr) (h : Heap), YP w h → h.Ns mainGlobals mg → mg d.name = some (.ref fa) →
      ∃ (K : PySem.W.Frag) (fd : FuncData) (sp : Sp), K.In h ∧ (∀ (s : Shared) (u : Value), BindsTo s fd ⟨[u], []⟩ [(x, u)]) ∧
        (∀ (H : Hp) (a : Addr) (ns : List Int), ns.length ≤ n → L2.Only H → SqL K H a (ns.map V.int) → sp [.ref a] H (fun v _ => v = .bl true) fun _ _ _ => False) ∧
        ∀ base : Heap, K.In base → base.Ns mainGlobals mg → FnOk l.prog w K mg base (CX w) k fa fd [x] sp)
    (hCX : ∀ (w : World) (H : Hp) (s : Shared) (e : Value) (s' : Shared), CX w [] H s (fun _ _ _ => False) e s' → False) :
    PySem.W.WalkO q loose XP YP l.row.toRowW d [] (fun f vs => PySem.call f vs) := by
  refine Att.attach_call hn hdf fun w s₀ s₁ mg mb fa o pm cd doc a vs ns G Y ho hd hcd hmg hobj hints hlen hg => ?_
  obtain ⟨K, fd, sp, KX, hb, hsp, hF⟩ := F w mg fa _ Y G.T.g hmg
  exact law_call (CX := CX w) KX G.T.g G.T.b G.T.builtins G.T.nolimit hg hobj hints (Nat.le_trans hlen hn2) hr hF hb (fun H hO hS => hsp H a ns hlen hO hS) fun H e s' => hCX w H s₁ e s'
theorem cx_no (P : Program) (w : World) (H : Hp) (s : Shared) (e : Value) (s' : Shared) (h : L2.CX P w [] H s (fun _ _ _ => False) e s') : False := by
  obtain ⟨_, _, _, _, _, _, _, _, _, _, _, _, z⟩ := h
  exact z
theorem sp_law {K : PySem.W.Frag} {q : Fn} {n : Nat} (hq : ∀ ns : List Int, ns.length ≤ n → ∃ g, q [.scr ns] ⟨none⟩ = .ok (.frz (.bl true)) g) (H : Hp) (a : Addr) (ns : List Int) (hl : ns.length ≤ n) (_ : L2.Only H) (hS : SqL K H a (ns.map V.int)) :
    spZ K 1 q [.ref a] H (fun v _ => v = .bl true) fun _ _ _ => False := by
  obtain ⟨g, e⟩ := hq ns hl
  refine ⟨⟨H, fun _ => none, none⟩, ⟨none⟩, [.scr ns], ⟨Ex.refl _, fun b o z => (by cases z), fun _ _ _ => rfl, rfl⟩, ⟨_, [], rfl, ⟨a, rfl, hS⟩, rfl⟩, rfl, ?_⟩
  rw [e]
  exact fun x' H' v _ _ r => r
theorem all0 {α : Type} {p : α → Prop} : ∀ x ∈ ([] : List α), p x := fun _ h => nomatch h
theorem all1 {α : Type} {p : α → Prop} {a : α} {l : List α} (h : p a) (t : ∀ x ∈ l, p x) : ∀ x ∈ a :: l, p x := List.forall_mem_cons.mpr ⟨h, t⟩
end Zn

set_option autoImplicit false
noncomputable section
namespace Zk
open PySem L2 Zn PyProof.Rows NdefX
open He (eqO_ok)
def top (i : Nat) : Stmt := PySem.Challenge.pw_leastwright_k10_whole_parts_and_errors.main.body.getD i (.Pass ⟨0, 0, 0, 0⟩)

abbrev s_Unfit__init : Stmt := inClass (top 19) 0
def di_Unfit : IniD := ⟨"Unfit", "Unfit.__init__", defArgs s_Unfit__init, defBody s_Unfit__init, defScope s_Unfit__init⟩
abbrev s_Great__init : Stmt := inClass (top 20) 0
def di_Great : IniD := ⟨"Great", "Great.__init__", defArgs s_Great__init, defBody s_Great__init, defScope s_Great__init⟩
abbrev s_Misstep__init : Stmt := inClass (top 21) 0
def di_Misstep : IniD := ⟨"Misstep", "Misstep.__init__", defArgs s_Misstep__init, defBody s_Misstep__init, defScope s_Misstep__init⟩
abbrev s_divisor : Stmt := top 1
abbrev N_divisor : List PySem.Str := ["one", "other"]
theorem sc_divisor : FnScope N_divisor ["one", "other"] (defScope s_divisor) := ⟨rfl, rfl, rfl, by decide +kernel, rfl, by decide +kernel, by decide +kernel⟩
def d_divisor : He.DefD := ⟨("divisor", none), "divisor", "divisor", defArgs s_divisor, defBody s_divisor, defScope s_divisor, [], []⟩
abbrev s_part : Stmt := top 2
abbrev N_part : List PySem.Str := ["above", "below", "common"]
theorem sc_part : FnScope N_part ["above", "below"] (defScope s_part) := ⟨rfl, rfl, rfl, by decide +kernel, rfl, by decide +kernel, by decide +kernel⟩
def d_part : He.DefD := ⟨("part", none), "part", "part", defArgs s_part, defBody s_part, defScope s_part, [], []⟩
abbrev s_is_part : Stmt := top 3
abbrev N_is_part : List PySem.Str := ["value", "number"]
theorem sc_is_part : FnScope N_is_part ["value"] (defScope s_is_part) := ⟨rfl, rfl, rfl, by decide +kernel, rfl, by decide +kernel, by decide +kernel⟩
def d_is_part : He.DefD := ⟨("is_part", none), "is_part", "is_part", defArgs s_is_part, defBody s_is_part, defScope s_is_part, [], []⟩
abbrev s_plus : Stmt := top 4
abbrev N_plus : List PySem.Str := ["one", "other"]
theorem sc_plus : FnScope N_plus ["one", "other"] (defScope s_plus) := ⟨rfl, rfl, rfl, by decide +kernel, rfl, by decide +kernel, by decide +kernel⟩
def d_plus : He.DefD := ⟨("plus", none), "plus", "plus", defArgs s_plus, defBody s_plus, defScope s_plus, [], []⟩
abbrev s_minus : Stmt := top 5
abbrev N_minus : List PySem.Str := ["one", "other"]
theorem sc_minus : FnScope N_minus ["one", "other"] (defScope s_minus) := ⟨rfl, rfl, rfl, by decide +kernel, rfl, by decide +kernel, by decide +kernel⟩
def d_minus : He.DefD := ⟨("minus", none), "minus", "minus", defArgs s_minus, defBody s_minus, defScope s_minus, [], []⟩
abbrev s_times : Stmt := top 6
abbrev N_times : List PySem.Str := ["one", "other"]
theorem sc_times : FnScope N_times ["one", "other"] (defScope s_times) := ⟨rfl, rfl, rfl, by decide +kernel, rfl, by decide +kernel, by decide +kernel⟩
def d_times : He.DefD := ⟨("times", none), "times", "times", defArgs s_times, defBody s_times, defScope s_times, [], []⟩
abbrev s_over : Stmt := top 7
abbrev N_over : List PySem.Str := ["one", "other"]
theorem sc_over : FnScope N_over ["one", "other"] (defScope s_over) := ⟨rfl, rfl, rfl, by decide +kernel, rfl, by decide +kernel, by decide +kernel⟩
def d_over : He.DefD := ⟨("over", none), "over", "over", defArgs s_over, defBody s_over, defScope s_over, [], []⟩
abbrev s_is_less : Stmt := top 8
abbrev N_is_less : List PySem.Str := ["one", "other"]
theorem sc_is_less : FnScope N_is_less ["one", "other"] (defScope s_is_less) := ⟨rfl, rfl, rfl, by decide +kernel, rfl, by decide +kernel, by decide +kernel⟩
def d_is_less : He.DefD := ⟨("is_less", none), "is_less", "is_less", defArgs s_is_less, defBody s_is_less, defScope s_is_less, [], []⟩
abbrev s_total : Stmt := top 9
abbrev N_total : List PySem.Str := ["row", "found", "one"]
theorem sc_total : FnScope N_total ["row"] (defScope s_total) := ⟨rfl, rfl, rfl, by decide +kernel, rfl, by decide +kernel, by decide +kernel⟩
def d_total : He.DefD := ⟨("total", none), "total", "total", defArgs s_total, defBody s_total, defScope s_total, [], []⟩
abbrev s_least_of : Stmt := top 10
abbrev N_least_of : List PySem.Str := ["row", "best", "one"]
theorem sc_least_of : FnScope N_least_of ["row"] (defScope s_least_of) := ⟨rfl, rfl, rfl, by decide +kernel, rfl, by decide +kernel, by decide +kernel⟩
def d_least_of : He.DefD := ⟨("least_of", none), "least_of", "least_of", defArgs s_least_of, defBody s_least_of, defScope s_least_of, [], []⟩
abbrev s_whole_below : Stmt := top 11
abbrev N_whole_below : List PySem.Str := ["one"]
theorem sc_whole_below : FnScope N_whole_below ["one"] (defScope s_whole_below) := ⟨rfl, rfl, rfl, by decide +kernel, rfl, by decide +kernel, by decide +kernel⟩
def d_whole_below : He.DefD := ⟨("whole_below", none), "whole_below", "whole_below", defArgs s_whole_below, defBody s_whole_below, defScope s_whole_below, [], []⟩
abbrev s_whole_above : Stmt := top 12
abbrev N_whole_above : List PySem.Str := ["one"]
theorem sc_whole_above : FnScope N_whole_above ["one"] (defScope s_whole_above) := ⟨rfl, rfl, rfl, by decide +kernel, rfl, by decide +kernel, by decide +kernel⟩
def d_whole_above : He.DefD := ⟨("whole_above", none), "whole_above", "whole_above", defArgs s_whole_above, defBody s_whole_above, defScope s_whole_above, [], []⟩
abbrev s_is_whole_part : Stmt := top 13
abbrev N_is_whole_part : List PySem.Str := ["one"]
theorem sc_is_whole_part : FnScope N_is_whole_part ["one"] (defScope s_is_whole_part) := ⟨rfl, rfl, rfl, by decide +kernel, rfl, by decide +kernel, by decide +kernel⟩
def d_is_whole_part : He.DefD := ⟨("is_whole_part", none), "is_whole_part", "is_whole_part", defArgs s_is_whole_part, defBody s_is_whole_part, defScope s_is_whole_part, [], []⟩
abbrev s_are_parts : Stmt := top 14
abbrev N_are_parts : List PySem.Str := ["value", "many", "one"]
theorem sc_are_parts : FnScope N_are_parts ["value", "many"] (defScope s_are_parts) := ⟨rfl, rfl, rfl, by decide +kernel, rfl, by decide +kernel, by decide +kernel⟩
def d_are_parts : He.DefD := ⟨("are_parts", none), "are_parts", "are_parts", defArgs s_are_parts, defBody s_are_parts, defScope s_are_parts, [], []⟩
abbrev s_scaled : Stmt := top 15
abbrev N_scaled : List PySem.Str := ["row", "common", "one", "found", "shared", "number"]
theorem sc_scaled : FnScope N_scaled ["row"] (defScope s_scaled) := ⟨rfl, rfl, rfl, by decide +kernel, rfl, by decide +kernel, by decide +kernel⟩
def d_scaled : He.DefD := ⟨("scaled", none), "scaled", "scaled", defArgs s_scaled, defBody s_scaled, defScope s_scaled, [], []⟩
abbrev s_dot : Stmt := top 16
abbrev N_dot : List PySem.Str := ["row", "point", "k"]
theorem sc_dot : FnScope N_dot ["row", "point"] (defScope s_dot) := ⟨rfl, rfl, rfl, by decide +kernel, rfl, by decide +kernel, by decide +kernel⟩
def d_dot : He.DefD := ⟨("dot", none), "dot", "dot", defArgs s_dot, defBody s_dot, defScope s_dot, [], []⟩
abbrev s__law_state : Stmt := top 23
abbrev N__law_state : List PySem.Str := ["script", "cells", "cell"]
theorem sc__law_state : FnScope N__law_state ["script"] (defScope s__law_state) := ⟨rfl, rfl, rfl, by decide +kernel, rfl, by decide +kernel, by decide +kernel⟩
def d__law_state : He.DefD := ⟨("_law_state", none), "_law_state", "_law_state", defArgs s__law_state, defBody s__law_state, defScope s__law_state, [], []⟩
abbrev s__law_take : Stmt := top 24
abbrev N__law_take : List PySem.Str := ["state", "most", "cells", "at", "cell", "mixed"]
theorem sc__law_take : FnScope N__law_take ["state", "most"] (defScope s__law_take) := ⟨rfl, rfl, rfl, by decide +kernel, rfl, by decide +kernel, by decide +kernel⟩
def d__law_take : He.DefD := ⟨("_law_take", none), "_law_take", "_law_take", defArgs s__law_take, defBody s__law_take, defScope s__law_take, [], []⟩
abbrev s__law_pick : Stmt := top 25
abbrev N__law_pick : List PySem.Str := ["state", "row"]
theorem sc__law_pick : FnScope N__law_pick ["state", "row"] (defScope s__law_pick) := ⟨rfl, rfl, rfl, by decide +kernel, rfl, by decide +kernel, by decide +kernel⟩
def d__law_pick : He.DefD := ⟨("_law_pick", none), "_law_pick", "_law_pick", defArgs s__law_pick, defBody s__law_pick, defScope s__law_pick, [], []⟩
abbrev s__law_fr : Stmt := top 26
abbrev N__law_fr : List PySem.Str := ["above", "below", "one", "other", "turn"]
theorem sc__law_fr : FnScope N__law_fr ["above", "below"] (defScope s__law_fr) := ⟨rfl, rfl, rfl, by decide +kernel, rfl, by decide +kernel, by decide +kernel⟩
def d__law_fr : He.DefD := ⟨("_law_fr", none), "_law_fr", "_law_fr", defArgs s__law_fr, defBody s__law_fr, defScope s__law_fr, [], []⟩
abbrev s__law_is_fr : Stmt := top 27
abbrev N__law_is_fr : List PySem.Str := ["value", "n"]
theorem sc__law_is_fr : FnScope N__law_is_fr ["value"] (defScope s__law_is_fr) := ⟨rfl, rfl, rfl, by decide +kernel, rfl, by decide +kernel, by decide +kernel⟩
def d__law_is_fr : He.DefD := ⟨("_law_is_fr", none), "_law_is_fr", "_law_is_fr", defArgs s__law_is_fr, defBody s__law_is_fr, defScope s__law_is_fr, [], []⟩
abbrev s__law_are_frs : Stmt := top 28
abbrev N__law_are_frs : List PySem.Str := ["value", "many", "each"]
theorem sc__law_are_frs : FnScope N__law_are_frs ["value", "many"] (defScope s__law_are_frs) := ⟨rfl, rfl, rfl, by decide +kernel, rfl, by decide +kernel, by decide +kernel⟩
def d__law_are_frs : He.DefD := ⟨("_law_are_frs", none), "_law_are_frs", "_law_are_frs", defArgs s__law_are_frs, defBody s__law_are_frs, defScope s__law_are_frs, [], []⟩
abbrev s__law_add : Stmt := top 29
abbrev N__law_add : List PySem.Str := ["one", "other"]
theorem sc__law_add : FnScope N__law_add ["one", "other"] (defScope s__law_add) := ⟨rfl, rfl, rfl, by decide +kernel, rfl, by decide +kernel, by decide +kernel⟩
def d__law_add : He.DefD := ⟨("_law_add", none), "_law_add", "_law_add", defArgs s__law_add, defBody s__law_add, defScope s__law_add, [], []⟩
abbrev s__law_mul : Stmt := top 30
abbrev N__law_mul : List PySem.Str := ["one", "other"]
theorem sc__law_mul : FnScope N__law_mul ["one", "other"] (defScope s__law_mul) := ⟨rfl, rfl, rfl, by decide +kernel, rfl, by decide +kernel, by decide +kernel⟩
def d__law_mul : He.DefD := ⟨("_law_mul", none), "_law_mul", "_law_mul", defArgs s__law_mul, defBody s__law_mul, defScope s__law_mul, [], []⟩
abbrev s__law_sub : Stmt := top 31
abbrev N__law_sub : List PySem.Str := ["one", "other"]
theorem sc__law_sub : FnScope N__law_sub ["one", "other"] (defScope s__law_sub) := ⟨rfl, rfl, rfl, by decide +kernel, rfl, by decide +kernel, by decide +kernel⟩
def d__law_sub : He.DefD := ⟨("_law_sub", none), "_law_sub", "_law_sub", defArgs s__law_sub, defBody s__law_sub, defScope s__law_sub, [], []⟩
abbrev s__law_sign : Stmt := top 32
abbrev N__law_sign : List PySem.Str := ["one", "other", "gap"]
theorem sc__law_sign : FnScope N__law_sign ["one", "other"] (defScope s__law_sign) := ⟨rfl, rfl, rfl, by decide +kernel, rfl, by decide +kernel, by decide +kernel⟩
def d__law_sign : He.DefD := ⟨("_law_sign", none), "_law_sign", "_law_sign", defArgs s__law_sign, defBody s__law_sign, defScope s__law_sign, [], []⟩
abbrev s__law_part : Stmt := top 33
abbrev N__law_part : List PySem.Str := ["state"]
theorem sc__law_part : FnScope N__law_part ["state"] (defScope s__law_part) := ⟨rfl, rfl, rfl, by decide +kernel, rfl, by decide +kernel, by decide +kernel⟩
def d__law_part : He.DefD := ⟨("_law_part", none), "_law_part", "_law_part", defArgs s__law_part, defBody s__law_part, defScope s__law_part, [], []⟩
abbrev s__law_divisor : Stmt := top 34
abbrev N__law_divisor : List PySem.Str := ["one", "other", "best", "k"]
theorem sc__law_divisor : FnScope N__law_divisor ["one", "other"] (defScope s__law_divisor) := ⟨rfl, rfl, rfl, by decide +kernel, rfl, by decide +kernel, by decide +kernel⟩
def d__law_divisor : He.DefD := ⟨("_law_divisor", none), "_law_divisor", "_law_divisor", defArgs s__law_divisor, defBody s__law_divisor, defScope s__law_divisor, [], []⟩
abbrev s__law_below : Stmt := top 35
abbrev N__law_below : List PySem.Str := ["one", "found", "k"]
theorem sc__law_below : FnScope N__law_below ["one"] (defScope s__law_below) := ⟨rfl, rfl, rfl, by decide +kernel, rfl, by decide +kernel, by decide +kernel⟩
def d__law_below : He.DefD := ⟨("_law_below", none), "_law_below", "_law_below", defArgs s__law_below, defBody s__law_below, defScope s__law_below, [], []⟩
abbrev s__law_scaled : Stmt := top 37
abbrev N__law_scaled : List PySem.Str := ["state", "row", "told", "common", "j", "k", "point", "due", "piece"]
theorem sc__law_scaled : FnScope N__law_scaled ["state", "row"] (defScope s__law_scaled) := ⟨rfl, rfl, rfl, by decide +kernel, rfl, by decide +kernel, by decide +kernel⟩
def d__law_scaled : He.DefD := ⟨("_law_scaled", none), "_law_scaled", "_law_scaled", defArgs s__law_scaled, defBody s__law_scaled, defScope s__law_scaled, [], []⟩
abbrev s__law_parts : Stmt := top 36
abbrev N__law_parts : List PySem.Str := ["state", "one", "other", "row", "a", "b", "whole", "piece", "least", "k", "value"]
theorem sc__law_parts : FnScope N__law_parts ["state"] (defScope s__law_parts) := ⟨rfl, rfl, rfl, by decide +kernel, rfl, by decide +kernel, by decide +kernel⟩
def d__law_parts : He.DefD := ⟨("_law_parts", none), "_law_parts", "_law_parts", defArgs s__law_parts, defBody s__law_parts, defScope s__law_parts, [], []⟩
abbrev s_law : Stmt := top 38
abbrev N_law : List PySem.Str := ["script", "state", "turn", "errors", "one"]
theorem sc_law : FnScope N_law ["script"] (defScope s_law) := ⟨rfl, rfl, rfl, by decide +kernel, rfl, by decide +kernel, by decide +kernel⟩
def d_law : He.DefD := ⟨("law", none), "law", "law", defArgs s_law, defBody s_law, defScope s_law, [], []⟩
def fns : List He.DefD := [d_divisor, d_part, d_is_part, d_plus, d_minus, d_times, d_over, d_is_less, d_total, d_least_of, d_whole_below, d_whole_above, d_is_whole_part, d_are_parts, d_scaled, d_dot, d__law_state, d__law_take, d__law_pick, d__law_fr, d__law_is_fr, d__law_are_frs, d__law_add, d__law_mul, d__law_sub, d__law_sign, d__law_part, d__law_divisor, d__law_below, d__law_parts, d__law_scaled, d_law]
def inis : List IniD := [di_Unfit, di_Great, di_Misstep]
def clss : List PySem.Str := ["Wrong", "Unfit", "Great", "Misstep"]
def mainFile : PySem.Str := PySem.Challenge.pw_leastwright_k10_whole_parts_and_errors.main.file
def xsl : List (PySem.W.Frag → Bool) := [isxB "Misstep" (fun K => .ref (He.ga K "Wrong")) true, isxB "Great" (fun K => .ref (He.ga K "Wrong")) true, isxB "Unfit" (fun K => .ref (He.ga K "Wrong")) true, isxB "Misstep" (fun _ => .type "ValueError") true, isxB "Great" (fun _ => .type "ValueError") true, isxB "Unfit" (fun _ => .type "ValueError") true, isxB "Misstep" (fun K => .ref (He.ga K "Misstep")) true, isxB "Great" (fun K => .ref (He.ga K "Misstep")) false, isxB "Unfit" (fun K => .ref (He.ga K "Misstep")) false, isxB "Misstep" (fun K => .ref (He.ga K "Great")) false, isxB "Great" (fun K => .ref (He.ga K "Great")) true, isxB "Unfit" (fun K => .ref (He.ga K "Great")) false, noatB "Unfit" "line", noatB "Unfit" "place", noatB "Misstep" "word", noatB "Unfit" "word", noatB "Great" "limit", xclB "Unfit", iniB mainFile di_Unfit, xclB "Great", iniB mainFile di_Great, xclB "Misstep", iniB mainFile di_Misstep]
abbrev Tx (P : Program) (K : PySem.W.Frag) (mg : PySem.Str → Option Value) : Prop := TxG fns inis xsl clss mainFile P K mg

section
variable {P : Program} {w : World} {K : PySem.W.Frag} {mg : PySem.Str → Option Value} {base : Heap}

theorem x_Unfit (T : Tx P K mg) : XCl P K mg "Unfit" := xcl_of (T.x 17 _ rfl) T.sup T.top (T.cl 1 _ rfl)
theorem i_Unfit (T : Tx P K mg) : XMk P w K mg base "Unfit" ["line", "place", "word"] := by
  obtain ⟨h1, h2, fd, cc, cda, F⟩ := ini_of (d := di_Unfit) (T.i 0 _ rfl) (T.x 18 _ rfl) T.file
  exact ⟨x_Unfit T, _, fd, ["self", "line", "place", "word"], h1, h2, F.binds (fun _ _ _ _ _ us hl => match us, hl with | [_, _, _, _], _ => rfl), ok_init (slf := "self") (ns := ["line", "place", "word"]) (iw := 3) F (x_Unfit T).S (nscope_by (by decide +kernel)) rfl rfl rfl rfl rfl rfl (fun L => rfl) (all1 (eqO_ok (T.x 12 _ rfl)) (all1 (eqO_ok (T.x 13 _ rfl)) (all1 (eqO_ok (T.x 15 _ rfl)) all0))) (by decide) (by decide) (fun A outer s H E => (pss_cons (ps_ost (pv 0) (pv 1)) (pss_cons (ps_ost (pv 0) (pv 2)) (pss_cons (ps_ost (pv 0) (pv 3)) pss_nil))))⟩
theorem x_Great (T : Tx P K mg) : XCl P K mg "Great" := xcl_of (T.x 19 _ rfl) T.sup T.top (T.cl 2 _ rfl)
theorem i_Great (T : Tx P K mg) : XMk P w K mg base "Great" ["limit"] := by
  obtain ⟨h1, h2, fd, cc, cda, F⟩ := ini_of (d := di_Great) (T.i 1 _ rfl) (T.x 20 _ rfl) T.file
  exact ⟨x_Great T, _, fd, ["self", "limit"], h1, h2, F.binds (fun _ _ _ _ _ us hl => match us, hl with | [_, _], _ => rfl), ok_init (slf := "self") (ns := ["limit"]) (iw := 1) F (x_Great T).S (nscope_by (by decide +kernel)) rfl rfl rfl rfl rfl rfl (fun L => rfl) (all1 (eqO_ok (T.x 16 _ rfl)) all0) (by decide) (by decide) (fun A outer s H E => (pss_cons (ps_ost (pv 0) (pv 1)) pss_nil))⟩
theorem x_Misstep (T : Tx P K mg) : XCl P K mg "Misstep" := xcl_of (T.x 21 _ rfl) T.sup T.top (T.cl 3 _ rfl)
theorem i_Misstep (T : Tx P K mg) : XMk P w K mg base "Misstep" ["word"] := by
  obtain ⟨h1, h2, fd, cc, cda, F⟩ := ini_of (d := di_Misstep) (T.i 2 _ rfl) (T.x 22 _ rfl) T.file
  exact ⟨x_Misstep T, _, fd, ["self", "word"], h1, h2, F.binds (fun _ _ _ _ _ us hl => match us, hl with | [_, _], _ => rfl), ok_init (slf := "self") (ns := ["word"]) (iw := 1) F (x_Misstep T).S (nscope_by (by decide +kernel)) rfl rfl rfl rfl rfl rfl (fun L => rfl) (all1 (eqO_ok (T.x 14 _ rfl)) all0) (by decide) (by decide) (fun A outer s H E => (pss_cons (ps_ost (pv 0) (pv 1)) pss_nil))⟩
def m_divisor : SS := (sSeq (sPar [0, 1] [(eB1 fAbs (.v 0)), (eB1 fAbs (.v 1))]) (sSeq (sWh (tB2 fNe (.v 1) (.e (eC (.int 0)))) (sPar [0, 1] [(eV 1), (eB2 fMod (.v 0) (.v 1))])) (sRet (eMv 0))))
def q_divisor : Fn := callB 2 m_divisor
theorem c_divisor (T : Tx P K mg) : Cal P w K mg base 1 "divisor" 2 q_divisor := by
  obtain ⟨fd, F⟩ := T.fn 0 d_divisor rfl
  exact fn_ok (N := N_divisor) F sc_divisor (fun cdv A outer s H E hr tk => (sds_c (sd_par rfl sc_divisor.nd rfl rfl (pd_abs T.B (po_v (pv 0))) (pd_abs T.B (po_v (pv 1)))) (sds_c (sd_wh (passes_of rfl) (pt_ne hr (po_v (pv 1)) (po_e pd_int)) (sds_1 (sd_par rfl sc_divisor.nd rfl rfl (pd_v (pv 1)) (pd_mod (po_v (pv 0)) (po_v (pv 1)))))) (sds_1 (sd_ret (pd_mv (pv 0))))))) (T.gl 0 d_divisor rfl) (F.bindsN fun _ _ _ _ _ _ us hl => match us, hl with | [_, _], _ => rfl)
def m_part : SS := (sSeq (sIf (tB2 fLt (.v 1) (.e (eC (.int 0)))) (sPar [0, 1] [(eB2 fSub (.e (eC (.int 0))) (.v 0)), (eB2 fSub (.e (eC (.int 0))) (.v 1))]) sNx) (sSeq (sAsg (.nm 2) (eCall q_divisor [(eV 0), (eV 1)])) (sRet (eTup [(eB2 fDiv (.v 0) (.v 2)), (eB2 fDiv (.v 1) (.v 2))]))))
def q_part : Fn := callB 3 m_part
theorem c_part (T : Tx P K mg) : Cal P w K mg base 2 "part" 2 q_part := by
  obtain ⟨fd, F⟩ := T.fn 1 d_part rfl
  exact fn_ok (N := N_part) F sc_part (fun cdv A outer s H E hr tk => (sds_c (sd_if (pt_lt (po_v (pv 1)) (po_e pd_int)) (sds_1 (sd_par rfl sc_part.nd rfl rfl (pd_sub (po_e pd_int) (po_v (pv 0))) (pd_sub (po_e pd_int) (po_v (pv 1))))) sds_nil) (sds_c (sd_set sc_part.nd (.inl rfl) (pd_call (c_divisor T) (hr.mono (by decide)) tk (pa_1 (pd_v (pv 0)) (pa_1 (pd_v (pv 1)) pa_0)))) (sds_1 (sd_ret (pd_tup (pa_1 (pd_div (po_v (pv 0)) (po_v (pv 2))) (pa_1 (pd_div (po_v (pv 1)) (po_v (pv 2))) pa_0)))))))) (T.gl 1 d_part rfl) (F.bindsN fun _ _ _ _ _ _ us hl => match us, hl with | [_, _], _ => rfl)
def m_is_part : SS := (sSeq (sIf (tOr (tNot (tVal (eB1 (fIsi "tuple") (.v 0)))) (tB2 fNe (.e (eB1 fLen (.v 0))) (.e (eC (.int 2))))) (sRet (eC (.bl false))) sNx) (sSeq (sIf (tNot (tVal (eB1 fAll (.e (eLc (.nm 1) (iSeq (eV 0)) tYes (eAnd (eB1 (fIsi "int") (.v 1)) (eNot (eB1 (fIsi "bool") (.v 1)))) [1]))))) (sRet (eC (.bl false))) sNx) (sRet (eAnd (eB2 (vB fGe) (.e (eB2 fIx (.v 0) (.e (eC (.int 1))))) (.e (eC (.int 1)))) (eB2 (vB fEq) (.e (eCall q_divisor [(eB2 fIx (.v 0) (.e (eC (.int 0)))), (eB2 fIx (.v 0) (.e (eC (.int 1))))])) (.e (eC (.int 1))))))))
def q_is_part : Fn := callB 2 m_is_part
theorem c_is_part (T : Tx P K mg) : Cal P w K mg base 2 "is_part" 1 q_is_part := by
  obtain ⟨fd, F⟩ := T.fn 2 d_is_part rfl
  exact fn_ok (N := N_is_part) F sc_is_part (fun cdv A outer s H E hr tk => (sds_c (sd_if (pt_w (pt_or (Zn.pt_not (pt_vl (pd_isi (q := "tuple") T.B kit_tuple T.B.tuple (by decide +kernel) (po_v (pv 0))))) (pt_or1 (pt_ne hr (po_e (pd_len T.B (po_v (pv 0)))) (po_e pd_int))))) (sds_1 (sd_ret pd_bl)) sds_nil) (sds_c (sd_if (Zn.pt_not (pt_vl (pd_all T.B rfl (po_e (pd_lc (own := [("number", 1)]) rfl sc_is_part.nd (id_seq (pd_v (pv 0))) (blkOk_by (N := N_is_part) (sc := defScope s_is_part) (by decide +kernel)) (fun _ _ _ _ _ => (gw_n sc_is_part.nd (.inl rfl))) (fun _ _ _ _ _ => ts_0) (fun _ _ _ _ _ => (pd_and (pd_isi (q := "int") T.B kit_int T.B.int (by decide +kernel) (po_v (pv 1))) (pd_1 (pd_not (pd_isi (q := "bool") T.B kit_bool T.B.bool (by decide +kernel) (po_v (pv 1)))))))))))) (sds_1 (sd_ret pd_bl)) sds_nil) (sds_1 (sd_ret (pd_and (pd_ge (po_e (pd_ix (po_v (pv 0)) (po_e pd_int))) (po_e pd_int)) (pd_1 (pd_eq hr (po_e (pd_call (c_divisor T) (hr.mono (by decide)) tk (pa_1 (pd_ix (po_v (pv 0)) (po_e pd_int)) (pa_1 (pd_ix (po_v (pv 0)) (po_e pd_int)) pa_0)))) (po_e pd_int))))))))) (T.gl 2 d_is_part rfl) (F.bindsN fun _ _ _ _ _ _ us hl => match us, hl with | [_], _ => rfl)
def m_plus : SS := (sRet (eCall q_part [(eB2 fPlus (.e (eB2 fTimes (.e (eB2 fIx (.v 0) (.e (eC (.int 0))))) (.e (eB2 fIx (.v 1) (.e (eC (.int 1))))))) (.e (eB2 fTimes (.e (eB2 fIx (.v 1) (.e (eC (.int 0))))) (.e (eB2 fIx (.v 0) (.e (eC (.int 1)))))))), (eB2 fTimes (.e (eB2 fIx (.v 0) (.e (eC (.int 1))))) (.e (eB2 fIx (.v 1) (.e (eC (.int 1))))))]))
def q_plus : Fn := callB 2 m_plus
theorem c_plus (T : Tx P K mg) : Cal P w K mg base 3 "plus" 2 q_plus := by
  obtain ⟨fd, F⟩ := T.fn 3 d_plus rfl
  exact fn_ok (N := N_plus) F sc_plus (fun cdv A outer s H E hr tk => (sds_1 (sd_ret (pd_call (c_part T) (hr.mono (by decide)) tk (pa_1 (pd_plus (po_e (pd_times (po_e (pd_ix (po_v (pv 0)) (po_e pd_int))) (po_e (pd_ix (po_v (pv 1)) (po_e pd_int))))) (po_e (pd_times (po_e (pd_ix (po_v (pv 1)) (po_e pd_int))) (po_e (pd_ix (po_v (pv 0)) (po_e pd_int)))))) (pa_1 (pd_times (po_e (pd_ix (po_v (pv 0)) (po_e pd_int))) (po_e (pd_ix (po_v (pv 1)) (po_e pd_int)))) pa_0)))))) (T.gl 3 d_plus rfl) (F.bindsN fun _ _ _ _ _ _ us hl => match us, hl with | [_, _], _ => rfl)
def m_minus : SS := (sRet (eCall q_part [(eB2 fSub (.e (eB2 fTimes (.e (eB2 fIx (.v 0) (.e (eC (.int 0))))) (.e (eB2 fIx (.v 1) (.e (eC (.int 1))))))) (.e (eB2 fTimes (.e (eB2 fIx (.v 1) (.e (eC (.int 0))))) (.e (eB2 fIx (.v 0) (.e (eC (.int 1)))))))), (eB2 fTimes (.e (eB2 fIx (.v 0) (.e (eC (.int 1))))) (.e (eB2 fIx (.v 1) (.e (eC (.int 1))))))]))
def q_minus : Fn := callB 2 m_minus
theorem c_minus (T : Tx P K mg) : Cal P w K mg base 3 "minus" 2 q_minus := by
  obtain ⟨fd, F⟩ := T.fn 4 d_minus rfl
  exact fn_ok (N := N_minus) F sc_minus (fun cdv A outer s H E hr tk => (sds_1 (sd_ret (pd_call (c_part T) (hr.mono (by decide)) tk (pa_1 (pd_sub (po_e (pd_times (po_e (pd_ix (po_v (pv 0)) (po_e pd_int))) (po_e (pd_ix (po_v (pv 1)) (po_e pd_int))))) (po_e (pd_times (po_e (pd_ix (po_v (pv 1)) (po_e pd_int))) (po_e (pd_ix (po_v (pv 0)) (po_e pd_int)))))) (pa_1 (pd_times (po_e (pd_ix (po_v (pv 0)) (po_e pd_int))) (po_e (pd_ix (po_v (pv 1)) (po_e pd_int)))) pa_0)))))) (T.gl 4 d_minus rfl) (F.bindsN fun _ _ _ _ _ _ us hl => match us, hl with | [_, _], _ => rfl)
def m_times : SS := (sRet (eCall q_part [(eB2 fTimes (.e (eB2 fIx (.v 0) (.e (eC (.int 0))))) (.e (eB2 fIx (.v 1) (.e (eC (.int 0)))))), (eB2 fTimes (.e (eB2 fIx (.v 0) (.e (eC (.int 1))))) (.e (eB2 fIx (.v 1) (.e (eC (.int 1))))))]))
def q_times : Fn := callB 2 m_times
theorem c_times (T : Tx P K mg) : Cal P w K mg base 3 "times" 2 q_times := by
  obtain ⟨fd, F⟩ := T.fn 5 d_times rfl
  exact fn_ok (N := N_times) F sc_times (fun cdv A outer s H E hr tk => (sds_1 (sd_ret (pd_call (c_part T) (hr.mono (by decide)) tk (pa_1 (pd_times (po_e (pd_ix (po_v (pv 0)) (po_e pd_int))) (po_e (pd_ix (po_v (pv 1)) (po_e pd_int)))) (pa_1 (pd_times (po_e (pd_ix (po_v (pv 0)) (po_e pd_int))) (po_e (pd_ix (po_v (pv 1)) (po_e pd_int)))) pa_0)))))) (T.gl 5 d_times rfl) (F.bindsN fun _ _ _ _ _ _ us hl => match us, hl with | [_, _], _ => rfl)
def m_over : SS := (sRet (eCall q_part [(eB2 fTimes (.e (eB2 fIx (.v 0) (.e (eC (.int 0))))) (.e (eB2 fIx (.v 1) (.e (eC (.int 1)))))), (eB2 fTimes (.e (eB2 fIx (.v 0) (.e (eC (.int 1))))) (.e (eB2 fIx (.v 1) (.e (eC (.int 0))))))]))
def q_over : Fn := callB 2 m_over
theorem c_over (T : Tx P K mg) : Cal P w K mg base 3 "over" 2 q_over := by
  obtain ⟨fd, F⟩ := T.fn 6 d_over rfl
  exact fn_ok (N := N_over) F sc_over (fun cdv A outer s H E hr tk => (sds_1 (sd_ret (pd_call (c_part T) (hr.mono (by decide)) tk (pa_1 (pd_times (po_e (pd_ix (po_v (pv 0)) (po_e pd_int))) (po_e (pd_ix (po_v (pv 1)) (po_e pd_int)))) (pa_1 (pd_times (po_e (pd_ix (po_v (pv 0)) (po_e pd_int))) (po_e (pd_ix (po_v (pv 1)) (po_e pd_int)))) pa_0)))))) (T.gl 6 d_over rfl) (F.bindsN fun _ _ _ _ _ _ us hl => match us, hl with | [_, _], _ => rfl)
def m_is_less : SS := (sRet (eB2 (vB fLt) (.e (eB2 fTimes (.e (eB2 fIx (.v 0) (.e (eC (.int 0))))) (.e (eB2 fIx (.v 1) (.e (eC (.int 1))))))) (.e (eB2 fTimes (.e (eB2 fIx (.v 1) (.e (eC (.int 0))))) (.e (eB2 fIx (.v 0) (.e (eC (.int 1)))))))))
def q_is_less : Fn := callB 2 m_is_less
theorem c_is_less (T : Tx P K mg) : Cal P w K mg base 1 "is_less" 2 q_is_less := by
  obtain ⟨fd, F⟩ := T.fn 7 d_is_less rfl
  exact fn_ok (N := N_is_less) F sc_is_less (fun cdv A outer s H E hr tk => (sds_1 (sd_ret (pd_lt (po_e (pd_times (po_e (pd_ix (po_v (pv 0)) (po_e pd_int))) (po_e (pd_ix (po_v (pv 1)) (po_e pd_int))))) (po_e (pd_times (po_e (pd_ix (po_v (pv 1)) (po_e pd_int))) (po_e (pd_ix (po_v (pv 0)) (po_e pd_int))))))))) (T.gl 7 d_is_less rfl) (F.bindsN fun _ _ _ _ _ _ us hl => match us, hl with | [_, _], _ => rfl)
def m_total : SS := (sSeq (sAsg (.nm 1) (eTup [(eC (.int 0)), (eC (.int 1))])) (sSeq (sFor (.nm 2) (iSeq (eV 0)) (sAsg (.nm 1) (eCall q_plus [(eV 1), (eV 2)]))) (sRet (eMv 1))))
def q_total : Fn := callB 3 m_total
theorem c_total (T : Tx P K mg) : Cal P w K mg base 4 "total" 1 q_total := by
  obtain ⟨fd, F⟩ := T.fn 8 d_total rfl
  exact fn_ok (N := N_total) F sc_total (fun cdv A outer s H E hr tk => (sds_c (sd_set sc_total.nd (.inl rfl) (pd_tup (pa_1 pd_int (pa_1 pd_int pa_0)))) (sds_c (sd_for (passes_of rfl) rfl (id_seq (pd_v (pv 0))) (gd_nm sc_total.nd (.inl rfl)) (sds_1 (sd_set sc_total.nd (.inl rfl) (pd_call (c_plus T) (hr.mono (by decide)) tk (pa_1 (pd_v (pv 1)) (pa_1 (pd_v (pv 2)) pa_0)))))) (sds_1 (sd_ret (pd_mv (pv 1))))))) (T.gl 8 d_total rfl) (F.bindsN fun _ _ _ _ _ _ us hl => match us, hl with | [_], _ => rfl)
def m_least_of : SS := (sSeq (sAsg (.nm 1) (eC .non)) (sSeq (sFor (.nm 2) (iSeq (eV 0)) (sIf (tOr (tB2 fIsN (.v 1) (.e (eC .non))) (tVal (eCall q_is_less [(eV 2), (eV 1)]))) (sAsg (.nm 1) (eV 2)) sNx)) (sRet (eMv 1))))
def q_least_of : Fn := callB 3 m_least_of
theorem c_least_of (T : Tx P K mg) : Cal P w K mg base 2 "least_of" 1 q_least_of := by
  obtain ⟨fd, F⟩ := T.fn 9 d_least_of rfl
  exact fn_ok (N := N_least_of) F sc_least_of (fun cdv A outer s H E hr tk => (sds_c (sd_set sc_least_of.nd (.inl rfl) pd_non) (sds_c (sd_for (passes_of rfl) rfl (id_seq (pd_v (pv 0))) (gd_nm sc_least_of.nd (.inl rfl)) (sds_1 (sd_if (pt_w (pt_or (pt_isN (po_v (pv 1)) (po_e pd_non)) (pt_or1 (pt_vl (pd_call (c_is_less T) (hr.mono (by decide)) tk (pa_1 (pd_v (pv 2)) (pa_1 (pd_v (pv 1)) pa_0))))))) (sds_1 (sd_set sc_least_of.nd (.inl rfl) (pd_v (pv 2)))) sds_nil))) (sds_1 (sd_ret (pd_mv (pv 1))))))) (T.gl 9 d_least_of rfl) (F.bindsN fun _ _ _ _ _ _ us hl => match us, hl with | [_], _ => rfl)
def m_whole_below : SS := (sRet (eB2 fDiv (.e (eB2 fIx (.v 0) (.e (eC (.int 0))))) (.e (eB2 fIx (.v 0) (.e (eC (.int 1)))))))
def q_whole_below : Fn := callB 1 m_whole_below
theorem c_whole_below (T : Tx P K mg) : Cal P w K mg base 1 "whole_below" 1 q_whole_below := by
  obtain ⟨fd, F⟩ := T.fn 10 d_whole_below rfl
  exact fn_ok (N := N_whole_below) F sc_whole_below (fun cdv A outer s H E hr tk => (sds_1 (sd_ret (pd_div (po_e (pd_ix (po_v (pv 0)) (po_e pd_int))) (po_e (pd_ix (po_v (pv 0)) (po_e pd_int))))))) (T.gl 10 d_whole_below rfl) (F.bindsN fun _ _ _ _ _ _ us hl => match us, hl with | [_], _ => rfl)
def m_whole_above : SS := (sRet (eB2 fSub (.e (eC (.int 0))) (.e (eB2 fDiv (.e (eB2 fSub (.e (eC (.int 0))) (.e (eB2 fIx (.v 0) (.e (eC (.int 0))))))) (.e (eB2 fIx (.v 0) (.e (eC (.int 1)))))))))
def q_whole_above : Fn := callB 1 m_whole_above
theorem c_whole_above (T : Tx P K mg) : Cal P w K mg base 1 "whole_above" 1 q_whole_above := by
  obtain ⟨fd, F⟩ := T.fn 11 d_whole_above rfl
  exact fn_ok (N := N_whole_above) F sc_whole_above (fun cdv A outer s H E hr tk => (sds_1 (sd_ret (pd_sub (po_e pd_int) (po_e (pd_div (po_e (pd_sub (po_e pd_int) (po_e (pd_ix (po_v (pv 0)) (po_e pd_int))))) (po_e (pd_ix (po_v (pv 0)) (po_e pd_int))))))))) (T.gl 11 d_whole_above rfl) (F.bindsN fun _ _ _ _ _ _ us hl => match us, hl with | [_], _ => rfl)
def m_is_whole_part : SS := (sRet (eB2 (vB fEq) (.e (eB2 fIx (.v 0) (.e (eC (.int 1))))) (.e (eC (.int 1)))))
def q_is_whole_part : Fn := callB 1 m_is_whole_part
theorem c_is_whole_part (T : Tx P K mg) : Cal P w K mg base 1 "is_whole_part" 1 q_is_whole_part := by
  obtain ⟨fd, F⟩ := T.fn 12 d_is_whole_part rfl
  exact fn_ok (N := N_is_whole_part) F sc_is_whole_part (fun cdv A outer s H E hr tk => (sds_1 (sd_ret (pd_eq hr (po_e (pd_ix (po_v (pv 0)) (po_e pd_int))) (po_e pd_int))))) (T.gl 12 d_is_whole_part rfl) (F.bindsN fun _ _ _ _ _ _ us hl => match us, hl with | [_], _ => rfl)
def m_are_parts : SS := (sRet (eAnd (eB1 (fIsi "tuple") (.v 0)) (eAnd (eB2 (vB fEq) (.e (eB1 fLen (.v 0))) (.v 1)) (eB1 fAll (.e (eLc (.nm 2) (iSeq (eV 0)) tYes (eCall q_is_part [(eV 2)]) [2]))))))
def q_are_parts : Fn := callB 3 m_are_parts
theorem c_are_parts (T : Tx P K mg) : Cal P w K mg base 3 "are_parts" 2 q_are_parts := by
  obtain ⟨fd, F⟩ := T.fn 13 d_are_parts rfl
  exact fn_ok (N := N_are_parts) F sc_are_parts (fun cdv A outer s H E hr tk => (sds_1 (sd_ret (pd_and (pd_isi (q := "tuple") T.B kit_tuple T.B.tuple (by decide +kernel) (po_v (pv 0))) (pd_and (pd_eq hr (po_e (pd_len T.B (po_v (pv 0)))) (po_v (pv 1))) (pd_1 (pd_all T.B rfl (po_e (pd_lc (own := [("one", 2)]) rfl sc_are_parts.nd (id_seq (pd_v (pv 0))) (blkOk_by (N := N_are_parts) (sc := defScope s_are_parts) (by decide +kernel)) (fun _ _ _ _ _ => (gw_n sc_are_parts.nd (.inl rfl))) (fun _ _ _ _ _ => ts_0) (fun _ _ _ _ _ => (pd_call (c_is_part T) (hr.mono (by decide)) takes0 (pa_1 (pd_v (pv 2)) pa_0)))))))))))) (T.gl 13 d_are_parts rfl) (F.bindsN fun _ _ _ _ _ _ us hl => match us, hl with | [_, _], _ => rfl)
def m_scaled : SS := (sSeq (sAsg (.nm 1) (eC (.int 1))) (sSeq (sFor (.nm 2) (iSeq (eV 0)) (sAsg (.nm 1) (eB2 fDiv (.e (eB2 fTimes (.v 1) (.e (eB2 fIx (.v 2) (.e (eC (.int 1))))))) (.e (eCall q_divisor [(eV 1), (eB2 fIx (.v 2) (.e (eC (.int 1))))]))))) (sSeq (sAsg (.nm 3) (eLc (.nm 2) (iSeq (eV 0)) tYes (eB2 fTimes (.e (eB2 fIx (.v 2) (.e (eC (.int 0))))) (.e (eB2 fDiv (.v 1) (.e (eB2 fIx (.v 2) (.e (eC (.int 1)))))))) [2])) (sSeq (sAsg (.nm 4) (eC (.int 0))) (sSeq (sFor (.nm 5) (iSeq (eV 3)) (sAsg (.nm 4) (eCall q_divisor [(eV 4), (eV 5)]))) (sRet (eIf (tB2 fEq (.v 4) (.e (eC (.int 0)))) (eB1 fTupOf (.v 3)) (eB1 fTupOf (.e (eLc (.nm 5) (iSeq (eV 3)) tYes (eB2 fDiv (.v 5) (.v 4)) [5]))))))))))
def q_scaled : Fn := callB 6 m_scaled
theorem c_scaled (T : Tx P K mg) : Cal P w K mg base 2 "scaled" 1 q_scaled := by
  obtain ⟨fd, F⟩ := T.fn 14 d_scaled rfl
  exact fn_ok (N := N_scaled) F sc_scaled (fun cdv A outer s H E hr tk => (sds_c (sd_set sc_scaled.nd (.inr rfl) pd_int) (sds_c (sd_for (passes_of rfl) rfl (id_seq (pd_v (pv 0))) (gd_nm sc_scaled.nd (.inl rfl)) (sds_1 (sd_set sc_scaled.nd (.inr rfl) (pd_div (po_e (pd_times (po_v (pv 1)) (po_e (pd_ix (po_v (pv 2)) (po_e pd_int))))) (po_e (pd_call (c_divisor T) (hr.mono (by decide)) tk (pa_1 (pd_v (pv 1)) (pa_1 (pd_ix (po_v (pv 2)) (po_e pd_int)) pa_0)))))))) (sds_c (sd_lc (own := [("one", 2)]) rfl sc_scaled.nd rfl (sw_true rfl rfl rfl (by decide +kernel)) (id_seq (pd_v (pv 0))) (blkOk_by (N := N_scaled) (sc := defScope s_scaled) (by decide +kernel)) (fun _ _ _ _ _ => (gw_n sc_scaled.nd (.inl rfl))) (fun _ _ _ _ _ => ts_0) (fun _ _ _ _ _ => (pd_times (po_e (pd_ix (po_v (pv 2)) (po_e pd_int))) (po_e (pd_div (po_v (pv 1)) (po_e (pd_ix (po_v (pv 2)) (po_e pd_int)))))))) (sds_c (sd_set sc_scaled.nd (.inr rfl) pd_int) (sds_c (sd_for (passes_of rfl) rfl (id_seq (pd_v (pv 3))) (gd_nm sc_scaled.nd (.inl rfl)) (sds_1 (sd_set sc_scaled.nd (.inr rfl) (pd_call (c_divisor T) (hr.mono (by decide)) tk (pa_1 (pd_v (pv 4)) (pa_1 (pd_v (pv 5)) pa_0)))))) (sds_1 (sd_ret (pd_if (pt_eq hr (po_v (pv 4)) (po_e pd_int)) (pd_tupOf T.B (po_v (pv 3))) (pd_tupOf T.B (po_e (pd_lc (own := [("number", 5)]) rfl sc_scaled.nd (id_seq (pd_v (pv 3))) (blkOk_by (N := N_scaled) (sc := defScope s_scaled) (by decide +kernel)) (fun _ _ _ _ _ => (gw_n sc_scaled.nd (.inl rfl))) (fun _ _ _ _ _ => ts_0) (fun _ _ _ _ _ => (pd_div (po_v (pv 5)) (po_v (pv 4)))))))))))))))) (T.gl 14 d_scaled rfl) (F.bindsN fun _ _ _ _ _ _ us hl => match us, hl with | [_], _ => rfl)
def m_dot : SS := (sRet (eCall q_total [(eLc (.nm 2) (iR1 (.e (eB1 fLen (.v 0)))) tYes (eCall q_times [(eB2 fIx (.v 1) (.v 2)), (eTup [(eB2 fIx (.v 0) (.v 2)), (eC (.int 1))])]) [2])]))
def q_dot : Fn := callB 3 m_dot
theorem c_dot (T : Tx P K mg) : Cal P w K mg base 5 "dot" 2 q_dot := by
  obtain ⟨fd, F⟩ := T.fn 15 d_dot rfl
  exact fn_ok (N := N_dot) F sc_dot (fun cdv A outer s H E hr tk => (sds_1 (sd_ret (pd_call (c_total T) (hr.mono (by decide)) tk (pa_1 (pd_lc (own := [("k", 2)]) rfl sc_dot.nd (id_r1 T.B (po_e (pd_len T.B (po_v (pv 0))))) (blkOk_by (N := N_dot) (sc := defScope s_dot) (by decide +kernel)) (fun _ _ _ _ _ => (gw_n sc_dot.nd (.inl rfl))) (fun _ _ _ _ _ => ts_0) (fun _ _ _ _ _ => (pd_call (c_times T) (hr.mono (by decide)) takes0 (pa_1 (pd_ix (po_v (pv 1)) (po_v (pv 2))) (pa_1 (pd_tup (pa_1 (pd_ix (po_v (pv 0)) (po_v (pv 2))) (pa_1 pd_int pa_0))) pa_0))))) pa_0))))) (T.gl 15 d_dot rfl) (F.bindsN fun _ _ _ _ _ _ us hl => match us, hl with | [_, _], _ => rfl)
abbrev q__law_state : Fn := qState

abbrev q__law_take : Fn := qTake
theorem iteT' {c A B : Prop} [Decidable c] (hc : c) (h : A) : if c then A else B := by rw [if_pos hc]; exact h
theorem iteF' {c A B : Prop} [Decidable c] (hc : ¬ c) (h : B) : if c then A else B := by rw [if_neg hc]; exact h
theorem yesT {σ : L2.St} {H : Hp} {Q : Bool → Hp → Prop} (h : Q true H) : L2.tYes σ H Q := h
theorem at_mod {cs : List Int} (h : cs ≠ []) (i : Int) : 0 ≤ i % (cs.length : Int) ∧ i % (cs.length : Int) < (cs.length : Int) := by
  have : 0 < cs.length := List.length_pos_iff.mpr h
  exact ⟨Int.emod_nonneg _ (by omega), Int.emod_lt_of_pos _ (by omega)⟩
theorem at_cell {cs : List Int} (h : cs ≠ []) (i : Int) : atI (cs.map V.int) (i % ((cs.map V.int).length : Int)) = some (V.int (cs.getD (i % (cs.length : Int)).toNat 0)) ∧ L2.ixN (cs.map V.int).length (i % ((cs.map V.int).length : Int)) = some (i % (cs.length : Int)).toNat := by
  obtain ⟨h1, h2⟩ := at_mod h i
  have hx : L2.ixN (cs.map V.int).length (i % ((cs.map V.int).length : Int)) = some (i % (cs.length : Int)).toNat := by
    unfold L2.ixN
    rw [List.length_map, if_pos h1, if_pos h2]
  refine ⟨?_, hx⟩
  unfold atI
  rw [hx]
  show (cs.map V.int)[(i % (cs.length : Int)).toNat]? = _
  have hl : (i % (cs.length : Int)).toNat < cs.length := by omega
  rw [List.getElem?_map, List.getElem?_eq_getElem hl, List.getD_eq_getElem?_getD, List.getElem?_eq_getElem hl]
  rfl
theorem qTake_inv {ds : List D} {g : G} (h : qTake ds g ≠ .stk) : ∃ m i cs, ds = [.st, .int m] ∧ g.st = some (i, cs) ∧ cs ≠ [] ∧ m < 1073741824 ∧ qTake ds g = .ok (.frz (.int (takeF i cs m).1)) ⟨some (takeF i cs m).2⟩ := by
  unfold qTake at h ⊢
  split at h
  · rename_i m i cs hg
    split at h
    · exact absurd rfl h
    · rename_i hc
      rw [Bool.not_eq_true, Bool.or_eq_false_iff] at hc
      refine ⟨m, i, cs, rfl, hg, fun e => ?_, ?_, ?_⟩
      · rw [e] at hc; exact absurd hc.1 (by decide)
      · have := of_decide_eq_false hc.2; omega
      · simp only [hg, hc.1, hc.2, Bool.or_false, Bool.false_eq_true, if_false]
  · exact absurd rfl h
theorem c__law_take (T : Tx P K mg) : Cal P w K mg base 1 "_law_take" 2 q__law_take := by
  obtain ⟨fd, F⟩ := T.fn 17 d__law_take rfl
  refine ⟨_, fd, ["state", "most"], T.gl 17 d__law_take rfl, F.kp, (F.bindsN fun _ _ _ _ _ _ us hl => match us, hl with | [_, _], _ => rfl), FunD.ok F sc__law_take (fun vs H Q E ⟨y, g, ds, r, b, l, _⟩ => b.length.trans l) fun cdv A outer s H vs Q E hr ⟨x, g, ds, r, b, l, q⟩ => ?_⟩
  obtain ⟨m, i, cs, rfl, hg, hne, hm30, hq⟩ := qTake_inv (ds := ds) (g := g) (fun e => by
    have q' : PostF K x Q E (qTake ds g) := q
    rw [e] at q'; exact q')
  have q' : PostF K x Q E (qTake [.st, .int m] g) := q
  rw [hq] at q'
  obtain ⟨v0, vr, rfl, ⟨a, c, hst, rfl⟩, v1, vr2, rfl, e1, rfl⟩ := b
  cases e1
  have rs := r.st
  rw [hg] at rs
  obtain ⟨a', c', e', hac, h1, h2, h3, h4, h5, h6⟩ := rs
  rw [hst] at e'; cases e'
  -- the state changed
  have chg : ∀ (i2 : Int) (cs2 : List Int) (H2 : Hp), H2 a = some (.lst [.int i2, .ref c]) → H2 c = some (.lst (cs2.map V.int)) → (∀ b, b ≠ a → b ≠ c → H2 b = H b) → R0 x H2 ⟨some (i2, cs2)⟩ := fun i2 cs2 H2 k1 k2 k3 => by
    refine ⟨fun b o e => ?_, fun b o e => ?_, r.dj, a, c, hst, hac, k1, k2, h3, h4, h5, h6⟩
    · rw [k3 b (fun z => by rw [z, h3] at e; cases e) (fun z => by rw [z, h4] at e; cases e)]
      exact r.hs b o e
    · rw [k3 b (fun z => by rw [z, h5] at e; cases e) (fun z => by rw [z, h6] at e; cases e)]
      exact r.fr b o e
  obtain ⟨ac1, ac2⟩ := at_cell hne i
  have hpos : (0 : Int) < ((cs.map V.int).length : Int) := by
    rw [List.length_map]
    have : 0 < cs.length := List.length_pos_iff.mpr hne
    omega
  have nd := sc__law_take.nd
  refine ⟨_, pss_cons (ps_if (pt_cmpR op_lt (pv 1) pe_int (nomark _)) (pss_one (ps_ret pe_int)) pss_nil)
    (pss_cons (ps_set (i := 2) nd rfl (Or.inl rfl) (pe_ix ix_list (pv 0) pe_int (fun _ _ => rfl)))
    (pss_cons (ps_set (i := 3) nd rfl (Or.inl rfl) (pe_op op_mod (pe_callTy call_int1 (by rfl) T.B.int (by decide +kernel) (pa_cons (pe_ix ix_list (pv 0) pe_int (fun _ _ => rfl)) pa_nil)) (pe_callB call_len_seq (by rfl) T.B.len PySem.boot_len (pa_cons (pv 2) pa_nil))))
    (pss_cons (ps_set (i := 4) nd rfl (Or.inl rfl) (pe_ix ix_list (pv 2) (pv 3) (fun _ _ => rfl)))
    (pss_cons (ps_if (pt_cmpR op_ge (pv 4) pe_int (nomark _))
      (pss_cons (ps_asg (pe_op op_fdiv (pv 4) (pv 1)) (pg_sub (pv 2) (pv 3) set_list)) (pss_one (ps_ret (pe_op op_mod (pe_callTy call_int1 (by rfl) T.B.int (by decide +kernel) (pa_cons (pv 4) pa_nil)) (pv 1))))) pss_nil)
    (pss_cons (ps_asg (pe_op op_add (pe_ix ix_list (pv 0) pe_int (fun _ _ => rfl)) pe_int) (pg_sub (pv 0) pe_int set_list))
    (pss_cons (ps_set (i := 5) nd rfl (Or.inl rfl) (pe_op op_mod (pe_callTy call_int1 (by rfl) T.B.int (by decide +kernel) (pa_cons (pe_op op_add (pe_op op_mul (pv 4) pe_int) (pe_op op_mul (pe_ix ix_list (pv 0) pe_int (fun _ _ => rfl)) pe_int)) pa_nil)) pe_int))
    (pss_cons (ps_set (i := 5) nd rfl (Or.inl rfl) (pe_op op_mod (pe_callTy call_int1 (by rfl) T.B.int (by decide +kernel) (pa_cons (pe_op op_add (pe_op op_mul (pv 5) pe_int) (pe_op op_mul (pe_ix ix_list (pv 0) pe_int (fun _ _ => rfl)) pe_int)) pa_nil)) pe_int))
    (pss_one (ps_ret (pe_op op_mod (pe_callTy call_int1 (by rfl) T.B.int (by decide +kernel) (pa_cons (pe_op op_fdiv (pv 5) pe_int) pa_nil)) (pv 1))))))))))), ?_⟩
  refine ⟨_, rfl, m, 2, rfl, rfl, _, rfl, ?_⟩
  show if decide (m < 2) = true then _ else _
  by_cases hm : m < 2
  · rw [if_pos (decide_eq_true hm)]
    have e0 : takeF i cs m = (0, i, cs) := by unfold takeF; rw [if_pos hm]
    rw [e0] at q'
    exact q' x H (.int 0) (.refl _) (by rw [← hg]; exact r) rfl
  rw [if_neg (by rw [decide_eq_true_eq]; exact hm)]
  refine ⟨_, rfl, a, [.int i, .ref c], 1, .ref c, rfl, rfl, SqL.of h1, rfl, ?_⟩
  refine ⟨_, rfl, a, [.int i, .ref c], 0, .int i, rfl, rfl, SqL.of h1, rfl, .inl ⟨i, rfl, _, rfl, c, cs.map V.int, rfl, .inl (SqL.of h2), _, _, rfl, rfl, hpos, ?_⟩⟩
  refine ⟨_, rfl, _, rfl, c, cs.map V.int, _, _, rfl, rfl, SqL.of h2, ac1, ?_⟩
  obtain ⟨cell, hcell⟩ : ∃ cell, cell = cs.getD (i % (cs.length : Int)).toNat 0 := ⟨_, rfl⟩
  rw [← hcell]
  refine ⟨_, rfl, cell, 1000000000000000000, rfl, rfl, _, rfl, ?_⟩
  show if decide (1000000000000000000 ≤ cell) = true then _ else _
  by_cases hc : 1000000000000000000 ≤ cell
  · rw [if_pos (decide_eq_true hc)]
    have e0 : takeF i cs m = (cell % m, i, cs.set (i % (cs.length : Int)).toNat (cell / m)) := by
      unfold takeF
      rw [if_neg hm]
      subst hcell
      exact if_pos hc
    rw [e0] at q'
    refine ⟨_, rfl, _, rfl, cell, m, rfl, rfl, ⟨by omega, by omega⟩, ?_⟩
    refine ⟨_, rfl, _, rfl, c, cs.map V.int, _, _, rfl, rfl, h2, ac2, ?_⟩
    refine ⟨_, rfl, .inl ⟨cell, rfl, _, rfl, cell, m, rfl, rfl, by omega, ?_⟩⟩
    refine q' x _ _ (.refl _) (chg i (cs.set (i % (cs.length : Int)).toNat (cell / m)) _ ((upd_ne hac).trans h1) (by rw [upd_same, List.map_set]) (fun b n1 n2 => upd_ne n2)) rfl
  rw [if_neg (by rw [decide_eq_true_eq]; exact hc)]
  refine ⟨_, rfl, a, [.int i, .ref c], 0, .int i, rfl, rfl, SqL.of h1, rfl, i, 1, rfl, rfl, ?_⟩
  refine ⟨_, rfl, a, [.int i, .ref c], 0, 0, rfl, rfl, h1, rfl, ?_⟩
  have h1' : (upd H a (.lst ([V.int i, .ref c].set 0 (.int (i + 1))))) a = some (.lst [.int (i + 1), .ref c]) := upd_same
  have b1 : ∀ k : Int, (-(2 ^ 64) < k ∧ k < 2 ^ 64) → ∀ n : Int, CMul n k := fun k hk n => .inr hk
  refine ⟨_, rfl, cell, 48271, rfl, rfl, b1 48271 (by decide) _, _, rfl, a, [.int (i + 1), .ref c], 0, .int (i + 1), rfl, rfl, SqL.of h1', rfl, _, _, rfl, rfl, b1 69621 (by decide) _, _, _, rfl, rfl, .inl ⟨_, rfl, _, _, rfl, rfl, (by show (0 : Int) < 2147483647; decide), ?_⟩⟩
  refine ⟨_, rfl, _, _, rfl, rfl, b1 16807 (by decide) _, _, rfl, a, [.int (i + 1), .ref c], 0, .int (i + 1), rfl, rfl, SqL.of h1', rfl, _, _, rfl, rfl, b1 7919 (by decide) _, _, _, rfl, rfl, .inl ⟨_, rfl, _, _, rfl, rfl, (by show (0 : Int) < 1000000007; decide), ?_⟩⟩
  refine ⟨_, rfl, _, _, rfl, rfl, ⟨by decide, by decide⟩, .inl ⟨_, rfl, _, rfl, _, m, rfl, rfl, by omega, ?_⟩⟩
  have e0 : takeF i cs m = (((cell * 48271 + (i + 1) * 69621) % 2147483647 * 16807 + (i + 1) * 7919) % 1000000007 / 7 % m, i + 1, cs) := by
    unfold takeF
    rw [if_neg hm]
    subst hcell
    exact if_neg hc
  rw [e0] at q'
  exact q' x _ _ (.refl _) (chg (i + 1) cs _ upd_same ((upd_ne (Ne.symm hac)).trans h2) (fun b n1 n2 => upd_ne n1)) rfl
theorem qState_inv {ds : List D} {g : G} (h : qState ds g ≠ .stk) : ∃ ns, ds = [.scr ns] ∧ g.st = none ∧ ns.length ≤ 63 ∧ qState ds g = .ok (.frz .st) ⟨some (0, cells0 ns)⟩ := by
  unfold qState at h ⊢
  split at h
  · rename_i ns hg
    split at h
    · rename_i hl
      exact ⟨ns, rfl, hg, hl, by simp only [hg, hl, if_true]⟩
    · exact absurd rfl h
  · exact absurd rfl h
abbrev absV1 (n : Int) : V := V.int (if n < 0 then -n else n)
theorem c__law_state (T : Tx P K mg) : Cal P w K mg base 1 "_law_state" 1 q__law_state := by
  obtain ⟨fd, F⟩ := T.fn 16 d__law_state rfl
  refine ⟨_, fd, ["script"], T.gl 16 d__law_state rfl, F.kp, (F.bindsN fun _ _ _ _ _ _ us hl => match us, hl with | [_], _ => rfl), FunD.ok F sc__law_state (fun vs H Q E ⟨y, g, ds, r, b, l, _⟩ => b.length.trans l) fun cdv A outer s H vs Q E hr ⟨x, g, ds, r, b, l, q⟩ => ?_⟩
  obtain ⟨ns, rfl, hg, hlen, hq⟩ := qState_inv (ds := ds) (g := g) (fun e => by
    have q' : PostF K x Q E (qState ds g) := q
    rw [e] at q'; exact q')
  have q' : PostF K x Q E (qState [.scr ns] g) := q
  rw [hq] at q'
  obtain ⟨v0, vr, rfl, ⟨p0, rfl, hS0⟩, e1⟩ := b
  cases e1
  have hS : SqL K H p0 (ns.map V.int) := Evl.ex_l r.hs hS0
  have hst : x.st = none := by
    have rs := r.st
    rw [hg] at rs
    exact rs
  have nd := sc__law_state.nd
  have endOf : ∀ (H' : Hp) (pc pa : Addr) (cs : List Int), Evl.Ex H H' → H pc = none → H pa = none → pa ≠ pc → H' pa = some (.lst [.int 0, .ref pc]) → H' pc = some (.lst (cs.map V.int)) → cs = cells0 ns → Q (.ref pa) H' := fun H' pc pa cs ex n1 n2 ne k1 k2 ec => by
    subst ec
    refine q' { x with st := some (pa, pc) } H' (.ref pa) ⟨Evl.Ex.refl _, rfl, .inl hst⟩ ⟨r.hs.trans ex, r.fr.trans ex, r.dj, pa, pc, rfl, ne, k1, k2, ?_, ?_, ?_, ?_⟩ ⟨pa, pc, rfl, rfl⟩
    · exact Evl.fresh_back r.hs n2
    · exact Evl.fresh_back r.hs n1
    · exact Evl.fresh_back r.fr n2
    · exact Evl.fresh_back r.fr n1
  refine ⟨_, pss_cons (ps_setLc (i := 1) (own := [("cell", 2)]) rfl nd rfl rfl (sw_true rfl rfl rfl (by decide +kernel)) (pi_list (pe_slice sl_list (pv 0) po_none (po_some pe_int))) (blkOk_by (N := N__law_state) (sc := defScope s__law_state) (by decide +kernel))
      (fun _ _ _ _ _ => pg_name (i := 2) nd rfl (Or.inl rfl)) (fun _ _ _ _ _ => pts_nil) (fun _ _ _ _ _ => pe_callB call_abs (by rfl) T.B.abs (by decide +kernel) (pa_cons (pv 2) pa_nil)))
    (pss_cons (ps_if (pt_cmpR op_eq (pe_callB call_len_seq (by rfl) T.B.len PySem.boot_len (pa_cons (pv 1) pa_nil)) pe_int (nomark _)) (pss_one (ps_set (i := 1) nd rfl (Or.inl rfl) (pe_lst (pa_cons pe_int pa_nil)))) pss_nil)
    (pss_one (ps_ret (pe_lst (pa_cons pe_int (pa_cons (pv 1) pa_nil)))))), ?_⟩
  refine ⟨_, rfl, 63, rfl, p0, ns.map V.int, rfl, hS, fun q1 hq1 => ⟨q1, rfl, ⟨_, SqL.of upd_same⟩, fun Dl hD => ?_⟩⟩
  have ecut : cutV (ns.map V.int) none (some 63) = ns.map V.int := by
    unfold cutV
    rw [HT.sIx_none, show (some (63 : Int)) = some ((63 : Nat) : Int) from rfl, HT.sIx_nat, List.drop_zero, Nat.sub_zero, List.length_map, Nat.min_eq_right hlen]
    exact List.take_of_length_le (by rw [List.length_map]; exact Nat.le_refl _)
  rw [ecut] at hD ⊢
  have hDl : H Dl = none := by
    rw [upd_ne (fun z => by rw [z, upd_same] at hD; cases hD)] at hD
    exact hD
  have neD : q1 ≠ Dl := fun z => by rw [← z, upd_same] at hD; cases hD
  refine lc_list (K := K) (a := q1) (xs := ns.map V.int) (fun k H' => Evl.Ex H H' ∧ H' q1 = some (.lst (ns.map V.int)) ∧ H' Dl = some (.lst ((ns.take k).map absV1)))
    ⟨(Evl.Ex.new hq1).trans (Evl.Ex.new hD), (upd_ne neD).trans upd_same, upd_same⟩ (fun k H' _ h => SqL.of h.2.1) ?_ ?_
  · rintro k v H' hk ⟨ex, k1, k2⟩
    rw [List.getElem?_map] at hk
    cases en : ns[k]? with
    | none => rw [en] at hk; cases hk
    | some n =>
      rw [en] at hk
      cases hk
      have hkl := (List.getElem?_eq_some_iff.mp en).1
      refine ⟨rfl, ?_⟩
      refine yesT (iteT' rfl ?_)
      refine ⟨_, rfl, n, rfl, _, k2, ?_, Evl.Ex.mut ex hDl, (upd_ne neD).trans k1, ?_⟩
      · rw [List.length_map, List.length_take]
        exact Nat.lt_of_le_of_lt (Nat.min_le_right ..) (Nat.lt_of_le_of_lt hlen (by decide))
      · rw [upd_same, List.take_add_one, en]
        simp only [List.map_append, Option.toList, List.map_cons, List.map_nil]
  · rintro H' ⟨ex, k1, k2⟩
    rw [List.length_map, List.take_length] at k2
    refine ⟨_, rfl, Dl, _, rfl, .inl (SqL.of k2), rfl, _, rfl, ?_⟩
    show if decide (V.int ((ns.map absV1).length : Int) = V.int 0) = true then _ else _
    cases ns with
    | nil =>
      refine iteT' (by decide) ⟨Nat.le_of_lt (by decide : 1 < sizeLine), fun p hp => ?_⟩
      have hp0 : H p = none := Evl.fresh_back ex hp
      refine ⟨_, rfl, Nat.le_of_lt (by decide : 2 < sizeLine), fun p2 hp2 => ?_⟩
      have ne2 : p ≠ p2 := fun z => by rw [← z, upd_same] at hp2; cases hp2
      have hp2' : H' p2 = none := by rwa [upd_ne (Ne.symm ne2)] at hp2
      exact endOf _ p p2 [0] (ex.trans ((Evl.Ex.new hp).trans (Evl.Ex.new hp2))) hp0 (Evl.fresh_back ex hp2') (Ne.symm ne2) upd_same ((upd_ne ne2).trans upd_same) rfl
    | cons n ns =>
      refine iteF' (by
        rw [decide_eq_true_eq]
        intro z
        have z2 : (((n :: ns).map absV1).length : Int) = 0 := V.int.inj z
        rw [List.length_map, List.length_cons] at z2
        omega) ?_
      refine ⟨_, rfl, Nat.le_of_lt (by decide : 2 < sizeLine), fun p2 hp2 => ?_⟩
      have ne2 : Dl ≠ p2 := fun z => by rw [← z, k2] at hp2; cases hp2
      refine endOf _ Dl p2 ((n :: ns).map fun n => if n < 0 then -n else n) (ex.trans (Evl.Ex.new hp2)) hDl (Evl.fresh_back ex hp2) (Ne.symm ne2) upd_same ?_ rfl
      rw [upd_ne ne2, k2, List.map_map]
      rfl

def m__law_pick : SS := (sRet (eB2 fIx (.v 1) (.e (eCall q__law_take [(eV 0), (eB1 fLen (.v 1))]))))
def q__law_pick : Fn := callB 2 m__law_pick
theorem c__law_pick (T : Tx P K mg) : Cal P w K mg base 2 "_law_pick" 2 q__law_pick := by
  obtain ⟨fd, F⟩ := T.fn 18 d__law_pick rfl
  exact fn_ok (N := N__law_pick) F sc__law_pick (fun cdv A outer s H E hr tk => (sds_1 (sd_ret (pd_ix (po_v (pv 1)) (po_e (pd_call (c__law_take T) (hr.mono (by decide)) tk (pa_1 (pd_v (pv 0)) (pa_1 (pd_len T.B (po_v (pv 1))) pa_0)))))))) (T.gl 18 d__law_pick rfl) (F.bindsN fun _ _ _ _ _ _ us hl => match us, hl with | [_, _], _ => rfl)
def m__law_fr : SS := (sSeq (sIf (tB2 fLt (.v 1) (.e (eC (.int 0)))) (sPar [0, 1] [(eB2 fSub (.e (eC (.int 0))) (.v 0)), (eB2 fSub (.e (eC (.int 0))) (.v 1))]) sNx) (sSeq (sPar [2, 3] [(eB1 fAbs (.v 0)), (eV 1)]) (sSeq (sFor (.nm 4) (iR1 (.e (eC (.int 4000)))) (sSeq (sIf (tB2 fEq (.v 3) (.e (eC (.int 0)))) sBk sNx) (sPar [2, 3] [(eV 3), (eB2 fMod (.e (eB1 fIntOf (.v 2))) (.v 3))]))) (sRet (eTup [(eB2 fDiv (.v 0) (.v 2)), (eB2 fDiv (.v 1) (.v 2))])))))
def q__law_fr : Fn := callB 5 m__law_fr
theorem c__law_fr (T : Tx P K mg) : Cal P w K mg base 1 "_law_fr" 2 q__law_fr := by
  obtain ⟨fd, F⟩ := T.fn 19 d__law_fr rfl
  exact fn_ok (N := N__law_fr) F sc__law_fr (fun cdv A outer s H E hr tk => (sds_c (sd_if (pt_lt (po_v (pv 1)) (po_e pd_int)) (sds_1 (sd_par rfl sc__law_fr.nd rfl rfl (pd_sub (po_e pd_int) (po_v (pv 0))) (pd_sub (po_e pd_int) (po_v (pv 1))))) sds_nil) (sds_c (sd_par rfl sc__law_fr.nd rfl rfl (pd_abs T.B (po_v (pv 0))) (pd_v (pv 1))) (sds_c (sd_for (passes_of rfl) rfl (id_r1 T.B (po_e pd_int)) (gd_nm sc__law_fr.nd (.inl rfl)) (sds_c (sd_if (pt_eq hr (po_v (pv 3)) (po_e pd_int)) (sds_1 sd_bk) sds_nil) (sds_1 (sd_par rfl sc__law_fr.nd rfl rfl (pd_v (pv 3)) (pd_mod (po_e (pd_intOf T.B (po_v (pv 2)))) (po_v (pv 3))))))) (sds_1 (sd_ret (pd_tup (pa_1 (pd_div (po_v (pv 0)) (po_v (pv 2))) (pa_1 (pd_div (po_v (pv 1)) (po_v (pv 2))) pa_0))))))))) (T.gl 19 d__law_fr rfl) (F.bindsN fun _ _ _ _ _ _ us hl => match us, hl with | [_, _], _ => rfl)
def m__law_is_fr : SS := (sSeq (sIf (tOr (tNot (tVal (eB1 (fIsi "tuple") (.v 0)))) (tOr (tB2 fNe (.e (eB1 fLen (.v 0))) (.e (eC (.int 2)))) (tB2 fGt (.e (eB1 fLen (.e (eLc (.nm 1) (iSeq (eV 0)) (tOr (tNot (tVal (eB1 (fIsi "int") (.v 1)))) (tVal (eB1 (fIsi "bool") (.v 1)))) (eV 1) [1])))) (.e (eC (.int 0)))))) (sRet (eC (.bl false))) sNx) (sRet (eAnd (eB2 (vB fGe) (.e (eB2 fIx (.v 0) (.e (eC (.int 1))))) (.e (eC (.int 1)))) (eB2 (vB fEq) (.e (eCall q__law_fr [(eB2 fIx (.v 0) (.e (eC (.int 0)))), (eB2 fIx (.v 0) (.e (eC (.int 1))))])) (.v 0)))))
def q__law_is_fr : Fn := callB 2 m__law_is_fr
theorem c__law_is_fr (T : Tx P K mg) : Cal P w K mg base 2 "_law_is_fr" 1 q__law_is_fr := by
  obtain ⟨fd, F⟩ := T.fn 20 d__law_is_fr rfl
  exact fn_ok (N := N__law_is_fr) F sc__law_is_fr (fun cdv A outer s H E hr tk => (sds_c (sd_if (pt_w (pt_or (Zn.pt_not (pt_vl (pd_isi (q := "tuple") T.B kit_tuple T.B.tuple (by decide +kernel) (po_v (pv 0))))) (pt_or (pt_ne hr (po_e (pd_len T.B (po_v (pv 0)))) (po_e pd_int)) (pt_or1 (pt_gt (po_e (pd_len T.B (po_e (pd_lc (own := [("n", 1)]) rfl sc__law_is_fr.nd (id_seq (pd_v (pv 0))) (blkOk_by (N := N__law_is_fr) (sc := defScope s__law_is_fr) (by decide +kernel)) (fun _ _ _ _ _ => (gw_n sc__law_is_fr.nd (.inl rfl))) (fun _ _ _ _ _ => (ts_1 (pt_w (pt_or (Zn.pt_not (pt_vl (pd_isi (q := "int") T.B kit_int T.B.int (by decide +kernel) (po_v (pv 1))))) (pt_or1 (pt_vl (pd_isi (q := "bool") T.B kit_bool T.B.bool (by decide +kernel) (po_v (pv 1))))))))) (fun _ _ _ _ _ => (pd_v (pv 1))))))) (po_e pd_int)))))) (sds_1 (sd_ret pd_bl)) sds_nil) (sds_1 (sd_ret (pd_and (pd_ge (po_e (pd_ix (po_v (pv 0)) (po_e pd_int))) (po_e pd_int)) (pd_1 (pd_eq hr (po_e (pd_call (c__law_fr T) (hr.mono (by decide)) tk (pa_1 (pd_ix (po_v (pv 0)) (po_e pd_int)) (pa_1 (pd_ix (po_v (pv 0)) (po_e pd_int)) pa_0)))) (po_v (pv 0))))))))) (T.gl 20 d__law_is_fr rfl) (F.bindsN fun _ _ _ _ _ _ us hl => match us, hl with | [_], _ => rfl)
def m__law_are_frs : SS := (sRet (eAnd (eB1 (fIsi "tuple") (.v 0)) (eAnd (eB2 (vB fEq) (.e (eB1 fLen (.v 0))) (.v 1)) (eB2 (vB fEq) (.e (eB1 fLen (.e (eLc (.nm 2) (iSeq (eV 0)) (tNot (tVal (eCall q__law_is_fr [(eV 2)]))) (eV 2) [2])))) (.e (eC (.int 0)))))))
def q__law_are_frs : Fn := callB 3 m__law_are_frs
theorem c__law_are_frs (T : Tx P K mg) : Cal P w K mg base 3 "_law_are_frs" 2 q__law_are_frs := by
  obtain ⟨fd, F⟩ := T.fn 21 d__law_are_frs rfl
  exact fn_ok (N := N__law_are_frs) F sc__law_are_frs (fun cdv A outer s H E hr tk => (sds_1 (sd_ret (pd_and (pd_isi (q := "tuple") T.B kit_tuple T.B.tuple (by decide +kernel) (po_v (pv 0))) (pd_and (pd_eq hr (po_e (pd_len T.B (po_v (pv 0)))) (po_v (pv 1))) (pd_1 (pd_eq hr (po_e (pd_len T.B (po_e (pd_lc (own := [("each", 2)]) rfl sc__law_are_frs.nd (id_seq (pd_v (pv 0))) (blkOk_by (N := N__law_are_frs) (sc := defScope s__law_are_frs) (by decide +kernel)) (fun _ _ _ _ _ => (gw_n sc__law_are_frs.nd (.inl rfl))) (fun _ _ _ _ _ => (ts_1 (Zn.pt_not (pt_vl (pd_call (c__law_is_fr T) (hr.mono (by decide)) takes0 (pa_1 (pd_v (pv 2)) pa_0)))))) (fun _ _ _ _ _ => (pd_v (pv 2))))))) (po_e pd_int)))))))) (T.gl 21 d__law_are_frs rfl) (F.bindsN fun _ _ _ _ _ _ us hl => match us, hl with | [_, _], _ => rfl)
def m__law_add : SS := (sRet (eCall q__law_fr [(eB2 fPlus (.e (eB2 fTimes (.e (eB2 fIx (.v 0) (.e (eC (.int 0))))) (.e (eB2 fIx (.v 1) (.e (eC (.int 1))))))) (.e (eB2 fTimes (.e (eB2 fIx (.v 1) (.e (eC (.int 0))))) (.e (eB2 fIx (.v 0) (.e (eC (.int 1)))))))), (eB2 fTimes (.e (eB2 fIx (.v 0) (.e (eC (.int 1))))) (.e (eB2 fIx (.v 1) (.e (eC (.int 1))))))]))
def q__law_add : Fn := callB 2 m__law_add
theorem c__law_add (T : Tx P K mg) : Cal P w K mg base 2 "_law_add" 2 q__law_add := by
  obtain ⟨fd, F⟩ := T.fn 22 d__law_add rfl
  exact fn_ok (N := N__law_add) F sc__law_add (fun cdv A outer s H E hr tk => (sds_1 (sd_ret (pd_call (c__law_fr T) (hr.mono (by decide)) tk (pa_1 (pd_plus (po_e (pd_times (po_e (pd_ix (po_v (pv 0)) (po_e pd_int))) (po_e (pd_ix (po_v (pv 1)) (po_e pd_int))))) (po_e (pd_times (po_e (pd_ix (po_v (pv 1)) (po_e pd_int))) (po_e (pd_ix (po_v (pv 0)) (po_e pd_int)))))) (pa_1 (pd_times (po_e (pd_ix (po_v (pv 0)) (po_e pd_int))) (po_e (pd_ix (po_v (pv 1)) (po_e pd_int)))) pa_0)))))) (T.gl 22 d__law_add rfl) (F.bindsN fun _ _ _ _ _ _ us hl => match us, hl with | [_, _], _ => rfl)
def m__law_mul : SS := (sRet (eCall q__law_fr [(eB2 fTimes (.e (eB2 fIx (.v 0) (.e (eC (.int 0))))) (.e (eB2 fIx (.v 1) (.e (eC (.int 0)))))), (eB2 fTimes (.e (eB2 fIx (.v 0) (.e (eC (.int 1))))) (.e (eB2 fIx (.v 1) (.e (eC (.int 1))))))]))
def q__law_mul : Fn := callB 2 m__law_mul
theorem c__law_mul (T : Tx P K mg) : Cal P w K mg base 2 "_law_mul" 2 q__law_mul := by
  obtain ⟨fd, F⟩ := T.fn 23 d__law_mul rfl
  exact fn_ok (N := N__law_mul) F sc__law_mul (fun cdv A outer s H E hr tk => (sds_1 (sd_ret (pd_call (c__law_fr T) (hr.mono (by decide)) tk (pa_1 (pd_times (po_e (pd_ix (po_v (pv 0)) (po_e pd_int))) (po_e (pd_ix (po_v (pv 1)) (po_e pd_int)))) (pa_1 (pd_times (po_e (pd_ix (po_v (pv 0)) (po_e pd_int))) (po_e (pd_ix (po_v (pv 1)) (po_e pd_int)))) pa_0)))))) (T.gl 23 d__law_mul rfl) (F.bindsN fun _ _ _ _ _ _ us hl => match us, hl with | [_, _], _ => rfl)
def m__law_sub : SS := (sRet (eCall q__law_add [(eV 0), (eTup [(eB2 fSub (.e (eC (.int 0))) (.e (eB2 fIx (.v 1) (.e (eC (.int 0)))))), (eB2 fIx (.v 1) (.e (eC (.int 1))))])]))
def q__law_sub : Fn := callB 2 m__law_sub
theorem c__law_sub (T : Tx P K mg) : Cal P w K mg base 3 "_law_sub" 2 q__law_sub := by
  obtain ⟨fd, F⟩ := T.fn 24 d__law_sub rfl
  exact fn_ok (N := N__law_sub) F sc__law_sub (fun cdv A outer s H E hr tk => (sds_1 (sd_ret (pd_call (c__law_add T) (hr.mono (by decide)) tk (pa_1 (pd_v (pv 0)) (pa_1 (pd_tup (pa_1 (pd_sub (po_e pd_int) (po_e (pd_ix (po_v (pv 1)) (po_e pd_int)))) (pa_1 (pd_ix (po_v (pv 1)) (po_e pd_int)) pa_0))) pa_0)))))) (T.gl 24 d__law_sub rfl) (F.bindsN fun _ _ _ _ _ _ us hl => match us, hl with | [_, _], _ => rfl)
def m__law_sign : SS := (sSeq (sAsg (.nm 2) (eB2 fSub (.e (eB2 fTimes (.e (eB2 fIx (.v 0) (.e (eC (.int 0))))) (.e (eB2 fIx (.v 1) (.e (eC (.int 1))))))) (.e (eB2 fTimes (.e (eB2 fIx (.v 1) (.e (eC (.int 0))))) (.e (eB2 fIx (.v 0) (.e (eC (.int 1))))))))) (sRet (eIf (tB2 fEq (.v 2) (.e (eC (.int 0)))) (eC (.int 0)) (eIf (tB2 fGt (.v 2) (.e (eC (.int 0)))) (eC (.int 1)) (eB1 fNeg (.e (eC (.int 1))))))))
def q__law_sign : Fn := callB 3 m__law_sign
theorem c__law_sign (T : Tx P K mg) : Cal P w K mg base 1 "_law_sign" 2 q__law_sign := by
  obtain ⟨fd, F⟩ := T.fn 25 d__law_sign rfl
  exact fn_ok (N := N__law_sign) F sc__law_sign (fun cdv A outer s H E hr tk => (sds_c (sd_set sc__law_sign.nd (.inl rfl) (pd_sub (po_e (pd_times (po_e (pd_ix (po_v (pv 0)) (po_e pd_int))) (po_e (pd_ix (po_v (pv 1)) (po_e pd_int))))) (po_e (pd_times (po_e (pd_ix (po_v (pv 1)) (po_e pd_int))) (po_e (pd_ix (po_v (pv 0)) (po_e pd_int))))))) (sds_1 (sd_ret (pd_if (pt_eq hr (po_v (pv 2)) (po_e pd_int)) pd_int (pd_if (pt_gt (po_v (pv 2)) (po_e pd_int)) pd_int (pd_neg (po_e pd_int)))))))) (T.gl 25 d__law_sign rfl) (F.bindsN fun _ _ _ _ _ _ us hl => match us, hl with | [_, _], _ => rfl)
def m__law_part : SS := (sRet (eCall q__law_fr [(eB2 fSub (.e (eCall q__law_take [(eV 0), (eC (.int 41))])) (.e (eC (.int 20)))), (eB2 fPlus (.e (eC (.int 1))) (.e (eCall q__law_take [(eV 0), (eC (.int 12))])))]))
def q__law_part : Fn := callB 1 m__law_part
theorem c__law_part (T : Tx P K mg) : Cal P w K mg base 2 "_law_part" 1 q__law_part := by
  obtain ⟨fd, F⟩ := T.fn 26 d__law_part rfl
  exact fn_ok (N := N__law_part) F sc__law_part (fun cdv A outer s H E hr tk => (sds_1 (sd_ret (pd_call (c__law_fr T) (hr.mono (by decide)) tk (pa_1 (pd_sub (po_e (pd_call (c__law_take T) (hr.mono (by decide)) tk (pa_1 (pd_v (pv 0)) (pa_1 pd_int pa_0)))) (po_e pd_int)) (pa_1 (pd_plus (po_e pd_int) (po_e (pd_call (c__law_take T) (hr.mono (by decide)) tk (pa_1 (pd_v (pv 0)) (pa_1 pd_int pa_0))))) pa_0)))))) (T.gl 26 d__law_part rfl) (F.bindsN fun _ _ _ _ _ _ us hl => match us, hl with | [_], _ => rfl)
def m__law_divisor : SS := (sSeq (sPar [0, 1, 2] [(eB1 fAbs (.v 0)), (eB1 fAbs (.v 1)), (eC (.int 0))]) (sSeq (sFor (.nm 3) (iR2 (.e (eC (.int 1))) (.e (eB2 fPlus (.e (eB2 fMax2 (.v 0) (.v 1))) (.e (eC (.int 1)))))) (sIf (tAnd (tB2 fEq (.e (eB2 fTimes (.e (eB2 fDiv (.v 0) (.v 3))) (.v 3))) (.v 0)) (tB2 fEq (.e (eB2 fTimes (.e (eB2 fDiv (.v 1) (.v 3))) (.v 3))) (.v 1))) (sAsg (.nm 2) (eV 3)) sNx)) (sRet (eMv 2))))
def q__law_divisor : Fn := callB 4 m__law_divisor
theorem c__law_divisor (T : Tx P K mg) : Cal P w K mg base 1 "_law_divisor" 2 q__law_divisor := by
  obtain ⟨fd, F⟩ := T.fn 27 d__law_divisor rfl
  exact fn_ok (N := N__law_divisor) F sc__law_divisor (fun cdv A outer s H E hr tk => (sds_c (sd_par3 rfl sc__law_divisor.nd rfl rfl rfl (pd_abs T.B (po_v (pv 0))) (pd_abs T.B (po_v (pv 1))) pd_int) (sds_c (sd_for (passes_of rfl) rfl (id_r2 T.B (po_e pd_int) (po_e (pd_plus (po_e (pd_max2 T.B rfl (po_v (pv 0)) (po_v (pv 1)))) (po_e pd_int)))) (gd_nm sc__law_divisor.nd (.inl rfl)) (sds_1 (sd_if (pt_w (pt_and (pt_eq hr (po_e (pd_times (po_e (pd_div (po_v (pv 0)) (po_v (pv 3)))) (po_v (pv 3)))) (po_v (pv 0))) (pt_and1 (pt_eq hr (po_e (pd_times (po_e (pd_div (po_v (pv 1)) (po_v (pv 3)))) (po_v (pv 3)))) (po_v (pv 1)))))) (sds_1 (sd_set sc__law_divisor.nd (.inl rfl) (pd_v (pv 3)))) sds_nil))) (sds_1 (sd_ret (pd_mv (pv 2))))))) (T.gl 27 d__law_divisor rfl) (F.bindsN fun _ _ _ _ _ _ us hl => match us, hl with | [_, _], _ => rfl)
def m__law_below : SS := (sSeq (sAsg (.nm 1) (eB1 fNeg (.e (eC (.int 50))))) (sSeq (sFor (.nm 2) (iR2 (.e (eB1 fNeg (.e (eC (.int 50))))) (.e (eC (.int 51)))) (sAsg (.nm 1) (eIf (tB2 fLe (.e (eCall q__law_sign [(eTup [(eV 2), (eC (.int 1))]), (eV 0)])) (.e (eC (.int 0)))) (eV 2) (eV 1)))) (sRet (eMv 1))))
def q__law_below : Fn := callB 3 m__law_below
theorem c__law_below (T : Tx P K mg) : Cal P w K mg base 2 "_law_below" 1 q__law_below := by
  obtain ⟨fd, F⟩ := T.fn 28 d__law_below rfl
  exact fn_ok (N := N__law_below) F sc__law_below (fun cdv A outer s H E hr tk => (sds_c (sd_set sc__law_below.nd (.inl rfl) (pd_neg (po_e pd_int))) (sds_c (sd_for (passes_of rfl) rfl (id_r2 T.B (po_e (pd_neg (po_e pd_int))) (po_e pd_int)) (gd_nm sc__law_below.nd (.inl rfl)) (sds_1 (sd_set sc__law_below.nd (.inl rfl) (pd_if (pt_le (po_e (pd_call (c__law_sign T) (hr.mono (by decide)) tk (pa_1 (pd_tup (pa_1 (pd_v (pv 2)) (pa_1 pd_int pa_0))) (pa_1 (pd_v (pv 0)) pa_0)))) (po_e pd_int)) (pd_v (pv 2)) (pd_v (pv 1)))))) (sds_1 (sd_ret (pd_mv (pv 1))))))) (T.gl 28 d__law_below rfl) (F.bindsN fun _ _ _ _ _ _ us hl => match us, hl with | [_], _ => rfl)
def m__law_scaled : SS := (sSeq (sAsg (.tp [(.nm 2), (.nm 3)]) (eTup [(eCall q_scaled [(eB1 fTupOf (.v 1))]), (eC (.int 0))])) (sSeq (sIf (tOr (tB2 fNe (.e (eB1 fLen (.v 2))) (.e (eB1 fLen (.v 1)))) (tB2 fGt (.e (eB1 fLen (.e (eLc (.nm 5) (iR1 (.e (eB1 fLen (.v 1)))) (tOr (tB2 fNe (.e (eB2 (vB fGt) (.e (eB2 fIx (.v 2) (.v 5))) (.e (eC (.int 0))))) (.e (eB2 (vB fGt) (.e (eB2 fIx (.e (eB2 fIx (.v 1) (.v 5))) (.e (eC (.int 0))))) (.e (eC (.int 0)))))) (tB2 fNe (.e (eB2 (vB fLt) (.e (eB2 fIx (.v 2) (.v 5))) (.e (eC (.int 0))))) (.e (eB2 (vB fLt) (.e (eB2 fIx (.e (eB2 fIx (.v 1) (.v 5))) (.e (eC (.int 0))))) (.e (eC (.int 0))))))) (eV 5) [5])))) (.e (eC (.int 0))))) (sRet (eC (.bl false))) sNx) (sSeq (sFor (.nm 4) (iR1 (.e (eB1 fLen (.v 1)))) (sSeq (sAsg (.nm 3) (eCall q_divisor [(eV 3), (eB2 fIx (.v 2) (.v 4))])) (sFor (.nm 5) (iR1 (.e (eB1 fLen (.v 1)))) (sIf (tB2 fNe (.e (eCall q__law_mul [(eTup [(eB2 fIx (.v 2) (.v 4)), (eC (.int 1))]), (eB2 fIx (.v 1) (.v 5))])) (.e (eCall q__law_mul [(eTup [(eB2 fIx (.v 2) (.v 5)), (eC (.int 1))]), (eB2 fIx (.v 1) (.v 4))]))) (sRet (eC (.bl false))) sNx)))) (sSeq (sIf (tB2 fNotInF (.v 3) (.e (eTup [(eC (.int 0)), (eC (.int 1))]))) (sRet (eC (.bl false))) sNx) (sSeq (sPar [6, 7] [(eLc (.nm 8) (iSeq (eV 1)) tYes (eCall q__law_part [(eV 0)]) [8]), (eTup [(eC (.int 0)), (eC (.int 1))])]) (sSeq (sFor (.nm 5) (iR1 (.e (eB1 fLen (.v 2)))) (sAsg (.nm 7) (eCall q__law_add [(eV 7), (eCall q__law_mul [(eTup [(eB2 fIx (.v 2) (.v 5)), (eC (.int 1))]), (eB2 fIx (.v 6) (.v 5))])]))) (sRet (eB2 (vB fEq) (.e (eCall q_dot [(eV 2), (eV 6)])) (.v 7)))))))))
def q__law_scaled : Fn := callB 9 m__law_scaled
theorem c__law_scaled (T : Tx P K mg) : Cal P w K mg base 6 "_law_scaled" 2 q__law_scaled := by
  obtain ⟨fd, F⟩ := T.fn 30 d__law_scaled rfl
  exact fn_ok (N := N__law_scaled) F sc__law_scaled (fun cdv A outer s H E hr tk => (sds_c (sd_asg (pd_tup (pa_1 (pd_call (c_scaled T) (hr.mono (by decide)) tk (pa_1 (pd_tupOf T.B (po_v (pv 1))) pa_0)) (pa_1 pd_int pa_0))) (gd_tup rfl (gds_1 (gd_nm sc__law_scaled.nd (.inr rfl)) (gds_1 (gd_nm sc__law_scaled.nd (.inl rfl)) gds_0)))) (sds_c (sd_if (pt_w (pt_or (pt_ne hr (po_e (pd_len T.B (po_v (pv 2)))) (po_e (pd_len T.B (po_v (pv 1))))) (pt_or1 (pt_gt (po_e (pd_len T.B (po_e (pd_lc (own := [("k", 5)]) rfl sc__law_scaled.nd (id_r1 T.B (po_e (pd_len T.B (po_v (pv 1))))) (blkOk_by (N := N__law_scaled) (sc := defScope s__law_scaled) (by decide +kernel)) (fun _ _ _ _ _ => (gw_n sc__law_scaled.nd (.inl rfl))) (fun _ _ _ _ _ => (ts_1 (pt_w (pt_or (pt_ne hr (po_e (pd_gt (po_e (pd_ix (po_v (pv 2)) (po_v (pv 5)))) (po_e pd_int))) (po_e (pd_gt (po_e (pd_ix (po_e (pd_ix (po_v (pv 1)) (po_v (pv 5)))) (po_e pd_int))) (po_e pd_int)))) (pt_or1 (pt_ne hr (po_e (pd_lt (po_e (pd_ix (po_v (pv 2)) (po_v (pv 5)))) (po_e pd_int))) (po_e (pd_lt (po_e (pd_ix (po_e (pd_ix (po_v (pv 1)) (po_v (pv 5)))) (po_e pd_int))) (po_e pd_int))))))))) (fun _ _ _ _ _ => (pd_v (pv 5))))))) (po_e pd_int))))) (sds_1 (sd_ret pd_bl)) sds_nil) (sds_c (sd_for (passes_of rfl) rfl (id_r1 T.B (po_e (pd_len T.B (po_v (pv 1))))) (gd_nm sc__law_scaled.nd (.inl rfl)) (sds_c (sd_set sc__law_scaled.nd (.inl rfl) (pd_call (c_divisor T) (hr.mono (by decide)) tk (pa_1 (pd_v (pv 3)) (pa_1 (pd_ix (po_v (pv 2)) (po_v (pv 4))) pa_0)))) (sds_1 (sd_for (passes_of rfl) rfl (id_r1 T.B (po_e (pd_len T.B (po_v (pv 1))))) (gd_nm sc__law_scaled.nd (.inl rfl)) (sds_1 (sd_if (pt_ne hr (po_e (pd_call (c__law_mul T) (hr.mono (by decide)) tk (pa_1 (pd_tup (pa_1 (pd_ix (po_v (pv 2)) (po_v (pv 4))) (pa_1 pd_int pa_0))) (pa_1 (pd_ix (po_v (pv 1)) (po_v (pv 5))) pa_0)))) (po_e (pd_call (c__law_mul T) (hr.mono (by decide)) tk (pa_1 (pd_tup (pa_1 (pd_ix (po_v (pv 2)) (po_v (pv 5))) (pa_1 pd_int pa_0))) (pa_1 (pd_ix (po_v (pv 1)) (po_v (pv 4))) pa_0))))) (sds_1 (sd_ret pd_bl)) sds_nil)))))) (sds_c (sd_if (pt_notInF (po_v (pv 3)) (po_e (pd_tup (pa_1 pd_int (pa_1 pd_int pa_0))))) (sds_1 (sd_ret pd_bl)) sds_nil) (sds_c (sd_par rfl sc__law_scaled.nd rfl rfl (pd_lc (own := [("piece", 8)]) rfl sc__law_scaled.nd (id_seq (pd_v (pv 1))) (blkOk_by (N := N__law_scaled) (sc := defScope s__law_scaled) (by decide +kernel)) (fun _ _ _ _ _ => (gw_n sc__law_scaled.nd (.inl rfl))) (fun _ _ _ _ _ => ts_0) (fun _ _ _ _ _ => (pd_call (c__law_part T) (hr.mono (by decide)) takes0 (pa_1 (pd_v (pv 0)) pa_0)))) (pd_tup (pa_1 pd_int (pa_1 pd_int pa_0)))) (sds_c (sd_for (passes_of rfl) rfl (id_r1 T.B (po_e (pd_len T.B (po_v (pv 2))))) (gd_nm sc__law_scaled.nd (.inl rfl)) (sds_1 (sd_set sc__law_scaled.nd (.inl rfl) (pd_call (c__law_add T) (hr.mono (by decide)) tk (pa_1 (pd_v (pv 7)) (pa_1 (pd_call (c__law_mul T) (hr.mono (by decide)) tk (pa_1 (pd_tup (pa_1 (pd_ix (po_v (pv 2)) (po_v (pv 5))) (pa_1 pd_int pa_0))) (pa_1 (pd_ix (po_v (pv 6)) (po_v (pv 5))) pa_0))) pa_0)))))) (sds_1 (sd_ret (pd_eq hr (po_e (pd_call (c_dot T) (hr.mono (by decide)) tk (pa_1 (pd_v (pv 2)) (pa_1 (pd_v (pv 6)) pa_0)))) (po_v (pv 7)))))))))))) (T.gl 30 d__law_scaled rfl) (F.bindsN fun _ _ _ _ _ _ us hl => match us, hl with | [_, _], _ => rfl)
def m__law_parts : SS := (sSeq (sPar [1, 2] [(eCall q__law_part [(eV 0)]), (eCall q__law_part [(eV 0)])]) (sSeq (sAsg (.nm 3) (eLc (.nm 9) (iR1 (.e (eCall q__law_take [(eV 0), (eC (.int 5))]))) tYes (eCall q__law_part [(eV 0)]) [9])) (sSeq (sPar [4, 5] [(eB2 fSub (.e (eCall q__law_take [(eV 0), (eC (.int 60))])) (.e (eC (.int 30)))), (eB2 fSub (.e (eCall q__law_take [(eV 0), (eC (.int 60))])) (.e (eC (.int 30))))]) (sSeq (sIf (tOr (tB2 fNe (.e (eCall q_plus [(eV 1), (eV 2)])) (.e (eCall q__law_add [(eV 1), (eV 2)]))) (tOr (tB2 fNe (.e (eCall q_minus [(eV 1), (eV 2)])) (.e (eCall q__law_sub [(eV 1), (eV 2)]))) (tB2 fNe (.e (eCall q_times [(eV 1), (eV 2)])) (.e (eCall q__law_mul [(eV 1), (eV 2)]))))) (sRet (eC (.bl false))) sNx) (sSeq (sIf (tAnd (tB2 fNe (.e (eB2 fIx (.v 2) (.e (eC (.int 0))))) (.e (eC (.int 0)))) (tB2 fNe (.e (eCall q_over [(eV 1), (eV 2)])) (.e (eCall q__law_mul [(eV 1), (eCall q__law_fr [(eB2 fTimes (.e (eB2 fIx (.v 2) (.e (eC (.int 1))))) (.e (eIf (tB2 fGt (.e (eB2 fIx (.v 2) (.e (eC (.int 0))))) (.e (eC (.int 0)))) (eC (.int 1)) (eB1 fNeg (.e (eC (.int 1))))))), (eB1 fAbs (.e (eB2 fIx (.v 2) (.e (eC (.int 0))))))])])))) (sRet (eC (.bl false))) sNx) (sSeq (sIf (tOr (tB2 fNe (.e (eCall q_is_less [(eV 1), (eV 2)])) (.e (eB2 (vB fLt) (.e (eCall q__law_sign [(eV 1), (eV 2)])) (.e (eC (.int 0)))))) (tOr (tB2 fNe (.e (eCall q_divisor [(eV 4), (eV 5)])) (.e (eCall q__law_divisor [(eV 4), (eV 5)]))) (tAnd (tB2 fNe (.v 5) (.e (eC (.int 0)))) (tB2 fNe (.e (eCall q_part [(eV 4), (eV 5)])) (.e (eCall q__law_fr [(eB2 fTimes (.v 4) (.e (eIf (tB2 fGt (.v 5) (.e (eC (.int 0)))) (eC (.int 1)) (eB1 fNeg (.e (eC (.int 1))))))), (eB1 fAbs (.v 5))])))))) (sRet (eC (.bl false))) sNx) (sSeq (sAsg (.nm 6) (eTup [(eC (.int 0)), (eC (.int 1))])) (sSeq (sFor (.nm 7) (iSeq (eV 3)) (sAsg (.nm 6) (eCall q__law_add [(eV 6), (eV 7)]))) (sSeq (sIf (tOr (tB2 fNe (.e (eCall q_total [(eV 3)])) (.v 6)) (tOr (tB2 fNotB (.e (eCall q_are_parts [(eB1 fTupOf (.v 3)), (eB1 fLen (.v 3))])) (.e (eC (.bl true)))) (tOr (tB2 fNotB (.e (eCall q_are_parts [(eV 3), (eB1 fLen (.v 3))])) (.e (eC (.bl false)))) (tB2 fNotB (.e (eCall q_are_parts [(eB1 fTupOf (.v 3)), (eB2 fPlus (.e (eB1 fLen (.v 3))) (.e (eC (.int 1))))])) (.e (eC (.bl false))))))) (sRet (eC (.bl false))) sNx) (sSeq (sAsg (.nm 8) (eCall q_least_of [(eV 3)])) (sSeq (sIf (tOr (tB2 fNe (.e (eB2 (vB fIsN) (.v 8) (.e (eC .non)))) (.e (eB2 (vB fEq) (.v 3) (.e (eLst []))))) (tAnd (tB2 fNotN (.v 8) (.e (eC .non))) (tOr (tB2 fNotIn (.v 8) (.v 3)) (tB2 fGt (.e (eB1 fLen (.e (eLc (.nm 7) (iSeq (eV 3)) (tB2 fLt (.e (eCall q__law_sign [(eV 7), (eV 8)])) (.e (eC (.int 0)))) (eV 7) [7])))) (.e (eC (.int 0))))))) (sRet (eC (.bl false))) sNx) (sSeq (sIf (tOr (tB2 fNe (.e (eCall q_whole_below [(eV 1)])) (.e (eCall q__law_below [(eV 1)]))) (tOr (tB2 fNe (.e (eCall q_whole_above [(eV 1)])) (.e (eB1 fNeg (.e (eCall q__law_below [(eCall q__law_sub [(eTup [(eC (.int 0)), (eC (.int 1))]), (eV 1)])]))))) (tB2 fNe (.e (eCall q_is_whole_part [(eV 1)])) (.e (eB2 (vB fEq) (.e (eB2 fIx (.v 1) (.e (eC (.int 1))))) (.e (eC (.int 1)))))))) (sRet (eC (.bl false))) sNx) (sSeq (sIf (tB2 fNe (.e (eLc (.nm 10) (iSeq (eTup [(eV 1), (eTup [(eC (.int 2)), (eC (.int 4))]), (eTup [(eC (.int 1)), (eC (.int 0))]), (eTup [(eC (.int 1)), (eB1 fNeg (.e (eC (.int 2))))]), (eTup [(eC (.int 1)), (eC (.bl true))]), (eLst [(eC (.int 1)), (eC (.int 2))]), (eTup [(eC (.int 1))]), (eC .non), (eC (.int 3))])) tYes (eCall q_is_part [(eV 10)]) [10])) (.e (eB2 fPlus (.e (eLst [(eC (.bl true))])) (.e (eB2 fTimes (.e (eLst [(eC (.bl false))])) (.e (eC (.int 8)))))))) (sRet (eC (.bl false))) sNx) (sRet (eCall q__law_scaled [(eV 0), (eV 3)])))))))))))))))
def q__law_parts : Fn := callB 11 m__law_parts
theorem c__law_parts (T : Tx P K mg) : Cal P w K mg base 7 "_law_parts" 1 q__law_parts := by
  obtain ⟨fd, F⟩ := T.fn 29 d__law_parts rfl
  exact fn_ok (N := N__law_parts) F sc__law_parts (fun cdv A outer s H E hr tk => (sds_c (sd_par rfl sc__law_parts.nd rfl rfl (pd_call (c__law_part T) (hr.mono (by decide)) tk (pa_1 (pd_v (pv 0)) pa_0)) (pd_call (c__law_part T) (hr.mono (by decide)) tk (pa_1 (pd_v (pv 0)) pa_0))) (sds_c (sd_lc (own := [("k", 9)]) rfl sc__law_parts.nd rfl (sw_true rfl rfl rfl (by decide +kernel)) (id_r1 T.B (po_e (pd_call (c__law_take T) (hr.mono (by decide)) tk (pa_1 (pd_v (pv 0)) (pa_1 pd_int pa_0))))) (blkOk_by (N := N__law_parts) (sc := defScope s__law_parts) (by decide +kernel)) (fun _ _ _ _ _ => (gw_n sc__law_parts.nd (.inl rfl))) (fun _ _ _ _ _ => ts_0) (fun _ _ _ _ _ => (pd_call (c__law_part T) (hr.mono (by decide)) takes0 (pa_1 (pd_v (pv 0)) pa_0)))) (sds_c (sd_par rfl sc__law_parts.nd rfl rfl (pd_sub (po_e (pd_call (c__law_take T) (hr.mono (by decide)) tk (pa_1 (pd_v (pv 0)) (pa_1 pd_int pa_0)))) (po_e pd_int)) (pd_sub (po_e (pd_call (c__law_take T) (hr.mono (by decide)) tk (pa_1 (pd_v (pv 0)) (pa_1 pd_int pa_0)))) (po_e pd_int))) (sds_c (sd_if (pt_w (pt_or (pt_ne hr (po_e (pd_call (c_plus T) (hr.mono (by decide)) tk (pa_1 (pd_v (pv 1)) (pa_1 (pd_v (pv 2)) pa_0)))) (po_e (pd_call (c__law_add T) (hr.mono (by decide)) tk (pa_1 (pd_v (pv 1)) (pa_1 (pd_v (pv 2)) pa_0))))) (pt_or (pt_ne hr (po_e (pd_call (c_minus T) (hr.mono (by decide)) tk (pa_1 (pd_v (pv 1)) (pa_1 (pd_v (pv 2)) pa_0)))) (po_e (pd_call (c__law_sub T) (hr.mono (by decide)) tk (pa_1 (pd_v (pv 1)) (pa_1 (pd_v (pv 2)) pa_0))))) (pt_or1 (pt_ne hr (po_e (pd_call (c_times T) (hr.mono (by decide)) tk (pa_1 (pd_v (pv 1)) (pa_1 (pd_v (pv 2)) pa_0)))) (po_e (pd_call (c__law_mul T) (hr.mono (by decide)) tk (pa_1 (pd_v (pv 1)) (pa_1 (pd_v (pv 2)) pa_0))))))))) (sds_1 (sd_ret pd_bl)) sds_nil) (sds_c (sd_if (pt_w (pt_and (pt_ne hr (po_e (pd_ix (po_v (pv 2)) (po_e pd_int))) (po_e pd_int)) (pt_and1 (pt_ne hr (po_e (pd_call (c_over T) (hr.mono (by decide)) tk (pa_1 (pd_v (pv 1)) (pa_1 (pd_v (pv 2)) pa_0)))) (po_e (pd_call (c__law_mul T) (hr.mono (by decide)) tk (pa_1 (pd_v (pv 1)) (pa_1 (pd_call (c__law_fr T) (hr.mono (by decide)) tk (pa_1 (pd_times (po_e (pd_ix (po_v (pv 2)) (po_e pd_int))) (po_e (pd_if (pt_gt (po_e (pd_ix (po_v (pv 2)) (po_e pd_int))) (po_e pd_int)) pd_int (pd_neg (po_e pd_int))))) (pa_1 (pd_abs T.B (po_e (pd_ix (po_v (pv 2)) (po_e pd_int)))) pa_0))) pa_0)))))))) (sds_1 (sd_ret pd_bl)) sds_nil) (sds_c (sd_if (pt_w (pt_or (pt_ne hr (po_e (pd_call (c_is_less T) (hr.mono (by decide)) tk (pa_1 (pd_v (pv 1)) (pa_1 (pd_v (pv 2)) pa_0)))) (po_e (pd_lt (po_e (pd_call (c__law_sign T) (hr.mono (by decide)) tk (pa_1 (pd_v (pv 1)) (pa_1 (pd_v (pv 2)) pa_0)))) (po_e pd_int)))) (pt_or (pt_ne hr (po_e (pd_call (c_divisor T) (hr.mono (by decide)) tk (pa_1 (pd_v (pv 4)) (pa_1 (pd_v (pv 5)) pa_0)))) (po_e (pd_call (c__law_divisor T) (hr.mono (by decide)) tk (pa_1 (pd_v (pv 4)) (pa_1 (pd_v (pv 5)) pa_0))))) (pt_or1 (pt_w (pt_and (pt_ne hr (po_v (pv 5)) (po_e pd_int)) (pt_and1 (pt_ne hr (po_e (pd_call (c_part T) (hr.mono (by decide)) tk (pa_1 (pd_v (pv 4)) (pa_1 (pd_v (pv 5)) pa_0)))) (po_e (pd_call (c__law_fr T) (hr.mono (by decide)) tk (pa_1 (pd_times (po_v (pv 4)) (po_e (pd_if (pt_gt (po_v (pv 5)) (po_e pd_int)) pd_int (pd_neg (po_e pd_int))))) (pa_1 (pd_abs T.B (po_v (pv 5))) pa_0)))))))))))) (sds_1 (sd_ret pd_bl)) sds_nil) (sds_c (sd_set sc__law_parts.nd (.inl rfl) (pd_tup (pa_1 pd_int (pa_1 pd_int pa_0)))) (sds_c (sd_for (passes_of rfl) rfl (id_seq (pd_v (pv 3))) (gd_nm sc__law_parts.nd (.inl rfl)) (sds_1 (sd_set sc__law_parts.nd (.inl rfl) (pd_call (c__law_add T) (hr.mono (by decide)) tk (pa_1 (pd_v (pv 6)) (pa_1 (pd_v (pv 7)) pa_0)))))) (sds_c (sd_if (pt_w (pt_or (pt_ne hr (po_e (pd_call (c_total T) (hr.mono (by decide)) tk (pa_1 (pd_v (pv 3)) pa_0))) (po_v (pv 6))) (pt_or (pt_notB (po_e (pd_call (c_are_parts T) (hr.mono (by decide)) tk (pa_1 (pd_tupOf T.B (po_v (pv 3))) (pa_1 (pd_len T.B (po_v (pv 3))) pa_0)))) (po_e pd_bl)) (pt_or (pt_notB (po_e (pd_call (c_are_parts T) (hr.mono (by decide)) tk (pa_1 (pd_v (pv 3)) (pa_1 (pd_len T.B (po_v (pv 3))) pa_0)))) (po_e pd_bl)) (pt_or1 (pt_notB (po_e (pd_call (c_are_parts T) (hr.mono (by decide)) tk (pa_1 (pd_tupOf T.B (po_v (pv 3))) (pa_1 (pd_plus (po_e (pd_len T.B (po_v (pv 3)))) (po_e pd_int)) pa_0)))) (po_e pd_bl))))))) (sds_1 (sd_ret pd_bl)) sds_nil) (sds_c (sd_set sc__law_parts.nd (.inr rfl) (pd_call (c_least_of T) (hr.mono (by decide)) tk (pa_1 (pd_v (pv 3)) pa_0))) (sds_c (sd_if (pt_w (pt_or (pt_ne hr (po_e (pd_isN (po_v (pv 8)) (po_e pd_non))) (po_e (pd_eq hr (po_v (pv 3)) (po_e (pd_lst pa_0))))) (pt_or1 (pt_w (pt_and (pt_notN (po_v (pv 8)) (po_e pd_non)) (pt_and1 (pt_w (pt_or (pt_notIn hr (po_v (pv 8)) (po_v (pv 3))) (pt_or1 (pt_gt (po_e (pd_len T.B (po_e (pd_lc (own := [("piece", 7)]) rfl sc__law_parts.nd (id_seq (pd_v (pv 3))) (blkOk_by (N := N__law_parts) (sc := defScope s__law_parts) (by decide +kernel)) (fun _ _ _ _ _ => (gw_n sc__law_parts.nd (.inl rfl))) (fun _ _ _ _ _ => (ts_1 (pt_lt (po_e (pd_call (c__law_sign T) (hr.mono (by decide)) takes0 (pa_1 (pd_v (pv 7)) (pa_1 (pd_v (pv 8)) pa_0)))) (po_e pd_int)))) (fun _ _ _ _ _ => (pd_v (pv 7))))))) (po_e pd_int))))))))))) (sds_1 (sd_ret pd_bl)) sds_nil) (sds_c (sd_if (pt_w (pt_or (pt_ne hr (po_e (pd_call (c_whole_below T) (hr.mono (by decide)) tk (pa_1 (pd_v (pv 1)) pa_0))) (po_e (pd_call (c__law_below T) (hr.mono (by decide)) tk (pa_1 (pd_v (pv 1)) pa_0)))) (pt_or (pt_ne hr (po_e (pd_call (c_whole_above T) (hr.mono (by decide)) tk (pa_1 (pd_v (pv 1)) pa_0))) (po_e (pd_neg (po_e (pd_call (c__law_below T) (hr.mono (by decide)) tk (pa_1 (pd_call (c__law_sub T) (hr.mono (by decide)) tk (pa_1 (pd_tup (pa_1 pd_int (pa_1 pd_int pa_0))) (pa_1 (pd_v (pv 1)) pa_0))) pa_0)))))) (pt_or1 (pt_ne hr (po_e (pd_call (c_is_whole_part T) (hr.mono (by decide)) tk (pa_1 (pd_v (pv 1)) pa_0))) (po_e (pd_eq hr (po_e (pd_ix (po_v (pv 1)) (po_e pd_int))) (po_e pd_int)))))))) (sds_1 (sd_ret pd_bl)) sds_nil) (sds_c (sd_if (pt_ne hr (po_e (pd_lc (own := [("value", 10)]) rfl sc__law_parts.nd (id_seq (pd_tup (pa_1 (pd_v (pv 1)) (pa_1 (pd_tup (pa_1 pd_int (pa_1 pd_int pa_0))) (pa_1 (pd_tup (pa_1 pd_int (pa_1 pd_int pa_0))) (pa_1 (pd_tup (pa_1 pd_int (pa_1 (pd_neg (po_e pd_int)) pa_0))) (pa_1 (pd_tup (pa_1 pd_int (pa_1 pd_bl pa_0))) (pa_1 (pd_lst (pa_1 pd_int (pa_1 pd_int pa_0))) (pa_1 (pd_tup (pa_1 pd_int pa_0)) (pa_1 pd_non (pa_1 pd_int pa_0))))))))))) (blkOk_by (N := N__law_parts) (sc := defScope s__law_parts) (by decide +kernel)) (fun _ _ _ _ _ => (gw_n sc__law_parts.nd (.inl rfl))) (fun _ _ _ _ _ => ts_0) (fun _ _ _ _ _ => (pd_call (c_is_part T) (hr.mono (by decide)) takes0 (pa_1 (pd_v (pv 10)) pa_0))))) (po_e (pd_plus (po_e (pd_lst (pa_1 pd_bl pa_0))) (po_e (pd_times (po_e (pd_lst (pa_1 pd_bl pa_0))) (po_e pd_int)))))) (sds_1 (sd_ret pd_bl)) sds_nil) (sds_1 (sd_ret (pd_call (c__law_scaled T) (hr.mono (by decide)) tk (pa_1 (pd_v (pv 0)) (pa_1 (pd_v (pv 3)) pa_0))))))))))))))))))) (T.gl 29 d__law_parts rfl) (F.bindsN fun _ _ _ _ _ _ us hl => match us, hl with | [_], _ => rfl)
def m_law : SS := (sSeq (sAsg (.nm 1) (eCall q__law_state [(eV 0)])) (sSeq (sFor (.nm 2) (iR1 (.e (eC (.int 6)))) (sIf (tNot (tVal (eCall q__law_parts [(eV 1)]))) (sRet (eC (.bl false))) sNx)) (sSeq (sAsg (.nm 3) (eLst [(eMk "Unfit" ["line", "place", "word"] [(eC (.int 3)), (eC (.int 7)), (eC (.str ("w" : PySem.Str)))]), (eMk "Great" ["limit"] [(eC (.str ("g" : PySem.Str)))]), (eMk "Misstep" ["word"] [(eC (.str ("m" : PySem.Str)))])])) (sSeq (sIf (tOr (tB2 fGt (.e (eB1 fLen (.e (eLc (.nm 4) (iSeq (eV 3)) (tOr (tNot (tVal (eB1 (fIsX [("Unfit", true), ("Great", true), ("Misstep", true)]) (.v 4)))) (tNot (tVal (eB1 (fIsX [("Unfit", true), ("Great", true), ("Misstep", true)]) (.v 4))))) (eV 4) [4])))) (.e (eC (.int 0)))) (tOr (tVal (eB1 (fIsX [("Unfit", false), ("Great", false), ("Misstep", true)]) (.e (eB2 fIx (.v 3) (.e (eC (.int 1))))))) (tVal (eB1 (fIsX [("Unfit", false), ("Great", true), ("Misstep", false)]) (.e (eB2 fIx (.v 3) (.e (eC (.int 2))))))))) (sRet (eC (.bl false))) sNx) (sRet (eB2 (vB fEq) (.e (eTup [(eB1 (fAttr ["Unfit"] "line") (.e (eB2 fIx (.v 3) (.e (eC (.int 0)))))), (eB1 (fAttr ["Unfit"] "place") (.e (eB2 fIx (.v 3) (.e (eC (.int 0)))))), (eB1 (fAttr ["Unfit", "Misstep"] "word") (.e (eB2 fIx (.v 3) (.e (eC (.int 0)))))), (eB1 (fAttr ["Great"] "limit") (.e (eB2 fIx (.v 3) (.e (eC (.int 1)))))), (eB1 (fAttr ["Unfit", "Misstep"] "word") (.e (eB2 fIx (.v 3) (.e (eC (.int 2))))))])) (.e (eTup [(eC (.int 3)), (eC (.int 7)), (eC (.str ("w" : PySem.Str))), (eC (.str ("g" : PySem.Str))), (eC (.str ("m" : PySem.Str)))]))))))))
def q_law : Fn := callB 5 m_law
theorem f_law (T : Tx P K mg) {fd : FuncData} (F : FunD K d_law.name d_law.qual d_law.params d_law.body d_law.scope (d_law.dvs K) (d_law.kws K) (He.fAd K d_law.at_) fd) : FnOk P w K mg base (L2.CX P w) 8 (He.ga K "law") fd ["script"] (spZ K 1 q_law) :=
  fn_ok0 (N := N_law) F sc_law (fun cdv A outer s H E hr tk => (sds_c (sd_set sc_law.nd (.inl rfl) (pd_call (c__law_state T) (hr.mono (by decide)) tk (pa_1 (pd_v (pv 0)) pa_0))) (sds_c (sd_for (passes_of rfl) rfl (id_r1 T.B (po_e pd_int)) (gd_nm sc_law.nd (.inl rfl)) (sds_1 (sd_if (Zn.pt_not (pt_vl (pd_call (c__law_parts T) (hr.mono (by decide)) tk (pa_1 (pd_v (pv 1)) pa_0)))) (sds_1 (sd_ret pd_bl)) sds_nil))) (sds_c (sd_set sc_law.nd (.inl rfl) (pd_lst (pa_1 (pd_mk (i_Unfit T) (hr.mono (by decide)) tk (pa_1 pd_int (pa_1 pd_int (pa_1 pd_str pa_0)))) (pa_1 (pd_mk (i_Great T) (hr.mono (by decide)) tk (pa_1 pd_str pa_0)) (pa_1 (pd_mk (i_Misstep T) (hr.mono (by decide)) tk (pa_1 pd_str pa_0)) pa_0))))) (sds_c (sd_if (pt_w (pt_or (pt_gt (po_e (pd_len T.B (po_e (pd_lc (own := [("one", 4)]) rfl sc_law.nd (id_seq (pd_v (pv 3))) (blkOk_by (N := N_law) (sc := defScope s_law) (by decide +kernel)) (fun _ _ _ _ _ => (gw_n sc_law.nd (.inl rfl))) (fun _ _ _ _ _ => (ts_1 (pt_w (pt_or (Zn.pt_not (pt_vl (pd_isx [("Unfit", true), ("Great", true), ("Misstep", true)] T.B (pe_glob (v := .ref _) rfl (T.cl 0 _ rfl) rfl) (fun _ h => h) (all1 ⟨x_Unfit T, of_decide_eq_true (T.x 2 _ rfl)⟩ (all1 ⟨x_Great T, of_decide_eq_true (T.x 1 _ rfl)⟩ (all1 ⟨x_Misstep T, of_decide_eq_true (T.x 0 _ rfl)⟩ all0))) (po_v (pv 4))))) (pt_or1 (Zn.pt_not (pt_vl (pd_isx [("Unfit", true), ("Great", true), ("Misstep", true)] T.B (pe_bltn (v := .ty "ValueError") rfl T.ve (by decide +kernel) rfl) (fun _ h => h) (all1 ⟨x_Unfit T, of_decide_eq_true (T.x 5 _ rfl)⟩ (all1 ⟨x_Great T, of_decide_eq_true (T.x 4 _ rfl)⟩ (all1 ⟨x_Misstep T, of_decide_eq_true (T.x 3 _ rfl)⟩ all0))) (po_v (pv 4)))))))))) (fun _ _ _ _ _ => (pd_v (pv 4))))))) (po_e pd_int)) (pt_or (pt_vl (pd_isx [("Unfit", false), ("Great", false), ("Misstep", true)] T.B (pe_glob (v := .ref _) rfl (T.cl 3 _ rfl) rfl) (fun _ h => h) (all1 ⟨x_Unfit T, of_decide_eq_true (T.x 8 _ rfl)⟩ (all1 ⟨x_Great T, of_decide_eq_true (T.x 7 _ rfl)⟩ (all1 ⟨x_Misstep T, of_decide_eq_true (T.x 6 _ rfl)⟩ all0))) (po_e (pd_ix (po_v (pv 3)) (po_e pd_int))))) (pt_or1 (pt_vl (pd_isx [("Unfit", false), ("Great", true), ("Misstep", false)] T.B (pe_glob (v := .ref _) rfl (T.cl 2 _ rfl) rfl) (fun _ h => h) (all1 ⟨x_Unfit T, of_decide_eq_true (T.x 11 _ rfl)⟩ (all1 ⟨x_Great T, of_decide_eq_true (T.x 10 _ rfl)⟩ (all1 ⟨x_Misstep T, of_decide_eq_true (T.x 9 _ rfl)⟩ all0))) (po_e (pd_ix (po_v (pv 3)) (po_e pd_int))))))))) (sds_1 (sd_ret pd_bl)) sds_nil) (sds_1 (sd_ret (pd_eq hr (po_e (pd_tup (pa_1 (pd_xat ["Unfit"] (all1 ⟨x_Unfit T, eqO_ok (T.x 12 _ rfl)⟩ all0) (po_e (pd_ix (po_v (pv 3)) (po_e pd_int)))) (pa_1 (pd_xat ["Unfit"] (all1 ⟨x_Unfit T, eqO_ok (T.x 13 _ rfl)⟩ all0) (po_e (pd_ix (po_v (pv 3)) (po_e pd_int)))) (pa_1 (pd_xat ["Unfit", "Misstep"] (all1 ⟨x_Unfit T, eqO_ok (T.x 15 _ rfl)⟩ (all1 ⟨x_Misstep T, eqO_ok (T.x 14 _ rfl)⟩ all0)) (po_e (pd_ix (po_v (pv 3)) (po_e pd_int)))) (pa_1 (pd_xat ["Great"] (all1 ⟨x_Great T, eqO_ok (T.x 16 _ rfl)⟩ all0) (po_e (pd_ix (po_v (pv 3)) (po_e pd_int)))) (pa_1 (pd_xat ["Unfit", "Misstep"] (all1 ⟨x_Unfit T, eqO_ok (T.x 15 _ rfl)⟩ (all1 ⟨x_Misstep T, eqO_ok (T.x 14 _ rfl)⟩ all0)) (po_e (pd_ix (po_v (pv 3)) (po_e pd_int)))) pa_0))))))) (po_e (pd_tup (pa_1 pd_int (pa_1 pd_int (pa_1 pd_str (pa_1 pd_str (pa_1 pd_str pa_0)))))))))))))))
end
end Zk

/-! ZEv: how the functions over data are reckoned: loops, equality of data. -/
namespace Zn
open PySem
/-! ### while -/
theorem whF_mono {c : T} {b : SS} : ∀ {n : Nat} {z : Zs} {o : O Fl Zs}, whF c b n z = some o → ∀ m, n ≤ m → whF c b m z = some o
  | 0, _, _, h, _, _ => by cases h
  | n + 1, z, o, h, m, hm => by
    cases m with
    | zero => omega
    | succ m =>
      unfold whF at h ⊢
      cases hc : c z with
      | stk => rw [hc] at h; exact h
      | exc e z1 => rw [hc] at h; exact h
      | ok k z1 =>
        rw [hc] at h
        cases k with
        | false => exact h
        | true =>
          dsimp only at h ⊢
          cases hb : b z1 with
          | stk => rw [hb] at h; exact h
          | exc e z2 => rw [hb] at h; exact h
          | ok f z2 =>
            rw [hb] at h
            cases f with
            | nx => exact whF_mono h m (by omega)
            | ct => exact whF_mono h m (by omega)
            | bk => exact h
            | rt s => exact h
theorem wh_of {c : T} {b : SS} {n : Nat} {z : Zs} {o : O Fl Zs} (h : whF c b n z = some o) : sWh c b z = o := by
  unfold sWh
  have ex : ∃ n o, whF c b n z = some o := ⟨n, o, h⟩
  rw [dif_pos ex]
  have h2 := ex.choose_spec.choose_spec
  have h3 := whF_mono h (max n ex.choose) (Nat.le_max_left _ _)
  have h4 := whF_mono h2 (max n ex.choose) (Nat.le_max_right _ _)
  exact Option.some.inj (h4.symm.trans h3)
theorem whF_end {c : T} {b : SS} {z z1 : Zs} (h : c z = .ok false z1) : whF c b 1 z = some (.ok .nx z1) := by
  unfold whF; rw [h]
theorem whF_go {c : T} {b : SS} {n : Nat} {z z1 z2 : Zs} {o : O Fl Zs} (h : c z = .ok true z1) (hb : b z1 = .ok .nx z2) (r : whF c b n z2 = some o) : whF c b (n + 1) z = some o := by
  unfold whF; rw [h]; dsimp only; rw [hb]; exact r
/-! ### equality -/
def Sh : Nat → D → Prop
  | _, .non => True
  | _, .bl _ => True
  | _, .int _ => True
  | _, .str s => PyData.strOk s = true
  | n + 1, .tup l => ∀ d ∈ l, Sh n d
  | n + 1, .lst l => ∀ d ∈ l, Sh n d
  | _, _ => False
theorem toPys_map : ∀ l : List D, toPys l = l.map toPy
  | [] => rfl
  | d :: l => congrArg (toPy d :: ·) (toPys_map l)
theorem sh_list {n : Nat} (ih : ∀ d, Sh n d → (toPy d).canLay0 = true ∧ (toPy d).depth ≤ n ∧ PyData.eqv (toPy d) (toPy d) = true) : ∀ l : List D, (∀ d ∈ l, Sh n d) → PyData.canLayAll0 (toPys l) = true ∧ PyData.depthAll (toPys l) ≤ n ∧ PyData.eqvAll (toPys l) (toPys l) = true
  | [], _ => ⟨rfl, Nat.zero_le _, rfl⟩
  | d :: l, h => by
    obtain ⟨a1, a2, a3⟩ := ih d (h d List.mem_cons_self)
    obtain ⟨b1, b2, b3⟩ := sh_list ih l fun x hx => h x (List.mem_cons_of_mem _ hx)
    refine ⟨?_, ?_, ?_⟩
    · show ((toPy d).canLay0 && PyData.canLayAll0 (toPys l)) = true
      rw [a1, b1]; rfl
    · show max (toPy d).depth (PyData.depthAll (toPys l)) ≤ n
      omega
    · show (PyData.eqv (toPy d) (toPy d) && PyData.eqvAll (toPys l) (toPys l)) = true
      rw [a3, b3]; rfl
theorem sh_ok : ∀ {n : Nat} {d : D}, Sh n d → (toPy d).canLay0 = true ∧ (toPy d).depth ≤ n ∧ PyData.eqv (toPy d) (toPy d) = true
  | n, .non, _ => ⟨rfl, Nat.zero_le _, rfl⟩
  | n, .bl b, _ => ⟨rfl, Nat.zero_le _, by simp [toPy, PyData.eqv]⟩
  | n, .int b, _ => ⟨rfl, Nat.zero_le _, by simp [toPy, PyData.eqv]⟩
  | n, .str s, h => ⟨by simpa [Sh, toPy, PyData.canLay0] using h, Nat.zero_le _, by simp [toPy, PyData.eqv]⟩
  | n + 1, .tup l, h => by
    obtain ⟨a, b, c⟩ := sh_list (fun d hd => sh_ok (n := n) hd) l h
    exact ⟨a, Nat.succ_le_succ b, c⟩
  | n + 1, .lst l, h => by
    obtain ⟨a, b, c⟩ := sh_list (fun d hd => sh_ok (n := n) hd) l h
    exact ⟨a, Nat.succ_le_succ b, c⟩
  | 0, .tup l, h => by simp [Sh] at h
  | 0, .lst l, h => by simp [Sh] at h
  | n, .st, h => by cases n <;> simp [Sh] at h
  | n, .scr _, h => by cases n <;> simp [Sh] at h
  | n, .ex _ _ _, h => by cases n <;> simp [Sh] at h
theorem sh_shaped {n : Nat} {d : D} (h : Sh n d) (hn : n ≤ 64) : SeqAt.shaped (toPy d) = true := by
  obtain ⟨a, b, _⟩ := sh_ok h
  unfold SeqAt.shaped
  rw [a, decide_eq_true (Nat.le_trans b hn)]; rfl
theorem eqD_of {n m : Nat} {c d : D} (hc : Sh n c) (hd : Sh m d) (hn : n ≤ 64 := by decide) (hm : m ≤ 64 := by decide) : eqD c d = some (PyData.eqv (toPy c) (toPy d)) := by
  unfold eqD
  rw [sh_shaped hc hn, sh_shaped hd hm]; rfl
theorem eqD_refl {n : Nat} {d : D} (h : Sh n d) (hn : n ≤ 64 := by decide) : eqD d d = some true := by
  rw [eqD_of h h hn hn, (sh_ok h).2.2]
theorem eqD_int (a b : Int) : eqD (.int a) (.int b) = some (decide (a = b)) := by
  rw [eqD_of (n := 0) (m := 0) (by simp [Sh]) (by simp [Sh])]
  rfl
theorem eqD_bl (a b : Bool) : eqD (.bl a) (.bl b) = some (decide (a = b)) := by
  rw [eqD_of (n := 0) (m := 0) (by simp [Sh]) (by simp [Sh])]
  cases a <;> cases b <;> rfl
/-! ### a part -/
def P (n d : Int) : D := .tup [.int n, .int d]
theorem sh_P {k : Nat} (n d : Int) : Sh (k + 1) (P n d) := by
  unfold P Sh
  intro x hx
  simp at hx
  rcases hx with rfl | rfl <;> cases k <;> simp [Sh]
end Zn

noncomputable section
namespace Zc
open PySem Zn
def m_divisor : SS := (sSeq (sPar [0, 1] [(eB1 fAbs (.v 0)), (eB1 fAbs (.v 1))]) (sSeq (sWh (tB2 fNe (.v 1) (.e (eC (.int 0)))) (sPar [0, 1] [(eV 1), (eB2 fMod (.v 0) (.v 1))])) (sRet (eMv 0))))
def q_divisor : Fn := callB 2 m_divisor
def m_part : SS := (sSeq (sIf (tB2 fLt (.v 1) (.e (eC (.int 0)))) (sPar [0, 1] [(eB2 fSub (.e (eC (.int 0))) (.v 0)), (eB2 fSub (.e (eC (.int 0))) (.v 1))]) sNx) (sSeq (sAsg (.nm 2) (eCall q_divisor [(eV 0), (eV 1)])) (sRet (eTup [(eB2 fDiv (.v 0) (.v 2)), (eB2 fDiv (.v 1) (.v 2))]))))
def q_part : Fn := callB 3 m_part
def m_is_part : SS := (sSeq (sIf (tOr (tNot (tVal (eB1 (fIsi "tuple") (.v 0)))) (tB2 fNe (.e (eB1 fLen (.v 0))) (.e (eC (.int 2))))) (sRet (eC (.bl false))) sNx) (sSeq (sIf (tNot (tVal (eB1 fAll (.e (eLc (.nm 1) (iSeq (eV 0)) tYes (eAnd (eB1 (fIsi "int") (.v 1)) (eNot (eB1 (fIsi "bool") (.v 1)))) [1]))))) (sRet (eC (.bl false))) sNx) (sRet (eAnd (eB2 (vB fGe) (.e (eB2 fIx (.v 0) (.e (eC (.int 1))))) (.e (eC (.int 1)))) (eB2 (vB fEq) (.e (eCall q_divisor [(eB2 fIx (.v 0) (.e (eC (.int 0)))), (eB2 fIx (.v 0) (.e (eC (.int 1))))])) (.e (eC (.int 1))))))))
def q_is_part : Fn := callB 2 m_is_part
def m_plus : SS := (sRet (eCall q_part [(eB2 fPlus (.e (eB2 fTimes (.e (eB2 fIx (.v 0) (.e (eC (.int 0))))) (.e (eB2 fIx (.v 1) (.e (eC (.int 1))))))) (.e (eB2 fTimes (.e (eB2 fIx (.v 1) (.e (eC (.int 0))))) (.e (eB2 fIx (.v 0) (.e (eC (.int 1)))))))), (eB2 fTimes (.e (eB2 fIx (.v 0) (.e (eC (.int 1))))) (.e (eB2 fIx (.v 1) (.e (eC (.int 1))))))]))
def q_plus : Fn := callB 2 m_plus
def m_minus : SS := (sRet (eCall q_part [(eB2 fSub (.e (eB2 fTimes (.e (eB2 fIx (.v 0) (.e (eC (.int 0))))) (.e (eB2 fIx (.v 1) (.e (eC (.int 1))))))) (.e (eB2 fTimes (.e (eB2 fIx (.v 1) (.e (eC (.int 0))))) (.e (eB2 fIx (.v 0) (.e (eC (.int 1)))))))), (eB2 fTimes (.e (eB2 fIx (.v 0) (.e (eC (.int 1))))) (.e (eB2 fIx (.v 1) (.e (eC (.int 1))))))]))
def q_minus : Fn := callB 2 m_minus
def m_times : SS := (sRet (eCall q_part [(eB2 fTimes (.e (eB2 fIx (.v 0) (.e (eC (.int 0))))) (.e (eB2 fIx (.v 1) (.e (eC (.int 0)))))), (eB2 fTimes (.e (eB2 fIx (.v 0) (.e (eC (.int 1))))) (.e (eB2 fIx (.v 1) (.e (eC (.int 1))))))]))
def q_times : Fn := callB 2 m_times
def m_over : SS := (sRet (eCall q_part [(eB2 fTimes (.e (eB2 fIx (.v 0) (.e (eC (.int 0))))) (.e (eB2 fIx (.v 1) (.e (eC (.int 1)))))), (eB2 fTimes (.e (eB2 fIx (.v 0) (.e (eC (.int 1))))) (.e (eB2 fIx (.v 1) (.e (eC (.int 0))))))]))
def q_over : Fn := callB 2 m_over
def m_is_less : SS := (sRet (eB2 (vB fLt) (.e (eB2 fTimes (.e (eB2 fIx (.v 0) (.e (eC (.int 0))))) (.e (eB2 fIx (.v 1) (.e (eC (.int 1))))))) (.e (eB2 fTimes (.e (eB2 fIx (.v 1) (.e (eC (.int 0))))) (.e (eB2 fIx (.v 0) (.e (eC (.int 1)))))))))
def q_is_less : Fn := callB 2 m_is_less
def m_total : SS := (sSeq (sAsg (.nm 1) (eTup [(eC (.int 0)), (eC (.int 1))])) (sSeq (sFor (.nm 2) (iSeq (eV 0)) (sAsg (.nm 1) (eCall q_plus [(eV 1), (eV 2)]))) (sRet (eMv 1))))
def q_total : Fn := callB 3 m_total
def m_least_of : SS := (sSeq (sAsg (.nm 1) (eC .non)) (sSeq (sFor (.nm 2) (iSeq (eV 0)) (sIf (tOr (tB2 fIsN (.v 1) (.e (eC .non))) (tVal (eCall q_is_less [(eV 2), (eV 1)]))) (sAsg (.nm 1) (eV 2)) sNx)) (sRet (eMv 1))))
def q_least_of : Fn := callB 3 m_least_of
def m_whole_below : SS := (sRet (eB2 fDiv (.e (eB2 fIx (.v 0) (.e (eC (.int 0))))) (.e (eB2 fIx (.v 0) (.e (eC (.int 1)))))))
def q_whole_below : Fn := callB 1 m_whole_below
def m_whole_above : SS := (sRet (eB2 fSub (.e (eC (.int 0))) (.e (eB2 fDiv (.e (eB2 fSub (.e (eC (.int 0))) (.e (eB2 fIx (.v 0) (.e (eC (.int 0))))))) (.e (eB2 fIx (.v 0) (.e (eC (.int 1)))))))))
def q_whole_above : Fn := callB 1 m_whole_above
def m_is_whole_part : SS := (sRet (eB2 (vB fEq) (.e (eB2 fIx (.v 0) (.e (eC (.int 1))))) (.e (eC (.int 1)))))
def q_is_whole_part : Fn := callB 1 m_is_whole_part
def m_are_parts : SS := (sRet (eAnd (eB1 (fIsi "tuple") (.v 0)) (eAnd (eB2 (vB fEq) (.e (eB1 fLen (.v 0))) (.v 1)) (eB1 fAll (.e (eLc (.nm 2) (iSeq (eV 0)) tYes (eCall q_is_part [(eV 2)]) [2]))))))
def q_are_parts : Fn := callB 3 m_are_parts
def m_scaled : SS := (sSeq (sAsg (.nm 1) (eC (.int 1))) (sSeq (sFor (.nm 2) (iSeq (eV 0)) (sAsg (.nm 1) (eB2 fDiv (.e (eB2 fTimes (.v 1) (.e (eB2 fIx (.v 2) (.e (eC (.int 1))))))) (.e (eCall q_divisor [(eV 1), (eB2 fIx (.v 2) (.e (eC (.int 1))))]))))) (sSeq (sAsg (.nm 3) (eLc (.nm 2) (iSeq (eV 0)) tYes (eB2 fTimes (.e (eB2 fIx (.v 2) (.e (eC (.int 0))))) (.e (eB2 fDiv (.v 1) (.e (eB2 fIx (.v 2) (.e (eC (.int 1)))))))) [2])) (sSeq (sAsg (.nm 4) (eC (.int 0))) (sSeq (sFor (.nm 5) (iSeq (eV 3)) (sAsg (.nm 4) (eCall q_divisor [(eV 4), (eV 5)]))) (sRet (eIf (tB2 fEq (.v 4) (.e (eC (.int 0)))) (eB1 fTupOf (.v 3)) (eB1 fTupOf (.e (eLc (.nm 5) (iSeq (eV 3)) tYes (eB2 fDiv (.v 5) (.v 4)) [5]))))))))))
def q_scaled : Fn := callB 6 m_scaled
def m_dot : SS := (sRet (eCall q_total [(eLc (.nm 2) (iR1 (.e (eB1 fLen (.v 0)))) tYes (eCall q_times [(eB2 fIx (.v 1) (.v 2)), (eTup [(eB2 fIx (.v 0) (.v 2)), (eC (.int 1))])]) [2])]))
def q_dot : Fn := callB 3 m_dot
abbrev q__law_state : Fn := qState
abbrev q__law_take : Fn := qTake
def m__law_fr : SS := (sSeq (sIf (tB2 fLt (.v 1) (.e (eC (.int 0)))) (sPar [0, 1] [(eB2 fSub (.e (eC (.int 0))) (.v 0)), (eB2 fSub (.e (eC (.int 0))) (.v 1))]) sNx) (sSeq (sPar [2, 3] [(eB1 fAbs (.v 0)), (eV 1)]) (sSeq (sFor (.nm 4) (iR1 (.e (eC (.int 4000)))) (sSeq (sIf (tB2 fEq (.v 3) (.e (eC (.int 0)))) sBk sNx) (sPar [2, 3] [(eV 3), (eB2 fMod (.e (eB1 fIntOf (.v 2))) (.v 3))]))) (sRet (eTup [(eB2 fDiv (.v 0) (.v 2)), (eB2 fDiv (.v 1) (.v 2))])))))
def q__law_fr : Fn := callB 5 m__law_fr
def m__law_add : SS := (sRet (eCall q__law_fr [(eB2 fPlus (.e (eB2 fTimes (.e (eB2 fIx (.v 0) (.e (eC (.int 0))))) (.e (eB2 fIx (.v 1) (.e (eC (.int 1))))))) (.e (eB2 fTimes (.e (eB2 fIx (.v 1) (.e (eC (.int 0))))) (.e (eB2 fIx (.v 0) (.e (eC (.int 1)))))))), (eB2 fTimes (.e (eB2 fIx (.v 0) (.e (eC (.int 1))))) (.e (eB2 fIx (.v 1) (.e (eC (.int 1))))))]))
def q__law_add : Fn := callB 2 m__law_add
def m__law_mul : SS := (sRet (eCall q__law_fr [(eB2 fTimes (.e (eB2 fIx (.v 0) (.e (eC (.int 0))))) (.e (eB2 fIx (.v 1) (.e (eC (.int 0)))))), (eB2 fTimes (.e (eB2 fIx (.v 0) (.e (eC (.int 1))))) (.e (eB2 fIx (.v 1) (.e (eC (.int 1))))))]))
def q__law_mul : Fn := callB 2 m__law_mul
def m__law_sub : SS := (sRet (eCall q__law_add [(eV 0), (eTup [(eB2 fSub (.e (eC (.int 0))) (.e (eB2 fIx (.v 1) (.e (eC (.int 0)))))), (eB2 fIx (.v 1) (.e (eC (.int 1))))])]))
def q__law_sub : Fn := callB 2 m__law_sub
def m__law_sign : SS := (sSeq (sAsg (.nm 2) (eB2 fSub (.e (eB2 fTimes (.e (eB2 fIx (.v 0) (.e (eC (.int 0))))) (.e (eB2 fIx (.v 1) (.e (eC (.int 1))))))) (.e (eB2 fTimes (.e (eB2 fIx (.v 1) (.e (eC (.int 0))))) (.e (eB2 fIx (.v 0) (.e (eC (.int 1))))))))) (sRet (eIf (tB2 fEq (.v 2) (.e (eC (.int 0)))) (eC (.int 0)) (eIf (tB2 fGt (.v 2) (.e (eC (.int 0)))) (eC (.int 1)) (eB1 fNeg (.e (eC (.int 1))))))))
def q__law_sign : Fn := callB 3 m__law_sign
def m__law_part : SS := (sRet (eCall q__law_fr [(eB2 fSub (.e (eCall q__law_take [(eV 0), (eC (.int 41))])) (.e (eC (.int 20)))), (eB2 fPlus (.e (eC (.int 1))) (.e (eCall q__law_take [(eV 0), (eC (.int 12))])))]))
def q__law_part : Fn := callB 1 m__law_part
def m__law_divisor : SS := (sSeq (sPar [0, 1, 2] [(eB1 fAbs (.v 0)), (eB1 fAbs (.v 1)), (eC (.int 0))]) (sSeq (sFor (.nm 3) (iR2 (.e (eC (.int 1))) (.e (eB2 fPlus (.e (eB2 fMax2 (.v 0) (.v 1))) (.e (eC (.int 1)))))) (sIf (tAnd (tB2 fEq (.e (eB2 fTimes (.e (eB2 fDiv (.v 0) (.v 3))) (.v 3))) (.v 0)) (tB2 fEq (.e (eB2 fTimes (.e (eB2 fDiv (.v 1) (.v 3))) (.v 3))) (.v 1))) (sAsg (.nm 2) (eV 3)) sNx)) (sRet (eMv 2))))
def q__law_divisor : Fn := callB 4 m__law_divisor
end Zc
end

/-! ZGcd: the functions of parts, their copies in a law: what they come to. -/
namespace Zc
open PySem Zn
theorem gcd_step (a b : Int) : Int.gcd b (a % b) = Int.gcd a b := by
  rw [Int.emod_def, Int.gcd_sub_mul_left_right, Int.gcd_comm]
abbrev fi (n : Int) : Option S := some (.frz (.int n))
theorem div_loop (g : G) : ∀ (k : Nat) (a b : Int), 0 ≤ a → 0 ≤ b → b.toNat < k → ∃ n, whF (tB2 fNe (.v 1) (.e (eC (.int 0)))) (sPar [0, 1] [(eV 1), (eB2 fMod (.v 0) (.v 1))]) n ⟨[fi a, fi b], g⟩ = some (.ok .nx ⟨[fi (Int.gcd a b), fi 0], g⟩)
  | 0, a, b, _, _, h => by omega
  | k + 1, a, b, ha, hb, h => by
    by_cases h0 : b = 0
    · subst h0
      refine ⟨1, ?_⟩
      rw [whF_end (z1 := ⟨[fi a, fi 0], g⟩)]
      · simp; omega
      · simp [tB2, evO, Zs.at, Zs.res, O.bind, eC, S.d, finB, fNe, eqD_int]
    · obtain ⟨n, hn⟩ := div_loop g k b (a % b) hb (Int.emod_nonneg a h0) (by have := Int.emod_lt_of_pos a (show 0 < b by omega); omega)
      refine ⟨n + 1, ?_⟩
      rw [gcd_step] at hn
      refine whF_go (z1 := ⟨[fi a, fi b], g⟩) (z2 := ⟨[fi b, fi (a % b)], g⟩) ?_ ?_ hn
      · simp [tB2, evO, Zs.at, Zs.res, O.bind, eC, S.d, finB, fNe, eqD_int, h0]
      · simp [sPar, argsS, eV, eB2, evO, Zs.at, Zs.res, O.bind, S.d, fin, fMod, puts, Zs.put, show 0 < b by omega]
theorem divisor_spec (a b : Int) (g : G) : q_divisor [.int a, .int b] g = .ok (.frz (.int (Int.gcd a b))) g := by
  obtain ⟨n, hn⟩ := div_loop g _ (a.natAbs) (b.natAbs) (by omega) (by omega) (Nat.lt_succ_self _)
  have h1 := wh_of hn
  have ea : ∀ x : Int, (if x < 0 then -x else x) = (x.natAbs : Int) := fun x => by split <;> omega
  simp [q_divisor, callB, m_divisor, sSeq, sPar, argsS, eB1, evO, Zs.at, Zs.res, O.bind, S.d, fin, fAbs, puts, Zs.put, ea]
  rw [h1]
  simp [sRet, eMv, O.bind]
  rfl
/-! ### normal form -/
def nrm (a b : Int) : D := if b < 0 then P ((0 - a) / Int.gcd a b) ((0 - b) / Int.gcd a b) else P (a / Int.gcd a b) (b / Int.gcd a b)
theorem log2_lt {n k : Nat} (h : n < 2 ^ k) (hk : 0 < k) : n.log2 < k := by
  by_cases h0 : n = 0
  · subst h0; simpa using hk
  · exact (Nat.log2_lt h0).mpr h
theorem gcd_pos {a b : Int} (hb : b ≠ 0) : (0 : Int) < Int.gcd a b := by
  have := Int.gcd_pos_of_ne_zero_right a hb
  omega
theorem gcd_bd {a b : Int} {k : Nat} (hb : b ≠ 0) (h : b.natAbs < 2 ^ k) : Int.gcd a b < 2 ^ k := Nat.lt_of_le_of_lt (Int.gcd_le_natAbs_right a hb) h
theorem fDiv_of {a j : Int} {k : Nat} (h0 : 0 < j) (h : j.natAbs < 2 ^ k) (hk : k ≤ 9000) (hp : 0 < k) : fDiv (.int a) (.int j) = some (.frz (.int (a / j))) := by
  unfold fDiv
  have h2 := log2_lt h hp
  simp [h0, show j.natAbs.log2 < 9000 by omega]
theorem part_spec {a b : Int} {k : Nat} (hb : b ≠ 0) (h : b.natAbs < 2 ^ k) (hk : k ≤ 9000) (hp : 0 < k) (g : G) : q_part [.int a, .int b] g = .ok (.frz (nrm a b)) g := by
  have g0 := gcd_pos (a := a) hb
  have gb : ((Int.gcd a b : Int)).natAbs < 2 ^ k := by
    have := gcd_bd (a := a) hb h
    simpa using this
  by_cases hn : b < 0
  · have e : Int.gcd (0 - a) (0 - b) = Int.gcd a b := by simp
    simp [q_part, callB, m_part, sSeq, sIf, tB2, evO, Zs.at, Zs.res, O.bind, S.d, finB, eC, fLt, hn, sPar, argsS, eB2, fin, fSub, puts, Zs.put, sAsg, eCall, args, eV, divisor_spec, asg, sRet, eTup, fDiv_of g0 gb hk hp, nrm, P, sizeLine_eq]
  · simp [q_part, callB, m_part, sSeq, sIf, tB2, evO, Zs.at, Zs.res, O.bind, S.d, finB, eC, fLt, hn, sNx, eB2, fin, fSub, puts, Zs.put, sAsg, eCall, args, eV, divisor_spec, asg, sRet, eTup, fDiv_of g0 gb hk hp, nrm, P, sizeLine_eq]
/-! ### the law's own -/
abbrev frBody : SS := (sSeq (sIf (tB2 fEq (.v 3) (.e (eC (.int 0)))) sBk sNx) (sPar [2, 3] [(eV 3), (eB2 fMod (.e (eB1 fIntOf (.v 2))) (.v 3))]))
theorem fr_bk {A B s4 : Option S} {a : Int} {x : D} {l : List D} {g : G} : forL (.nm 4) frBody (x :: l) ⟨[A, B, fi a, fi 0, s4], g⟩ = .ok .nx ⟨[A, B, fi a, fi 0, some (.frz x)], g⟩ := by
  simp [forL, asg, O.bind, Zs.put, frBody, sSeq, sIf, tB2, evO, Zs.at, Zs.res, S.d, finB, eC, fEq, eqD_int, sBk]
theorem fr_go {A B s4 : Option S} {a b : Int} {x : D} {l : List D} {g : G} (h : 0 < b) : forL (.nm 4) frBody (x :: l) ⟨[A, B, fi a, fi b, s4], g⟩ = forL (.nm 4) frBody l ⟨[A, B, fi b, fi (a % b), some (.frz x)], g⟩ := by
  simp [forL, asg, O.bind, Zs.put, frBody, sSeq, sIf, tB2, evO, Zs.at, Zs.res, S.d, finB, eC, fEq, eqD_int, sNx, sPar, argsS, eV, eB2, eB1, fin, fIntOf, fMod, puts, h, show b ≠ 0 by omega]
theorem g0a {a : Int} (ha : 0 ≤ a) : (Int.gcd a 0 : Int) = a := by
  rw [Int.gcd_zero]; omega
theorem fr_loop {A B : Option S} {g : G} : ∀ (k : Nat) (a b : Int) (l : List D) (s4 : Option S), 0 ≤ a → 0 ≤ b → b < 2 ^ k → 2 * k + 1 ≤ l.length → ∃ s4', forL (.nm 4) frBody l ⟨[A, B, fi a, fi b, s4], g⟩ = .ok .nx ⟨[A, B, fi (Int.gcd a b), fi 0, s4'], g⟩
  | 0, a, b, l, s4, ha, hb, h, hl => by
    have h0 : b = 0 := by simp at h; omega
    subst h0
    cases l with
    | nil => simp at hl
    | cons x l => exact ⟨_, by rw [fr_bk, g0a ha]⟩
  | k + 1, a, b, l, s4, ha, hb, h, hl => by
    cases l with
    | nil => simp at hl
    | cons x l =>
      by_cases h0 : b = 0
      · subst h0; exact ⟨_, by rw [fr_bk, g0a ha]⟩
      · have hb0 : 0 < b := by omega
        rw [fr_go hb0, ← gcd_step]
        have hr := Int.emod_nonneg a h0
        have hr2 := Int.emod_lt_of_pos a hb0
        cases l with
        | nil => simp at hl
        | cons y l =>
          by_cases h1 : a % b = 0
          · rw [h1]; exact ⟨_, by rw [fr_bk, g0a hb]⟩
          · have hr0 : 0 < a % b := by omega
            rw [fr_go hr0, ← gcd_step]
            have hs := Int.emod_nonneg b h1
            have hs2 := Int.emod_lt_of_pos b hr0
            refine fr_loop k (a % b) (b % (a % b)) l _ hr hs ?_ (by simp at hl ⊢; omega)
            have hd := Int.emod_add_mul_ediv b (a % b)
            have hq : 1 ≤ b / (a % b) := by
              refine (Int.le_ediv_iff_mul_le hr0).mpr ?_
              omega
            have hm : a % b ≤ (a % b) * (b / (a % b)) := by
              have := Int.mul_le_mul_of_nonneg_left hq hr
              omega
            rw [Int.pow_succ] at h
            have : (a % b) * (b / (a % b)) + b % (a % b) = b := by omega
            omega
theorem fr_spec {a b : Int} {k : Nat} (hb : b ≠ 0) (h : b.natAbs < 2 ^ k) (hk : k ≤ 1990) (hp : 0 < k) (g : G) : q__law_fr [.int a, .int b] g = .ok (.frz (nrm a b)) g := by
  have g0 := gcd_pos (a := a) hb
  have gb : ((Int.gcd a b : Int)).natAbs < 2 ^ k := by
    have := gcd_bd (a := a) hb h
    simpa using this
  have hB : ((b.natAbs : Nat) : Int) < 2 ^ k := by exact_mod_cast h
  have ea : ∀ x : Int, (if x < 0 then -x else x) = (x.natAbs : Int) := fun x => by split <;> omega
  have er : (rng 0 4000).length = 4000 := by simp [rng]
  by_cases hn : b < 0
  · obtain ⟨s4, e⟩ := fr_loop (A := fi (0 - a)) (B := fi (0 - b)) (g := g) k ((0 - a).natAbs) (0 - b) (rng 0 4000) none (by omega) (by omega) (by omega) (by rw [er]; omega)
    have e1 : Int.gcd ((0 - a).natAbs : Int) (0 - b) = Int.gcd a b := by simp [Int.gcd_eq_natAbs_gcd_natAbs]
    rw [e1] at e
    have ea2 : (if 0 < a then a else -a) = (a.natAbs : Int) := by split <;> omega
    simp [q__law_fr, callB, m__law_fr, sSeq, sIf, tB2, evO, Zs.at, Zs.res, O.bind, S.d, finB, eC, fLt, hn, sPar, argsS, eB2, eB1, fin, fSub, puts, Zs.put, fAbs, ea, ea2, eV, sFor, iR1, smallI]
    simp at e
    rw [e]
    simp [sRet, eTup, args, eB2, evO, Zs.at, Zs.res, O.bind, S.d, fin, nrm, P, hn, sizeLine_eq]
    have f1 := fDiv_of (a := -a) g0 gb (by omega) hp
    have f2 := fDiv_of (a := -b) g0 gb (by omega) hp
    simp [f1, f2, fin]
  · obtain ⟨s4, e⟩ := fr_loop (A := fi a) (B := fi b) (g := g) k (a.natAbs) b (rng 0 4000) none (by omega) (by omega) (by omega) (by rw [er]; omega)
    have e1 : Int.gcd (a.natAbs : Int) b = Int.gcd a b := by simp [Int.gcd_eq_natAbs_gcd_natAbs]
    rw [e1] at e
    simp [q__law_fr, callB, m__law_fr, sSeq, sIf, tB2, evO, Zs.at, Zs.res, O.bind, S.d, finB, eC, fLt, hn, sNx, sPar, argsS, eB2, eB1, fin, fSub, puts, Zs.put, fAbs, ea, eV, sFor, iR1, smallI]
    rw [e]
    simp [sRet, eTup, args, eB2, evO, Zs.at, Zs.res, O.bind, S.d, fin, nrm, P, hn, sizeLine_eq]
    have f1 := fDiv_of (a := a) g0 gb (by omega) hp
    have f2 := fDiv_of (a := b) g0 gb (by omega) hp
    simp [f1, f2, fin]
end Zc

/-! ZRat: fractions: normal forms, the four operations of the program and of the law. -/
namespace Zc
open PySem Zn
def nN (a b : Int) : Int := if b < 0 then (0 - a) / Int.gcd a b else a / Int.gcd a b
def nD (a b : Int) : Int := if b < 0 then (0 - b) / Int.gcd a b else b / Int.gcd a b
theorem nrm_eq (a b : Int) : nrm a b = P (nN a b) (nD a b) := by
  unfold nrm nN nD
  by_cases h : b < 0 <;> simp only [h, if_true, if_false]
structure Ok (k : Nat) (n d : Int) : Prop where
  pos : 0 < d
  co : Int.gcd n d = 1
  bn : n.natAbs < 2 ^ k
  bd : d.natAbs < 2 ^ k
theorem Ok.mono {k l : Nat} {n d : Int} (h : Ok k n d) (hl : k ≤ l) : Ok l n d := ⟨h.pos, h.co, Nat.lt_of_lt_of_le h.bn (Nat.pow_le_pow_right (by decide) hl), Nat.lt_of_lt_of_le h.bd (Nat.pow_le_pow_right (by decide) hl)⟩
theorem nat_ediv_le {a g : Int} (hg : 0 < g) (h : g ∣ a) : (a / g).natAbs ≤ a.natAbs := by
  obtain ⟨c, rfl⟩ := h
  rw [Int.mul_ediv_cancel_left _ (by omega), Int.natAbs_mul]
  exact Nat.le_mul_of_pos_left _ (by omega)
theorem nrm_ok {a b : Int} {k : Nat} (hb : b ≠ 0) (ha : a.natAbs < 2 ^ k) (h : b.natAbs < 2 ^ k) : Ok k (nN a b) (nD a b) := by
  have g0 := gcd_pos (a := a) hb
  have da : (Int.gcd a b : Int) ∣ a := Int.gcd_dvd_left ..
  have db : (Int.gcd a b : Int) ∣ b := Int.gcd_dvd_right ..
  have hg : 0 < Int.gcd a b := by omega
  have co := Int.gcd_ediv_gcd_ediv_gcd hg
  unfold nN nD
  by_cases hn : b < 0
  · simp only [hn, if_true]
    have ea : (0 - a) / (Int.gcd a b : Int) = -(a / Int.gcd a b) := by rw [Int.zero_sub, Int.neg_ediv_of_dvd da]
    have eb : (0 - b) / (Int.gcd a b : Int) = -(b / Int.gcd a b) := by rw [Int.zero_sub, Int.neg_ediv_of_dvd db]
    rw [ea, eb]
    have e := Int.ediv_mul_cancel db
    have : b / (Int.gcd a b : Int) < 0 := by
      rcases Int.lt_or_le (b / (Int.gcd a b : Int)) 0 with h1 | h1
      · exact h1
      · have := Int.mul_nonneg h1 (Int.le_of_lt g0)
        omega
    refine ⟨by omega, by simpa using co, ?_, ?_⟩
    · rw [Int.natAbs_neg]; exact Nat.lt_of_le_of_lt (nat_ediv_le g0 da) ha
    · rw [Int.natAbs_neg]; exact Nat.lt_of_le_of_lt (nat_ediv_le g0 db) h
  · simp only [hn, if_false]
    refine ⟨?_, co, Nat.lt_of_le_of_lt (nat_ediv_le g0 da) ha, Nat.lt_of_le_of_lt (nat_ediv_le g0 db) h⟩
    exact Int.ediv_pos_of_pos_of_dvd (by omega) (by omega) db
theorem nrm_val {a b : Int} (hb : b ≠ 0) : a * nD a b = nN a b * b := by
  have da : (Int.gcd a b : Int) ∣ a := Int.gcd_dvd_left ..
  have db : (Int.gcd a b : Int) ∣ b := Int.gcd_dvd_right ..
  have g0 := gcd_pos (a := a) hb
  obtain ⟨x, hx⟩ := da
  obtain ⟨y, hy⟩ := db
  unfold nN nD
  generalize hG : (Int.gcd a b : Int) = G at *
  have gn : G ≠ 0 := by omega
  have e1 : a / G = x := by rw [hx]; exact Int.mul_ediv_cancel_left _ gn
  have e2 : b / G = y := by rw [hy]; exact Int.mul_ediv_cancel_left _ gn
  have e3 : (0 - a) / G = -x := by rw [hx, Int.zero_sub, ← Int.mul_neg]; exact Int.mul_ediv_cancel_left _ gn
  have e4 : (0 - b) / G = -y := by rw [hy, Int.zero_sub, ← Int.mul_neg]; exact Int.mul_ediv_cancel_left _ gn
  rw [e1, e2, e3, e4]
  split <;> grind
/-- equal values, both in normal form -/
theorem dvd_co {a b c : Int} (h : a ∣ b * c) (co : Int.gcd a b = 1) : a ∣ c := by
  have e := Int.gcd_mul_right_right_of_gcd_eq_one (k := c) co
  rw [Int.gcd_eq_natAbs_left h] at e
  exact Int.gcd_eq_natAbs_left_iff_dvd.mp e.symm
theorem ok_cross {k l : Nat} {n d n' d' : Int} (h : Ok k n d) (h' : Ok l n' d') (e : n * d' = n' * d) : n = n' ∧ d = d' := by
  have hd := h.pos
  have hd' := h'.pos
  have c1 : d ∣ d' := by
    have : d ∣ n * d' := ⟨n', by rw [e, Int.mul_comm]⟩
    exact dvd_co this (by rw [Int.gcd_comm]; exact h.co)
  have c2 : d' ∣ d := by
    have : d' ∣ n' * d := ⟨n, by rw [← e, Int.mul_comm]⟩
    exact dvd_co this (by rw [Int.gcd_comm]; exact h'.co)
  have ed : d = d' := Int.dvd_antisymm (by omega) (by omega) c1 c2
  subst ed
  exact ⟨Int.eq_of_mul_eq_mul_right (by omega) e, rfl⟩
theorem bd_any (a : Int) : ∃ k, a.natAbs < 2 ^ k := ⟨a.natAbs, Nat.lt_two_pow_self⟩
theorem nrm_okx (a : Int) {b : Int} (hb : b ≠ 0) : ∃ k, Ok k (nN a b) (nD a b) := by
  obtain ⟨k, hk⟩ := bd_any a
  obtain ⟨l, hl⟩ := bd_any b
  exact ⟨max k l, nrm_ok hb (Nat.lt_of_lt_of_le hk (Nat.pow_le_pow_right (by decide) (Nat.le_max_left _ _))) (Nat.lt_of_lt_of_le hl (Nat.pow_le_pow_right (by decide) (Nat.le_max_right _ _)))⟩
theorem nrm_cross {a b c d : Int} (hb : b ≠ 0) (hd : d ≠ 0) (e : a * d = c * b) : nrm a b = nrm c d := by
  obtain ⟨k, o1⟩ := nrm_okx a hb
  obtain ⟨l, o2⟩ := nrm_okx c hd
  have v1 := nrm_val (a := a) hb
  have v2 := nrm_val (a := c) hd
  have : nN a b * nD c d = nN c d * nD a b := by
    have h : (nN a b * nD c d) * (b * d) = (nN c d * nD a b) * (b * d) := by grind
    exact Int.eq_of_mul_eq_mul_right (Int.mul_ne_zero hb hd) h
  obtain ⟨e1, e2⟩ := ok_cross o1 o2 this
  rw [nrm_eq, nrm_eq, e1, e2]
theorem nrm_same {k : Nat} {n d : Int} (h : Ok k n d) : nrm n d = P n d := by
  have hd := h.pos
  rw [nrm_eq]
  obtain ⟨l, o⟩ := nrm_okx n (show d ≠ 0 by omega)
  obtain ⟨e1, e2⟩ := ok_cross o h (nrm_val (a := n) (show d ≠ 0 by omega)).symm
  rw [e1, e2]
/-! ### sizes -/
theorem bmul {a b : Int} {k l : Nat} (ha : a.natAbs < 2 ^ k) (hb : b.natAbs < 2 ^ l) : (a * b).natAbs < 2 ^ (k + l) := by
  rw [Int.natAbs_mul, Nat.pow_add]
  exact Nat.mul_lt_mul'' ha hb
theorem badd {a b : Int} {k : Nat} (ha : a.natAbs < 2 ^ k) (hb : b.natAbs < 2 ^ k) : (a + b).natAbs < 2 ^ (k + 1) := by
  rw [Nat.pow_succ]; omega
theorem bsub {a b : Int} {k : Nat} (ha : a.natAbs < 2 ^ k) (hb : b.natAbs < 2 ^ k) : (a - b).natAbs < 2 ^ (k + 1) := by
  rw [Nat.pow_succ]; omega
theorem mulOk_of {a b : Int} {k l : Nat} (ha : a.natAbs < 2 ^ k) (hb : b.natAbs < 2 ^ l) (hk : k ≤ 400000) (hl : l ≤ 400000) : mulOk a b = true := by
  have h1 : a.natAbs.log2 ≤ k := by
    rcases Nat.eq_zero_or_pos k with h | h
    · subst h; simp at ha; subst ha; simp
    · exact Nat.le_of_lt (log2_lt ha h)
  have h2 : b.natAbs.log2 ≤ l := by
    rcases Nat.eq_zero_or_pos l with h | h
    · subst h; simp at hb; subst hb; simp
    · exact Nat.le_of_lt (log2_lt hb h)
  unfold mulOk
  have : a.natAbs.log2 + b.natAbs.log2 < 1000000 := by omega
  simp [this]
theorem fTimes_of {a b : Int} {k l : Nat} (ha : a.natAbs < 2 ^ k) (hb : b.natAbs < 2 ^ l) (hk : k ≤ 400000) (hl : l ≤ 400000) : fTimes (.int a) (.int b) = some (.frz (.int (a * b))) := by
  show (if mulOk a b = true then some (S.frz (.int (a * b))) else none) = _
  rw [if_pos (mulOk_of ha hb hk hl)]
@[simp] theorem ix0 (a b : Int) : fIx (P a b) (.int 0) = some (.frz (.int a)) := rfl
@[simp] theorem ix1 (a b : Int) : fIx (P a b) (.int 1) = some (.frz (.int b)) := rfl
section
variable {k : Nat} {n d n' d' : Int} {g : G}
theorem dd_ne (o : Ok k n d) (o' : Ok k n' d') : d * d' ≠ 0 := Int.mul_ne_zero (by have := o.pos; omega) (by have := o'.pos; omega)
theorem plus_spec (o : Ok k n d) (o' : Ok k n' d') (hk : k ≤ 4000) : q_plus [P n d, P n' d'] g = .ok (.frz (nrm (n * d' + n' * d) (d * d'))) g := by
  have t1 := fTimes_of o.bn o'.bd (by omega) (by omega)
  have t2 := fTimes_of o'.bn o.bd (by omega) (by omega)
  have t3 := fTimes_of o.bd o'.bd (by omega) (by omega)
  have p := part_spec (a := n * d' + n' * d) (dd_ne o o') (Nat.lt_of_lt_of_le (bmul o.bd o'.bd) (Nat.pow_le_pow_right (by decide) (Nat.le_succ _))) (k := k + k + 1) (by omega) (by omega) g
  simp [q_plus, callB, m_plus, sRet, eCall, args, eB2, evO, Zs.at, Zs.res, O.bind, S.d, fin, eC, fPlus, t1, t2, t3, p]
theorem add_spec (o : Ok k n d) (o' : Ok k n' d') (hk : k ≤ 900) : q__law_add [P n d, P n' d'] g = .ok (.frz (nrm (n * d' + n' * d) (d * d'))) g := by
  have t1 := fTimes_of o.bn o'.bd (by omega) (by omega)
  have t2 := fTimes_of o'.bn o.bd (by omega) (by omega)
  have t3 := fTimes_of o.bd o'.bd (by omega) (by omega)
  have p := fr_spec (a := n * d' + n' * d) (dd_ne o o') (Nat.lt_of_lt_of_le (bmul o.bd o'.bd) (Nat.pow_le_pow_right (by decide) (Nat.le_succ _))) (k := k + k + 1) (by omega) (by omega) g
  simp [q__law_add, callB, m__law_add, sRet, eCall, args, eB2, evO, Zs.at, Zs.res, O.bind, S.d, fin, eC, fPlus, t1, t2, t3, p]
theorem minus_spec (o : Ok k n d) (o' : Ok k n' d') (hk : k ≤ 4000) : q_minus [P n d, P n' d'] g = .ok (.frz (nrm (n * d' - n' * d) (d * d'))) g := by
  have t1 := fTimes_of o.bn o'.bd (by omega) (by omega)
  have t2 := fTimes_of o'.bn o.bd (by omega) (by omega)
  have t3 := fTimes_of o.bd o'.bd (by omega) (by omega)
  have p := part_spec (a := n * d' - n' * d) (dd_ne o o') (Nat.lt_of_lt_of_le (bmul o.bd o'.bd) (Nat.pow_le_pow_right (by decide) (Nat.le_succ _))) (k := k + k + 1) (by omega) (by omega) g
  simp [q_minus, callB, m_minus, sRet, eCall, args, eB2, evO, Zs.at, Zs.res, O.bind, S.d, fin, eC, fSub, t1, t2, t3, p]
theorem Ok.neg (o : Ok k n d) : Ok k (0 - n) d := ⟨o.pos, by rw [Int.zero_sub, Int.neg_gcd]; exact o.co, by have := o.bn; omega, o.bd⟩
theorem sub_spec (o : Ok k n d) (o' : Ok k n' d') (hk : k ≤ 900) : q__law_sub [P n d, P n' d'] g = .ok (.frz (nrm (n * d' - n' * d) (d * d'))) g := by
  have p := add_spec (g := g) o o'.neg hk
  have e : n * d' + (0 - n') * d = n * d' - n' * d := by grind
  rw [e] at p
  simp [q__law_sub, callB, m__law_sub, sRet, eCall, args, eB2, evO, Zs.at, Zs.res, O.bind, S.d, fin, eC, fSub, eV, eTup, sizeLine_eq]
  simp [P] at p ⊢
  rw [p]
theorem times_spec (o : Ok k n d) (o' : Ok k n' d') (hk : k ≤ 4000) : q_times [P n d, P n' d'] g = .ok (.frz (nrm (n * n') (d * d'))) g := by
  have t1 := fTimes_of o.bn o'.bn (by omega) (by omega)
  have t3 := fTimes_of o.bd o'.bd (by omega) (by omega)
  have p := part_spec (a := n * n') (dd_ne o o') (Nat.lt_of_lt_of_le (bmul o.bd o'.bd) (Nat.pow_le_pow_right (by decide) (Nat.le_succ _))) (k := k + k + 1) (by omega) (by omega) g
  simp [q_times, callB, m_times, sRet, eCall, args, eB2, evO, Zs.at, Zs.res, O.bind, S.d, fin, eC, t1, t3, p]
theorem mul_spec (o : Ok k n d) (o' : Ok k n' d') (hk : k ≤ 900) : q__law_mul [P n d, P n' d'] g = .ok (.frz (nrm (n * n') (d * d'))) g := by
  have t1 := fTimes_of o.bn o'.bn (by omega) (by omega)
  have t3 := fTimes_of o.bd o'.bd (by omega) (by omega)
  have p := fr_spec (a := n * n') (dd_ne o o') (Nat.lt_of_lt_of_le (bmul o.bd o'.bd) (Nat.pow_le_pow_right (by decide) (Nat.le_succ _))) (k := k + k + 1) (by omega) (by omega) g
  simp [q__law_mul, callB, m__law_mul, sRet, eCall, args, eB2, evO, Zs.at, Zs.res, O.bind, S.d, fin, eC, t1, t3, p]
theorem over_spec (o : Ok k n d) (o' : Ok k n' d') (h0 : n' ≠ 0) (hk : k ≤ 4000) : q_over [P n d, P n' d'] g = .ok (.frz (nrm (n * d') (d * n'))) g := by
  have t1 := fTimes_of o.bn o'.bd (by omega) (by omega)
  have t3 := fTimes_of o.bd o'.bn (by omega) (by omega)
  have p := part_spec (a := n * d') (b := d * n') (Int.mul_ne_zero (by have := o.pos; omega) h0) (Nat.lt_of_lt_of_le (bmul o.bd o'.bn) (Nat.pow_le_pow_right (by decide) (Nat.le_succ _))) (k := k + k + 1) (by omega) (by omega) g
  simp [q_over, callB, m_over, sRet, eCall, args, eB2, evO, Zs.at, Zs.res, O.bind, S.d, fin, eC, t1, t3, p]
theorem is_less_spec (o : Ok k n d) (o' : Ok k n' d') (hk : k ≤ 4000) : q_is_less [P n d, P n' d'] g = .ok (.frz (.bl (decide (n * d' < n' * d)))) g := by
  have t1 := fTimes_of o.bn o'.bd (by omega) (by omega)
  have t2 := fTimes_of o'.bn o.bd (by omega) (by omega)
  simp [q_is_less, callB, m_is_less, sRet, eB2, evO, Zs.at, Zs.res, O.bind, S.d, fin, eC, vB, fLt, t1, t2]
def sgn (x : Int) : Int := if x = 0 then 0 else if 0 < x then 1 else -1
theorem sign_spec (o : Ok k n d) (o' : Ok k n' d') (hk : k ≤ 4000) : q__law_sign [P n d, P n' d'] g = .ok (.frz (.int (sgn (n * d' - n' * d)))) g := by
  have t1 := fTimes_of o.bn o'.bd (by omega) (by omega)
  have t2 := fTimes_of o'.bn o.bd (by omega) (by omega)
  by_cases h0 : n * d' - n' * d = 0
  · simp [q__law_sign, callB, m__law_sign, sSeq, sAsg, asg, Zs.put, sRet, eIf, tB2, finB, eB2, evO, Zs.at, Zs.res, O.bind, S.d, fin, eC, fSub, fEq, eqD_int, t1, t2, h0, sgn]
  · by_cases h1 : n' * d < n * d'
    · simp [q__law_sign, callB, m__law_sign, sSeq, sAsg, asg, Zs.put, sRet, eIf, tB2, finB, eB2, evO, Zs.at, Zs.res, O.bind, S.d, fin, eC, fSub, fEq, eqD_int, fGt, t1, t2, h0, h1, sgn]
    · simp [q__law_sign, callB, m__law_sign, sSeq, sAsg, asg, Zs.put, sRet, eIf, tB2, finB, eB2, eB1, evO, Zs.at, Zs.res, O.bind, S.d, fin, eC, fSub, fEq, eqD_int, fGt, fNeg, t1, t2, h0, h1, sgn]
end
end Zc

/-! ZList: loops, comprehensions, rows of fractions, draws. -/
namespace Zc
open PySem Zn
/-! ### the shape of a run -/
theorem seq_nx {a b : SS} {z z' : Zs} (h : a z = .ok .nx z') : sSeq a b z = b z' := by unfold sSeq; rw [h]; rfl
theorem seq_rt {a b : SS} {z z' : Zs} {s : S} (h : a z = .ok (.rt s) z') : sSeq a b z = .ok (.rt s) z' := by unfold sSeq; rw [h]; rfl
theorem if_f {c : T} {a b : SS} {z z' : Zs} (h : c z = .ok false z') : sIf c a b z = b z' := by unfold sIf; rw [h]; rfl
theorem if_t {c : T} {a b : SS} {z z' : Zs} (h : c z = .ok true z') : sIf c a b z = a z' := by unfold sIf; rw [h]; rfl
theorem or_f {a b : T} {z z' : Zs} (h : a z = .ok false z') : tOr a b z = b z' := by unfold tOr; rw [h]; rfl
theorem or_t {a b : T} {z z' : Zs} (h : a z = .ok true z') : tOr a b z = .ok true z' := by unfold tOr; rw [h]; rfl
theorem and_t {a b : T} {z z' : Zs} (h : a z = .ok true z') : tAnd a b z = b z' := by unfold tAnd; rw [h]; rfl
theorem and_f {a b : T} {z z' : Zs} (h : a z = .ok false z') : tAnd a b z = .ok false z' := by unfold tAnd; rw [h]; rfl
theorem for_ok {t : Tg} {i : I} {b : SS} {z z1 : Zs} {l : List D} (h : i z = .ok l z1) : sFor t i b z = forL t b l z1 := by unfold sFor; rw [h]; rfl
theorem seq_for {t : Tg} {i : I} {b c : SS} {z z1 z' : Zs} {l : List D} (h : i z = .ok l z1) (e : forL t b l z1 = .ok .nx z') : sSeq (sFor t i b) c z = c z' := seq_nx ((for_ok h).trans e)
theorem seq_if {c : T} {b k : SS} {z z' : Zs} (h : c z = .ok false z') : sSeq (sIf c b sNx) k z = k z' := seq_nx ((if_f h).trans rfl)
theorem callB_rt {n : Nat} {b : SS} {ds : List D} {g : G} {s : S} {z : Zs} (h : b ⟨ds.map (fun d => some (.frz d)) ++ List.replicate (n - ds.length) none, g⟩ = .ok (.rt s) z) : callB n b ds g = .ok s z.g := by unfold callB; rw [h]
theorem forL_fold {t : Tg} {b : SS} (step : Zs → D → Zs) (I : Zs → Prop) : ∀ (l : List D) (z : Zs), I z → (∀ x ∈ l, ∀ z, I z → ((asg t (.frz x) z).bind fun _ z1 => b z1) = .ok .nx (step z x) ∧ I (step z x)) → forL t b l z = .ok .nx (l.foldl step z) ∧ I (l.foldl step z)
  | [], z, hI, _ => ⟨rfl, hI⟩
  | x :: l, z, hI, h => by
    obtain ⟨h1, h2⟩ := h x List.mem_cons_self z hI
    have r := forL_fold step I l (step z x) h2 fun y hy => h y (List.mem_cons_of_mem _ hy)
    refine ⟨?_, r.2⟩
    show forL t b (x :: l) z = .ok .nx (l.foldl step (step z x))
    rw [← r.1]
    conv => lhs; unfold forL
    cases ha : asg t (.frz x) z with
    | ok u z1 =>
      rw [ha] at h1
      have h1' : b z1 = .ok .nx (step z x) := h1
      simp only [O.bind, h1']
    | exc e z1 => rw [ha] at h1; cases h1
    | stk => rw [ha] at h1; cases h1
/-- the same, what follows only known to hold -/
theorem forL_inv {t : Tg} {b : SS} (I : Zs → Prop) : ∀ (l : List D) (z : Zs), I z → (∀ x ∈ l, ∀ z, I z → ∃ z', ((asg t (.frz x) z).bind fun _ z1 => b z1) = .ok .nx z' ∧ I z') → ∃ z', forL t b l z = .ok .nx z' ∧ I z'
  | [], z, hI, _ => ⟨z, rfl, hI⟩
  | x :: l, z, hI, h => by
    obtain ⟨z', h1, h2⟩ := h x List.mem_cons_self z hI
    obtain ⟨z2, r1, r2⟩ := forL_inv I l z' h2 fun y hy => h y (List.mem_cons_of_mem _ hy)
    refine ⟨z2, ?_, r2⟩
    rw [← r1]
    conv => lhs; unfold forL
    cases ha : asg t (.frz x) z with
    | ok u z1 =>
      rw [ha] at h1
      have h1' : b z1 = .ok .nx z' := h1
      simp only [O.bind, h1']
    | exc e z1 => rw [ha] at h1; cases h1
    | stk => rw [ha] at h1; cases h1
/-- a comprehension whose element changes nothing -/
theorem lcL_map {t : Tg} {c : T} {e : E} {vs : List Nat} {z : Zs} (f : D → Option D) : ∀ (l : List D) (acc : List D), acc.length + l.length ≤ sizeLine →
    (∀ x ∈ l, ∃ z1, asg t (.frz x) z = .ok () z1 ∧ ((f x = none ∧ ∃ z2, c z1 = .ok false z2 ∧ wipe vs z2 = z) ∨ (∃ z2 s z3, c z1 = .ok true z2 ∧ e z2 = .ok s z3 ∧ f x = some s.d ∧ wipe vs z3 = z))) →
    lcL t c e vs l acc z = some (acc ++ l.filterMap f, z)
  | [], acc, _, _ => by simp [lcL]
  | x :: l, acc, hl, h => by
    have hl' : acc.length + (l.length + 1) ≤ sizeLine := hl
    obtain ⟨z1, ha, r⟩ := h x List.mem_cons_self
    unfold lcL
    rw [ha]
    rcases r with ⟨hf, z2, hc, hw⟩ | ⟨z2, s, z3, hc, he, hf, hw⟩
    · simp only [hc, hw]
      rw [lcL_map f l acc (by omega) fun y hy => h y (List.mem_cons_of_mem _ hy), List.filterMap_cons_none hf]
    · simp only [hc, he, hw]
      rw [if_pos (by omega), lcL_map f l (acc ++ [s.d]) (by simp; omega) fun y hy => h y (List.mem_cons_of_mem _ hy), List.filterMap_cons_some hf]
      simp
/-- .. whose element draws -/
theorem lcL_rel {t : Tg} {e : E} {vs : List Nat} (I : Zs → Prop) (Q : D → Prop) : ∀ (l : List D) (acc : List D) (z : Zs), acc.length + l.length ≤ sizeLine → I z →
    (∀ x ∈ l, ∀ z, I z → ∃ z1 s z3, asg t (.frz x) z = .ok () z1 ∧ e z1 = .ok s z3 ∧ Q s.d ∧ I (wipe vs z3)) →
    ∃ ds z', lcL t tYes e vs l acc z = some (acc ++ ds, z') ∧ ds.length = l.length ∧ (∀ d ∈ ds, Q d) ∧ I z'
  | [], acc, z, _, hI, _ => ⟨[], z, by simp [lcL], rfl, fun _ h => (nomatch h), hI⟩
  | x :: l, acc, z, hl, hI, h => by
    have hl' : acc.length + (l.length + 1) ≤ sizeLine := hl
    obtain ⟨z1, s, z3, ha, he, hq, hw⟩ := h x List.mem_cons_self z hI
    obtain ⟨ds, z', r1, r2, r3, r4⟩ := lcL_rel I Q l (acc ++ [s.d]) (wipe vs z3) (by simp; omega) hw fun y hy => h y (List.mem_cons_of_mem _ hy)
    refine ⟨s.d :: ds, z', ?_, by simp [r2], ?_, r4⟩
    · unfold lcL
      rw [ha]
      simp only [tYes, he]
      rw [if_pos (by omega), r1]
      simp
    · intro d hd
      rcases List.mem_cons.mp hd with rfl | hd
      · exact hq
      · exact r3 d hd
/-! ### pairs -/
abbrev PP (p : Int × Int) : D := P p.1 p.2
abbrev OkP (k : Nat) (p : Int × Int) : Prop := Ok k p.1 p.2
def addp (p q : Int × Int) : Int × Int := (nN (p.1 * q.2 + q.1 * p.2) (p.2 * q.2), nD (p.1 * q.2 + q.1 * p.2) (p.2 * q.2))
def mulp (p q : Int × Int) : Int × Int := (nN (p.1 * q.1) (p.2 * q.2), nD (p.1 * q.1) (p.2 * q.2))
section
variable {k : Nat} {p q : Int × Int} {g : G}
theorem plus_p (o : OkP k p) (o' : OkP k q) (hk : k ≤ 4000) : q_plus [PP p, PP q] g = .ok (.frz (PP (addp p q))) g := by rw [plus_spec o o' hk, nrm_eq] <;> rfl
theorem add_p (o : OkP k p) (o' : OkP k q) (hk : k ≤ 900) : q__law_add [PP p, PP q] g = .ok (.frz (PP (addp p q))) g := by rw [add_spec o o' hk, nrm_eq] <;> rfl
theorem times_p (o : OkP k p) (o' : OkP k q) (hk : k ≤ 4000) : q_times [PP p, PP q] g = .ok (.frz (PP (mulp p q))) g := by rw [times_spec o o' hk, nrm_eq] <;> rfl
theorem mul_p (o : OkP k p) (o' : OkP k q) (hk : k ≤ 900) : q__law_mul [PP p, PP q] g = .ok (.frz (PP (mulp p q))) g := by rw [mul_spec o o' hk, nrm_eq] <;> rfl
theorem pw {a b : Nat} (h : a ≤ b) : 2 ^ a ≤ 2 ^ b := Nat.pow_le_pow_right (by decide) h
theorem addp_ok (o : OkP k p) (o' : OkP k q) : OkP (2 * k + 1) (addp p q) := by
  refine nrm_ok (dd_ne o o') ?_ ?_
  · rw [Nat.two_mul]; exact badd (bmul o.bn o'.bd) (bmul o'.bn o.bd)
  · rw [Nat.two_mul]; exact Nat.lt_of_lt_of_le (bmul o.bd o'.bd) (pw (by omega))
theorem mulp_ok (o : OkP k p) (o' : OkP k q) : OkP (2 * k) (mulp p q) := by
  refine nrm_ok (dd_ne o o') ?_ ?_
  · rw [Nat.two_mul]; exact bmul o.bn o'.bn
  · rw [Nat.two_mul]; exact bmul o.bd o'.bd
theorem mulp_comm (p q : Int × Int) : mulp p q = mulp q p := by
  unfold mulp
  rw [Int.mul_comm p.1, Int.mul_comm p.2]
def grow (k : Nat) : Nat → Nat
  | 0 => k
  | n + 1 => grow (2 * k + 1) n
theorem grow_le : ∀ (n k : Nat), k ≤ grow k n
  | 0, k => Nat.le_refl _
  | n + 1, k => Nat.le_trans (by omega) (grow_le n (2 * k + 1))
theorem grow_mono : ∀ (n : Nat) {k l : Nat}, k ≤ l → grow k n ≤ grow l n
  | 0, _, _, h => h
  | n + 1, k, l, h => grow_mono n (by omega)
theorem grow_le2 : ∀ {n m k : Nat}, n ≤ m → grow k n ≤ grow k m
  | 0, m, k, _ => grow_le m k
  | n + 1, 0, k, h => by omega
  | n + 1, m + 1, k, h => grow_le2 (n := n) (m := m) (by omega)
theorem sum_ok : ∀ (ps : List (Int × Int)) (acc : Int × Int) (k : Nat), OkP k acc → (∀ p ∈ ps, OkP k p) → OkP (grow k ps.length) (ps.foldl addp acc)
  | [], acc, k, h, _ => h
  | p :: ps, acc, k, h, hp => sum_ok ps (addp acc p) (2 * k + 1) (addp_ok h (hp p List.mem_cons_self)) fun q hq => (hp q (List.mem_cons_of_mem _ hq)).mono (by omega)
theorem ok01 : OkP 1 (0, 1) := ⟨by decide, by decide, by decide, by decide⟩
end
/-! ### draws -/
def StOk (g : G) : Prop := ∃ i cs, g.st = some (i, cs) ∧ cs ≠ []
theorem takeF_ok {i : Int} {cs : List Int} {m : Int} (hc : cs ≠ []) (hm : 1 ≤ m) : 0 ≤ (takeF i cs m).1 ∧ (takeF i cs m).1 < m ∧ (takeF i cs m).2.2 ≠ [] := by
  unfold takeF
  by_cases h2 : m < 2
  · rw [if_pos h2]; exact ⟨Int.le_refl _, by show (0 : Int) < m; omega, hc⟩
  · rw [if_neg h2]
    dsimp only
    split
    · refine ⟨Int.emod_nonneg _ (by omega), Int.emod_lt_of_pos _ (by omega), ?_⟩
      intro z
      have := congrArg List.length z
      rw [List.length_set] at this
      exact hc (List.length_eq_zero_iff.mp this)
    · exact ⟨Int.emod_nonneg _ (by omega), Int.emod_lt_of_pos _ (by omega), hc⟩
theorem take_spec {g : G} {m : Int} (hg : StOk g) (h1 : 1 ≤ m) (h2 : m < 1073741824) : ∃ r g', q__law_take [.st, .int m] g = .ok (.frz (.int r)) g' ∧ StOk g' ∧ 0 ≤ r ∧ r < m := by
  obtain ⟨i, cs, e, hc⟩ := hg
  obtain ⟨a, b, c⟩ := takeF_ok (i := i) hc h1
  refine ⟨_, ⟨some (takeF i cs m).2⟩, ?_, ⟨_, _, rfl, c⟩, a, b⟩
  show qTake [.st, .int m] g = _
  unfold qTake
  rw [e]
  have : (cs.isEmpty || decide (1073741824 ≤ m)) = false := by
    have h3 : cs.isEmpty = false := by cases cs <;> first | exact absurd rfl hc | rfl
    rw [h3]; simp; omega
  simp only [this]
  rfl
structure Dr (p : Int × Int) : Prop where
  ok : OkP 5 p
  n0 : -20 ≤ p.1
  n1 : p.1 ≤ 20
  d1 : p.2 ≤ 12
theorem part_draw {g : G} (hg : StOk g) : ∃ p g', q__law_part [.st] g = .ok (.frz (PP p)) g' ∧ StOk g' ∧ Dr p := by
  obtain ⟨a, g1, e1, h1, a0, a1⟩ := take_spec (m := 41) hg (by decide) (by decide)
  obtain ⟨b, g2, e2, h2, b0, b1⟩ := take_spec (m := 12) h1 (by decide) (by decide)
  have hb : (1 + b) ≠ 0 := by omega
  have p := fr_spec (a := a - 20) (b := 1 + b) (k := 5) hb (by show _ < 32; omega) (by decide) (by decide) g2
  refine ⟨(nN (a - 20) (1 + b), nD (a - 20) (1 + b)), g2, ?_, h2, ?_, ?_, ?_, ?_⟩
  · rw [nrm_eq] at p
    simp [q__law_part, callB, m__law_part, sRet, eCall, args, eB2, evO, Zs.at, Zs.res, O.bind, S.d, fin, eC, eV, fSub, fPlus, e1, e2, p]
  · exact nrm_ok hb (by show _ < 32; omega) (by show _ < 32; omega)
  all_goals
    have g0 := gcd_pos (a := a - 20) hb
    have l1 := nat_ediv_le g0 (Int.gcd_dvd_left (a - 20) (1 + b))
    have l2 := nat_ediv_le g0 (Int.gcd_dvd_right (a - 20) (1 + b))
    have hn : ¬ (1 + b < 0) := by omega
    simp only [nN, nD, hn, if_false]
    omega
end Zc

noncomputable section
namespace Zc
open PySem Zn
def m__law_below : SS := (sSeq (sAsg (.nm 1) (eB1 fNeg (.e (eC (.int 50))))) (sSeq (sFor (.nm 2) (iR2 (.e (eB1 fNeg (.e (eC (.int 50))))) (.e (eC (.int 51)))) (sAsg (.nm 1) (eIf (tB2 fLe (.e (eCall q__law_sign [(eTup [(eV 2), (eC (.int 1))]), (eV 0)])) (.e (eC (.int 0)))) (eV 2) (eV 1)))) (sRet (eMv 1))))
def q__law_below : Fn := callB 3 m__law_below
def m__law_scaled : SS := (sSeq (sAsg (.tp [(.nm 2), (.nm 3)]) (eTup [(eCall q_scaled [(eB1 fTupOf (.v 1))]), (eC (.int 0))])) (sSeq (sIf (tOr (tB2 fNe (.e (eB1 fLen (.v 2))) (.e (eB1 fLen (.v 1)))) (tB2 fGt (.e (eB1 fLen (.e (eLc (.nm 5) (iR1 (.e (eB1 fLen (.v 1)))) (tOr (tB2 fNe (.e (eB2 (vB fGt) (.e (eB2 fIx (.v 2) (.v 5))) (.e (eC (.int 0))))) (.e (eB2 (vB fGt) (.e (eB2 fIx (.e (eB2 fIx (.v 1) (.v 5))) (.e (eC (.int 0))))) (.e (eC (.int 0)))))) (tB2 fNe (.e (eB2 (vB fLt) (.e (eB2 fIx (.v 2) (.v 5))) (.e (eC (.int 0))))) (.e (eB2 (vB fLt) (.e (eB2 fIx (.e (eB2 fIx (.v 1) (.v 5))) (.e (eC (.int 0))))) (.e (eC (.int 0))))))) (eV 5) [5])))) (.e (eC (.int 0))))) (sRet (eC (.bl false))) sNx) (sSeq (sFor (.nm 4) (iR1 (.e (eB1 fLen (.v 1)))) (sSeq (sAsg (.nm 3) (eCall q_divisor [(eV 3), (eB2 fIx (.v 2) (.v 4))])) (sFor (.nm 5) (iR1 (.e (eB1 fLen (.v 1)))) (sIf (tB2 fNe (.e (eCall q__law_mul [(eTup [(eB2 fIx (.v 2) (.v 4)), (eC (.int 1))]), (eB2 fIx (.v 1) (.v 5))])) (.e (eCall q__law_mul [(eTup [(eB2 fIx (.v 2) (.v 5)), (eC (.int 1))]), (eB2 fIx (.v 1) (.v 4))]))) (sRet (eC (.bl false))) sNx)))) (sSeq (sIf (tB2 fNotInF (.v 3) (.e (eTup [(eC (.int 0)), (eC (.int 1))]))) (sRet (eC (.bl false))) sNx) (sSeq (sPar [6, 7] [(eLc (.nm 8) (iSeq (eV 1)) tYes (eCall q__law_part [(eV 0)]) [8]), (eTup [(eC (.int 0)), (eC (.int 1))])]) (sSeq (sFor (.nm 5) (iR1 (.e (eB1 fLen (.v 2)))) (sAsg (.nm 7) (eCall q__law_add [(eV 7), (eCall q__law_mul [(eTup [(eB2 fIx (.v 2) (.v 5)), (eC (.int 1))]), (eB2 fIx (.v 6) (.v 5))])]))) (sRet (eB2 (vB fEq) (.e (eCall q_dot [(eV 2), (eV 6)])) (.v 7)))))))))
def q__law_scaled : Fn := callB 9 m__law_scaled
def m__law_parts : SS := (sSeq (sPar [1, 2] [(eCall q__law_part [(eV 0)]), (eCall q__law_part [(eV 0)])]) (sSeq (sAsg (.nm 3) (eLc (.nm 9) (iR1 (.e (eCall q__law_take [(eV 0), (eC (.int 5))]))) tYes (eCall q__law_part [(eV 0)]) [9])) (sSeq (sPar [4, 5] [(eB2 fSub (.e (eCall q__law_take [(eV 0), (eC (.int 60))])) (.e (eC (.int 30)))), (eB2 fSub (.e (eCall q__law_take [(eV 0), (eC (.int 60))])) (.e (eC (.int 30))))]) (sSeq (sIf (tOr (tB2 fNe (.e (eCall q_plus [(eV 1), (eV 2)])) (.e (eCall q__law_add [(eV 1), (eV 2)]))) (tOr (tB2 fNe (.e (eCall q_minus [(eV 1), (eV 2)])) (.e (eCall q__law_sub [(eV 1), (eV 2)]))) (tB2 fNe (.e (eCall q_times [(eV 1), (eV 2)])) (.e (eCall q__law_mul [(eV 1), (eV 2)]))))) (sRet (eC (.bl false))) sNx) (sSeq (sIf (tAnd (tB2 fNe (.e (eB2 fIx (.v 2) (.e (eC (.int 0))))) (.e (eC (.int 0)))) (tB2 fNe (.e (eCall q_over [(eV 1), (eV 2)])) (.e (eCall q__law_mul [(eV 1), (eCall q__law_fr [(eB2 fTimes (.e (eB2 fIx (.v 2) (.e (eC (.int 1))))) (.e (eIf (tB2 fGt (.e (eB2 fIx (.v 2) (.e (eC (.int 0))))) (.e (eC (.int 0)))) (eC (.int 1)) (eB1 fNeg (.e (eC (.int 1))))))), (eB1 fAbs (.e (eB2 fIx (.v 2) (.e (eC (.int 0))))))])])))) (sRet (eC (.bl false))) sNx) (sSeq (sIf (tOr (tB2 fNe (.e (eCall q_is_less [(eV 1), (eV 2)])) (.e (eB2 (vB fLt) (.e (eCall q__law_sign [(eV 1), (eV 2)])) (.e (eC (.int 0)))))) (tOr (tB2 fNe (.e (eCall q_divisor [(eV 4), (eV 5)])) (.e (eCall q__law_divisor [(eV 4), (eV 5)]))) (tAnd (tB2 fNe (.v 5) (.e (eC (.int 0)))) (tB2 fNe (.e (eCall q_part [(eV 4), (eV 5)])) (.e (eCall q__law_fr [(eB2 fTimes (.v 4) (.e (eIf (tB2 fGt (.v 5) (.e (eC (.int 0)))) (eC (.int 1)) (eB1 fNeg (.e (eC (.int 1))))))), (eB1 fAbs (.v 5))])))))) (sRet (eC (.bl false))) sNx) (sSeq (sAsg (.nm 6) (eTup [(eC (.int 0)), (eC (.int 1))])) (sSeq (sFor (.nm 7) (iSeq (eV 3)) (sAsg (.nm 6) (eCall q__law_add [(eV 6), (eV 7)]))) (sSeq (sIf (tOr (tB2 fNe (.e (eCall q_total [(eV 3)])) (.v 6)) (tOr (tB2 fNotB (.e (eCall q_are_parts [(eB1 fTupOf (.v 3)), (eB1 fLen (.v 3))])) (.e (eC (.bl true)))) (tOr (tB2 fNotB (.e (eCall q_are_parts [(eV 3), (eB1 fLen (.v 3))])) (.e (eC (.bl false)))) (tB2 fNotB (.e (eCall q_are_parts [(eB1 fTupOf (.v 3)), (eB2 fPlus (.e (eB1 fLen (.v 3))) (.e (eC (.int 1))))])) (.e (eC (.bl false))))))) (sRet (eC (.bl false))) sNx) (sSeq (sAsg (.nm 8) (eCall q_least_of [(eV 3)])) (sSeq (sIf (tOr (tB2 fNe (.e (eB2 (vB fIsN) (.v 8) (.e (eC .non)))) (.e (eB2 (vB fEq) (.v 3) (.e (eLst []))))) (tAnd (tB2 fNotN (.v 8) (.e (eC .non))) (tOr (tB2 fNotIn (.v 8) (.v 3)) (tB2 fGt (.e (eB1 fLen (.e (eLc (.nm 7) (iSeq (eV 3)) (tB2 fLt (.e (eCall q__law_sign [(eV 7), (eV 8)])) (.e (eC (.int 0)))) (eV 7) [7])))) (.e (eC (.int 0))))))) (sRet (eC (.bl false))) sNx) (sSeq (sIf (tOr (tB2 fNe (.e (eCall q_whole_below [(eV 1)])) (.e (eCall q__law_below [(eV 1)]))) (tOr (tB2 fNe (.e (eCall q_whole_above [(eV 1)])) (.e (eB1 fNeg (.e (eCall q__law_below [(eCall q__law_sub [(eTup [(eC (.int 0)), (eC (.int 1))]), (eV 1)])]))))) (tB2 fNe (.e (eCall q_is_whole_part [(eV 1)])) (.e (eB2 (vB fEq) (.e (eB2 fIx (.v 1) (.e (eC (.int 1))))) (.e (eC (.int 1)))))))) (sRet (eC (.bl false))) sNx) (sSeq (sIf (tB2 fNe (.e (eLc (.nm 10) (iSeq (eTup [(eV 1), (eTup [(eC (.int 2)), (eC (.int 4))]), (eTup [(eC (.int 1)), (eC (.int 0))]), (eTup [(eC (.int 1)), (eB1 fNeg (.e (eC (.int 2))))]), (eTup [(eC (.int 1)), (eC (.bl true))]), (eLst [(eC (.int 1)), (eC (.int 2))]), (eTup [(eC (.int 1))]), (eC .non), (eC (.int 3))])) tYes (eCall q_is_part [(eV 10)]) [10])) (.e (eB2 fPlus (.e (eLst [(eC (.bl true))])) (.e (eB2 fTimes (.e (eLst [(eC (.bl false))])) (.e (eC (.int 8)))))))) (sRet (eC (.bl false))) sNx) (sRet (eCall q__law_scaled [(eV 0), (eV 3)])))))))))))))))
def q__law_parts : Fn := callB 11 m__law_parts
def m_law : SS := (sSeq (sAsg (.nm 1) (eCall q__law_state [(eV 0)])) (sSeq (sFor (.nm 2) (iR1 (.e (eC (.int 6)))) (sIf (tNot (tVal (eCall q__law_parts [(eV 1)]))) (sRet (eC (.bl false))) sNx)) (sSeq (sAsg (.nm 3) (eLst [(eMk "Unfit" ["line", "place", "word"] [(eC (.int 3)), (eC (.int 7)), (eC (.str ("w" : PySem.Str)))]), (eMk "Great" ["limit"] [(eC (.str ("g" : PySem.Str)))]), (eMk "Misstep" ["word"] [(eC (.str ("m" : PySem.Str)))])])) (sSeq (sIf (tOr (tB2 fGt (.e (eB1 fLen (.e (eLc (.nm 4) (iSeq (eV 3)) (tOr (tNot (tVal (eB1 (fIsX [("Unfit", true), ("Great", true), ("Misstep", true)]) (.v 4)))) (tNot (tVal (eB1 (fIsX [("Unfit", true), ("Great", true), ("Misstep", true)]) (.v 4))))) (eV 4) [4])))) (.e (eC (.int 0)))) (tOr (tVal (eB1 (fIsX [("Unfit", false), ("Great", false), ("Misstep", true)]) (.e (eB2 fIx (.v 3) (.e (eC (.int 1))))))) (tVal (eB1 (fIsX [("Unfit", false), ("Great", true), ("Misstep", false)]) (.e (eB2 fIx (.v 3) (.e (eC (.int 2))))))))) (sRet (eC (.bl false))) sNx) (sRet (eB2 (vB fEq) (.e (eTup [(eB1 (fAttr ["Unfit"] "line") (.e (eB2 fIx (.v 3) (.e (eC (.int 0)))))), (eB1 (fAttr ["Unfit"] "place") (.e (eB2 fIx (.v 3) (.e (eC (.int 0)))))), (eB1 (fAttr ["Unfit", "Misstep"] "word") (.e (eB2 fIx (.v 3) (.e (eC (.int 0)))))), (eB1 (fAttr ["Great"] "limit") (.e (eB2 fIx (.v 3) (.e (eC (.int 1)))))), (eB1 (fAttr ["Unfit", "Misstep"] "word") (.e (eB2 fIx (.v 3) (.e (eC (.int 2))))))])) (.e (eTup [(eC (.int 3)), (eC (.int 7)), (eC (.str ("w" : PySem.Str))), (eC (.str ("g" : PySem.Str))), (eC (.str ("m" : PySem.Str)))]))))))))
def q_law : Fn := callB 5 m_law
end Zc
end

/-! K10a: k10: sums, the least, is_part. -/
namespace Zc
open PySem Zn
theorem sum_loop {t : Tg} {b : SS} {B : Nat} (I : Int × Int → Zs → Prop) (hb : ∀ acc p K z, OkP K acc → OkP K p → K ≤ B → I acc z → ∃ z', ((asg t (.frz (PP p)) z).bind fun _ z1 => b z1) = .ok .nx z' ∧ I (addp acc p) z') :
    ∀ (ps : List (Int × Int)) (acc : Int × Int) (K : Nat) (z : Zs), OkP K acc → (∀ p ∈ ps, OkP K p) → grow K ps.length ≤ B → I acc z → ∃ z', forL t b (ps.map PP) z = .ok .nx z' ∧ I (ps.foldl addp acc) z'
  | [], acc, K, z, _, _, _, hI => ⟨z, rfl, hI⟩
  | p :: ps, acc, K, z, o, op, hB, hI => by
    have hKB : K ≤ B := Nat.le_trans (grow_le (ps.length + 1) K) hB
    have o1 := op p List.mem_cons_self
    obtain ⟨z', h1, h2⟩ := hb acc p K z o o1 hKB hI
    obtain ⟨z2, r1, r2⟩ := sum_loop I hb ps (addp acc p) (2 * K + 1) z' (addp_ok o o1) (fun q hq => (op q (List.mem_cons_of_mem _ hq)).mono (by omega)) hB h2
    refine ⟨z2, ?_, r2⟩
    rw [← r1, List.map_cons]
    conv => lhs; unfold forL
    cases ha : asg t (.frz (PP p)) z with
    | ok u z1 =>
      rw [ha] at h1
      have h1' : b z1 = .ok .nx z' := h1
      simp only [O.bind, h1']
    | exc e z1 => rw [ha] at h1; cases h1
    | stk => rw [ha] at h1; cases h1
def row (ps : List (Int × Int)) : List D := ps.map PP
theorem total_spec {ps : List (Int × Int)} {K : Nat} {g : G} (h1 : 1 ≤ K) (o : ∀ p ∈ ps, OkP K p) (hK : grow K ps.length ≤ 4000) : q_total [.lst (row ps)] g = .ok (.frz (PP (ps.foldl addp (0, 1)))) g := by
  obtain ⟨z', e, x, hz⟩ := sum_loop (t := .nm 2) (b := (sAsg (.nm 1) (eCall q_plus [(eV 1), (eV 2)]))) (B := 4000) (fun acc z => ∃ x, z = ⟨[some (.frz (.lst (row ps))), some (.frz (PP acc)), x], g⟩)
    (fun acc p K z o o' hK ⟨x, hz⟩ => by
      subst hz
      refine ⟨_, ?_, some (.frz (PP p)), rfl⟩
      simp [asg, Zs.put, O.bind, sAsg, eCall, args, eV, S.d, plus_p o o' hK]) ps (0, 1) K ⟨[some (.frz (.lst (row ps))), some (.frz (PP (0, 1))), none], g⟩ (ok01.mono h1) o hK ⟨none, rfl⟩
  subst hz
  refine callB_rt (z := ⟨[some (.frz (.lst (row ps))), some (.frz (PP (ps.foldl addp (0, 1)))), x], g⟩) (b := m_total) (n := 3) ?_
  refine (seq_nx (z' := ⟨[some (.frz (.lst (row ps))), some (.frz (PP (0, 1))), none], g⟩) ?_).trans ?_
  · simp [sAsg, eTup, args, eC, O.bind, S.d, asg, Zs.put, P, sizeLine_eq]
  refine (seq_for (l := row ps) (z1 := ⟨[some (.frz (.lst (row ps))), some (.frz (PP (0, 1))), none], g⟩) ?_ e).trans ?_
  · simp [iSeq, eV, O.bind, S.d]
  · simp [sRet, eMv, O.bind]
/-! ### the least -/
def lessp (p q : Int × Int) : Bool := decide (p.1 * q.2 < q.1 * p.2)
def leastS (b : Option (Int × Int)) (p : Int × Int) : Option (Int × Int) := match b with
  | none => some p
  | some q => if lessp p q then some p else some q
def encO : Option (Int × Int) → D
  | none => .non
  | some p => PP p
theorem forL_sim {α β : Type} {t : Tg} {b : SS} (enc : α → D) (f : β → α → β) (I : β → Zs → Prop) (V : β → Prop) : ∀ (l : List α) (acc : β) (z : Zs), I acc z → V acc → (∀ a ∈ l, ∀ acc z, I acc z → V acc → V (f acc a) ∧ ∃ z', ((asg t (.frz (enc a)) z).bind fun _ z1 => b z1) = .ok .nx z' ∧ I (f acc a) z') →
    ∃ z', forL t b (l.map enc) z = .ok .nx z' ∧ I (l.foldl f acc) z'
  | [], acc, z, hI, _, _ => ⟨z, rfl, hI⟩
  | a :: l, acc, z, hI, hV, h => by
    obtain ⟨hv, z', h1, h2⟩ := h a List.mem_cons_self acc z hI hV
    obtain ⟨z2, r1, r2⟩ := forL_sim enc f I V l (f acc a) z' h2 hv fun y hy => h y (List.mem_cons_of_mem _ hy)
    refine ⟨z2, ?_, r2⟩
    rw [← r1, List.map_cons]
    conv => lhs; unfold forL
    cases ha : asg t (.frz (enc a)) z with
    | ok u z1 =>
      rw [ha] at h1
      have h1' : b z1 = .ok .nx z' := h1
      simp only [O.bind, h1']
    | exc e z1 => rw [ha] at h1; cases h1
    | stk => rw [ha] at h1; cases h1
theorem least_spec {ps : List (Int × Int)} {K : Nat} {g : G} (o : ∀ p ∈ ps, OkP K p) (hK : K ≤ 4000) : q_least_of [.lst (row ps)] g = .ok (.frz (encO (ps.foldl leastS none))) g := by
  obtain ⟨z', e, x, hz⟩ := forL_sim (t := .nm 2) (b := (sIf (tOr (tB2 fIsN (.v 1) (.e (eC .non))) (tVal (eCall q_is_less [(eV 2), (eV 1)]))) (sAsg (.nm 1) (eV 2)) sNx)) PP leastS (fun acc z => ∃ x, z = ⟨[some (.frz (.lst (row ps))), some (.frz (encO acc)), x], g⟩) (fun acc => ∀ q, acc = some q → OkP K q)
    ps none ⟨[some (.frz (.lst (row ps))), some (.frz .non), none], g⟩ ⟨none, rfl⟩ (fun q hq => nomatch hq) (fun p hp acc z ⟨x, hz⟩ hV => by
      subst hz
      have op := o p hp
      cases acc with
      | none =>
        refine ⟨fun q hq => by cases hq; exact op, _, ?_, some (.frz (PP p)), rfl⟩
        simp [asg, Zs.put, O.bind, sIf, tOr, tB2, evO, Zs.at, Zs.res, S.d, eC, fIsN, D.isN, encO, finB, sAsg, eV, leastS]
      | some q =>
        have oq := hV q rfl
        by_cases hl : lessp p q = true
        · refine ⟨fun r hr => ?_, _, ?_, some (.frz (PP p)), rfl⟩
          · simp [leastS, hl] at hr; subst hr; exact op
          · have hl' : p.1 * q.2 < q.1 * p.2 := of_decide_eq_true hl
            simp [asg, Zs.put, O.bind, sIf, tOr, tB2, evO, Zs.at, Zs.res, S.d, eC, fIsN, D.isN, encO, finB, sAsg, eV, leastS, tVal, eCall, args, is_less_spec op oq hK, hl, hl']
            try simp [P, D.isN, O.bind]
        · refine ⟨fun r hr => ?_, _, ?_, some (.frz (PP p)), rfl⟩
          · simp [leastS, hl] at hr; subst hr; exact oq
          · have hl' : ¬ (p.1 * q.2 < q.1 * p.2) := fun z => hl (decide_eq_true z)
            simp [asg, Zs.put, O.bind, sIf, tOr, tB2, evO, Zs.at, Zs.res, S.d, eC, fIsN, D.isN, encO, finB, sAsg, eV, leastS, tVal, eCall, args, is_less_spec op oq hK, hl, hl', sNx]
            try simp [P, D.isN, O.bind])
  subst hz
  refine callB_rt (z := ⟨[some (.frz (.lst (row ps))), some (.frz (encO (ps.foldl leastS none))), x], g⟩) (b := m_least_of) (n := 3) ?_
  refine (seq_nx (z' := ⟨[some (.frz (.lst (row ps))), some (.frz .non), none], g⟩) ?_).trans ?_
  · simp [sAsg, eC, O.bind, S.d, asg, Zs.put]
  refine (seq_for (l := row ps) (z1 := ⟨[some (.frz (.lst (row ps))), some (.frz .non), none], g⟩) ?_ e).trans ?_
  · simp [iSeq, eV, O.bind, S.d]
  · simp [sRet, eMv, O.bind]
theorem less_tr {p q r : Int × Int} (hp : 0 < p.2) (hq : 0 < q.2) (hr : 0 < r.2) (h1 : ¬ lessp r q = true) (h2 : lessp p q = true) : ¬ lessp r p = true := by
  unfold lessp at *
  simp at *
  have a := Int.mul_le_mul_of_nonneg_right h1 (Int.le_of_lt hp)
  have b := Int.mul_lt_mul_of_pos_right h2 hr
  have e1 : q.1 * r.2 * p.2 = q.1 * p.2 * r.2 := by grind
  have c : q.2 * (p.1 * r.2) ≤ q.2 * (r.1 * p.2) := by
    have e2 : q.2 * (p.1 * r.2) = p.1 * q.2 * r.2 := by grind
    have e3 : q.2 * (r.1 * p.2) = r.1 * q.2 * p.2 := by grind
    rw [e2, e3]; omega
  exact Int.le_of_mul_le_mul_left c hq
theorem least_all : ∀ (ps : List (Int × Int)) (acc : Option (Int × Int)) (done : List (Int × Int)), (∀ p ∈ ps, 0 < p.2) → (∀ p ∈ done, 0 < p.2) → (match acc with | none => done = [] | some q => q ∈ done ∧ ∀ r ∈ done, ¬ lessp r q = true) →
    match ps.foldl leastS acc with | none => done = [] ∧ ps = [] | some q => (q ∈ done ∨ q ∈ ps) ∧ ∀ r, r ∈ done ∨ r ∈ ps → ¬ lessp r q = true
  | [], acc, done, _, _, h => by
    cases acc with
    | none => exact ⟨h, rfl⟩
    | some q => exact ⟨.inl h.1, fun r hr => h.2 r (hr.elim id fun z => nomatch z)⟩
  | p :: ps, acc, done, hp, hd, h => by
    have p0 := hp p List.mem_cons_self
    have self : ∀ x : Int × Int, ¬ lessp x x = true := fun x => by unfold lessp; simp
    have key : ∀ acc' : Option (Int × Int), leastS acc p = acc' → (match acc' with | none => (done ++ [p]) = [] | some q => q ∈ done ++ [p] ∧ ∀ r ∈ done ++ [p], ¬ lessp r q = true) := by
      intro acc' ea
      subst ea
      cases acc with
      | none =>
        have h' : done = [] := h
        subst h'
        exact ⟨by simp, fun r hr => by simp at hr; subst hr; exact self _⟩
      | some q =>
        obtain ⟨m, hq⟩ := h
        by_cases hl : lessp p q = true
        · simp only [leastS, hl, if_true]
          refine ⟨by simp, fun r hr => ?_⟩
          rcases List.mem_append.mp hr with hr | hr
          · exact less_tr p0 (hd q m) (hd r hr) (hq r hr) hl
          · simp at hr; subst hr; exact self _
        · simp only [leastS, hl]
          refine ⟨List.mem_append_left _ m, fun r hr => ?_⟩
          rcases List.mem_append.mp hr with hr | hr
          · exact hq r hr
          · simp at hr; subst hr; exact hl
    have r := least_all ps (leastS acc p) (done ++ [p]) (fun q hq => hp q (List.mem_cons_of_mem _ hq)) (fun q hq => (List.mem_append.mp hq).elim (hd q) fun z => by simp at z; subst z; exact p0) (key _ rfl)
    rw [List.foldl_cons]
    cases hf : ps.foldl leastS (leastS acc p) with
    | none => rw [hf] at r; simp at r
    | some q =>
      rw [hf] at r
      obtain ⟨a, b⟩ := r
      refine ⟨?_, fun r hr => b r ?_⟩
      · rcases a with a | a
        · rcases List.mem_append.mp a with a | a
          · exact .inl a
          · simp at a; subst a; exact .inr List.mem_cons_self
        · exact .inr (List.mem_cons_of_mem _ a)
      · rcases hr with hr | hr
        · exact .inl (List.mem_append_left _ hr)
        · rcases List.mem_cons.mp hr with rfl | hr
          · exact .inl (by simp)
          · exact .inr hr
end Zc

/-! K10b: k10: is_part, are_parts, divisors, whole numbers below. -/
namespace Zc
open PySem Zn
theorem isi_comp (a b : Int) (g : G) : eLc (.nm 1) (iSeq (eV 0)) tYes (eAnd (eB1 (fIsi "int") (.v 1)) (eNot (eB1 (fIsi "bool") (.v 1)))) [1] ⟨[some (.frz (P a b)), none], g⟩ = .ok (.own (.lst [.bl true, .bl true])) ⟨[some (.frz (P a b)), none], g⟩ := by
  simp [eLc, iSeq, eV, O.bind, S.d, P, wipe, lcL, asg, Zs.put, tYes, eAnd, eB1, evO, Zs.at, Zs.res, fin, fIsi, D.ty, isTy, eNot, unw, unwR, sizeLine_eq]
theorem is_part_tup (a b : Int) (g : G) : q_is_part [P a b] g = .ok (.frz (.bl (decide (1 ≤ b) && decide ((Int.gcd a b : Int) = 1)))) g := by
  have h := isi_comp a b g
  by_cases hb : 1 ≤ b
  · simp [q_is_part, callB, m_is_part, sSeq, sIf, tOr, tNot, tVal, eB1, evO, Zs.at, Zs.res, O.bind, S.d, fin, fIsi, D.ty, isTy, P, tB2, fLen, eC, fNe, eqD_int, finB, sNx]
    simp [P] at h
    rw [h]
    simp [O.bind, S.d, Zs.res, fAll, boolsD, fin, sRet, eAnd, eB2, evO, Zs.at, vB, fGe, fEq, eqD_int, eC, eCall, args, divisor_spec, hb]
    simp [O.bind, S.d, Zs.res, fIx, L2.atI, L2.ixN, fin, vB, fGe, hb, divisor_spec, fEq, eqD_int]
  · simp [q_is_part, callB, m_is_part, sSeq, sIf, tOr, tNot, tVal, eB1, evO, Zs.at, Zs.res, O.bind, S.d, fin, fIsi, D.ty, isTy, P, tB2, fLen, eC, fNe, eqD_int, finB, sNx]
    simp [P] at h
    rw [h]
    simp [O.bind, S.d, Zs.res, fAll, boolsD, fin, sRet, eAnd, eB2, evO, Zs.at, vB, fGe, fEq, eqD_int, eC, eCall, args, divisor_spec, hb]
    simp [O.bind, S.d, Zs.res, fIx, L2.atI, L2.ixN, fin, vB, fGe, hb, divisor_spec, fEq, eqD_int]
theorem is_part_ok {p : Int × Int} {k : Nat} (o : OkP k p) (g : G) : q_is_part [PP p] g = .ok (.frz (.bl true)) g := by
  rw [is_part_tup]
  have h1 : (1 : Int) ≤ p.2 := by have := o.pos; omega
  have h2 : (Int.gcd p.1 p.2 : Int) = 1 := by rw [o.co]; rfl
  simp [h1, h2]
theorem is_part_odd (g : G) : q_is_part [.tup [.int 1, .bl true]] g = .ok (.frz (.bl false)) g ∧ q_is_part [.lst [.int 1, .int 2]] g = .ok (.frz (.bl false)) g ∧ q_is_part [.tup [.int 1]] g = .ok (.frz (.bl false)) g ∧ q_is_part [.non] g = .ok (.frz (.bl false)) g ∧ q_is_part [.int 3] g = .ok (.frz (.bl false)) g := by
  refine ⟨?_, ?_, ?_, ?_, ?_⟩ <;>
  simp [q_is_part, callB, m_is_part, sSeq, sIf, tOr, tNot, tVal, eB1, evO, Zs.at, Zs.res, O.bind, S.d, fin, fIsi, D.ty, isTy, P, tB2, fLen, eC, fNe, eqD_int, finB, sNx, eLc, iSeq, eV, wipe, lcL, asg, Zs.put, tYes, eAnd, eNot, unw, unwR, sizeLine_eq, fAll, boolsD, sRet]
theorem filterMap_const {α β : Type} (l : List α) (b : β) : l.filterMap (fun _ => some b) = l.map fun _ => b := by
  induction l with
  | nil => rfl
  | cons a l ih => simp [ih]
theorem bools_true : ∀ l : List (Int × Int), boolsD (l.map fun _ => D.bl true) = some (l.map fun _ => true)
  | [] => rfl
  | _ :: l => by
    show (boolsD (l.map fun _ => D.bl true)).map (true :: ·) = _
    rw [bools_true l]; rfl
theorem are_parts_tup {ps : List (Int × Int)} {k : Nat} (o : ∀ p ∈ ps, OkP k p) (hl : ps.length ≤ 1000) (m : Int) (g : G) : q_are_parts [.tup (row ps), .int m] g = .ok (.frz (.bl (decide ((ps.length : Int) = m)))) g := by
  by_cases hm : (ps.length : Int) = m
  · have e := lcL_map (t := .nm 2) (c := tYes) (e := eCall q_is_part [(eV 2)]) (vs := [2]) (z := ⟨[some (.frz (.tup (row ps))), some (.frz (.int m)), none], g⟩) (fun _ => some (.bl true)) (row ps) [] (by simp [row, sizeLine_eq]; omega) (fun x hx => by
      obtain ⟨p, hp, rfl⟩ := List.mem_map.mp hx
      refine ⟨⟨[some (.frz (.tup (row ps))), some (.frz (.int m)), some (.frz (PP p))], g⟩, by simp [asg, Zs.put], .inr ⟨⟨[some (.frz (.tup (row ps))), some (.frz (.int m)), some (.frz (PP p))], g⟩, .frz (.bl true), ⟨[some (.frz (.tup (row ps))), some (.frz (.int m)), some (.frz (PP p))], g⟩, rfl, ?_, rfl, ?_⟩⟩
      · simp [eCall, args, eV, O.bind, S.d, is_part_ok (o p hp)]
      · simp [wipe])
    rw [filterMap_const] at e
    have hlen : (row ps).length = ps.length := by simp [row]
    have eb : (row ps).map (fun _ => D.bl true) = ps.map fun _ => D.bl true := by simp [row]
    simp [q_are_parts, callB, m_are_parts, sRet, eAnd, eB1, eB2, evO, Zs.at, Zs.res, O.bind, S.d, fin, fIsi, D.ty, isTy, fLen, vB, fEq, eqD_int, hlen, hm, eLc, iSeq, eV, wipe]
    simp at e
    rw [e]
    simp [unw, unwR, O.bind, Zs.res, S.d, fAll, eb, bools_true, fin]
  · have hlen : (row ps).length = ps.length := by simp [row]
    simp [q_are_parts, callB, m_are_parts, sRet, eAnd, eB1, eB2, evO, Zs.at, Zs.res, O.bind, S.d, fin, fIsi, D.ty, isTy, fLen, vB, fEq, eqD_int, hlen, hm]
theorem are_parts_lst (l : List D) (m : Int) (g : G) : q_are_parts [.lst l, .int m] g = .ok (.frz (.bl false)) g := by
  simp [q_are_parts, callB, m_are_parts, sRet, eAnd, eB1, evO, Zs.at, Zs.res, O.bind, S.d, fin, fIsi, D.ty, isTy]
/-! ### the law's divisor -/
def dvS (a b : Int) (best k : Int) : Int := if a / k * k = a ∧ b / k * k = b then k else best
theorem dv_iff {a k : Int} (hk : k ≠ 0) : a / k * k = a ↔ k ∣ a := ⟨fun h => ⟨a / k, by rw [Int.mul_comm]; exact h.symm⟩, fun h => Int.ediv_mul_cancel h⟩
theorem dv_fold (a b : Int) : ∀ M : Nat, let r := ((List.range M).map fun i => (1 : Int) + (i : Nat)).foldl (dvS a b) 0
    (r = 0 ∧ ∀ j : Int, 1 ≤ j → j ≤ M → ¬ (j ∣ a ∧ j ∣ b)) ∨ (1 ≤ r ∧ r ≤ M ∧ r ∣ a ∧ r ∣ b ∧ ∀ j : Int, 1 ≤ j → j ≤ M → j ∣ a → j ∣ b → j ≤ r)
  | 0 => .inl ⟨rfl, fun j h1 h2 => by simp at h2; omega⟩
  | M + 1 => by
    have ih := dv_fold a b M
    dsimp only at ih ⊢
    rw [List.range_succ, List.map_append, List.foldl_append]
    generalize ((List.range M).map fun i => (1 : Int) + (i : Nat)).foldl (dvS a b) 0 = r at ih
    have hk : (1 + (M : Int)) ≠ 0 := by omega
    by_cases hd : (1 + (M : Int)) ∣ a ∧ (1 + (M : Int)) ∣ b
    · right
      have e : [(M : Nat)].map (fun i => (1 : Int) + (i : Nat)) = [1 + (M : Int)] := rfl
      rw [e]
      have : List.foldl (dvS a b) r [1 + (M : Int)] = 1 + M := by
        show dvS a b r (1 + M) = _
        unfold dvS
        rw [if_pos ⟨(dv_iff hk).mpr hd.1, (dv_iff hk).mpr hd.2⟩]
      rw [this]
      exact ⟨by omega, by push_cast; omega, hd.1, hd.2, fun j h1 h2 _ _ => by push_cast at h2; omega⟩
    · have e : [(M : Nat)].map (fun i => (1 : Int) + (i : Nat)) = [1 + (M : Int)] := rfl
      rw [e]
      have : List.foldl (dvS a b) r [1 + (M : Int)] = r := by
        show dvS a b r (1 + M) = _
        unfold dvS
        rw [if_neg fun z => hd ⟨(dv_iff hk).mp z.1, (dv_iff hk).mp z.2⟩]
      rw [this]
      rcases ih with ⟨h0, h⟩ | ⟨h1, h2, h3, h4, h5⟩
      · left
        refine ⟨h0, fun j j1 j2 => ?_⟩
        by_cases hj : j = 1 + M
        · subst hj; exact hd
        · exact h j j1 (by push_cast at j2; omega)
      · right
        refine ⟨h1, by push_cast; omega, h3, h4, fun j j1 j2 ja jb => ?_⟩
        by_cases hj : j = 1 + M
        · subst hj; exact absurd ⟨ja, jb⟩ hd
        · exact h5 j j1 (by push_cast at j2; omega) ja jb
theorem dv_gcd {a b : Int} (ha : 0 ≤ a) (hb : 0 ≤ b) : ((List.range (max a b).toNat).map fun i => (1 : Int) + (i : Nat)).foldl (dvS a b) 0 = Int.gcd a b := by
  have h := dv_fold a b (max a b).toNat
  dsimp only at h
  generalize ((List.range (max a b).toNat).map fun i => (1 : Int) + (i : Nat)).foldl (dvS a b) 0 = r at h
  have hM : ((max a b).toNat : Int) = max a b := by omega
  rw [hM] at h
  have gl : (Int.gcd a b : Int) ∣ a := Int.gcd_dvd_left ..
  have gr : (Int.gcd a b : Int) ∣ b := Int.gcd_dvd_right ..
  by_cases hz : a = 0 ∧ b = 0
  · obtain ⟨rfl, rfl⟩ := hz
    rcases h with ⟨h0, _⟩ | ⟨h1, h2, _⟩
    · rw [h0]; rfl
    · omega
  · have g0 : (0 : Int) < Int.gcd a b := by
      have : 0 < Int.gcd a b := Int.gcd_pos_iff.mpr (by omega)
      omega
    have gM : (Int.gcd a b : Int) ≤ max a b := by
      by_cases h1 : a = 0
      · have hb0 : 0 < b := by omega
        have := Int.le_of_dvd hb0 gr
        omega
      · have ha0 : 0 < a := by omega
        have := Int.le_of_dvd ha0 gl
        omega
    rcases h with ⟨_, h⟩ | ⟨h1, h2, h3, h4, h5⟩
    · exact absurd ⟨gl, gr⟩ (h _ (by omega) gM)
    · have a1 := h5 _ (by omega) gM gl gr
      have a2 : r ∣ (Int.gcd a b : Int) := Int.dvd_coe_gcd h3 h4
      have a3 := Int.le_of_dvd g0 a2
      omega
theorem law_divisor_spec {a b : Int} (ha : a.natAbs < 2 ^ 60) (hb : b.natAbs < 2 ^ 60) (g : G) : q__law_divisor [.int a, .int b] g = .ok (.frz (.int (Int.gcd a b))) g := by
  have ea : ∀ x : Int, (if x < 0 then -x else x) = (x.natAbs : Int) := fun x => by split <;> omega
  have em : ∀ x y : Int, (if y > x then y else x) = max x y := fun x y => by split <;> omega
  obtain ⟨z', e, x, hz⟩ := forL_sim (t := .nm 3) (b := (sIf (tAnd (tB2 fEq (.e (eB2 fTimes (.e (eB2 fDiv (.v 0) (.v 3))) (.v 3))) (.v 0)) (tB2 fEq (.e (eB2 fTimes (.e (eB2 fDiv (.v 1) (.v 3))) (.v 3))) (.v 1))) (sAsg (.nm 2) (eV 3)) sNx)) D.int (dvS a.natAbs b.natAbs)
    (fun acc z => ∃ x, z = ⟨[fi a.natAbs, fi b.natAbs, fi acc, x], g⟩) (fun _ => True) ((List.range (max (a.natAbs : Int) b.natAbs).toNat).map fun i => (1 : Int) + (i : Nat)) 0 ⟨[fi a.natAbs, fi b.natAbs, fi 0, none], g⟩ ⟨none, rfl⟩ trivial (fun k hk acc z ⟨x, hz⟩ _ => by
      subst hz
      obtain ⟨i, hi, rfl⟩ := List.mem_map.mp hk
      rw [List.mem_range] at hi
      have k0 : (0 : Int) < 1 + (i : Nat) := by omega
      have kb : (1 + (i : Nat) : Int).natAbs < 2 ^ 61 := by
        have : (2 : Nat) ^ 61 = 2 * 2 ^ 60 := by decide
        omega
      have d1 := fDiv_of (a := (a.natAbs : Int)) k0 kb (by decide) (by decide)
      have d2 := fDiv_of (a := (b.natAbs : Int)) k0 kb (by decide) (by decide)
      have q1 : ((a.natAbs : Int) / (1 + (i : Nat))).natAbs < 2 ^ 60 := by
        have := Int.ediv_le_self (a := (a.natAbs : Int)) (1 + (i : Nat)) (by omega)
        have h2 := Int.ediv_nonneg (a := (a.natAbs : Int)) (b := 1 + (i : Nat)) (by omega) (by omega)
        omega
      have q2 : ((b.natAbs : Int) / (1 + (i : Nat))).natAbs < 2 ^ 60 := by
        have := Int.ediv_le_self (a := (b.natAbs : Int)) (1 + (i : Nat)) (by omega)
        have h2 := Int.ediv_nonneg (a := (b.natAbs : Int)) (b := 1 + (i : Nat)) (by omega) (by omega)
        omega
      have t1 := fTimes_of q1 kb (by decide) (by decide)
      have t2 := fTimes_of q2 kb (by decide) (by decide)
      refine ⟨trivial, ⟨[fi a.natAbs, fi b.natAbs, fi (dvS a.natAbs b.natAbs acc (1 + (i : Nat))), fi (1 + (i : Nat))], g⟩, ?_, fi (1 + (i : Nat)), rfl⟩
      by_cases c1 : (a.natAbs : Int) / (1 + (i : Nat)) * (1 + (i : Nat)) = a.natAbs
      · by_cases c2 : (b.natAbs : Int) / (1 + (i : Nat)) * (1 + (i : Nat)) = b.natAbs
        · simp [asg, Zs.put, O.bind, sIf, tAnd, tB2, evO, Zs.at, Zs.res, S.d, eB2, fin, finB, d1, d2, t1, t2, fEq, eqD_int, c1, c2, dvS, sAsg, eV]
        · simp [asg, Zs.put, O.bind, sIf, tAnd, tB2, evO, Zs.at, Zs.res, S.d, eB2, fin, finB, d1, d2, t1, t2, fEq, eqD_int, c1, c2, dvS, sNx]
      · simp [asg, Zs.put, O.bind, sIf, tAnd, tB2, evO, Zs.at, Zs.res, S.d, eB2, fin, finB, d1, d2, t1, t2, fEq, eqD_int, c1, dvS, sNx])
  subst hz
  rw [dv_gcd (by omega) (by omega)] at e
  have el : ((List.range (max (a.natAbs : Int) b.natAbs).toNat).map fun i => (1 : Int) + (i : Nat)).map D.int = rng 1 (max (a.natAbs : Int) b.natAbs + 1) := by
    unfold rng
    rw [List.map_map, show (max (a.natAbs : Int) b.natAbs + 1 - 1) = max (a.natAbs : Int) b.natAbs by omega]; rfl
  rw [el] at e
  have eg : Int.gcd (a.natAbs : Int) (b.natAbs : Int) = Int.gcd a b := by simp [Int.gcd_eq_natAbs_gcd_natAbs]
  rw [eg] at e
  refine callB_rt (z := ⟨[fi a.natAbs, fi b.natAbs, fi (Int.gcd a b), x], g⟩) (b := m__law_divisor) (n := 4) ?_
  refine (seq_nx (z' := ⟨[fi a.natAbs, fi b.natAbs, fi 0, none], g⟩) ?_).trans ?_
  · simp [sPar, argsS, eB1, evO, Zs.at, Zs.res, O.bind, S.d, fin, fAbs, ea, eC, puts, Zs.put]
  refine (seq_for (l := rng 1 (max (a.natAbs : Int) b.natAbs + 1)) (z1 := ⟨[fi a.natAbs, fi b.natAbs, fi 0, none], g⟩) ?_ e).trans ?_
  · simp [iR2, evO, eC, O.bind, S.d, Zs.res, eB2, Zs.at, fMax2, fin, fPlus, em, smallI]
    have em2 : (if a.natAbs < b.natAbs then (b.natAbs : Int) else (a.natAbs : Int)) = max (a.natAbs : Int) b.natAbs := by split <;> omega
    have h60 : (2 : Nat) ^ 60 = 1152921504606846976 := by decide
    rw [h60] at ha hb
    rw [em2, if_pos ⟨by omega, by omega⟩]
  · simp [sRet, eMv, O.bind]
end Zc

/-! K10c: k10: the whole number below, scaled rows. -/
namespace Zc
open PySem Zn
/-! ### below -/
def blS (p : Int × Int) (acc k : Int) : Int := if k * p.2 ≤ p.1 then k else acc
theorem bl_fold {p : Int × Int} (hd : 0 < p.2) (hq : -50 ≤ p.1 / p.2) : ∀ M : Nat, ((List.range M).map fun i => (-50 : Int) + (i : Nat)).foldl (blS p) (-50) = if M = 0 then -50 else min (p.1 / p.2) (-50 + (M : Int) - 1)
  | 0 => rfl
  | M + 1 => by
    have ih := bl_fold hd hq M
    rw [List.range_succ, List.map_append, List.foldl_append, ih]
    show blS p _ (-50 + (M : Int)) = _
    have key : (-50 + (M : Int)) * p.2 ≤ p.1 ↔ -50 + (M : Int) ≤ p.1 / p.2 := (Int.le_ediv_iff_mul_le hd).symm
    unfold blS
    by_cases h : (-50 + (M : Int)) * p.2 ≤ p.1
    · rw [if_pos h]
      have := key.mp h
      simp; omega
    · rw [if_neg h]
      have h2 : ¬ (-50 + (M : Int) ≤ p.1 / p.2) := fun z => h (key.mpr z)
      by_cases h0 : M = 0
      · subst h0; simp at h2; omega
      · simp [h0]; omega
theorem sgn_le (x : Int) : (sgn x ≤ 0) ↔ x ≤ 0 := by
  unfold sgn
  by_cases h : x = 0
  · rw [if_pos h]; omega
  · rw [if_neg h]
    by_cases h1 : 0 < x
    · rw [if_pos h1]; omega
    · rw [if_neg h1]; omega
theorem sgn_lt (x : Int) : (sgn x < 0) ↔ x < 0 := by
  unfold sgn
  by_cases h : x = 0
  · rw [if_pos h]; omega
  · rw [if_neg h]
    by_cases h1 : 0 < x
    · rw [if_pos h1]; omega
    · rw [if_neg h1]; omega
theorem ok_int {t : Int} {k : Nat} (h : t.natAbs < 2 ^ k) (hk : 1 ≤ k) : Ok k t 1 := ⟨by decide, by simp, h, by have := pw hk; simp at this ⊢; omega⟩
theorem below_spec {p : Int × Int} {k : Nat} (o : OkP k p) (hk : k ≤ 4000) (h6 : 6 ≤ k) (h1 : -50 ≤ p.1 / p.2) (h2 : p.1 / p.2 ≤ 50) (g : G) : q__law_below [PP p] g = .ok (.frz (.int (p.1 / p.2))) g := by
  obtain ⟨z', e, x, hz⟩ := forL_sim (t := .nm 2) (b := (sAsg (.nm 1) (eIf (tB2 fLe (.e (eCall q__law_sign [(eTup [(eV 2), (eC (.int 1))]), (eV 0)])) (.e (eC (.int 0)))) (eV 2) (eV 1)))) D.int (blS p)
    (fun acc z => ∃ x, z = ⟨[some (.frz (PP p)), fi acc, x], g⟩) (fun _ => True) ((List.range 101).map fun i => (-50 : Int) + (i : Nat)) (-50) ⟨[some (.frz (PP p)), fi (-50), none], g⟩ ⟨none, rfl⟩ trivial (fun t ht acc z ⟨x, hz⟩ _ => by
      subst hz
      obtain ⟨i, hi, rfl⟩ := List.mem_map.mp ht
      rw [List.mem_range] at hi
      have ot : Ok k (-50 + (i : Nat) : Int) 1 := ok_int (by have := pw h6; omega) (by omega)
      have sp := sign_spec (g := g) ot o hk
      refine ⟨trivial, ⟨[some (.frz (PP p)), fi (blS p acc (-50 + (i : Nat))), fi (-50 + (i : Nat))], g⟩, ?_, fi (-50 + (i : Nat)), rfl⟩
      have e1 : (-50 + (i : Nat) : Int) * p.2 - p.1 * 1 ≤ 0 ↔ (-50 + (i : Nat) : Int) * p.2 ≤ p.1 := by omega
      have e2 := (sgn_le ((-50 + (i : Nat) : Int) * p.2 - p.1 * 1)).trans e1
      have eP : D.tup [.int (-50 + (i : Nat)), .int 1] = P (-50 + (i : Nat)) 1 := rfl
      by_cases c : (-50 + (i : Nat) : Int) * p.2 ≤ p.1
      · have c' := e2.mpr c
        simp only [asg, Zs.put, O.bind, sAsg, eIf, tB2, evO, eCall, args, eTup, eV, eC, S.d, List.getElem?_cons_zero, List.getElem?_cons_succ, List.set_cons_zero, List.set_cons_succ, List.length_cons, List.length_nil, sizeLine_eq, Nat.reduceAdd, Nat.reduceLeDiff, if_true, eP, sp, Zs.res, fLe, finB, decide_eq_true c', blS, if_pos c]
      · have c' : ¬ (sgn ((-50 + (i : Nat) : Int) * p.2 - p.1 * 1) ≤ 0) := fun z => c (e2.mp z)
        simp only [asg, Zs.put, O.bind, sAsg, eIf, tB2, evO, eCall, args, eTup, eV, eC, S.d, List.getElem?_cons_zero, List.getElem?_cons_succ, List.set_cons_zero, List.set_cons_succ, List.length_cons, List.length_nil, sizeLine_eq, Nat.reduceAdd, Nat.reduceLeDiff, if_true, eP, sp, Zs.res, fLe, finB, decide_eq_false c', blS, if_neg c]
        rfl)
  subst hz
  have ef : ((List.range 101).map fun i => (-50 : Int) + (i : Nat)).foldl (blS p) (-50) = p.1 / p.2 := by
    rw [bl_fold o.pos h1 101]
    simp; omega
  rw [ef] at e
  have el : ((List.range 101).map fun i => (-50 : Int) + (i : Nat)).map D.int = rng (-50) 51 := by
    unfold rng; rw [List.map_map]; rfl
  rw [el] at e
  refine callB_rt (z := ⟨[some (.frz (PP p)), fi (p.1 / p.2), x], g⟩) (b := m__law_below) (n := 3) ?_
  refine (seq_nx (z' := ⟨[some (.frz (PP p)), fi (-50), none], g⟩) ?_).trans ?_
  · simp [sAsg, eB1, evO, eC, O.bind, S.d, Zs.res, fNeg, fin, asg, Zs.put]
  refine (seq_for (l := rng (-50) 51) (z1 := ⟨[some (.frz (PP p)), fi (-50), none], g⟩) ?_ e).trans ?_
  · simp [iR2, evO, eC, O.bind, S.d, Zs.res, eB1, fNeg, fin, smallI]
  · simp [sRet, eMv, O.bind]
theorem whole_below_spec {p : Int × Int} {k : Nat} (o : OkP k p) (hk : k ≤ 4000) (h1 : 1 ≤ k) (g : G) : q_whole_below [PP p] g = .ok (.frz (.int (p.1 / p.2))) g := by
  have d1 := fDiv_of (a := p.1) o.pos o.bd (by omega) (by omega)
  simp [q_whole_below, callB, m_whole_below, sRet, eB2, evO, Zs.at, Zs.res, O.bind, S.d, fin, eC, d1]
theorem whole_above_spec {p : Int × Int} {k : Nat} (o : OkP k p) (hk : k ≤ 4000) (h1 : 1 ≤ k) (g : G) : q_whole_above [PP p] g = .ok (.frz (.int (0 - (0 - p.1) / p.2))) g := by
  have d1 := fDiv_of (a := 0 - p.1) o.pos o.bd (by omega) (by omega)
  simp [q_whole_above, callB, m_whole_above, sRet, eB2, evO, Zs.at, Zs.res, O.bind, S.d, fin, eC, fSub]
  simp at d1
  simp [d1, fin, O.bind, S.d, Zs.res]
theorem is_whole_part_spec (p : Int × Int) (g : G) : q_is_whole_part [PP p] g = .ok (.frz (.bl (decide (p.2 = 1)))) g := by
  simp [q_is_whole_part, callB, m_is_whole_part, sRet, eB2, evO, Zs.at, Zs.res, O.bind, S.d, fin, eC, vB, fEq, eqD_int]
/-! ### scaled -/
def lcS (c : Int) (p : Int × Int) : Int := c * p.2 / Int.gcd c p.2
theorem lcS_ok {c : Int} {p : Int × Int} {j : Nat} (hc : 0 < c) (hb : c.natAbs < 2 ^ j) (hd : 0 < p.2) (hdb : p.2.natAbs < 2 ^ 4) : 0 < lcS c p ∧ (lcS c p).natAbs < 2 ^ (j + 4) ∧ c ∣ lcS c p ∧ p.2 ∣ lcS c p := by
  have g0 := gcd_pos (a := c) (show p.2 ≠ 0 by omega)
  obtain ⟨x, hx⟩ : (Int.gcd c p.2 : Int) ∣ c := Int.gcd_dvd_left ..
  obtain ⟨y, hy⟩ : (Int.gcd c p.2 : Int) ∣ p.2 := Int.gcd_dvd_right ..
  unfold lcS
  have b := bmul hb hdb
  have dv : (Int.gcd c p.2 : Int) ∣ c * p.2 := Int.dvd_mul_of_dvd_left (Int.gcd_dvd_left ..)
  refine ⟨Int.ediv_pos_of_pos_of_dvd (Int.mul_pos hc hd) (by omega) dv, Nat.lt_of_le_of_lt (nat_ediv_le g0 dv) b, ?_, ?_⟩
  · generalize hG : (Int.gcd c p.2 : Int) = G at *
    refine ⟨y, ?_⟩
    rw [hy, show c * (G * y) = G * (c * y) by grind]
    exact Int.mul_ediv_cancel_left _ (by omega)
  · generalize hG : (Int.gcd c p.2 : Int) = G at *
    refine ⟨x, ?_⟩
    rw [show c * p.2 = G * (p.2 * x) by grind]
    exact Int.mul_ediv_cancel_left _ (by omega)
theorem lc_loop {g : G} {A : Option S} : ∀ (ps : List (Int × Int)) (c : Int) (j : Nat) (x : Option S), 0 < c → c.natAbs < 2 ^ j → (∀ p ∈ ps, 0 < p.2 ∧ p.2.natAbs < 2 ^ 4) → j + 4 * ps.length ≤ 4000 →
    (∃ x', forL (.nm 2) (sAsg (.nm 1) (eB2 fDiv (.e (eB2 fTimes (.v 1) (.e (eB2 fIx (.v 2) (.e (eC (.int 1))))))) (.e (eCall q_divisor [(eV 1), (eB2 fIx (.v 2) (.e (eC (.int 1))))])))) (ps.map PP) ⟨[A, fi c, x, none, none, none], g⟩ = .ok .nx ⟨[A, fi (ps.foldl lcS c), x', none, none, none], g⟩) ∧
    0 < ps.foldl lcS c ∧ (ps.foldl lcS c).natAbs < 2 ^ (j + 4 * ps.length) ∧ c ∣ ps.foldl lcS c ∧ ∀ p ∈ ps, p.2 ∣ ps.foldl lcS c
  | [], c, j, x, hc, hb, _, _ => ⟨⟨x, rfl⟩, hc, hb, Int.dvd_refl _, fun p hp => nomatch hp⟩
  | p :: ps, c, j, x, hc, hb, hp, hl => by
    obtain ⟨pd, pb⟩ := hp p List.mem_cons_self
    obtain ⟨a1, a2, a3, a4⟩ := lcS_ok hc hb pd pb
    have hl' : j + 4 * (ps.length + 1) ≤ 4000 := hl
    obtain ⟨⟨x', r1⟩, r2, r3, r4, r5⟩ := lc_loop (g := g) (A := A) ps (lcS c p) (j + 4) (some (.frz (PP p))) a1 a2 (fun q hq => hp q (List.mem_cons_of_mem _ hq)) (by omega)
    refine ⟨⟨x', ?_⟩, r2, ?_, Int.dvd_trans a3 r4, fun q hq => ?_⟩
    · rw [List.foldl_cons, ← r1, List.map_cons]
      conv => lhs; unfold forL
      have t := fTimes_of hb pb (by omega) (by omega)
      have g0 := gcd_pos (a := c) (show p.2 ≠ 0 by omega)
      have gb : ((Int.gcd c p.2 : Int)).natAbs < 2 ^ 4 := by
        have := gcd_bd (a := c) (show p.2 ≠ 0 by omega) pb
        simpa using this
      have d := fDiv_of (a := c * p.2) g0 gb (by decide) (by decide)
      simp [asg, Zs.put, O.bind, sAsg, eB2, evO, Zs.at, Zs.res, S.d, fin, eC, t, eCall, args, eV, divisor_spec, d, lcS]
    · have : j + 4 * (p :: ps).length = j + 4 + 4 * ps.length := by simp; omega
      rw [this]; exact r3
    · rcases List.mem_cons.mp hq with rfl | hq
      · exact Int.dvd_trans a4 r4
      · exact r5 q hq
def gcS (a t : Int) : Int := Int.gcd a t
theorem gc_mul (G : Int) (hG : 0 ≤ G) : ∀ (l : List Int) (a : Int), (l.map (· * G)).foldl gcS (a * G) = l.foldl gcS a * G
  | [], a => rfl
  | t :: l, a => by
    show (l.map (· * G)).foldl gcS (gcS (a * G) (t * G)) = l.foldl gcS (gcS a t) * G
    have : gcS (a * G) (t * G) = gcS a t * G := by
      unfold gcS
      rw [Int.gcd_mul_right]; push_cast; congr 1; omega
    rw [this, gc_mul G hG l]
theorem gc_dvd : ∀ (l : List Int) (a : Int), (l.foldl gcS a ∣ a) ∧ ∀ t ∈ l, l.foldl gcS a ∣ t
  | [], a => ⟨Int.dvd_refl _, fun t h => nomatch h⟩
  | t :: l, a => by
    obtain ⟨h1, h2⟩ := gc_dvd l (gcS a t)
    have d1 : gcS a t ∣ a := Int.gcd_dvd_left ..
    have d2 : gcS a t ∣ t := Int.gcd_dvd_right ..
    refine ⟨Int.dvd_trans h1 d1, fun u hu => ?_⟩
    rcases List.mem_cons.mp hu with rfl | hu
    · exact Int.dvd_trans h1 d2
    · exact h2 u hu
theorem gc_nn : ∀ (l : List Int) (a : Int), 0 ≤ a → 0 ≤ l.foldl gcS a
  | [], a, h => h
  | t :: l, a, h => gc_nn l (gcS a t) (by unfold gcS; omega)
theorem gc_bd {k : Nat} : ∀ (l : List Int) (a : Int), a.natAbs < 2 ^ k → (∀ t ∈ l, t.natAbs < 2 ^ k) → (l.foldl gcS a).natAbs < 2 ^ k
  | [], a, h, _ => h
  | t :: l, a, h, ht => by
    refine gc_bd l (gcS a t) ?_ fun u hu => ht u (List.mem_cons_of_mem _ hu)
    have h1 := ht t List.mem_cons_self
    unfold gcS
    by_cases h0 : t = 0
    · subst h0; simpa using h
    · have := gcd_bd (a := a) h0 h1
      simpa using this
def cF (ps : List (Int × Int)) : Int := ps.foldl lcS 1
def fF (ps : List (Int × Int)) : List Int := ps.map fun p => p.1 * (cF ps / p.2)
def gF (ps : List (Int × Int)) : Int := (fF ps).foldl gcS 0
def tF (ps : List (Int × Int)) (p : Int × Int) : Int := if gF ps = 0 then p.1 * (cF ps / p.2) else p.1 * (cF ps / p.2) / gF ps
/-- rows as the law draws them -/
structure Rw (ps : List (Int × Int)) : Prop where
  dr : ∀ p ∈ ps, Dr p
  len : ps.length ≤ 4
theorem Dr.db {p : Int × Int} (h : Dr p) : 0 < p.2 ∧ p.2.natAbs < 2 ^ 4 := ⟨h.ok.pos, by have := h.d1; have := h.ok.pos; show _ < 16; omega⟩
section
variable {ps : List (Int × Int)} (w : Rw ps)
include w
theorem cF_ok : 0 < cF ps ∧ (cF ps).natAbs < 2 ^ 17 ∧ ∀ p ∈ ps, p.2 ∣ cF ps := by
  obtain ⟨_, h1, h2, _, h3⟩ := lc_loop (g := ⟨none⟩) (A := none) ps 1 1 none (by decide) (by decide) (fun p hp => (w.dr p hp).db) (by have := w.len; omega)
  exact ⟨h1, Nat.lt_of_lt_of_le h2 (pw (by have := w.len; omega)), h3⟩
theorem fF_bd {p : Int × Int} (hp : p ∈ ps) : (cF ps / p.2).natAbs < 2 ^ 17 ∧ (p.1 * (cF ps / p.2)).natAbs < 2 ^ 22 := by
  obtain ⟨h1, h2, h3⟩ := cF_ok w
  have d := w.dr p hp
  have b1 : (cF ps / p.2).natAbs < 2 ^ 17 := Nat.lt_of_le_of_lt (nat_ediv_le d.ok.pos (h3 p hp)) h2
  refine ⟨b1, ?_⟩
  have := bmul d.ok.bn b1
  exact this
theorem gF_ok : 0 ≤ gF ps ∧ (gF ps).natAbs < 2 ^ 22 ∧ ∀ p ∈ ps, gF ps ∣ p.1 * (cF ps / p.2) := by
  refine ⟨gc_nn _ _ (Int.le_refl _), gc_bd _ _ (by decide) fun t ht => ?_, fun p hp => (gc_dvd (fF ps) 0).2 _ (List.mem_map.mpr ⟨p, hp, rfl⟩)⟩
  obtain ⟨p, hp, rfl⟩ := List.mem_map.mp ht
  exact (fF_bd w hp).2
theorem tF_bd {p : Int × Int} (hp : p ∈ ps) : (tF ps p).natAbs < 2 ^ 22 := by
  unfold tF
  split
  · exact (fF_bd w hp).2
  · rename_i h
    obtain ⟨g0, _, g2⟩ := gF_ok w
    exact Nat.lt_of_le_of_lt (nat_ediv_le (by omega) (g2 p hp)) (fF_bd w hp).2
theorem tF_val : ∃ s : Int, 0 < s ∧ ∀ p ∈ ps, tF ps p * s * p.2 = p.1 * cF ps := by
  obtain ⟨h1, h2, h3⟩ := cF_ok w
  obtain ⟨g0, _, g2⟩ := gF_ok w
  refine ⟨if gF ps = 0 then 1 else gF ps, by split <;> omega, fun p hp => ?_⟩
  have e := Int.ediv_mul_cancel (h3 p hp)
  unfold tF
  by_cases h : gF ps = 0
  · simp only [h, if_true]
    grind
  · simp only [h, if_false]
    rw [Int.ediv_mul_cancel (g2 p hp)]
    grind
theorem tF_gcd : (ps.map (tF ps)).foldl gcS 0 = 0 ∨ (ps.map (tF ps)).foldl gcS 0 = 1 := by
  obtain ⟨g0, _, g2⟩ := gF_ok w
  by_cases h : gF ps = 0
  · left
    have : ps.map (tF ps) = fF ps := by
      unfold fF
      refine List.map_congr_left fun p _ => ?_
      unfold tF; rw [if_pos h]
    rw [this]; exact h
  · right
    have e : (ps.map (tF ps)).map (· * gF ps) = fF ps := by
      unfold fF
      rw [List.map_map]
      refine List.map_congr_left fun p hp => ?_
      show tF ps p * gF ps = _
      unfold tF; rw [if_neg h, Int.ediv_mul_cancel (g2 p hp)]
    have m := gc_mul (gF ps) g0 (ps.map (tF ps)) 0
    rw [e, Int.zero_mul] at m
    have m' : gF ps = (ps.map (tF ps)).foldl gcS 0 * gF ps := m
    have : 1 * gF ps = (ps.map (tF ps)).foldl gcS 0 * gF ps := by rw [Int.one_mul]; exact m'
    exact (Int.eq_of_mul_eq_mul_right h this).symm
end
end Zc

/-! K10d: k10: scaled, dot, _law_scaled. -/
namespace Zc
open PySem Zn
theorem scaled_spec {ps : List (Int × Int)} (w : Rw ps) (g : G) : q_scaled [.tup (row ps)] g = .ok (.frz (.tup ((ps.map (tF ps)).map D.int))) g := by
  obtain ⟨⟨x1, e1⟩, c0, cb, _, cd⟩ := lc_loop (g := g) (A := some (.frz (.tup (row ps)))) ps 1 1 none (by decide) (by decide) (fun p hp => (w.dr p hp).db) (by have := w.len; omega)
  obtain ⟨g0, gb, g2⟩ := gF_ok w
  have e2 := lcL_map (t := .nm 2) (c := tYes) (e := (eB2 fTimes (.e (eB2 fIx (.v 2) (.e (eC (.int 0))))) (.e (eB2 fDiv (.v 1) (.e (eB2 fIx (.v 2) (.e (eC (.int 1)))))))) ) (vs := [2]) (z := ⟨[some (.frz (.tup (row ps))), fi (cF ps), none, none, none, none], g⟩)
    (fun d => match d with | .tup [.int a, .int b] => some (.int (a * (cF ps / b))) | _ => none) (row ps) [] (by have := w.len; simp [row, sizeLine_eq]; omega) (fun x hx => by
      obtain ⟨p, hp, rfl⟩ := List.mem_map.mp hx
      have d := w.dr p hp
      have d1 := fDiv_of (a := cF ps) d.ok.pos d.ok.bd (by decide) (by decide)
      have t1 := fTimes_of d.ok.bn (fF_bd w hp).1 (by decide) (by decide)
      refine ⟨⟨[some (.frz (.tup (row ps))), fi (cF ps), some (.frz (PP p)), none, none, none], g⟩, by simp [asg, Zs.put], .inr ⟨_, .frz (.int (p.1 * (cF ps / p.2))), ⟨[some (.frz (.tup (row ps))), fi (cF ps), some (.frz (PP p)), none, none, none], g⟩, rfl, ?_, rfl, ?_⟩⟩
      · simp [eB2, evO, Zs.at, Zs.res, O.bind, S.d, fin, eC, d1, t1]
      · simp [wipe])
  have e2' : (row ps).filterMap (fun d => match d with | .tup [.int a, .int b] => some (D.int (a * (cF ps / b))) | _ => none) = (fF ps).map D.int := by
    unfold row fF
    rw [List.filterMap_map, List.map_map, ← List.filterMap_eq_map]
    rfl
  rw [e2'] at e2
  have b2 : ∃ y, eLc (.nm 2) (iSeq (eV 0)) tYes (eB2 fTimes (.e (eB2 fIx (.v 2) (.e (eC (.int 0))))) (.e (eB2 fDiv (.v 1) (.e (eB2 fIx (.v 2) (.e (eC (.int 1)))))))) [2] ⟨[some (.frz (.tup (row ps))), fi (cF ps), x1, none, none, none], g⟩ = .ok (.own (.lst ((fF ps).map D.int))) ⟨[some (.frz (.tup (row ps))), fi (cF ps), y, none, none, none], g⟩ := by
    simp [eLc, iSeq, eV, O.bind, S.d, wipe]
    simp at e2
    rw [e2]
    cases x1 with
    | none => exact ⟨_, by simp [unw, unwR]; rfl⟩
    | some s => cases s with
      | frz d => exact ⟨_, by simp [unw, unwR]; rfl⟩
      | own d => exact ⟨_, by simp [unw, unwR]; rfl⟩
  obtain ⟨y, b2⟩ := b2
  obtain ⟨z3, e3, x3, hz3⟩ := forL_sim (t := .nm 5) (b := (sAsg (.nm 4) (eCall q_divisor [(eV 4), (eV 5)]))) D.int gcS (fun acc z => ∃ x, z = ⟨[some (.frz (.tup (row ps))), fi (cF ps), y, some (.frz (.lst ((fF ps).map D.int))), fi acc, x], g⟩) (fun _ => True)
    (fF ps) 0 ⟨[some (.frz (.tup (row ps))), fi (cF ps), y, some (.frz (.lst ((fF ps).map D.int))), fi 0, none], g⟩ ⟨none, rfl⟩ trivial (fun t ht acc z ⟨x, hz⟩ _ => by
      subst hz
      refine ⟨trivial, _, ?_, fi t, rfl⟩
      simp [asg, Zs.put, O.bind, sAsg, eCall, args, eV, S.d, divisor_spec, gcS])
  subst hz3
  have hg : (fF ps).foldl gcS 0 = gF ps := rfl
  rw [hg] at e3
  have hF : (fF ps).length ≤ 4 := by unfold fF; rw [List.length_map]; exact w.len
  have ec : ps.foldl lcS 1 = cF ps := rfl
  rw [ec] at e1
  have body : m_scaled ⟨[some (.frz (.tup (row ps))), none, none, none, none, none], g⟩ = .ok (.rt (.frz (.tup ((ps.map (tF ps)).map D.int)))) ⟨[some (.frz (.tup (row ps))), fi (cF ps), y, some (.frz (.lst ((fF ps).map D.int))), fi (gF ps), if gF ps = 0 then x3 else (match x3 with | some (.own _) => none | x => x)], g⟩ := by
    refine (seq_nx (z' := ⟨[some (.frz (.tup (row ps))), fi 1, none, none, none, none], g⟩) ?_).trans ?_
    · simp [sAsg, eC, O.bind, asg, Zs.put]
    refine (seq_for (l := row ps) (z1 := ⟨[some (.frz (.tup (row ps))), fi 1, none, none, none, none], g⟩) ?_ e1).trans ?_
    · simp [iSeq, eV, O.bind, S.d]
    refine (seq_nx (z' := ⟨[some (.frz (.tup (row ps))), fi (cF ps), y, some (.own (.lst ((fF ps).map D.int))), none, none], g⟩) ?_).trans ?_
    · simp only [sAsg, b2, O.bind, asg, Zs.put]; rfl
    refine (seq_nx (z' := ⟨[some (.frz (.tup (row ps))), fi (cF ps), y, some (.own (.lst ((fF ps).map D.int))), fi 0, none], g⟩) ?_).trans ?_
    · simp [sAsg, eC, O.bind, asg, Zs.put]
    refine (seq_for (l := (fF ps).map D.int) (z1 := ⟨[some (.frz (.tup (row ps))), fi (cF ps), y, some (.frz (.lst ((fF ps).map D.int))), fi 0, none], g⟩) ?_ e3).trans ?_
    · simp [iSeq, eV, O.bind, S.d, Zs.put]
    by_cases h0 : gF ps = 0
    · have et : ps.map (tF ps) = fF ps := by
        unfold fF
        refine List.map_congr_left fun p _ => ?_
        unfold tF; rw [if_pos h0]
      rw [et]
      simp [sRet, eIf, tB2, evO, Zs.at, Zs.res, O.bind, S.d, eC, fEq, eqD_int, finB, h0, eB1, fTupOf, fin]
    · have e4 := lcL_map (t := .nm 5) (c := tYes) (e := (eB2 fDiv (.v 5) (.v 4))) (vs := [5]) (z := ⟨[some (.frz (.tup (row ps))), fi (cF ps), y, some (.frz (.lst ((fF ps).map D.int))), fi (gF ps), none], g⟩)
        (fun d => match d with | .int a => some (.int (a / gF ps)) | _ => none) ((fF ps).map D.int) [] (by simp [sizeLine_eq]; omega) (fun x hx => by
          obtain ⟨t, ht, rfl⟩ := List.mem_map.mp hx
          have d1 := fDiv_of (a := t) (show 0 < gF ps by omega) gb (by decide) (by decide)
          refine ⟨⟨[some (.frz (.tup (row ps))), fi (cF ps), y, some (.frz (.lst ((fF ps).map D.int))), fi (gF ps), fi t], g⟩, by simp [asg, Zs.put], .inr ⟨_, .frz (.int (t / gF ps)), ⟨[some (.frz (.tup (row ps))), fi (cF ps), y, some (.frz (.lst ((fF ps).map D.int))), fi (gF ps), fi t], g⟩, rfl, ?_, rfl, ?_⟩⟩
          · simp [eB2, evO, Zs.at, Zs.res, O.bind, S.d, fin, d1]
          · simp [wipe])
      have e4' : ((fF ps).map D.int).filterMap (fun d => match d with | .int a => some (D.int (a / gF ps)) | _ => none) = (ps.map (tF ps)).map D.int := by
        unfold fF
        rw [List.map_map, List.filterMap_map, List.map_map, ← List.filterMap_eq_map]
        congr 1
        funext p
        show some (D.int (p.1 * (cF ps / p.2) / gF ps)) = some (D.int (tF ps p))
        unfold tF; rw [if_neg h0]
      rw [e4'] at e4
      simp [sRet, eIf, tB2, evO, Zs.at, Zs.res, O.bind, S.d, eC, fEq, eqD_int, finB, h0, eB1, eLc, iSeq, eV, wipe]
      simp at e4
      rw [e4]
      cases x3 with
      | none => simp [unw, unwR, O.bind, Zs.res, S.d, fTupOf, fin]
      | some s => cases s <;> simp [unw, unwR, O.bind, Zs.res, S.d, fTupOf, fin]
  exact callB_rt (n := 6) (b := m_scaled) (ds := [.tup (row ps)]) (g := g) body
end Zc

/-! K10e: k10: dot, _law_scaled. -/
namespace Zc
open PySem Zn
theorem call1 {f : Fn} {m : E} {z z1 : Zs} {s r : S} {g' : G} (h : m z = .ok s z1) (hf : f [s.d] z1.g = .ok r g') : eCall f [m] z = .ok r { z1 with g := g' } := by
  simp only [eCall, args, h, O.bind, hf]
theorem call2 {f : Fn} {m n : E} {z z1 z2 : Zs} {s t r : S} {g' : G} (h : m z = .ok s z1) (h2 : n z1 = .ok t z2) (hf : f [s.d, t.d] z2.g = .ok r g') : eCall f [m, n] z = .ok r { z2 with g := g' } := by
  simp only [eCall, args, h, h2, O.bind, hf]
theorem ret_ok {m : E} {z z1 : Zs} {s : S} (h : m z = .ok s z1) : sRet m z = .ok (.rt s) z1 := by
  simp only [sRet, h, O.bind]
theorem b2_ok {f : D → D → Option S} {a b : Opd} {z z1 z2 : Zs} {x y : Nat ⊕ D} {c d : D} {s : S} (h : evO a z = .ok x z1) (h2 : evO b z1 = .ok y z2) (e1 : z2.res x = some c) (e2 : z2.res y = some d) (e3 : f c d = some s) : eB2 f a b z = .ok s z2 := by
  simp only [eB2, h, h2, O.bind, e1, e2, e3, fin]
theorem t2_ok {f : D → D → Option Bool} {a b : Opd} {z z1 z2 : Zs} {x y : Nat ⊕ D} {c d : D} {s : Bool} (h : evO a z = .ok x z1) (h2 : evO b z1 = .ok y z2) (e1 : z2.res x = some c) (e2 : z2.res y = some d) (e3 : f c d = some s) : tB2 f a b z = .ok s z2 := by
  simp only [tB2, h, h2, O.bind, e1, e2, e3, finB]
theorem oe {m : E} {z z1 : Zs} {s : S} (h : m z = .ok s z1) : evO (.e m) z = .ok (.inr s.d) z1 := by
  simp only [evO, h, O.bind]
theorem ov {i : Nat} {z : Zs} {d : D} (h : z.at i = some d) : evO (.v i) z = .ok (.inl i) z := by
  simp only [evO, h]
theorem asg_nm {i : Nat} {m : E} {z z1 : Zs} {s : S} (h : m z = .ok s z1) : sAsg (.nm i) m z = .ok .nx (z1.put i (some s)) := by
  simp only [sAsg, h, O.bind, asg]
theorem b1_ok {f : D → Option S} {a : Opd} {z z1 : Zs} {x : Nat ⊕ D} {c : D} {s : S} (h : evO a z = .ok x z1) (e1 : z1.res x = some c) (e3 : f c = some s) : eB1 f a z = .ok s z1 := by
  simp only [eB1, h, O.bind, e1, e3, fin]
theorem ir1_ok {a : Opd} {z z1 : Zs} {x : Nat ⊕ D} {b : Int} (h : evO a z = .ok x z1) (e1 : z1.res x = some (.int b)) (hs : smallI b = true) : iR1 a z = .ok (rng 0 b) z1 := by
  simp only [iR1, h, O.bind, e1]
  rw [if_pos hs]
theorem sum_loopV {α : Type} {t : Tg} {b : SS} {B : Nat} (enc : α → D) (val : α → Int × Int) (V : α → Prop) (I : Int × Int → Zs → Prop) (hb : ∀ acc a K z, V a → OkP K acc → OkP K (val a) → K ≤ B → I acc z → ∃ z', ((asg t (.frz (enc a)) z).bind fun _ z1 => b z1) = .ok .nx z' ∧ I (addp acc (val a)) z') :
    ∀ (l : List α) (acc : Int × Int) (K : Nat) (z : Zs), OkP K acc → (∀ a ∈ l, V a ∧ OkP K (val a)) → grow K l.length ≤ B → I acc z → ∃ z', forL t b (l.map enc) z = .ok .nx z' ∧ I ((l.map val).foldl addp acc) z'
  | [], acc, K, z, _, _, _, hI => ⟨z, rfl, hI⟩
  | p :: ps, acc, K, z, o, op, hB, hI => by
    have hKB : K ≤ B := Nat.le_trans (grow_le (ps.length + 1) K) hB
    obtain ⟨v1, o1⟩ := op p List.mem_cons_self
    obtain ⟨z', h1, h2⟩ := hb acc p K z v1 o o1 hKB hI
    obtain ⟨z2, r1, r2⟩ := sum_loopV enc val V I hb ps (addp acc (val p)) (2 * K + 1) z' (addp_ok o o1) (fun q hq => ⟨(op q (List.mem_cons_of_mem _ hq)).1, (op q (List.mem_cons_of_mem _ hq)).2.mono (by omega)⟩) hB h2
    refine ⟨z2, ?_, r2⟩
    rw [← r1, List.map_cons]
    conv => lhs; unfold forL
    cases ha : asg t (.frz (enc p)) z with
    | ok u z1 =>
      rw [ha] at h1
      have h1' : b z1 = .ok .nx z' := h1
      simp only [O.bind, h1']
    | exc e z1 => rw [ha] at h1; cases h1
    | stk => rw [ha] at h1; cases h1
theorem rng0 (n : Nat) : rng 0 (n : Int) = (List.range n).map fun i => D.int (i : Nat) := by
  unfold rng
  simp
theorem ix_l {α : Type} (f : α → D) (l : List α) (i : Nat) (d0 : α) (h : i < l.length) : fIx (.lst (l.map f)) (.int (i : Nat)) = some (.frz (f (l.getD i d0))) := by
  unfold fIx L2.atI L2.ixN
  simp [h]
theorem ix_t {α : Type} (f : α → D) (l : List α) (i : Nat) (d0 : α) (h : i < l.length) : fIx (.tup (l.map f)) (.int (i : Nat)) = some (.frz (f (l.getD i d0))) := by
  unfold fIx L2.atI L2.ixN
  simp [h]
theorem fNe_same {n : Nat} {d : D} (h : Sh n d) (hn : n ≤ 64 := by decide) : fNe d d = some false := by unfold fNe; rw [eqD_refl h hn]; rfl
theorem fEq_same {n : Nat} {d : D} (h : Sh n d) (hn : n ≤ 64 := by decide) : fEq d d = some true := eqD_refl h hn
theorem neP (a b : Int) : fNe (P a b) (P a b) = some false := fNe_same (sh_P (k := 0) a b)
theorem smI {n : Nat} (h : n ≤ 1000) : smallI (n : Int) = true := by
  unfold smallI
  rw [show (2 : Int) ^ 62 = 4611686018427387904 by decide]
  simp; omega
def dotL (T : List Int) (pts : List (Int × Int)) : List (Int × Int) := (List.range T.length).map fun i => mulp (T.getD i 0, 1) (pts.getD i (0, 1))
theorem getD_mem {α : Type} {l : List α} {i : Nat} {d : α} (h : i < l.length) : l.getD i d ∈ l := by
  simp [List.getD, h]
theorem dot_ok {T : List Int} {pts : List (Int × Int)} (hl : T.length = pts.length) (hT : ∀ t ∈ T, t.natAbs < 2 ^ 22) (hp : ∀ p ∈ pts, Dr p) : ∀ i, i < T.length → OkP 22 (T.getD i 0, 1) ∧ OkP 22 (pts.getD i (0, 1)) := fun i hi =>
  ⟨ok_int (hT _ (getD_mem hi)) (by decide), (hp _ (getD_mem (by omega))).ok.mono (by decide)⟩
theorem dot_tot {T : List Int} {pts : List (Int × Int)} (hl : T.length = pts.length) (h4 : T.length ≤ 4) (hT : ∀ t ∈ T, t.natAbs < 2 ^ 22) (hp : ∀ p ∈ pts, Dr p) (g : G) : q_total [.lst (row (dotL T pts))] g = .ok (.frz (PP ((dotL T pts).foldl addp (0, 1)))) g := by
  have gl : (dotL T pts).length ≤ 4 := by unfold dotL; rw [List.length_map, List.length_range]; exact h4
  have gb : grow 44 4 ≤ 4000 := by simp [grow]
  have oo : ∀ p ∈ dotL T pts, OkP 44 p := fun p hp2 => by
    obtain ⟨i, hi, e⟩ := List.mem_map.mp hp2
    rw [List.mem_range] at hi
    obtain ⟨o1, o2⟩ := dot_ok hl hT hp i hi
    have o3 := mulp_ok o1 o2
    rw [← e]
    exact o3.mono (by omega)
  exact total_spec (K := 44) (by omega) oo (Nat.le_trans (grow_le2 gl) gb)
theorem dot_lc {T : List Int} {pts : List (Int × Int)} (hl : T.length = pts.length) (h4 : T.length ≤ 4) (hT : ∀ t ∈ T, t.natAbs < 2 ^ 22) (hp : ∀ p ∈ pts, Dr p) (g : G) : lcL (.nm 2) tYes (eCall q_times [(eB2 fIx (.v 1) (.v 2)), (eTup [(eB2 fIx (.v 0) (.v 2)), (eC (.int 1))])]) [2] ((List.range T.length).map fun i => D.int (i : Nat)) [] ⟨[some (.frz (.tup (T.map D.int))), some (.frz (.lst (row pts))), none], g⟩ = some ([] ++ row (dotL T pts), ⟨[some (.frz (.tup (T.map D.int))), some (.frz (.lst (row pts))), none], g⟩) := by
  have e := lcL_map (t := .nm 2) (c := tYes) (e := (eCall q_times [(eB2 fIx (.v 1) (.v 2)), (eTup [(eB2 fIx (.v 0) (.v 2)), (eC (.int 1))])])) (vs := [2]) (z := ⟨[some (.frz (.tup (T.map D.int))), some (.frz (.lst (row pts))), none], g⟩)
    (fun d => match d with | .int i => some (PP (mulp (T.getD i.toNat 0, 1) (pts.getD i.toNat (0, 1)))) | _ => none) ((List.range T.length).map fun i => D.int (i : Nat)) [] (by simp [sizeLine_eq]; omega) (fun x hx => by
      obtain ⟨i, hi, rfl⟩ := List.mem_map.mp hx
      rw [List.mem_range] at hi
      obtain ⟨o1, o2⟩ := dot_ok hl hT hp i hi
      have x1 := ix_l PP pts i (0, 1) (by omega)
      have x2 := ix_t D.int T i 0 hi
      have t1 := times_p (g := g) o2 o1 (by decide)
      rw [mulp_comm] at t1
      refine ⟨⟨[some (.frz (.tup (T.map D.int))), some (.frz (.lst (row pts))), fi (i : Nat)], g⟩, by simp [asg, Zs.put], .inr ⟨_, .frz (PP (mulp (T.getD i 0, 1) (pts.getD i (0, 1)))), ⟨[some (.frz (.tup (T.map D.int))), some (.frz (.lst (row pts))), fi (i : Nat)], g⟩, rfl, ?_, rfl, ?_⟩⟩
      · have t1' : q_times [P (pts.getD i (0, 1)).1 (pts.getD i (0, 1)).2, .tup [.int (T.getD i 0), .int 1]] g = .ok (.frz (PP (mulp (T.getD i 0, 1) (pts.getD i (0, 1))))) g := t1
        simp only [row] at *
        simp only [eCall, args, eB2, evO, Zs.at, Zs.res, O.bind, S.d, fin, eTup, eC, List.getElem?_cons_zero, List.getElem?_cons_succ, x1, x2, List.length_cons, List.length_nil, sizeLine_eq, Nat.reduceAdd, Nat.reduceLeDiff, if_true, t1']
      · simp [wipe])
  have e' : ((List.range T.length).map fun i => D.int (i : Nat)).filterMap (fun d => match d with | .int i => some (PP (mulp (T.getD i.toNat 0, 1) (pts.getD i.toNat (0, 1)))) | _ => none) = row (dotL T pts) := by
    unfold row dotL
    rw [List.filterMap_map, List.map_map, ← List.filterMap_eq_map]
    rfl
  rw [e'] at e
  exact e
theorem dot_i {T : List Int} {pts : List (Int × Int)} (hl : T.length = pts.length) (h4 : T.length ≤ 4) (hT : ∀ t ∈ T, t.natAbs < 2 ^ 22) (hp : ∀ p ∈ pts, Dr p) (g : G) : (iR1 (.e (eB1 fLen (.v 0)))) ⟨[some (.frz (.tup (T.map D.int))), some (.frz (.lst (row pts))), none], g⟩ = .ok ((List.range T.length).map fun i => D.int (i : Nat)) ⟨[some (.frz (.tup (T.map D.int))), some (.frz (.lst (row pts))), none], g⟩ := by
  have en := rng0 T.length
  have fl : fLen (.tup (T.map D.int)) = some (.frz (.int T.length)) := by simp [fLen]
  rw [ir1_ok (oe (b1_ok (f := fLen) (ov (i := 0) (d := .tup (T.map D.int)) rfl) rfl fl)) rfl (smI (show T.length ≤ 1000 by omega)), en]
theorem dot_c {T : List Int} {pts : List (Int × Int)} (hl : T.length = pts.length) (h4 : T.length ≤ 4) (hT : ∀ t ∈ T, t.natAbs < 2 ^ 22) (hp : ∀ p ∈ pts, Dr p) (g : G) : eLc (.nm 2) (iR1 (.e (eB1 fLen (.v 0)))) tYes (eCall q_times [(eB2 fIx (.v 1) (.v 2)), (eTup [(eB2 fIx (.v 0) (.v 2)), (eC (.int 1))])]) [2] ⟨[some (.frz (.tup (T.map D.int))), some (.frz (.lst (row pts))), none], g⟩ = .ok (.own (.lst (row (dotL T pts)))) ⟨[some (.frz (.tup (T.map D.int))), some (.frz (.lst (row pts))), none], g⟩ := by
  unfold eLc
  rw [dot_i hl h4 hT hp g]
  simp only [O.bind]
  have ew : wipe [2] ⟨[some (.frz (.tup (T.map D.int))), some (.frz (.lst (row pts))), none], g⟩ = ⟨[some (.frz (.tup (T.map D.int))), some (.frz (.lst (row pts))), none], g⟩ := rfl
  rw [ew, dot_lc hl h4 hT hp g]
  rfl
theorem dot_spec {T : List Int} {pts : List (Int × Int)} (hl : T.length = pts.length) (h4 : T.length ≤ 4) (hT : ∀ t ∈ T, t.natAbs < 2 ^ 22) (hp : ∀ p ∈ pts, Dr p) (g : G) : q_dot [.tup (T.map D.int), .lst (row pts)] g = .ok (.frz (PP ((dotL T pts).foldl addp (0, 1)))) g := by
  refine callB_rt (z := ⟨[some (.frz (.tup (T.map D.int))), some (.frz (.lst (row pts))), none], g⟩) (b := m_dot) (n := 3) ?_
  show sRet (eCall q_total [eLc (.nm 2) (iR1 (.e (eB1 fLen (.v 0)))) tYes (eCall q_times [(eB2 fIx (.v 1) (.v 2)), (eTup [(eB2 fIx (.v 0) (.v 2)), (eC (.int 1))])]) [2]]) ⟨[some (.frz (.tup (T.map D.int))), some (.frz (.lst (row pts))), none], g⟩ = _
  exact ret_ok (call1 (dot_c hl h4 hT hp g) (dot_tot hl h4 hT hp g))
/-! ### the law's look at scaled -/
theorem pos_mul {a c : Int} (hc : 0 < c) : 0 < a * c ↔ 0 < a := by
  constructor
  · intro h
    rcases Int.lt_or_le 0 a with h1 | h1
    · exact h1
    · have := Int.mul_le_mul_of_nonneg_right h1 (Int.le_of_lt hc)
      omega
  · exact fun h => Int.mul_pos h hc
theorem neg_mul' {a c : Int} (hc : 0 < c) : a * c < 0 ↔ a < 0 := by
  have := pos_mul (a := -a) hc
  rw [Int.neg_mul] at this
  omega
section
variable {ps : List (Int × Int)} (w : Rw ps)
include w
theorem tF_sign {p : Int × Int} (hp : p ∈ ps) : (0 < tF ps p ↔ 0 < p.1) ∧ (tF ps p < 0 ↔ p.1 < 0) := by
  obtain ⟨s, s0, hs⟩ := tF_val w
  have e := hs p hp
  have c0 := (cF_ok w).1
  have d0 := (w.dr p hp).ok.pos
  constructor
  · rw [← pos_mul (a := tF ps p) s0, ← pos_mul (a := tF ps p * s) d0, e, pos_mul c0]
  · rw [← neg_mul' (a := tF ps p) s0, ← neg_mul' (a := tF ps p * s) d0, e, neg_mul' c0]
theorem tF_cross {p q : Int × Int} (hp : p ∈ ps) (hq : q ∈ ps) : nrm (tF ps p * q.1) (1 * q.2) = nrm (tF ps q * p.1) (1 * p.2) := by
  obtain ⟨s, s0, hs⟩ := tF_val w
  have e1 := hs p hp
  have e2 := hs q hq
  have c0 := (cF_ok w).1
  have d0 := (w.dr p hp).ok.pos
  have d1 := (w.dr q hq).ok.pos
  refine nrm_cross (by omega) (by omega) ?_
  have sc : s * cF ps ≠ 0 := Int.mul_ne_zero (by omega) (by omega)
  refine Int.eq_of_mul_eq_mul_right sc ?_
  grind
end
theorem idx_fold {β : Type} (f : β → Int → β) (T : List Int) (a : β) : (List.range T.length).foldl (fun a i => f a (T.getD i 0)) a = T.foldl f a := by
  have : T = (List.range T.length).map fun i => T.getD i 0 := by
    apply List.ext_getElem
    · simp
    · intro i h1 h2
      simp [List.getD, h1]
  conv => rhs; rw [this, List.foldl_map]
theorem list_of_D {ds : List D} (h : ∀ d ∈ ds, ∃ p, d = PP p ∧ Dr p) : ∃ pts : List (Int × Int), ds = row pts ∧ ∀ p ∈ pts, Dr p := by
  induction ds with
  | nil => exact ⟨[], rfl, fun p h => nomatch h⟩
  | cons d ds ih =>
    obtain ⟨pts, e, hp⟩ := ih fun x hx => h x (List.mem_cons_of_mem _ hx)
    obtain ⟨p, ed, dp⟩ := h d List.mem_cons_self
    refine ⟨p :: pts, by rw [ed, e]; rfl, fun q hq => ?_⟩
    rcases List.mem_cons.mp hq with rfl | hq
    · exact dp
    · exact hp q hq
end Zc

/-! K10f: k10: _law_scaled. -/
namespace Zc
open PySem Zn
def told (ps : List (Int × Int)) : List D := ps.map fun p => D.int (tF ps p)
theorem told_eq (ps : List (Int × Int)) : (ps.map (tF ps)).map D.int = told ps := by simp [told]
theorem lc_ok {t : Tg} {i : I} {c : T} {e : E} {vs : List Nat} {z z1 z2 : Zs} {l ds : List D} (h : i z = .ok l z1) (h2 : lcL t c e vs l [] (wipe vs z1) = some (ds, z2)) : eLc t i c e vs z = .ok (.own (.lst ds)) (unw vs z1 z2) := by
  unfold eLc
  rw [h]
  simp only [O.bind, h2]
theorem seq_for' {t : Tg} {i : I} {b c : SS} {z z1 z' : Zs} {l : List D} (h : i z = .ok l z1) (e : forL t b l z1 = .ok .nx z') : sSeq (sFor t i b) c z = c z' := seq_nx ((for_ok h).trans e)
theorem inF01 {c : Int} (h : c = 0 ∨ c = 1) : fNotInF (.int c) (.tup [.int 0, .int 1]) = some false := by
  rcases h with rfl | rfl <;> rfl
section
variable {ps : List (Int × Int)} (w : Rw ps)
include w
theorem len_row : fLen (.lst (row ps)) = some (.frz (.int ps.length)) := by simp [fLen, row]
theorem len_told : fLen (.tup (told ps)) = some (.frz (.int ps.length)) := by simp [fLen, told]
theorem r_row {a b c d e f h k : Option S} {g : G} : iR1 (.e (eB1 fLen (.v 1))) ⟨[a, some (.frz (.lst (row ps))), b, c, d, e, f, h, k], g⟩ = .ok ((List.range ps.length).map fun i => D.int (i : Nat)) ⟨[a, some (.frz (.lst (row ps))), b, c, d, e, f, h, k], g⟩ := by
  have := w.len
  rw [ir1_ok (oe (b1_ok (f := fLen) (ov (i := 1) (d := .lst (row ps)) rfl) rfl (len_row w))) rfl (smI (show ps.length ≤ 1000 by omega)), rng0]
theorem r_told {a b c d e f h k : Option S} {g : G} : iR1 (.e (eB1 fLen (.v 2))) ⟨[a, b, some (.frz (.tup (told ps))), c, d, e, f, h, k], g⟩ = .ok ((List.range ps.length).map fun i => D.int (i : Nat)) ⟨[a, b, some (.frz (.tup (told ps))), c, d, e, f, h, k], g⟩ := by
  have := w.len
  rw [ir1_ok (oe (b1_ok (f := fLen) (ov (i := 2) (d := .tup (told ps)) rfl) rfl (len_told w))) rfl (smI (show ps.length ≤ 1000 by omega)), rng0]
theorem ixr (i : Nat) (h : i < ps.length) : fIx (.lst (row ps)) (.int (i : Nat)) = some (.frz (PP (ps.getD i (0, 1)))) := ix_l PP ps i (0, 1) h
theorem ixt (i : Nat) (h : i < ps.length) : fIx (.tup (told ps)) (.int (i : Nat)) = some (.frz (.int (tF ps (ps.getD i (0, 1))))) := ix_t (fun p => D.int (tF ps p)) ps i (0, 1) h
theorem sg_lc {c : Option S} {g : G} : lcL (.nm 5) (tOr (tB2 fNe (.e (eB2 (vB fGt) (.e (eB2 fIx (.v 2) (.v 5))) (.e (eC (.int 0))))) (.e (eB2 (vB fGt) (.e (eB2 fIx (.e (eB2 fIx (.v 1) (.v 5))) (.e (eC (.int 0))))) (.e (eC (.int 0)))))) (tB2 fNe (.e (eB2 (vB fLt) (.e (eB2 fIx (.v 2) (.v 5))) (.e (eC (.int 0))))) (.e (eB2 (vB fLt) (.e (eB2 fIx (.e (eB2 fIx (.v 1) (.v 5))) (.e (eC (.int 0))))) (.e (eC (.int 0))))))) (eV 5) [5]
    ((List.range ps.length).map fun i => D.int (i : Nat)) [] ⟨[some (.frz .st), some (.frz (.lst (row ps))), some (.frz (.tup (told ps))), c, none, none, none, none, none], g⟩ = some ([], ⟨[some (.frz .st), some (.frz (.lst (row ps))), some (.frz (.tup (told ps))), c, none, none, none, none, none], g⟩) := by
  have e := lcL_map (t := .nm 5) (c := (tOr (tB2 fNe (.e (eB2 (vB fGt) (.e (eB2 fIx (.v 2) (.v 5))) (.e (eC (.int 0))))) (.e (eB2 (vB fGt) (.e (eB2 fIx (.e (eB2 fIx (.v 1) (.v 5))) (.e (eC (.int 0))))) (.e (eC (.int 0)))))) (tB2 fNe (.e (eB2 (vB fLt) (.e (eB2 fIx (.v 2) (.v 5))) (.e (eC (.int 0))))) (.e (eB2 (vB fLt) (.e (eB2 fIx (.e (eB2 fIx (.v 1) (.v 5))) (.e (eC (.int 0))))) (.e (eC (.int 0)))))))) (e := eV 5) (vs := [5])
    (z := ⟨[some (.frz .st), some (.frz (.lst (row ps))), some (.frz (.tup (told ps))), c, none, none, none, none, none], g⟩) (fun _ => none) ((List.range ps.length).map fun i => D.int (i : Nat)) [] (by have := w.len; simp [sizeLine_eq]; omega) (fun x hx => by
      obtain ⟨i, hi, rfl⟩ := List.mem_map.mp hx
      rw [List.mem_range] at hi
      obtain ⟨s1, s2⟩ := tF_sign w (getD_mem (d := (0, 1)) hi)
      have x1 := ixr w i hi
      have x2 := ixt w i hi
      have d1 : decide (0 < tF ps (ps.getD i (0, 1))) = decide (0 < (ps.getD i (0, 1)).1) := decide_eq_decide.mpr s1
      have d2 : decide (tF ps (ps.getD i (0, 1)) < 0) = decide ((ps.getD i (0, 1)).1 < 0) := decide_eq_decide.mpr s2
      have nb : ∀ b : Bool, fNe (.bl b) (.bl b) = some false := fun b => by unfold fNe; rw [eqD_bl]; simp
      refine ⟨⟨[some (.frz .st), some (.frz (.lst (row ps))), some (.frz (.tup (told ps))), c, none, fi (i : Nat), none, none, none], g⟩, by simp [asg, Zs.put], .inl ⟨rfl, ⟨[some (.frz .st), some (.frz (.lst (row ps))), some (.frz (.tup (told ps))), c, none, fi (i : Nat), none, none, none], g⟩, ?_, by simp [wipe]⟩⟩
      have q1 := b2_ok (f := fIx) (ov (i := 2) (z := ⟨[some (.frz .st), some (.frz (.lst (row ps))), some (.frz (.tup (told ps))), c, none, fi (i : Nat), none, none, none], g⟩) (d := .tup (told ps)) rfl) (ov (i := 5) (d := .int (i : Nat)) rfl) rfl rfl x2
      have q2 := b2_ok (f := fIx) (ov (i := 1) (z := ⟨[some (.frz .st), some (.frz (.lst (row ps))), some (.frz (.tup (told ps))), c, none, fi (i : Nat), none, none, none], g⟩) (d := .lst (row ps)) rfl) (ov (i := 5) (d := .int (i : Nat)) rfl) rfl rfl x1
      have q3 := b2_ok (f := fIx) (oe q2) (oe (m := eC (.int 0)) rfl) rfl rfl (ix0 _ _)
      refine (or_f (t2_ok (f := fNe) (oe (b2_ok (f := vB fGt) (oe q1) (oe (m := eC (.int 0)) rfl) rfl rfl rfl)) (oe (b2_ok (f := vB fGt) (oe q3) (oe (m := eC (.int 0)) rfl) rfl rfl rfl)) rfl rfl ?_)).trans (t2_ok (f := fNe) (oe (b2_ok (f := vB fLt) (oe q1) (oe (m := eC (.int 0)) rfl) rfl rfl rfl)) (oe (b2_ok (f := vB fLt) (oe q3) (oe (m := eC (.int 0)) rfl) rfl rfl rfl)) rfl rfl ?_)
      · show fNe (.bl (decide (0 < tF ps (ps.getD i (0, 1))))) (.bl (decide (0 < (ps.getD i (0, 1)).1))) = _
        rw [d1]; exact nb _
      · show fNe (.bl (decide (tF ps (ps.getD i (0, 1)) < 0))) (.bl (decide ((ps.getD i (0, 1)).1 < 0))) = _
        rw [d2]; exact nb _)
  rw [e]
  have : ∀ l : List D, l.filterMap (fun _ => (none : Option D)) = [] := fun l => by induction l <;> simp_all
  rw [this]; rfl
end
end Zc

/-! K10g: k10: _law_scaled. -/
namespace Zc
open PySem Zn
abbrev zS (ps : List (Int × Int)) (c j k pt due : Option S) (g : G) : Zs := ⟨[some (.frz .st), some (.frz (.lst (row ps))), some (.frz (.tup (told ps))), c, j, k, pt, due, none], g⟩
theorem if_ok {c : T} {b : SS} {z z' : Zs} (h : c z = .ok false z') : sIf c b sNx z = .ok .nx z' := (if_f h).trans rfl
theorem val_ok {m : E} {z z' : Zs} {b : Bool} (h : m z = .ok (.frz (.bl b)) z') : tVal m z = .ok b z' := by simp only [tVal, h, O.bind]
section
variable {ps : List (Int × Int)} (w : Rw ps)
include w
theorem tok {i : Nat} (h : i < ps.length) : Ok 22 (tF ps (ps.getD i (0, 1))) 1 := ok_int (tF_bd w (getD_mem h)) (by decide)
theorem pok {i : Nat} (h : i < ps.length) : OkP 22 (ps.getD i (0, 1)) := (w.dr _ (getD_mem h)).ok.mono (by decide)
theorem mul_tok {i j : Nat} (hi : i < ps.length) (hj : j < ps.length) (g : G) : q__law_mul [.tup [.int (tF ps (ps.getD i (0, 1))), .int 1], PP (ps.getD j (0, 1))] g = .ok (.frz (nrm (tF ps (ps.getD i (0, 1)) * (ps.getD j (0, 1)).1) (1 * (ps.getD j (0, 1)).2))) g :=
  mul_spec (tok w hi) (pok w hj) (by decide)
/-- the inner loop -/
theorem in_loop {c due pt : Option S} {k0 : Option S} {j : Nat} (hj : j < ps.length) (g : G) : ∃ k', forL (.nm 5) (sIf (tB2 fNe (.e (eCall q__law_mul [(eTup [(eB2 fIx (.v 2) (.v 4)), (eC (.int 1))]), (eB2 fIx (.v 1) (.v 5))])) (.e (eCall q__law_mul [(eTup [(eB2 fIx (.v 2) (.v 5)), (eC (.int 1))]), (eB2 fIx (.v 1) (.v 4))]))) (sRet (eC (.bl false))) sNx)
    ((List.range ps.length).map fun i => D.int (i : Nat)) (zS ps c (fi (j : Nat)) k0 pt due g) = .ok .nx (zS ps c (fi (j : Nat)) k' pt due g) := by
  obtain ⟨z', e, k', hz⟩ := forL_inv (t := .nm 5) (b := (sIf (tB2 fNe (.e (eCall q__law_mul [(eTup [(eB2 fIx (.v 2) (.v 4)), (eC (.int 1))]), (eB2 fIx (.v 1) (.v 5))])) (.e (eCall q__law_mul [(eTup [(eB2 fIx (.v 2) (.v 5)), (eC (.int 1))]), (eB2 fIx (.v 1) (.v 4))]))) (sRet (eC (.bl false))) sNx))
    (fun z => ∃ k', z = zS ps c (fi (j : Nat)) k' pt due g) ((List.range ps.length).map fun i => D.int (i : Nat)) (zS ps c (fi (j : Nat)) k0 pt due g) ⟨k0, rfl⟩ (fun x hx z ⟨k1, hz⟩ => by
      subst hz
      obtain ⟨i, hi, rfl⟩ := List.mem_map.mp hx
      rw [List.mem_range] at hi
      refine ⟨zS ps c (fi (j : Nat)) (fi (i : Nat)) pt due g, ?_, fi (i : Nat), rfl⟩
      show sIf _ _ _ (zS ps c (fi (j : Nat)) (fi (i : Nat)) pt due g) = _
      have a1 := b2_ok (f := fIx) (ov (i := 2) (z := zS ps c (fi (j : Nat)) (fi (i : Nat)) pt due g) (d := .tup (told ps)) rfl) (ov (i := 4) (d := .int (j : Nat)) rfl) rfl rfl (ixt w j hj)
      have a2 := b2_ok (f := fIx) (ov (i := 1) (z := zS ps c (fi (j : Nat)) (fi (i : Nat)) pt due g) (d := .lst (row ps)) rfl) (ov (i := 5) (d := .int (i : Nat)) rfl) rfl rfl (ixr w i hi)
      have a3 := b2_ok (f := fIx) (ov (i := 2) (z := zS ps c (fi (j : Nat)) (fi (i : Nat)) pt due g) (d := .tup (told ps)) rfl) (ov (i := 5) (d := .int (i : Nat)) rfl) rfl rfl (ixt w i hi)
      have a4 := b2_ok (f := fIx) (ov (i := 1) (z := zS ps c (fi (j : Nat)) (fi (i : Nat)) pt due g) (d := .lst (row ps)) rfl) (ov (i := 4) (d := .int (j : Nat)) rfl) rfl rfl (ixr w j hj)
      have tp : ∀ {m : E} {z z1 : Zs} {t : Int}, m z = .ok (.frz (.int t)) z1 → eTup [m, eC (.int 1)] z = .ok (.frz (.tup [.int t, .int 1])) z1 := fun h => by
        simp only [eTup, args, h, O.bind, eC, S.d, List.length_cons, List.length_nil]
        rw [if_pos (by rw [sizeLine_eq]; decide)]
      have b1 := call2 (f := q__law_mul) (tp a1) a2 (mul_tok w hj hi g)
      have b2 := call2 (f := q__law_mul) (tp a3) a4 (mul_tok w hi hj g)
      rw [tF_cross w (getD_mem hi) (getD_mem hj)] at b2
      refine if_ok (t2_ok (f := fNe) (oe b1) (oe b2) rfl rfl ?_)
      show fNe (nrm _ _) (nrm _ _) = _
      rw [nrm_eq]; exact neP _ _)
  subst hz
  exact ⟨k', e⟩
/-- the outer one -/
theorem out_loop (g : G) : ∃ j' k', forL (.nm 4) (sSeq (sAsg (.nm 3) (eCall q_divisor [(eV 3), (eB2 fIx (.v 2) (.v 4))])) (sFor (.nm 5) (iR1 (.e (eB1 fLen (.v 1)))) (sIf (tB2 fNe (.e (eCall q__law_mul [(eTup [(eB2 fIx (.v 2) (.v 4)), (eC (.int 1))]), (eB2 fIx (.v 1) (.v 5))])) (.e (eCall q__law_mul [(eTup [(eB2 fIx (.v 2) (.v 5)), (eC (.int 1))]), (eB2 fIx (.v 1) (.v 4))]))) (sRet (eC (.bl false))) sNx)))
    ((List.range ps.length).map fun i => D.int (i : Nat)) (zS ps (fi 0) none none none none g) = .ok .nx (zS ps (fi ((ps.map (tF ps)).foldl gcS 0)) j' k' none none g) := by
  obtain ⟨z', e, j', k', hz⟩ := forL_sim (t := .nm 4) (b := (sSeq (sAsg (.nm 3) (eCall q_divisor [(eV 3), (eB2 fIx (.v 2) (.v 4))])) (sFor (.nm 5) (iR1 (.e (eB1 fLen (.v 1)))) (sIf (tB2 fNe (.e (eCall q__law_mul [(eTup [(eB2 fIx (.v 2) (.v 4)), (eC (.int 1))]), (eB2 fIx (.v 1) (.v 5))])) (.e (eCall q__law_mul [(eTup [(eB2 fIx (.v 2) (.v 5)), (eC (.int 1))]), (eB2 fIx (.v 1) (.v 4))]))) (sRet (eC (.bl false))) sNx))))
    (fun i : Nat => D.int (i : Nat)) (fun acc i => gcS acc ((ps.map (tF ps)).getD i 0)) (fun acc z => ∃ j' k', z = zS ps (fi acc) j' k' none none g) (fun _ => True) (List.range ps.length) 0 (zS ps (fi 0) none none none none g) ⟨none, none, rfl⟩ trivial (fun i hi acc z ⟨j1, k1, hz⟩ _ => by
      subst hz
      rw [List.mem_range] at hi
      have et : (ps.map (tF ps)).getD i 0 = tF ps (ps.getD i (0, 1)) := by simp [List.getD, hi]
      rw [et]
      obtain ⟨k', e⟩ := in_loop w (c := fi (gcS acc (tF ps (ps.getD i (0, 1))))) (k0 := k1) (pt := none) (due := none) hi g
      refine ⟨trivial, zS ps (fi (gcS acc (tF ps (ps.getD i (0, 1))))) (fi (i : Nat)) k' none none g, ?_, fi (i : Nat), k', rfl⟩
      show sSeq _ _ (zS ps (fi acc) (fi (i : Nat)) k1 none none g) = _
      refine (seq_nx (z' := zS ps (fi (gcS acc (tF ps (ps.getD i (0, 1))))) (fi (i : Nat)) k1 none none g) ?_).trans ((for_ok (r_row w)).trans e)
      have a1 := b2_ok (f := fIx) (ov (i := 2) (z := zS ps (fi acc) (fi (i : Nat)) k1 none none g) (d := .tup (told ps)) rfl) (ov (i := 4) (d := .int (i : Nat)) rfl) rfl rfl (ixt w i hi)
      exact asg_nm (i := 3) (call2 (f := q_divisor) (m := eV 3) (s := .frz (.int acc)) rfl a1 (divisor_spec acc _ g)))
  subst hz
  have ef := idx_fold gcS (ps.map (tF ps)) 0
  rw [List.length_map] at ef
  rw [ef] at e
  exact ⟨j', k', e⟩
end
theorem due_loop {ps pts : List (Int × Int)} (w : Rw ps) (hl : ps.length = pts.length) (hp : ∀ p ∈ pts, Dr p) {pt : S} (hpt : pt.d = .lst (row pts)) {c j k0 : Option S} (g : G) : ∃ k', forL (.nm 5) (sAsg (.nm 7) (eCall q__law_add [(eV 7), (eCall q__law_mul [(eTup [(eB2 fIx (.v 2) (.v 5)), (eC (.int 1))]), (eB2 fIx (.v 6) (.v 5))])]))
    ((List.range ps.length).map fun i => D.int (i : Nat)) (zS ps c j k0 (some pt) (some (.frz (PP (0, 1)))) g) = .ok .nx (zS ps c j k' (some pt) (some (.frz (PP ((dotL (ps.map (tF ps)) pts).foldl addp (0, 1))))) g) := by
  obtain ⟨z', e, k', hz⟩ := sum_loopV (t := .nm 5) (b := (sAsg (.nm 7) (eCall q__law_add [(eV 7), (eCall q__law_mul [(eTup [(eB2 fIx (.v 2) (.v 5)), (eC (.int 1))]), (eB2 fIx (.v 6) (.v 5))])]))) (B := 900) (fun i : Nat => D.int (i : Nat)) (fun i => mulp ((ps.map (tF ps)).getD i 0, 1) (pts.getD i (0, 1))) (fun i => i < ps.length)
    (fun acc z => ∃ k', z = zS ps c j k' (some pt) (some (.frz (PP acc))) g) (fun acc i K z hi o o2 hK ⟨k1, hz⟩ => by
      subst hz
      have et : (ps.map (tF ps)).getD i 0 = tF ps (ps.getD i (0, 1)) := by simp [List.getD, hi]
      rw [et] at o2 ⊢
      refine ⟨zS ps c j (fi (i : Nat)) (some pt) (some (.frz (PP (addp acc (mulp (tF ps (ps.getD i (0, 1)), 1) (pts.getD i (0, 1))))))) g, ?_, fi (i : Nat), rfl⟩
      show sAsg _ _ (zS ps c j (fi (i : Nat)) (some pt) (some (.frz (PP acc))) g) = _
      have a1 := b2_ok (f := fIx) (ov (i := 2) (z := zS ps c j (fi (i : Nat)) (some pt) (some (.frz (PP acc))) g) (d := .tup (told ps)) rfl) (ov (i := 5) (d := .int (i : Nat)) rfl) rfl rfl (ixt w i hi)
      have a2 := b2_ok (f := fIx) (ov (i := 6) (z := zS ps c j (fi (i : Nat)) (some pt) (some (.frz (PP acc))) g) (d := .lst (row pts)) (congrArg some hpt)) (ov (i := 5) (d := .int (i : Nat)) rfl) (congrArg some hpt) rfl (ix_l PP pts i (0, 1) (by omega))
      have tp : ∀ {m : E} {z z1 : Zs} {t : Int}, m z = .ok (.frz (.int t)) z1 → eTup [m, eC (.int 1)] z = .ok (.frz (.tup [.int t, .int 1])) z1 := fun h => by
        simp only [eTup, args, h, O.bind, eC, S.d, List.length_cons, List.length_nil]
        rw [if_pos (by rw [sizeLine_eq]; decide)]
      have m1 : q__law_mul [.tup [.int (tF ps (ps.getD i (0, 1))), .int 1], PP (pts.getD i (0, 1))] g = .ok (.frz (PP (mulp (tF ps (ps.getD i (0, 1)), 1) (pts.getD i (0, 1))))) g :=
        mul_p (p := (tF ps (ps.getD i (0, 1)), 1)) (tok w hi) ((hp _ (getD_mem (by omega))).ok.mono (by decide)) (by decide)
      have b1 := call2 (f := q__law_mul) (tp a1) a2 m1
      exact asg_nm (i := 7) (call2 (f := q__law_add) (m := eV 7) (s := .frz (PP acc)) rfl b1 (add_p o o2 hK)))
    (List.range ps.length) (0, 1) 44 (zS ps c j k0 (some pt) (some (.frz (PP (0, 1)))) g) (ok01.mono (by decide)) (fun i hi => by
      rw [List.mem_range] at hi
      refine ⟨hi, ?_⟩
      have et : (ps.map (tF ps)).getD i 0 = tF ps (ps.getD i (0, 1)) := by simp [List.getD, hi]
      rw [et]
      exact (mulp_ok (p := (tF ps (ps.getD i (0, 1)), 1)) (tok w hi) ((hp _ (getD_mem (by omega))).ok.mono (by decide))).mono (by decide)) (by
      rw [List.length_range]
      exact Nat.le_trans (grow_le2 (m := 4) w.len) (by simp [grow])) ⟨k0, rfl⟩
  subst hz
  have ed : (List.range ps.length).map (fun i => mulp ((ps.map (tF ps)).getD i 0, 1) (pts.getD i (0, 1))) = dotL (ps.map (tF ps)) pts := by
    unfold dotL
    rw [List.length_map]
  rw [ed] at e
  exact ⟨k', e⟩
end Zc

/-! K10h: k10: _law_scaled, the whole. -/
namespace Zc
open PySem Zn
theorem ne_int (n : Int) : fNe (.int n) (.int n) = some false := by unfold fNe; rw [eqD_int]; simp
theorem tup2_ok {m n : E} {z z1 z2 : Zs} {s t : S} (h : m z = .ok s z1) (h2 : n z1 = .ok t z2) : eTup [m, n] z = .ok (.frz (.tup [s.d, t.d])) z2 := by
  simp only [eTup, args, h, h2, O.bind, List.length_cons, List.length_nil]
  rw [if_pos (by rw [sizeLine_eq]; decide)]
theorem part_lc {e : E} {vs : List Nat} (Z : G → Zs) {i : Nat} (ha : ∀ g d, asg (.nm i) (.frz d) (Z g) = .ok () ((Z g).put i (some (.frz d)))) (he : ∀ g d, StOk g → ∃ p g', e ((Z g).put i (some (.frz d))) = .ok (.frz (PP p)) ((Z g').put i (some (.frz d))) ∧ StOk g' ∧ Dr p) (hw : ∀ g d, wipe vs ((Z g).put i (some (.frz d))) = Z g)
    (l : List D) (hl : l.length ≤ sizeLine) {g : G} (hg : StOk g) : ∃ pts g', lcL (.nm i) tYes e vs l [] (Z g) = some (row pts, Z g') ∧ pts.length = l.length ∧ (∀ p ∈ pts, Dr p) ∧ StOk g' := by
  obtain ⟨ds, z', r1, r2, r3, g', hz, hg'⟩ := lcL_rel (t := .nm i) (e := e) (vs := vs) (fun z => ∃ g, z = Z g ∧ StOk g) (fun d => ∃ p, d = PP p ∧ Dr p) l [] (Z g) (by simpa using hl) ⟨g, rfl, hg⟩ (fun x hx z ⟨g1, hz, hg1⟩ => by
    subst hz
    obtain ⟨p, g', h1, h2, h3⟩ := he g1 x hg1
    exact ⟨_, _, _, ha g1 x, h1, ⟨p, rfl, h3⟩, g', hw g' x, h2⟩)
  subst hz
  obtain ⟨pts, e1, e2⟩ := list_of_D r3
  refine ⟨pts, g', ?_, ?_, e2, hg'⟩
  · rw [r1, e1]; rfl
  · rw [← r2, e1]; simp [row]
theorem law_scaled_spec {ps : List (Int × Int)} (w : Rw ps) {g : G} (hg : StOk g) : ∃ g', q__law_scaled [.st, .lst (row ps)] g = .ok (.frz (.bl true)) g' ∧ StOk g' := by
  obtain ⟨j1, k1, eO⟩ := out_loop w g
  obtain ⟨pts, g2, eP, hl, hp, hg2⟩ := part_lc (e := (eCall q__law_part [(eV 0)])) (vs := [8]) (i := 8) (fun g => zS ps (fi ((ps.map (tF ps)).foldl gcS 0)) j1 k1 none none g) (fun g d => rfl) (fun g d hg => by
    obtain ⟨p, g', h1, h2, h3⟩ := part_draw hg
    exact ⟨p, g', call1 (f := q__law_part) (m := eV 0) (s := .frz .st) (z1 := (zS ps (fi ((ps.map (tF ps)).foldl gcS 0)) j1 k1 none none g).put 8 (some (.frz d))) rfl h1, h2, h3⟩) (fun g d => rfl) (row ps) (by rw [sizeLine_eq]; have := w.len; simp [row]; omega) hg
  have hl' : ps.length = pts.length := by rw [hl]; simp [row]
  obtain ⟨k2, eD⟩ := due_loop w hl' hp (pt := .own (.lst (row pts))) rfl (c := fi ((ps.map (tF ps)).foldl gcS 0)) (j := j1) (k0 := k1) g2
  have dt := dot_spec (T := ps.map (tF ps)) (pts := pts) (by rw [List.length_map]; exact hl') (by rw [List.length_map]; exact w.len) (fun t ht => by obtain ⟨p, hp, rfl⟩ := List.mem_map.mp ht; exact tF_bd w hp) hp g2
  rw [told_eq] at dt
  refine ⟨g2, ?_, hg2⟩
  refine callB_rt (z := zS ps (fi ((ps.map (tF ps)).foldl gcS 0)) j1 k2 (some (.frz (.lst (row pts)))) (some (.frz (PP ((dotL (ps.map (tF ps)) pts).foldl addp (0, 1))))) g2) (b := m__law_scaled) (n := 9) ?_
  refine (seq_nx (z' := zS ps (fi 0) none none none none g) ?_).trans ?_
  · have s1 := scaled_spec w g
    rw [told_eq] at s1
    have t1 := tup2_ok (call1 (f := q_scaled) (b1_ok (f := fTupOf) (ov (i := 1) (z := ⟨[some (.frz .st), some (.frz (.lst (row ps))), none, none, none, none, none, none, none], g⟩) (d := .lst (row ps)) rfl) rfl rfl) s1) (n := eC (.int 0)) rfl
    show sAsg _ _ ⟨[some (.frz .st), some (.frz (.lst (row ps))), none, none, none, none, none, none, none], g⟩ = _
    simp only [sAsg, t1, O.bind]
    rfl
  refine (seq_nx (z' := zS ps (fi 0) none none none none g) ?_).trans ?_
  · refine if_ok ((or_f (t2_ok (f := fNe) (oe (b1_ok (f := fLen) (ov (i := 2) (z := zS ps (fi 0) none none none none g) (d := .tup (told ps)) rfl) rfl (len_told w))) (oe (b1_ok (f := fLen) (ov (i := 1) (d := .lst (row ps)) rfl) rfl (len_row w))) rfl rfl (ne_int _))).trans ?_)
    have lc := lc_ok (t := .nm 5) (z := zS ps (fi 0) none none none none g) (r_row w) (sg_lc w)
    have u : unw [5] (zS ps (fi 0) none none none none g) (zS ps (fi 0) none none none none g) = zS ps (fi 0) none none none none g := rfl
    rw [u] at lc
    have l0 : fLen (.lst []) = some (.frz (.int 0)) := rfl
    have g0 : fGt (.int 0) (.int 0) = some false := rfl
    exact t2_ok (f := fGt) (oe (b1_ok (f := fLen) (oe lc) rfl l0)) (oe (m := eC (.int 0)) (z1 := zS ps (fi 0) none none none none g) (s := .frz (.int 0)) rfl) rfl rfl g0
  refine (seq_for' (r_row w) eO).trans ?_
  refine (seq_nx (z' := zS ps (fi ((ps.map (tF ps)).foldl gcS 0)) j1 k1 none none g) ?_).trans ?_
  · exact if_ok (t2_ok (f := fNotInF) (ov (i := 3) (z := zS ps (fi ((ps.map (tF ps)).foldl gcS 0)) j1 k1 none none g) (d := .int ((ps.map (tF ps)).foldl gcS 0)) rfl) (oe (tup2_ok (m := eC (.int 0)) (n := eC (.int 1)) rfl rfl)) rfl rfl (inF01 (tF_gcd w)))
  refine (seq_nx (z' := zS ps (fi ((ps.map (tF ps)).foldl gcS 0)) j1 k1 (some (.own (.lst (row pts)))) (some (.frz (PP (0, 1)))) g2) ?_).trans ?_
  · have lc := lc_ok (t := .nm 8) (i := iSeq (eV 1)) (c := tYes) (e := (eCall q__law_part [(eV 0)])) (vs := [8]) (z := zS ps (fi ((ps.map (tF ps)).foldl gcS 0)) j1 k1 none none g) (z1 := zS ps (fi ((ps.map (tF ps)).foldl gcS 0)) j1 k1 none none g) (l := row ps) rfl eP
    have t1 := tup2_ok (m := eC (.int 0)) (n := eC (.int 1)) (z := unw [8] (zS ps (fi ((ps.map (tF ps)).foldl gcS 0)) j1 k1 none none g) (zS ps (fi ((ps.map (tF ps)).foldl gcS 0)) j1 k1 none none g2)) rfl rfl
    simp only [sPar, argsS, lc, t1, O.bind]
    rfl
  refine (seq_for' (r_told w) eD).trans ?_
  generalize hc : fi ((ps.map (tF ps)).foldl gcS 0) = c at *
  generalize hs : (dotL (ps.map (tF ps)) pts).foldl addp (0, 1) = sm at *
  have v2 : eV 2 (zS ps c j1 k2 (some (.own (.lst (row pts)))) (some (.frz (PP sm))) g2) = .ok (.frz (.tup (told ps))) (zS ps c j1 k2 (some (.own (.lst (row pts)))) (some (.frz (PP sm))) g2) := rfl
  have v6 : eV 6 (zS ps c j1 k2 (some (.own (.lst (row pts)))) (some (.frz (PP sm))) g2) = .ok (.frz (.lst (row pts))) (zS ps c j1 k2 (some (.frz (.lst (row pts)))) (some (.frz (PP sm))) g2) := rfl
  have dd : eCall q_dot [(eV 2), (eV 6)] (zS ps c j1 k2 (some (.own (.lst (row pts)))) (some (.frz (PP sm))) g2) = .ok (.frz (PP sm)) (zS ps c j1 k2 (some (.frz (.lst (row pts)))) (some (.frz (PP sm))) g2) :=
    call2 (f := q_dot) v2 v6 dt
  exact ret_ok (b2_ok (f := vB fEq) (oe dd) (ov (i := 7) (d := PP sm) rfl) rfl rfl (by
    show (fEq (PP sm) (PP sm)).map (fun k => S.frz (.bl k)) = _
    rw [fEq_same (sh_P (k := 0) sm.1 sm.2)]; rfl))
end Zc

/-! K10i: k10: the checks of _law_parts. -/
namespace Zc
open PySem Zn
abbrev zP (p q : Int × Int) (r a b wh pc ls : Option S) (g : G) : Zs := ⟨[some (.frz .st), some (.frz (PP p)), some (.frz (PP q)), r, a, b, wh, pc, ls, none, none], g⟩
theorem ne_bl (b : Bool) : fNe (.bl b) (.bl b) = some false := by unfold fNe; rw [eqD_bl]; simp
theorem nePP (p : Int × Int) : fNe (PP p) (PP p) = some false := neP _ _
theorem neN (a b : Int) : fNe (nrm a b) (nrm a b) = some false := by rw [nrm_eq]; exact neP _ _
section
variable {p q : Int × Int} {r a b wh pc ls : Option S} {g : G}
theorem v1 : eV 1 (zP p q r a b wh pc ls g) = .ok (.frz (PP p)) (zP p q r a b wh pc ls g) := rfl
theorem v2 : eV 2 (zP p q r a b wh pc ls g) = .ok (.frz (PP q)) (zP p q r a b wh pc ls g) := rfl
theorem chk4 (hp : Dr p) (hq : Dr q) : (tOr (tB2 fNe (.e (eCall q_plus [(eV 1), (eV 2)])) (.e (eCall q__law_add [(eV 1), (eV 2)]))) (tOr (tB2 fNe (.e (eCall q_minus [(eV 1), (eV 2)])) (.e (eCall q__law_sub [(eV 1), (eV 2)]))) (tB2 fNe (.e (eCall q_times [(eV 1), (eV 2)])) (.e (eCall q__law_mul [(eV 1), (eV 2)]))))) (zP p q r a b wh pc ls g) = .ok false (zP p q r a b wh pc ls g) := by
  refine (or_f (z' := zP p q r a b wh pc ls g) (t2_ok (f := fNe) (oe (call2 v1 v2 (plus_spec hp.ok hq.ok (by decide)))) (oe (call2 v1 v2 (add_spec hp.ok hq.ok (by decide)))) rfl rfl (neN _ _))).trans ?_
  refine (or_f (z' := zP p q r a b wh pc ls g) (t2_ok (f := fNe) (oe (call2 v1 v2 (minus_spec hp.ok hq.ok (by decide)))) (oe (call2 v1 v2 (sub_spec hp.ok hq.ok (by decide)))) rfl rfl (neN _ _))).trans ?_
  exact t2_ok (f := fNe) (oe (call2 v1 v2 (times_spec hp.ok hq.ok (by decide)))) (oe (call2 v1 v2 (mul_spec hp.ok hq.ok (by decide)))) rfl rfl (neN _ _)
def sg1 (x : Int) : Int := if 0 < x then 1 else -1
theorem sg1_abs {x : Int} (h : x ≠ 0) : (x.natAbs : Int) = sg1 x * x ∧ sg1 x * sg1 x = 1 := by
  unfold sg1
  by_cases h1 : 0 < x
  · simp only [if_pos h1]; omega
  · simp only [if_neg h1]; omega
theorem sgE {m : E} {z z1 : Zs} {x : Int} (h : m z = .ok (.frz (.int x)) z1) : eIf (tB2 fGt (.e m) (.e (eC (.int 0)))) (eC (.int 1)) (eB1 fNeg (.e (eC (.int 1)))) z = .ok (.frz (.int (sg1 x))) z1 := by
  have t := t2_ok (f := fGt) (b := .e (eC (.int 0))) (oe h) (oe (m := eC (.int 0)) (z1 := z1) (s := .frz (.int 0)) rfl) rfl rfl rfl
  unfold eIf
  rw [t]
  show (if decide (0 < x) = true then eC (.int 1) z1 else eB1 fNeg (.e (eC (.int 1))) z1) = _
  unfold sg1
  by_cases h1 : 0 < x
  · rw [if_pos (decide_eq_true h1), if_pos h1]; rfl
  · rw [if_neg (by simpa using h1), if_neg h1]; rfl
theorem absE {m : E} {z z1 : Zs} {x : Int} (h : m z = .ok (.frz (.int x)) z1) : eB1 fAbs (.e m) z = .ok (.frz (.int x.natAbs)) z1 := by
  refine b1_ok (oe h) rfl ?_
  show some (S.frz (.int (if x < 0 then -x else x))) = _
  have : (if x < 0 then -x else x) = (x.natAbs : Int) := by split <;> omega
  rw [this]
theorem ixE {i : Nat} {z : Zs} {x : Int × Int} (k : Int) {y : Int} (h : z.at i = some (PP x)) (hy : fIx (PP x) (.int k) = some (.frz (.int y))) : eB2 fIx (.v i) (.e (eC (.int k))) z = .ok (.frz (.int y)) z := b2_ok (ov h) (oe (m := eC (.int k)) (z1 := z) (s := .frz (.int k)) rfl) h rfl hy
theorem chk5 (hp : Dr p) (hq : Dr q) : (tAnd (tB2 fNe (.e (eB2 fIx (.v 2) (.e (eC (.int 0))))) (.e (eC (.int 0)))) (tB2 fNe (.e (eCall q_over [(eV 1), (eV 2)])) (.e (eCall q__law_mul [(eV 1), (eCall q__law_fr [(eB2 fTimes (.e (eB2 fIx (.v 2) (.e (eC (.int 1))))) (.e (eIf (tB2 fGt (.e (eB2 fIx (.v 2) (.e (eC (.int 0))))) (.e (eC (.int 0)))) (eC (.int 1)) (eB1 fNeg (.e (eC (.int 1))))))), (eB1 fAbs (.e (eB2 fIx (.v 2) (.e (eC (.int 0))))))])])))) (zP p q r a b wh pc ls g) = .ok false (zP p q r a b wh pc ls g) := by
  have i0 := ixE (i := 2) (z := zP p q r a b wh pc ls g) 0 (x := q) rfl (ix0 q.1 q.2)
  have i1 := ixE (i := 2) (z := zP p q r a b wh pc ls g) 1 (x := q) rfl (ix1 q.1 q.2)
  have n0 : fNe (.int q.1) (.int 0) = some (!decide (q.1 = 0)) := by unfold fNe; rw [eqD_int]; rfl
  have tt := t2_ok (f := fNe) (b := .e (eC (.int 0))) (oe i0) (oe (m := eC (.int 0)) (z1 := zP p q r a b wh pc ls g) (s := .frz (.int 0)) rfl) rfl rfl n0
  by_cases h0 : q.1 = 0
  · rw [h0] at tt
    exact and_f tt
  · rw [decide_eq_false h0] at tt
    refine (and_t tt).trans ?_
    obtain ⟨sa, ss⟩ := sg1_abs h0
    have sb : (sg1 q.1).natAbs < 2 ^ 1 := by unfold sg1; split <;> decide
    have t1 := fTimes_of hq.ok.bd sb (by decide) (by decide)
    have m1 := b2_ok (f := fTimes) (oe i1) (oe (sgE i0)) rfl rfl t1
    have on : Ok 5 (q.2 * sg1 q.1) (q.1.natAbs : Int) := by
      refine ⟨by omega, ?_, ?_, by have := hq.ok.bn; simpa using this⟩
      · have c := hq.ok.co
        unfold sg1
        by_cases h1 : 0 < q.1
        · rw [if_pos h1]; simp [Int.gcd_eq_natAbs_gcd_natAbs] at c ⊢; rw [Nat.gcd_comm]; exact c
        · rw [if_neg h1]; simp [Int.gcd_eq_natAbs_gcd_natAbs] at c ⊢; rw [Nat.gcd_comm]; exact c
      · have := hq.ok.bd
        unfold sg1
        by_cases h1 : 0 < q.1
        · rw [if_pos h1]; simpa using this
        · rw [if_neg h1]; simpa using this
    have f1 := fr_spec (a := q.2 * sg1 q.1) (b := (q.1.natAbs : Int)) (k := 5) (by omega) on.bd (by decide) (by decide) g
    rw [nrm_same on] at f1
    have c1 := call2 (f := q__law_fr) m1 (absE i0) f1
    have c2 := call2 (f := q__law_mul) v1 c1 (mul_spec hp.ok on (by decide))
    have c3 := call2 (f := q_over) (v1 (p := p) (q := q) (r := r) (a := a) (b := b) (wh := wh) (pc := pc) (ls := ls) (g := g)) v2 (over_spec hp.ok hq.ok h0 (by decide))
    have e : nrm (p.1 * q.2) (p.2 * q.1) = nrm (p.1 * (q.2 * sg1 q.1)) (p.2 * (q.1.natAbs : Int)) := by
      have hp0 := hp.ok.pos
      refine nrm_cross (Int.mul_ne_zero (by omega) h0) (Int.mul_ne_zero (by omega) (by omega)) ?_
      rw [sa]; grind
    rw [e] at c3
    exact t2_ok (f := fNe) (oe c3) (oe c2) rfl rfl (neN _ _)
theorem chk6 (hp : Dr p) (hq : Dr q) {x y : Int} (hx : x.natAbs ≤ 30) (hy : y.natAbs ≤ 30) : (tOr (tB2 fNe (.e (eCall q_is_less [(eV 1), (eV 2)])) (.e (eB2 (vB fLt) (.e (eCall q__law_sign [(eV 1), (eV 2)])) (.e (eC (.int 0)))))) (tOr (tB2 fNe (.e (eCall q_divisor [(eV 4), (eV 5)])) (.e (eCall q__law_divisor [(eV 4), (eV 5)]))) (tAnd (tB2 fNe (.v 5) (.e (eC (.int 0)))) (tB2 fNe (.e (eCall q_part [(eV 4), (eV 5)])) (.e (eCall q__law_fr [(eB2 fTimes (.v 4) (.e (eIf (tB2 fGt (.v 5) (.e (eC (.int 0)))) (eC (.int 1)) (eB1 fNeg (.e (eC (.int 1))))))), (eB1 fAbs (.v 5))])))))) (zP p q r (fi x) (fi y) wh pc ls g) = .ok false (zP p q r (fi x) (fi y) wh pc ls g) := by
  have Z := zP p q r (fi x) (fi y) wh pc ls g
  have w4 : eV 4 (zP p q r (fi x) (fi y) wh pc ls g) = .ok (.frz (.int x)) (zP p q r (fi x) (fi y) wh pc ls g) := rfl
  have w5 : eV 5 (zP p q r (fi x) (fi y) wh pc ls g) = .ok (.frz (.int y)) (zP p q r (fi x) (fi y) wh pc ls g) := rfl
  have hx6 : x.natAbs < 2 ^ 60 := Nat.lt_of_le_of_lt hx (by decide)
  have hy6 : y.natAbs < 2 ^ 60 := Nat.lt_of_le_of_lt hy (by decide)
  refine (or_f (z' := zP p q r (fi x) (fi y) wh pc ls g) (t2_ok (f := fNe) (oe (call2 v1 v2 (is_less_spec hp.ok hq.ok (by decide)))) (oe (b2_ok (f := vB fLt) (oe (call2 v1 v2 (sign_spec hp.ok hq.ok (by decide)))) (oe (m := eC (.int 0)) (s := .frz (.int 0)) rfl) rfl rfl rfl)) rfl rfl ?_)).trans ?_
  · show fNe (.bl (decide (p.1 * q.2 < q.1 * p.2))) (.bl (decide (sgn (p.1 * q.2 - q.1 * p.2) < 0))) = _
    have : decide (sgn (p.1 * q.2 - q.1 * p.2) < 0) = decide (p.1 * q.2 < q.1 * p.2) := decide_eq_decide.mpr ((sgn_lt _).trans (by omega))
    rw [this]; exact ne_bl _
  refine (or_f (z' := zP p q r (fi x) (fi y) wh pc ls g) (t2_ok (f := fNe) (oe (call2 w4 w5 (divisor_spec x y g))) (oe (call2 w4 w5 (law_divisor_spec hx6 hy6 g))) rfl rfl (ne_int _))).trans ?_
  have n0 : fNe (.int y) (.int 0) = some (!decide (y = 0)) := by unfold fNe; rw [eqD_int]; rfl
  have tt := t2_ok (f := fNe) (b := .e (eC (.int 0))) (ov (i := 5) (z := zP p q r (fi x) (fi y) wh pc ls g) (d := .int y) rfl) (oe (m := eC (.int 0)) (z1 := zP p q r (fi x) (fi y) wh pc ls g) (s := .frz (.int 0)) rfl) rfl rfl n0
  by_cases h0 : y = 0
  · subst h0
    exact and_f tt
  · rw [decide_eq_false h0] at tt
    refine (and_t tt).trans ?_
    obtain ⟨sa, ss⟩ := sg1_abs h0
    have sb : (sg1 y).natAbs < 2 ^ 1 := by unfold sg1; split <;> decide
    have t1 := fTimes_of hx6 sb (by decide) (by decide)
    have sv : eIf (tB2 fGt (.v 5) (.e (eC (.int 0)))) (eC (.int 1)) (eB1 fNeg (.e (eC (.int 1)))) (zP p q r (fi x) (fi y) wh pc ls g) = .ok (.frz (.int (sg1 y))) (zP p q r (fi x) (fi y) wh pc ls g) := by
      have t := t2_ok (f := fGt) (b := .e (eC (.int 0))) (ov (i := 5) (z := zP p q r (fi x) (fi y) wh pc ls g) (d := .int y) rfl) (oe (m := eC (.int 0)) (z1 := zP p q r (fi x) (fi y) wh pc ls g) (s := .frz (.int 0)) rfl) rfl rfl rfl
      unfold eIf
      rw [t]
      show (if decide (0 < y) = true then eC (.int 1) _ else eB1 fNeg (.e (eC (.int 1))) _) = _
      unfold sg1
      by_cases h1 : 0 < y
      · rw [if_pos (decide_eq_true h1), if_pos h1]; rfl
      · rw [if_neg (by simpa using h1), if_neg h1]; rfl
    have av : eB1 fAbs (.v 5) (zP p q r (fi x) (fi y) wh pc ls g) = .ok (.frz (.int y.natAbs)) (zP p q r (fi x) (fi y) wh pc ls g) := by
      refine b1_ok (ov (i := 5) (d := .int y) rfl) rfl ?_
      show some (S.frz (.int (if y < 0 then -y else y))) = _
      have : (if y < 0 then -y else y) = (y.natAbs : Int) := by split <;> omega
      rw [this]
    have m1 := b2_ok (f := fTimes) (ov (i := 4) (z := zP p q r (fi x) (fi y) wh pc ls g) (d := .int x) rfl) (oe sv) rfl rfl t1
    have f1 := fr_spec (a := x * sg1 y) (b := (y.natAbs : Int)) (k := 60) (by omega) (by simpa using hy6) (by decide) (by decide) g
    have c1 := call2 (f := q__law_fr) m1 av f1
    have c2 := call2 (f := q_part) w4 w5 (part_spec (a := x) (b := y) h0 hy6 (by decide) (by decide) g)
    have e : nrm x y = nrm (x * sg1 y) (y.natAbs : Int) := by
      refine nrm_cross h0 (by omega) ?_
      rw [sa]; grind
    rw [e] at c2
    exact t2_ok (f := fNe) (oe c2) (oe c1) rfl rfl (neN _ _)
end
end Zc

/-! K10j: k10: further checks of _law_parts. -/
namespace Zc
open PySem Zn
theorem nB (a b : Bool) : fNotB (.bl a) (.bl b) = some (!decide (a = b)) := rfl
theorem sh_row (ps : List (Int × Int)) {k : Nat} : Sh (k + 2) (.lst (row ps)) := by
  unfold Sh
  intro d hd
  obtain ⟨p, _, rfl⟩ := List.mem_map.mp hd
  exact sh_P _ _
theorem sh_rowt (ps : List (Int × Int)) {k : Nat} : Sh (k + 2) (.tup (row ps)) := by
  unfold Sh
  intro d hd
  obtain ⟨p, _, rfl⟩ := List.mem_map.mp hd
  exact sh_P _ _
section
variable {p q : Int × Int} {a b wh pc ls : Option S} {g : G} {ps : List (Int × Int)} (w : Rw ps)
abbrev R (ps : List (Int × Int)) : Option S := some (.frz (.lst (row ps)))
abbrev tot (ps : List (Int × Int)) : Int × Int := ps.foldl addp (0, 1)
theorem v3 : eV 3 (zP p q (R ps) a b wh pc ls g) = .ok (.frz (.lst (row ps))) (zP p q (R ps) a b wh pc ls g) := rfl
include w
theorem chk9 : (tOr (tB2 fNe (.e (eCall q_total [(eV 3)])) (.v 6)) (tOr (tB2 fNotB (.e (eCall q_are_parts [(eB1 fTupOf (.v 3)), (eB1 fLen (.v 3))])) (.e (eC (.bl true)))) (tOr (tB2 fNotB (.e (eCall q_are_parts [(eV 3), (eB1 fLen (.v 3))])) (.e (eC (.bl false)))) (tB2 fNotB (.e (eCall q_are_parts [(eB1 fTupOf (.v 3)), (eB2 fPlus (.e (eB1 fLen (.v 3))) (.e (eC (.int 1))))])) (.e (eC (.bl false)))))))
    (zP p q (R ps) a b (some (.frz (PP (tot ps)))) pc ls g) = .ok false (zP p q (R ps) a b (some (.frz (PP (tot ps)))) pc ls g) := by
  have len := w.len
  have o : ∀ p ∈ ps, OkP 5 p := fun p hp => (w.dr p hp).ok
  have t := total_spec (ps := ps) (K := 5) (g := g) (by decide) o (Nat.le_trans (grow_le2 (m := 4) w.len) (by simp [grow]))
  have ft := b1_ok (f := fTupOf) (ov (i := 3) (z := zP p q (R ps) a b (some (.frz (PP (tot ps)))) pc ls g) (d := .lst (row ps)) rfl) rfl (s := .frz (.tup (row ps))) rfl
  have fl := b1_ok (f := fLen) (ov (i := 3) (z := zP p q (R ps) a b (some (.frz (PP (tot ps)))) pc ls g) (d := .lst (row ps)) rfl) rfl (len_row w)
  refine (or_f (z' := zP p q (R ps) a b (some (.frz (PP (tot ps)))) pc ls g) (t2_ok (f := fNe) (oe (call1 v3 t)) (ov (i := 6) (d := PP (tot ps)) rfl) rfl rfl (nePP _))).trans ?_
  have p1 := are_parts_tup o (by omega) (ps.length : Int) g
  have p2 := are_parts_lst (row ps) (ps.length : Int) g
  have p3 := are_parts_tup o (by omega) ((ps.length : Int) + 1) g
  rw [decide_eq_true rfl] at p1
  rw [decide_eq_false (by omega)] at p3
  refine (or_f (z' := zP p q (R ps) a b (some (.frz (PP (tot ps)))) pc ls g) (t2_ok (f := fNotB) (oe (call2 ft fl p1)) (oe (m := eC (.bl true)) (s := .frz (.bl true)) rfl) rfl rfl (nB _ _))).trans ?_
  refine (or_f (z' := zP p q (R ps) a b (some (.frz (PP (tot ps)))) pc ls g) (t2_ok (f := fNotB) (oe (call2 v3 fl p2)) (oe (m := eC (.bl false)) (s := .frz (.bl false)) rfl) rfl rfl (nB _ _))).trans ?_
  have fp := b2_ok (f := fPlus) (oe fl) (oe (m := eC (.int 1)) (s := .frz (.int 1)) rfl) rfl rfl (s := .frz (.int ((ps.length : Int) + 1))) rfl
  exact t2_ok (f := fNotB) (oe (call2 ft fp p3)) (oe (m := eC (.bl false)) (s := .frz (.bl false)) rfl) rfl rfl (nB _ _)
omit w in
theorem eq_nil (ps : List (Int × Int)) : fEq (.lst (row ps)) (.lst []) = some ps.isEmpty := by
  unfold fEq
  rw [eqD_of (n := 2) (m := 2) (sh_row ps) (by unfold Sh; intro d hd; cases hd)]
  cases ps <;> rfl
omit w in
theorem in_row {q : Int × Int} (h : q ∈ ps) : fNotIn (PP q) (.lst (row ps)) = some false := by
  unfold fNotIn fIn
  have h1 : SeqAt.shaped (toPy (PP q)) = true := sh_shaped (sh_P (k := 0) _ _) (by decide)
  have h2 : SeqAt.shaped (toPy (.lst (row ps))) = true := sh_shaped (sh_row (k := 0) ps) (by decide)
  have h3 : ((toPys (row ps)).any fun z => PyData.eqv z (toPy (PP q))) = true := by
    rw [List.any_eq_true]
    refine ⟨toPy (PP q), ?_, (sh_ok (sh_P (k := 0) q.1 q.2)).2.2⟩
    rw [toPys_map]
    exact List.mem_map.mpr ⟨PP q, List.mem_map.mpr ⟨q, h, rfl⟩, rfl⟩
  simp only [h1, h2, h3, Bool.and_self, if_true, Option.map_some]
  rfl
theorem chk11 : (tOr (tB2 fNe (.e (eB2 (vB fIsN) (.v 8) (.e (eC .non)))) (.e (eB2 (vB fEq) (.v 3) (.e (eLst []))))) (tAnd (tB2 fNotN (.v 8) (.e (eC .non))) (tOr (tB2 fNotIn (.v 8) (.v 3)) (tB2 fGt (.e (eB1 fLen (.e (eLc (.nm 7) (iSeq (eV 3)) (tB2 fLt (.e (eCall q__law_sign [(eV 7), (eV 8)])) (.e (eC (.int 0)))) (eV 7) [7])))) (.e (eC (.int 0)))))))
    (zP p q (R ps) a b wh pc (some (.frz (encO (ps.foldl leastS none)))) g) = .ok false (zP p q (R ps) a b wh pc (some (.frz (encO (ps.foldl leastS none)))) g) ∨ ∃ pc', (tOr (tB2 fNe (.e (eB2 (vB fIsN) (.v 8) (.e (eC .non)))) (.e (eB2 (vB fEq) (.v 3) (.e (eLst []))))) (tAnd (tB2 fNotN (.v 8) (.e (eC .non))) (tOr (tB2 fNotIn (.v 8) (.v 3)) (tB2 fGt (.e (eB1 fLen (.e (eLc (.nm 7) (iSeq (eV 3)) (tB2 fLt (.e (eCall q__law_sign [(eV 7), (eV 8)])) (.e (eC (.int 0)))) (eV 7) [7])))) (.e (eC (.int 0)))))))
    (zP p q (R ps) a b wh pc (some (.frz (encO (ps.foldl leastS none)))) g) = .ok false (zP p q (R ps) a b wh pc' (some (.frz (encO (ps.foldl leastS none)))) g) := by
  have la := least_all ps none [] (fun p hp => (w.dr p hp).ok.pos) (fun p hp => nomatch hp) rfl
  cases hf : ps.foldl leastS none with
  | none =>
    rw [hf] at la
    obtain ⟨_, rfl⟩ := la
    left
    have e1 := b2_ok (f := vB fIsN) (ov (i := 8) (z := zP p q (R []) a b wh pc (some (.frz .non)) g) (d := .non) rfl) (oe (m := eC .non) (z1 := zP p q (R []) a b wh pc (some (.frz .non)) g) (s := .frz .non) rfl) rfl rfl (s := .frz (.bl true)) rfl
    have e2 := b2_ok (f := vB fEq) (ov (i := 3) (z := zP p q (R []) a b wh pc (some (.frz .non)) g) (d := .lst (row [])) rfl) (oe (m := eLst []) (z1 := zP p q (R []) a b wh pc (some (.frz .non)) g) (s := .own (.lst [])) rfl) rfl rfl (s := .frz (.bl true)) (by show (fEq (.lst (row [])) (.lst [])).map (fun k => S.frz (.bl k)) = _; rw [eq_nil]; rfl)
    refine (or_f (z' := zP p q (R []) a b wh pc (some (.frz .non)) g) (t2_ok (f := fNe) (oe e1) (oe e2) rfl rfl (ne_bl _))).trans ?_
    exact and_f (t2_ok (f := fNotN) (ov (i := 8) (z := zP p q (R []) a b wh pc (some (.frz .non)) g) (d := .non) rfl) (oe (m := eC .non) (z1 := zP p q (R []) a b wh pc (some (.frz .non)) g) (s := .frz .non) rfl) rfl rfl rfl)
  | some m =>
    rw [hf] at la
    obtain ⟨hm, hall⟩ := la
    have hm' : m ∈ ps := hm.elim (fun z => nomatch z) id
    have hne : ps.isEmpty = false := by
      cases ps with
      | nil => cases hm'
      | cons _ _ => rfl
    right
    have e1 := b2_ok (f := vB fIsN) (ov (i := 8) (z := zP p q (R ps) a b wh pc (some (.frz (PP m))) g) (d := PP m) rfl) (oe (m := eC .non) (z1 := zP p q (R ps) a b wh pc (some (.frz (PP m))) g) (s := .frz .non) rfl) rfl rfl (s := .frz (.bl false)) rfl
    have e2 := b2_ok (f := vB fEq) (ov (i := 3) (z := zP p q (R ps) a b wh pc (some (.frz (PP m))) g) (d := .lst (row ps)) rfl) (oe (m := eLst []) (z1 := zP p q (R ps) a b wh pc (some (.frz (PP m))) g) (s := .own (.lst [])) rfl) rfl rfl (s := .frz (.bl false)) (by show (fEq (.lst (row ps)) (.lst [])).map (fun k => S.frz (.bl k)) = _; rw [eq_nil, hne]; rfl)
    have lc := lcL_map (t := .nm 7) (c := (tB2 fLt (.e (eCall q__law_sign [(eV 7), (eV 8)])) (.e (eC (.int 0))))) (e := eV 7) (vs := [7]) (z := zP p q (R ps) a b wh none (some (.frz (PP m))) g) (fun _ => none) (row ps) [] (by have := w.len; simp [row, sizeLine_eq]; omega) (fun x hx => by
      obtain ⟨s, hs, rfl⟩ := List.mem_map.mp hx
      refine ⟨zP p q (R ps) a b wh (some (.frz (PP s))) (some (.frz (PP m))) g, rfl, .inl ⟨rfl, zP p q (R ps) a b wh (some (.frz (PP s))) (some (.frz (PP m))) g, ?_, rfl⟩⟩
      have w7 : eV 7 (zP p q (R ps) a b wh (some (.frz (PP s))) (some (.frz (PP m))) g) = .ok (.frz (PP s)) (zP p q (R ps) a b wh (some (.frz (PP s))) (some (.frz (PP m))) g) := rfl
      have w8 : eV 8 (zP p q (R ps) a b wh (some (.frz (PP s))) (some (.frz (PP m))) g) = .ok (.frz (PP m)) (zP p q (R ps) a b wh (some (.frz (PP s))) (some (.frz (PP m))) g) := rfl
      refine t2_ok (f := fLt) (oe (call2 w7 w8 (sign_spec (w.dr s hs).ok (w.dr m hm').ok (by decide)))) (oe (m := eC (.int 0)) (s := .frz (.int 0)) rfl) rfl rfl ?_
      show some (decide (sgn (s.1 * m.2 - m.1 * s.2) < 0)) = some false
      have nl := hall s (.inr hs)
      have nl' : ¬ (s.1 * m.2 < m.1 * s.2) := fun z => nl (decide_eq_true z)
      rw [decide_eq_false (fun z => nl' (by have := (sgn_lt _).mp z; omega))])
    have fn : ∀ l : List D, l.filterMap (fun _ => (none : Option D)) = [] := fun l => by induction l <;> simp_all
    rw [fn] at lc
    have i3 : iSeq (eV 3) (zP p q (R ps) a b wh pc (some (.frz (PP m))) g) = .ok (row ps) (zP p q (R ps) a b wh pc (some (.frz (PP m))) g) := rfl
    have lc2 := lc_ok (t := .nm 7) (vs := [7]) i3 lc
    obtain ⟨pc', hpc⟩ : ∃ pc', unw [7] (zP p q (R ps) a b wh pc (some (.frz (PP m))) g) (zP p q (R ps) a b wh none (some (.frz (PP m))) g) = zP p q (R ps) a b wh pc' (some (.frz (PP m))) g := by
      cases pc with
      | none => exact ⟨none, rfl⟩
      | some s => cases s with
        | frz d => exact ⟨some (.frz d), rfl⟩
        | own d => exact ⟨none, rfl⟩
    rw [hpc] at lc2
    refine ⟨pc', ?_⟩
    refine (or_f (z' := zP p q (R ps) a b wh pc (some (.frz (PP m))) g) (t2_ok (f := fNe) (oe e1) (oe e2) rfl rfl (ne_bl _))).trans ?_
    refine (and_t (z' := zP p q (R ps) a b wh pc (some (.frz (PP m))) g) (t2_ok (f := fNotN) (ov (i := 8) (z := zP p q (R ps) a b wh pc (some (.frz (PP m))) g) (d := PP m) rfl) (oe (m := eC .non) (z1 := zP p q (R ps) a b wh pc (some (.frz (PP m))) g) (s := .frz .non) rfl) rfl rfl rfl)).trans ?_
    refine (or_f (z' := zP p q (R ps) a b wh pc (some (.frz (PP m))) g) (t2_ok (f := fNotIn) (ov (i := 8) (z := zP p q (R ps) a b wh pc (some (.frz (PP m))) g) (d := PP m) rfl) (ov (i := 3) (d := .lst (row ps)) rfl) rfl rfl (in_row hm'))).trans ?_
    have l0 : fLen (.lst []) = some (.frz (.int 0)) := rfl
    have g0 : fGt (.int 0) (.int 0) = some false := rfl
    exact t2_ok (f := fGt) (oe (b1_ok (f := fLen) (oe lc2) rfl l0)) (oe (m := eC (.int 0)) (z1 := zP p q (R ps) a b wh pc' (some (.frz (PP m))) g) (s := .frz (.int 0)) rfl) rfl rfl g0
end
end Zc

/-! K10k: k10: _law_parts and the law. -/
namespace Zc
open PySem Zn
section
variable {p q : Int × Int} {r a b wh pc ls : Option S} {g : G}
theorem chk12 (hp : Dr p) : (tOr (tB2 fNe (.e (eCall q_whole_below [(eV 1)])) (.e (eCall q__law_below [(eV 1)]))) (tOr (tB2 fNe (.e (eCall q_whole_above [(eV 1)])) (.e (eB1 fNeg (.e (eCall q__law_below [(eCall q__law_sub [(eTup [(eC (.int 0)), (eC (.int 1))]), (eV 1)])]))))) (tB2 fNe (.e (eCall q_is_whole_part [(eV 1)])) (.e (eB2 (vB fEq) (.e (eB2 fIx (.v 1) (.e (eC (.int 1))))) (.e (eC (.int 1)))))))) (zP p q r a b wh pc ls g) = .ok false (zP p q r a b wh pc ls g) := by
  have d0 := hp.ok.pos
  have n0 := hp.n0
  have n1 := hp.n1
  have o6 : OkP 6 p := hp.ok.mono (by decide)
  have q0 : -50 ≤ p.1 / p.2 := (Int.le_ediv_iff_mul_le d0).mpr (by omega)
  have q1 : p.1 / p.2 ≤ 50 := by
    have : p.1 / p.2 < 51 := Int.ediv_lt_of_lt_mul d0 (by omega)
    omega
  have m0 : -50 ≤ (-p.1) / p.2 := (Int.le_ediv_iff_mul_le d0).mpr (by omega)
  have m1 : (-p.1) / p.2 ≤ 50 := by
    have : (-p.1) / p.2 < 51 := Int.ediv_lt_of_lt_mul d0 (by omega)
    omega
  have on : Ok 6 (-p.1) p.2 := by have := o6.neg; rwa [Int.zero_sub] at this
  refine (or_f (z' := zP p q r a b wh pc ls g) (t2_ok (f := fNe) (oe (call1 v1 (whole_below_spec o6 (by decide) (by decide) g))) (oe (call1 v1 (below_spec o6 (by decide) (by decide) q0 q1 g))) rfl rfl (ne_int _))).trans ?_
  have s1 := sub_spec (g := g) (ok01.mono (show 1 ≤ 6 by decide)) o6 (by decide)
  rw [show (0 : Int) * p.2 - p.1 * 1 = -p.1 by omega, show (1 : Int) * p.2 = p.2 by omega, nrm_same on] at s1
  have z1 := tup2_ok (m := eC (.int 0)) (n := eC (.int 1)) (z := zP p q r a b wh pc ls g) (z1 := zP p q r a b wh pc ls g) (z2 := zP p q r a b wh pc ls g) (s := .frz (.int 0)) (t := .frz (.int 1)) rfl rfl
  have c1 := call2 (f := q__law_sub) z1 v1 s1
  have c2 := call1 (f := q__law_below) c1 (below_spec (p := (-p.1, p.2)) on (by decide) (by decide) m0 m1 g)
  have c3 := b1_ok (f := fNeg) (oe c2) rfl (s := .frz (.int (-(-p.1 / p.2)))) rfl
  have c4 := call1 (f := q_whole_above) (v1 (p := p) (q := q) (r := r) (a := a) (b := b) (wh := wh) (pc := pc) (ls := ls) (g := g)) (whole_above_spec o6 (by decide) (by decide) g)
  have e : 0 - (0 - p.1) / p.2 = -(-p.1 / p.2) := by rw [Int.zero_sub, Int.zero_sub]
  rw [e] at c4
  refine (or_f (z' := zP p q r a b wh pc ls g) (t2_ok (f := fNe) (oe c4) (oe c3) rfl rfl (ne_int _))).trans ?_
  have i1 := ixE (i := 1) (z := zP p q r a b wh pc ls g) 1 (x := p) rfl (ix1 p.1 p.2)
  have e1 := b2_ok (f := vB fEq) (oe i1) (oe (m := eC (.int 1)) (z1 := zP p q r a b wh pc ls g) (s := .frz (.int 1)) rfl) rfl rfl (s := .frz (.bl (decide (p.2 = 1)))) (by show (fEq (.int p.2) (.int 1)).map (fun k => S.frz (.bl k)) = _; unfold fEq; rw [eqD_int]; rfl)
  exact t2_ok (f := fNe) (oe (call1 v1 (is_whole_part_spec p g))) (oe e1) rfl rfl (ne_bl _)
def odds (p : Int × Int) : List D := [PP p, P 2 4, P 1 0, P 1 (-2), .tup [.int 1, .bl true], .lst [.int 1, .int 2], .tup [.int 1], .non, .int 3]
def oddR : List D := [.bl true, .bl false, .bl false, .bl false, .bl false, .bl false, .bl false, .bl false, .bl false]
theorem lc_cons {t : Tg} {e : E} {vs : List Nat} {x : D} {l acc : List D} {z z1 z3 : Zs} {s : S} (ha : asg t (.frz x) z = .ok () z1) (he : e z1 = .ok s z3) (hl : acc.length < sizeLine) : lcL t tYes e vs (x :: l) acc z = lcL t tYes e vs l (acc ++ [s.d]) (wipe vs z3) := by
  conv => lhs; unfold lcL
  rw [ha]
  simp only [tYes, he]
  rw [if_pos hl]
theorem odd_lc (hp : Dr p) : lcL (.nm 10) tYes (eCall q_is_part [(eV 10)]) [10] (odds p) [] (zP p q r a b wh pc ls g) = some (oddR, zP p q r a b wh pc ls g) := by
  obtain ⟨o1, o2, o3, o4, o5⟩ := is_part_odd g
  have i2 : q_is_part [P 2 4] g = .ok (.frz (.bl false)) g := by rw [is_part_tup]; rfl
  have i3 : q_is_part [P 1 0] g = .ok (.frz (.bl false)) g := by rw [is_part_tup]; rfl
  have i4 : q_is_part [P 1 (-2)] g = .ok (.frz (.bl false)) g := by rw [is_part_tup]; rfl
  have st : ∀ {x : D} {c : Bool}, q_is_part [x] g = .ok (.frz (.bl c)) g → eCall q_is_part [(eV 10)] ((zP p q r a b wh pc ls g).put 10 (some (.frz x))) = .ok (.frz (.bl c)) ((zP p q r a b wh pc ls g).put 10 (some (.frz x))) := fun {x c} h =>
    call1 (f := q_is_part) (m := eV 10) (s := .frz x) (z1 := (zP p q r a b wh pc ls g).put 10 (some (.frz x))) rfl h
  have wp : ∀ x : D, wipe [10] ((zP p q r a b wh pc ls g).put 10 (some (.frz x))) = zP p q r a b wh pc ls g := fun x => rfl
  have sz : ∀ n : Nat, n ≤ 9 → n < sizeLine := fun n h => by rw [sizeLine_eq]; omega
  unfold odds
  rw [lc_cons rfl (st (is_part_ok hp.ok g)) (sz _ (by decide)), wp]
  rw [lc_cons rfl (st i2) (sz _ (by decide)), wp]
  rw [lc_cons rfl (st i3) (sz _ (by decide)), wp]
  rw [lc_cons rfl (st i4) (sz _ (by decide)), wp]
  rw [lc_cons rfl (st o1) (sz _ (by decide)), wp]
  rw [lc_cons rfl (st o2) (sz _ (by decide)), wp]
  rw [lc_cons rfl (st o3) (sz _ (by decide)), wp]
  rw [lc_cons rfl (st o4) (sz _ (by decide)), wp]
  rw [lc_cons rfl (st o5) (sz _ (by decide)), wp]
  rfl
theorem chk13 (hp : Dr p) : (tB2 fNe (.e (eLc (.nm 10) (iSeq (eTup [(eV 1), (eTup [(eC (.int 2)), (eC (.int 4))]), (eTup [(eC (.int 1)), (eC (.int 0))]), (eTup [(eC (.int 1)), (eB1 fNeg (.e (eC (.int 2))))]), (eTup [(eC (.int 1)), (eC (.bl true))]), (eLst [(eC (.int 1)), (eC (.int 2))]), (eTup [(eC (.int 1))]), (eC .non), (eC (.int 3))])) tYes (eCall q_is_part [(eV 10)]) [10])) (.e (eB2 fPlus (.e (eLst [(eC (.bl true))])) (.e (eB2 fTimes (.e (eLst [(eC (.bl false))])) (.e (eC (.int 8)))))))) (zP p q r a b wh pc ls g) = .ok false (zP p q r a b wh pc ls g) := by
  have hi : iSeq (eTup [(eV 1), (eTup [(eC (.int 2)), (eC (.int 4))]), (eTup [(eC (.int 1)), (eC (.int 0))]), (eTup [(eC (.int 1)), (eB1 fNeg (.e (eC (.int 2))))]), (eTup [(eC (.int 1)), (eC (.bl true))]), (eLst [(eC (.int 1)), (eC (.int 2))]), (eTup [(eC (.int 1))]), (eC .non), (eC (.int 3))]) (zP p q r a b wh pc ls g) = .ok (odds p) (zP p q r a b wh pc ls g) := by
    simp [iSeq, eTup, eLst, args, eV, eC, eB1, evO, Zs.res, O.bind, S.d, fNeg, fin, sizeLine_eq, odds, P]
  have lc := lc_ok (vs := [10]) hi (odd_lc hp)
  have u : unw [10] (zP p q r a b wh pc ls g) (zP p q r a b wh pc ls g) = zP p q r a b wh pc ls g := rfl
  rw [u] at lc
  have rr : eB2 fPlus (.e (eLst [(eC (.bl true))])) (.e (eB2 fTimes (.e (eLst [(eC (.bl false))])) (.e (eC (.int 8))))) (zP p q r a b wh pc ls g) = .ok (.own (.lst oddR)) (zP p q r a b wh pc ls g) := by
    simp [eB2, evO, eLst, args, eC, Zs.res, O.bind, S.d, fPlus, fTimes, fin, sizeLine_eq, oddR, List.replicate]
  refine t2_ok (f := fNe) (oe lc) (oe rr) rfl rfl (fNe_same (n := 1) ?_)
  show Sh 1 (.lst oddR)
  unfold Sh oddR
  intro d hd
  simp at hd
  rcases hd with rfl | rfl <;> simp [Sh]
end
theorem law_parts_spec {g : G} (hg : StOk g) : ∃ g', q__law_parts [.st] g = .ok (.frz (.bl true)) g' ∧ StOk g' := by
  obtain ⟨p, g1, e1, h1, hp⟩ := part_draw hg
  obtain ⟨q, g2, e2, h2, hq⟩ := part_draw h1
  obtain ⟨n, g3, e3, h3, n0, n1⟩ := take_spec (m := 5) h2 (by decide) (by decide)
  obtain ⟨ps, g4, e4, hl, hr, h4⟩ := part_lc (e := (eCall q__law_part [(eV 0)])) (vs := [9]) (i := 9) (fun g => zP p q none none none none none none g) (fun g d => rfl) (fun g d hg => by
    obtain ⟨p', g', h1, h2, h3⟩ := part_draw hg
    exact ⟨p', g', call1 (f := q__law_part) (m := eV 0) (s := .frz .st) (z1 := (zP p q none none none none none none g).put 9 (some (.frz d))) rfl h1, h2, h3⟩) (fun g d => rfl) (rng 0 n) (by rw [sizeLine_eq]; simp [rng]; omega) h3
  have w : Rw ps := ⟨hr, by rw [hl]; simp [rng]; omega⟩
  obtain ⟨x, g5, e5, h5, x0, x1⟩ := take_spec (m := 60) h4 (by decide) (by decide)
  obtain ⟨y, g6, e6, h6, y0, y1⟩ := take_spec (m := 60) h5 (by decide) (by decide)
  obtain ⟨g7, e7, h7⟩ := law_scaled_spec w h6
  have sum : ∃ pc', forL (.nm 7) (sAsg (.nm 6) (eCall q__law_add [(eV 6), (eV 7)])) (row ps) (zP p q (R ps) (fi (x - 30)) (fi (y - 30)) (some (.frz (PP (0, 1)))) none none g6) = .ok .nx (zP p q (R ps) (fi (x - 30)) (fi (y - 30)) (some (.frz (PP (tot ps)))) pc' none g6) := by
    obtain ⟨z', e, pc', hz⟩ := sum_loop (t := .nm 7) (b := (sAsg (.nm 6) (eCall q__law_add [(eV 6), (eV 7)]))) (B := 900) (fun acc z => ∃ pc', z = zP p q (R ps) (fi (x - 30)) (fi (y - 30)) (some (.frz (PP acc))) pc' none g6)
      (fun acc s K z o o' hK ⟨pc, hz⟩ => by
        subst hz
        refine ⟨zP p q (R ps) (fi (x - 30)) (fi (y - 30)) (some (.frz (PP (addp acc s)))) (some (.frz (PP s))) none g6, ?_, some (.frz (PP s)), rfl⟩
        have w6 : eV 6 (zP p q (R ps) (fi (x - 30)) (fi (y - 30)) (some (.frz (PP acc))) (some (.frz (PP s))) none g6) = .ok (.frz (PP acc)) (zP p q (R ps) (fi (x - 30)) (fi (y - 30)) (some (.frz (PP acc))) (some (.frz (PP s))) none g6) := rfl
        have w7 : eV 7 (zP p q (R ps) (fi (x - 30)) (fi (y - 30)) (some (.frz (PP acc))) (some (.frz (PP s))) none g6) = .ok (.frz (PP s)) (zP p q (R ps) (fi (x - 30)) (fi (y - 30)) (some (.frz (PP acc))) (some (.frz (PP s))) none g6) := rfl
        exact asg_nm (i := 6) (call2 w6 w7 (add_p o o' hK))) ps (0, 1) 5 (zP p q (R ps) (fi (x - 30)) (fi (y - 30)) (some (.frz (PP (0, 1)))) none none g6) (ok01.mono (by decide)) (fun s hs => (w.dr s hs).ok) (Nat.le_trans (grow_le2 (m := 4) w.len) (by simp [grow])) ⟨none, rfl⟩
    subst hz
    exact ⟨pc', e⟩
  obtain ⟨pc1, eS⟩ := sum
  have least := least_spec (ps := ps) (K := 5) (g := g6) (fun s hs => (w.dr s hs).ok) (by decide)
  obtain ⟨pc2, eL⟩ : ∃ pc2, (tOr (tB2 fNe (.e (eB2 (vB fIsN) (.v 8) (.e (eC .non)))) (.e (eB2 (vB fEq) (.v 3) (.e (eLst []))))) (tAnd (tB2 fNotN (.v 8) (.e (eC .non))) (tOr (tB2 fNotIn (.v 8) (.v 3)) (tB2 fGt (.e (eB1 fLen (.e (eLc (.nm 7) (iSeq (eV 3)) (tB2 fLt (.e (eCall q__law_sign [(eV 7), (eV 8)])) (.e (eC (.int 0)))) (eV 7) [7])))) (.e (eC (.int 0)))))))
      (zP p q (R ps) (fi (x - 30)) (fi (y - 30)) (some (.frz (PP (tot ps)))) pc1 (some (.frz (encO (ps.foldl leastS none)))) g6) = .ok false (zP p q (R ps) (fi (x - 30)) (fi (y - 30)) (some (.frz (PP (tot ps)))) pc2 (some (.frz (encO (ps.foldl leastS none)))) g6) := by
    rcases chk11 w (p := p) (q := q) (a := fi (x - 30)) (b := fi (y - 30)) (wh := some (.frz (PP (tot ps)))) (pc := pc1) (g := g6) with h | ⟨pc', h⟩
    · exact ⟨pc1, h⟩
    · exact ⟨pc', h⟩
  refine ⟨g7, ?_, h7⟩
  refine callB_rt (z := zP p q (R ps) (fi (x - 30)) (fi (y - 30)) (some (.frz (PP (tot ps)))) pc2 (some (.frz (encO (ps.foldl leastS none)))) g7) (b := m__law_parts) (n := 11) ?_
  refine (seq_nx (z' := zP p q none none none none none none g2) ?_).trans ?_
  · have c1 := call1 (f := q__law_part) (m := eV 0) (s := .frz .st) (z := ⟨[some (.frz .st), none, none, none, none, none, none, none, none, none, none], g⟩) (z1 := ⟨[some (.frz .st), none, none, none, none, none, none, none, none, none, none], g⟩) rfl e1
    have c2 := call1 (f := q__law_part) (m := eV 0) (s := .frz .st) (z := ⟨[some (.frz .st), none, none, none, none, none, none, none, none, none, none], g1⟩) (z1 := ⟨[some (.frz .st), none, none, none, none, none, none, none, none, none, none], g1⟩) rfl e2
    show sPar _ _ ⟨[some (.frz .st), none, none, none, none, none, none, none, none, none, none], g⟩ = _
    simp only [sPar, argsS, c1, O.bind]
    have c2' : eCall q__law_part [eV 0] ⟨[some (.frz .st), none, none, none, none, none, none, none, none, none, none], g1⟩ = _ := c2
    simp only [c2', O.bind]
    rfl
  refine (seq_nx (z' := zP p q (some (.own (.lst (row ps)))) none none none none none g4) ?_).trans ?_
  · have t1 := call2 (f := q__law_take) (m := eV 0) (n := eC (.int 5)) (s := .frz .st) (t := .frz (.int 5)) (z := zP p q none none none none none none g2) (z1 := zP p q none none none none none none g2) (z2 := zP p q none none none none none none g2) rfl rfl e3
    have sm : smallI n = true := by
      obtain ⟨k, rfl⟩ : ∃ k : Nat, n = k := ⟨n.toNat, by omega⟩
      exact smI (by omega)
    have i1 := ir1_ok (oe t1) rfl sm
    have lc := lc_ok (t := .nm 9) (c := tYes) (e := (eCall q__law_part [(eV 0)])) (vs := [9]) i1 e4
    exact asg_nm (i := 3) lc
  refine (seq_nx (z' := zP p q (some (.own (.lst (row ps)))) (fi (x - 30)) (fi (y - 30)) none none none g6) ?_).trans ?_
  · have t1 := call2 (f := q__law_take) (m := eV 0) (n := eC (.int 60)) (s := .frz .st) (t := .frz (.int 60)) (z := zP p q (some (.own (.lst (row ps)))) none none none none none g4) (z1 := zP p q (some (.own (.lst (row ps)))) none none none none none g4) (z2 := zP p q (some (.own (.lst (row ps)))) none none none none none g4) rfl rfl e5
    have t2 := call2 (f := q__law_take) (m := eV 0) (n := eC (.int 60)) (s := .frz .st) (t := .frz (.int 60)) (z := zP p q (some (.own (.lst (row ps)))) none none none none none g5) (z1 := zP p q (some (.own (.lst (row ps)))) none none none none none g5) (z2 := zP p q (some (.own (.lst (row ps)))) none none none none none g5) rfl rfl e6
    have s1 := b2_ok (f := fSub) (oe t1) (oe (m := eC (.int 30)) (z1 := zP p q (some (.own (.lst (row ps)))) none none none none none g5) (s := .frz (.int 30)) rfl) rfl rfl (s := .frz (.int (x - 30))) rfl
    have s2 := b2_ok (f := fSub) (oe t2) (oe (m := eC (.int 30)) (z1 := zP p q (some (.own (.lst (row ps)))) none none none none none g6) (s := .frz (.int 30)) rfl) rfl rfl (s := .frz (.int (y - 30))) rfl
    simp only [sPar, argsS, s1, s2, O.bind]
    rfl
  refine (seq_nx (if_ok (chk4 hp hq))).trans ?_
  refine (seq_nx (if_ok (chk5 hp hq))).trans ?_
  refine (seq_nx (if_ok (chk6 hp hq (by omega) (by omega)))).trans ?_
  refine (seq_nx (z' := zP p q (some (.own (.lst (row ps)))) (fi (x - 30)) (fi (y - 30)) (some (.frz (PP (0, 1)))) none none g6) (asg_nm (i := 6) (tup2_ok (m := eC (.int 0)) (n := eC (.int 1)) (s := .frz (.int 0)) (t := .frz (.int 1)) (z := zP p q (some (.own (.lst (row ps)))) (fi (x - 30)) (fi (y - 30)) none none none g6) (z1 := zP p q (some (.own (.lst (row ps)))) (fi (x - 30)) (fi (y - 30)) none none none g6) (z2 := zP p q (some (.own (.lst (row ps)))) (fi (x - 30)) (fi (y - 30)) none none none g6) rfl rfl))).trans ?_
  refine (seq_for' (l := row ps) (z1 := zP p q (R ps) (fi (x - 30)) (fi (y - 30)) (some (.frz (PP (0, 1)))) none none g6) rfl eS).trans ?_
  refine (seq_nx (if_ok (chk9 w))).trans ?_
  refine (seq_nx (z' := zP p q (R ps) (fi (x - 30)) (fi (y - 30)) (some (.frz (PP (tot ps)))) pc1 (some (.frz (encO (ps.foldl leastS none)))) g6) (asg_nm (i := 8) (call1 v3 least))).trans ?_
  refine (seq_nx (if_ok eL)).trans ?_
  refine (seq_nx (if_ok (chk12 hp))).trans ?_
  refine (seq_nx (if_ok (chk13 hp))).trans ?_
  exact ret_ok (call2 (f := q__law_scaled) (m := eV 0) (s := .frz .st) (z := zP p q (R ps) (fi (x - 30)) (fi (y - 30)) (some (.frz (PP (tot ps)))) pc2 (some (.frz (encO (ps.foldl leastS none)))) g6) (z1 := zP p q (R ps) (fi (x - 30)) (fi (y - 30)) (some (.frz (PP (tot ps)))) pc2 (some (.frz (encO (ps.foldl leastS none)))) g6) rfl v3 e7)
def errs : List D := [.ex "Unfit" ["line", "place", "word"] [.int 3, .int 7, .str "w"], .ex "Great" ["limit"] [.str "g"], .ex "Misstep" ["word"] [.str "m"]]
abbrev zL (ns : List Int) (t e : Option S) (g : G) : Zs := ⟨[some (.frz (.scr ns)), some (.frz .st), t, e, none], g⟩
theorem err_lc (ns : List Int) (t : Option S) (g : G) : lcL (.nm 4) (tOr (tNot (tVal (eB1 (fIsX [("Unfit", true), ("Great", true), ("Misstep", true)]) (.v 4)))) (tNot (tVal (eB1 (fIsX [("Unfit", true), ("Great", true), ("Misstep", true)]) (.v 4))))) (eV 4) [4] errs [] (zL ns t (some (.frz (.lst errs))) g) = some ([], zL ns t (some (.frz (.lst errs))) g) := by
  have e := lcL_map (t := .nm 4) (c := (tOr (tNot (tVal (eB1 (fIsX [("Unfit", true), ("Great", true), ("Misstep", true)]) (.v 4)))) (tNot (tVal (eB1 (fIsX [("Unfit", true), ("Great", true), ("Misstep", true)]) (.v 4)))))) (e := eV 4) (vs := [4]) (z := zL ns t (some (.frz (.lst errs))) g) (fun _ => none) errs [] (by rw [sizeLine_eq]; decide) (fun x hx => by
    have hx' : fIsX [("Unfit", true), ("Great", true), ("Misstep", true)] x = some (.frz (.bl true)) := by
      unfold errs at hx
      simp only [List.mem_cons, List.not_mem_nil, or_false] at hx
      rcases hx with rfl | rfl | rfl <;> rfl
    refine ⟨⟨[some (.frz (.scr ns)), some (.frz .st), t, some (.frz (.lst errs)), some (.frz x)], g⟩, rfl, .inl ⟨rfl, ⟨[some (.frz (.scr ns)), some (.frz .st), t, some (.frz (.lst errs)), some (.frz x)], g⟩, ?_, rfl⟩⟩
    have v := val_ok (b1_ok (f := fIsX [("Unfit", true), ("Great", true), ("Misstep", true)]) (ov (i := 4) (z := ⟨[some (.frz (.scr ns)), some (.frz .st), t, some (.frz (.lst errs)), some (.frz x)], g⟩) (d := x) rfl) rfl hx')
    have nv : tNot (tVal (eB1 (fIsX [("Unfit", true), ("Great", true), ("Misstep", true)]) (.v 4))) ⟨[some (.frz (.scr ns)), some (.frz .st), t, some (.frz (.lst errs)), some (.frz x)], g⟩ = .ok false ⟨[some (.frz (.scr ns)), some (.frz .st), t, some (.frz (.lst errs)), some (.frz x)], g⟩ := by
      unfold tNot
      rw [v]; rfl
    exact (or_f nv).trans nv)
  rw [e]
  rfl
theorem ixX {ns : List Int} {t : Option S} {g : G} (k : Nat) (x : D) (h : fIx (.lst errs) (.int (k : Nat)) = some (.frz x)) : eB2 fIx (.v 3) (.e (eC (.int (k : Nat)))) (zL ns t (some (.frz (.lst errs))) g) = .ok (.frz x) (zL ns t (some (.frz (.lst errs))) g) :=
  b2_ok (ov (i := 3) (d := .lst errs) rfl) (oe (m := eC (.int (k : Nat))) (z1 := zL ns t (some (.frz (.lst errs))) g) (s := .frz (.int (k : Nat))) rfl) rfl rfl h
theorem law_tail (ns : List Int) (t : Option S) (g : G) : (sSeq (sAsg (.nm 3) (eLst [(eMk "Unfit" ["line", "place", "word"] [(eC (.int 3)), (eC (.int 7)), (eC (.str ("w" : PySem.Str)))]), (eMk "Great" ["limit"] [(eC (.str ("g" : PySem.Str)))]), (eMk "Misstep" ["word"] [(eC (.str ("m" : PySem.Str)))])])) (sSeq (sIf (tOr (tB2 fGt (.e (eB1 fLen (.e (eLc (.nm 4) (iSeq (eV 3)) (tOr (tNot (tVal (eB1 (fIsX [("Unfit", true), ("Great", true), ("Misstep", true)]) (.v 4)))) (tNot (tVal (eB1 (fIsX [("Unfit", true), ("Great", true), ("Misstep", true)]) (.v 4))))) (eV 4) [4])))) (.e (eC (.int 0)))) (tOr (tVal (eB1 (fIsX [("Unfit", false), ("Great", false), ("Misstep", true)]) (.e (eB2 fIx (.v 3) (.e (eC (.int 1))))))) (tVal (eB1 (fIsX [("Unfit", false), ("Great", true), ("Misstep", false)]) (.e (eB2 fIx (.v 3) (.e (eC (.int 2))))))))) (sRet (eC (.bl false))) sNx) (sRet (eB2 (vB fEq) (.e (eTup [(eB1 (fAttr ["Unfit"] "line") (.e (eB2 fIx (.v 3) (.e (eC (.int 0)))))), (eB1 (fAttr ["Unfit"] "place") (.e (eB2 fIx (.v 3) (.e (eC (.int 0)))))), (eB1 (fAttr ["Unfit", "Misstep"] "word") (.e (eB2 fIx (.v 3) (.e (eC (.int 0)))))), (eB1 (fAttr ["Great"] "limit") (.e (eB2 fIx (.v 3) (.e (eC (.int 1)))))), (eB1 (fAttr ["Unfit", "Misstep"] "word") (.e (eB2 fIx (.v 3) (.e (eC (.int 2))))))])) (.e (eTup [(eC (.int 3)), (eC (.int 7)), (eC (.str ("w" : PySem.Str))), (eC (.str ("g" : PySem.Str))), (eC (.str ("m" : PySem.Str)))]))))))
    (zL ns t none g) = .ok (.rt (.frz (.bl true))) (zL ns t (some (.frz (.lst errs))) g) := by
  have sz5 : ∀ n : Nat, n ≤ 9 → n ≤ sizeLine := fun n h => by rw [sizeLine_eq]; omega
  refine (seq_nx (z' := zL ns t (some (.own (.lst errs))) g) ?_).trans ?_
  · refine asg_nm (i := 3) (z1 := zL ns t none g) (s := .own (.lst errs)) ?_
    simp only [eLst, args, eMk, eC, O.bind, S.d, List.length_cons, List.length_nil]
    rfl
  refine (seq_nx (z' := zL ns t (some (.frz (.lst errs))) g) (if_ok ?_)).trans ?_
  · have lc := lc_ok (t := .nm 4) (i := iSeq (eV 3)) (vs := [4]) (z := zL ns t (some (.own (.lst errs))) g) (z1 := zL ns t (some (.frz (.lst errs))) g) (l := errs) rfl (err_lc ns t g)
    have u : unw [4] (zL ns t (some (.frz (.lst errs))) g) (zL ns t (some (.frz (.lst errs))) g) = zL ns t (some (.frz (.lst errs))) g := rfl
    rw [u] at lc
    have l0 : fLen (.lst []) = some (.frz (.int 0)) := rfl
    have g0 : fGt (.int 0) (.int 0) = some false := rfl
    refine (or_f (t2_ok (f := fGt) (oe (b1_ok (f := fLen) (oe lc) rfl l0)) (oe (m := eC (.int 0)) (z1 := zL ns t (some (.frz (.lst errs))) g) (s := .frz (.int 0)) rfl) rfl rfl g0)).trans ?_
    have i1 := ixX (ns := ns) (t := t) (g := g) 1 (.ex "Great" ["limit"] [.str "g"]) rfl
    have i2 := ixX (ns := ns) (t := t) (g := g) 2 (.ex "Misstep" ["word"] [.str "m"]) rfl
    refine (or_f (val_ok (b1_ok (f := fIsX [("Unfit", false), ("Great", false), ("Misstep", true)]) (oe i1) rfl (s := .frz (.bl false)) rfl))).trans ?_
    exact val_ok (b1_ok (f := fIsX [("Unfit", false), ("Great", true), ("Misstep", false)]) (oe i2) rfl (s := .frz (.bl false)) rfl)
  · have i0 := ixX (ns := ns) (t := t) (g := g) 0 (.ex "Unfit" ["line", "place", "word"] [.int 3, .int 7, .str "w"]) rfl
    have i1 := ixX (ns := ns) (t := t) (g := g) 1 (.ex "Great" ["limit"] [.str "g"]) rfl
    have i2 := ixX (ns := ns) (t := t) (g := g) 2 (.ex "Misstep" ["word"] [.str "m"]) rfl
    have a0 := b1_ok (f := fAttr ["Unfit"] "line") (oe i0) rfl (s := .frz (.int 3)) rfl
    have a1 := b1_ok (f := fAttr ["Unfit"] "place") (oe i0) rfl (s := .frz (.int 7)) rfl
    have a2 := b1_ok (f := fAttr ["Unfit", "Misstep"] "word") (oe i0) rfl (s := .frz (.str "w")) rfl
    have a3 := b1_ok (f := fAttr ["Great"] "limit") (oe i1) rfl (s := .frz (.str "g")) rfl
    have a4 := b1_ok (f := fAttr ["Unfit", "Misstep"] "word") (oe i2) rfl (s := .frz (.str "m")) rfl
    refine ret_ok (b2_ok (f := vB fEq) (x := .inr (.tup [.int 3, .int 7, .str "w", .str "g", .str "m"])) (y := .inr (.tup [.int 3, .int 7, .str "w", .str "g", .str "m"])) (z1 := zL ns t (some (.frz (.lst errs))) g) (oe (s := .frz (.tup [.int 3, .int 7, .str "w", .str "g", .str "m"])) ?_) (oe (s := .frz (.tup [.int 3, .int 7, .str "w", .str "g", .str "m"])) ?_) rfl rfl ?_)
    · simp only [eTup, args, O.bind]
      have b0 : eB1 (fAttr ["Unfit"] "line") (.e (eB2 fIx (.v 3) (.e (eC (.int 0))))) (zL ns t (some (.frz (.lst errs))) g) = _ := a0
      have b1 : eB1 (fAttr ["Unfit"] "place") (.e (eB2 fIx (.v 3) (.e (eC (.int 0))))) (zL ns t (some (.frz (.lst errs))) g) = _ := a1
      have b2 : eB1 (fAttr ["Unfit", "Misstep"] "word") (.e (eB2 fIx (.v 3) (.e (eC (.int 0))))) (zL ns t (some (.frz (.lst errs))) g) = _ := a2
      have b3 : eB1 (fAttr ["Great"] "limit") (.e (eB2 fIx (.v 3) (.e (eC (.int 1))))) (zL ns t (some (.frz (.lst errs))) g) = _ := a3
      have b4 : eB1 (fAttr ["Unfit", "Misstep"] "word") (.e (eB2 fIx (.v 3) (.e (eC (.int 2))))) (zL ns t (some (.frz (.lst errs))) g) = _ := a4
      simp only [b0, b1, b2, b3, b4, S.d, List.length_cons, List.length_nil]
      rw [if_pos (sz5 _ (by decide))]
    · simp only [eTup, args, O.bind, eC, S.d, List.length_cons, List.length_nil]
      rw [if_pos (sz5 _ (by decide))]
    · unfold vB
      rw [fEq_same (n := 1) (by
        unfold Sh
        intro d hd
        simp at hd
        rcases hd with rfl | rfl | rfl | rfl | rfl <;> first | (simp [Sh]; done) | (unfold Sh; decide +kernel))]
      rfl
theorem law_spec (ns : List Int) (h : ns.length ≤ 63) : ∃ g, q_law [.scr ns] ⟨none⟩ = .ok (.frz (.bl true)) g := by
  have hc : cells0 ns ≠ [] := by
    unfold cells0
    cases ns with
    | nil => simp
    | cons a l => simp
  have e1 : q__law_state [.scr ns] ⟨none⟩ = .ok (.frz .st) ⟨some (0, cells0 ns)⟩ := by
    show qState [.scr ns] ⟨none⟩ = _
    unfold qState
    simp [h]
  obtain ⟨z', eF, t, g', hz, hg'⟩ := forL_inv (t := .nm 2) (b := (sIf (tNot (tVal (eCall q__law_parts [(eV 1)]))) (sRet (eC (.bl false))) sNx)) (fun z => ∃ t g', z = ⟨[some (.frz (.scr ns)), some (.frz .st), t, none, none], g'⟩ ∧ StOk g') (rng 0 6) ⟨[some (.frz (.scr ns)), some (.frz .st), none, none, none], ⟨some (0, cells0 ns)⟩⟩ ⟨none, _, rfl, _, _, rfl, hc⟩ (fun d hd z ⟨t, g, hz, hg⟩ => by
    subst hz
    obtain ⟨g', e, hg'⟩ := law_parts_spec hg
    refine ⟨⟨[some (.frz (.scr ns)), some (.frz .st), some (.frz d), none, none], g'⟩, ?_, some (.frz d), g', rfl, hg'⟩
    have c := val_ok (call1 (f := q__law_parts) (m := eV 1) (s := .frz .st) (z := ⟨[some (.frz (.scr ns)), some (.frz .st), some (.frz d), none, none], g⟩) (z1 := ⟨[some (.frz (.scr ns)), some (.frz .st), some (.frz d), none, none], g⟩) rfl e)
    refine if_ok (z := ⟨[some (.frz (.scr ns)), some (.frz .st), some (.frz d), none, none], g⟩) ?_
    unfold tNot
    rw [c]
    rfl)
  subst hz
  refine ⟨g', ?_⟩
  have body : ∃ z, m_law ⟨[some (.frz (.scr ns)), none, none, none, none], ⟨none⟩⟩ = .ok (.rt (.frz (.bl true))) z ∧ z.g = g' := by
    refine ⟨⟨[some (.frz (.scr ns)), some (.frz .st), t, some (.frz (.lst [.ex "Unfit" ["line", "place", "word"] [.int 3, .int 7, .str "w"], .ex "Great" ["limit"] [.str "g"], .ex "Misstep" ["word"] [.str "m"]])), none], g'⟩, ?_, rfl⟩
    refine (seq_nx (z' := ⟨[some (.frz (.scr ns)), some (.frz .st), none, none, none], ⟨some (0, cells0 ns)⟩⟩) (asg_nm (i := 1) (call1 (f := q__law_state) (m := eV 0) (s := .frz (.scr ns)) (z := ⟨[some (.frz (.scr ns)), none, none, none, none], ⟨none⟩⟩) (z1 := ⟨[some (.frz (.scr ns)), none, none, none, none], ⟨none⟩⟩) rfl e1))).trans ?_
    have i6 : iR1 (.e (eC (.int 6))) ⟨[some (.frz (.scr ns)), some (.frz .st), none, none, none], ⟨some (0, cells0 ns)⟩⟩ = .ok (rng 0 6) ⟨[some (.frz (.scr ns)), some (.frz .st), none, none, none], ⟨some (0, cells0 ns)⟩⟩ := ir1_ok (oe (m := eC (.int 6)) (s := .frz (.int 6)) rfl) rfl (smI (n := 6) (by decide))
    refine (seq_for' i6 eF).trans ?_
    exact law_tail ns t g'
  obtain ⟨z, hb, hz⟩ := body
  rw [← hz]
  exact callB_rt (b := m_law) (n := 5) (ds := [.scr ns]) hb
end Zc

set_option maxHeartbeats 0
noncomputable section
namespace Zk
open Zn
theorem law_true (ns : List Int) (h : ns.length ≤ 63) : ∃ g, q_law [.scr ns] ⟨none⟩ = .ok (.frz (.bl true)) g := Zc.law_spec ns h
end Zk
/-! ### the head: facts by names, the top's run -/
namespace Zk
open PySem L2 Zn PyProof.Rows
abbrev RR : PySem.W.OpenRow := PySem.W.OpenLaw.row PySem.Challenge.rw_leastwright_k10_whole_parts_and_errors
def hk : PySem.W.Hook := hookZ 5 (faZ fns clss) fns inis xsl
def ob (s : PySem.W.SharedT) : AlZ := obsZG 5 (faZ fns clss) fns inis xsl (HandSHeadRun.getT s)
theorem ob_eq (s : PySem.W.SharedT) : ob s = hk.obs s.abs := obsZG_eq (HandSHeadRun.getT_eq s)
def loose : List PySem.Str := (["divisor", "part", "is_part", "plus", "minus", "times", "over", "is_less", "total", "least_of", "whole_below", "whole_above", "is_whole_part", "are_parts", "scaled", "dot", "Wrong", "Unfit", "Great", "Misstep", "_law_state", "_law_take", "_law_pick", "_law_fr", "_law_is_fr", "_law_are_frs", "_law_add", "_law_mul", "_law_sub", "_law_sign"] : List PySem.Str) ++ (["_law_part", "_law_divisor", "_law_below", "_law_parts", "_law_scaled"] : List PySem.Str)
theorem run (w : World) : HandSHeadRun.RunEq RR (PySem.W.view RR.prog [38]) hk ob 2000 loose w := by
  intro os
  kernel_rfl
theorem facts {w : World} {K : PySem.W.Frag} {h : Heap} {mg : PySem.Str → Option Value} {f : Addr} (X : K.In h) (G : h.Ns mainGlobals mg) (hfa : mg ("law" : PySem.Str) = some (.ref f)) (c : SaysZ (faZ fns clss) fns inis xsl K) :
    ∃ fd : FuncData, (∀ (s : Shared) (v : Value), BindsTo s fd ⟨[v], []⟩ [("script", v)]) ∧ ∀ base : Heap, K.In base → base.Ns mainGlobals mg → FnOk (PySem.Challenge.rw_leastwright_k10_whole_parts_and_errors).prog w K mg base (L2.CX (PySem.Challenge.rw_leastwright_k10_whole_parts_and_errors).prog w) 8 f fd ["script"] (spZ K 1 q_law) := by
  have T : Tx (PySem.Challenge.rw_leastwright_k10_whole_parts_and_errors).prog K mg := TxG.of X G c (by decide +kernel) rfl
  obtain ⟨fd, F⟩ := T.fn 31 d_law rfl
  have e := hfa.symm.trans (T.gl 31 d_law rfl)
  cases e
  have b := FunD.bindsA (ps := ["script"]) F fun _ _ _ _ _ _ us hl => match us, hl with | [_], _ => rfl
  exact ⟨fd, fun s v => b s [v] rfl, fun base _ _ => f_law T F⟩
end Zk
open PySem PySem.W PySem.Calls PyProof.Rows
theorem PySem.Challenge.cw_leastwright_k10_whole_parts_and_errors_holds : PySem.Challenge.rw_leastwright_k10_whole_parts_and_errors.Holds := by
  w_on; o_law
  refine HandSHeadRun.head_any (r := OpenLaw.row PySem.Challenge.rw_leastwright_k10_whole_parts_and_errors) (q := view (OpenLaw.row PySem.Challenge.rw_leastwright_k10_whole_parts_and_errors).prog [38]) (H := Zk.hk) (ob := Zk.ob) (M := 2000) (loose := Zk.loose) (d := HandSHeadRun.topDef (OpenLaw.row PySem.Challenge.rw_leastwright_k10_whole_parts_and_errors).prog 38) (kwd := []) Zk.ob_eq
    (by kernel_rfl) (fun s => by kernel_rfl) Zk.run (by kernel_rfl) (by kernel_rfl) (by kernel_rfl) (by rfl) (by first | assumption | decide +kernel) (by decide +kernel) ⟨rfl, rfl, rfl, rfl, rfl, by decide +kernel⟩ ?hw ?hc
  case hw => w_witness2
  case hc =>
    refine Zn.walk_ofZ (l := PySem.Challenge.rw_leastwright_k10_whole_parts_and_errors) (n := 63) (k := 8) (x := "script") (CX := fun w => L2.CX (PySem.Challenge.rw_leastwright_k10_whole_parts_and_errors).prog w) rfl (by decide) (by kernel_rfl) ⟨rfl, by decide, by decide⟩ ?F (fun w H s e s' z => Zn.cx_no _ _ _ _ _ _ z)
    intro w mg fa h Y G hmg0
    obtain ⟨K, KX, c⟩ := Y
    have hmg : mg ("law" : PySem.Str) = some (.ref fa) := by
      have e : (HandSHeadRun.topDef (OpenLaw.row PySem.Challenge.rw_leastwright_k10_whole_parts_and_errors).prog 38).name = ("law" : PySem.Str) := by kernel_rfl
      rw [← e]
      exact hmg0
    obtain ⟨fd, hb, hF⟩ := Zk.facts (w := w) KX G hmg c
    exact ⟨K, fd, Zn.spZ K 1 Zk.q_law, KX, hb, Zn.sp_law Zk.law_true, hF⟩

