import PyProof.Rows.All
import Wide.All
import OpenK.AllK
import Wide.FinOn
import HandS.ForMost
import HandS.ForExc
import HandS.CallSlots
import HandS.TupAny
import HandS.TupMul
import HandS.Wide
import HandS.Style
import HandS.IsInst
import HandS.TupLe
import HandS.Conv
import HandS.SetFor
import HandS.SortInts
import HandS.Deep
import HandS.Text
import HandS.ExcIs
import HandS.ExcField
import HandS.ExcOwn
import HandS.Defaults
import PyProof.ReprRoads
import HandS.Walk
import HandS.Zip
import HandS.Ends
import HandS.Head0
import HandS.Head1
import HandS.Head2
import HandS.HeadEnd
import HandS.HeadHook1
import HandS.HeadHook2
import PySem.Challenge.RW_roundhand_k58_called_otherwise
set_option Elab.async false
set_option linter.all false
set_option maxRecDepth 100000
set_option maxHeartbeats 0
/-! MPa: data trees, and how a value stands for one. -/
namespace MP
open PySem PySem.Spec PyProof.Rows L2

/-- a datum -/
inductive D where
  | non | bl (b : Bool) | int (i : Int) | str (s : Str)
  | tup (ds : List D) | lst (ds : List D)
  /-- the script (read only) -/
  | scr (ds : List D)
  | dct (ks vs : List D)
  | exc (c : Str) (ks : List Str) (vs : List D)
  deriving Inhabited

/-! ### what stands at an address -/
abbrev Ext (H H' : Hp) : Prop := ∀ a o, H a = some o → H' a = some o
theorem Ext.rd {H H' : Hp} (e : Ext H H') {a : Addr} {u : HO} (h : Rd H a u) : Rd H' a u := by
  rcases h with h | ⟨o, h⟩
  · exact .inl (e _ _ h)
  · exact .inr ⟨o, e _ _ h⟩
theorem Ext.sqT {K : PySem.W.Frag} {H H' : Hp} (e : Ext H H') {a : Addr} {xs : List V} (h : SqT K H a xs) : SqT K H' a xs := by
  rcases h with h | h
  · exact .inl (e.rd h)
  · exact .inr h
theorem Ext.sqL {K : PySem.W.Frag} {H H' : Hp} (e : Ext H H') {a : Addr} {xs : List V} (h : SqL K H a xs) : SqL K H' a xs := by
  rcases h with h | h
  · exact .inl (e.rd h)
  · exact .inr h

/-- the world of a program: its text, its written part, its names -/
structure Cw where
  P : Program
  w : World
  K : PySem.W.Frag
  mg : Str → Option Value
/-- an exception that is held: its class, its own dict -/
def ExcO (cls : Value) (dd : Option Addr) (a : Addr) : HO := .ext fun h => ∃ (oe : Obj) (vs : Array Value), h.get? a = some oe ∧ Zc cls dd oe ∧ oe.data = .fields vs
abbrev _root_.L2.Cx.cw (X : Cx) : Cw := ⟨X.prog, X.w, X.K, X.mg⟩
/-- a script, never changed -/
def SqS (K : PySem.W.Frag) (H : Hp) (Z : Addr → Prop) (a : Addr) (xs : List V) : Prop :=
  (H a = some (.lst xs) ∧ Z a) ∨ (∃ o, H a = some (.frz o (.lst xs))) ∨
    ∃ (o : Obj) (its : Array Value) (n : Nat), K.lookup a = some o ∧ o.cls = .type "list" ∧ o.dict = none ∧ o.data = .seq its n ∧ its.size ≤ sizeLine ∧ Vals xs its.toList
theorem SqS.sq {K : PySem.W.Frag} {H : Hp} {Z : Addr → Prop} {a : Addr} {xs : List V} (h : SqS K H Z a xs) : SqL K H a xs := by
  rcases h with h | h | h
  · exact .inl (.inl h.1)
  · exact .inl (.inr h)
  · exact .inr h
theorem SqS.mono {K : PySem.W.Frag} {H H' : Hp} {Z Z' : Addr → Prop} (e : Ext H H') (z : ∀ a, Z a → Z' a) {a : Addr} {xs : List V} (h : SqS K H Z a xs) : SqS K H' Z' a xs := by
  rcases h with h | ⟨o, h⟩ | h
  · exact .inl ⟨e _ _ h.1, z _ h.2⟩
  · exact .inr (.inl ⟨o, e _ _ h⟩)
  · exact .inr (.inr h)
/-- a key's datum -/
def kD : Key → D
  | .inl i => .int i
  | .inr x => .str x
mutual
/-- v stands for the datum; the first k levels of what can be changed are owned (their addresses: os), all else is never changed any more (Z) -/
inductive Rep (c : Cw) (H : Hp) (Z : Addr → Prop) : Nat → D → V → List Addr → Prop
  | non {k} : Rep c H Z k .non .non []
  | bl {k b} : Rep c H Z k (.bl b) (.bl b) []
  | int {k i} : Rep c H Z k (.int i) (.int i) []
  | str {k s} : Rep c H Z k (.str s) (.str s) []
  | tup {k ds a vs os} : SqT c.K H a vs → Reps c H Z k ds vs os → Rep c H Z k (.tup ds) (.ref a) os
  | scr {k ds a vs} : SqS c.K H Z a vs → Reps c H Z 0 ds vs [] → Rep c H Z k (.scr ds) (.ref a) []
  | lstF {ds a vs} : H a = some (.lst vs) → Z a → Reps c H Z 0 ds vs [] → Rep c H Z 0 (.lst ds) (.ref a) []
  | lstO {k ds a vs os} : H a = some (.lst vs) → Reps c H Z k ds vs os → Rep c H Z (k + 1) (.lst ds) (.ref a) (a :: os)
  | dctF {ks vs a kvs us} : H a = some (.dK kvs) → Z a → ks = kvs.map (fun p => kD p.1) → us = kvs.map (·.2) → Reps c H Z 0 vs us [] → Rep c H Z 0 (.dct ks vs) (.ref a) []
  | dctZ {ks vs a o kvs us} : H a = some (.frz o (.dK kvs)) → ks = kvs.map (fun p => kD p.1) → us = kvs.map (·.2) → Reps c H Z 0 vs us [] → Rep c H Z 0 (.dct ks vs) (.ref a) []
  | dctO {k ks vs a kvs us os} : H a = some (.dK kvs) → ks = kvs.map (fun p => kD p.1) → us = kvs.map (·.2) → Reps c H Z k vs us os → Rep c H Z (k + 1) (.dct ks vs) (.ref a) (a :: os)
  | exc0 {k n a C} : c.mg n = some (.ref C) → H a = some (ExcO (.ref C) none a) → Rep c H Z k (.exc n [] []) (.ref a) []
  | exc1 {k n a C d ks ds vals} : ks ≠ [] → c.mg n = some (.ref C) → H a = some (ExcO (.ref C) (some d) a) → H d = some (.xd (ks.zip vals)) → vals.length = ks.length → Reps c H Z 0 ds vals [] →
      Rep c H Z k (.exc n ks ds) (.ref a) []
inductive Reps (c : Cw) (H : Hp) (Z : Addr → Prop) : Nat → List D → List V → List Addr → Prop
  | nil {k} : Reps c H Z k [] [] []
  | cons {k d ds v vs os os'} : Rep c H Z k d v os → Reps c H Z k ds vs os' → Reps c H Z k (d :: ds) (v :: vs) (os ++ os')
end

section
variable {c : Cw} {H H' : Hp} {Z Z' : Addr → Prop}
mutual
theorem Rep.mono (e : Ext H H') (z : ∀ a, Z a → Z' a) : ∀ {k d v os}, Rep c H Z k d v os → Rep c H' Z' k d v os
  | _, _, _, _, .non => .non
  | _, _, _, _, .bl => .bl
  | _, _, _, _, .int => .int
  | _, _, _, _, .str => .str
  | _, _, _, _, .tup h r => .tup (e.sqT h) (Reps.mono e z r)
  | _, _, _, _, .scr h r => .scr (h.mono e z) (Reps.mono e z r)
  | _, _, _, _, .lstF h q r => .lstF (e _ _ h) (z _ q) (Reps.mono e z r)
  | _, _, _, _, .lstO h r => .lstO (e _ _ h) (Reps.mono e z r)
  | _, _, _, _, .dctF h q e1 e2 r => .dctF (e _ _ h) (z _ q) e1 e2 (Reps.mono e z r)
  | _, _, _, _, .dctZ h e1 e2 r => .dctZ (e _ _ h) e1 e2 (Reps.mono e z r)
  | _, _, _, _, .dctO h e1 e2 r => .dctO (e _ _ h) e1 e2 (Reps.mono e z r)
  | _, _, _, _, .exc0 g h => .exc0 g (e _ _ h)
  | _, _, _, _, .exc1 n g h d l r => .exc1 n g (e _ _ h) (e _ _ d) l (Reps.mono e z r)
theorem Reps.mono (e : Ext H H') (z : ∀ a, Z a → Z' a) : ∀ {k ds vs os}, Reps c H Z k ds vs os → Reps c H' Z' k ds vs os
  | _, _, _, _, .nil => .nil
  | _, _, _, _, .cons r rs => .cons (r.mono e z) (Reps.mono e z rs)
end
end
end MP

/-! MPb: the little language and what it does. -/
namespace MP
open PySem PySem.Spec PyProof.Rows L2

/-! ### data -/
mutual
/-- all that can be changed lies in the first k levels -/
def ful : Nat → D → Bool
  | k, .tup ds => fuls k ds
  | 0, .lst _ => false
  | k + 1, .lst ds => fuls k ds
  | 0, .dct _ _ => false
  | k + 1, .dct ks vs => fuls 0 ks && fuls k vs
  | _, .exc _ _ vs => fuls 0 vs
  | _, .scr _ => false
  | _, .non => true
  | _, .bl _ => true
  | _, .int _ => true
  | _, .str _ => true
def fuls : Nat → List D → Bool
  | _, [] => true
  | k, d :: ds => ful k d && fuls k ds
end
abbrev Ent := Nat × D
def fu (x : Ent) : Bool := ful x.1 x.2 && ful 8 x.2
/-- what is no list, tuple, dict -/
def atom : D → Bool
  | .non => true
  | .bl _ => true
  | .int _ => true
  | .str _ => true
  | _ => false
mutual
/-- == of two data -/
def eqd : D → D → Bool
  | .non, .non => true
  | .bl a, .bl b => a == b
  | .bl a, .int j => (if a then 1 else 0) == j
  | .int i, .bl b => i == (if b then 1 else 0)
  | .int i, .int j => i == j
  | .str x, .str y => x == y
  | .tup a, .tup b => eqds a b
  | .lst a, .lst b => eqds a b
  | _, _ => false
def eqds : List D → List D → Bool
  | [], [] => true
  | a :: as, b :: bs => eqd a b && eqds as bs
  | _, _ => false
end
mutual
/-- data that == goes through: no dicts, no exceptions, not too deep -/
def okd : Nat → D → Bool
  | _, .non => true
  | _, .bl _ => true
  | _, .int _ => true
  | _, .str s => PyData.strOk s
  | n + 1, .tup ds => okds n ds
  | n + 1, .lst ds => okds n ds
  | _, _ => false
def okds : Nat → List D → Bool
  | _, [] => true
  | n, d :: ds => okd n d && okds n ds
end
def eqD (a b : D) : Option Bool := if okd 60 a && okd 60 b then some (eqd a b) else none

/-! ### the language -/
inductive Bop | add | sub | mul | fdiv | mod | pow deriving DecidableEq
inductive Cop | eq | ne | lt | le | gt | ge | isn | isnt | inn | notin deriving DecidableEq
inductive Bl | len | abs | all | dict | int | list | repr | sum | tuple | str | sorted | max | min deriving DecidableEq
inductive Met | get | index | count | join | split | replace | partition deriving DecidableEq
inductive IK | seq | rng | enum | zip | keys deriving DecidableEq
inductive Mut | append | extend | pop | insert | clear | popAt deriving DecidableEq
inductive Tg where
  | nm (i : Nat)
  | tup (ts : List Tg)
  deriving Inhabited
inductive Ex where
  | nop | bad
  | nm (i : Nat) | gl (x : Str) | non | bl (b : Bool) | int (i : Int) | str (s : Str)
  | tup (es : List Ex) | lst (es : List Ex) | dic (ks vs : List Ex)
  | bin (op : Bop) (a b : Ex) | neg (a : Ex) | not (a : Ex) | and (a b : Ex) | or (a b : Ex) | ife (c a b : Ex)
  | cmp (op : Cop) (a b : Ex) | chain (op op2 : Cop) (a b c : Ex)
  | idx (a i : Ex) | slc (a lo hi : Ex) | rev (a : Ex)
  | call (f : Str) (es : List Ex) | blt (b : Bl) (es : List Ex) | lrng (a : Ex) | mnd (a : Ex) | tupl (a : Ex) | rpr (a : Ex)
  | met (m : Met) (o : Ex) (es : List Ex)
  | isi (a : Ex) (cs : List Str)
  | lc (el : Ex) (tg : Tg) (ik : IK) (its : List Ex) (cond : List Ex) (own : List Nat)
  | atr (a : Ex) (f : Str)
  deriving Inhabited
inductive Sm where
  | nop | bad
  | set (tg : Tg) (e : Ex)
  /-- p[i] = e -/
  | seti (p i e : Ex)
  | mut (m : Mut) (p : Ex) (es : List Ex)
  | drop (e : Ex)
  | ret (e : Ex) | retN
  /-- a name given back, a tuple some of whose parts are names -/
  | retV (i : Nat) | retT (es : List Ex)
  | ife (c : Ex) (a b : List Sm)
  | for (tg : Tg) (ik : IK) (its : List Ex) (body : List Sm)
  | raise (x : Str) (es : List Ex)
  /-- for a, v in p: v.clear() -/
  | clrs (a v : Nat) (p : Ex)
  deriving Inhabited

/-! ### ends -/
inductive Res (α : Type) where
  | ok (a : α) | exc (x : D) | stuck
/-- no exception is let out -/
def Res.nox {α : Type} : Res α → Res α
  | .ok a => .ok a
  | _ => .stuck
def Res.bind {α β : Type} : Res α → (α → Res β) → Res β
  | .ok a, f => f a
  | .exc x, _ => .exc x
  | .stuck, _ => .stuck
instance : Monad Res where
  pure := .ok
  bind := Res.bind
def Res.of {α : Type} : Option α → Res α
  | some a => .ok a
  | none => .stuck
@[simp] theorem res_ok_bind {α β : Type} (a : α) (f : α → Res β) : (Res.ok a >>= f) = f a := rfl
@[simp] theorem res_exc_bind {α β : Type} (x : D) (f : α → Res β) : (Res.exc x >>= f) = .exc x := rfl
@[simp] theorem res_stuck_bind {α β : Type} (f : α → Res β) : ((Res.stuck : Res α) >>= f) = .stuck := rfl
@[simp] theorem res_pure {α : Type} (a : α) : (pure a : Res α) = .ok a := rfl

/-- what a program's names stand for -/
structure Gm where
  call : Str → List D → Res Ent
  glob : Str → Option D
  /-- the fields of an exception class that has an __init__ -/
  flds : Str → Option (List Str)
  /-- whether a class (by its name) lies below another one, where that is known -/
  kit : Str → Str → Option Bool
/-- a slot: how deep its value is owned, the value, the slots that own parts of it -/
abbrev Slt := Nat × D × List Nat
abbrev Env := List (Option Slt)

/-! ### operators -/
def szOk (n : Nat) : Bool := decide (n ≤ sizeLine)
/-- a new list of these -/
def newL (ds : List D) : Option Ent := if szOk ds.length then some (1, .lst ds) else none
def newT (ds : List D) : Option Ent := if szOk ds.length then some (0, .tup ds) else none
def ent (d : D) : Ent := (0, d)
def addD : D → D → Option Ent
  | .int i, .int j => some (ent (.int (i + j)))
  | .str a, .str b => if szOk (a.length + b.length) then some (ent (.str (a ++ b))) else none
  | .lst a, .lst b => newL (a ++ b)
  | .tup a, .tup b => newT (a ++ b)
  | _, _ => none
def subD : D → D → Option Ent
  | .int i, .int j => some (ent (.int (i - j)))
  | _, _ => none
def mulD : D → D → Option Ent
  | .int i, .int j => if (-(2 ^ 64) < i ∧ i < 2 ^ 64) ∨ (-(2 ^ 64) < j ∧ j < 2 ^ 64) then some (ent (.int (i * j))) else none
  | .lst a, .int k => if -(2 ^ 63) ≤ k ∧ k < 2 ^ 63 ∧ a.length * k.toNat ≤ sizeLine then some (1, .lst (List.replicate k.toNat a).flatten) else none
  | .tup a, .int k => if a ≠ [] ∧ 1 ≤ k ∧ k ≤ 1000 ∧ a.length ≤ 1000 then some (0, .tup (List.replicate k.toNat a).flatten) else none
  | _, _ => none
def fdivD : D → D → Option Ent
  | .int i, .int j => if 0 < j ∧ j.natAbs.log2 < 9000 then some (ent (.int (i / j))) else none
  | _, _ => none
def modD : D → D → Option Ent
  | .int i, .int j => if 0 < j then some (ent (.int (i % j))) else none
  | _, _ => none
def powD : D → D → Option Ent
  | .int i, .int j => if 0 ≤ j ∧ j ≤ 1000000 ∧ i.natAbs < 2 ^ 64 then some (ent (.int (i ^ j.toNat))) else none
  | _, _ => none
def binD : Bop → D → D → Option Ent
  | .add => addD | .sub => subD | .mul => mulD | .fdiv => fdivD | .mod => modD | .pow => powD
def bl? (o : Option Bool) : Option Ent := o.map fun b => ent (.bl b)
/-- x in a list -/
def inD (x : D) (ys : List D) : Option Bool := if okd 60 x && okds 60 ys then some (ys.any fun y => eqd y x) else none
def cmpI (f : Int → Int → Bool) : D → D → Option Ent
  | .int i, .int j => some (ent (.bl (f i j)))
  | _, _ => none
/-- is: of None, of truths -/
def isD : D → D → Option Bool
  | .bl a, .bl b => some (a == b)
  | a, .non => some (match a with | .non => true | _ => false)
  | _, _ => none
/-- keys: whole numbers and texts -/
def key? : D → Option Key
  | .int i => some (.inl i)
  | .str s => some (.inr s)
  | _ => none
/-- the value of a key -/
def dlk (k : Key) : List D → List D → Option D
  | d :: ks, v :: vs => if key? d = some k then some v else dlk k ks vs
  | _, _ => none
/-- a value put at a key -/
def dput (k : Key) (x : D) : List D → List D → List D
  | d :: ks, v :: vs => if key? d = some k then x :: dput k x ks vs else v :: dput k x ks vs
  | _, _ => []
def dhas (k : Key) (ks : List D) : Bool := ks.any fun d => decide (key? d = some k)
def dset (k : Key) (x : D) (p : List D × List D) : List D × List D := if dhas k p.1 then (p.1, dput k x p.1 p.2) else (p.1 ++ [kD k], p.2 ++ [x])
def inA : D → D → Option Bool
  | .str a, .str b => some (!(Builtin.Str.occurrences b a 0 b.length 1).isEmpty)
  | a, .lst ys => inD a ys
  | a, .tup ys => if atom a && ys.all atom then some (ys.any fun y => eqd y a) else none
  | a, .dct ks _ => (key? a).map fun k => dhas k ks
  | _, _ => none
def cmpD : Cop → D → D → Option Ent
  | .eq => fun a b => bl? (eqD a b)
  | .ne => fun a b => bl? ((eqD a b).map not)
  | .lt => cmpI fun i j => decide (i < j)
  | .le => cmpI fun i j => decide (i ≤ j)
  | .gt => cmpI fun i j => decide (j < i)
  | .ge => cmpI fun i j => decide (j ≤ i)
  | .isn => fun a b => bl? (isD a b)
  | .isnt => fun a b => bl? ((isD a b).map not)
  | .inn => fun a b => bl? (inA a b)
  | .notin => fun a b => bl? ((inA a b).map not)
def idxD : D → D → Option Ent
  | .lst ds, .int i => (atI ds i).map ent
  | .scr ds, .int i => (atI ds i).map ent
  | .tup ds, .int i => (atI ds i).map ent
  | .str s, .int i => if szOk s.length then (atI s.cps.toList i).map fun c => ent (.str ⟨#[c]⟩) else none
  | .dct ks vs, d => (key? d).bind fun k => (dlk k ks vs).map ent
  | _, _ => none
def part? : D → Option (Option Int)
  | .non => some none
  | .int i => some (some i)
  | _ => none
def slcD (a : D) (lo hi : Option Int) : Option Ent := match a with
  | .lst ds => some (1, .lst (cutL ds lo hi))
  | .scr ds => some (1, .lst (cutL ds lo hi))
  | .tup ds => some (0, .tup (cutL ds lo hi))
  | .str s => if szOk s.length then some (ent (.str (cutS s lo hi))) else none
  | _ => none
where
  cutL (ds : List D) (lo hi : Option Int) : List D := (ds.drop (HT.sIx ds.length 0 lo)).take (HT.sIx ds.length ds.length hi - HT.sIx ds.length 0 lo)
def bls? : List D → Option (List Bool)
  | [] => some []
  | .bl b :: ds => (bls? ds).map (b :: ·)
  | _ => none
def ints? : List D → Option (List Int)
  | [] => some []
  | .int b :: ds => (ints? ds).map (b :: ·)
  | _ => none
def strs? : List D → Option (List Str)
  | [] => some []
  | .str b :: ds => (strs? ds).map (b :: ·)
  | _ => none
/-- pairs of a key and a datum -/
def prs? : List D → Option (List (Key × D))
  | [] => some []
  | .tup [k, v] :: ds => (key? k).bind fun k => (prs? ds).map ((k, v) :: ·)
  | _ => none
def dmerge (ps : List (Key × D)) : List D × List D := ps.foldl (fun a p => dset p.1 p.2 a) ([], [])
/-! ### repr -/
mutual
def toQ : D → PyData
  | .non => .none
  | .bl b => .bool b
  | .int i => .int i
  | .str s => .str s
  | .tup ds => .tuple (toQs ds)
  | .lst ds => .list (toQs ds)
  | .dct ks vs => .dict ((toQs ks).zip (toQs vs))
  | _ => .none
def toQs : List D → List PyData
  | [] => []
  | d :: ds => toQ d :: toQs ds
end
mutual
/-- no script, no exception, keys for keys -/
def repK : D → Bool
  | .tup ds => repKs ds
  | .lst ds => repKs ds
  | .dct _ vs => repKs vs
  | .scr _ => false
  | .exc _ _ _ => false
  | _ => true
def repKs : List D → Bool
  | [] => true
  | d :: ds => repK d && repKs ds
end
def isRf : D → Bool
  | .tup _ => true
  | .lst _ => true
  | .dct _ _ => true
  | _ => false
def rprD (d : D) : Option Ent := if isRf d && repK d && (toQ d).showable && decide ((toQ d).shown.length ≤ sizeLine) && decide ((toQ d).depth ≤ 60) then some (ent (.str (toQ d).shown)) else none
/-! ### what expressions do -/
def fv : Ex → List Nat
  | .nop => [] | .bad => [] | .nm i => [i] | .gl _ => [] | .non => [] | .bl _ => [] | .int _ => [] | .str _ => []
  | .tup es => fvs es | .lst es => fvs es | .dic ks vs => fvs ks ++ fvs vs
  | .bin _ a b => fv a ++ fv b | .neg a => fv a | .not a => fv a | .and a b => fv a ++ fv b | .or a b => fv a ++ fv b | .ife c a b => fv c ++ (fv a ++ fv b)
  | .cmp _ a b => fv a ++ fv b | .chain _ _ a b c => fv a ++ (fv b ++ fv c)
  | .idx a i => fv a ++ fv i | .slc a lo hi => fv a ++ (fv lo ++ fv hi) | .rev a => fv a
  | .call _ es => fvs es | .blt _ es => fvs es | .lrng a => fv a | .mnd a => fv a | .tupl a => fv a | .rpr a => fv a
  | .met _ o es => fv o ++ fvs es
  | .isi a _ => fv a
  | .lc el _ _ its cond own => fvs its ++ ((fvs cond ++ fv el).filter fun i => !own.contains i)
  | .atr a _ => fv a
where
  fvs : List Ex → List Nat
  | [] => []
  | e :: es => fv e ++ fvs es

def asB : Ent → Res Bool
  | (_, .bl b) => .ok b
  | _ => .stuck
def mapR {α β : Type} (f : α → Res β) : List α → Res (List β)
  | [] => .ok []
  | a :: as => f a >>= fun b => mapR f as >>= fun bs => .ok (b :: bs)
/-- what is walked -/
def iterD : IK → List D → Option (List D)
  | .seq, [.lst ds] => some ds
  | .seq, [.tup ds] => some ds
  | .seq, [.str s] => some (s.cps.toList.map fun c => .str ⟨#[c]⟩)
  | .keys, [.dct ks _] => some ks
  | .rng, [.int n] => if -(2 ^ 62) ≤ n ∧ n < 2 ^ 62 then some ((List.range n.toNat).map fun (i : Nat) => .int i) else none
  | .rng, [.int a, .int b] => if -(2 ^ 62) ≤ a ∧ a < 2 ^ 62 ∧ -(2 ^ 62) ≤ b ∧ b < 2 ^ 62 then some ((List.range (b - a).toNat).map fun (i : Nat) => .int (a + i)) else none
  | .rng, [.int a, .int b, .int c] => if -(2 ^ 62) ≤ a ∧ a < 2 ^ 62 ∧ -(2 ^ 62) ≤ b ∧ b < 2 ^ 62 ∧ c ≠ 0 ∧ -1073741824 < c ∧ c < 1073741824 then
      some ((List.range (if 0 < c then ((b - a + c - 1) / c).toNat else ((a - b - c - 1) / (-c)).toNat)).map fun (i : Nat) => .int (a + i * c)) else none
  | .enum, [.lst ds] => some (ds.zipIdx.map fun p => .tup [.int p.2, p.1])
  | .zip, [.lst as, .lst bs] => some ((as.zip bs).map fun p => .tup [p.1, p.2])
  | .zip, [.tup as, .tup bs] => some ((as.zip bs).map fun p => .tup [p.1, p.2])
  | _, _ => none
/-- i owns nothing any more that another one asks -/
def dropB (i : Nat) (env : Env) : Env := env.map fun o => o.map fun x => (x.1, x.2.1, x.2.2.filter fun j => j != i)
mutual
/-- a value into a target; M: the names that are changed in place; B: the slots that own parts of it -/
def bindTg (M : List Nat) (B : List Nat) : Tg → Ent → Env → Option Env
  | .nm i, x, env => some ((dropB i env).set i (some (if M.contains i then x.1 else 0, x.2, if ful x.1 x.2 then [] else B.filter fun j => j != i)))
  | .tup ts, (k, .tup ds), env => bindTgs M B ts k ds env
  | .tup _, _, _ => none
def bindTgs (M : List Nat) (B : List Nat) : List Tg → Nat → List D → Env → Option Env
  | [], _, [], env => some env
  | t :: ts, k, d :: ds, env => (bindTg M B t (k, d) env).bind fun env' => bindTgs M B ts k ds env'
  | _, _, _, _ => none
end
def wipeE (own : List Nat) (env : Env) : Env := match own with
  | [] => env
  | i :: r => (wipeE r env).set i none
def lstO (xs : List Ent) : Option Ent := if szOk xs.length then some (if xs.all fu then 9 else 1, .lst (xs.map (·.2))) else none
def tupO (xs : List Ent) : Option Ent := if szOk xs.length then some (if xs.all fu then 8 else 0, .tup (xs.map (·.2))) else none
/-- the name of a datum's class -/
def tag : D → Str
  | .non => "NoneType"
  | .bl _ => "bool"
  | .int _ => "int"
  | .str _ => "str"
  | .tup _ => "tuple"
  | .lst _ => "list"
  | .scr _ => "list"
  | .dct _ _ => "dict"
  | .exc x _ _ => x
/-- isinstance, where it is told -/
def isiA (Γ : Gm) (d : D) (cs : List Str) : Option Ent := if cs.all fun n => (Γ.kit (tag d) n).isSome then some (ent (.bl (cs.any fun n => Γ.kit (tag d) n == some true))) else none
def len? : D → Option Nat
  | .scr ds => some ds.length
  | .lst ds => some ds.length
  | .tup ds => some ds.length
  | .str s => if szOk s.length then some s.length else none
  | .dct ks _ => some ks.length
  | _ => none
def bltD : Bl → List D → Option Ent
  | .len => fun xs => match xs with
    | [d] => (len? d).map fun (n : Nat) => ent (.int (n : Int))
    | _ => none
  | .abs => fun xs => match xs with
    | [.int i] => some (ent (.int (if i < 0 then -i else i)))
    | _ => none
  | .all => fun xs => match xs with
    | [.lst ds] => (bls? ds).map fun bs => ent (.bl (bs.all id))
    | _ => none
  | .int => fun xs => match xs with
    | [.bl b] => some (ent (.int (if b then 1 else 0)))
    | [.int i] => some (ent (.int i))
    | [.str a] => if a.length ≤ 640 then (PySem.intText? a).map fun n => ent (.int n) else none
    | _ => none
  | .list => fun xs => match xs with
    | [.lst ds] => some (1, .lst ds)
    | [.tup ds] => some (1, .lst ds)
    | _ => none
  | .tuple => fun xs => match xs with
    | [.lst ds] => some (0, .tup ds)
    | [.tup ds] => some (0, .tup ds)
    | _ => none
  | .sum => fun xs => match xs with
    | [.lst ds] => (ints? ds).map fun is => ent (.int is.sum)
    | _ => none
  | .str => fun xs => match xs with
    | [.int i] => if i.natAbs.log2 < 1920 then some (ent (.str (toString i))) else none
    | _ => none
  | .max => fun xs => match xs with
    | [.int i, .int j] => some (ent (.int (if j > i then j else i)))
    | _ => none
  | .min => fun xs => match xs with
    | [.int i, .int j] => some (ent (.int (if j < i then j else i)))
    | _ => none
  | .dict => fun xs => match xs with
    | [.lst ds] => (prs? ds).map fun ps => let r := dmerge ps; (1, .dct r.1 r.2)
    | _ => none
  | .repr => fun _ => none
  | .sorted => fun _ => none
def metD : Met → D → List D → Option Ent
  | .index, .lst ds, [x] => if ds.all atom && atom x then (ds.findIdx? fun y => eqd y x).map fun (j : Nat) => ent (.int j) else none
  | .count, .lst ds, [x] => if ds.all atom && atom x then some (ent (.int (ds.countP fun y => eqd y x : Nat))) else none
  | _, _, _ => none
def atrD : D → Str → Option Ent
  | .exc _ ks vs, f => ((ks.zip vs).lookup f).map ent
  | _, _ => none

/-- a part of a slice -/
def partO : Ex → Res Ent → Res (Option Int)
  | .nop, _ => .ok none
  | _, r => r >>= fun x => match x.2 with
    | .int i => .ok (some i)
    | _ => .stuck
section
variable (Γ : Gm)
mutual
def evE : Ex → Env → Res Ent
  | .nop, _ => .stuck
  | .bad, _ => .stuck
  | .nm i, env => match env[i]? with
    | some (some x) => .ok (0, x.2.1)
    | _ => .stuck
  | .gl x, _ => (Res.of (Γ.glob x)) >>= fun d => .ok (ent d)
  | .non, _ => .ok (ent .non)
  | .bl b, _ => .ok (ent (.bl b))
  | .int i, _ => .ok (ent (.int i))
  | .str s, _ => .ok (ent (.str s))
  | .tup es, env => evL es env >>= fun xs => Res.of (tupO xs)
  | .lst es, env => evL es env >>= fun xs => Res.of (lstO xs)
  | .dic _ _, _ => .stuck
  | .bin op a b, env => evE a env >>= fun x => evE b env >>= fun y => Res.of (binD op x.2 y.2)
  | .neg a, env => evE a env >>= fun x => match x.2 with
    | .int i => .ok (ent (.int (-i)))
    | _ => .stuck
  | .not a, env => evE a env >>= fun x => asB x >>= fun b => .ok (ent (.bl (!b)))
  | .and a b, env => evE a env >>= fun x => asB x >>= fun c => if c = true then evE b env else .ok (ent (.bl false))
  | .or a b, env => evE a env >>= fun x => asB x >>= fun c => if c = true then .ok (ent (.bl true)) else evE b env
  | .ife c a b, env => evE c env >>= fun x => asB x >>= fun c => if c = true then evE a env else evE b env
  | .cmp op a b, env => evE a env >>= fun x => evE b env >>= fun y => Res.of (cmpD op x.2 y.2)
  | .chain op op2 a b c, env => evE a env >>= fun x => evE b env >>= fun y => Res.of (cmpD op x.2 y.2) >>= fun z => asB z >>= fun k =>
      if k = true then evE c env >>= fun w => Res.of (cmpD op2 y.2 w.2) else .ok (ent (.bl false))
  | .idx a i, env => evE a env >>= fun x => evE i env >>= fun y => Res.of (idxD x.2 y.2)
  | .slc a lo hi, env => evE a env >>= fun x => partO lo (evE lo env) >>= fun l => partO hi (evE hi env) >>= fun h => Res.of (slcD x.2 l h)
  | .rev a, env => evE a env >>= fun x => match x.2 with
    | .lst ds => .ok (1, .lst ds.reverse)
    | _ => .stuck
  | .call f es, env => evL es env >>= fun xs => Γ.call f (xs.map (·.2))
  | .blt b es, env => evL es env >>= fun xs => Res.of (bltD b (xs.map (·.2)))
  | .lrng a, env => evE a env >>= fun x => match x.2 with
    | .int n => if -(2 ^ 62) ≤ n ∧ n ≤ 16777216 then .ok (1, .lst ((List.range n.toNat).map fun (i : Nat) => .int i)) else .stuck
    | _ => .stuck
  | .mnd _, _ => .stuck
  | .rpr a, env => evE a env >>= fun x => Res.of (rprD x.2)
  | .tupl a, env => evE a env >>= fun x => match x.2 with
    | .lst ds => .ok (if fu x = true then 8 else 0, .tup ds)
    | .tup ds => .ok (x.1, .tup ds)
    | _ => .stuck
  | .met m o es, env => evE o env >>= fun x => evL es env >>= fun xs => Res.of (metD m x.2 (xs.map (·.2)))
  | .isi a cs, env => evE a env >>= fun x => Res.of (isiA Γ x.2 cs)
  | .lc el tg ik its cond own, env => evL its env >>= fun xs => Res.of (iterD ik (xs.map (·.2))) >>= fun ds =>
      mapR (fun d => (Res.of (bindTg [] [] tg (0, d) (wipeE own env)) >>= fun env' => evC cond env' >>= fun b =>
        if b = true then evE el env' >>= fun x => .ok (some x) else .ok none).nox) ds >>= fun ys => Res.of (lstO (ys.filterMap id))
  | .atr a f, env => evE a env >>= fun x => Res.of (atrD x.2 f)
def evL : List Ex → Env → Res (List Ent)
  | [], _ => .ok []
  | e :: es, env => evE e env >>= fun x => evL es env >>= fun xs => .ok (x :: xs)
/-- a comprehension's test -/
def evC : List Ex → Env → Res Bool
  | [], _ => .ok true
  | [e], env => evE e env >>= asB
  | _ :: _ :: _, _ => .stuck
end
end
end MP

/-! MPc: lemmas about what stands for what; the readings. -/
namespace MP
open PySem PySem.Spec PyProof.Rows L2
section
variable {c : Cw} {H H' H1 H2 : Hp} {Z Z' : Addr → Prop}
mutual
theorem ful_up {k j : Nat} (hj : k ≤ j) : ∀ {d : D}, ful k d = true → ful j d = true
  | .tup ds, h => by
    simp only [ful] at h ⊢
    exact fuls_up hj h
  | .lst ds, h => by
    cases k with
    | zero => simp [ful] at h
    | succ k =>
      obtain ⟨j, rfl⟩ : ∃ i, j = i + 1 := ⟨j - 1, by omega⟩
      simp only [ful] at h ⊢
      exact fuls_up (by omega) h
  | .dct ks vs, h => by
    cases k with
    | zero => simp [ful] at h
    | succ k =>
      obtain ⟨j, rfl⟩ : ∃ i, j = i + 1 := ⟨j - 1, by omega⟩
      simp only [ful, Bool.and_eq_true] at h ⊢
      exact ⟨h.1, fuls_up (by omega) h.2⟩
  | .exc _ _ vs, h => by
    simp only [ful] at h ⊢
    exact h
  | .scr _, h => by simp [ful] at h
  | .non, _ => by simp [ful]
  | .bl _, _ => by simp [ful]
  | .int _, _ => by simp [ful]
  | .str _, _ => by simp [ful]
theorem fuls_up {k j : Nat} (hj : k ≤ j) : ∀ {ds : List D}, fuls k ds = true → fuls j ds = true
  | [], _ => by simp [fuls]
  | d :: ds, h => by
    simp only [fuls, Bool.and_eq_true] at h ⊢
    exact ⟨ful_up hj h.1, fuls_up hj h.2⟩
end
mutual
theorem Rep.there : ∀ {k d v os}, Rep c H Z k d v os → ∀ a ∈ os, H a ≠ none
  | _, _, _, _, .non, _, h => by cases h
  | _, _, _, _, .bl, _, h => by cases h
  | _, _, _, _, .int, _, h => by cases h
  | _, _, _, _, .str, _, h => by cases h
  | _, _, _, _, .tup _ r, a, h => Reps.there r a h
  | _, _, _, _, .scr _ _, _, h => by cases h
  | _, _, _, _, .exc0 _ _, _, h => by cases h
  | _, _, _, _, .exc1 _ _ _ _ _ _, _, h => by cases h
  | _, _, _, _, .lstF _ _ _, _, h => by cases h
  | _, _, _, _, .dctF _ _ _ _ _, _, h => by cases h
  | _, _, _, _, .dctZ _ _ _ _, _, h => by cases h
  | _, _, _, _, .dctO e _ _ r, a, h => by
    rcases List.mem_cons.mp h with rfl | h
    · rw [e]; exact fun z => by cases z
    · exact Reps.there r a h
  | _, _, _, _, .lstO e r, a, h => by
    rcases List.mem_cons.mp h with rfl | h
    · rw [e]; exact fun z => by cases z
    · exact Reps.there r a h
theorem Reps.there : ∀ {k ds vs os}, Reps c H Z k ds vs os → ∀ a ∈ os, H a ≠ none
  | _, _, _, _, .nil, _, h => by cases h
  | _, _, _, _, .cons r rs, a, h => by
    rcases List.mem_append.mp h with h | h
    · exact r.there a h
    · exact Reps.there rs a h
end
mutual
theorem Rep.ful : ∀ {k j d v os}, MP.ful k d = true → MP.ful j d = true → Rep c H Z k d v os → Rep c H Z' j d v os
  | _, _, _, _, _, _, _, .non => .non
  | _, _, _, _, _, _, _, .bl => .bl
  | _, _, _, _, _, _, _, .int => .int
  | _, _, _, _, _, _, _, .str => .str
  | _, _, _, _, _, h1, h2, .tup e r => .tup e (Reps.ful (by simpa only [MP.ful] using h1) (by simpa only [MP.ful] using h2) r)
  | _, _, _, _, _, h1, _, .dctF _ _ _ _ _ => by simp [MP.ful] at h1
  | _, _, _, _, _, h1, _, .dctZ _ _ _ _ => by simp [MP.ful] at h1
  | _, 0, _, _, _, _, h2, .dctO _ _ _ _ => by simp [MP.ful] at h2
  | _, _ + 1, _, _, _, h1, h2, .dctO e e1 e2 r => .dctO e e1 e2 (Reps.ful (by simp only [MP.ful, Bool.and_eq_true] at h1; exact h1.2) (by simp only [MP.ful, Bool.and_eq_true] at h2; exact h2.2) r)
  | _, _, _, _, _, h1, _, .scr e r => by simp [MP.ful] at h1
  | _, _, _, _, _, _, _, .exc0 g h => .exc0 g h
  | _, _, _, _, _, h1, _, .exc1 n g h d l r => .exc1 n g h d l (Reps.ful (by simpa only [MP.ful] using h1) (by simpa only [MP.ful] using h1) r)
  | _, _, _, _, _, h1, _, .lstF _ _ _ => by simp [MP.ful] at h1
  | _, 0, _, _, _, _, h2, .lstO _ _ => by simp [MP.ful] at h2
  | _, _ + 1, _, _, _, h1, h2, .lstO e r => .lstO e (Reps.ful (by simpa only [MP.ful] using h1) (by simpa only [MP.ful] using h2) r)
theorem Reps.ful : ∀ {k j ds vs os}, MP.fuls k ds = true → MP.fuls j ds = true → Reps c H Z k ds vs os → Reps c H Z' j ds vs os
  | _, _, _, _, _, _, _, .nil => .nil
  | _, _, _, _, _, h1, h2, .cons r rs => by
    simp only [MP.fuls, Bool.and_eq_true] at h1 h2
    exact .cons (r.ful h1.1 h2.1) (Reps.ful h1.2 h2.2 rs)
end
mutual
theorem Rep.demote (z : ∀ a, Z a → Z' a) : ∀ {k d v os}, Rep c H Z k d v os → (∀ a ∈ os, Z' a) → Rep c H Z' 0 d v []
  | _, _, _, _, .non, _ => .non
  | _, _, _, _, .bl, _ => .bl
  | _, _, _, _, .int, _ => .int
  | _, _, _, _, .str, _ => .str
  | _, _, _, _, .tup e r, h => .tup e (Reps.demote z r h)
  | _, _, _, _, .dctF e q e1 e2 r, _ => .dctF e (z _ q) e1 e2 (Reps.mono (fun _ _ q => q) z r)
  | _, _, _, _, .dctZ e e1 e2 r, _ => .dctZ e e1 e2 (Reps.mono (fun _ _ q => q) z r)
  | _, _, _, _, .dctO e e1 e2 r, h => .dctF e (h _ List.mem_cons_self) e1 e2 (Reps.demote z r fun a q => h a (List.mem_cons_of_mem _ q))
  | _, _, _, _, .scr e r, _ => .scr (e.mono (fun _ _ q => q) z) (Reps.mono (fun _ _ q => q) z r)
  | _, _, _, _, .exc0 g h, _ => .exc0 g h
  | _, _, _, _, .exc1 n g h d l r, _ => .exc1 n g h d l (Reps.mono (fun _ _ q => q) z r)
  | _, _, _, _, .lstF e q r, _ => .lstF e (z _ q) (Reps.mono (fun _ _ q => q) z r)
  | _, _, _, _, .lstO e r, h => .lstF e (h _ List.mem_cons_self) (Reps.demote z r fun a q => h a (List.mem_cons_of_mem _ q))
theorem Reps.demote (z : ∀ a, Z a → Z' a) : ∀ {k ds vs os}, Reps c H Z k ds vs os → (∀ a ∈ os, Z' a) → Reps c H Z' 0 ds vs []
  | _, _, _, _, .nil, _ => .nil
  | _, _, _, _, .cons r rs, h => by
    have := Reps.cons (r.demote z fun a q => h a (List.mem_append_left _ q)) (Reps.demote z rs fun a q => h a (List.mem_append_right _ q))
    simpa using this
end
theorem Reps.length : ∀ {k ds vs os}, Reps c H Z k ds vs os → ds.length = vs.length
  | _, _, _, _, .nil => rfl
  | _, _, _, _, .cons _ rs => by simp [Reps.length rs]

/-- values with what they stand for, each with its own depth -/
inductive RepE (c : Cw) (H : Hp) (Z : Addr → Prop) : List Ent → List V → List Addr → Prop
  | nil : RepE c H Z [] [] []
  | cons {x xs v vs os os'} : Rep c H Z x.1 x.2 v os → RepE c H Z xs vs os' → RepE c H Z (x :: xs) (v :: vs) (os ++ os')
theorem RepE.mono (e : Ext H H') (z : ∀ a, Z a → Z' a) {xs vs os} (r : RepE c H Z xs vs os) : RepE c H' Z' xs vs os := by
  induction r with
  | nil => exact .nil
  | cons r _ ih => exact .cons (r.mono e z) ih
theorem RepE.there {xs vs os} (r : RepE c H Z xs vs os) : ∀ a ∈ os, H a ≠ none := by
  induction r with
  | nil => exact fun _ h => by cases h
  | cons r _ ih =>
    intro a h
    rcases List.mem_append.mp h with h | h
    · exact r.there a h
    · exact ih a h
theorem RepE.length {xs vs os} (r : RepE c H Z xs vs os) : xs.length = vs.length := by
  induction r with
  | nil => rfl
  | cons r _ ih => simp [ih]
theorem RepE.full {xs vs os} (r : RepE c H Z xs vs os) (h : xs.all fu = true) : Reps c H Z' 8 (xs.map (·.2)) vs os := by
  induction r with
  | nil => exact .nil
  | cons r _ ih =>
    simp only [List.all_cons, Bool.and_eq_true] at h
    have h1 := h.1
    unfold fu at h1
    simp only [Bool.and_eq_true] at h1
    exact .cons (r.ful h1.1 h1.2) (ih h.2)
theorem RepE.demote (z : ∀ a, Z a → Z' a) {xs vs os} (r : RepE c H Z xs vs os) (h : ∀ a ∈ os, Z' a) : Reps c H Z' 0 (xs.map (·.2)) vs [] := by
  induction r with
  | nil => exact .nil
  | cons r _ ih =>
    have := Reps.cons (r.demote z fun a q => h a (List.mem_append_left _ q)) (ih fun a q => h a (List.mem_append_right _ q))
    simpa using this

/-- what an expression leaves: a new value, the owned parts new -/
structure ROk (c : Cw) (H : Hp) (Z : Addr → Prop) (k : Nat) (d : D) (v : V) (H' : Hp) (os : List Addr) : Prop where
  ext : Ext H H'
  rep : Rep c H' (fun a => Z a ∨ (H a = none ∧ H' a ≠ none ∧ a ∉ os)) k d v os
  new : ∀ a ∈ os, H a = none
  nd : os.Nodup
structure LOk (c : Cw) (H : Hp) (Z : Addr → Prop) (xs : List Ent) (vs : List V) (H' : Hp) (os : List Addr) : Prop where
  ext : Ext H H'
  rep : RepE c H' (fun a => Z a ∨ (H a = none ∧ H' a ≠ none ∧ a ∉ os)) xs vs os
  new : ∀ a ∈ os, H a = none
  nd : os.Nodup
theorem Ext.refl (H : Hp) : Ext H H := fun _ _ h => h
theorem Ext.trans {H H1 H2 : Hp} (a : Ext H H1) (b : Ext H1 H2) : Ext H H2 := fun x o h => b x o (a x o h)
theorem Ext.none {H H1 : Hp} (a : Ext H H1) {x : Addr} (h : H1 x = .none) : H x = .none := by
  cases e : H x with
  | none => rfl
  | some o => rw [a x o e] at h; cases h
theorem Ext.ne {H H1 : Hp} (a : Ext H H1) {x : Addr} (h : H x ≠ .none) : H1 x ≠ .none := fun q => h (a.none q)
theorem Ext.upd {H : Hp} {p : Addr} {o : HO} (h : H p = .none) : Ext H (upd H p o) := fun a u e => by rw [upd_ne (ne_of_none e h)]; exact e
theorem LOk.nil : LOk c H Z [] [] H [] := ⟨Ext.refl H, .nil, (fun _ h => by cases h), List.nodup_nil⟩
theorem LOk.cons {x xs v vs os os'} (a : ROk c H Z x.1 x.2 v H1 os) (b : LOk c H1 Z xs vs H2 os') : LOk c H Z (x :: xs) (v :: vs) H2 (os ++ os') := by
  have t := a.rep.there
  refine ⟨a.ext.trans b.ext, .cons (a.rep.mono b.ext fun c q => ?_) (b.rep.mono (Ext.refl _) fun c q => ?_), fun c q => ?_, ?_⟩
  · rcases q with q | ⟨q1, q2, q3⟩
    · exact .inl q
    · refine .inr ⟨q1, b.ext.ne q2, fun z => ?_⟩
      rcases List.mem_append.mp z with z | z
      · exact q3 z
      · exact q2 (b.new c z)
  · rcases q with q | ⟨q1, q2, q3⟩
    · exact .inl q
    · refine .inr ⟨a.ext.none q1, q2, fun z => ?_⟩
      rcases List.mem_append.mp z with z | z
      · exact t c z q1
      · exact q3 z
  · rcases List.mem_append.mp q with q | q
    · exact a.new c q
    · exact a.ext.none (b.new c q)
  · rw [List.nodup_append]
    refine ⟨a.nd, b.nd, fun c q c' q' e => ?_⟩
    subst e
    exact t c q (b.new c q')
/-- what comes of a step behind another -/
theorem ROk.trans {k d v os} {Z1 : Addr → Prop} (e : Ext H H1) (z : ∀ a, Z1 a → Z a ∨ (H a = none ∧ H1 a ≠ none)) (r : ROk c H1 Z1 k d v H2 os) : ROk c H Z k d v H2 os := by
  refine ⟨e.trans r.ext, r.rep.mono (Ext.refl _) fun c q => ?_, fun c q => e.none (r.new c q), r.nd⟩
  rcases q with q | ⟨q1, q2, q3⟩
  · rcases z c q with q | ⟨q1, q2⟩
    · exact .inl q
    · exact .inr ⟨q1, r.ext.ne q2, fun w => q2 (r.new c w)⟩
  · exact .inr ⟨e.none q1, q2, q3⟩
/-- a part of what stands, or an atom -/
theorem ROk.old {k d v} (r : Rep c H Z k d v []) : ROk c H Z k d v H [] :=
  ⟨Ext.refl H, r.mono (Ext.refl H) fun _ q => .inl q, (fun _ h => by cases h), List.nodup_nil⟩
/-- a new list of what stands -/
theorem ROk.lst {ds vs p} (r : Reps c H Z 0 ds vs []) (hp : H p = none) : ROk c H Z 1 (.lst ds) (.ref p) (upd H p (.lst vs)) [p] := by
  refine ⟨Ext.upd hp, .lstO upd_same (r.mono (Ext.upd hp) fun _ q => .inl q), fun a h => ?_, by simp⟩
  rcases List.mem_cons.mp h with rfl | h
  · exact hp
  · cases h
theorem ROk.tup {ds vs p} (r : Reps c H Z 0 ds vs []) (hp : H p = none) : ROk c H Z 0 (.tup ds) (.ref p) (upd H p (.tup vs)) [] :=
  ⟨Ext.upd hp, .tup (SqT.of upd_same) (r.mono (Ext.upd hp) fun _ q => .inl q), (fun _ h => by cases h), List.nodup_nil⟩
/-- displays -/
theorem ROk.lstD {xs vs os p} (r : LOk c H Z xs vs H1 os) (hp : H1 p = none) :
    ∃ os', ROk c H Z (if xs.all fu then 9 else 1) (.lst (xs.map (·.2))) (.ref p) (upd H1 p (.lst vs)) os' := by
  have hp0 := r.ext.none hp
  by_cases h : xs.all fu = true
  · rw [if_pos h]
    have r2 := RepE.full (Z' := Z) r.rep h
    refine ⟨p :: os, r.ext.trans (Ext.upd hp), .lstO upd_same (r2.mono (Ext.upd hp) fun _ q => .inl q), fun a h => ?_, ?_⟩
    · rcases List.mem_cons.mp h with rfl | h
      · exact hp0
      · exact r.new a h
    · rw [List.nodup_cons]
      exact ⟨fun q => r.rep.there p q hp, r.nd⟩
  · rw [if_neg h]
    have rd := RepE.demote (Z' := fun a => Z a ∨ (H a = none ∧ H1 a ≠ none)) (fun a q => q.elim .inl fun q => .inr ⟨q.1, q.2.1⟩) r.rep fun a q => .inr ⟨r.new a q, r.rep.there a q⟩
    exact ⟨_, (ROk.lst rd hp).trans r.ext fun a q => q⟩
theorem ROk.tupD {xs vs os p} (r : LOk c H Z xs vs H1 os) (hp : H1 p = none) :
    ∃ os', ROk c H Z (if xs.all fu then 8 else 0) (.tup (xs.map (·.2))) (.ref p) (upd H1 p (.tup vs)) os' := by
  by_cases h : xs.all fu = true
  · rw [if_pos h]
    have r2 := RepE.full (Z' := Z) r.rep h
    exact ⟨os, r.ext.trans (Ext.upd hp), .tup (SqT.of upd_same) (r2.mono (Ext.upd hp) fun _ q => .inl q), r.new, r.nd⟩
  · rw [if_neg h]
    have rd := RepE.demote (Z' := fun a => Z a ∨ (H a = none ∧ H1 a ≠ none)) (fun a q => q.elim .inl fun q => .inr ⟨q.1, q.2.1⟩) r.rep fun a q => .inr ⟨r.new a q, r.rep.there a q⟩
    exact ⟨_, (ROk.tup rd hp).trans r.ext fun a q => q⟩
end
end MP

/-! MPd: the readings of the little language, and how they lie over the layer's. -/
namespace MP
open PySem PySem.Spec PyProof.Rows L2
/-! ### ends -/
def Fin {α : Type} (r : Res α) (P : α → Prop) (E : D → Prop) : Prop := match r with
  | .ok a => P a
  | .exc x => E x
  | .stuck => False
theorem Fin.bind {α β : Type} {r : Res α} {f : α → Res β} {P : β → Prop} {E : D → Prop} (h : Fin (r >>= f) P E) : Fin r (fun a => Fin (f a) P E) E := by
  cases r with
  | ok a => exact h
  | exc x => exact h
  | stuck => exact h
theorem Fin.mono {α : Type} {r : Res α} {P P' : α → Prop} {E E' : D → Prop} (h : Fin r P E) (hp : ∀ a, r = .ok a → P a → P' a) (he : ∀ x, E x → E' x) : Fin r P' E' := by
  cases r with
  | ok a => exact hp a rfl h
  | exc x => exact he x h
  | stuck => exact h
theorem Fin.of {α : Type} {o : Option α} {P : α → Prop} {E : D → Prop} (h : Fin (Res.of o) P E) : ∃ a, o = some a ∧ P a := by
  cases o with
  | none => exact h.elim
  | some a => exact ⟨a, rfl, h⟩
/-! ### exceptions -/
/-- what an exception is like in the air -/
def XRep (c : Cw) (H : Hp) (Z : Addr → Prop) (x : D) (cls : Value) (dd : Option Addr) : Prop :=
  ∃ n ks ds C, x = .exc n ks ds ∧ c.mg n = some (.ref C) ∧ cls = .ref C ∧
    ((ks = [] ∧ ds = [] ∧ dd = none) ∨ ∃ d vals, ks ≠ [] ∧ dd = some d ∧ H d = some (.xd (ks.zip vals)) ∧ vals.length = ks.length ∧ Reps c H Z 0 ds vals [])
theorem XRep.mono {c : Cw} {H : Hp} {Z Z' : Addr → Prop} {x : D} {cls : Value} {dd : Option Addr} (z : ∀ a, Z a → Z' a) (h : XRep c H Z x cls dd) : XRep c H Z' x cls dd := by
  obtain ⟨n, ks, ds, C, e, g, q, r⟩ := h
  refine ⟨n, ks, ds, C, e, g, q, ?_⟩
  rcases r with r | ⟨d, vals, r1, r2, r3, r4, r5⟩
  · exact .inl r
  · exact .inr ⟨d, vals, r1, r2, r3, r4, Reps.mono (Ext.refl H) z r5⟩
def ExcG (c : Cw) (W : WX) (σ : L2.St) (H : Hp) (Z : Addr → Prop) (x : D) : Prop :=
  ∀ cls dd H', Ext H H' → XRep c H' (fun a => Z a ∨ (H a = none ∧ H' a ≠ none)) x cls dd → W cls dd σ H'
theorem ExcG.ext {c : Cw} {W : WX} {σ : L2.St} {H H1 : Hp} {Z : Addr → Prop} {x : D} (e : Ext H H1) (h : ExcG c W σ H Z x) : ExcG c W σ H1 Z x := fun cls dd H' e' r =>
  h cls dd H' (e.trans e') (r.mono fun _ q => q.elim .inl fun q => .inr ⟨e.none q.1, q.2⟩)
/-! ### slots -/
structure EnvR (c : Cw) (H : Hp) (Z : Addr → Prop) (S : Nat → Prop) (σ : L2.St) (env : Env) : Prop where
  there : ∀ a, Z a → H a ≠ none
  len : env.length = σ.length
  at_ : ∀ i, S i → ∀ x, env[i]? = some (some x) → ∃ v, σ[i]? = some (some v) ∧ Rep c H Z 0 x.2.1 v []
section
variable {c : Cw} {W : WX} {S S' : Nat → Prop} {H H1 : Hp} {Z : Addr → Prop} {σ : L2.St} {env : Env}
theorem EnvR.ext (r : EnvR c H Z S σ env) (e : Ext H H1) : EnvR c H1 Z S σ env :=
  ⟨fun a z => e.ne (r.there a z), r.len, fun i hi x hx => let ⟨v, h1, h2⟩ := r.at_ i hi x hx; ⟨v, h1, h2.mono e fun _ q => q⟩⟩
theorem EnvR.sub (r : EnvR c H Z S σ env) (h : ∀ i, S' i → S i) : EnvR c H Z S' σ env := ⟨r.there, r.len, fun i hi => r.at_ i (h i hi)⟩
end
/-- an expression's reading -/
def bE (c : Cw) (W : WX) (S : Nat → Prop) (ev : Env → Res Ent) : TE := fun σ H Q => ∃ env Z, EnvR c H Z S σ env ∧
  Fin (ev env) (fun x => ∀ v H' os, ROk c H Z x.1 x.2 v H' os → Q v H') (ExcG c W σ H Z)
def bT (c : Cw) (W : WX) (S : Nat → Prop) (ev : Env → Res Bool) : TT := fun σ H Q => ∃ env Z, EnvR c H Z S σ env ∧
  Fin (ev env) (fun b => ∀ H', Ext H H' → Q b H') (ExcG c W σ H Z)
def bL (c : Cw) (W : WX) (S : Nat → Prop) (ev : Env → Res (List Ent)) : TA := fun σ H Q => ∃ env Z, EnvR c H Z S σ env ∧
  Fin (ev env) (fun xs => ∀ vs H' os, LOk c H Z xs vs H' os → Q vs H') (ExcG c W σ H Z)
theorem _root_.L2.PE.imp {X : Cx} {e : Expr} {t t' : TE} (h : PE X e t) (i : ∀ σ H Q, t' σ H Q → t σ H Q) : PE X e t' := ⟨fun pins s σ H Q I q => h.run pins s σ H Q I (i _ _ _ q)⟩
theorem _root_.L2.PT.imp {X : Cx} {e : Expr} {t t' : TT} (h : PT X e t) (i : ∀ σ H Q, t' σ H Q → t σ H Q) : PT X e t' := ⟨fun pins s σ H Q I q => h.run pins s σ H Q I (i _ _ _ q)⟩
theorem _root_.L2.PW.imp {X : Cx} {e : Expr} {t t' : TT} (h : PW X e t) (i : ∀ σ H Q, t' σ H Q → t σ H Q) : PW X e t' := ⟨fun wh pins s σ H Q I q => h.run wh pins s σ H Q I (i _ _ _ q)⟩
theorem _root_.L2.PA.imp {X : Cx} {e : List Expr} {t t' : TA} (h : PA X e t) (i : ∀ σ H Q, t' σ H Q → t σ H Q) : PA X e t' := ⟨fun pos pins s σ H Q I q => h.run pos pins s σ H Q I (i _ _ _ q)⟩
section
variable {c : Cw} {W : WX} {S : Nat → Prop} {σ : L2.St} {H : Hp}
/-- one expression, then more -/
theorem step {α : Type} {ea : Env → Res Ent} {f : Ent → Res α} {R : VK} {P : α → Prop} {env : Env} {Z : Addr → Prop} (er : EnvR c H Z S σ env)
    (h : Fin (ea env >>= f) P (ExcG c W σ H Z))
    (k : ∀ x v H1 os, EnvR c H1 Z S σ env → ROk c H Z x.1 x.2 v H1 os → Fin (f x) P (ExcG c W σ H1 Z) → R v H1) : bE c W S ea σ H R :=
  ⟨env, Z, er, h.bind.mono (fun x ex hx v H1 os r => k x v H1 os (er.ext r.ext) r (hx.mono (fun _ _ q => q) fun _ q => q.ext r.ext)) fun _ q => q⟩
theorem stepL {α : Type} {ea : Env → Res (List Ent)} {f : List Ent → Res α} {R : List V → Hp → Prop} {P : α → Prop} {env : Env} {Z : Addr → Prop} (er : EnvR c H Z S σ env)
    (h : Fin (ea env >>= f) P (ExcG c W σ H Z))
    (k : ∀ x v H1 os, EnvR c H1 Z S σ env → LOk c H Z x v H1 os → Fin (f x) P (ExcG c W σ H1 Z) → R v H1) : bL c W S ea σ H R :=
  ⟨env, Z, er, h.bind.mono (fun x ex hx v H1 os r => k x v H1 os (er.ext r.ext) r (hx.mono (fun _ _ q => q) fun _ q => q.ext r.ext)) fun _ q => q⟩
theorem stepT {α : Type} {ea : Env → Res Bool} {f : Bool → Res α} {R : Bool → Hp → Prop} {P : α → Prop} {env : Env} {Z : Addr → Prop} (er : EnvR c H Z S σ env)
    (h : Fin (ea env >>= f) P (ExcG c W σ H Z))
    (k : ∀ x H1, EnvR c H1 Z S σ env → Ext H H1 → Fin (f x) P (ExcG c W σ H1 Z) → R x H1) : bT c W S ea σ H R :=
  ⟨env, Z, er, h.bind.mono (fun x ex hx H1 e => k x H1 (er.ext e) e (hx.mono (fun _ _ q => q) fun _ q => q.ext e)) fun _ q => q⟩
/-- the Z behind a step -/
def Zn (Z : Addr → Prop) (H H1 : Hp) : Addr → Prop := fun a => Z a ∨ (H a = none ∧ H1 a ≠ none)
theorem Zn.there {Z : Addr → Prop} {H H1 : Hp} (z : ∀ a, Z a → H a ≠ none) (e : Ext H H1) : ∀ a, Zn Z H H1 a → H1 a ≠ none := fun a q => q.elim (fun q => e.ne (z a q)) fun q => q.2
theorem ROk.frozen {Z : Addr → Prop} {k : Nat} {d : D} {v : V} {H1 : Hp} {os : List Addr} (r : ROk c H Z k d v H1 os) : Rep c H1 (Zn Z H H1) 0 d v [] :=
  r.rep.demote (fun a q => q.elim .inl fun q => .inr ⟨q.1, q.2.1⟩) fun a q => .inr ⟨r.new a q, r.rep.there a q⟩
theorem LOk.frozen {Z : Addr → Prop} {xs : List Ent} {vs : List V} {H1 : Hp} {os : List Addr} (r : LOk c H Z xs vs H1 os) : Reps c H1 (Zn Z H H1) 0 (xs.map (·.2)) vs [] :=
  r.rep.demote (fun a q => q.elim .inl fun q => .inr ⟨q.1, q.2.1⟩) fun a q => .inr ⟨r.new a q, r.rep.there a q⟩
/-- two values and a rule on them -/
def Pr2 (c : Cw) (r : R2) (f : D → D → Option Ent) : Prop := ∀ (H : Hp) (Z : Addr → Prop) (v w : V) (d e : D) (x : Ent) (Q : VK), (∀ a, Z a → H a ≠ none) →
  Rep c H Z 0 d v [] → Rep c H Z 0 e w [] → f d e = some x → (∀ u H' os, ROk c H Z x.1 x.2 u H' os → Q u H') → r v w H Q
def Pr1 (c : Cw) (r : V → Hp → VK → Prop) (f : D → Option Ent) : Prop := ∀ (H : Hp) (Z : Addr → Prop) (v : V) (d : D) (x : Ent) (Q : VK), (∀ a, Z a → H a ≠ none) →
  Rep c H Z 0 d v [] → f d = some x → (∀ u H' os, ROk c H Z x.1 x.2 u H' os → Q u H') → r v H Q
def PrN (c : Cw) (r : List V → Hp → VK → Prop) (f : List D → Option Ent) : Prop := ∀ (H : Hp) (Z : Addr → Prop) (vs : List V) (ds : List D) (x : Ent) (Q : VK), (∀ a, Z a → H a ≠ none) →
  Reps c H Z 0 ds vs [] → f ds = some x → (∀ u H' os, ROk c H Z x.1 x.2 u H' os → Q u H') → r vs H Q
theorem red1 {ea : Env → Res Ent} {f : D → Option Ent} {r : V → Hp → VK → Prop} {Q : VK} (pr : Pr1 c r f) (h : bE c W S (fun env => ea env >>= fun x => Res.of (f x.2)) σ H Q) :
    bE c W S ea σ H (fun v H1 => r v H1 Q) := by
  obtain ⟨env, Z, er, h⟩ := h
  refine step er h fun x v H1 os er1 rx hf => ?_
  obtain ⟨y, ey, q⟩ := hf.of
  exact pr H1 (Zn Z H H1) v x.2 y Q (Zn.there er.there rx.ext) rx.frozen ey fun u H' os' ru => q u H' os' (ru.trans rx.ext fun a z => z)
theorem Zn.trans {Z : Addr → Prop} {H1 H2 : Hp} (e : Ext H H1) (e2 : Ext H1 H2) : ∀ a, Zn Z H1 H2 a → Zn Z H H2 a := fun a q => q.elim .inl fun q => .inr ⟨e.none q.1, q.2⟩
theorem Zn.up {Z : Addr → Prop} {H1 H2 : Hp} (e2 : Ext H1 H2) : ∀ a, Zn Z H H1 a → Zn Z H H2 a := fun a q => q.elim .inl fun q => .inr ⟨q.1, e2.ne q.2⟩
theorem red2 {ea eb : Env → Res Ent} {f : D → D → Option Ent} {r : R2} {Q : VK} (pr : Pr2 c r f) (h : bE c W S (fun env => ea env >>= fun x => eb env >>= fun y => Res.of (f x.2 y.2)) σ H Q) :
    bE c W S ea σ H (fun v H1 => bE c W S eb σ H1 fun w H2 => r v w H2 Q) := by
  obtain ⟨env, Z, er, h⟩ := h
  refine step er h fun x v H1 os er1 rx hf => ?_
  refine step er1 hf fun y w H2 os2 er2 ry hf => ?_
  obtain ⟨z, ez, q⟩ := hf.of
  exact pr H2 (Zn Z H H2) v w x.2 y.2 z Q (Zn.there er.there (rx.ext.trans ry.ext)) (rx.frozen.mono ry.ext (Zn.up ry.ext)) (ry.frozen.mono (Ext.refl _) (Zn.trans rx.ext ry.ext)) ez
    fun u H' os' ru => q u H' os' (ru.trans (rx.ext.trans ry.ext) fun a z => z)
theorem redN {ea : Env → Res (List Ent)} {f : List D → Option Ent} {r : List V → Hp → VK → Prop} {Q : VK} (pr : PrN c r f) (h : bE c W S (fun env => ea env >>= fun x => Res.of (f (x.map (·.2)))) σ H Q) :
    bL c W S ea σ H (fun v H1 => r v H1 Q) := by
  obtain ⟨env, Z, er, h⟩ := h
  refine stepL er h fun x v H1 os er1 rx hf => ?_
  obtain ⟨y, ey, q⟩ := hf.of
  exact pr H1 (Zn Z H H1) v (x.map (·.2)) y Q (Zn.there er.there rx.ext) rx.frozen ey fun u H' os' ru => q u H' os' (ru.trans rx.ext fun a z => z)
end
/-! ### the forms of expressions -/
section
variable {X : Cx} {c : Cw} {W : WX} {S : Nat → Prop} {a b e : Expr} {es : List Expr} {ea eb ec : Env → Res Ent} {el : Env → Res (List Ent)} {pos : Pos}
theorem be_bin {op : Operator} {r : R2} {f : D → D → Option Ent} (ho : OpR X (binaryOp op) r) (pr : Pr2 c r f) (ha : PE X a (bE c W S ea)) (hb : PE X b (bE c W S eb)) :
    PE X (.BinOp a op b pos) (bE c W S fun env => ea env >>= fun x => eb env >>= fun y => Res.of (f x.2 y.2)) := (pe_op ho ha hb).imp fun σ H Q h => red2 pr h
theorem be_cmp {op : CmpOp} {r : R2} {f : D → D → Option Ent} (ho : OpR X (compareOp op) r) (pr : Pr2 c r f) (ha : PE X a (bE c W S ea)) (hb : PE X b (bE c W S eb)) (hm : behindInMarks op b = false) :
    PE X (.Compare a [op] [b] pos) (bE c W S fun env => ea env >>= fun x => eb env >>= fun y => Res.of (f x.2 y.2)) := (pe_cmpR ho ha hb hm).imp fun σ H Q h => red2 pr h
theorem be_const {v : V} {d : D} {k : Nat} (h : PE X e (tC v)) (r : ∀ H Z, Rep c H Z k d v []) : PE X e (bE c W S fun _ => .ok (k, d)) := h.imp fun σ H Q h => by
  obtain ⟨env, Z, er, h⟩ := h
  exact h v H [] (ROk.old (r H Z))
theorem be_var {i : Nat} {x : Str} (hN : X.N[i]? = some x) (hv : Vis X.env.scope x) (hd : (x == ("__debug__" : Str)) = false) (hcd : (x == ("__classdict__" : Str)) = false) (hS : S i) :
    PE X (.Name x pos) (bE c W S fun env => match env[i]? with | some (some x) => .ok (0, x.2.1) | _ => .stuck) := (pe_var hN hv hd hcd).imp fun σ H Q h => by
  obtain ⟨env, Z, er, h⟩ := h
  dsimp only at h
  cases e : env[i]? with
  | none => rw [e] at h; exact h.elim
  | some o =>
    cases o with
    | none => rw [e] at h; exact h.elim
    | some x =>
      rw [e] at h
      obtain ⟨v, h1, h2⟩ := er.at_ i hS x e
      exact ⟨v, h1, h v H [] (ROk.old h2)⟩
theorem ba_nil : PA X [] (bL c W S fun _ => .ok []) := pa_nil.imp fun σ H Q h => by
  obtain ⟨env, Z, er, h⟩ := h
  exact h [] H [] LOk.nil
theorem ba_cons (ha : PE X a (bE c W S ea)) (hs : PA X es (bL c W S el)) (hst : starEach (a :: es) X.env = (false, eval a X.env) :: starEach es X.env) :
    PA X (a :: es) (bL c W S fun env => ea env >>= fun x => el env >>= fun xs => .ok (x :: xs)) := (pa_cons ha hs hst).imp fun σ H Q h => by
  obtain ⟨env, Z, er, h⟩ := h
  refine step er h fun x v H1 os er1 rx hf => ?_
  refine stepL er1 hf fun xs vs H2 os2 er2 rs hf => ?_
  exact hf _ H2 _ (LOk.cons rx rs)
theorem be_tup {k : Nat} (hs : PA X es (bL c W S el)) : PE X (.Tuple es k pos) (bE c W S fun env => el env >>= fun xs => Res.of (tupO xs)) := (pe_tup hs).imp fun σ H Q h => by
  obtain ⟨env, Z, er, h⟩ := h
  refine stepL er h fun xs vs H1 os er1 rx hf => ?_
  obtain ⟨y, ey, q⟩ := hf.of
  unfold tupO at ey
  by_cases hz : szOk xs.length = true
  · rw [if_pos hz] at ey
    have hz' : xs.length ≤ sizeLine := by simpa [szOk] using hz
    refine ⟨by rw [← rx.rep.length]; exact hz', fun p hp => ?_⟩
    obtain ⟨os', r⟩ := ROk.tupD rx hp
    cases ey
    exact q _ _ _ r
  · rw [if_neg hz] at ey; cases ey
theorem be_lst (hs : PA X es (bL c W S el)) : PE X (.List es pos) (bE c W S fun env => el env >>= fun xs => Res.of (lstO xs)) := (pe_lst hs).imp fun σ H Q h => by
  obtain ⟨env, Z, er, h⟩ := h
  refine stepL er h fun xs vs H1 os er1 rx hf => ?_
  obtain ⟨y, ey, q⟩ := hf.of
  unfold lstO at ey
  by_cases hz : szOk xs.length = true
  · rw [if_pos hz] at ey
    have hz' : xs.length ≤ sizeLine := by simpa [szOk] using hz
    refine ⟨by rw [← rx.rep.length]; exact hz', fun p hp => ?_⟩
    obtain ⟨os', r⟩ := ROk.lstD rx hp
    cases ey
    exact q _ _ _ r
  · rw [if_neg hz] at ey; cases ey
end
end MP

/-! MPe: the operators. -/
namespace MP
open PySem PySem.Spec PyProof.Rows L2
section
variable {c : Cw} {H : Hp} {Z : Addr → Prop} {v w : V} {os : List Addr}
theorem Rep.int_ {k i} (r : Rep c H Z k (.int i) v os) : v = .int i := by cases r; rfl
theorem Rep.str_ {k i} (r : Rep c H Z k (.str i) v os) : v = .str i := by cases r; rfl
theorem Rep.bl_ {k i} (r : Rep c H Z k (.bl i) v os) : v = .bl i := by cases r; rfl
theorem Rep.non_ {k} (r : Rep c H Z k .non v os) : v = .non := by cases r; rfl
theorem Rep.tup_ {k ds} (r : Rep c H Z k (.tup ds) v os) : ∃ a vs, v = .ref a ∧ SqT c.K H a vs ∧ Reps c H Z k ds vs os := by
  cases r with
  | tup e rs => exact ⟨_, _, rfl, e, rs⟩
theorem Rep.lst_ {ds} (r : Rep c H Z 0 (.lst ds) v os) : ∃ a vs, v = .ref a ∧ H a = some (.lst vs) ∧ Reps c H Z 0 ds vs [] := by
  cases r with
  | lstF e _ rs => exact ⟨_, _, rfl, e, rs⟩
theorem Rep.scr_ {k ds} (r : Rep c H Z k (.scr ds) v os) : ∃ a vs, v = .ref a ∧ SqL c.K H a vs ∧ Reps c H Z 0 ds vs [] := by
  cases r with
  | scr e rs => exact ⟨_, _, rfl, e.sq, rs⟩
theorem Rep.dct_ {ks vs} (r : Rep c H Z 0 (.dct ks vs) v os) : ∃ a kvs, v = .ref a ∧ Rd H a (.dK kvs) ∧ ks = kvs.map (fun p => kD p.1) ∧ Reps c H Z 0 vs (kvs.map (·.2)) [] := by
  cases r with
  | dctF e _ e1 e2 rs => exact ⟨_, _, rfl, .inl e, e1, e2 ▸ rs⟩
  | dctZ e e1 e2 rs => exact ⟨_, _, rfl, .inr ⟨_, e⟩, e1, e2 ▸ rs⟩
theorem Reps.append {ds es vs ws os os' k} (a : Reps c H Z k ds vs os) (b : Reps c H Z k es ws os') : Reps c H Z k (ds ++ es) (vs ++ ws) (os ++ os') := by
  induction ds generalizing vs os with
  | nil => cases a; exact b
  | cons d ds ih =>
    cases a with
    | cons r rs =>
      rw [List.append_assoc]
      exact .cons r (ih rs)
theorem Reps.drop : ∀ (n : Nat) {ds vs}, Reps c H Z 0 ds vs [] → Reps c H Z 0 (ds.drop n) (vs.drop n) []
  | 0, _, _, r => r
  | n + 1, [], _, r => by cases r; exact .nil
  | n + 1, d :: ds, vs, r => by
    generalize ho : ([] : List Addr) = o at r
    cases r with
    | @cons _ _ _ v vs os os' r rs =>
      have h2 := List.append_eq_nil_iff.mp ho.symm
      have e1 := h2.1
      have e2 := h2.2
      subst e1
      subst e2
      exact Reps.drop n rs
theorem Reps.take : ∀ (n : Nat) {ds vs}, Reps c H Z 0 ds vs [] → Reps c H Z 0 (ds.take n) (vs.take n) []
  | 0, _, _, _ => .nil
  | n + 1, [], _, r => by cases r; exact .nil
  | n + 1, d :: ds, vs, r => by
    generalize ho : ([] : List Addr) = o at r
    cases r with
    | @cons _ _ _ v vs os os' r rs =>
      have h2 := List.append_eq_nil_iff.mp ho.symm
      have e1 := h2.1
      have e2 := h2.2
      subst e1
      subst e2
      exact .cons r (Reps.take n rs)
theorem Reps.get : ∀ {ds vs} {i : Nat} {d : D}, Reps c H Z 0 ds vs [] → ds[i]? = some d → ∃ v, vs[i]? = some v ∧ Rep c H Z 0 d v []
  | [], _, i, d, r, h => by simp at h
  | d0 :: ds, vs, i, d, r, h => by
    generalize ho : ([] : List Addr) = o at r
    cases r with
    | @cons _ _ _ v vs os os' r rs =>
      have h2 := List.append_eq_nil_iff.mp ho.symm
      have e1 := h2.1
      have e2 := h2.2
      subst e1
      subst e2
      cases i with
      | zero =>
        cases h
        exact ⟨v, rfl, r⟩
      | succ i => exact Reps.get (i := i) rs (by simpa using h)
theorem Reps.rep {ds vs} (n : Nat) (r : Reps c H Z 0 ds vs []) : Reps c H Z 0 (List.replicate n ds).flatten (List.replicate n vs).flatten [] := by
  induction n with
  | zero => exact .nil
  | succ n ih =>
    rw [List.replicate_succ, List.replicate_succ, List.flatten_cons, List.flatten_cons]
    exact Reps.append r ih
theorem Reps.cons0 {d ds v vs} (r : Rep c H Z 0 d v []) (rs : Reps c H Z 0 ds vs []) : Reps c H Z 0 (d :: ds) (v :: vs) [] := Reps.cons r rs
end
section
variable {X : Cx} {c : Cw}
theorem szOk_le {n : Nat} (h : szOk n = true) : n ≤ sizeLine := by simpa [szOk] using h
theorem newL_of {ds : List D} {x : Ent} (h : newL ds = some x) : ds.length ≤ sizeLine ∧ x = (1, .lst ds) := by
  unfold newL at h
  by_cases q : szOk ds.length = true
  · rw [if_pos q] at h; cases h; exact ⟨szOk_le q, rfl⟩
  · rw [if_neg q] at h; cases h
theorem newT_of {ds : List D} {x : Ent} (h : newT ds = some x) : ds.length ≤ sizeLine ∧ x = (0, .tup ds) := by
  unfold newT at h
  by_cases q : szOk ds.length = true
  · rw [if_pos q] at h; cases h; exact ⟨szOk_le q, rfl⟩
  · rw [if_neg q] at h; cases h
theorem ite_of {p : Prop} [Decidable p] {α : Type} {a b : α} (h : (if p then some a else none) = some b) : p ∧ b = a := by
  by_cases q : p
  · rw [if_pos q] at h; cases h; exact ⟨q, rfl⟩
  · rw [if_neg q] at h; cases h
theorem itb_of {p : Bool} {α : Type} {a b : α} (h : (if p then some a else none) = some b) : p = true ∧ b = a := ite_of h
/-- the answer is an atom -/
theorem fin0 {H : Hp} {Z : Addr → Prop} {x : Ent} {Q : VK} {u : V} (h : ∀ u H' os, ROk c H Z x.1 x.2 u H' os → Q u H') (r : Rep c H Z x.1 x.2 u []) : Q u H := h u H [] (ROk.old r)
/-! ### + -/
def rAddA (K : PySem.W.Frag) : R2 := fun x y H Q => (rI0 (fun i j => .int (i + j)) x y H Q ∨ (∃ i j, x = .str i ∧ y = .str j ∧ i.length + j.length ≤ sizeLine ∧ Q (.str (i ++ j)) H)) ∨ (rCat x y H Q ∨ rCatA K x y H Q)
theorem op_addA : OpR X (binaryOp .Add) (rAddA X.K) := (op_add.or op_add_str).or (op_cat.or op_catA)
theorem pr_add : Pr2 c (rAddA c.K) addD := by
  intro H Z v w d e x Q zt rv rw' hf hq
  unfold addD at hf
  split at hf <;> first | (cases hf; done) | skip
  · rename_i i j
    cases hf
    cases rv.int_
    cases rw'.int_
    exact .inl (.inl ⟨_, _, rfl, rfl, fin0 hq .int⟩)
  · rename_i i j
    obtain ⟨hz, e⟩ := itb_of hf
    subst e
    cases rv.str_
    cases rw'.str_
    exact .inl (.inr ⟨_, _, rfl, rfl, szOk_le hz, fin0 hq .str⟩)
  · rename_i as bs
    obtain ⟨hz, e⟩ := newL_of hf
    subst e
    obtain ⟨a, vs, rfl, h1, r1⟩ := rv.lst_
    obtain ⟨b, ws, rfl, h2, r2⟩ := rw'.lst_
    have r3 := r1.append r2
    exact .inr (.inl ⟨a, b, vs, ws, rfl, rfl, h1, h2, by rw [← r1.length, ← r2.length, ← List.length_append]; exact hz, fun p hp => hq _ _ _ (ROk.lst r3 hp)⟩)
  · rename_i as bs
    obtain ⟨hz, e⟩ := newT_of hf
    subst e
    obtain ⟨a, vs, rfl, h1, r1⟩ := rv.tup_
    obtain ⟨b, ws, rfl, h2, r2⟩ := rw'.tup_
    have r3 := r1.append r2
    refine .inr (.inr ⟨a, b, vs, ws, rfl, rfl, h1, h2, by rw [← r1.length, ← r2.length, ← List.length_append]; exact hz, fun e => ?_, fun _ e => ?_, fun _ _ p hp => hq _ _ _ (ROk.tup r3 hp)⟩)
    · subst e
      exact hq _ _ _ (ROk.old (.tup h2 (by simpa using r3)))
    · subst e
      exact hq _ _ _ (ROk.old (.tup h1 (by simpa using r3)))
/-! ### - -/
theorem pr_sub : Pr2 c (rI0 fun i j => .int (i - j)) subD := by
  intro H Z v w d e x Q zt rv rw' hf hq
  unfold subD at hf
  split at hf <;> first | (cases hf; done) | skip
  rename_i i j
  cases hf
  cases rv.int_
  cases rw'.int_
  exact ⟨_, _, rfl, rfl, fin0 hq .int⟩
theorem pr_mod : Pr2 c (rI (fun _ j => 0 < j) fun i j => .int (i % j)) modD := by
  intro H Z v w d e x Q zt rv rw' hf hq
  unfold modD at hf
  split at hf <;> first | (cases hf; done) | skip
  rename_i i j
  obtain ⟨hz, e⟩ := ite_of hf
  subst e
  cases rv.int_
  cases rw'.int_
  exact ⟨_, _, rfl, rfl, hz, fin0 hq .int⟩
theorem pr_fdiv : Pr2 c (rI CDivW fun i j => .int (i / j)) fdivD := by
  intro H Z v w d e x Q zt rv rw' hf hq
  unfold fdivD at hf
  split at hf <;> first | (cases hf; done) | skip
  rename_i i j
  obtain ⟨hz, e⟩ := ite_of hf
  subst e
  cases rv.int_
  cases rw'.int_
  exact ⟨_, _, rfl, rfl, hz, fin0 hq .int⟩
theorem pr_pow : Pr2 c (rI CPow fun i j => .int (i ^ j.toNat)) powD := by
  intro H Z v w d e x Q zt rv rw' hf hq
  unfold powD at hf
  split at hf <;> first | (cases hf; done) | skip
  rename_i i j
  obtain ⟨hz, e⟩ := ite_of hf
  subst e
  cases rv.int_
  cases rw'.int_
  exact ⟨_, _, rfl, rfl, hz, fin0 hq .int⟩
end
end MP

/-! MPf: more operators: times, ==, in, items, slices. -/
namespace L2
open PySem PySem.Spec PyProof.Rows
theorem tuple_mul1 (l : Addr) (items : Array Value) (n : Nat) (dd : Option Addr) (sl : Array (Option Value)) (u : Tok) :
    Meets (Builtin.«tuple.__mul__» ⟨[.ref l, .int 1 u], []⟩) (fun _ R s => s.heap.get? l = some { cls := .type "tuple", dict := dd, data := .seq items n, slots := sl } ∧
      R (.ok (.ret (Value.ref l))) s) :=
  .of_wp fun prog w A R s h => by
    obtain ⟨hp, g, d, tk, os⟩ := s
    obtain ⟨hl, h⟩ := h
    have f1 := AutoSeq1.idx_int
    have c0 : (decide ((1 : Int) < -(2 ^ 63)) || decide ((1 : Int) ≥ 2 ^ 63)) = false := by decide
    have c1 : (items.isEmpty || (1 : Int) == 1) = true := by simp
    wp_walk using wpAny_loadPart' hl
    repeat (first
      | (refine wpAny_ite_false (decide_eq_false (by rw [c0]; exact Bool.false_ne_true)) ?_; wp_walk using wpAny_loadPart' hl)
      | (refine wpAny_ite_true (decide_eq_true c1) ?_; wp_walk using wpAny_loadPart' hl))
    exact ⟨_, rfl, h⟩
section
variable {X : Cx}
def rRepT1 (K : PySem.W.Frag) : R2 := fun x y H Q => ∃ l xs, x = .ref l ∧ y = .int 1 ∧ SqT K H l xs ∧ Q (.ref l) H
theorem op_repT1 : OpR X (binaryOp .Mult) (rRepT1 X.K) := by
  intro pins s σ H x y v u Q I rx ry h
  obtain ⟨l, xs, rfl, rfl, hT, q⟩ := h
  cases rx
  obtain ⟨t, rfl⟩ := ry
  obtain ⟨its, r, ⟨⟨cls, dd, data, sl⟩, ho, hc, n, hd⟩, hs⟩ := I.tuple hT
  simp only at hc hd
  subst hc hd
  refine wpAny_binaryOp_repeat_ref (T := "tuple") (U := "int") (by decide) ⟨_, ho, rfl⟩ (fun s' => typeIs_int s' 1 t) noFill_tuple_mul F.fills_int_mul F.slot_int_rmul repeat_tuple F.slot_int_index.lookup
    (call_meets F.slot_int_rmul (typeIs_int s 1 t) F.entry_int_rmul (F.args_int_rmul_2 _ _) (int_rmul_tuple 1 t l its.toArray n dd sl)
      ⟨ho, rfl, ⟨_, ho, rfl⟩, call_meets F.slot_tuple_mul ⟨_, ho, rfl⟩ F.entry_tuple_mul (F.args_tuple_mul_2 _ _) (tuple_mul1 l its.toArray n dd sl t) ⟨ho, ?_⟩⟩)
  exact ⟨.ref l, H, I, rfl, q⟩
end
end L2
namespace MP
open PySem PySem.Spec PyProof.Rows L2
section
variable {X : Cx} {c : Cw}
def rMulA (K : PySem.W.Frag) : R2 := fun x y H Q => (rI CMul (fun i j => .int (i * j)) x y H Q ∨ rRep x y H Q) ∨ (rRepT K x y H Q ∨ rRepT1 K x y H Q)
theorem op_mulA : OpR X (binaryOp .Mult) (rMulA X.K) := (op_mul.or op_rep).or (op_repT.or op_repT1)
theorem pr_mul : Pr2 c (rMulA c.K) mulD := by
  intro H Z v w d e x Q zt rv rw' hf hq
  unfold mulD at hf
  split at hf <;> first | (cases hf; done) | skip
  · rename_i i j
    obtain ⟨hz, e⟩ := ite_of hf
    subst e
    cases rv.int_
    cases rw'.int_
    exact .inl (.inl ⟨_, _, rfl, rfl, hz, fin0 hq .int⟩)
  · rename_i as k
    obtain ⟨hz, e⟩ := ite_of hf
    subst e
    obtain ⟨a, vs, rfl, h1, r1⟩ := rv.lst_
    cases rw'.int_
    exact .inl (.inr ⟨a, k, vs, rfl, rfl, h1, hz.1, hz.2.1, by rw [← r1.length]; exact hz.2.2, fun p hp => hq _ _ _ (ROk.lst (r1.rep k.toNat) hp)⟩)
  · rename_i as k
    obtain ⟨hz, e⟩ := ite_of hf
    subst e
    obtain ⟨a, vs, rfl, h1, r1⟩ := rv.tup_
    cases rw'.int_
    by_cases hk : k = 1
    · subst hk
      refine .inr (.inr ⟨a, vs, rfl, rfl, h1, ?_⟩)
      have e : (List.replicate (1 : Int).toNat as).flatten = as := by simp
      refine hq _ _ _ (ROk.old ?_)
      show Rep c H Z 0 (.tup (List.replicate (1 : Int).toNat as).flatten) _ _
      rw [e]
      exact .tup h1 r1
    · refine .inr (.inl ⟨a, k, vs, rfl, rfl, h1, fun e => hz.1 ?_, by omega, hz.2.2.1, by rw [← r1.length]; exact hz.2.2.2, fun p hp => hq _ _ _ (ROk.tup (r1.rep k.toNat) hp)⟩)
      have := r1.length
      rw [e] at this
      exact List.eq_nil_of_length_eq_zero this
/-! ### == -/
mutual
def toP : D → PyData
  | .non => .none
  | .bl b => .bool b
  | .int i => .int i
  | .str s => .str s
  | .tup ds => .tuple (toPs ds)
  | .lst ds => .list (toPs ds)
  | _ => .none
def toPs : List D → List PyData
  | [] => []
  | d :: ds => toP d :: toPs ds
end
mutual
theorem okd_lay : ∀ {n : Nat} {d : D}, okd n d = true → (toP d).canLay0 = true ∧ (toP d).depth ≤ n
  | _, .non, _ => by simp [toP, PyData.canLay0, PyData.depth]
  | _, .bl _, _ => by simp [toP, PyData.canLay0, PyData.depth]
  | _, .int _, _ => by simp [toP, PyData.canLay0, PyData.depth]
  | _, .str _, h => by simpa [okd, toP, PyData.canLay0, PyData.depth] using h
  | n + 1, .tup ds, h => by
    have := okds_lay (n := n) (ds := ds) (by simpa [okd] using h)
    simp only [toP, PyData.canLay0, PyData.depth]
    exact ⟨this.1, by omega⟩
  | n + 1, .lst ds, h => by
    have := okds_lay (n := n) (ds := ds) (by simpa [okd] using h)
    simp only [toP, PyData.canLay0, PyData.depth]
    exact ⟨this.1, by omega⟩
  | 0, .tup ds, h => by simp [okd] at h
  | 0, .lst ds, h => by simp [okd] at h
  | _, .dct _ _, h => by simp [okd] at h
  | _, .scr _, h => by simp [okd] at h
  | _, .exc _ _ _, h => by simp [okd] at h
theorem okds_lay : ∀ {n : Nat} {ds : List D}, okds n ds = true → PyData.canLayAll0 (toPs ds) = true ∧ PyData.depthAll (toPs ds) ≤ n
  | _, [], _ => by simp [toPs, PyData.canLayAll0, PyData.depthAll]
  | n, d :: ds, h => by
    simp only [okds, Bool.and_eq_true] at h
    have h1 := okd_lay h.1
    have h2 := okds_lay h.2
    simp only [toPs, PyData.canLayAll0, PyData.depthAll, Bool.and_eq_true]
    exact ⟨⟨h1.1, h2.1⟩, by omega⟩
end
theorem okd_shaped {d : D} (h : okd 60 d = true) : SeqAt.shaped (toP d) = true := by
  have := okd_lay h
  unfold SeqAt.shaped
  simp only [Bool.and_eq_true, decide_eq_true_eq]
  exact ⟨this.1, by omega⟩
mutual
theorem eqd_eqv : ∀ {n m : Nat} {a b : D}, okd n a = true → okd m b = true → eqd a b = PyData.eqv (toP a) (toP b)
  | _, _, .non, b, _, hb => by cases b <;> simp [eqd, toP, PyData.eqv] <;> simp_all [okd]
  | _, _, .bl _, b, _, hb => by cases b <;> simp [eqd, toP, PyData.eqv] <;> simp_all [okd]
  | _, _, .int _, b, _, hb => by cases b <;> simp [eqd, toP, PyData.eqv] <;> simp_all [okd]
  | _, _, .str _, b, _, hb => by cases b <;> simp [eqd, toP, PyData.eqv] <;> simp_all [okd]
  | n + 1, m, .tup ds, b, ha, hb => by
    cases b with
    | tup es =>
      cases m with
      | zero => simp [okd] at hb
      | succ m =>
        simp only [eqd, toP, PyData.eqv]
        exact eqds_eqv (n := n) (m := m) (by simpa [okd] using ha) (by simpa [okd] using hb)
    | _ => simp [eqd, toP, PyData.eqv] <;> simp_all [okd]
  | n + 1, m, .lst ds, b, ha, hb => by
    cases b with
    | lst es =>
      cases m with
      | zero => simp [okd] at hb
      | succ m =>
        simp only [eqd, toP, PyData.eqv]
        exact eqds_eqv (n := n) (m := m) (by simpa [okd] using ha) (by simpa [okd] using hb)
    | _ => simp [eqd, toP, PyData.eqv] <;> simp_all [okd]
  | 0, _, .tup ds, _, h, _ => by simp [okd] at h
  | 0, _, .lst ds, _, h, _ => by simp [okd] at h
  | _, _, .dct _ _, _, h, _ => by simp [okd] at h
  | _, _, .scr _, _, h, _ => by simp [okd] at h
  | _, _, .exc _ _ _, _, h, _ => by simp [okd] at h
theorem eqds_eqv : ∀ {n m : Nat} {as bs : List D}, okds n as = true → okds m bs = true → eqds as bs = PyData.eqvAll (toPs as) (toPs bs)
  | _, _, [], [], _, _ => by simp [eqds, toPs, PyData.eqvAll]
  | _, _, [], _ :: _, _, _ => by simp [eqds, toPs, PyData.eqvAll]
  | _, _, _ :: _, [], _, _ => by simp [eqds, toPs, PyData.eqvAll]
  | n, m, a :: as, b :: bs, ha, hb => by
    simp only [okds, Bool.and_eq_true] at ha hb
    simp only [eqds, toPs, PyData.eqvAll]
    rw [eqd_eqv ha.1 hb.1, eqds_eqv ha.2 hb.2]
end
mutual
theorem Rep.dp {H : Hp} {Z : Addr → Prop} : ∀ {n k d v os}, okd n d = true → Rep c H Z k d v os → Dp c.K H v (toP d)
  | _, _, _, _, _, _, .non => by simp only [toP]; exact .non
  | _, _, _, _, _, _, .bl => by simp only [toP]; exact .bl _
  | _, _, _, _, _, _, .int => by simp only [toP]; exact .int _
  | _, _, _, _, _, _, .str => by simp only [toP]; exact .str _
  | 0, _, _, _, _, h, .tup _ _ => by simp [okd] at h
  | n + 1, _, _, _, _, h, .tup e r => by
    simp only [toP]
    exact .tup e (Reps.dp (n := n) (by simpa [okd] using h) r)
  | _, _, _, _, _, h, .scr _ _ => by simp [okd] at h
  | _, _, _, _, _, h, .exc0 _ _ => by simp [okd] at h
  | _, _, _, _, _, h, .dctF _ _ _ _ _ => by simp [okd] at h
  | _, _, _, _, _, h, .dctZ _ _ _ _ => by simp [okd] at h
  | _, _, _, _, _, h, .dctO _ _ _ _ => by simp [okd] at h
  | _, _, _, _, _, h, .exc1 _ _ _ _ _ _ => by simp [okd] at h
  | 0, _, _, _, _, h, .lstF _ _ _ => by simp [okd] at h
  | n + 1, _, _, _, _, h, .lstF e _ r => by
    simp only [toP]
    exact .lst (SqL.of e) (Reps.dp (n := n) (by simpa [okd] using h) r)
  | 0, _, _, _, _, h, .lstO _ _ => by simp [okd] at h
  | n + 1, _, _, _, _, h, .lstO e r => by
    simp only [toP]
    exact .lst (SqL.of e) (Reps.dp (n := n) (by simpa [okd] using h) r)
theorem Reps.dp {H : Hp} {Z : Addr → Prop} : ∀ {n k ds vs os}, okds n ds = true → Reps c H Z k ds vs os → DpAll c.K H vs (toPs ds)
  | _, _, _, _, _, _, .nil => by simp only [toPs]; exact .nil
  | n, _, _, _, _, h, .cons r rs => by
    simp only [okds, Bool.and_eq_true] at h
    simp only [toPs]
    exact .cons (r.dp h.1) (Reps.dp h.2 rs)
end
theorem bl?_of {o : Option Bool} {x : Ent} (h : bl? o = some x) : ∃ b, o = some b ∧ x = (0, .bl b) := by
  cases o with
  | none => cases h
  | some b => cases h; exact ⟨b, rfl, rfl⟩
theorem eqD_of {a b : D} {c : Bool} (h : eqD a b = some c) : okd 60 a = true ∧ okd 60 b = true ∧ c = eqd a b := by
  unfold eqD at h
  obtain ⟨h1, h2⟩ := itb_of h
  rw [Bool.and_eq_true] at h1
  exact ⟨h1.1, h1.2, h2⟩
theorem pr_eq : Pr2 c (rEqD c.K) (cmpD .eq) := by
  intro H Z v w d e x Q zt rv rw' hf hq
  obtain ⟨b, hb, rfl⟩ := bl?_of (show bl? (eqD d e) = some x from hf)
  obtain ⟨h1, h2, rfl⟩ := eqD_of hb
  rw [eqd_eqv h1 h2] at hq
  exact ⟨toP d, toP e, rv.dp h1, rw'.dp h2, okd_shaped h1, okd_shaped h2, fin0 hq .bl⟩
theorem pr_ne : Pr2 c (rNeD c.K) (cmpD .ne) := by
  intro H Z v w d e x Q zt rv rw' hf hq
  obtain ⟨b, hb, rfl⟩ := bl?_of (show bl? ((eqD d e).map not) = some x from hf)
  obtain ⟨c, hc, rfl⟩ := Option.map_eq_some_iff.mp hb
  obtain ⟨h1, h2, rfl⟩ := eqD_of hc
  rw [eqd_eqv h1 h2] at hq
  exact ⟨toP d, toP e, rv.dp h1, rw'.dp h2, okd_shaped h1, okd_shaped h2, fin0 hq .bl⟩
theorem pr_cmpI {f : Int → Int → Bool} : Pr2 c (rI0 fun i j => .bl (f i j)) (cmpI f) := by
  intro H Z v w d e x Q zt rv rw' hf hq
  unfold cmpI at hf
  split at hf <;> first | (cases hf; done) | skip
  cases hf
  cases rv.int_
  cases rw'.int_
  exact ⟨_, _, rfl, rfl, fin0 hq .bl⟩
/-! ### is -/
def rIsA (neg : Bool) : R2 := fun x y H Q => (y = .non ∧ Q (.bl (if neg then !decide (x = .non) else decide (x = .non))) H) ∨ ∃ a b, x = .bl a ∧ y = .bl b ∧ Q (.bl (if neg then !decide (a = b) else decide (a = b))) H
theorem op_isA : OpR X (compareOp .Is) (rIsA false) := op_isN.or op_is_bl
theorem op_isntA : OpR X (compareOp .IsNot) (rIsA true) := op_notN.or op_isnot_bl
theorem isD_of {H : Hp} {Z : Addr → Prop} {d e : D} {v w : V} {b : Bool} (rv : Rep c H Z 0 d v []) (rw' : Rep c H Z 0 e w []) (h : isD d e = some b) : (w = .non ∧ b = decide (v = .non)) ∨ ∃ a c, v = .bl a ∧ w = .bl c ∧ b = decide (a = c) := by
  unfold isD at h
  split at h <;> first | (cases h; done) | skip
  · cases h
    cases rv.bl_
    cases rw'.bl_
    exact .inr ⟨_, _, rfl, rfl, by rw [Bool.beq_eq_decide_eq]⟩
  · cases h
    cases rw'.non_
    refine .inl ⟨rfl, ?_⟩
    cases rv <;> rfl
theorem pr_isn : Pr2 c (rIsA false) (cmpD .isn) := by
  intro H Z v w d e x Q zt rv rw' hf hq
  obtain ⟨b, hb, rfl⟩ := bl?_of (show bl? (isD d e) = some x from hf)
  rcases isD_of rv rw' hb with ⟨h1, h2⟩ | ⟨a, c, h1, h2, h3⟩
  · subst h1 h2
    exact .inl ⟨rfl, fin0 hq .bl⟩
  · subst h1 h2 h3
    exact .inr ⟨a, c, rfl, rfl, fin0 hq .bl⟩
theorem pr_isnt : Pr2 c (rIsA true) (cmpD .isnt) := by
  intro H Z v w d e x Q zt rv rw' hf hq
  obtain ⟨b, hb, rfl⟩ := bl?_of (show bl? ((isD d e).map not) = some x from hf)
  obtain ⟨b', hb', rfl⟩ := Option.map_eq_some_iff.mp hb
  rcases isD_of rv rw' hb' with ⟨h1, h2⟩ | ⟨a, c, h1, h2, h3⟩
  · subst h1 h2
    exact .inl ⟨rfl, fin0 hq .bl⟩
  · subst h1 h2 h3
    exact .inr ⟨a, c, rfl, rfl, fin0 hq .bl⟩
/-! ### in -/
theorem atom_flat {H : Hp} {Z : Addr → Prop} {k d v os} (h : atom d = true) (r : Rep c H Z k d v os) : flatV v = true := by
  cases r <;> first | rfl | simp [atom] at h
theorem atom_eqV {H : Hp} {Z : Addr → Prop} {k d v os j e w os'} (h : atom d = true) (h2 : atom e = true) (r : Rep c H Z k d v os) (r2 : Rep c H Z j e w os') : eqV v w = eqd d e := by
  cases r <;> first | (cases r2 <;> first | rfl | simp [atom] at h2) | simp [atom] at h
  all_goals simp [eqV, eqd]
theorem atoms_flat {H : Hp} {Z : Addr → Prop} : ∀ {ds vs k os}, ds.all atom = true → Reps c H Z k ds vs os → vs.all flatV = true
  | _, _, _, _, _, .nil => rfl
  | _, _, _, _, h, .cons r rs => by
    simp only [List.all_cons, Bool.and_eq_true] at h ⊢
    exact ⟨atom_flat h.1 r, atoms_flat h.2 rs⟩
theorem atoms_in {H : Hp} {Z : Addr → Prop} {e w j os'} (he : atom e = true) (r2 : Rep c H Z j e w os') : ∀ {ds vs k os}, ds.all atom = true → Reps c H Z k ds vs os → inV w vs = ds.any fun y => eqd y e
  | _, _, _, _, _, .nil => rfl
  | _, _, _, _, h, .cons r rs => by
    simp only [List.all_cons, Bool.and_eq_true] at h
    have := atoms_in he r2 h.2 rs
    unfold inV at this ⊢
    rw [List.any_cons, List.any_cons, this, atom_eqV h.1 he r r2]
end
end MP

/-! MPg: in, items, slices, built-ins. -/
namespace MP
open PySem PySem.Spec PyProof.Rows L2
section
variable {X : Cx} {c : Cw}
def rInS : R2 := fun x y H Q => ∃ i j, x = .str i ∧ y = .str j ∧ Q (.bl (!(Builtin.Str.occurrences j i 0 j.length 1).isEmpty)) H
def rNotInS : R2 := fun x y H Q => ∃ i j, x = .str i ∧ y = .str j ∧ Q (.bl (!(!(Builtin.Str.occurrences j i 0 j.length 1).isEmpty))) H
def rInA (K : PySem.W.Frag) : R2 := fun x y H Q => rInS x y H Q ∨ (rInD K x y H Q ∨ rIn K false x y H Q)
def rNotInA (K : PySem.W.Frag) : R2 := fun x y H Q => rNotInS x y H Q ∨ (rNotInD K x y H Q ∨ rIn K true x y H Q)
theorem op_inA (hu : X.A.units + 65 < cLine) : OpR X (compareOp .In) (rInA X.K) := OpR.or (r := rInS) op_in_str ((op_inD hu).or op_in_seq)
theorem op_notInA (hu : X.A.units + 65 < cLine) : OpR X (compareOp .NotIn) (rNotInA X.K) := OpR.or (r := rNotInS) op_notin_str ((op_notInD hu).or op_notIn_seq)
/-- a text, a list, a tuple: what in asks (dicts apart) -/
def inA' : D → D → Option Bool
  | a, .dct ks vs => none
  | a, b => inA a b
theorem any_eqd {x : D} {n : Nat} (hx : okd n x = true) : ∀ {m : Nat} {ys : List D}, okds m ys = true → (ys.any fun y => eqd y x) = (toPs ys).any fun z => PyData.eqv z (toP x)
  | _, [], _ => rfl
  | m, y :: ys, h => by
    simp only [okds, Bool.and_eq_true] at h
    simp only [toPs, List.any_cons]
    rw [eqd_eqv h.1 hx, any_eqd hx h.2]
theorem inA_of {H : Hp} {Z : Addr → Prop} {v w : V} {d e : D} {b : Bool} (rv : Rep c H Z 0 d v []) (rw' : Rep c H Z 0 e w []) (h : inA' d e = some b) :
    (∃ i j, v = .str i ∧ w = .str j ∧ b = !(Builtin.Str.occurrences j i 0 j.length 1).isEmpty) ∨
    (∃ p ps, Dp c.K H v p ∧ Dp c.K H w (.list ps) ∧ SeqAt.shaped p = true ∧ SeqAt.shaped (.list ps) = true ∧ b = ps.any fun z => PyData.eqv z p) ∨
    (∃ p xs, w = .ref p ∧ (SqL c.K H p xs ∨ SqT c.K H p xs) ∧ flatV v = true ∧ xs.all flatV = true ∧ b = inV v xs) := by
  cases e with
  | dct ks vs => cases h
  | str j =>
    cases d with
    | str i =>
      cases h
      cases rv.str_
      cases rw'.str_
      exact .inl ⟨_, _, rfl, rfl, rfl⟩
    | _ => cases h
  | lst ys =>
    have h' : inD d ys = some b := by cases d <;> exact h
    unfold inD at h'
    obtain ⟨h1, h2⟩ := itb_of h'
    rw [Bool.and_eq_true] at h1
    subst h2
    obtain ⟨a, vs, rfl, g, r⟩ := rw'.lst_
    have hl := okds_lay h1.2
    refine .inr (.inl ⟨toP d, toPs ys, rv.dp h1.1, .lst (SqL.of g) (r.dp h1.2), okd_shaped h1.1, ?_, any_eqd h1.1 h1.2⟩)
    have hl2 := hl.2
    have hd : (PyData.list (toPs ys)).depth = PyData.depthAll (toPs ys) + 1 := by simp only [PyData.depth]
    unfold SeqAt.shaped
    rw [hd]
    simp only [PyData.canLay0, Bool.and_eq_true, decide_eq_true_eq]
    exact ⟨hl.1, by omega⟩
  | tup ys =>
    have h' : (if atom d && ys.all atom then some (ys.any fun y => eqd y d) else none) = some b := by cases d <;> exact h
    obtain ⟨h1, h2⟩ := itb_of h'
    rw [Bool.and_eq_true] at h1
    subst h2
    obtain ⟨a, vs, rfl, g, r⟩ := rw'.tup_
    exact .inr (.inr ⟨a, vs, rfl, .inr g, atom_flat h1.1 rv, atoms_flat h1.2 r, (atoms_in h1.1 rv h1.2 r).symm⟩)
  | non => cases d <;> cases h
  | bl _ => cases d <;> cases h
  | int _ => cases d <;> cases h
  | scr _ => cases d <;> cases h
  | exc _ _ _ => cases d <;> cases h
theorem pr_inA : Pr2 c (rInA c.K) (fun a b => bl? (inA' a b)) := by
  intro H Z v w d e x Q zt rv rw' hf hq
  obtain ⟨b, hb, rfl⟩ := bl?_of hf
  rcases inA_of rv rw' hb with ⟨i, j, rfl, rfl, rfl⟩ | ⟨p, ps, h1, h2, h3, h4, rfl⟩ | ⟨p, xs, rfl, h1, h2, h3, rfl⟩
  · exact .inl ⟨i, j, rfl, rfl, fin0 hq .bl⟩
  · exact .inr (.inl ⟨p, ps, h1, h2, h3, h4, fin0 hq .bl⟩)
  · exact .inr (.inr ⟨p, xs, rfl, h1, h2, h3, fin0 hq .bl⟩)
theorem pr_notInA : Pr2 c (rNotInA c.K) (fun a b => bl? ((inA' a b).map not)) := by
  intro H Z v w d e x Q zt rv rw' hf hq
  obtain ⟨b, hb, rfl⟩ := bl?_of hf
  obtain ⟨c, hc, rfl⟩ := Option.map_eq_some_iff.mp hb
  rcases inA_of rv rw' hc with ⟨i, j, rfl, rfl, rfl⟩ | ⟨p, ps, h1, h2, h3, h4, rfl⟩ | ⟨p, xs, rfl, h1, h2, h3, rfl⟩
  · exact .inl ⟨i, j, rfl, rfl, fin0 hq .bl⟩
  · exact .inr (.inl ⟨p, ps, h1, h2, h3, h4, fin0 hq .bl⟩)
  · exact .inr (.inr ⟨p, xs, rfl, h1, h2, h3, fin0 hq .bl⟩)
/-! ### items -/
/-- items of a list, a tuple, a text (dicts apart) -/
def idxS : D → D → Option Ent
  | .dct _ _, _ => none
  | a, b => idxD a b
theorem atI_rep {H : Hp} {Z : Addr → Prop} {ds : List D} {vs : List V} {i : Int} {d : D} (r : Reps c H Z 0 ds vs []) (h : atI ds i = some d) : ∃ v, atI vs i = some v ∧ Rep c H Z 0 d v [] := by
  unfold atI at h ⊢
  rw [← r.length]
  cases e : ixN ds.length i with
  | none => rw [e] at h; cases h
  | some j =>
    rw [e] at h
    exact r.get h
theorem pr_ix : Pr2 c (rIx c.K) idxS := by
  intro H Z v w d e x Q zt rv rw' hf hq
  cases d with
  | lst ds =>
    cases e with
    | int i =>
      obtain ⟨y, hy, rfl⟩ := Option.map_eq_some_iff.mp (show (atI ds i).map ent = some x from hf)
      obtain ⟨a, vs, rfl, g, r⟩ := rv.lst_
      cases rw'.int_
      obtain ⟨u, hu, ru⟩ := atI_rep r hy
      exact .inl ⟨a, vs, i, u, rfl, rfl, SqL.of g, hu, fin0 hq ru⟩
    | _ => cases hf
  | scr ds =>
    cases e with
    | int i =>
      obtain ⟨y, hy, rfl⟩ := Option.map_eq_some_iff.mp (show (atI ds i).map ent = some x from hf)
      obtain ⟨a, vs, rfl, g, r⟩ := rv.scr_
      cases rw'.int_
      obtain ⟨u, hu, ru⟩ := atI_rep r hy
      exact .inl ⟨a, vs, i, u, rfl, rfl, g, hu, fin0 hq ru⟩
    | _ => cases hf
  | tup ds =>
    cases e with
    | int i =>
      obtain ⟨y, hy, rfl⟩ := Option.map_eq_some_iff.mp (show (atI ds i).map ent = some x from hf)
      obtain ⟨a, vs, rfl, g, r⟩ := rv.tup_
      cases rw'.int_
      obtain ⟨u, hu, ru⟩ := atI_rep r hy
      exact .inr (.inl ⟨a, vs, i, u, rfl, rfl, g, hu, fin0 hq ru⟩)
    | _ => cases hf
  | str s =>
    cases e with
    | int i =>
      obtain ⟨hz, h2⟩ : szOk s.length = true ∧ (atI s.cps.toList i).map (fun c => ent (.str ⟨#[c]⟩)) = some x := by
        have h' : (if szOk s.length then (atI s.cps.toList i).map (fun c => ent (.str ⟨#[c]⟩)) else none) = some x := hf
        by_cases q : szOk s.length = true
        · rw [if_pos q] at h'; exact ⟨q, h'⟩
        · rw [if_neg q] at h'; cases h'
      obtain ⟨c, hc, rfl⟩ := Option.map_eq_some_iff.mp h2
      cases rv.str_
      cases rw'.int_
      exact .inr (.inr ⟨s, i, c, rfl, rfl, szOk_le hz, hc, fin0 hq .str⟩)
    | _ => cases hf
  | _ => cases e <;> cases hf
/-! ### slices -/
def rSlAll (K : PySem.W.Frag) : V → Option Int → Option Int → Hp → VK → Prop := fun x lo hi H Q => rSlL K x lo hi H Q ∨ (rSlA K x lo hi H Q ∨ rSlS x lo hi H Q)
theorem sl_all : SlR X (rSlAll X.K) := sl_list.or (sl_tupA.or sl_str)
theorem cut_rep {H : Hp} {Z : Addr → Prop} {ds : List D} {vs : List V} {lo hi : Option Int} (r : Reps c H Z 0 ds vs []) : Reps c H Z 0 (slcD.cutL ds lo hi) (cutV vs lo hi) [] := by
  unfold slcD.cutL cutV
  rw [← r.length]
  exact Reps.take _ (Reps.drop _ r)
theorem pr_slc {H : Hp} {Z : Addr → Prop} {v : V} {d : D} {lo hi : Option Int} {x : Ent} {Q : VK} (rv : Rep c H Z 0 d v []) (hf : slcD d lo hi = some x) (hq : ∀ u H' os, ROk c H Z x.1 x.2 u H' os → Q u H') : rSlAll c.K v lo hi H Q := by
  cases d with
  | lst ds =>
    cases hf
    obtain ⟨a, vs, rfl, g, r⟩ := rv.lst_
    exact .inl ⟨a, vs, rfl, SqL.of g, fun p hp => hq _ _ _ (ROk.lst (cut_rep r) hp)⟩
  | scr ds =>
    cases hf
    obtain ⟨a, vs, rfl, g, r⟩ := rv.scr_
    exact .inl ⟨a, vs, rfl, g, fun p hp => hq _ _ _ (ROk.lst (cut_rep r) hp)⟩
  | tup ds =>
    cases hf
    obtain ⟨a, vs, rfl, g, r⟩ := rv.tup_
    refine .inr (.inl ⟨a, vs, rfl, g, fun e => ?_, fun _ p hp => hq _ _ _ (ROk.tup (cut_rep r) hp)⟩)
    have e2 : slcD.cutL ds lo hi = ds := by
      unfold slcD.cutL
      rw [r.length, e.1, e.2]
      simp [← r.length]
    refine hq _ _ _ (ROk.old ?_)
    show Rep c H Z 0 (.tup (slcD.cutL ds lo hi)) _ _
    rw [e2]
    exact .tup g r
  | str s =>
    obtain ⟨hz, rfl⟩ := itb_of (show (if szOk s.length then some (ent (.str (cutS s lo hi))) else none) = some x from hf)
    cases rv.str_
    exact .inr (.inr ⟨s, rfl, szOk_le hz, fin0 hq .str⟩)
  | _ => cases hf
end
end MP

/-! MPh: built-ins. -/
namespace MP
open PySem PySem.Spec PyProof.Rows L2
section
variable {X : Cx} {c : Cw}
theorem Reps.one {H : Hp} {Z : Addr → Prop} {d : D} {vs : List V} (r : Reps c H Z 0 [d] vs []) : ∃ v, vs = [v] ∧ Rep c H Z 0 d v [] := by
  obtain ⟨v, h, rv⟩ := r.get (i := 0) (d := d) rfl
  have hl := r.length
  match vs, hl, h with
  | [w], _, h => cases h; exact ⟨_, rfl, rv⟩
theorem Reps.two {H : Hp} {Z : Addr → Prop} {d e : D} {vs : List V} (r : Reps c H Z 0 [d, e] vs []) : ∃ v w, vs = [v, w] ∧ Rep c H Z 0 d v [] ∧ Rep c H Z 0 e w [] := by
  obtain ⟨v, h, rv⟩ := r.get (i := 0) (d := d) rfl
  obtain ⟨w, h2, rw'⟩ := r.get (i := 1) (d := e) rfl
  have hl := r.length
  match vs, hl, h, h2 with
  | [a, b], _, h, h2 => cases h; cases h2; exact ⟨_, _, rfl, rv, rw'⟩
theorem bls_rep {H : Hp} {Z : Addr → Prop} : ∀ {ds vs bs}, bls? ds = some bs → Reps c H Z 0 ds vs [] → vs = bs.map V.bl
  | [], _, _, h, r => by cases h; cases r; rfl
  | d :: ds, vs, bs, h, r => by
    cases d with
    | bl b =>
      obtain ⟨bs', h1, rfl⟩ := Option.map_eq_some_iff.mp (show (bls? ds).map (b :: ·) = some bs from h)
      generalize ho : ([] : List Addr) = o at r
      cases r with
      | cons r rs =>
        have h2 := List.append_eq_nil_iff.mp ho.symm
        rw [h2.2] at rs
        cases r
        rw [bls_rep h1 rs]
        rfl
    | _ => cases h
theorem ints_rep {H : Hp} {Z : Addr → Prop} : ∀ {ds vs bs}, ints? ds = some bs → Reps c H Z 0 ds vs [] → vs = bs.map V.int
  | [], _, _, h, r => by cases h; cases r; rfl
  | d :: ds, vs, bs, h, r => by
    cases d with
    | int b =>
      obtain ⟨bs', h1, rfl⟩ := Option.map_eq_some_iff.mp (show (ints? ds).map (b :: ·) = some bs from h)
      generalize ho : ([] : List Addr) = o at r
      cases r with
      | cons r rs =>
        have h2 := List.append_eq_nil_iff.mp ho.symm
        rw [h2.2] at rs
        cases r
        rw [ints_rep h1 rs]
        rfl
    | _ => cases h
theorem strs_rep {H : Hp} {Z : Addr → Prop} : ∀ {ds vs bs}, strs? ds = some bs → Reps c H Z 0 ds vs [] → vs = bs.map V.str
  | [], _, _, h, r => by cases h; cases r; rfl
  | d :: ds, vs, bs, h, r => by
    cases d with
    | str b =>
      obtain ⟨bs', h1, rfl⟩ := Option.map_eq_some_iff.mp (show (strs? ds).map (b :: ·) = some bs from h)
      generalize ho : ([] : List Addr) = o at r
      cases r with
      | cons r rs =>
        have h2 := List.append_eq_nil_iff.mp ho.symm
        rw [h2.2] at rs
        cases r
        rw [strs_rep h1 rs]
        rfl
    | _ => cases h
def rLenA (K : PySem.W.Frag) : List V → Hp → VK → Prop := fun xs H Q => ((∃ p ys, xs = [.ref p] ∧ (SqL K H p ys ∨ SqT K H p ys) ∧ Q (.int ys.length) H) ∨ ∃ z, xs = [.str z] ∧ z.length ≤ sizeLine ∧ Q (.int z.length) H) ∨ ∃ a kvs, xs = [V.ref a] ∧ Rd H a (.dK kvs) ∧ Q (.int kvs.length) H
theorem pr_len : PrN c (rLenA c.K) (bltD .len) := by
  intro H Z vs ds x Q zt r hf hq
  unfold bltD at hf
  dsimp only at hf
  split at hf <;> first | (cases hf; done) | skip
  rename_i d
  obtain ⟨v, rfl, rv⟩ := r.one
  obtain ⟨n, hn, rfl⟩ := Option.map_eq_some_iff.mp hf
  cases d with
  | lst ds =>
    cases hn
    obtain ⟨a, vs, rfl, g, r⟩ := rv.lst_
    exact .inl (.inl ⟨a, vs, rfl, .inl (SqL.of g), by rw [← r.length]; exact fin0 hq .int⟩)
  | scr ds =>
    cases hn
    obtain ⟨a, vs, rfl, g, r⟩ := rv.scr_
    exact .inl (.inl ⟨a, vs, rfl, .inl g, by rw [← r.length]; exact fin0 hq .int⟩)
  | tup ds =>
    cases hn
    obtain ⟨a, vs, rfl, g, r⟩ := rv.tup_
    exact .inl (.inl ⟨a, vs, rfl, .inr g, by rw [← r.length]; exact fin0 hq .int⟩)
  | str s =>
    obtain ⟨hz, rfl⟩ := itb_of (show (if szOk s.length then some s.length else none) = some n from hn)
    cases rv.str_
    exact .inl (.inr ⟨s, rfl, szOk_le hz, fin0 hq .int⟩)
  | dct ks vs =>
    cases hn
    obtain ⟨a, kvs, rfl, g, e, r⟩ := rv.dct_
    have el : ks.length = kvs.length := by rw [e, List.length_map]
    exact .inr ⟨a, kvs, rfl, g, by rw [← el]; exact fin0 hq .int⟩
  | _ => cases hn
theorem pr_abs : PrN c (fun xs H Q => ∃ i, xs = [.int i] ∧ Q (.int (if i < 0 then -i else i)) H) (bltD .abs) := by
  intro H Z vs ds x Q zt r hf hq
  unfold bltD at hf
  dsimp only at hf
  split at hf <;> first | (cases hf; done) | skip
  rename_i i
  obtain ⟨v, rfl, rv⟩ := r.one
  cases hf
  cases rv.int_
  exact ⟨i, rfl, fin0 hq .int⟩
theorem pr_all : PrN c (rAll c.K) (bltD .all) := by
  intro H Z vs ds x Q zt r hf hq
  unfold bltD at hf
  dsimp only at hf
  split at hf <;> first | (cases hf; done) | skip
  rename_i ds
  obtain ⟨v, rfl, rv⟩ := r.one
  obtain ⟨bs, hb, rfl⟩ := Option.map_eq_some_iff.mp hf
  obtain ⟨a, vs, rfl, g, r⟩ := rv.lst_
  cases bls_rep hb r
  exact ⟨a, bs, rfl, SqL.of g, fin0 hq .bl⟩
theorem pr_sum : PrN c (rSum c.K) (bltD .sum) := by
  intro H Z vs ds x Q zt r hf hq
  unfold bltD at hf
  dsimp only at hf
  split at hf <;> first | (cases hf; done) | skip
  rename_i ds
  obtain ⟨v, rfl, rv⟩ := r.one
  obtain ⟨bs, hb, rfl⟩ := Option.map_eq_some_iff.mp hf
  obtain ⟨a, vs, rfl, g, r⟩ := rv.lst_
  cases ints_rep hb r
  exact ⟨a, bs, rfl, SqL.of g, fin0 hq .int⟩
def rIntA : List V → Hp → VK → Prop := fun xs H Q => ((∃ i, xs = [.int i] ∧ Q (.int i) H) ∨ ∃ k, xs = [.bl k] ∧ Q (.int (if k then 1 else 0)) H) ∨ ∃ a n, xs = [.str a] ∧ PySem.intText? a = some n ∧ a.length ≤ 640 ∧ Q (.int n) H
theorem pr_int : PrN c rIntA (bltD .int) := by
  intro H Z vs ds x Q zt r hf hq
  unfold bltD at hf
  dsimp only at hf
  split at hf <;> first | (cases hf; done) | skip
  · rename_i b
    obtain ⟨v, rfl, rv⟩ := r.one
    cases hf
    cases rv.bl_
    exact .inl (.inr ⟨b, rfl, fin0 hq .int⟩)
  · rename_i b
    obtain ⟨v, rfl, rv⟩ := r.one
    cases hf
    cases rv.int_
    exact .inl (.inl ⟨b, rfl, fin0 hq .int⟩)
  · rename_i a
    obtain ⟨v, rfl, rv⟩ := r.one
    by_cases hz : a.length ≤ 640
    · rw [if_pos hz] at hf
      obtain ⟨n, hn, rfl⟩ := Option.map_eq_some_iff.mp hf
      cases rv.str_
      exact .inr ⟨a, n, rfl, hn, hz, fin0 hq .int⟩
    · rw [if_neg hz] at hf; cases hf
def rListA (K : PySem.W.Frag) : List V → Hp → VK → Prop := fun xs H Q => ∃ p ys, xs = [.ref p] ∧ (SqL K H p ys ∨ SqT K H p ys) ∧ ∀ l, H l = none → Q (.ref l) (upd H l (.lst ys))
theorem pr_list : PrN c (rListA c.K) (bltD .list) := by
  intro H Z vs ds x Q zt r hf hq
  unfold bltD at hf
  dsimp only at hf
  split at hf <;> first | (cases hf; done) | skip
  · rename_i ds
    obtain ⟨v, rfl, rv⟩ := r.one
    cases hf
    obtain ⟨a, vs, rfl, g, r⟩ := rv.lst_
    exact ⟨a, vs, rfl, .inl (SqL.of g), fun l hl => hq _ _ _ (ROk.lst r hl)⟩
  · rename_i ds
    obtain ⟨v, rfl, rv⟩ := r.one
    cases hf
    obtain ⟨a, vs, rfl, g, r⟩ := rv.tup_
    exact ⟨a, vs, rfl, .inr g, fun l hl => hq _ _ _ (ROk.lst r hl)⟩
def rTupA (K : PySem.W.Frag) : List V → Hp → VK → Prop := fun xs H Q => ∃ p ys, xs = [.ref p] ∧ ((SqL K H p ys ∧ ∀ l, H l = none → Q (.ref l) (upd H l (.tup ys))) ∨ (SqT K H p ys ∧ Q (.ref p) H))
theorem pr_tuple : PrN c (rTupA c.K) (bltD .tuple) := by
  intro H Z vs ds x Q zt r hf hq
  unfold bltD at hf
  dsimp only at hf
  split at hf <;> first | (cases hf; done) | skip
  · rename_i ds
    obtain ⟨v, rfl, rv⟩ := r.one
    cases hf
    obtain ⟨a, vs, rfl, g, r⟩ := rv.lst_
    exact ⟨a, vs, rfl, .inl ⟨SqL.of g, fun l hl => hq _ _ _ (ROk.tup r hl)⟩⟩
  · rename_i ds
    obtain ⟨v, rfl, rv⟩ := r.one
    cases hf
    obtain ⟨a, vs, rfl, g, r⟩ := rv.tup_
    exact ⟨a, vs, rfl, .inr ⟨g, hq _ _ _ (ROk.old (.tup g r))⟩⟩
theorem pr_str : PrN c (fun xs H Q => ∃ i, xs = [.int i] ∧ i.natAbs.log2 < 1920 ∧ Q (.str (toString i)) H) (bltD .str) := by
  intro H Z vs ds x Q zt r hf hq
  unfold bltD at hf
  dsimp only at hf
  split at hf <;> first | (cases hf; done) | skip
  rename_i i
  obtain ⟨v, rfl, rv⟩ := r.one
  obtain ⟨hz, rfl⟩ := ite_of hf
  cases rv.int_
  exact ⟨i, rfl, hz, fin0 hq .str⟩
theorem pr_max : PrN c (fun xs H Q => ∃ i j, xs = [.int i, .int j] ∧ Q (.int (if j > i then j else i)) H) (bltD .max) := by
  intro H Z vs ds x Q zt r hf hq
  unfold bltD at hf
  dsimp only at hf
  split at hf <;> first | (cases hf; done) | skip
  rename_i i j
  obtain ⟨v, w, rfl, rv, rw'⟩ := r.two
  cases hf
  cases rv.int_
  cases rw'.int_
  exact ⟨i, j, rfl, fin0 hq .int⟩
theorem pr_min : PrN c (fun xs H Q => ∃ i j, xs = [.int i, .int j] ∧ Q (.int (if j < i then j else i)) H) (bltD .min) := by
  intro H Z vs ds x Q zt r hf hq
  unfold bltD at hf
  dsimp only at hf
  split at hf <;> first | (cases hf; done) | skip
  rename_i i j
  obtain ⟨v, w, rfl, rv, rw'⟩ := r.two
  cases hf
  cases rv.int_
  cases rw'.int_
  exact ⟨i, j, rfl, fin0 hq .int⟩
def rDictP (K : PySem.W.Frag) : List V → Hp → VK → Prop := fun xs H Q => ∃ (a : Addr) (ps : List Addr) (kvs : List (Key × V)), xs = [.ref a] ∧ SqL K H a (ps.map V.ref) ∧ Paired (fun p kv => SqT K H p [kV kv.1, kv.2]) ps kvs ∧ ∀ p, H p = none → Q (.ref p) (upd H p (.dK (mergeK [] kvs)))
theorem key_rep {H : Hp} {Z : Addr → Prop} {d : D} {v : V} {k : Key} {j os} (h : key? d = some k) (r : Rep c H Z j d v os) : v = kV k ∧ d = kD k := by
  cases d with
  | int i => cases h; cases r.int_; exact ⟨rfl, rfl⟩
  | str i => cases h; cases r.str_; exact ⟨rfl, rfl⟩
  | _ => cases h
theorem key_kD (k : Key) : key? (kD k) = some k := by cases k <;> rfl
theorem kD_eq {k j : Key} : key? (kD k) = some j ↔ k = j := by rw [key_kD]; exact ⟨fun h => Option.some.inj h, fun h => by rw [h]⟩
/-- a dict's data and its entries -/
inductive DK (c : Cw) (H : Hp) (Z : Addr → Prop) : List D → List D → List (Key × V) → Prop
  | nil : DK c H Z [] [] []
  | cons {k d v ks ds kvs} : Rep c H Z 0 d v [] → DK c H Z ks ds kvs → DK c H Z (kD k :: ks) (d :: ds) ((k, v) :: kvs)
theorem DK.of {H : Hp} {Z : Addr → Prop} : ∀ {ds : List D} {kvs : List (Key × V)}, Reps c H Z 0 ds (kvs.map (·.2)) [] → DK c H Z (kvs.map fun p => kD p.1) ds kvs
  | [], [], _ => .nil
  | [], p :: kvs, r => by have := r.length; simp at this
  | d :: ds, [], r => by have := r.length; simp at this
  | d :: ds, p :: kvs, r => by
    obtain ⟨v, h, rv⟩ := r.get (i := 0) (d := d) rfl
    have r2 := r.drop 1
    simp only [List.map_cons, List.getElem?_cons_zero, Option.some.injEq] at h
    subst h
    exact .cons rv (DK.of (by simpa using r2))
theorem DK.back {H : Hp} {Z : Addr → Prop} {ks ds : List D} {kvs : List (Key × V)} (h : DK c H Z ks ds kvs) : ks = kvs.map (fun p => kD p.1) ∧ Reps c H Z 0 ds (kvs.map (·.2)) [] := by
  induction h with
  | nil => exact ⟨rfl, .nil⟩
  | cons r _ ih => exact ⟨by rw [ih.1]; rfl, .cons0 r ih.2⟩
theorem DK.look {H : Hp} {Z : Addr → Prop} {ks ds : List D} {kvs : List (Key × V)} {k : Key} {d : D} (h : DK c H Z ks ds kvs) (e : dlk k ks ds = some d) : ∃ v, valV kvs k = some v ∧ Rep c H Z 0 d v [] := by
  induction h with
  | nil => cases e
  | @cons j d' v ks ds kvs r _ ih =>
    rw [dlk] at e
    by_cases q : j = k
    · rw [if_pos (kD_eq.mpr q)] at e
      cases e
      exact ⟨v, valV_pos (p := (j, v)) q, r⟩
    · rw [if_neg (fun z => q (kD_eq.mp z))] at e
      obtain ⟨w, hw, rw'⟩ := ih e
      exact ⟨w, (valV_neg (p := (j, v)) q).trans hw, rw'⟩
theorem DK.has {H : Hp} {Z : Addr → Prop} {ks ds : List D} {kvs : List (Key × V)} {k : Key} (h : DK c H Z ks ds kvs) : dhas k ks = kvs.any fun p => decide (p.1 = k) := by
  induction h with
  | nil => rfl
  | cons r _ ih =>
    unfold dhas at ih ⊢
    rw [List.any_cons, List.any_cons, ih]
    congr 1
    exact decide_eq_decide.mpr kD_eq
theorem DK.put {H : Hp} {Z : Addr → Prop} {ks ds : List D} {kvs : List (Key × V)} {k : Key} {x : D} {v : V} (h : DK c H Z ks ds kvs) (rx : Rep c H Z 0 x v []) : DK c H Z ks (dput k x ks ds) (kvs.map fun p => if p.1 = k then (p.1, v) else p) := by
  induction h with
  | nil => exact .nil
  | @cons j d' w ks ds kvs r _ ih =>
    rw [dput]
    by_cases q : j = k
    · rw [if_pos (kD_eq.mpr q), List.map_cons, if_pos q]
      exact .cons rx ih
    · rw [if_neg (fun z => q (kD_eq.mp z)), List.map_cons, if_neg q]
      exact .cons r ih
theorem DK.snoc {H : Hp} {Z : Addr → Prop} {ks ds : List D} {kvs : List (Key × V)} {k : Key} {x : D} {v : V} (h : DK c H Z ks ds kvs) (rx : Rep c H Z 0 x v []) : DK c H Z (ks ++ [kD k]) (ds ++ [x]) (kvs ++ [(k, v)]) := by
  induction h with
  | nil => exact .cons rx .nil
  | cons r _ ih => exact .cons r ih
theorem DK.set {H : Hp} {Z : Addr → Prop} {p : List D × List D} {kvs : List (Key × V)} {k : Key} {x : D} {v : V} (h : DK c H Z p.1 p.2 kvs) (rx : Rep c H Z 0 x v []) : DK c H Z (dset k x p).1 (dset k x p).2 (putK kvs k v) := by
  unfold dset putK
  rw [h.has]
  by_cases q : (kvs.any fun p => decide (p.1 = k)) = true
  · rw [if_pos q, if_pos q]
    exact h.put rx
  · rw [if_neg q, if_neg q]
    exact h.snoc rx
theorem prs_rep {H : Hp} {Z : Addr → Prop} : ∀ {ds : List D} {vs : List V} {ps : List (Key × D)}, prs? ds = some ps → Reps c H Z 0 ds vs [] →
    ∃ (as : List Addr) (kvs : List (Key × V)), vs = as.map V.ref ∧ Paired (fun p kv => SqT c.K H p [kV kv.1, kv.2]) as kvs ∧ Paired (fun (p : Key × D) (kv : Key × V) => p.1 = kv.1 ∧ Rep c H Z 0 p.2 kv.2 []) ps kvs
  | [], vs, _, h, r => by cases h; cases r; exact ⟨[], [], rfl, .nil, .nil⟩
  | d :: ds, vs, ps, h, r => by
    unfold prs? at h
    split at h
    · rename_i e; cases e
    · rename_i k x ds' e
      cases e
      obtain ⟨j, hj, h⟩ := Option.bind_eq_some_iff.mp h
      obtain ⟨ps', hp, rfl⟩ := Option.map_eq_some_iff.mp h
      obtain ⟨v, hv, rv⟩ := r.get (i := 0) rfl
      have r2 := r.drop 1
      cases vs with
      | nil => cases hv
      | cons v' vs =>
        cases hv
        obtain ⟨as, kvs, e1, e2, e3⟩ := prs_rep hp (by simpa using r2)
        obtain ⟨a, ws, rfl, g, rs⟩ := rv.tup_
        obtain ⟨u, w, rfl, r3, r4⟩ := rs.two
        obtain ⟨e4, _⟩ := key_rep hj r3
        subst e4 e1
        exact ⟨a :: as, (j, w) :: kvs, rfl, .cons g e2, .cons ⟨rfl, r4⟩ e3⟩
    · cases h
theorem DK.merge {H : Hp} {Z : Addr → Prop} {ps : List (Key × D)} {kvs : List (Key × V)} (h : Paired (fun (p : Key × D) (kv : Key × V) => p.1 = kv.1 ∧ Rep c H Z 0 p.2 kv.2 []) ps kvs) :
    ∀ {q : List D × List D} {ls : List (Key × V)}, DK c H Z q.1 q.2 ls → DK c H Z (ps.foldl (fun a p => dset p.1 p.2 a) q).1 (ps.foldl (fun a p => dset p.1 p.2 a) q).2 (mergeK ls kvs) := by
  induction h with
  | nil => exact fun d => d
  | cons h _ ih =>
    intro q ls d
    obtain ⟨h1, h2⟩ := h
    unfold mergeK
    rw [List.foldl_cons, List.foldl_cons, ← h1]
    exact ih (d.set h2)
theorem ROk.dct {H : Hp} {Z : Addr → Prop} {ks ds : List D} {kvs : List (Key × V)} {p : Addr} (h : DK c H Z ks ds kvs) (hp : H p = none) : ROk c H Z 1 (.dct ks ds) (.ref p) (upd H p (.dK kvs)) [p] := by
  obtain ⟨e, r⟩ := h.back
  refine ⟨Ext.upd hp, .dctO upd_same e rfl (r.mono (Ext.upd hp) fun _ q => .inl q), fun a h => ?_, by simp⟩
  rcases List.mem_cons.mp h with rfl | h
  · exact hp
  · cases h
theorem pr_dict : PrN c (rDictP c.K) (bltD .dict) := by
  intro H Z vs ds x Q zt r hf hq
  unfold bltD at hf
  dsimp only at hf
  split at hf <;> first | (cases hf; done) | skip
  rename_i ds
  obtain ⟨v, rfl, rv⟩ := r.one
  obtain ⟨ps, hp, rfl⟩ := Option.map_eq_some_iff.mp hf
  obtain ⟨a, vs, rfl, g, r⟩ := rv.lst_
  obtain ⟨as, kvs, rfl, h1, h2⟩ := prs_rep hp r
  exact ⟨a, as, kvs, rfl, SqL.of g, h1, fun p hp => hq _ _ _ (ROk.dct (DK.merge h2 .nil) hp)⟩
/-- the name, the value of a built-in -/
def Bl.nm : Bl → Str
  | .len => "len" | .abs => "abs" | .all => "all" | .dict => "dict" | .int => "int" | .list => "list" | .repr => "repr" | .sum => "sum" | .tuple => "tuple" | .str => "str" | .sorted => "sorted" | .max => "max" | .min => "min"
def Bl.val : Bl → Value
  | .len => .builtin "len" | .abs => .builtin "abs" | .all => .builtin "all" | .dict => .type "dict" | .int => .type "int" | .list => .type "list" | .repr => .builtin "repr" | .sum => .builtin "sum" | .tuple => .type "tuple" | .str => .type "str" | .sorted => .builtin "sorted" | .max => .builtin "max" | .min => .builtin "min"
theorem Bl.boot (b : Bl) : bootBuiltins b.nm = some b.val := by cases b <;> decide +kernel
theorem call_lenRd : CallR X (.builtin "len") (fun xs H Q => ∃ a kvs, xs = [V.ref a] ∧ Rd H a (.dK kvs) ∧ Q (.int kvs.length) H) := by
  intro pins s σ H xs us Q I r h
  obtain ⟨a, kvs, rfl, ha, q⟩ := h
  obtain ⟨u, rfl, ru⟩ := Vals.one r
  cases ru
  exact d_len I ha fun t s2 I2 => ⟨.int kvs.length, H, I2, ⟨t, rfl⟩, q⟩
theorem blt_ok (hc : X.calm = true) (b : Bl) : ∃ r, CallR X b.val r ∧ PrN X.cw r (bltD b) := by
  cases b with
  | len => exact ⟨_, (call_len_seq.or call_len_str).or call_lenRd, pr_len⟩
  | abs => exact ⟨_, call_abs, pr_abs⟩
  | all => exact ⟨_, cr_all hc, pr_all⟩
  | int => exact ⟨_, call_int1.or call_int_str, pr_int⟩
  | list => exact ⟨_, call_list_of, pr_list⟩
  | sum => exact ⟨_, cr_sum hc, pr_sum⟩
  | tuple => exact ⟨_, call_tuple_of, pr_tuple⟩
  | str => exact ⟨_, call_str_int, pr_str⟩
  | max => exact ⟨_, call_max2 hc, pr_max⟩
  | min => exact ⟨_, call_min2 hc, pr_min⟩
  | dict => exact ⟨_, call_dictP hc, pr_dict⟩
  | repr => exact ⟨fun _ _ _ => False, fun _ _ _ _ _ _ _ _ _ h => h.elim, fun _ _ _ _ _ _ _ _ hf _ => by cases hf⟩
  | sorted => exact ⟨fun _ _ _ => False, fun _ _ _ _ _ _ _ _ _ h => h.elim, fun _ _ _ _ _ _ _ _ hf _ => by cases hf⟩
end
section
variable {X : Cx} {c : Cw} {W : WX} {S : Nat → Prop} {e : Expr} {es : List Expr} {el : Env → Res (List Ent)} {pos : Pos}
theorem be_blt (hc : X.calm = true) {b : Bl} {p : Pos} (hg : Gl X b.nm) (hm : X.mg b.nm = none) (ha : PA X (e :: es) (bL X.cw W S el))
    (he : starEach (e :: es) X.env = (false, eval e X.env) :: starEach es X.env) (hpl : (backTo pos (starEach es X.env)).any (·.1) = false) :
    PE X (.Call (.Name b.nm p) (e :: es) [] pos) (bE X.cw W S fun env => el env >>= fun xs => Res.of (bltD b (xs.map (·.2)))) := by
  obtain ⟨r, h1, h2⟩ := blt_ok hc b
  have n1 : b.nm ≠ "__name__" := by cases b <;> decide
  have n2 : (b.nm == ("__debug__" : Str)) = false := by cases b <;> decide
  have hb := b.boot
  have : ∀ {v : Value}, b.val = v → (∃ id, v = .builtin id) ∨ (∃ T, v = .type T) := by intro v h; cases b <;> (cases h; first | exact .inl ⟨_, rfl⟩ | exact .inr ⟨_, rfl⟩)
  rcases this rfl with ⟨id, hv⟩ | ⟨T, hv⟩
  · rw [hv] at h1 hb
    exact (pe_callB h1 hg hm hb ha n1 n2 he hpl).imp fun σ H Q h => redN h2 h
  · rw [hv] at h1 hb
    exact (pe_callTy h1 hg hm hb ha n1 n2 he hpl).imp fun σ H Q h => redN h2 h
end
end MP

/-! MPi: isinstance. -/
namespace PySem.W
open PySem
section
variable {prog : Program} {w : World} {A : Around} {E : Value → Shared → Prop} {s : Shared} {K : Frag} {x D : Addr} {ox : Obj} {od : Option Obj}
theorem mp_findD {C : Addr} {name : Str} {a g : Value} (hc : (clsIn K C).isSome = true) (ha : findIn K (.ref C) name = some (some a)) (hg : specialIn K a "__get__" = some (some g)) (ht : takesIn K a = some true) :
    findObj K C od name = some (.bind g a) := by
  obtain ⟨cd, hc⟩ := Option.isSome_iff_exists.mp hc
  simp [findObj, hc, ha, hg, ht]
theorem mp_classE {Q : Option Value → Shared → Prop} (c : L2.ExcC K D) (X : K.In s.heap) (I : InstAt s.heap x ox D od) (h : Q (some (.ref D)) { s with toks := s.toks + 1 }) :
    wpAny (model prog w) A (getAttr? (.ref x) "__class__") Q E s := by
  have hf : findObj K D od "__class__" = some (.bind (.builtin "getset_descriptor.__get__") (.builtin "object.__class__")) :=
    mp_findD (by obtain ⟨cd, hc, _⟩ := any_some c.hd; rw [hc] <;> rfl) c.ha c.hn c.ht
  obtain ⟨hp, g, d, t, os⟩ := s
  have L0 := I.type (M := model prog w)
  have L1 := looks_findIn (M := model prog w) X c.hg
  have L2 := looks_findIn (M := model prog w) X c.hk
  have L3 := looks_find (M := model prog w) X I hf
  have sub : Looks (model prog w) hp (isInstance (.ref x) (.type "BaseException")) true := L0.andThen (looks_subIn X c.hs)
  have e0 : (false && onTheHeap (Value.builtin "BaseException.__getattribute__")) = false := rfl
  have e2 : (Value.builtin "BaseException.__getattribute__" == Value.builtin "object.__getattribute__") = false := by decide +kernel
  have e1 : (onTheHeap (Value.ref D) && Value.builtin "BaseException.__getattribute__" == Value.builtin "object.__getattribute__") = false := by rw [e2] <;> rfl
  unfold getAttr? getAttrBy? getAttrBy
  refine wpAny_bind (wpAny_mkText (wpAny_bind (wpAny_attempt (wpAny_holding (wpAny_bind (L0.at (wpAny_bind (L1.at ?_))))))))
  show wpAny _ _ (if (onTheHeap (Value.ref D) && Value.builtin "BaseException.__getattribute__" == Value.builtin "object.__getattribute__") = true then _ else _) _ _ _
  rw [e1, if_neg Bool.false_ne_true]
  unfold getAttrByItsOwn hookBefore
  refine wpAny_bind ?_
  rw [if_pos (show onTheHeap (Value.ref D) = true from rfl)]
  refine L2.at ?_
  refine wpAny_bind (wpAny_attempt (wpAny_holding ?_))
  unfold callGetattribute
  rw [e0, if_neg Bool.false_ne_true]
  unfold boundAndCalled
  rw [PySem.F.excAttr_ValueError.ga.bind (.ref x)]
  refine wpAny_bind (wpAny_pure ?_)
  show wpAny _ _ (call (.builtin "BaseException.__getattribute__") [.ref x, .str "__class__" t]) _ _ _
  refine wpAny_call (codeAny_call_builtin PySem.F.excAttr_ValueError.ga.plain PySem.F.entry_bexc_ga ?_)
  refine @check_slot (model prog w) _ _ ⟨hp, g, d, t + 1, os⟩ "BaseException.__getattribute__" "BaseException" "__getattribute__" (.ref x) [.str "__class__" t] [] _ (by decide +kernel) (by decide +kernel) sub (PySem.F.args_bexc_ga (.ref x) (.str "__class__" t)) ?_
  unfold Builtin.«object.__getattribute__»
  refine wpAny_bind (wpAny_of_eq (a := ((Value.ref x : Value), [Value.str "__class__" t])) (by first | rfl | (simp only [slotArgs]; rfl)) ?_)
  refine wpAny_bind (wpAny_pure (wpAny_bind (L0.at (wpAny_bind (L3.at ?_)))))
  show wpAny _ _ (holding [Value.builtin "object.__class__"] (call (.builtin "getset_descriptor.__get__") [.builtin "object.__class__", .ref x, .ref D]) >>= ret) _ _ _
  refine wpAny_bind (wpAny_holding (wpAny_call (class_get (s := ⟨hp, g, d, t + 1, os⟩) (ox := ox) (od := od) X I c.hm ?_)))
  refine wpAny_pure ?_
  show wpAny _ _ (handedOut (.ref D)) _ _ _
  rw [handedOut_of (v := .ref D) rfl]
  first
    | exact wpAny_pure (wpAny_pure h)
    | exact wpAny_pure h
    | exact wpAny_pure (wpAny_bind (wpAny_pure (wpAny_pure h)))
theorem mp_kitx (c : L2.ExcC K D) : KitX K (.ref x) (.ref D) (fun h => InstAt h x ox D od) where
  ty := fun _ _ _ I => I.type
  it := fun _ _ X _ => by
    obtain ⟨cdD, hcD, _⟩ := any_some c.hd
    unfold clsIn at hcD
    split at hcD
    · rename_i ho
      intro A' Q' E' s' k q
      unfold isType loadHead
      exact wpAny_bind (wpAny_loadPart (k _ _ (X _ _ ho)) (wpAny_pure q))
    · cases hcD
  ne := fun h tp dd its n sl X htp => by
    obtain ⟨cdD, hcD, _⟩ := any_some c.hd
    refine Bool.eq_false_iff.mpr fun q => ?_
    obtain rfl : D = tp := Value.ref.inj (beq_iff_eq.mp q)
    unfold clsIn at hcD
    split at hcD
    · rename_i ho
      have z := (X _ _ ho).symm.trans htp
      cases z
    · cases hcD
  ca := fun X I k => mp_classE c X I k
end
end PySem.W
namespace MP
open PySem PySem.Spec PyProof.Rows L2
/-- a class by its name -/
inductive IsCls (c : Cw) : Str → V → Value → Prop
  | bt {n : Str} {T : String} : c.mg n = none → bootBuiltins n = some (.type T) → n ≠ "__name__" → IsCls c n (.ty T) (.type T)
  | own {n : Str} {C : Addr} : c.mg n = some (.ref C) → IsCls c n (.ref C) (.ref C)
theorem IsCls.rel {c : Cw} {n : Str} {v : V} {u : Value} (h : IsCls c n v u) : ClsV v u := by
  cases h with
  | bt => exact .ty _
  | own => exact .own _
/-- the class of a datum -/
inductive TagV (c : Cw) : Str → Value → Prop
  | non : TagV c "NoneType" (.type "NoneType")
  | bl : TagV c "bool" (.type "bool")
  | int : TagV c "int" (.type "int")
  | str : TagV c "str" (.type "str")
  | tup : TagV c "tuple" (.type "tuple")
  | lst : TagV c "list" (.type "list")
  | dct : TagV c "dict" (.type "dict")
  | exc {n : Str} {C : Addr} : c.mg n = some (.ref C) → ExcC c.K C → TagV c n (.ref C)
/-- what isinstance leans on -/
structure KitF (c : Cw) (Γ : Gm) : Prop where
  kit : ∀ t n b, Γ.kit t n = some b → ∀ tv v u, TagV c t tv → IsCls c n v u → PySem.W.kitOne c.K tv u = some b
  exc : ∀ t n b C, Γ.kit t n = some b → c.mg t = some (.ref C) → ExcC c.K C
section
variable {X : Cx} {pins : List (Addr × Obj)} {σ : L2.St} {H : Hp} {Z : Addr → Prop} {s : Shared}
/-- what stands for a datum, asked for its class -/
theorem rep_kit {d : D} {v : V} {u : Value} {Γ : Gm} {n : Str} {b : Bool} (F : KitF X.cw Γ) (hk : Γ.kit (tag d) n = some b) (I : Inv X pins σ H s) (rx : RelV v u) (r : Rep X.cw H Z 0 d v []) :
    ∃ tv P, TagV X.cw (tag d) tv ∧ PySem.W.KitX X.K u tv P ∧ P s.heap ∧ u ≠ .builtin "__main__.__loader__#opaque" := by
  have base : ∀ {tv : Value}, TagV X.cw (tag d) tv → TyX X.K H v tv → ∃ tv P, TagV X.cw (tag d) tv ∧ PySem.W.KitX X.K u tv P ∧ P s.heap ∧ u ≠ .builtin "__main__.__loader__#opaque" := fun {tv} t ty => by
    obtain ⟨P, h1, h2, h3⟩ := kit_of I rx ty
    exact ⟨tv, P, t, h1, h2, h3⟩
  have sqL : ∀ {a : Addr} {xs : List V}, SqL X.K H a xs → TyX X.K H (.ref a) (.type "list") := fun {a xs} h => by
    rcases h with (h | ⟨o, h⟩) | ⟨o, its, n, h, h2, _⟩
    · exact .base (.lst h)
    · exact .base (.frz h)
    · exact .kList h h2
  have sqT : ∀ {a : Addr} {xs : List V}, SqT X.K H a xs → TyX X.K H (.ref a) (.type "tuple") := fun {a xs} h => by
    rcases h with (h | ⟨o, h⟩) | ⟨o, its, n, h, h2, _⟩
    · exact .base (.tup h)
    · exact .fTuple h
    · exact .kTuple h h2
  cases r with
  | non => exact base .non (.base .non)
  | bl => exact base .bl (.base (.bl _))
  | int => exact base .int (.base (.int _))
  | str => exact base .str (.base (.str _))
  | tup h _ => exact base .tup (sqT h)
  | scr h _ => exact base .lst (sqL h.sq)
  | dctF h _ _ _ _ => exact base .dct (.base (.dK h))
  | dctZ h _ _ _ => exact base .dct (.fDict h)
  | lstF h _ _ => exact base .lst (.base (.lst h))
  | @exc0 _ n' a C g h =>
    cases rx
    have ec := F.exc _ _ _ C hk g
    obtain ⟨⟨oe, vs, he, hz, hd⟩, _⟩ := I.hok a _ h
    have J : PySem.W.InstAt s.heap a oe C none := ⟨he, hz.1, by unfold PySem.W.notCls; rw [hd] <;> rfl, by rw [hz.2] <;> trivial⟩
    exact ⟨.ref C, _, .exc g ec, PySem.W.mp_kitx ec, J, fun z => nomatch z⟩
  | @exc1 _ n' a C d' ks ds vals hne g h hd' hl hr =>
    cases rx
    have ec := F.exc _ _ _ C hk g
    obtain ⟨⟨oe, vs, he, hz, hd⟩, _⟩ := I.hok a _ h
    obtain ⟨mA, hns, _⟩ := I.hok d' _ hd'
    obtain ⟨od, ho, _⟩ := lookIn_ns hns
    have J : PySem.W.InstAt s.heap a oe C (some od) := ⟨he, hz.1, by unfold PySem.W.notCls; rw [hd] <;> rfl, by rw [hz.2]; exact ho⟩
    exact ⟨.ref C, _, .exc g ec, PySem.W.mp_kitx ec, J, fun z => nomatch z⟩
end
end MP

/-! MPj: calls, isinstance as an expression, tests. -/
namespace MP
open PySem PySem.Spec PyProof.Rows L2
section
variable {X : Cx} {c : Cw} {W : WX} {S : Nat → Prop} {a b e : Expr} {es : List Expr} {ea eb ec : Env → Res Ent} {el : Env → Res (List Ent)} {pos p : Pos} {Γ : Gm}
/-! ### isinstance -/
theorem IsCls.pe {n : Str} {v : V} {u : Value} {q : Pos} (h : IsCls X.cw n v u) (hg : Gl X n) (hd : (n == ("__debug__" : Str)) = false) : PE X (.Name n q) (tC v) := by
  cases h with
  | bt h1 h2 h3 => exact pe_bltn hg h1 h2 rfl h3 hd
  | own h1 => exact pe_glob hg h1 rfl hd
def rIsM (c : Cw) (Γ : Gm) (n : Str) (cv : V) : List V → Hp → VK → Prop := fun xs H Q => ∃ Z d v b, xs = [v, cv] ∧ Rep c H Z 0 d v [] ∧ Γ.kit (tag d) n = some b ∧ Q (.bl b) H
theorem call_isM (F : KitF X.cw Γ) {n : Str} {cv : V} {cu : Value} (hn : IsCls X.cw n cv cu) : CallR X (.builtin "isinstance") (rIsM X.cw Γ n cv) := by
  intro pins s σ H xs us Q I r h
  obtain ⟨Z, d, v, b, rfl, rv, hk, q⟩ := h
  obtain ⟨u1, u2, rfl, r1, r2⟩ := vals2 r
  obtain ⟨tv, P, t, kx, hp, hne⟩ := rep_kit F hk I r1 rv
  have h2 := F.kit _ _ _ hk tv cv cu t hn
  have e3 := hn.rel.eq r2
  subst e3
  exact PySem.W.kia_one kx I.kIn hp h2 hne fun tk => ⟨.bl b, H, I.tok tk, rfl, q⟩
/-- the classes of a tuple -/
inductive ClsL (c : Cw) : List Str → List V → List Value → Prop
  | nil : ClsL c [] [] []
  | cons {n ns v vs u us} : IsCls c n v u → ClsL c ns vs us → ClsL c (n :: ns) (v :: vs) (u :: us)
theorem ClsL.paired {ns : List Str} {vs : List V} {us : List Value} (h : ClsL c ns vs us) : Paired ClsV vs us := by
  induction h with
  | nil => exact .nil
  | cons h _ ih => exact .cons h.rel ih
def rIsMT (c : Cw) (Γ : Gm) (ns : List Str) (cvs : List V) : List V → Hp → VK → Prop := fun xs H Q => ∃ Z d v tp, xs = [v, .ref tp] ∧ H tp = some (.tup cvs) ∧ Rep c H Z 0 d v [] ∧ (ns.all fun n => (Γ.kit (tag d) n).isSome) = true ∧ ns ≠ [] ∧
  Q (.bl (ns.any fun n => Γ.kit (tag d) n == some true)) H
theorem kit_all (F : KitF c Γ) {t : Str} {tv : Value} (ht : TagV c t tv) : ∀ {ns : List Str} {cvs : List V} {cus : List Value}, ClsL c ns cvs cus → (ns.all fun n => (Γ.kit t n).isSome) = true →
    PySem.W.kitAny c.K tv cus = some (ns.any fun n => Γ.kit t n == some true)
  | [], _, _, .nil, _ => kitAny_nil
  | n :: ns, _, _, .cons h hs, ha => by
    simp only [List.all_cons, Bool.and_eq_true] at ha
    obtain ⟨b, hb⟩ := Option.isSome_iff_exists.mp ha.1
    have h2 := F.kit _ _ _ hb tv _ _ ht h
    have ih := kit_all F ht hs ha.2
    refine kitAny_cons h2 (fun e => ?_) fun e => ?_
    · subst e
      rw [ih, List.any_cons, hb]
      rfl
    · subst e
      rw [List.any_cons, hb]
      rfl
theorem call_isMT (F : KitF X.cw Γ) {ns : List Str} {cvs : List V} {cus : List Value} (hn : ClsL X.cw ns cvs cus) : CallR X (.builtin "isinstance") (rIsMT X.cw Γ ns cvs) := by
  intro pins s σ H xs us Q I r h
  obtain ⟨Z, d, v, tp, rfl, hT, rv, hk, hne, q⟩ := h
  obtain ⟨n, b, hb⟩ : ∃ n b, Γ.kit (tag d) n = some b := by
    cases ns with
    | nil => exact absurd rfl hne
    | cons n ns =>
      simp only [List.all_cons, Bool.and_eq_true] at hk
      obtain ⟨b, hb⟩ := Option.isSome_iff_exists.mp hk.1
      exact ⟨n, b, hb⟩
  obtain ⟨u1, u2, rfl, r1, r2⟩ := vals2 r
  cases (show u2 = Value.ref tp from r2)
  obtain ⟨tv, P, t, kx, hp, hx⟩ := rep_kit F hb I r1 rv
  obtain ⟨_, its, ri, o, h1, h2, k, h3⟩ := (show ObjOk X.prog X.w H s.heap tp (.tup cvs) from I.hok tp _ hT)
  have e3 := ClsV.all hn.paired ri
  subst e3
  obtain ⟨oc, od, dt, sl⟩ := o
  dsimp only at h2 h3
  subst h2 h3
  exact PySem.W.kia_tup kx I.kIn hp h1 (kit_all F t hn hk) hx fun tk => ⟨.bl _, H, I.tok tk, rfl, q⟩
/-- names in a row -/
inductive NamesE (X : Cx) : List Str → List Expr → Prop
  | nil : NamesE X [] []
  | cons {n ns q es} : Gl X n → (n == ("__debug__" : Str)) = false → NamesE X ns es → NamesE X (n :: ns) (.Name n q :: es)
theorem pa_names {ns : List Str} {es : List Expr} (h : NamesE X ns es) : ∀ {cvs : List V} {cus : List Value}, ClsL X.cw ns cvs cus → PA X es fun _ H Q => Q cvs H := by
  induction h with
  | nil => intro cvs cus hc; cases hc; exact pa_nil
  | cons hg hd _ ih =>
    intro cvs cus hc
    cases hc with
    | cons h hs => exact (pa_cons (h.pe hg hd) (ih hs) rfl)
theorem boot_isi : bootBuiltins "isinstance" = some (.builtin "isinstance") := by decide +kernel
theorem be_isi1 (F : KitF X.cw Γ) {n : Str} {q : Pos} {cv : V} {cu : Value} (hc : IsCls X.cw n cv cu) (hd : (n == ("__debug__" : Str)) = false) (hg : Gl X "isinstance") (hm : X.mg "isinstance" = none) (ha : PE X a (bE X.cw W S ea)) (hn : Gl X n)
    (hs1 : starEach [a, .Name n q] X.env = (false, eval a X.env) :: starEach [.Name n q] X.env) :
    PE X (.Call (.Name "isinstance" p) [a, .Name n q] [] pos) (bE X.cw W S fun env => ea env >>= fun x => Res.of (isiA Γ x.2 [n])) := by
  refine (pe_callB (call_isM F hc) hg hm boot_isi (pa_cons ha (pa_cons (hc.pe hn hd) pa_nil rfl) hs1) (by decide) (by decide) hs1 (by rfl)).imp fun σ H Q h => ?_
  obtain ⟨env, Z, er, h⟩ := h
  refine step er h fun x v H1 os er1 rx hf => ?_
  obtain ⟨y, ey, q⟩ := hf.of
  obtain ⟨h1, rfl⟩ := itb_of (show (if ([n].all fun n => (Γ.kit (tag x.2) n).isSome) then some (ent (.bl ([n].any fun n => Γ.kit (tag x.2) n == some true))) else none) = some y from ey)
  simp only [List.all_cons, List.all_nil, Bool.and_true] at h1
  obtain ⟨b', hb'⟩ := Option.isSome_iff_exists.mp h1
  refine ⟨Zn Z H H1, x.2, v, b', rfl, rx.frozen, hb', ?_⟩
  refine q _ _ _ ((ROk.old (Z := Zn Z H H1) ?_).trans rx.ext fun a z => z)
  simp only [List.any_cons, List.any_nil, Bool.or_false, hb', ent]
  cases b' <;> exact .bl
theorem be_isiT (F : KitF X.cw Γ) {ns : List Str} {es : List Expr} {k : Nat} {tp : Pos} {cvs : List V} {cus : List Value} (hc : ClsL X.cw ns cvs cus) (hne : ns ≠ []) (hl : ns.length ≤ 1000) (hg : Gl X "isinstance") (hm : X.mg "isinstance" = none) (ha : PE X a (bE X.cw W S ea)) (hn : NamesE X ns es)
    (hs1 : starEach [a, .Tuple es k tp] X.env = (false, eval a X.env) :: starEach [.Tuple es k tp] X.env) :
    PE X (.Call (.Name "isinstance" p) [a, .Tuple es k tp] [] pos) (bE X.cw W S fun env => ea env >>= fun x => Res.of (isiA Γ x.2 ns)) := by
  refine (pe_callB (call_isMT F hc) hg hm boot_isi (pa_cons ha (pa_cons (pe_tup (pa_names hn hc)) pa_nil rfl) hs1) (by decide) (by decide) hs1 (by rfl)).imp fun σ H Q h => ?_
  obtain ⟨env, Z, er, h⟩ := h
  refine step er h fun x v H1 os er1 rx hf => ?_
  obtain ⟨y, ey, q⟩ := hf.of
  obtain ⟨h1, rfl⟩ := itb_of (show (if (ns.all fun n => (Γ.kit (tag x.2) n).isSome) then some (ent (.bl (ns.any fun n => Γ.kit (tag x.2) n == some true))) else none) = some y from ey)
  have hcl : cvs.length = ns.length := by
    clear hn hl hne h1 q hf h ey
    induction hc with
    | nil => rfl
    | cons _ _ ih => simp [ih]
  refine ⟨by rw [hcl, sizeLine_eq]; omega, fun p hp => ⟨Zn Z H H1, x.2, v, p, rfl, upd_same, rx.frozen.mono (Ext.upd hp) fun _ q => q, h1, hne, ?_⟩⟩
  exact q _ _ _ ((ROk.old (Z := Zn Z H H1) .bl).trans (rx.ext.trans (Ext.upd hp)) fun a z => z.elim .inl fun z => .inr ⟨z.1, (Ext.upd hp).ne z.2⟩)
end
end MP

/-! MPk: dict items, in of dicts; the rest of the expressions. -/
namespace MP
open PySem PySem.Spec PyProof.Rows L2
section
variable {X : Cx} {c : Cw}
/-! ### dicts -/
def rInDK (neg : Bool) : R2 := fun x y H Q => ∃ a kvs k, y = .ref a ∧ x = kV k ∧ Rd H a (.dK kvs) ∧ Q (.bl (if neg then !(valV kvs k).isSome else (valV kvs k).isSome)) H
theorem op_inDK (hu : X.A.units + 65 < cLine) : OpR X (compareOp .In) (rInDK false) := by
  intro pins s σ H x y v u Q I rx ry h
  obtain ⟨a, kvs, k, rfl, rfl, e, q⟩ := h
  cases ry
  exact d_in (by omega) I (.inl ⟨kvs, k, e, rfl, rfl⟩) rx fun s2 I2 => ⟨.bl _, H, I2, rfl, q⟩
theorem op_notInDK (hu : X.A.units + 65 < cLine) : OpR X (compareOp .NotIn) (rInDK true) := by
  intro pins s σ H x y v u Q I rx ry h
  obtain ⟨a, kvs, k, rfl, rfl, e, q⟩ := h
  cases ry
  exact d_notIn (by omega) I (.inl ⟨kvs, k, e, rfl, rfl⟩) rx fun s2 I2 => ⟨.bl _, H, I2, rfl, q⟩
def rIxDK : R2 := fun x y H Q => ∃ a kvs k v, x = .ref a ∧ y = kV k ∧ Rd H a (.dK kvs) ∧ valV kvs k = some v ∧ Q v H
theorem ix_dK (hu : X.A.units + 65 < cLine) : IxR X rIxDK := by
  intro value slice pins s σ H x y v u Q I rx ry h hs
  obtain ⟨a, kvs, k, w, rfl, rfl, e, hv, q⟩ := h
  cases rx
  have g : DGet H a (kV k) (some w) := .inl ⟨kvs, k, e, rfl, hv.symm⟩
  have ht := dict_typeIs I g
  unfold subscriptTail
  refine wpAny_bind ?_
  rw [getitemInPython_of_ne ht.not_modules]
  refine wpAny_bind (wpAny_specialOf ht slot_dict_getitem.lookup ?_)
  have fin : wpAny (model X.prog X.w) X.A (subscripted slice false (.ref a) u) (fun z s3 => wpAny (model X.prog X.w) X.A (letTemporaryGo value (.ref a) z >>= fun _ => pure z) (EP X pins σ Q) X.xe s3) X.xe s := by
    rw [hs]
    exact wpAny_operating (d_getItem (by omega) I g ry fun z s3 I3 rz => wpAny_bind (wpAny_letTemporaryGo (wpAny_pure ⟨w, H, I3, rz, q⟩)))
  first
    | exact wpAny_pure (wpAny_bind fin)
    | exact wpAny_bind (wpAny_pure (wpAny_bind fin))
    | exact wpAny_bind fin
theorem valV_has {kvs : List (Key × V)} {k : Key} : (valV kvs k).isSome = kvs.any fun p => decide (p.1 = k) := (valV_any k kvs).symm
theorem inA_dct {ks vs : List D} {d : D} {b : Bool} (h : inA d (.dct ks vs) = some b) : ∃ k, key? d = some k ∧ b = dhas k ks := by
  have h' : (key? d).map (fun k => dhas k ks) = some b := by
    cases d <;> exact h
  obtain ⟨k, hk, e⟩ := Option.map_eq_some_iff.mp h'
  exact ⟨k, hk, e.symm⟩
theorem inA_else {d e : D} {b : Bool} (h : inA d e = some b) (n : ∀ ks vs, e ≠ .dct ks vs) : inA' d e = some b := by
  cases e with
  | dct ks vs => exact absurd rfl (n ks vs)
  | _ => first | exact h | (cases d <;> exact h)
theorem pr_in : Pr2 c (fun x y H Q => rInDK false x y H Q ∨ rInA c.K x y H Q) (cmpD .inn) := by
  intro H Z v w d e x Q zt rv rw' hf hq
  obtain ⟨b, hb, rfl⟩ := bl?_of (show bl? (inA d e) = some x from hf)
  by_cases n : ∃ ks vs, e = .dct ks vs
  · obtain ⟨ks, vs, rfl⟩ := n
    obtain ⟨k, hk, rfl⟩ := inA_dct hb
    obtain ⟨a, kvs, rfl, g, e, r⟩ := rw'.dct_
    obtain ⟨rfl, rfl⟩ := key_rep hk rv
    refine .inl ⟨a, kvs, k, rfl, rfl, g, ?_⟩
    have := (DK.of r).has (k := k)
    rw [← e] at this
    rw [if_neg Bool.false_ne_true, valV_has, ← this]
    exact fin0 hq .bl
  · exact .inr (pr_inA H Z v w d e _ Q zt rv rw' (show bl? (inA' d e) = _ by rw [inA_else hb fun ks vs q => n ⟨ks, vs, q⟩]; rfl) hq)
theorem pr_notIn : Pr2 c (fun x y H Q => rInDK true x y H Q ∨ rNotInA c.K x y H Q) (cmpD .notin) := by
  intro H Z v w d e x Q zt rv rw' hf hq
  obtain ⟨b', hb', rfl⟩ := bl?_of (show bl? ((inA d e).map not) = some x from hf)
  obtain ⟨b, hb, rfl⟩ := Option.map_eq_some_iff.mp hb'
  by_cases n : ∃ ks vs, e = .dct ks vs
  · obtain ⟨ks, vs, rfl⟩ := n
    obtain ⟨k, hk, rfl⟩ := inA_dct hb
    obtain ⟨a, kvs, rfl, g, e, r⟩ := rw'.dct_
    obtain ⟨rfl, rfl⟩ := key_rep hk rv
    refine .inl ⟨a, kvs, k, rfl, rfl, g, ?_⟩
    have := (DK.of r).has (k := k)
    rw [← e] at this
    rw [if_pos rfl, valV_has, ← this]
    exact fin0 hq .bl
  · exact .inr (pr_notInA H Z v w d e _ Q zt rv rw' (show bl? ((inA' d e).map not) = _ by rw [inA_else hb fun ks vs q => n ⟨ks, vs, q⟩]; rfl) hq)
theorem pr_idx : Pr2 c (fun x y H Q => rIxDK x y H Q ∨ rIx c.K x y H Q) idxD := by
  intro H Z v w d e x Q zt rv rw' hf hq
  cases d with
  | dct ks vs =>
    obtain ⟨k, hk, hf⟩ := Option.bind_eq_some_iff.mp (show ((key? e).bind fun k => (dlk k ks vs).map ent) = some x from hf)
    obtain ⟨y, hy, rfl⟩ := Option.map_eq_some_iff.mp hf
    obtain ⟨a, kvs, rfl, g, e, r⟩ := rv.dct_
    obtain ⟨rfl, rfl⟩ := key_rep hk rw'
    subst e
    obtain ⟨u, hu, ru⟩ := (DK.of r).look hy
    exact .inl ⟨a, kvs, k, u, rfl, rfl, g, hu, fin0 hq ru⟩
  | _ => exact .inr (pr_ix H Z v w _ e x Q zt rv rw' hf hq)
theorem op_in (hu : X.A.units + 65 < cLine) : OpR X (compareOp .In) (fun x y H Q => rInDK false x y H Q ∨ rInA X.K x y H Q) := (op_inDK hu).or (op_inA hu)
theorem op_notIn (hu : X.A.units + 65 < cLine) : OpR X (compareOp .NotIn) (fun x y H Q => rInDK true x y H Q ∨ rNotInA X.K x y H Q) := (op_notInDK hu).or (op_notInA hu)
theorem ix_all (hu : X.A.units + 65 < cLine) : IxR X (fun x y H Q => rIxDK x y H Q ∨ rIx X.K x y H Q) := (ix_dK hu).or ix_seq
end
end MP

/-! MPk2: defs that run where nothing is being shown (no repr is under way). -/
namespace MP
open PySem PySem.Spec PyProof.Rows L2
/-- a def's promise, in surroundings without guards -/
structure FnOkG (P : Program) (w : World) (K : PySem.W.Frag) (mg : Str → Option Value) (base : Heap) (CX : CXT) (k : Nat) (f : Addr) (fd : FuncData) (ps : List Str) (sp : Sp) : Prop where
  len : ∀ vs H Q E, sp vs H Q E → vs.length = ps.length
  run : ∀ (A : Around) (outer : List PySem.Env) (s : Shared) (H : Hp) (args : Args) (us : List Value) (vs : List V) (Q : VK) (E : XK), Room k A → A.guards = some [] → Env0 P w K mg base A outer s H → BindsTo s fd args (ps.zip us) → Vals vs us → sp vs H Q E →
    codeAny (model P w) A (.call (.ref f) args) (CR CX outer P w H s Q E) s
theorem FnOkG.mono {P : Program} {w : World} {K : PySem.W.Frag} {mg : Str → Option Value} {base : Heap} {CX : CXT} {j k : Nat} {f : Addr} {fd : FuncData} {ps : List Str} {sp : Sp} (F : FnOkG P w K mg base CX j f fd ps sp) (h : j ≤ k) : FnOkG P w K mg base CX k f fd ps sp :=
  ⟨F.len, fun A outer s H args us vs Q E hr hg => F.run A outer s H args us vs Q E (hr.mono h) hg⟩
section
variable {X : Cx} {CX : CXT} {k : Nat} {f : Addr} {fd : FuncData} {ps : List Str} {sp : Sp} {E : L2.St → XK} {x : Str} {p pos : Pos} {e : Expr} {es : List Expr} {t : TA}
theorem run_fnG {pins : List (Addr × Obj)} {σ : L2.St} {H : Hp} {s : Shared} {Q : VK} {us : List Value} {vs : List V} (F : FnOkG X.prog X.w X.K X.mg X.base CX k f fd ps sp) (hr : Room k X.A) (gd : X.A.guards = some []) (hb : Binds X.K fd ps []) (hx : PassesAt CX X σ (E σ))
    (I : Inv X pins σ H s) (r : Vals vs us) (h : sp vs H Q (E σ)) : wpAny (model X.prog X.w) X.A (call (.ref f) us) (EP X pins σ Q) X.xe s := by
  have hn : us.length = ps.length := by
    rw [← r.length]
    exact F.len _ _ _ _ h
  have bd := hb s us I.kIn (by rw [List.append_nil]; exact hn)
  rw [List.append_nil] at bd
  refine wpAny_call (codeAny_mono (F.run X.A X.stack s H ⟨us, []⟩ us vs Q (E σ) hr gd I.env0 bd r h) fun res s2 hq => ?_)
  match res, hq with
  | .error z, hq => exact hx pins H s z s2 I hq
  | .ok (.ret u), hq => exact I.after hq
  | .ok .next, hq => exact hq.elim
  | .ok .brk, hq => exact hq.elim
  | .ok .cont, hq => exact hq.elim
theorem pe_callG (F : FnOkG X.prog X.w X.K X.mg X.base CX k f fd ps sp) (hr : Room k X.A) (gd : X.A.guards = some []) (hg : Gl X x) (hm : X.mg x = some (.ref f)) (hk : PySem.W.keepIn X.K (.ref f) = true) (hb : Binds X.K fd ps []) (hx : ∀ σ, PassesAt CX X σ (E σ))
    (ha : PA X (e :: es) t) (hd : (x == ("__debug__" : Str)) = false) (he : starEach (e :: es) X.env = (false, eval e X.env) :: starEach es X.env) (hpl : (backTo pos (starEach es X.env)).any (·.1) = false) :
    PE X (.Call (.Name x p) (e :: es) [] pos) (tCallS sp E t) := by
  refine ⟨fun pins s σ H Q I q => ?_⟩
  refine wpAny_Call_Name_kw (ld_glob I hg hm ?_ hd)
  refine PySem.W.callWith_K (h₀ := X.base) I.ok.mod.kin hk (thn (ha.run pos pins s σ H _ I q) fun us s2 ⟨vs, H2, I2, rv, q2⟩ => ⟨I2.kIn, ?_⟩) he hpl
  exact run_fnG F hr gd hb (hx σ) I2 rv q2
end
section
variable {P : Program} {w : World} {K : PySem.W.Frag} {mg : Str → Option Value} {base : Heap} {x qual : Str} {params : Arguments} {body : List Stmt} {scope : Scope} {f : Addr} {fd : FuncData}
/-- the rule for a def -/
theorem fnG {CX : CXT} {N ps : List Str} {k : Nat} {sp : Sp} (F : FunD K x qual params body scope [] [] f fd) (S : FnScope N ps scope) (len : ∀ vs H Q E, sp vs H Q E → vs.length = ps.length)
    (hbody : ∀ (cdv : Value) (A : Around) (outer : List PySem.Env) (s : Shared) (H : Hp) (vs : List V) (Q : VK) (E : XK), Room k (A.deeper (envOfC qual scope s.heap.objs.size f cdv)) → (A.deeper (envOfC qual scope s.heap.objs.size f cdv)).guards = some [] → sp vs H Q E →
      ∃ t, PSs (cxOf CX P w K mg base N qual scope f cdv A outer s H E) body t ∧ t { nx := fun _ H' => Q .non H', rt := Q } (L2.start N vs) H) : FnOkG P w K mg base CX (k + 1) f fd ps sp := by
  obtain ⟨oc, od, dV, kV, doc, pm, an, cdv, ct, osl, rfl, lk, hcd, _, _⟩ := F.ex
  refine ⟨len, fun A outer s H args us vs Q E hr hg e0 hb r hsp => ?_⟩
  have nl := len _ _ _ _ hsp
  have KX : K.In s.heap := e0.mod.kin.keeps fun b o e => (e0.bs b o e).1
  have par : ∀ y ∈ ps.zip us, scope.names.lookup y.1 = some .local ∨ (scope.names.lookup y.1 = some .cell ∧ ((cellsFrom (s.heap.objs.size + 1) scope.names []).lookup y.1).isSome = true) := fun ⟨n, v⟩ hy =>
    (S.par n (List.of_mem_zip hy).1).elim .inl fun q => .inr ⟨q, PySem.W.cellsFrom_some _ _ _ (.inl q)⟩
  refine codeAny_call_function hr.depth (KX _ _ lk) rfl S.co S.gen rfl (PySem.W.codeRec_of KX hcd) (hb _ _ _ _ ?_)
  refine wpAny_newFunctionEnv_cells S.kind par fun env he s2 inc => ?_
  subst he
  refine ⟨(e0.mod.nolimit.keeps fun b o e => (e0.bs b o e).1).keeps inc.toInCall.keep, codeAny_func ?_⟩
  obtain ⟨t, ht, hq⟩ := hbody cdv A outer s H vs Q E (hr.deeper _) hg hsp
  refine wpAny_mono (ht.run [] s2 (L2.start N vs) H _ (inv_start S hr.hd e0 nl r inc) hq) (fun fl s3 hs => ?_) fun z s3 hs => hs
  match fl, hs with
  | .ret u, ⟨v, σ', H', J, rv, q⟩ => exact ⟨v, H', J.os, J.bare, J.base, J.hok, rv, q⟩
  | .next, ⟨σ', H', J, q⟩ => exact ⟨V.non, H', J.os, J.bare, J.base, J.hok, rfl, q⟩
  | .brk, ⟨_, _, _, q⟩ => exact q.elim
  | .cont, ⟨_, _, _, q⟩ => exact q.elim
end
end MP

/-! MPk3: repr. -/
namespace MP
open PySem PySem.Spec PyProof.Rows L2
section
variable {X : Cx} {pins : List (Addr × Obj)} {σ : L2.St} {H : Hp} {s : Shared} {Z : Addr → Prop}
theorem toQs_length : ∀ ds : List D, (toQs ds).length = ds.length
  | [] => rfl
  | d :: ds => by simp [toQs, toQs_length ds]
theorem pairs_reads {knd : KeyKind X.prog X.w Key} (hk : knd = mixKind X.prog X.w) : ∀ {es : List DictEntry} {vs : List (Key × Value)}, Pairs knd es vs → ∀ {kvs : List (Key × V)}, Paired (fun (p : Key × V) (q : Key × Value) => p.1 = q.1 ∧ RelV p.2 q.2) kvs vs →
    ReadsAll s.heap (es.map (·.key)) (toQs (kvs.map fun p => kD p.1)) [] ∧ Vals (kvs.map (·.2)) (es.map (·.val))
  | _, _, .nil, _, .nil => ⟨.nil, .nil⟩
  | _, _, .cons (e := e) h1 h2 h3, _, .cons (a := p) ⟨q1, q2⟩ t => by
    obtain ⟨r1, r2⟩ := pairs_reads hk h3 t
    subst hk
    refine ⟨?_, .cons (show RelV p.2 e.val by rw [h2]; exact q2) r2⟩
    have h1 : keyIs p.1 e.key = true := by rw [q1]; exact h1
    obtain ⟨pk, pv⟩ := p
    rcases keyIs_shape h1 with ⟨i, t, e1, e2⟩ | ⟨x, t, e1, e2⟩
    · simp only at e1
      subst e1
      simp only [List.map_cons, toQs, kD, toQ, e2]
      exact ReadsAll.cons (.int i t) r1
    · simp only at e1
      subst e1
      simp only [List.map_cons, toQs, kD, toQ, e2]
      exact ReadsAll.cons (.str x t) r1
mutual
theorem Rep.reads (I : Inv X pins σ H s) (h1 : H sysModules = none) : ∀ {k : Nat} {d : D} {v : V} {os : List Addr} {u : Value}, Rep X.cw H Z k d v os → RelV v u → repK d = true → ∃ as, Reads s.heap u (toQ d) as ∧ sysModules ∉ as
  | _, _, _, _, u, .non, r, _ => by cases r; exact ⟨[], .none, by simp⟩
  | _, _, _, _, u, .bl (b := b), r, _ => by cases r; exact ⟨[], .bool b, by simp⟩
  | _, _, _, _, u, .int (i := i), r, _ => by obtain ⟨t, rfl⟩ := r; exact ⟨[], .int i t, by simp⟩
  | _, _, _, _, u, .str (s := x), r, _ => by obtain ⟨t, rfl⟩ := r; exact ⟨[], .str x t, by simp⟩
  | _, _, _, _, u, .tup g rs, r, h => by
    cases r
    obtain ⟨its, rv, ⟨o, ho, hc, n, hd⟩, _⟩ := I.tuple g
    obtain ⟨as, ra, na⟩ := Reps.reads I h1 rs rv (by simpa only [repK] using h)
    exact ⟨as, by simp only [toQ]; exact .tuple ho hc hd (by simpa using ra), na⟩
  | _, _, _, _, u, .scr _ _, _, h => by simp [repK] at h
  | _, _, _, _, u, .lstF (a := a) g _ rs, r, h => by
    cases r
    obtain ⟨z, its, n, rv, ho⟩ := I.hok a _ g
    obtain ⟨as, ra, na⟩ := Reps.reads I h1 rs rv (by simpa only [repK] using h)
    refine ⟨a :: as, by simp only [toQ]; exact .list ho rfl rfl (by simpa using ra), fun q => ?_⟩
    rcases List.mem_cons.mp q with q | q
    · rw [← q, h1] at g; cases g
    · exact na q
  | _, _, _, _, u, .lstO (a := a) g rs, r, h => by
    cases r
    obtain ⟨z, its, n, rv, ho⟩ := I.hok a _ g
    obtain ⟨as, ra, na⟩ := Reps.reads I h1 rs rv (by simpa only [repK] using h)
    refine ⟨a :: as, by simp only [toQ]; exact .list ho rfl rfl (by simpa using ra), fun q => ?_⟩
    rcases List.mem_cons.mp q with q | q
    · rw [← q, h1] at g; cases g
    · exact na q
  | _, _, _, _, u, .dctF (a := a) (ks := ks) (vs := vs) g _ e1 e2 rs, r, h => by
    cases r
    have ih := fun {us : List Value} (q : Vals _ us) => Reps.reads I h1 rs q (by simpa only [repK] using h)
    obtain ⟨z, hs, vv, kv, o, es, ep, ho, hx, hd, _, pr, _⟩ := I.hok a _ g
    obtain ⟨r1, r2⟩ := pairs_reads (s := s) rfl pr kv
    rw [e2] at ih
    obtain ⟨as, ra, na⟩ := ih r2
    have hl : ks.length = vs.length := by
      have l1 := rs.length
      rw [e2, List.length_map] at l1
      rw [e1, List.length_map, l1]
    refine ⟨a :: [] ++ as, ?_, fun q => ?_⟩
    · simp only [toQ]
      refine .dict ho hx.1 hd ?_ ?_
      · rw [List.map_fst_zip (by rw [toQs_length, toQs_length, hl]; exact Nat.le_refl _), e1]
        exact r1
      · rw [List.map_snd_zip (by rw [toQs_length, toQs_length, hl]; exact Nat.le_refl _)]
        exact ra
    · rcases List.mem_cons.mp q with q | q
      · rw [← q, h1] at g; cases g
      · exact na q
  | _, _, _, _, u, .dctZ (a := a) (ks := ks) (vs := vs) g e1 e2 rs, r, h => by
    cases r
    have ih := fun {us : List Value} (q : Vals _ us) => Reps.reads I h1 rs q (by simpa only [repK] using h)
    obtain ⟨_, z, hs, vv, kv, o, es, ep, ho, hx, hd, _, pr, _⟩ := I.hok a _ g
    obtain ⟨r1, r2⟩ := pairs_reads (s := s) rfl pr kv
    rw [e2] at ih
    obtain ⟨as, ra, na⟩ := ih r2
    have hl : ks.length = vs.length := by
      have l1 := rs.length
      rw [e2, List.length_map] at l1
      rw [e1, List.length_map, l1]
    refine ⟨a :: [] ++ as, ?_, fun q => ?_⟩
    · simp only [toQ]
      refine .dict ho hx.1 hd ?_ ?_
      · rw [List.map_fst_zip (by rw [toQs_length, toQs_length, hl]; exact Nat.le_refl _), e1]
        exact r1
      · rw [List.map_snd_zip (by rw [toQs_length, toQs_length, hl]; exact Nat.le_refl _)]
        exact ra
    · rcases List.mem_cons.mp q with q | q
      · rw [← q, h1] at g; cases g
      · exact na q
  | _, _, _, _, u, .dctO (a := a) (ks := ks) (vs := vs) g e1 e2 rs, r, h => by
    cases r
    have ih := fun {us : List Value} (q : Vals _ us) => Reps.reads I h1 rs q (by simpa only [repK] using h)
    obtain ⟨z, hs, vv, kv, o, es, ep, ho, hx, hd, _, pr, _⟩ := I.hok a _ g
    obtain ⟨r1, r2⟩ := pairs_reads (s := s) rfl pr kv
    rw [e2] at ih
    obtain ⟨as, ra, na⟩ := ih r2
    have hl : ks.length = vs.length := by
      have l1 := rs.length
      rw [e2, List.length_map] at l1
      rw [e1, List.length_map, l1]
    refine ⟨a :: [] ++ as, ?_, fun q => ?_⟩
    · simp only [toQ]
      refine .dict ho hx.1 hd ?_ ?_
      · rw [List.map_fst_zip (by rw [toQs_length, toQs_length, hl]; exact Nat.le_refl _), e1]
        exact r1
      · rw [List.map_snd_zip (by rw [toQs_length, toQs_length, hl]; exact Nat.le_refl _)]
        exact ra
    · rcases List.mem_cons.mp q with q | q
      · rw [← q, h1] at g; cases g
      · exact na q
  | _, _, _, _, u, .exc0 _ _, _, h => by simp [repK] at h
  | _, _, _, _, u, .exc1 _ _ _ _ _ _, _, h => by simp [repK] at h
theorem Reps.reads (I : Inv X pins σ H s) (h1 : H sysModules = none) : ∀ {k : Nat} {ds : List D} {vs : List V} {os : List Addr} {us : List Value}, Reps X.cw H Z k ds vs os → Vals vs us → repKs ds = true → ∃ as, ReadsAll s.heap us (toQs ds) as ∧ sysModules ∉ as
  | _, _, _, _, us, .nil, r, _ => by cases r; exact ⟨[], .nil, by simp⟩
  | _, _, _, _, us, .cons q qs, hv, h => by
    cases hv with
    | cons r rs =>
      simp only [repKs, Bool.and_eq_true] at h
      obtain ⟨as, a1, a2⟩ := q.reads I h1 r h.1
      obtain ⟨bs, b1, b2⟩ := Reps.reads I h1 qs rs h.2
      exact ⟨as ++ bs, .cons a1 b1, fun z => (List.mem_append.mp z).elim a2 b2⟩
end
theorem Inv.noMods (I : Inv X pins σ H s) (sm : ∃ o, X.K.lookup sysModules = some o) : H sysModules = none := by
  obtain ⟨o, h⟩ := sm
  exact (I.bs sysModules o (I.mod.kin _ _ h)).2
def rRpr (c : Cw) : List V → Hp → VK → Prop := fun xs H Q => ∃ Z k d os v x, xs = [v] ∧ Rep c H Z k d v os ∧ rprD d = some x ∧ Q (.str (toQ d).shown) H
theorem call_rpr (gd : X.A.guards = some []) (hu : X.A.units + 65 < cLine) (sm : ∃ o, X.K.lookup sysModules = some o) : CallR X (.builtin "repr") (rRpr X.cw) := by
  intro pins s σ H xs us Q I r h
  obtain ⟨Z, k, d, os, v, x, rfl, rv, hr, q⟩ := h
  obtain ⟨u, rfl, ru⟩ := Vals.one r
  unfold rprD at hr
  obtain ⟨hr, _⟩ := itb_of hr
  simp only [Bool.and_eq_true, decide_eq_true_eq] at hr
  obtain ⟨⟨⟨⟨hrf, hk⟩, hs⟩, hz⟩, hd⟩ := hr
  obtain ⟨as, ra, na⟩ := rv.reads I (Inv.noMods I sm) ru hk
  have main : ∀ a, u = .ref a → wpAny (model X.prog X.w) X.A (call (.builtin "repr") [u]) (EP X pins σ Q) X.xe s := by
    rintro a rfl
    exact repr_of_reads' ra hs (fun _ => na) gd (by omega) (fun _ _ e => e) (fun h' t tk kp => ⟨.str (toQ d).shown, H, I.kept (t' := tk) kp, ⟨t, rfl⟩, q⟩) hz
  cases rv with
  | tup => cases ru; exact main _ rfl
  | lstF => cases ru; exact main _ rfl
  | lstO => cases ru; exact main _ rfl
  | dctF => cases ru; exact main _ rfl
  | dctZ => cases ru; exact main _ rfl
  | dctO => cases ru; exact main _ rfl
  | _ => cases hrf
end
section
variable {X : Cx} {W : WX} {S : Nat → Prop} {a : Expr} {ea : Env → Res Ent} {pos p : Pos}
theorem boot_rpr : bootBuiltins "repr" = some (.builtin "repr") := by decide +kernel
theorem be_rpr (gd : X.A.guards = some []) (hu : X.A.units + 65 < cLine) (sm : ∃ o, X.K.lookup sysModules = some o) (hg : Gl X "repr") (hm : X.mg "repr" = none) (ha : PE X a (bE X.cw W S ea)) (na : starEach [a] X.env = (false, eval a X.env) :: starEach [] X.env) :
    PE X (.Call (.Name "repr" p) [a] [] pos) (bE X.cw W S fun env => ea env >>= fun x => Res.of (rprD x.2)) := by
  refine (pe_callB (call_rpr gd hu sm) hg hm boot_rpr (pa_cons ha pa_nil na) (by decide) (by decide) na (by rfl)).imp fun σ H Q h => ?_
  obtain ⟨env, Z, er, h⟩ := h
  refine step er h fun x v H1 os er1 rx hf => ?_
  obtain ⟨y, ey, hq⟩ := hf.of
  refine ⟨_, _, x.2, _, v, y, rfl, rx.rep, ey, ?_⟩
  unfold rprD at ey
  obtain ⟨_, rfl⟩ := itb_of ey
  exact hq _ _ _ ((ROk.old (Z := Z) .str).trans rx.ext fun _ z => .inl z)
end
end MP

/-! MPl: calls, items, slices, truths, tests. -/
namespace MP
open PySem PySem.Spec PyProof.Rows L2
theorem Reps.rev0 {c : Cw} {H : Hp} {Z : Addr → Prop} : ∀ {ds vs k o}, Reps c H Z k ds vs o → k = 0 → o = [] → Reps c H Z 0 ds.reverse vs.reverse []
  | [], _, _, _, .nil, _, _ => .nil
  | d :: ds, _, _, _, .cons r rs, hk, ho => by
    obtain ⟨e1, e2⟩ := List.append_eq_nil_iff.mp ho
    subst e1 e2 hk
    rw [List.reverse_cons, List.reverse_cons]
    exact Reps.append (Reps.rev0 rs rfl rfl) (.cons0 r .nil)
theorem Reps.rev {c : Cw} {H : Hp} {Z : Addr → Prop} {ds vs} (r : Reps c H Z 0 ds vs []) : Reps c H Z 0 ds.reverse vs.reverse [] := r.rev0 rfl rfl
/-- what a function of the program promises -/
def spB (c : Cw) (fn : List D → Res Ent) (n : Nat) : Sp := fun vs H Q E => vs.length = n ∧ ∃ ds Z, (∀ a, Z a → H a ≠ none) ∧ Reps c H Z 0 ds vs [] ∧
  Fin (fn ds) (fun x => ∀ v H' os, ROk c H Z x.1 x.2 v H' os → Q v H') (fun x => ∀ cls dd H', Ext H H' → XRep c H' (Zn Z H H') x cls dd → E cls dd H')
theorem ExcG.zn {c : Cw} {W : WX} {σ : L2.St} {H H1 : Hp} {Z : Addr → Prop} {x : D} (e : Ext H H1) (h : ExcG c W σ H Z x) {cls : Value} {dd : Option Addr} {H' : Hp} (e' : Ext H1 H') (r : XRep c H' (Zn (Zn Z H H1) H1 H') x cls dd) : W cls dd σ H' :=
  h cls dd H' (e.trans e') (r.mono fun a q => q.elim (fun q => q.elim .inl fun q => .inr ⟨q.1, e'.ne q.2⟩) fun q => .inr ⟨e.none q.1, q.2⟩)
section
variable {X : Cx} {c : Cw} {W : WX} {S : Nat → Prop} {a b e i : Expr} {es : List Expr} {ea eb ec : Env → Res Ent} {el : Env → Res (List Ent)} {pos p : Pos} {Γ : Gm}
theorem be_call {k n : Nat} {f : Addr} {fd : FuncData} {ps : List Str} {x : Str} {fn : List D → Res Ent} (F : FnOkG X.prog X.w X.K X.mg X.base (L2.CX X.prog X.w) k f fd ps (spB X.cw fn n)) (tk : L2.Takes X W)
    (hr : Room k X.A) (gd : X.A.guards = some []) (hg : Gl X x) (hm : X.mg x = some (.ref f)) (hk : PySem.W.keepIn X.K (.ref f) = true) (hb : Binds X.K fd ps []) (hl : (e :: es).length = n)
    (ha : PA X (e :: es) (bL X.cw W S el)) (hlen : ∀ env xs, el env = .ok xs → xs.length = n) (hdb : (x == ("__debug__" : Str)) = false) (he : starEach (e :: es) X.env = (false, eval e X.env) :: starEach es X.env) (hpl : (backTo pos (starEach es X.env)).any (·.1) = false) :
    PE X (.Call (.Name x p) (e :: es) [] pos) (bE X.cw W S fun env => el env >>= fun xs => fn (xs.map (·.2))) := by
  refine (pe_callG (E := WE W) F hr gd hg hm hk hb (fun σ => passAt tk σ) ha hdb he hpl).imp fun σ H Q h => ?_
  obtain ⟨env, Z, er, h⟩ := h
  refine ⟨env, Z, er, h.bind.mono (fun xs ex hx vs H1 os r => ?_) fun _ q => q⟩
  have z1 := Zn.there er.there r.ext
  refine ⟨by rw [← r.rep.length]; exact hlen env xs ex, xs.map (·.2), Zn Z H H1, z1, r.frozen, hx.mono (fun x _ hq v H' os' rv => hq v H' os' (rv.trans r.ext fun a z => z)) fun x hq cls dd H' e' rx => hq.zn r.ext e' rx⟩
theorem be_idx (hu : X.A.units + 65 < cLine) (ha : PE X a (bE X.cw W S ea)) (hb : PE X b (bE X.cw W S eb)) (hs : PlainIx b) :
    PE X (.Subscript a b pos) (bE X.cw W S fun env => ea env >>= fun x => eb env >>= fun y => Res.of (idxD x.2 y.2)) := (pe_ix (ix_all hu) ha hb hs).imp fun σ H Q h => red2 pr_idx h
/-! ### slices -/
def bO (c : Cw) (W : WX) (S : Nat → Prop) (ev : Env → Res (Option Int)) : TO := fun σ H Q => ∃ env Z, EnvR c H Z S σ env ∧
  Fin (ev env) (fun o => ∀ H', Ext H H' → Q o H') (ExcG c W σ H Z)
theorem bo_none : PO X none (bO c W S fun _ => .ok none) := ⟨fun pins s σ H Q I h => po_none.run pins s σ H Q I (by obtain ⟨env, Z, er, h⟩ := h; exact h H (Ext.refl H))⟩
theorem bo_some (he : PE X e (bE c W S ea)) : PO X (some e) (bO c W S fun env => ea env >>= fun x => match x.2 with | .int i => .ok (some i) | _ => .stuck) :=
  ⟨fun pins s σ H Q I h => (po_some he).run pins s σ H Q I (by
    obtain ⟨env, Z, er, h⟩ := h
    refine step er h fun x v H1 os er1 rx hf => ?_
    split at hf
    · rename_i i ei
      have rf := rx.frozen
      rw [ei] at rf
      exact ⟨i, rf.int_, hf H1 rx.ext⟩
    · exact hf.elim)⟩
theorem be_slc {lo hi : Option Expr} {el eh : Env → Res (Option Int)} {p2 : Pos} (ha : PE X a (bE X.cw W S ea)) (hl : PO X lo (bO X.cw W S el)) (hh : PO X hi (bO X.cw W S eh)) :
    PE X (.Subscript a (.Slice lo hi none p2) pos) (bE X.cw W S fun env => ea env >>= fun x => el env >>= fun l => eh env >>= fun h => Res.of (slcD x.2 l h)) := by
  refine (pe_slice sl_all ha hl hh).imp fun σ H Q h => ?_
  obtain ⟨env, Z, er, h⟩ := h
  refine step er h fun x v H1 os er1 rx hf => ?_
  refine ⟨env, Z, er1, hf.bind.mono (fun l _ hl' H2 e2 => ?_) fun _ q => q⟩
  refine ⟨env, Z, er1.ext e2, hl'.bind.mono (fun h _ hh' H3 e3 => ?_) fun _ q => q.ext e2⟩
  obtain ⟨y, ey, q⟩ := hh'.of
  have e13 := e2.trans e3
  exact pr_slc (Z := Zn Z H H3) (rx.frozen.mono e13 (Zn.up e13)) ey fun u H' os' ru => q u H' os' (ru.trans (rx.ext.trans e13) fun a z => z)
theorem be_rev {k : Nat} {p1 p2 p3 : Pos} (ha : PE X a (bE X.cw W S ea)) : PE X (.Subscript a (.Slice none none (some (.UnaryOp .USub (.Constant (.int 1) k p1) p2)) p3) pos) (bE X.cw W S fun env => ea env >>= fun x => match x.2 with
    | .lst ds => .ok (1, .lst ds.reverse)
    | _ => .stuck) := by
  refine (pe_revL ha).imp fun σ H Q h => ?_
  obtain ⟨env, Z, er, h⟩ := h
  refine step er h fun x v H1 os er1 rx hf => ?_
  split at hf
  · rename_i ds ed
    have rf := rx.frozen
    rw [ed] at rf
    obtain ⟨a, vs, rfl, g, r⟩ := rf.lst_
    have rr := r.rev
    exact ⟨a, vs, rfl, SqL.of g, fun p hp => hf _ _ _ ((ROk.lst rr hp).trans rx.ext fun a z => z)⟩
  · exact hf.elim
/-! ### list(range(n)) -/
theorem be_lrng {q : Pos} (hc : X.calm = true) (hg : Gl X "list") (hm : X.mg "list" = none) (hg2 : Gl X "range") (hm2 : X.mg "range" = none) (ha : PE X a (bE X.cw W S ea)) (na : starEach [a] X.env = (false, eval a X.env) :: starEach [] X.env) {p2 : Pos}
    (na2 : starEach [Expr.Call (.Name "range" q) [a] [] p2] X.env = (false, eval (.Call (.Name "range" q) [a] [] p2) X.env) :: starEach [] X.env) :
    PE X (.Call (.Name "list" p) [.Call (.Name "range" q) [a] [] p2] [] pos) (bE X.cw W S fun env => ea env >>= fun x => match x.2 with
    | .int n => if -(2 ^ 62) ≤ n ∧ n ≤ 16777216 then .ok (1, .lst ((List.range n.toNat).map fun (i : Nat) => .int i)) else .stuck
    | _ => .stuck) := by
  refine (pe_listRg hc hg hm (prg_1 hg2 hm2 ha na) na2).imp fun σ H Q h => ?_
  obtain ⟨env, Z, er, h⟩ := h
  refine step er h fun x v H1 os er1 rx hf => ?_
  split at hf
  · rename_i n en
    have rf := rx.frozen
    rw [en] at rf
    by_cases hn : -(2 ^ 62) ≤ n ∧ n ≤ 16777216
    · rw [if_pos hn] at hf
      refine ⟨n, rf.int_, ⟨by omega, by omega, by omega, by omega, by omega⟩, fun q hq => hf _ _ _ ((ROk.lst (ds := (List.range n.toNat).map fun (i : Nat) => .int i) ?_ hq).trans rx.ext fun a z => z)⟩
      unfold rgV
      rw [show (n - 0).toNat = n.toNat by rw [Int.sub_zero]]
      generalize List.range n.toNat = is
      induction is with
      | nil => exact .nil
      | cons i is ih =>
        rw [List.map_cons, List.map_cons, Int.zero_add]
        exact .cons0 .int ih
    · rw [if_neg hn] at hf; exact hf.elim
  · exact hf.elim
/-! ### tuple(x) -/
theorem boot_tupl : bootBuiltins "tuple" = some (.type "tuple") := by decide +kernel
theorem be_tupl (hg : Gl X "tuple") (hm : X.mg "tuple" = none) (ha : PE X a (bE X.cw W S ea)) (na : starEach [a] X.env = (false, eval a X.env) :: starEach [] X.env) :
    PE X (.Call (.Name "tuple" p) [a] [] pos) (bE X.cw W S fun env => ea env >>= fun x => match x.2 with
    | .lst ds => .ok (if fu x = true then 8 else 0, .tup ds)
    | .tup ds => .ok (x.1, .tup ds)
    | _ => .stuck) := by
  refine (pe_callTy call_tuple_of hg hm boot_tupl (pa_cons ha pa_nil na) (by decide) (by decide) na (by rfl)).imp fun σ H Q h => ?_
  obtain ⟨env, Z, er, h⟩ := h
  refine step er h fun x v H1 os er1 rx hf => ?_
  obtain ⟨k, d⟩ := x
  cases d with
  | lst ds =>
    have hq : ∀ u H' os, ROk X.cw H Z (if fu (k, D.lst ds) = true then 8 else 0) (D.tup ds) u H' os → Q u H' := hf
    by_cases hfu : fu (k, D.lst ds) = true
    · rw [if_pos hfu] at hq
      have hr := rx.rep
      unfold fu at hfu
      rw [Bool.and_eq_true] at hfu
      cases hr with
      | lstF _ _ _ => simp [ful] at hfu
      | @lstO k' _ a' vs os' g rs =>
        have nd := rx.nd
        rw [List.nodup_cons] at nd
        refine ⟨a', vs, rfl, .inl ⟨SqL.of g, fun l hl => ?_⟩⟩
        have h8 : fuls 8 ds = true := fuls_up (by omega : 7 ≤ 8) (by simpa [ful] using hfu.2)
        refine hq (.ref l) _ os' ⟨rx.ext.trans (Ext.upd hl), .tup (SqT.of upd_same) ((rs.ful (Z' := fun _ => False) (by simpa [ful] using hfu.1) h8).mono (Ext.upd hl) fun _ q => q.elim), fun b q => rx.new b (List.mem_cons_of_mem _ q), nd.2⟩
    · rw [if_neg hfu] at hq
      obtain ⟨a', vs, rfl, g, rs⟩ := rx.frozen.lst_
      exact ⟨a', vs, rfl, .inl ⟨SqL.of g, fun l hl => hq _ _ _ ((ROk.tup rs hl).trans rx.ext fun a z => z)⟩⟩
  | tup ds =>
    have hf : Fin (Res.ok ((k, D.tup ds) : Ent)) _ _ := hf
    obtain ⟨a', vs, rfl, g, rs⟩ := rx.rep.tup_
    exact ⟨a', vs, rfl, .inr ⟨g, hf _ _ os rx⟩⟩
  | _ => exact hf.elim
/-! ### truths -/
theorem asB_of {x : Ent} {α : Type} {f : Bool → Res α} {P : α → Prop} {E : D → Prop} (h : Fin (asB x >>= f) P E) : ∃ b, x.2 = .bl b ∧ Fin (f b) P E := by
  obtain ⟨k, d⟩ := x
  cases d with
  | bl b => exact ⟨b, rfl, h⟩
  | _ => exact h.elim
theorem rep_b {H : Hp} {Z : Addr → Prop} {k : Nat} {x : D} {b : Bool} {v : V} {H' : Hp} {os : List Addr} (e : x = .bl b) (r : ROk c H Z k x v H' os) : v = .bl b := by subst e; exact r.rep.bl_
theorem be_not (ha : PE X a (bE X.cw W S ea)) : PE X (.UnaryOp .Not a pos) (bE X.cw W S fun env => ea env >>= fun x => asB x >>= fun b => .ok (ent (.bl (!b)))) := by
  refine (pe_not ha).imp fun σ H Q h => ?_
  obtain ⟨env, Z, er, h⟩ := h
  refine step er h fun x v H1 os er1 rx hf => ?_
  obtain ⟨b, eb, hf⟩ := asB_of hf
  exact ⟨b, rep_b eb rx, hf _ _ _ ((ROk.old .bl).trans (Z1 := Z) rx.ext fun _ z => .inl z)⟩
theorem be_neg (ha : PE X a (bE X.cw W S ea)) : PE X (.UnaryOp .USub a pos) (bE X.cw W S fun env => ea env >>= fun x => match x.2 with
    | .int i => .ok (ent (.int (-i)))
    | _ => .stuck) := by
  refine (pe_un un_neg ha).imp fun σ H Q h => ?_
  obtain ⟨env, Z, er, h⟩ := h
  refine step er h fun x v H1 os er1 rx hf => ?_
  split at hf
  · rename_i i ei
    have rf := rx.frozen
    rw [ei] at rf
    exact ⟨i, rf.int_, hf _ _ _ ((ROk.old .int).trans (Z1 := Z) rx.ext fun _ z => .inl z)⟩
  · exact hf.elim
theorem be_and {rest : List Expr} (ha : PE X a (bE X.cw W S ea)) (hb : PE X (.BoolOp .And (b :: rest) pos) (bE X.cw W S eb)) :
    PE X (.BoolOp .And (a :: b :: rest) pos) (bE X.cw W S fun env => ea env >>= fun x => asB x >>= fun c => if c = true then eb env else .ok (ent (.bl false))) := by
  refine (pe_and ha hb).imp fun σ H Q h => ?_
  obtain ⟨env, Z, er, h⟩ := h
  refine step er h fun x v H1 os er1 rx hf => ?_
  obtain ⟨b, eb, hf⟩ := asB_of hf
  refine ⟨b, rep_b eb rx, ?_⟩
  cases b with
  | true =>
    simp only [if_true] at hf ⊢
    exact ⟨env, Z, er1, hf.mono (fun y _ q v H' os' r => q v H' os' (r.trans rx.ext fun _ z => .inl z)) fun _ q => q⟩
  | false =>
    simp only [Bool.false_eq_true, if_false] at hf ⊢
    exact hf _ _ _ ((ROk.old .bl).trans (Z1 := Z) rx.ext fun _ z => .inl z)
theorem be_or {rest : List Expr} (ha : PE X a (bE X.cw W S ea)) (hb : PE X (.BoolOp .Or (b :: rest) pos) (bE X.cw W S eb)) :
    PE X (.BoolOp .Or (a :: b :: rest) pos) (bE X.cw W S fun env => ea env >>= fun x => asB x >>= fun c => if c = true then .ok (ent (.bl true)) else eb env) := by
  refine (pe_or ha hb).imp fun σ H Q h => ?_
  obtain ⟨env, Z, er, h⟩ := h
  refine step er h fun x v H1 os er1 rx hf => ?_
  obtain ⟨b, eb, hf⟩ := asB_of hf
  refine ⟨b, rep_b eb rx, ?_⟩
  cases b with
  | false =>
    simp only [Bool.false_eq_true, if_false] at hf ⊢
    exact ⟨env, Z, er1, hf.mono (fun y _ q v H' os' r => q v H' os' (r.trans rx.ext fun _ z => .inl z)) fun _ q => q⟩
  | true =>
    simp only [if_true] at hf ⊢
    exact hf _ _ _ ((ROk.old .bl).trans (Z1 := Z) rx.ext fun _ z => .inl z)
theorem be_ife {q : Expr} {et : Env → Res Bool} (hc : PT X q (bT X.cw W S et)) (ha : PE X a (bE X.cw W S ea)) (hb : PE X b (bE X.cw W S eb)) :
    PE X (.IfExp q a b pos) (bE X.cw W S fun env => et env >>= fun c => if c = true then ea env else eb env) := by
  refine (pe_ifExp hc ha hb).imp fun σ H Q h => ?_
  obtain ⟨env, Z, er, h⟩ := h
  refine stepT er h fun x H1 er1 e1 hf => ?_
  cases x with
  | true =>
    simp only [if_true] at hf ⊢
    exact ⟨env, Z, er1, hf.mono (fun y _ q v H' os' r => q v H' os' (r.trans e1 fun _ z => .inl z)) fun _ q => q⟩
  | false =>
    simp only [Bool.false_eq_true, if_false] at hf ⊢
    exact ⟨env, Z, er1, hf.mono (fun y _ q v H' os' r => q v H' os' (r.trans e1 fun _ z => .inl z)) fun _ q => q⟩
/-! ### tests -/
theorem bT_test {ev : Env → Res Ent} {σ : L2.St} {H : Hp} {Q : Bool → Hp → Prop} (h : bT c W S (fun env => ev env >>= asB) σ H Q) : bE c W S ev σ H fun x H' => ∃ k, x = .bl k ∧ Q k H' := by
  obtain ⟨env, Z, er, h⟩ := h
  refine step er h fun x v H1 os er1 rx hf => ?_
  have hf' : Fin (asB x >>= fun b => (Res.ok b)) (fun b => ∀ H', Ext H H' → Q b H') (ExcG c W σ H1 Z) := by
    cases e : asB x <;> (rw [e] at hf; exact hf)
  obtain ⟨b, eb, hf'⟩ := asB_of hf'
  exact ⟨b, rep_b eb rx, hf' H1 rx.ext⟩
theorem bt_val (ha : PE X a (bE X.cw W S ea)) (he : ∀ whole, isTrue a X.env whole = (do let v ← whole; standAt a.pos; holding [v] (truthy v))) : PT X a (bT X.cw W S fun env => ea env >>= asB) :=
  (pt_val ha he).imp fun σ H Q h => bT_test h
theorem bt_cmp {op : CmpOp} {r : R2} {f : D → D → Option Ent} (ho : OpR X (compareOp op) r) (pr : Pr2 X.cw r f) (ha : PE X a (bE X.cw W S ea)) (hb : PE X b (bE X.cw W S eb)) (hm : behindInMarks op b = false) :
    PT X (.Compare a [op] [b] pos) (bT X.cw W S fun env => (ea env >>= fun x => eb env >>= fun y => Res.of (f x.2 y.2)) >>= asB) := (pt_cmpR ho ha hb hm).imp fun σ H Q h => red2 pr (bT_test h)
theorem bt_not {et : Env → Res Bool} (ha : PT X a (bT X.cw W S et)) : PT X (.UnaryOp .Not a pos) (bT X.cw W S fun env => et env >>= fun b => .ok (!b)) := by
  refine (pt_not ha).imp fun σ H Q h => ?_
  obtain ⟨env, Z, er, h⟩ := h
  exact stepT er h fun x H1 er1 e1 hf => hf H1 e1
theorem bt_and1 {et : Env → Res Bool} (ha : PT X a (bT X.cw W S et)) : PW X (.BoolOp .And [a] pos) (bT X.cw W S et) := pw_and1 ha
theorem bt_or1 {et : Env → Res Bool} (ha : PT X a (bT X.cw W S et)) : PW X (.BoolOp .Or [a] pos) (bT X.cw W S et) := pw_or1 ha
theorem bt_and {et eu : Env → Res Bool} {rest : List Expr} (ha : PT X a (bT X.cw W S et)) (hb : PW X (.BoolOp .And (b :: rest) pos) (bT X.cw W S eu)) :
    PW X (.BoolOp .And (a :: b :: rest) pos) (bT X.cw W S fun env => et env >>= fun c => if c = true then eu env else .ok false) := by
  refine (pw_and ha hb).imp fun σ H Q h => ?_
  obtain ⟨env, Z, er, h⟩ := h
  refine stepT er h fun x H1 er1 e1 hf => ?_
  cases x with
  | true =>
    simp only [if_true] at hf ⊢
    exact ⟨env, Z, er1, hf.mono (fun y _ q H' e' => q H' (e1.trans e')) fun _ q => q⟩
  | false =>
    simp only [Bool.false_eq_true, if_false] at hf ⊢
    exact hf H1 e1
theorem bt_or {et eu : Env → Res Bool} {rest : List Expr} (ha : PT X a (bT X.cw W S et)) (hb : PW X (.BoolOp .Or (b :: rest) pos) (bT X.cw W S eu)) :
    PW X (.BoolOp .Or (a :: b :: rest) pos) (bT X.cw W S fun env => et env >>= fun c => if c = true then .ok true else eu env) := by
  refine (pw_or ha hb).imp fun σ H Q h => ?_
  obtain ⟨env, Z, er, h⟩ := h
  refine stepT er h fun x H1 er1 e1 hf => ?_
  cases x with
  | false =>
    simp only [Bool.false_eq_true, if_false] at hf ⊢
    exact ⟨env, Z, er1, hf.mono (fun y _ q H' e' => q H' (e1.trans e')) fun _ q => q⟩
  | true =>
    simp only [if_true] at hf ⊢
    exact hf H1 e1
/-- a comparison of three -/
theorem red3 {ea eb ec : Env → Res Ent} {f g : D → D → Option Ent} {r r' : R2} {σ : L2.St} {H : Hp} {Q : VK} (pr : Pr2 c r f) (pr' : Pr2 c r' g)
    (h : bE c W S (fun env => ea env >>= fun x => eb env >>= fun y => Res.of (f x.2 y.2) >>= fun z => asB z >>= fun k => if k = true then ec env >>= fun w => Res.of (g y.2 w.2) else .ok (ent (.bl false))) σ H Q) :
    tChain r r' (bE c W S ea) (bE c W S eb) (bE c W S ec) σ H Q := by
  obtain ⟨env, Z, er, h⟩ := h
  refine step er h fun x v H1 os er1 rx hf => ?_
  refine step er1 hf fun y w H2 os2 er2 ry hf => ?_
  cases ez : f x.2 y.2 with
  | none => rw [ez] at hf; exact hf.elim
  | some z =>
    rw [ez] at hf
    refine pr H2 (Zn Z H H2) v w x.2 y.2 z _ (Zn.there er.there (rx.ext.trans ry.ext)) (rx.frozen.mono ry.ext (Zn.up ry.ext)) (ry.frozen.mono (Ext.refl _) (Zn.trans rx.ext ry.ext)) ez fun u H3 os3 ru => ?_
    have er3 := er2.ext ru.ext
    have hf2 := Fin.mono hf (fun _ _ q => q) fun _ (q : ExcG c W σ H2 Z _) => q.ext ru.ext
    obtain ⟨k, ek, hf⟩ := asB_of hf2
    refine ⟨k, rep_b ek ru, ?_⟩
    have e13 := (rx.ext.trans ry.ext).trans ru.ext
    cases k with
    | true =>
      simp only [if_true] at hf ⊢
      refine step er3 hf fun t q H4 os4 er4 rt hf => ?_
      obtain ⟨o, eo, hq⟩ := hf.of
      have e24 := ru.ext.trans rt.ext
      have e14 := e13.trans rt.ext
      exact pr' H4 (Zn Z H H4) w q y.2 t.2 o Q (Zn.there er.there e14) ((ry.frozen.mono (Ext.refl _) (Zn.trans rx.ext ry.ext)).mono e24 (Zn.up e24)) (rt.frozen.mono (Ext.refl _) (Zn.trans e13 rt.ext)) eo
        fun u' H5 os5 r5 => hq u' H5 os5 (r5.trans e14 fun _ z => z)
    | false =>
      simp only [Bool.false_eq_true, if_false] at hf ⊢
      exact hf _ _ _ ((ROk.old .bl).trans (Z1 := Z) e13 fun _ z => .inl z)
theorem be_chain {op op' : CmpOp} {d : Expr} {r r' : R2} {f g : D → D → Option Ent} (ho : OpR X (compareOp op) r) (ho' : OpR X (compareOp op') r') (pr : Pr2 X.cw r f) (pr' : Pr2 X.cw r' g) (ha : PE X a (bE X.cw W S ea)) (hb : PE X b (bE X.cw W S eb)) (hd : PE X d (bE X.cw W S ec))
    (hm : lastMarks [op, op'] [b, d] = false) : PE X (.Compare a [op, op'] [b, d] pos) (bE X.cw W S fun env => ea env >>= fun x => eb env >>= fun y => Res.of (f x.2 y.2) >>= fun z => asB z >>= fun k => if k = true then ec env >>= fun w => Res.of (g y.2 w.2) else .ok (ent (.bl false))) :=
  (pe_chain ho ho' ha hb hd hm).imp fun σ H Q h => red3 pr pr' h
theorem bt_chain {op op' : CmpOp} {d : Expr} {r r' : R2} {f g : D → D → Option Ent} (ho : OpR X (compareOp op) r) (ho' : OpR X (compareOp op') r') (pr : Pr2 X.cw r f) (pr' : Pr2 X.cw r' g) (ha : PE X a (bE X.cw W S ea)) (hb : PE X b (bE X.cw W S eb)) (hd : PE X d (bE X.cw W S ec))
    (hm : lastMarks [op, op'] [b, d] = false) : PT X (.Compare a [op, op'] [b, d] pos) (bT X.cw W S fun env => (ea env >>= fun x => eb env >>= fun y => Res.of (f x.2 y.2) >>= fun z => asB z >>= fun k => if k = true then ec env >>= fun w => Res.of (g y.2 w.2) else .ok (ent (.bl false))) >>= asB) :=
  (pt_chain ho ho' ha hb hd hm).imp fun σ H Q h => red3 pr pr' (bT_test h)
end
end MP

/-! MPm: what is walked. -/
namespace MP
open PySem PySem.Spec PyProof.Rows L2 RZ
/-- what a statement may change -/
def MutO : HO → Prop
  | .lst _ => True
  | .dK _ => True
  | _ => False
/-- what stands for ever, and U, are kept -/
def Kp (U : Addr → Prop) (H H2 : Hp) : Prop := ∀ b o, H b = some o → (U b ∨ ¬ MutO o) → H2 b = some o
section
variable {c : Cw} {H H1 H2 H3 : Hp} {U U' Z : Addr → Prop}
theorem Ext.kp (e : Ext H H2) : Kp U H H2 := fun b o h _ => e b o h
theorem Kp.refl : Kp U H H := fun _ _ h _ => h
theorem Kp.trans (a : Kp U H H1) (b : Kp U H1 H2) : Kp U H H2 := fun x o h q => b x o (a x o h q) q
theorem Kp.sub (a : Kp U H H1) (h : ∀ b, U' b → U b) : Kp U' H H1 := fun x o e q => a x o e (q.elim (fun q => .inl (h x q)) .inr)
theorem Kp.upd {b : Addr} {o : HO} (a : Kp U H H1) (hu : ¬ U b) (hm : ∀ u, H b = some u → MutO u) : Kp U H (upd H1 b o) := fun x u e q => by
  have : x ≠ b := fun z => by
    subst z
    exact q.elim hu fun n => n (hm u e)
  rw [upd_ne this]
  exact a x u e q
theorem Kp.sqT {K : PySem.W.Frag} {a : Addr} {xs : List V} (k : Kp U H H2) (h : SqT K H a xs) : SqT K H2 a xs := by
  rcases h with (h | ⟨o, h⟩) | h
  · exact .inl (.inl (k _ _ h (.inr fun z => z)))
  · exact .inl (.inr ⟨o, k _ _ h (.inr fun z => z)⟩)
  · exact .inr h
theorem Kp.sqS {K : PySem.W.Frag} {a : Addr} {xs : List V} (k : Kp Z H H2) (h : SqS K H Z a xs) : SqS K H2 Z a xs := by
  rcases h with h | ⟨o, h⟩ | h
  · exact .inl ⟨k _ _ h.1 (.inl h.2), h.2⟩
  · exact .inr (.inl ⟨o, k _ _ h (.inr fun z => z)⟩)
  · exact .inr (.inr h)
mutual
theorem Rep.kp {Z : Addr → Prop} : ∀ {k d v os}, Rep c H Z k d v os → Kp Z H H2 → (∀ a ∈ os, H2 a = H a) → Rep c H2 Z k d v os
  | _, _, _, _, .non, _, _ => .non
  | _, _, _, _, .bl, _, _ => .bl
  | _, _, _, _, .int, _, _ => .int
  | _, _, _, _, .str, _, _ => .str
  | _, _, _, _, .tup h r, e, q => .tup (e.sqT h) (Reps.kp r e q)
  | _, _, _, _, .scr h r, e, q => .scr (e.sqS h) (Reps.kp r e q)
  | _, _, _, _, .lstF h z r, e, q => .lstF (e _ _ h (.inl z)) z (Reps.kp r e q)
  | _, _, _, _, .lstO h r, e, q => .lstO ((q _ List.mem_cons_self).trans h) (Reps.kp r e fun a z => q a (List.mem_cons_of_mem _ z))
  | _, _, _, _, .dctF h z e1 e2 r, e, q => .dctF (e _ _ h (.inl z)) z e1 e2 (Reps.kp r e q)
  | _, _, _, _, .dctZ h e1 e2 r, e, q => .dctZ (e _ _ h (.inr fun z => z)) e1 e2 (Reps.kp r e q)
  | _, _, _, _, .dctO h e1 e2 r, e, q => .dctO ((q _ List.mem_cons_self).trans h) e1 e2 (Reps.kp r e fun a z => q a (List.mem_cons_of_mem _ z))
  | _, _, _, _, .exc0 g h, e, _ => .exc0 g (e _ _ h (.inr fun z => z))
  | _, _, _, _, .exc1 n g h d l r, e, q => .exc1 n g (e _ _ h (.inr fun z => z)) (e _ _ d (.inr fun z => z)) l (Reps.kp r e q)
theorem Reps.kp {Z : Addr → Prop} : ∀ {k ds vs os}, Reps c H Z k ds vs os → Kp Z H H2 → (∀ a ∈ os, H2 a = H a) → Reps c H2 Z k ds vs os
  | _, _, _, _, .nil, _, _ => .nil
  | _, _, _, _, .cons r rs, e, q => .cons (r.kp e fun a z => q a (List.mem_append_left _ z)) (Reps.kp rs e fun a z => q a (List.mem_append_right _ z))
end
/-- an iterator that gives these -/
def IterOk (c : Cw) (H : Hp) (Z : Addr → Prop) (J : It) (ds : List D) : Prop := ∃ Y, Walk J ds.length (fun H2 => Kp Z H H2) Y ∧
  ∀ i d, ds[i]? = some d → ∀ H2 x H3, Kp Z H H2 → Y i H2 x H3 → Ext H2 H3 ∧ (∀ a, H3 a = none → H2 a = none) ∧ Rep c H3 (Zn Z H2 H3) 0 d x []
theorem itk_of {J : It} {ds : List D} {Y : Nat → Hp → V → Hp → Prop} {n : Nat} (hn : n = ds.length) (w : Walk J n (fun H2 => Kp Z H H2) Y)
    (h : ∀ i d, ds[i]? = some d → ∀ H2 x H3, Kp Z H H2 → Y i H2 x H3 → Ext H2 H3 ∧ (∀ a, H3 a = none → H2 a = none) ∧ Rep c H3 (Zn Z H2 H3) 0 d x []) : IterOk c H Z J ds := ⟨Y, hn ▸ w, h⟩
theorem it_lst {a : Addr} {vs : List V} {ds : List D} (g : ∀ H2, Kp Z H H2 → SqL c.K H2 a vs) (r : Reps c H Z 0 ds vs []) : IterOk c H Z (Itl c.K a) ds :=
  itk_of r.length.symm (walk_list.mono g fun _ _ _ _ _ _ y => y) fun i d hd H2 x H3 k y => by
    obtain ⟨rfl, y⟩ := y
    obtain ⟨v, hv, rv⟩ := r.get hd
    rw [y] at hv
    cases hv
    exact ⟨Ext.refl _, fun _ h => h, (rv.kp k fun _ h => by cases h).mono (Ext.refl _) fun _ q => .inl q⟩
theorem it_tup {a : Addr} {vs : List V} {ds : List D} (g : SqT c.K H a vs) (r : Reps c H Z 0 ds vs []) : IterOk c H Z (Itt c.K a) ds :=
  itk_of r.length.symm (walk_tup.mono (fun _ k => k.sqT g) fun _ _ _ _ _ _ y => y) fun i d hd H2 x H3 k y => by
    obtain ⟨rfl, y⟩ := y
    obtain ⟨v, hv, rv⟩ := r.get hd
    rw [y] at hv
    cases hv
    exact ⟨Ext.refl _, fun _ h => h, (rv.kp k fun _ h => by cases h).mono (Ext.refl _) fun _ q => .inl q⟩
theorem it_str {z : Str} : IterOk c H Z (Its z) (z.cps.toList.map fun c => .str ⟨#[c]⟩) :=
  itk_of (by simp) (walk_str.mono (fun _ _ => trivial) fun _ _ _ _ _ _ y => y) fun i d hd H2 x H3 k y => by
    obtain ⟨rfl, c, hc, rfl⟩ := y
    simp only [List.getElem?_map, Array.getElem?_toList, hc, Option.map_some, Option.some.injEq] at hd
    subst hd
    exact ⟨Ext.refl _, fun _ h => h, .str⟩
theorem it_rng {lo : Int} {n : Nat} : IterOk c H Z (Itr lo n) ((List.range n).map fun (i : Nat) => .int (lo + i)) :=
  itk_of (by simp) (walk_range.mono (fun _ _ => trivial) fun _ _ _ _ _ _ y => y) fun i d hd H2 x H3 k y => by
    obtain ⟨rfl, rfl⟩ := y
    simp only [List.getElem?_map, Option.map_eq_some_iff] at hd
    obtain ⟨j, hj, rfl⟩ := hd
    obtain ⟨_, rfl⟩ := List.getElem?_eq_some_iff.mp hj
    rw [List.getElem_range]
    exact ⟨Ext.refl _, fun _ h => h, .int⟩
theorem it_rngC {lo st : Int} {n : Nat} : IterOk c H Z (Itc lo st n) ((List.range n).map fun (i : Nat) => .int (lo + i * st)) :=
  itk_of (by simp) (walk_rangeC.mono (fun _ _ => trivial) fun _ _ _ _ _ _ y => y) fun i d hd H2 x H3 k y => by
    obtain ⟨rfl, rfl⟩ := y
    simp only [List.getElem?_map, Option.map_eq_some_iff] at hd
    obtain ⟨j, hj, rfl⟩ := hd
    obtain ⟨_, rfl⟩ := List.getElem?_eq_some_iff.mp hj
    rw [List.getElem_range]
    exact ⟨Ext.refl _, fun _ h => h, .int⟩
theorem upd_none {H : Hp} {T a : Addr} {o : HO} (h : upd H T o a = none) : H a = none := by
  by_cases e : a = T
  · subst e; rw [upd_same] at h; cases h
  · rwa [upd_ne e] at h
theorem it_pair {T : Addr} {x y : V} {d e : D} (k : Kp Z H H2) (hT : H2 T = none) (rx : Rep c H Z 0 d x []) (ry : Rep c H Z 0 e y []) :
    Ext H2 (upd H2 T (.tup [x, y])) ∧ (∀ a, upd H2 T (.tup [x, y]) a = none → H2 a = none) ∧ Rep c (upd H2 T (.tup [x, y])) (Zn Z H2 (upd H2 T (.tup [x, y]))) 0 (.tup [d, e]) (.ref T) [] := by
  have e1 : Ext H2 (upd H2 T (.tup [x, y])) := Ext.upd hT
  refine ⟨e1, fun a h => upd_none h, .tup (SqT.of upd_same) (.cons0 ?_ (.cons0 ?_ .nil))⟩
  · exact (rx.kp k fun _ h => by cases h).mono e1 fun _ q => .inl q
  · exact (ry.kp k fun _ h => by cases h).mono e1 fun _ q => .inl q
theorem it_enum {a : Addr} {vs : List V} {ds : List D} (g : ∀ H2, Kp Z H H2 → SqL c.K H2 a vs) (r : Reps c H Z 0 ds vs []) : IterOk c H Z (Ite c.K a) (ds.zipIdx.map fun p => .tup [.int p.2, p.1]) :=
  itk_of (by simp [r.length]) (walk_enum.mono g fun _ _ _ _ _ _ y => y) fun i d hd H2 x H3 k y => by
    obtain ⟨T, p, q, rfl, hT, rfl, hp, hq⟩ := y
    cases hp
    simp only [List.getElem?_map, List.getElem?_zipIdx, Option.map_map, Option.map_eq_some_iff] at hd
    obtain ⟨e, he, rfl⟩ := hd
    obtain ⟨v, hv, rv⟩ := r.get he
    have hv' : q = v := by
      have : some q = some v := hq.symm.trans hv
      cases this; rfl
    subst hv'
    simp only [Function.comp, Nat.zero_add]
    exact it_pair k hT .int rv
theorem it_zipL {a b : Addr} {vs ws : List V} {ds es : List D} (g : ∀ H2, Kp Z H H2 → SqL c.K H2 a vs) (g2 : ∀ H2, Kp Z H H2 → SqL c.K H2 b ws) (r : Reps c H Z 0 ds vs []) (r2 : Reps c H Z 0 es ws []) :
    IterOk c H Z (Itz c.K a b) ((ds.zip es).map fun p => .tup [p.1, p.2]) :=
  itk_of (n := min vs.length ws.length) (by simp [r.length, r2.length]) ((walk_zip rfl).mono (fun H2 k => ⟨g H2 k, g2 H2 k⟩) fun _ _ _ _ _ _ y => y) fun i d hd H2 x H3 k y => by
    obtain ⟨T, p, q, rfl, hT, rfl, hp, hq⟩ := y
    simp only [List.getElem?_map, Option.map_eq_some_iff] at hd
    obtain ⟨⟨d1, d2⟩, he, rfl⟩ := hd
    rw [List.getElem?_zip_eq_some] at he
    obtain ⟨v, hv, rv⟩ := r.get he.1
    obtain ⟨w, hw, rw'⟩ := r2.get he.2
    cases hp.symm.trans hv
    cases hq.symm.trans hw
    exact it_pair k hT rv rw'
theorem walk_zipT {K : PySem.W.Frag} {a b : Addr} {xs ys : List V} {n : Nat} (hn : n = min xs.length ys.length) : Walk (ItzT K a b) n (fun H => SqT K H a xs ∧ SqT K H b ys) (YPair (fun i => xs[i]?) (fun i => ys[i]?)) := by
  subst hn
  refine ⟨fun i _ hi q => ?_, fun _ q => ⟨xs, ys, q.1, q.2, by omega⟩, fun i H v H' _ q z => ?_⟩
  · have l1 : i < xs.length := by omega
    have l2 : i < ys.length := by omega
    exact ⟨xs, ys, xs[i], ys[i], q.1, q.2, by simp [l1], by simp [l2]⟩
  · obtain ⟨T, x, y, z1, z2, z3, z4, z5⟩ := z
    exact ⟨T, x, y, z1, z2, z3, z4 xs q.1, z5 ys q.2⟩
theorem it_zipT {a b : Addr} {vs ws : List V} {ds es : List D} (g : SqT c.K H a vs) (g2 : SqT c.K H b ws) (r : Reps c H Z 0 ds vs []) (r2 : Reps c H Z 0 es ws []) :
    IterOk c H Z (ItzT c.K a b) ((ds.zip es).map fun p => .tup [p.1, p.2]) :=
  itk_of (n := min vs.length ws.length) (by simp [r.length, r2.length]) ((walk_zipT rfl).mono (fun H2 k => ⟨k.sqT g, k.sqT g2⟩) fun _ _ _ _ _ _ y => y) fun i d hd H2 x H3 k y => by
    obtain ⟨T, p, q, rfl, hT, rfl, hp, hq⟩ := y
    simp only [List.getElem?_map, Option.map_eq_some_iff] at hd
    obtain ⟨⟨d1, d2⟩, he, rfl⟩ := hd
    rw [List.getElem?_zip_eq_some] at he
    obtain ⟨v, hv, rv⟩ := r.get he.1
    obtain ⟨w, hw, rw'⟩ := r2.get he.2
    cases hp.symm.trans hv
    cases hq.symm.trans hw
    exact it_pair k hT rv rw'
/-- a list that is never changed any more -/
theorem Rep.lstG {k ds v os} (r : Rep c H Z k (.lst ds) v os) (hk : k = 0) : ∃ a vs, v = .ref a ∧ (∀ H2, Kp Z H H2 → SqL c.K H2 a vs) ∧ Reps c H Z 0 ds vs [] := by
  cases r with
  | lstF e z rs => exact ⟨_, _, rfl, fun H2 k => SqL.of (k _ _ e (.inl z)), rs⟩
  | lstO => cases hk
end
end MP

/-! MPn: iterables, targets, comprehensions. -/
namespace MP
open PySem PySem.Spec PyProof.Rows L2 RZ
mutual
/-- the slots of a target -/
inductive tgIn (i : Nat) : Tg → Prop
  | nm : tgIn i (.nm i)
  | tup {ts} : tgsIn i ts → tgIn i (.tup ts)
inductive tgsIn (i : Nat) : List Tg → Prop
  | hd {t ts} : tgIn i t → tgsIn i (t :: ts)
  | tl {t ts} : tgsIn i ts → tgsIn i (t :: ts)
end
theorem wipe_set {σ : L2.St} {i : Nat} {v : Option V} : ∀ {l : List Nat}, i ∈ l → L2.wipe (σ.set i v) l = L2.wipe σ l
  | j :: l, h => by
    unfold L2.wipe
    by_cases e : i = j
    · subst e
      by_cases hl : i ∈ l
      · rw [wipe_set hl]
      · have : ∀ (l : List Nat), i ∉ l → L2.wipe (σ.set i v) l = (L2.wipe σ l).set i v := by
          intro l
          induction l with
          | nil => intro _; rfl
          | cons k l ih =>
            intro hk
            unfold L2.wipe
            rw [ih fun z => hk (List.mem_cons_of_mem _ z), List.set_comm _ _ fun z : i = k => hk (z ▸ List.mem_cons_self)]
        rw [this l hl, List.set_set]
    · rw [wipe_set (by
        rcases List.mem_cons.mp h with z | z
        · exact absurd z e
        · exact z)]
theorem bindTgs_length {M B : List Nat} {k : Nat} : ∀ {ts : List Tg} {ds : List D} {env env' : Env}, bindTgs M B ts k ds env = some env' → ds.length = ts.length
  | [], [], _, _, _ => rfl
  | [], _ :: _, _, _, h => by cases h
  | t :: ts, [], _, _, h => by cases h
  | t :: ts, d :: ds, env, env', h => by
    obtain ⟨e1, _, h2⟩ := Option.bind_eq_some_iff.mp (show (bindTg M B t (k, d) env).bind (fun env' => bindTgs M B ts k ds env') = some env' from h)
    rw [List.length_cons, List.length_cons, bindTgs_length h2]
section
variable {X : Cx} {c : Cw} {W : WX} {S : Nat → Prop} {tg e e2 : Expr} {ea : Env → Res Ent} {el : Env → Res (List Ent)} {pos p tpos : Pos}
def it1 : List D → Option (List D)
  | [.int n] => iterD .rng [.int n]
  | _ => none
def it2 : List D → Option (List D)
  | [.int n, .int m] => iterD .rng [.int n, .int m]
  | _ => none
def it3 : List D → Option (List D)
  | [.int n, .int m, .int k] => iterD .rng [.int n, .int m, .int k]
  | _ => none
def itE : List D → Option (List D)
  | [.lst ds] => iterD .enum [.lst ds]
  | _ => none
def itZ : List D → Option (List D)
  | [.lst as, .lst bs] => iterD .zip [.lst as, .lst bs]
  | [.tup as, .tup bs] => iterD .zip [.tup as, .tup bs]
  | _ => none
/-- what is walked, as a reading -/
def bI (c : Cw) (W : WX) (S : Nat → Prop) (ev : Env → Res (List D)) : TI := fun σ H R => ∃ env Z, EnvR c H Z S σ env ∧
  Fin (ev env) (fun ds => ∀ J H1, Ext H H1 → IterOk c H1 (Zn Z H H1) J ds → R J H1) (ExcG c W σ H Z)
/-- a list, a tuple, a text: as it comes -/
def iSeq (K : PySem.W.Frag) (te : TE) : TI := fun σ H R => te σ H fun x H1 => (∃ a, x = .ref a ∧ (∃ xs, SqL K H1 a xs) ∧ R (Itl K a) H1) ∨ (∃ a, x = .ref a ∧ (∃ xs, SqT K H1 a xs) ∧ R (Itt K a) H1) ∨ ∃ z, x = .str z ∧ R (Its z) H1
theorem pi_seq {te : TE} (he : PE X e te) : PI X tg e (iSeq X.K te) := by
  refine ⟨fun pins s σ H R I h => ?_⟩
  refine thn (he.run pins s σ H _ I h) fun v s1 ⟨x, H1, I1, r1, q1⟩ => ?_
  rcases q1 with ⟨a, rfl, ⟨xs, hx⟩, q⟩ | ⟨a, rfl, ⟨xs, hx⟩, q⟩ | ⟨z, rfl, q⟩
  · cases r1
    obtain ⟨its, _, il, _⟩ := I1.list hx
    exact wpAny_pyIter_list il.isList (pi_one (tk := s1.toks) I1 _ (turn_list a _) ⟨_, Heap.get?_push_size _ rfl, rfl, rfl⟩ q)
  · cases r1
    obtain ⟨its, _, it, _⟩ := I1.tuple hx
    exact wpAny_pyIter_tuple (show s1.heap.IsTuple a its.toArray from it) (pi_one (tk := s1.toks) I1 _ (turn_tuple a _) ⟨_, Heap.get?_push_size _ rfl, rfl, rfl⟩ q)
  · obtain ⟨t, rfl⟩ := r1
    cases asc : z.cps.all (· < 128) with
    | false => exact wpAny_pyIter_wide asc (pi_one (tk := s1.toks) I1 _ (turn_str _ z t "str_iterator" (Or.inr rfl)) ⟨_, Heap.get?_push_size _ rfl, rfl, rfl⟩ q)
    | true => exact wpAny_pyIter_ascii asc (pi_one (tk := s1.toks) I1 _ (turn_str _ z t "str_ascii_iterator" (Or.inl rfl)) ⟨_, Heap.get?_push_size _ rfl, rfl, rfl⟩ q)
theorem _root_.L2.PI.imp {X : Cx} {tg e : Expr} {t t' : TI} (h : PI X tg e t) (i : ∀ σ H R, t' σ H R → t σ H R) : PI X tg e t' := ⟨fun pins s σ H R I q => h.run pins s σ H R I (i _ _ _ q)⟩
theorem bi_seq (he : PE X e (bE X.cw W S ea)) : PI X tg e (bI X.cw W S fun env => ea env >>= fun x => Res.of (iterD .seq [x.2])) := by
  refine (pi_seq he).imp fun σ H R h => ?_
  obtain ⟨env, Z, er, h⟩ := h
  refine step er h fun x v H1 os er1 rx hf => ?_
  obtain ⟨ds, ed, hq⟩ := hf.of
  have rf := rx.frozen
  generalize x.2 = d at ed rf
  cases d with
  | lst ds' =>
    cases ed
    obtain ⟨a, vs, rfl, g, r⟩ := rf.lstG rfl
    exact .inl ⟨a, rfl, ⟨vs, g H1 Kp.refl⟩, hq _ H1 rx.ext (it_lst g r)⟩
  | tup ds' =>
    cases ed
    obtain ⟨a, vs, rfl, g, r⟩ := rf.tup_
    exact .inr (.inl ⟨a, rfl, ⟨vs, g⟩, hq _ H1 rx.ext (it_tup g r)⟩)
  | str z =>
    cases ed
    cases rf.str_
    exact .inr (.inr ⟨z, rfl, hq _ H1 rx.ext it_str⟩)
  | _ => cases ed
theorem bi_rng1 (hg : Gl X "range") (hm : X.mg "range" = none) (ha : PA X [e] (bL X.cw W S el)) (hs : starEach [e] X.env = [(false, eval e X.env)]) :
    PI X tg (.Call (.Name "range" p) [e] [] pos) (bI X.cw W S fun env => (el env >>= fun xs => Res.of (it1 (xs.map (·.2))))) := by
  refine (pi_range1 hg hm ha hs).imp fun σ H R h => ?_
  obtain ⟨env, Z, er, h⟩ := h
  refine stepL er h fun xs vs H1 os er1 rx hf => ?_
  obtain ⟨ds, ed, hq⟩ := hf.of
  have rf := rx.frozen
  generalize xs.map (·.2) = l at ed rf
  unfold it1 at ed
  split at ed
  · rename_i n
    obtain ⟨hz, rfl⟩ := ite_of (show (if -(2 ^ 62) ≤ n ∧ n < 2 ^ 62 then some ((List.range n.toNat).map fun (i : Nat) => D.int i) else none) = some ds from ed)
    obtain ⟨v, rfl, rv⟩ := rf.one
    refine ⟨n, by rw [rv.int_], hz.1, hz.2, hq _ H1 rx.ext ?_⟩
    have := it_rng (c := X.cw) (H := H1) (Z := Zn Z H H1) (lo := 0) (n := n.toNat)
    simpa using this
  · cases ed
theorem bi_rng2 (hg : Gl X "range") (hm : X.mg "range" = none) (ha : PA X [e, e2] (bL X.cw W S el)) (hs : starEach [e, e2] X.env = [(false, eval e X.env), (false, eval e2 X.env)]) (hs2 : starEach [e2] X.env = [(false, eval e2 X.env)]) :
    PI X tg (.Call (.Name "range" p) [e, e2] [] pos) (bI X.cw W S fun env => (el env >>= fun xs => Res.of (it2 (xs.map (·.2))))) := by
  refine (pi_range2 hg hm ha hs hs2).imp fun σ H R h => ?_
  obtain ⟨env, Z, er, h⟩ := h
  refine stepL er h fun xs vs H1 os er1 rx hf => ?_
  obtain ⟨ds, ed, hq⟩ := hf.of
  have rf := rx.frozen
  generalize xs.map (·.2) = l at ed rf
  unfold it2 at ed
  split at ed
  · rename_i n m
    obtain ⟨hz, rfl⟩ := ite_of (show (if -(2 ^ 62) ≤ n ∧ n < 2 ^ 62 ∧ -(2 ^ 62) ≤ m ∧ m < 2 ^ 62 then some ((List.range (m - n).toNat).map fun (i : Nat) => D.int (n + i)) else none) = some ds from ed)
    obtain ⟨v, w, rfl, rv, rw'⟩ := rf.two
    exact ⟨n, m, by rw [rv.int_, rw'.int_], hz, hq _ H1 rx.ext it_rng⟩
  · cases ed
theorem bi_enum {elts : List Expr} {kk : Nat} (hg : Gl X "enumerate") (hm : X.mg "enumerate" = none) (ha : PA X [e] (bL X.cw W S el)) (hs : starEach [e] X.env = [(false, eval e X.env)]) :
    PI X (.Tuple elts kk tpos) (.Call (.Name "enumerate" p) [e] [] pos) (bI X.cw W S fun env => el env >>= fun xs => Res.of (itE (xs.map (·.2)))) := by
  refine (pi_enum hg hm ha hs).imp fun σ H R h => ?_
  obtain ⟨env, Z, er, h⟩ := h
  refine stepL er h fun xs vs H1 os er1 rx hf => ?_
  obtain ⟨ds, ed, hq⟩ := hf.of
  have rf := rx.frozen
  generalize xs.map (·.2) = l at ed rf
  unfold itE at ed
  split at ed
  · cases ed
    obtain ⟨v, rfl, rv⟩ := rf.one
    obtain ⟨a, vs, rfl, g, r⟩ := rv.lstG rfl
    exact ⟨a, vs, rfl, g H1 Kp.refl, hq _ H1 rx.ext (it_enum g r)⟩
  · cases ed
theorem bi_zip {elts : List Expr} {kk : Nat} (hg : Gl X "zip") (hm : X.mg "zip" = none) (ha : PA X [e, e2] (bL X.cw W S el)) (hs : starEach [e, e2] X.env = (false, eval e X.env) :: starEach [e2] X.env) (hpl : (backTo pos (starEach [e2] X.env)).any (·.1) = false) :
    PI X (.Tuple elts kk tpos) (.Call (.Name "zip" p) [e, e2] [] pos) (bI X.cw W S fun env => el env >>= fun xs => Res.of (itZ (xs.map (·.2)))) := by
  refine (pi_zipA hg hm ha hs hpl).imp fun σ H R h => ?_
  obtain ⟨env, Z, er, h⟩ := h
  refine stepL er h fun xs vs H1 os er1 rx hf => ?_
  obtain ⟨ds, ed, hq⟩ := hf.of
  have rf := rx.frozen
  generalize xs.map (·.2) = l at ed rf
  unfold itZ at ed
  split at ed
  · cases ed
    obtain ⟨v, w, rfl, rv, rw'⟩ := rf.two
    obtain ⟨a, vs, rfl, g, r⟩ := rv.lstG rfl
    obtain ⟨b, ws, rfl, g2, r2⟩ := rw'.lstG rfl
    exact ⟨a, b, vs, ws, rfl, .inl ⟨g H1 Kp.refl, g2 H1 Kp.refl, hq _ H1 rx.ext (it_zipL g g2 r r2)⟩⟩
  · cases ed
    obtain ⟨v, w, rfl, rv, rw'⟩ := rf.two
    obtain ⟨a, vs, rfl, g, r⟩ := rv.tup_
    obtain ⟨b, ws, rfl, g2, r2⟩ := rw'.tup_
    exact ⟨a, b, vs, ws, rfl, .inr ⟨g, g2, hq _ H1 rx.ext (it_zipT g g2 r r2)⟩⟩
  · cases ed
/-! ### targets -/
mutual
def gT (K : PySem.W.Frag) : Tg → TG
  | .nm i => gName i
  | .tup ts => gTup K ts.length (gTs K ts)
def gTs (K : PySem.W.Frag) : List Tg → TGs
  | [] => gNil
  | t :: ts => gCons (gT K t) (gTs K ts)
end
theorem EnvR.set {H : Hp} {Z : Addr → Prop} {σ : L2.St} {env : Env} {i : Nat} {d : D} {v : V} {k : Nat} {B : List Nat} (er : EnvR c H Z S σ env) (r : Rep c H Z 0 d v []) : EnvR c H Z S (σ.set i (some v)) (env.set i (some (k, d, B))) := by
  refine ⟨er.there, by rw [List.length_set, List.length_set, er.len], fun j hj x hx => ?_⟩
  by_cases e : i = j
  · subst e
    by_cases hi : i < env.length
    · rw [List.getElem?_set_self hi] at hx
      cases hx
      exact ⟨v, List.getElem?_set_self (by rw [← er.len]; exact hi), r⟩
    · rw [List.getElem?_eq_none (by simpa using hi)] at hx
      cases hx
  · rw [List.getElem?_set_ne e] at hx
    obtain ⟨u, h1, h2⟩ := er.at_ j hj x hx
    exact ⟨u, by rw [List.getElem?_set_ne e]; exact h1, h2⟩
theorem EnvR.dropB {H : Hp} {Z : Addr → Prop} {σ : L2.St} {env : Env} {i : Nat} (er : EnvR c H Z S σ env) : EnvR c H Z S σ (dropB i env) := by
  refine ⟨er.there, by rw [← er.len]; simp [MP.dropB], fun j hj x hx => ?_⟩
  unfold MP.dropB at hx
  rw [List.getElem?_map] at hx
  cases h : env[j]? with
  | none => rw [h] at hx; cases hx
  | some o =>
    rw [h] at hx
    cases o with
    | none => cases hx
    | some y =>
      cases hx
      exact er.at_ j hj y h
theorem EnvR.wipe {H : Hp} {Z : Addr → Prop} {σ : L2.St} {env : Env} (er : EnvR c H Z S σ env) : ∀ own : List Nat, EnvR c H Z S (L2.wipe σ own) (wipeE own env)
  | [] => er
  | i :: r => by
    have ih := er.wipe r
    refine ⟨er.there, ?_, fun j hj x hx => ?_⟩
    · unfold wipeE L2.wipe
      rw [List.length_set, List.length_set, ih.len]
    · unfold wipeE at hx
      unfold L2.wipe
      by_cases e : i = j
      · subst e
        by_cases hi : i < (wipeE r env).length
        · rw [List.getElem?_set_self hi] at hx; cases hx
        · rw [List.getElem?_eq_none (by simpa using hi)] at hx; cases hx
      · rw [List.getElem?_set_ne e] at hx ⊢
        exact ih.at_ j hj x hx
mutual
theorem gT_env {K : PySem.W.Frag} {H : Hp} {Z : Addr → Prop} {Q : L2.St → Hp → Prop} (hK : c.K = K) : ∀ {tg : Tg} {d : D} {v : V} {env env' : Env} {σ : L2.St} {B M : List Nat} {k : Nat}, EnvR c H Z S σ env → Rep c H Z 0 d v [] → bindTg M B tg (k, d) env = some env' →
    (∀ σ', EnvR c H Z S σ' env' → (∀ l : List Nat, (∀ i, tgIn i tg → i ∈ l) → L2.wipe σ' l = L2.wipe σ l) → Q σ' H) → gT K tg v σ H Q
  | .nm i, d, v, env, env', σ, B, M, k, er, r, h, q => by
    unfold bindTg at h
    cases h
    refine q _ (er.dropB.set r) fun l hl => ?_
    exact wipe_set (hl i .nm)
  | .tup ts, d, v, env, env', σ, B, M, k, er, r, h, q => by
    cases d with
    | tup ds =>
      obtain ⟨a, vs, rfl, g, rs⟩ := r.tup_
      unfold bindTg at h
      refine ⟨a, vs, rfl, hK ▸ g, ?_, gTs_env hK er rs h fun σ' e w => q σ' e fun l hl => w l fun i t => hl i (.tup t)⟩
      rw [← rs.length]
      exact bindTgs_length h
    | _ => cases h
theorem gTs_env {K : PySem.W.Frag} {H : Hp} {Z : Addr → Prop} {Q : L2.St → Hp → Prop} (hK : c.K = K) : ∀ {ts : List Tg} {ds : List D} {vs : List V} {env env' : Env} {σ : L2.St} {B M : List Nat} {k : Nat}, EnvR c H Z S σ env → Reps c H Z 0 ds vs [] → bindTgs M B ts k ds env = some env' →
    (∀ σ', EnvR c H Z S σ' env' → (∀ l : List Nat, (∀ i, tgsIn i ts → i ∈ l) → L2.wipe σ' l = L2.wipe σ l) → Q σ' H) → gTs K ts vs σ H Q
  | [], ds, vs, env, env', σ, B, M, k, er, r, h, q => by
    cases ds with
    | nil =>
      cases r
      cases h
      exact ⟨rfl, q _ er fun _ _ => rfl⟩
    | cons d ds => cases h
  | t :: ts, ds, vs, env, env', σ, B, M, k, er, r, h, q => by
    cases ds with
    | nil => cases h
    | cons d ds =>
      obtain ⟨e1, h1, h2⟩ := Option.bind_eq_some_iff.mp (show (bindTg M B t (k, d) env).bind (fun env' => bindTgs M B ts k ds env') = some env' from h)
      obtain ⟨v, hv, rv⟩ := r.get (i := 0) rfl
      have r2 := r.drop 1
      cases vs with
      | nil => cases hv
      | cons v' vs =>
        cases hv
        exact ⟨_, _, rfl, gT_env hK er rv h1 fun σ1 er1 w1 => gTs_env hK er1 (by simpa using r2) h2 fun σ2 er2 w2 => q σ2 er2 fun l hl => (w2 l fun i z => hl i (.tl z)).trans (w1 l fun i z => hl i (.hd z))⟩
end
end
end MP

/-! MPo: comprehensions. -/
namespace MP
open PySem PySem.Spec PyProof.Rows L2 RZ
section
variable {c : Cw} {H H' H1 H2 : Hp} {Z Z' : Addr → Prop}
theorem RepE.append {xs ys vs ws os os'} (a : RepE c H Z xs vs os) (b : RepE c H Z ys ws os') : RepE c H Z (xs ++ ys) (vs ++ ws) (os ++ os') := by
  induction a with
  | nil => exact b
  | cons r _ ih => rw [List.append_assoc]; exact .cons r ih
theorem RepE.kp {xs vs os} (r : RepE c H Z xs vs os) (k : Kp Z H H2) (h : ∀ a ∈ os, H2 a = H a) : RepE c H2 Z xs vs os := by
  induction r with
  | nil => exact .nil
  | cons r _ ih => exact .cons (r.kp k fun a z => h a (List.mem_append_left _ z)) (ih fun a z => h a (List.mem_append_right _ z))
theorem mapR_ok {α β : Type} {f : α → Res β} : ∀ {as : List α} {bs : List β}, mapR f as = .ok bs → bs.length = as.length ∧ ∀ (i : Nat) (a : α), as[i]? = some a → ∃ b, bs[i]? = some b ∧ f a = .ok b
  | [], bs, h => by cases h; exact ⟨rfl, fun i a h => by simp at h⟩
  | a :: as, bs, h => by
    unfold mapR at h
    cases e : f a with
    | ok b =>
      rw [e, res_ok_bind] at h
      cases e2 : mapR f as with
      | ok bs' =>
        rw [e2] at h
        cases h
        obtain ⟨l, q⟩ := mapR_ok e2
        refine ⟨by simp [l], fun i x hx => ?_⟩
        cases i with
        | zero => cases hx; exact ⟨b, rfl, e⟩
        | succ i => exact q i x (by simpa using hx)
      | exc x => rw [e2] at h; cases h
      | stuck => rw [e2] at h; cases h
    | exc x => rw [e] at h; cases h
    | stuck => rw [e] at h; cases h
theorem mapR_nox {α β : Type} {f : α → Res β} : ∀ {as : List α} {x : D}, mapR (fun a => (f a).nox) as ≠ .exc x
  | [], x, h => by cases h
  | a :: as, x, h => by
    have h : ((f a).nox >>= fun b => mapR (fun a => (f a).nox) as >>= fun bs => Res.ok (b :: bs)) = .exc x := h
    cases e : f a with
    | ok b =>
      rw [e, show (Res.ok b).nox = Res.ok b from rfl, res_ok_bind] at h
      cases e2 : mapR (fun a => (f a).nox) as with
      | ok bs' => rw [e2] at h; cases h
      | exc x => exact mapR_nox e2
      | stuck => rw [e2] at h; cases h
    | exc x => rw [e] at h; cases h
    | stuck => rw [e] at h; cases h
theorem wipe_wipe (σ : L2.St) (l : List Nat) : L2.wipe (L2.wipe σ l) l = L2.wipe σ l := by
  have key : ∀ m : List Nat, (∀ i ∈ m, i ∈ l) → L2.wipe (L2.wipe σ m) l = L2.wipe σ l := by
    intro m
    induction m with
    | nil => intro _; rfl
    | cons i m ih =>
      intro h
      show L2.wipe ((L2.wipe σ m).set i none) l = _
      rw [wipe_set (h i List.mem_cons_self), ih fun j hj => h j (List.mem_cons_of_mem _ hj)]
  exact key l fun _ h => h
end
section
variable {X : Cx} {W : WX} {S : Nat → Prop} {pos : Pos}
abbrev WF : WX := fun _ _ _ _ => False
/-- the turns of a comprehension -/
def turnR (tg : Tg) (own : List Nat) (evc : Env → Res Bool) (eve : Env → Res Ent) (env : Env) (d : D) : Res (Option Ent) :=
  (Res.of (bindTg [] [] tg (0, d) (wipeE own env)) >>= fun env' => evc env' >>= fun b => if b = true then eve env' >>= fun x => .ok (some x) else .ok none).nox
theorem turnR_of {tg : Tg} {own : List Nat} {evc : Env → Res Bool} {eve : Env → Res Ent} {env : Env} {d : D} {y : Option Ent} (h : turnR tg own evc eve env d = .ok y) :
    ∃ env' b, bindTg [] [] tg (0, d) (wipeE own env) = some env' ∧ evc env' = .ok b ∧ ((b = false ∧ y = none) ∨ (b = true ∧ ∃ x, eve env' = .ok x ∧ y = some x)) := by
  unfold turnR at h
  cases e1 : bindTg [] [] tg (0, d) (wipeE own env) with
  | none => simp [e1, Res.of, Res.nox] at h
  | some env' =>
    cases e2 : evc env' with
    | exc x => simp [e1, e2, Res.of, Res.nox] at h
    | stuck => simp [e1, e2, Res.of, Res.nox] at h
    | ok b =>
      cases b with
      | false =>
        simp [e1, e2, Res.of, Res.nox] at h
        exact ⟨env', false, rfl, e2, .inl ⟨rfl, h.symm⟩⟩
      | true =>
        cases e3 : eve env' with
        | exc x => simp [e1, e2, e3, Res.of, Res.nox] at h
        | stuck => simp [e1, e2, e3, Res.of, Res.nox] at h
        | ok x =>
          simp [e1, e2, e3, Res.of, Res.nox] at h
          exact ⟨env', true, rfl, e2, .inr ⟨rfl, x, e3, h.symm⟩⟩
/-- the new list so far -/
structure LcP (c : Cw) (H1 : Hp) (Z1 : Addr → Prop) (D : Addr) (acc : List Ent) (H' : Hp) : Prop where
  ext : Ext H1 H'
  ex : ∃ vs os, H' D = some (.lst vs) ∧ RepE c H' (fun a => Z1 a ∨ (H1 a = none ∧ H' a ≠ none ∧ a ∉ os ∧ a ≠ D)) acc vs os ∧ (∀ a ∈ os, H1 a = none) ∧ os.Nodup ∧ D ∉ os
theorem take_filter {ys : List (Option Ent)} {i : Nat} {y : Option Ent} (h : ys[i]? = some y) : (ys.take (i + 1)).filterMap id = (ys.take i).filterMap id ++ y.toList := by
  rw [List.take_succ, h, List.filterMap_append]
  cases y <;> rfl
theorem filter_le {ys : List (Option Ent)} {i : Nat} : ((ys.take i).filterMap id).length ≤ (ys.filterMap id).length := by
  conv => rhs; rw [← List.take_append_drop i ys, List.filterMap_append, List.length_append]
  omega
theorem lc_run {evc : Env → Res Bool} {eve : Env → Res Ent} {t : Tg} {own : List Nat} {σ : L2.St} {H1 : Hp} {Z1 : Addr → Prop} {env : Env} {J : It} {ds : List D} {ys : List (Option Ent)} {D : Addr} {Qd : Hp → Prop} (hown : ∀ i, tgIn i t → i ∈ own) (er : EnvR X.cw H1 Z1 S σ env)
    (itk : IterOk X.cw H1 Z1 J ds) (em : mapR (turnR t own evc eve env) ds = .ok ys) (hz : (ys.filterMap id).length ≤ sizeLine) (hD : H1 D = none) (hq : ∀ H', LcP X.cw H1 Z1 D (ys.filterMap id) H' → Qd H') :
    ∃ W : Nat → Nat → Hp → Prop, (∃ m, W 0 m (upd H1 D (.lst []))) ∧ ∀ i m H, W i m H →
      (J.stop i H ∧ Qd H) ∨ (J.go i H ∧ ∃ Nx : Hp → Prop, (∀ H', Nx H' → ∃ m', m' < m ∧ W (i + 1) m' H') ∧ ∀ x H', J.yld i H x H' → gT X.K t x (L2.wipe σ own) H' fun σ2 H2 => L2.wipe σ2 own = L2.wipe σ own ∧ bT X.cw WF S evc σ2 H2 fun b H3 =>
        if b = true then bE X.cw WF S eve σ2 H3 fun y H4 => ∃ acc, H4 D = some (.lst acc) ∧ acc.length < sizeLine ∧ Nx (upd H4 D (.lst (acc ++ [y]))) else Nx H3) := by
  obtain ⟨hyl, hy⟩ := mapR_ok em
  obtain ⟨Y, w, yk⟩ := itk
  refine lc_it (g := gT X.K t) (tt := bT X.cw WF S evc) (te := bE X.cw WF S eve) w (fun i H' => LcP X.cw H1 (Z1) D ((ys.take i).filterMap id) H') ?_ (fun i H' _ p => p.ext.kp) (fun i v H' H2 hi p hY => ?_) fun H' p => ?_
  · exact ⟨Ext.upd hD, [], [], upd_same, .nil, (fun _ h => by cases h), List.nodup_nil, by simp⟩
  · obtain ⟨d, hd⟩ : ∃ d, ds[i]? = some d := ⟨ds[i], by simp [hi]⟩
    obtain ⟨e12, fr, rv⟩ := yk i d hd H' v H2 p.ext.kp hY
    obtain ⟨y, hyi, hf⟩ := hy i d hd
    obtain ⟨env', b, hb, hcb, hcase⟩ := turnR_of hf
    obtain ⟨ext, vs, os, hvs, hre, hnew, hnd, hDo⟩ := p
    -- what is frozen at the turn
    have er2 : EnvR X.cw H2 (fun a => (Z1 a ∨ (H1 a = none ∧ H' a ≠ none ∧ a ∉ os ∧ a ≠ D)) ∨ (H' a = none ∧ H2 a ≠ none)) S (L2.wipe σ own) (wipeE own env) := by
      have er2 := (er.ext (ext.trans e12)).wipe own
      refine ⟨fun a q => ?_, er2.len, fun j hj x hx => ?_⟩
      · rcases q with (q | q) | q
        · exact (ext.trans e12).ne (er.there a q)
        · exact e12.ne q.2.1
        · exact q.2
      · obtain ⟨u, h1, h2⟩ := er2.at_ j hj x hx
        exact ⟨u, h1, h2.mono (Ext.refl _) fun a q => .inl (.inl q)⟩
    refine gT_env (c := X.cw) rfl er2 (rv.mono (Ext.refl _) fun a q => q.elim (fun q => .inl (.inl q)) fun q => .inr q) hb fun σ2 er3 hw => ⟨(hw _ hown).trans (wipe_wipe _ _), ?_⟩
    refine ⟨env', _, er3, ?_⟩
    rw [hcb]
    intro H3 e23
    rcases hcase with ⟨rfl, rfl⟩ | ⟨rfl, e, he, rfl⟩
    · simp only [Bool.false_eq_true, if_false]
      rw [take_filter hyi, show (none : Option Ent).toList = [] from rfl, List.append_nil]
      have e3 := e12.trans e23
      refine ⟨ext.trans e3, vs, os, e3 _ _ hvs, hre.mono e3 fun a q => q.elim .inl fun q => .inr ⟨q.1, e3.ne q.2.1, q.2.2⟩, hnew, hnd, hDo⟩
    · simp only [if_true]
      refine ⟨env', _, er3.ext e23, ?_⟩
      rw [he]
      intro u H4 os4 ru
      have e14 := (e12.trans e23).trans ru.ext
      refine ⟨vs, e14 _ _ hvs, ?_, ?_⟩
      · rw [← hre.length]
        have hh := filter_le (ys := ys) (i := i + 1)
        rw [take_filter hyi, List.length_append] at hh
        rw [show (some e : Option Ent).toList.length = 1 from rfl] at hh
        omega
      · rw [take_filter hyi]
        have hD4 : H4 D = some (.lst vs) := e14 _ _ hvs
        have o4 : ∀ a ∈ os4, H' a = none := fun a q => (e12.trans e23).none (ru.new a q)
        have nDD : D ∉ os4 := fun q => by rw [o4 D q] at hvs; cases hvs
        have hth := hre.there
        have x5 : Ext H1 (upd H4 D (.lst (vs ++ [u]))) := fun a o q => by
          rw [upd_ne fun z => by rw [z, hD] at q; cases q]
          exact (ext.trans e14) a o q
        have sm : ∀ a, a ≠ D → upd H4 D (.lst (vs ++ [u])) a = H4 a := fun a q => upd_ne q
        refine ⟨x5, vs ++ [u], os ++ os4, upd_same, ?_, ?_, ?_, ?_⟩
        · refine RepE.append ?_ ?_
          · refine ((hre.mono e14 fun a q => (?_ : (fun a => Z1 a ∨ (H1 a = none ∧ H4 a ≠ none ∧ a ∉ os ++ os4 ∧ a ≠ D)) a)).kp (H2 := upd H4 D (.lst (vs ++ [u]))) (Kp.refl.upd ?_ ?_) ?_).mono (Ext.refl _) ?_
            · rcases q with q | ⟨q1, q2, q3, q4⟩
              · exact .inl q
              · refine .inr ⟨q1, e14.ne q2, fun z => ?_, q4⟩
                rcases List.mem_append.mp z with z | z
                · exact q3 z
                · exact q2 (o4 a z)
            · intro q
              rcases q with q | q
              · exact er.there D q hD
              · exact q.2.2.2 rfl
            · intro o q
              rw [hD4] at q
              cases q
              trivial
            · intro a q
              exact sm a fun z => hDo (z ▸ q)
            · intro a q
              rcases q with q | ⟨q1, q2, q3, q4⟩
              · exact .inl q
              · exact .inr ⟨q1, by rw [sm a q4]; exact q2, q3, q4⟩
          · have r1 := ru.rep.mono (Z' := fun a => Z1 a ∨ (H1 a = none ∧ H4 a ≠ none ∧ a ∉ os ++ os4 ∧ a ≠ D)) (Ext.refl _) fun a q => by
              rcases q with ((q | ⟨q1, q2, q3, q4⟩) | ⟨q1, q2⟩) | ⟨q1, q2, q3⟩
              · exact .inl q
              · refine .inr ⟨q1, e14.ne q2, fun z => ?_, q4⟩
                rcases List.mem_append.mp z with z | z
                · exact q3 z
                · exact q2 (o4 a z)
              · refine .inr ⟨ext.none q1, (e23.trans ru.ext).ne q2, fun z => ?_, fun z => ?_⟩
                · rcases List.mem_append.mp z with z | z
                  · exact hth a z q1
                  · exact e23.ne q2 (ru.new a z)
                · rw [z, hvs] at q1; cases q1
              · have q1' := (e12.trans e23).none q1
                refine .inr ⟨ext.none q1', q2, fun z => ?_, fun z => ?_⟩
                · rcases List.mem_append.mp z with z | z
                  · exact hth a z q1'
                  · exact q3 z
                · rw [z, hvs] at q1'; cases q1'
            have r2 := r1.kp (H2 := upd H4 D (.lst (vs ++ [u]))) (Kp.refl.upd (fun q => by
              rcases q with q | q
              · exact er.there D q hD
              · exact q.2.2.2 rfl) fun o q => by rw [hD4] at q; cases q; trivial) fun a q => sm a fun z => nDD (z ▸ q)
            have r3 := RepE.cons (x := e) (r2.mono (Ext.refl _) fun a q => (by
              rcases q with q | ⟨q1, q2, q3, q4⟩
              · exact .inl q
              · exact .inr ⟨q1, by rw [sm a q4]; exact q2, q3, q4⟩ : Z1 a ∨ (H1 a = none ∧ upd H4 D (.lst (vs ++ [u])) a ≠ none ∧ a ∉ os ++ os4 ∧ a ≠ D))) .nil
            simpa using r3
        · intro a q
          rcases List.mem_append.mp q with q | q
          · exact hnew a q
          · exact ext.none (o4 a q)
        · rw [List.nodup_append]
          refine ⟨hnd, ru.nd, fun a q b q2 z => ?_⟩
          subst z
          exact hth a q (o4 a q2)
        · intro q
          rcases List.mem_append.mp q with q | q
          · exact hDo q
          · exact nDD q
  · refine hq H' ?_
    rw [List.take_of_length_le (by rw [hyl]; exact Nat.le_refl _)] at p
    exact p
theorem lc_imp {evI : Env → Res (List D)} {evc : Env → Res Bool} {eve : Env → Res Ent} {t : Tg} {own : List Nat} {σ : L2.St} {H : Hp} {Q : VK} (hown : ∀ i, tgIn i t → i ∈ own)
    (h : bE X.cw W S (fun env => evI env >>= fun ds => mapR (turnR t own evc eve env) ds >>= fun ys => Res.of (lstO (ys.filterMap id))) σ H Q) :
    tLc (bI X.cw W S evI) (gT X.K t) (bT X.cw WF S evc) (bE X.cw WF S eve) own σ H Q := by
  obtain ⟨env, Z, er, h⟩ := h
  refine ⟨env, Z, er, h.bind.mono (fun ds eds hx J H1 e1 itk D hD => ?_) fun _ q => q⟩
  cases em : mapR (turnR t own evc eve env) ds with
  | stuck => rw [em] at hx; exact hx.elim
  | exc x => exact absurd em mapR_nox
  | ok ys =>
    rw [em] at hx
    obtain ⟨x, ex, hq⟩ := Fin.of (show Fin (Res.of (lstO (ys.filterMap id))) _ _ from hx)
    unfold lstO at ex
    obtain ⟨hz, rfl⟩ := itb_of ex
    have hz := szOk_le hz
    refine lc_run hown (show EnvR X.cw H1 (Zn Z H H1) S σ env from ⟨Zn.there er.there e1, er.len, fun i hi x hx => ?_⟩) itk em hz hD fun H' p => ?_
    · obtain ⟨v, h1, h2⟩ := er.at_ i hi x hx
      exact ⟨v, h1, h2.mono e1 fun _ q => .inl q⟩
    · obtain ⟨ext, vs, os, hvs, hre, hnew, hnd, hDo⟩ := p
      have hD0 : H D = none := e1.none hD
      by_cases hfu : (ys.filterMap id).all fu = true
      · rw [if_pos hfu] at hq
        have r2 := RepE.full (Z' := fun a => Z a ∨ (H a = none ∧ H' a ≠ none ∧ a ∉ D :: os)) hre hfu
        refine hq (.ref D) H' (D :: os) ⟨e1.trans ext, .lstO hvs r2, fun a q => ?_, List.nodup_cons.mpr ⟨hDo, hnd⟩⟩
        rcases List.mem_cons.mp q with rfl | q
        · exact hD0
        · exact e1.none (hnew a q)
      · rw [if_neg hfu] at hq
        have hth := hre.there
        have r2 := RepE.demote (Z' := fun a => Z a ∨ (H a = none ∧ H' a ≠ none ∧ a ∉ [D])) (fun a q => by
          rcases q with (q | ⟨q1, q2⟩) | ⟨q1, q2, q3, q4⟩
          · exact .inl q
          · exact .inr ⟨q1, ext.ne q2, fun z => by rw [List.mem_singleton.mp z, hD] at q2; exact q2 rfl⟩
          · exact .inr ⟨e1.none q1, q2, fun z => q4 (List.mem_singleton.mp z)⟩) hre fun a q => .inr ⟨e1.none (hnew a q), hth a q, fun z => hDo (List.mem_singleton.mp z ▸ q)⟩
        refine hq (.ref D) H' [D] ⟨e1.trans ext, .lstO hvs r2, fun a q => ?_, by simp⟩
        rw [List.mem_singleton.mp q]
        exact hD0
theorem be_lc {evI : Env → Res (List D)} {evc : Env → Res Bool} {eve : Env → Res Ent} {t : Tg} {elt tg iter : Expr} {ifs : List Expr} {scope : Scope} {own : List (Str × Nat)} (hc : X.calm = true) (hN : X.N.Nodup)
    (hi : PI X tg iter (bI X.cw W S evI)) (ok : BlkOk X.N X.env.scope scope own) (hown : ∀ i, tgIn i t → i ∈ own.map (·.2))
    (hg : ∀ (s : Shared) (H : Hp) (C : Addr) (cl : List (Str × Addr)) (fp : List Addr), PG (X.blk s H scope (compEnvC scope cl C X.env) fp) tg (gT X.K t))
    (ht : ∀ (s : Shared) (H : Hp) (C : Addr) (cl : List (Str × Addr)) (fp : List Addr), PTs (X.blk s H scope (compEnvC scope cl C X.env) fp) ifs (bT X.cw WF S evc))
    (he : ∀ (s : Shared) (H : Hp) (C : Addr) (cl : List (Str × Addr)) (fp : List Addr), PE (X.blk s H scope (compEnvC scope cl C X.env) fp) elt (bE X.cw WF S eve)) (hs : ∀ x, foldedSetIterable iter X.env x = pure x) :
    PE X (.ListComp elt [⟨tg, iter, ifs, 0⟩] scope pos) (bE X.cw W S fun env => evI env >>= fun ds => mapR (turnR t (own.map (·.2)) evc eve env) ds >>= fun ys => Res.of (lstO (ys.filterMap id))) := by
  exact (pe_lc hc hN hi ok hg ht he hs).imp fun σ H Q h => lc_imp hown h
end
end MP

/-! MPo2: comprehensions over a dict's keys. -/
namespace MP
open PySem PySem.Spec PyProof.Rows L2 RZ
section
variable {c : Cw} {H : Hp} {d0 : Addr} {od : Obj} {kvs0 : List (Key × V)}
theorem fz_sqT {K : PySem.W.Frag} {u : HO} {a : Addr} {xs : List V} (h0 : ∀ o, H d0 = some o → ∀ ys, o ≠ .tup ys ∧ ∀ ob, o ≠ .frz ob (.tup ys)) (h : SqT K H a xs) : SqT K (upd H d0 u) a xs := by
  rcases h with (h | ⟨o, h⟩) | h
  · exact .inl (.inl (by rw [upd_ne fun z : a = d0 => (h0 _ (z ▸ h) xs).1 rfl]; exact h))
  · exact .inl (.inr ⟨o, by rw [upd_ne fun z : a = d0 => (h0 _ (z ▸ h) xs).2 o rfl]; exact h⟩)
  · exact .inr h
theorem fz_sqS {K : PySem.W.Frag} {u : HO} {Z : Addr → Prop} {a : Addr} {xs : List V} (h0 : ∀ o, H d0 = some o → ∀ ys, o ≠ .lst ys ∧ ∀ ob, o ≠ .frz ob (.lst ys)) (h : SqS K H Z a xs) : SqS K (upd H d0 u) Z a xs := by
  rcases h with h | ⟨o, h⟩ | h
  · exact .inl ⟨by rw [upd_ne fun z : a = d0 => (h0 _ (z ▸ h.1) xs).1 rfl]; exact h.1, h.2⟩
  · exact .inr (.inl ⟨o, by rw [upd_ne fun z : a = d0 => (h0 _ (z ▸ h) xs).2 o rfl]; exact h⟩)
  · exact .inr (.inr h)
mutual
theorem Rep.lock (h0 : H d0 = some (.dK kvs0)) : ∀ {Z : Addr → Prop} {k d v os}, Rep c H Z k d v os → d0 ∉ os → Rep c (upd H d0 (.frz od (.dK kvs0))) Z k d v os
  | _, _, _, _, _, .non, _ => .non
  | _, _, _, _, _, .bl, _ => .bl
  | _, _, _, _, _, .int, _ => .int
  | _, _, _, _, _, .str, _ => .str
  | _, _, _, _, _, .tup g r, n => .tup (fz_sqT (fun o ho ys => by rw [h0] at ho; cases ho; exact ⟨fun z => (nomatch z), fun _ z => (nomatch z)⟩) g) (Reps.lock h0 r n)
  | _, _, _, _, _, .scr g r, n => .scr (fz_sqS (fun o ho ys => by rw [h0] at ho; cases ho; exact ⟨fun z => (nomatch z), fun _ z => (nomatch z)⟩) g) (Reps.lock h0 r n)
  | _, _, _, _, _, .lstF (a := a) g z r, n => .lstF (by rw [upd_ne fun e => by rw [e, h0] at g; cases g]; exact g) z (Reps.lock h0 r n)
  | _, _, _, _, _, .lstO (a := a) g r, n => .lstO (by rw [upd_ne fun e => by rw [e, h0] at g; cases g]; exact g) (Reps.lock h0 r fun z => n (List.mem_cons_of_mem _ z))
  | _, _, _, _, _, .dctF (a := a) (kvs := kvs) g z e1 e2 r, n => by
    have r' := Reps.lock h0 r n
    by_cases e : a = d0
    · have hk : kvs0 = kvs := by rw [e, h0] at g; cases g; rfl
      exact .dctZ (a := a) (o := od) (kvs := kvs) (by rw [e, upd_same, hk]) e1 e2 r'
    · exact .dctF (by rw [upd_ne e]; exact g) z e1 e2 r'
  | _, _, _, _, _, .dctZ (a := a) g e1 e2 r, n => .dctZ (by rw [upd_ne fun e => by rw [e, h0] at g; cases g]; exact g) e1 e2 (Reps.lock h0 r n)
  | _, _, _, _, _, .dctO (a := a) g e1 e2 r, n => .dctO (by rw [upd_ne fun e : a = d0 => n (e ▸ List.mem_cons_self)]; exact g) e1 e2 (Reps.lock h0 r fun z => n (List.mem_cons_of_mem _ z))
  | _, _, _, _, _, .exc0 g h, _ => .exc0 g (by rw [upd_ne fun e => by rw [e, h0] at h; cases h]; exact h)
  | _, _, _, _, _, .exc1 n g h d l r, m => .exc1 n g (by rw [upd_ne fun e => by rw [e, h0] at h; cases h]; exact h) (by rw [upd_ne fun e => by rw [e, h0] at d; cases d]; exact d) l (Reps.lock h0 r m)
theorem Reps.lock (h0 : H d0 = some (.dK kvs0)) : ∀ {Z : Addr → Prop} {k ds vs os}, Reps c H Z k ds vs os → d0 ∉ os → Reps c (upd H d0 (.frz od (.dK kvs0))) Z k ds vs os
  | _, _, _, _, _, .nil, _ => .nil
  | _, _, _, _, _, .cons r rs, n => .cons (r.lock h0 fun z => n (List.mem_append_left _ z)) (Reps.lock h0 rs fun z => n (List.mem_append_right _ z))
end
mutual
theorem Rep.thaw (h0 : H d0 = some (.frz od (.dK kvs0))) : ∀ {Z : Addr → Prop} {k d v os}, Z d0 → Rep c H Z k d v os → Rep c (upd H d0 (.dK kvs0)) Z k d v os
  | _, _, _, _, _, _, .non => .non
  | _, _, _, _, _, _, .bl => .bl
  | _, _, _, _, _, _, .int => .int
  | _, _, _, _, _, _, .str => .str
  | _, _, _, _, _, hz, .tup g r => .tup (fz_sqT (fun o ho ys => by rw [h0] at ho; cases ho; exact ⟨fun z => (nomatch z), fun _ z => (nomatch z)⟩) g) (Reps.thaw h0 hz r)
  | _, _, _, _, _, hz, .scr g r => .scr (fz_sqS (fun o ho ys => by rw [h0] at ho; cases ho; exact ⟨fun z => (nomatch z), fun _ z => (nomatch z)⟩) g) (Reps.thaw h0 hz r)
  | _, _, _, _, _, hz, .lstF g z r => .lstF (by rw [upd_ne fun e => by rw [e, h0] at g; cases g]; exact g) z (Reps.thaw h0 hz r)
  | _, _, _, _, _, hz, .lstO g r => .lstO (by rw [upd_ne fun e => by rw [e, h0] at g; cases g]; exact g) (Reps.thaw h0 hz r)
  | _, _, _, _, _, hz, .dctF g z e1 e2 r => .dctF (by rw [upd_ne fun e => by rw [e, h0] at g; cases g]; exact g) z e1 e2 (Reps.thaw h0 hz r)
  | _, _, _, _, _, hz, .dctZ (a := a) (kvs := kvs) g e1 e2 r => by
    have r' := Reps.thaw h0 hz r
    by_cases e : a = d0
    · have hk : kvs0 = kvs := by rw [e, h0] at g; cases g; rfl
      exact .dctF (a := a) (kvs := kvs) (by rw [e, upd_same, hk]) (e ▸ hz) e1 e2 r'
    · exact .dctZ (by rw [upd_ne e]; exact g) e1 e2 r'
  | _, _, _, _, _, hz, .dctO g e1 e2 r => .dctO (by rw [upd_ne fun e => by rw [e, h0] at g; cases g]; exact g) e1 e2 (Reps.thaw h0 hz r)
  | _, _, _, _, _, _, .exc0 g h => .exc0 g (by rw [upd_ne fun e => by rw [e, h0] at h; cases h]; exact h)
  | _, _, _, _, _, hz, .exc1 n g h d l r => .exc1 n g (by rw [upd_ne fun e => by rw [e, h0] at h; cases h]; exact h) (by rw [upd_ne fun e => by rw [e, h0] at d; cases d]; exact d) l (Reps.thaw h0 hz r)
theorem Reps.thaw (h0 : H d0 = some (.frz od (.dK kvs0))) : ∀ {Z : Addr → Prop} {k ds vs os}, Z d0 → Reps c H Z k ds vs os → Reps c (upd H d0 (.dK kvs0)) Z k ds vs os
  | _, _, _, _, _, _, .nil => .nil
  | _, _, _, _, _, hz, .cons r rs => .cons (r.thaw h0 hz) (Reps.thaw h0 hz rs)
end
theorem RepE.thaw (h0 : H d0 = some (.frz od (.dK kvs0))) {Z : Addr → Prop} {xs vs os} (hz : Z d0) (r : RepE c H Z xs vs os) : RepE c (upd H d0 (.dK kvs0)) Z xs vs os := by
  induction r with
  | nil => exact .nil
  | cons r _ ih => exact .cons (r.thaw h0 hz) ih
theorem it_keys {Z : Addr → Prop} (h : H d0 = some (.frz od (.dK kvs0))) : IterOk c H Z (Itk d0 od kvs0) (kvs0.map fun p => kD p.1) :=
  itk_of (by simp) (walk_keys.mono (fun H2 k => k _ _ h (.inr fun z => z)) fun _ _ _ _ _ _ y => y) fun i d hd H2 x H3 k y => by
    obtain ⟨rfl, kk, v, hk, rfl⟩ := y
    rw [List.getElem?_map, hk, Option.map_some, Option.some.injEq] at hd
    subst hd
    refine ⟨Ext.refl _, fun _ h => h, ?_⟩
    cases kk
    · exact .int
    · exact .str
end
section
variable {X : Cx} {W : WX} {S : Nat → Prop} {pos : Pos} {Γ : Gm}
/-- the new list handed on -/
theorem lcp_out {c : Cw} {H H' : Hp} {Z : Addr → Prop} {D : Addr} {acc : List Ent} {vs : List V} {os : List Addr} {Q : VK} (e : Ext H H') (hD : H D = none) (hvs : H' D = some (.lst vs)) (hre : RepE c H' (fun a => Z a ∨ (H a = none ∧ H' a ≠ none ∧ a ∉ os ∧ a ≠ D)) acc vs os) (hnew : ∀ a ∈ os, H a = none) (hnd : os.Nodup) (hDo : D ∉ os)
    (hq : ∀ v H' os, ROk c H Z (if acc.all fu then 9 else 1) (.lst (acc.map (·.2))) v H' os → Q v H') : Q (.ref D) H' := by
  by_cases hfu : acc.all fu = true
  · rw [if_pos hfu] at hq
    have r2 := RepE.full (Z' := fun a => Z a ∨ (H a = none ∧ H' a ≠ none ∧ a ∉ D :: os)) hre hfu
    refine hq (.ref D) H' (D :: os) ⟨e, .lstO hvs r2, fun a q => ?_, List.nodup_cons.mpr ⟨hDo, hnd⟩⟩
    rcases List.mem_cons.mp q with rfl | q
    · exact hD
    · exact hnew a q
  · rw [if_neg hfu] at hq
    have hth := hre.there
    have r2 := RepE.demote (Z' := fun a => Z a ∨ (H a = none ∧ H' a ≠ none ∧ a ∉ [D])) (fun a q => by
      rcases q with q | ⟨q1, q2, q3, q4⟩
      · exact .inl q
      · exact .inr ⟨q1, q2, fun z => q4 (List.mem_singleton.mp z)⟩) hre fun a q => .inr ⟨hnew a q, hth a q, fun z => hDo (List.mem_singleton.mp z ▸ q)⟩
    refine hq (.ref D) H' [D] ⟨e, .lstO hvs r2, fun a q => ?_, by simp⟩
    rw [List.mem_singleton.mp q]
    exact hD
theorem lck_imp {evc : Env → Res Bool} {eve : Env → Res Ent} {t : Tg} {own : List Nat} {σ : L2.St} {H : Hp} {Q : VK} {i : Nat} (hS : ∀ i, S i) (hown : ∀ i, tgIn i t → i ∈ own)
    (h : bE X.cw W S (fun env => (evE Γ (.nm i) env >>= fun x => Res.of (iterD .keys [x.2])) >>= fun ds => mapR (turnR t own evc eve env) ds >>= fun ys => Res.of (lstO (ys.filterMap id))) σ H Q) :
    tLockE (tLc (iKeys (tVar i)) (gT X.K t) (bT X.cw WF S evc) (bE X.cw WF S eve) own) σ H Q ∨ tLc (iKeys (tVar i)) (gT X.K t) (bT X.cw WF S evc) (bE X.cw WF S eve) own σ H Q := by
  obtain ⟨env, Z, er, h⟩ := h
  have h : Fin ((evE Γ (.nm i) env >>= fun x => Res.of (iterD .keys [x.2])) >>= fun ds => mapR (turnR t own evc eve env) ds >>= fun ys => Res.of (lstO (ys.filterMap id))) _ _ := h
  cases he : env[i]? with
  | none =>
    have : evE Γ (.nm i) env = .stuck := by show (match env[i]? with | some (some x) => Res.ok (0, x.2.1) | _ => .stuck) = _; rw [he]
    rw [this] at h
    exact h.elim
  | some o =>
    cases o with
    | none =>
      have : evE Γ (.nm i) env = .stuck := by show (match env[i]? with | some (some x) => Res.ok (0, x.2.1) | _ => .stuck) = _; rw [he]
      rw [this] at h
      exact h.elim
    | some s =>
      have : evE Γ (.nm i) env = .ok (0, s.2.1) := by show (match env[i]? with | some (some x) => Res.ok (0, x.2.1) | _ => .stuck) = _; rw [he]
      rw [this] at h
      obtain ⟨v, hv, rv⟩ := er.at_ i (hS i) s he
      obtain ⟨s1, sd, sB⟩ := s
      dsimp only at rv h
      cases sd with
      | dct ks ws =>
        have h : Fin (mapR (turnR t own evc eve env) ks >>= fun ys => Res.of (lstO (ys.filterMap id))) _ _ := h
        cases em : mapR (turnR t own evc eve env) ks with
        | stuck => rw [em] at h; exact h.elim
        | exc x => exact absurd em mapR_nox
        | ok ys =>
          rw [em] at h
          obtain ⟨x, ex, hq⟩ := Fin.of (show Fin (Res.of (lstO (ys.filterMap id))) _ _ from h)
          unfold lstO at ex
          obtain ⟨hz, rfl⟩ := itb_of ex
          have hz := szOk_le hz
          generalize hoe : ([] : List Addr) = oe at rv
          cases rv with
          | @dctF _ _ a kvs us g hza e1 e2 rs =>
            subst e1
            refine .inl ⟨a, .dK kvs, g, trivial, fun od => ⟨.ref a, hv, a, od, rfl, .inl ⟨kvs, upd_same, fun D hD => ?_⟩⟩⟩
            have hDa : D ≠ a := fun z => by rw [z, upd_same] at hD; cases hD
            have hD0 : H D = none := by rw [upd_ne hDa] at hD; exact hD
            have er1 : EnvR X.cw (upd H a (.frz od (.dK kvs))) Z S σ env := by
              refine ⟨fun b q => ?_, er.len, fun j hj x hx => ?_⟩
              · by_cases e : b = a
                · rw [e, upd_same]; exact fun z => by cases z
                · rw [upd_ne e]; exact er.there b q
              · obtain ⟨w, h1, h2⟩ := er.at_ j hj x hx
                exact ⟨w, h1, h2.lock g (by simp)⟩
            refine lc_run hown er1 (it_keys upd_same) em hz hD fun H' p => ?_
            obtain ⟨ext, vs, os, hvs, hre, hnew, hnd, hDo⟩ := p
            have hfz : H' a = some (.frz od (.dK kvs)) := ext _ _ upd_same
            have nn : ∀ b, upd H a (.frz od (.dK kvs)) b = none → H b = none := fun b q => by
              by_cases e : b = a
              · rw [e, upd_same] at q; cases q
              · rw [upd_ne e] at q; exact q
            refine ⟨hfz, lcp_out (os := os) (vs := vs) (fun b o q => ?_) hD0 (by rw [upd_ne hDa]; exact hvs) ((hre.thaw hfz (.inl hza)).mono (Ext.refl _) fun b q => ?_) (fun b q => nn b (hnew b q)) hnd hDo hq⟩
            · by_cases e : b = a
              · subst e
                rw [g] at q
                cases q
                exact upd_same
              · rw [upd_ne e]
                exact ext b o (by rw [upd_ne e]; exact q)
            · rcases q with q | ⟨q1, q2, q3, q4⟩
              · exact .inl q
              · refine .inr ⟨nn b q1, ?_, q3, q4⟩
                by_cases e : b = a
                · rw [e, upd_same]; exact fun z => by cases z
                · rw [upd_ne e]; exact q2
          | @dctZ _ _ a od kvs us g e1 e2 rs =>
            subst e1
            refine .inr ⟨.ref a, hv, a, od, rfl, .inl ⟨kvs, g, fun D hD => ?_⟩⟩
            refine lc_run hown er (it_keys g) em hz hD fun H' p => ?_
            obtain ⟨ext, vs, os, hvs, hre, hnew, hnd, hDo⟩ := p
            exact lcp_out ext hD hvs hre hnew hnd hDo hq
      | _ => exact h.elim
theorem pe_or2 {e : Expr} {t1 t2 : TE} (h1 : PE X e t1) (h2 : PE X e t2) : PE X e (fun σ H Q => t1 σ H Q ∨ t2 σ H Q) := ⟨fun pins s σ H Q I q => q.elim (h1.run pins s σ H Q I) (h2.run pins s σ H Q I)⟩
theorem be_lck {evc : Env → Res Bool} {eve : Env → Res Ent} {t : Tg} {elt tg iter : Expr} {ifs : List Expr} {scope : Scope} {own : List (Str × Nat)} {i : Nat} (hS : ∀ i, S i) (hc : X.calm = true) (hN : X.N.Nodup)
    (hi : PE X iter (tVar i)) (ok : BlkOk X.N X.env.scope scope own) (hown : ∀ i, tgIn i t → i ∈ own.map (·.2))
    (hg : ∀ (s : Shared) (H : Hp) (C : Addr) (cl : List (Str × Addr)) (fp : List Addr), PG (X.blk s H scope (compEnvC scope cl C X.env) fp) tg (gT X.K t))
    (ht : ∀ (s : Shared) (H : Hp) (C : Addr) (cl : List (Str × Addr)) (fp : List Addr), PTs (X.blk s H scope (compEnvC scope cl C X.env) fp) ifs (bT X.cw WF S evc))
    (he : ∀ (s : Shared) (H : Hp) (C : Addr) (cl : List (Str × Addr)) (fp : List Addr), PE (X.blk s H scope (compEnvC scope cl C X.env) fp) elt (bE X.cw WF S eve)) (hs : ∀ x, foldedSetIterable iter X.env x = pure x) :
    PE X (.ListComp elt [⟨tg, iter, ifs, 0⟩] scope pos) (bE X.cw W S fun env => (evE Γ (.nm i) env >>= fun x => Res.of (iterD .keys [x.2])) >>= fun ds => mapR (turnR t (own.map (·.2)) evc eve env) ds >>= fun ys => Res.of (lstO (ys.filterMap id))) := by
  have p := pe_lc (pos := pos) hc hN (pi_keys (tg := tg) hi) ok hg ht he hs
  exact (pe_or2 (pe_lock p) p).imp fun σ H Q h => lck_imp hS hown h
end
end MP

/-! MPp: from the program's text to the little language. -/
namespace MP
open PySem PySem.Spec PyProof.Rows L2 RZ
/-- what the names of a program are -/
structure Tb where
  /-- its functions -/
  ar : Str → Option Nat
  /-- names of classes -/
  cls : Str → Bool
  /-- names of constants -/
  gl : Str → Bool
  /-- built-in names that it leaves alone -/
  fr : Str → Bool
  /-- names that stand for dicts where they are walked -/
  dk : Str → Bool
/-! ### checks -/
def notSl : Expr → Bool
  | .Slice _ _ _ _ => false
  | _ => true
def notStar : Expr → Bool
  | .Starred _ _ => false
  | _ => true
def notSet : Expr → Bool
  | .Set _ _ _ => false
  | _ => true
def visB (sc : Scope) (x : Str) : Bool := match sc.names.lookup x with
  | some .local => true
  | some .cell => true
  | some .free => true
  | _ => false
def glbB (sc : Scope) (x : Str) : Bool := decide (sc.names.lookup x = some .globalImplicit)
def okN (x : Str) : Bool := !(x == ("__debug__" : Str)) && !(x == ("__classdict__" : Str))
def bop? : Operator → Option Bop
  | .Add => some .add | .Sub => some .sub | .Mult => some .mul | .FloorDiv => some .fdiv | .Mod => some .mod | .Pow => some .pow
  | _ => none
def cop : CmpOp → Cop
  | .Eq => .eq | .NotEq => .ne | .Lt => .lt | .LtE => .le | .Gt => .gt | .GtE => .ge | .Is => .isn | .IsNot => .isnt | .In => .inn | .NotIn => .notin
def bl?n (x : Str) : Option Bl := [Bl.len, .abs, .all, .dict, .int, .list, .sum, .str, .max, .min].find? fun b => x == b.nm
def ownOf (N : List Str) (sc : Scope) : List (Str × Nat) := sc.names.filterMap fun y => match y.2 with
  | .local => (N.idxOf? y.1).map fun i => (y.1, i)
  | .cell => (N.idxOf? y.1).map fun i => (y.1, i)
  | _ => none
def blkB (N : List Str) (sc scope : Scope) (own : List (Str × Nat)) : Bool :=
  decide (scope.kind = .function) && decide (∀ y ∈ scope.names, scope.names.lookup y.1 = some y.2) && decide (∀ p ∈ own, N[p.2]? = some p.1) &&
  decide (∀ y ∈ scope.names, y.2 = .free → sc.names.lookup y.1 = some .cell ∨ sc.names.lookup y.1 = some .free) &&
  decide (∀ y ∈ scope.names, y.2 = .local ∨ y.2 = .cell → y.1 ∈ own.map (·.1) ∨ y.1 ∉ N)
theorem blkB_ok {N : List Str} {sc scope : Scope} {own : List (Str × Nat)} (h : blkB N sc scope own = true) : BlkOk N sc scope own := by
  unfold blkB at h
  simp only [Bool.and_eq_true, decide_eq_true_eq] at h
  exact ⟨h.1.1.1.1, h.1.1.1.2, h.1.1.2, h.1.2, h.2⟩
theorem vis_of {sc : Scope} {x : Str} (h : visB sc x = true) : Vis sc x := by
  unfold visB at h
  unfold Vis
  split at h <;> simp_all
/-- the slots of a target -/
def trT (N : List Str) (sc : Scope) : Nat → Expr → Option Tg
  | 0, _ => none
  | n + 1, e => match e with
    | .Name x _ => if okN x && decide (sc.names.lookup x = some .local) then (N.idxOf? x).map .nm else if okN x && decide (sc.names.lookup x = some .cell) then (N.idxOf? x).map .nm else none
    | .Tuple es _ _ => (trTs N sc n es).map .tup
    | _ => none
where
  trTs (N : List Str) (sc : Scope) : Nat → List Expr → Option (List Tg)
  | 0, _ => none
  | n + 1, es => match es with
    | [] => some []
    | e :: es => (trT N sc n e).bind fun t => (trTs N sc n es).map (t :: ·)
def tgIns : Tg → List Nat → Bool
  | .nm i, l => l.contains i
  | .tup ts, l => go ts l
where
  go : List Tg → List Nat → Bool
  | [], _ => true
  | t :: ts, l => tgIns t l && go ts l
/-- a part of a slice -/
def trP (f : Expr → Ex) : Option Expr → Ex
  | none => .nop
  | some e => match f e with
    | .nop => .bad
    | x => x
def trB (op : BoolOp) : List Ex → Ex
  | [] => .bad
  | [x] => x
  | x :: y :: r => match op with
    | .And => .and x (trB op (y :: r))
    | .Or => .or x (trB op (y :: r))
/-- what is walked -/
def trI (T : Tb) (f : Expr → Ex) (sc : Scope) : Expr → IK × List Ex
  | .Call (.Name x p) args [] q =>
    if (x == ("range" : Str) && glbB sc x && T.fr x && args.all notStar && (args.length == 1 || args.length == 2)) = true then (.rng, args.map f)
    else if (x == ("enumerate" : Str) && glbB sc x && T.fr x && args.all notStar && args.length == 1) = true then (.enum, args.map f)
    else if (x == ("zip" : Str) && glbB sc x && T.fr x && args.all notStar && args.length == 2) = true then (.zip, args.map f)
    else (.seq, [f (.Call (.Name x p) args [] q)])
  | .Name x p => if T.dk x = true then (.keys, [f (.Name x p)]) else (.seq, [f (.Name x p)])
  | e => (.seq, [f e])
def isNm : List Ex → Bool
  | [.nm _] => true
  | _ => false
def isTup : Expr → Bool
  | .Tuple _ _ _ => true
  | _ => false
def okI (ik : IK) (tg : Expr) : Bool := match ik with
  | .seq => true
  | .rng => true
  | .enum => isTup tg
  | .zip => isTup tg
  | .keys => false
/-- the names of a tuple of classes -/
def clsN (T : Tb) (sc : Scope) : List Expr → Option (List Str)
  | [] => some []
  | .Name x _ :: es => if (glbB sc x && okN x && T.cls x) = true then (clsN T sc es).map (x :: ·) else none
  | _ :: _ => none
def isLR : List Expr → Bool
  | [.Call (.Name r _) [_] [] _] => r == ("range" : Str)
  | _ => false
/-- a call of a name -/
def trC (T : Tb) (f : Expr → Ex) (sc : Scope) (x : Str) (args : List Expr) : Ex :=
  if (x == ("isinstance" : Str)) = true then
    match args with
    | [a, .Name c _] => if (glbB sc x && T.fr x && notStar a && glbB sc c && okN c && T.cls c) = true then .isi (f a) [c] else .bad
    | [a, .Tuple es _ _] => match clsN T sc es with
      | some (c :: cs) => if (glbB sc x && T.fr x && notStar a && decide ((c :: cs).length ≤ 1000)) = true then .isi (f a) (c :: cs) else .bad
      | _ => .bad
    | _ => .bad
  else if (x == ("list" : Str) && isLR args) = true then
    match args with
    | [.Call (.Name r _) [a] [] _] => if (glbB sc x && T.fr x && glbB sc r && T.fr r && notStar a) = true then .lrng (f a) else .bad
    | _ => .bad
  else if (x == ("repr" : Str)) = true then
    match args with
    | [a] => if (glbB sc x && T.fr x && notStar a) = true then .rpr (f a) else .bad
    | _ => .bad
  else if (x == ("tuple" : Str)) = true then
    match args with
    | [a] => if (glbB sc x && T.fr x && notStar a) = true then .tupl (f a) else .bad
    | _ => .bad
  else match bl?n x with
    | some b => if (glbB sc x && T.fr x && args.all notStar && !args.isEmpty) = true then .blt b (args.map f) else .bad
    | none => match T.ar x with
      | some k => if (glbB sc x && okN x && args.all notStar && args.length == k && !args.isEmpty) = true then .call x (args.map f) else .bad
      | none => .bad
/-- the scope within a comprehension -/
def relab (scope sc : Scope) : Scope :=
  { scope with names := scope.names.map fun (n, k) => if (k == .free && sc.kind == .function && sc.names.lookup n == some .cell) then (n, .cell) else (n, k) }
theorem relab_eq (scope : Scope) (env : PySem.Env) : relabel scope env = relab scope env.scope := rfl
theorem relab_local {scope sc : Scope} {x : Str} (h : scope.names.lookup x = some .local) : (relab scope sc).names.lookup x = some .local := by
  unfold relab
  dsimp only
  generalize scope.names = names at h
  induction names with
  | nil => simp at h
  | cons y r ih =>
    obtain ⟨n, k⟩ := y
    rw [List.lookup_cons] at h
    rw [List.map_cons]
    cases hx : x == n with
    | true =>
      rw [hx] at h
      cases h
      simp [List.lookup_cons, hx]
    | false =>
      rw [hx] at h
      have := ih h
      split <;> simp only [List.lookup_cons, hx] <;> exact this
theorem relab_cell {scope sc : Scope} {x : Str} (h : scope.names.lookup x = some .cell) : (relab scope sc).names.lookup x = some .cell := by
  unfold relab
  dsimp only
  generalize scope.names = names at h
  induction names with
  | nil => simp at h
  | cons y r ih =>
    obtain ⟨n, k⟩ := y
    rw [List.lookup_cons] at h
    rw [List.map_cons]
    cases hx : x == n with
    | true =>
      rw [hx] at h
      cases h
      simp [List.lookup_cons, hx]
    | false =>
      rw [hx] at h
      have := ih h
      split <;> simp only [List.lookup_cons, hx] <;> exact this
def trE (T : Tb) (N : List Str) : Nat → Scope → Expr → Ex
  | 0, _, _ => .bad
  | n + 1, sc, e => match e with
    | .Name x _ => if (okN x && visB sc x) = true then (match N.idxOf? x with | some i => .nm i | none => .bad) else if (okN x && glbB sc x && T.gl x) = true then .gl x else .bad
    | .Constant c _ _ => match c with
      | .none => .non
      | .bool b => .bl b
      | .int i => .int i
      | .str s => .str s
      | _ => .bad
    | .Tuple es _ _ => if es.all notStar = true then .tup (es.map (trE T N n sc)) else .bad
    | .List es _ => if es.all notStar = true then .lst (es.map (trE T N n sc)) else .bad
    | .BinOp a op b _ => match bop? op with
      | some o => .bin o (trE T N n sc a) (trE T N n sc b)
      | none => .bad
    | .UnaryOp op a _ => match op with
      | .USub => .neg (trE T N n sc a)
      | .Not => .not (trE T N n sc a)
      | _ => .bad
    | .BoolOp op vs _ => trB op (vs.map (trE T N n sc))
    | .IfExp c a b _ => .ife (trE T N n sc c) (trE T N n sc a) (trE T N n sc b)
    | .Compare a ops bs _ => match ops, bs with
      | [op], [b] => if behindInMarks op b = false then .cmp (cop op) (trE T N n sc a) (trE T N n sc b) else .bad
      | [op, op2], [b, d] => if behindInMarks op2 d = false then .chain (cop op) (cop op2) (trE T N n sc a) (trE T N n sc b) (trE T N n sc d) else .bad
      | _, _ => .bad
    | .Subscript a b _ => match b with
      | .Slice none none (some (.UnaryOp .USub (.Constant (.int 1) _ _) _)) _ => .rev (trE T N n sc a)
      | .Slice lo hi none _ => .slc (trE T N n sc a) (trP (trE T N n sc) lo) (trP (trE T N n sc) hi)
      | b => if notSl b = true then .idx (trE T N n sc a) (trE T N n sc b) else .bad
    | .Call g args kws _ => match g, kws with
      | .Name x _, [] => trC T (trE T N n sc) sc x args
      | _, _ => .bad
    | .ListComp elt gens scope _ => match gens with
      | [⟨tg, iter, ifs, 0⟩] => match trT N scope 20 tg with
        | some t => if (blkB N sc scope (ownOf N scope) && tgIns t ((ownOf N scope).map (·.2)) && notSet iter && decide (ifs.length ≤ 1) && (okI (trI T (trE T N n sc) sc iter).1 tg || ((trI T (trE T N n sc) sc iter).1 == .keys && isNm (trI T (trE T N n sc) sc iter).2))) = true then
            .lc (trE T N n (relab scope sc) elt) t (trI T (trE T N n sc) sc iter).1 (trI T (trE T N n sc) sc iter).2 (ifs.map (trE T N n (relab scope sc))) ((ownOf N scope).map (·.2))
          else .bad
        | none => .bad
      | _ => .bad
    | _ => .bad
/-! ### what stands behind it -/
structure CtxF (T : Tb) (Γ : Gm) (X : Cx) : Prop where
  calm : X.calm = true
  nd : X.N.Nodup
  hu : X.A.units + 65 < cLine
  gd : X.A.guards = some []
  sm : ∃ o, X.K.lookup sysModules = some o
  kit : KitF X.cw Γ
  cls : ∀ x, T.cls x = true → ∃ v u, IsCls X.cw x v u
  gl : ∀ x, T.gl x = true → ∃ d v u, Γ.glob x = some d ∧ X.mg x = some u ∧ RelV v u ∧ ∀ H Z, Rep X.cw H Z 0 d v []
  fr : ∀ x, T.fr x = true → X.mg x = none
  fn : ∀ f n, T.ar f = some n → ∃ k a fd ps, FnOkG X.prog X.w X.K X.mg X.base (L2.CX X.prog X.w) k a fd ps (spB X.cw (Γ.call f) n) ∧ Room k X.A ∧ X.mg f = some (.ref a) ∧ PySem.W.keepIn X.K (.ref a) = true ∧ Binds X.K fd ps []
theorem CtxF.blk {T : Tb} {Γ : Gm} {X : Cx} (C : CtxF T Γ X) (s : Shared) (H : Hp) (scope : Scope) (cl : List (Str × Addr)) (A : Addr) (fp : List Addr) : CtxF T Γ (X.blk s H scope (compEnvC scope cl A X.env) fp) :=
  ⟨C.calm, C.nd, C.hu, C.gd, C.sm, C.kit, C.cls, C.gl, C.fr, C.fn⟩
theorem takesF {X : Cx} {s : Shared} {H : Hp} {scope : Scope} {e : PySem.Env} {fp : List Addr} : L2.Takes (X.blk s H scope e fp) WF := fun _ _ ⟨_, _, _, _, _, _, _, _, _, _, _, _, _, _, _, _, w⟩ => w.elim
section
variable {X : Cx} {c : Cw} {W : WX} {S : Nat → Prop} {e : Expr} {T : Tb} {Γ : Gm}
theorem be_bad : PE X e (bE c W S (evE Γ .bad)) := ⟨fun _ _ _ _ _ _ h => by obtain ⟨env, Z, er, h⟩ := h; exact h.elim⟩
theorem bt_bad : PT X e (bT c W S fun env => evE Γ .bad env >>= asB) := ⟨fun _ _ _ _ _ _ h => by obtain ⟨env, Z, er, h⟩ := h; exact h.elim⟩
theorem bop_ok {op : Operator} {b : Bop} (h : bop? op = some b) : ∃ r, OpR X (binaryOp op) r ∧ Pr2 X.cw r (binD b) := by
  cases op <;> cases h
  · exact ⟨_, op_addA, pr_add⟩
  · exact ⟨_, op_sub, pr_sub⟩
  · exact ⟨_, op_mulA, pr_mul⟩
  · exact ⟨_, op_mod, pr_mod⟩
  · exact ⟨_, op_pow, pr_pow⟩
  · exact ⟨_, op_fdivW, pr_fdiv⟩
theorem cop_ok (hu : X.A.units + 65 < cLine) (op : CmpOp) : ∃ r, OpR X (compareOp op) r ∧ Pr2 X.cw r (cmpD (cop op)) := by
  cases op
  · exact ⟨_, op_eqD (by omega), pr_eq⟩
  · exact ⟨_, op_neD (by omega), pr_ne⟩
  · exact ⟨_, op_lt, pr_cmpI⟩
  · exact ⟨_, op_le, pr_cmpI⟩
  · exact ⟨_, op_gt, pr_cmpI⟩
  · exact ⟨_, op_ge, pr_cmpI⟩
  · exact ⟨_, op_isA, pr_isn⟩
  · exact ⟨_, op_isntA, pr_isnt⟩
  · exact ⟨_, op_in hu, pr_in⟩
  · exact ⟨_, op_notIn hu, pr_notIn⟩
theorem star_of {a : Expr} {es : List Expr} {env : PySem.Env} (h : notStar a = true) : starEach (a :: es) env = (false, eval a env) :: starEach es env := by
  cases a <;> first | rfl | cases h
theorem star_any {es : List Expr} {env : PySem.Env} {pos : Pos} (h : es.all notStar = true) : (backTo pos (starEach es env)).any (·.1) = false := by
  induction es with
  | nil => rfl
  | cons a es ih =>
    simp only [List.all_cons, Bool.and_eq_true] at h
    rw [star_of h.1]
    unfold backTo at ih ⊢
    rw [List.map_cons, List.any_cons, ih h.2]
    rfl
theorem plain_of {b : Expr} (h : notSl b = true) : PlainIx b := by
  cases b <;> first | exact fun _ _ => rfl | cases h
theorem ba_all (hp : ∀ e ∈ ([] : List Expr), True) {f : Expr → Ex} (hf : ∀ e, PE X e (bE X.cw W S (evE Γ (f e)))) : ∀ {es : List Expr}, es.all notStar = true → PA X es (bL X.cw W S (evL Γ (es.map f)))
  | [], _ => ba_nil
  | a :: es, h => by
    simp only [List.all_cons, Bool.and_eq_true] at h
    exact ba_cons (hf a) (ba_all hp hf h.2) (star_of h.1)
theorem evL_length {xs : List Ex} {env : Env} {ys : List Ent} (h : evL Γ xs env = .ok ys) : ys.length = xs.length := by
  induction xs generalizing ys with
  | nil => cases h; rfl
  | cons x xs ih =>
    have h : (evE Γ x env >>= fun y => evL Γ xs env >>= fun ys => .ok (y :: ys)) = .ok ys := h
    cases e : evE Γ x env with
    | ok y =>
      rw [e, res_ok_bind] at h
      cases e2 : evL Γ xs env with
      | ok zs =>
        rw [e2] at h
        cases h
        rw [List.length_cons, List.length_cons, ih e2]
      | exc x => rw [e2] at h; cases h
      | stuck => rw [e2] at h; cases h
    | exc x => rw [e] at h; cases h
    | stuck => rw [e] at h; cases h
end
end MP

/-! MPq: the expressions' translation is sound. -/
namespace MP
open PySem PySem.Spec PyProof.Rows L2 RZ
theorem idxOf_of {N : List Str} {x : Str} {i : Nat} (h : N.idxOf? x = some i) : N[i]? = some x := by
  unfold List.idxOf? at h
  obtain ⟨h1, h2, _⟩ := List.findIdx?_eq_some_iff_getElem.mp h
  rw [List.getElem?_eq_getElem h1, beq_iff_eq.mp h2]
theorem boot_range' : bootBuiltins "range" = some (.type "range") := boot_range
section
variable {X : Cx} {W : WX} {S : Nat → Prop} {T : Tb} {Γ : Gm}
mutual
theorem trT_ok {N : List Str} {sc : Scope} (hN : X.N = N) (nd : X.N.Nodup) (hc : X.calm = true) (hl : ∀ x, sc.names.lookup x = some .local → X.env.scope.names.lookup x = some .local)
    (hce : ∀ x, sc.names.lookup x = some .cell → X.env.scope.names.lookup x = some .cell ∧ X.fn x = true) : ∀ (n : Nat) {e : Expr} {t : Tg}, trT N sc n e = some t → PG X e (gT X.K t)
  | 0, e, t, h => by cases h
  | n + 1, e, t, h => by
    cases e with
    | Name x pos =>
      unfold trT at h
      dsimp only at h
      by_cases h1 : (okN x && decide (sc.names.lookup x = some .local)) = true
      · rw [if_pos h1] at h
        obtain ⟨i, hi, rfl⟩ := Option.map_eq_some_iff.mp h
        simp only [Bool.and_eq_true, decide_eq_true_eq] at h1
        exact pg_name nd (by rw [hN]; exact idxOf_of hi) (.inl (hl x h1.2)) (.inr (hl x h1.2))
      · rw [if_neg h1] at h
        by_cases h2 : (okN x && decide (sc.names.lookup x = some .cell)) = true
        · rw [if_pos h2] at h
          obtain ⟨i, hi, rfl⟩ := Option.map_eq_some_iff.mp h
          simp only [Bool.and_eq_true, decide_eq_true_eq] at h2
          exact pg_name nd (by rw [hN]; exact idxOf_of hi) (.inr (hce x h2.2).1) (.inl (hce x h2.2).2)
        · rw [if_neg h2] at h; cases h
    | Tuple es k pos =>
      unfold trT at h
      dsimp only at h
      obtain ⟨ts, hts, rfl⟩ := Option.map_eq_some_iff.mp h
      obtain ⟨h1, h2, h3⟩ := trTs_ok hN nd hc hl hce n hts
      exact pg_tup hc h1 h2 h3
    | _ => cases h
theorem trTs_ok {N : List Str} {sc : Scope} (hN : X.N = N) (nd : X.N.Nodup) (hc : X.calm = true) (hl : ∀ x, sc.names.lookup x = some .local → X.env.scope.names.lookup x = some .local)
    (hce : ∀ x, sc.names.lookup x = some .cell → X.env.scope.names.lookup x = some .cell ∧ X.fn x = true) : ∀ (n : Nat) {es : List Expr} {ts : List Tg}, trT.trTs N sc n es = some ts →
      PGs X es (gTs X.K ts) ∧ (assignEach es X.env).length = ts.length ∧ (assignEach es X.env).findIdx? (·.1) = none
  | 0, es, ts, h => by cases h
  | n + 1, [], ts, h => by
    cases h
    exact ⟨pgs_nil, rfl, rfl⟩
  | n + 1, e :: es, ts, h => by
    unfold trT.trTs at h
    dsimp only at h
    obtain ⟨t, ht, h⟩ := Option.bind_eq_some_iff.mp h
    obtain ⟨ts', hts, rfl⟩ := Option.map_eq_some_iff.mp h
    have p1 := trT_ok hN nd hc hl hce n ht
    obtain ⟨p2, p3, p4⟩ := trTs_ok hN nd hc hl hce n hts
    have hs : assignEach (e :: es) X.env = (false, assign e X.env) :: assignEach es X.env := by
      cases n with
      | zero => cases ht
      | succ n => cases e <;> first | rfl | cases ht
    refine ⟨pgs_cons p1 p2 (by rw [hs]; rfl), by rw [hs, List.length_cons, p3]; rfl, ?_⟩
    rw [hs, List.findIdx?_cons]
    simp only [Bool.false_eq_true, if_false, p4, Option.map_none]
end
mutual
theorem tgIns_ok {l : List Nat} {i : Nat} : ∀ {t : Tg}, tgIns t l = true → tgIn i t → i ∈ l
  | .nm j, h, q => by cases q; simpa [tgIns] using h
  | .tup ts, h, q => by
    cases q with
    | tup q => exact tgIns_oks (by simpa [tgIns] using h) q
theorem tgIns_oks {l : List Nat} {i : Nat} : ∀ {ts : List Tg}, tgIns.go ts l = true → tgsIn i ts → i ∈ l
  | t :: ts, h, .hd q => by
    simp only [tgIns.go, Bool.and_eq_true] at h
    exact tgIns_ok h.1 q
  | t :: ts, h, .tl q => by
    simp only [tgIns.go, Bool.and_eq_true] at h
    exact tgIns_oks h.2 q
end
theorem glb_of {x : Str} (h : glbB X.env.scope x = true) : Gl X x := of_decide_eq_true (p := X.env.scope.names.lookup x = some .globalImplicit) h
theorem okN_of {x : Str} (h : okN x = true) : (x == ("__debug__" : Str)) = false ∧ (x == ("__classdict__" : Str)) = false := by
  unfold okN at h
  simp only [Bool.and_eq_true, Bool.not_eq_true'] at h
  exact h
theorem blN_of {x : Str} {b : Bl} (h : bl?n x = some b) : x = b.nm := beq_iff_eq.mp (List.find?_some (p := fun b : Bl => x == b.nm) h)
theorem clsN_ok (C : CtxF T Γ X) : ∀ {es : List Expr} {ns : List Str}, clsN T X.env.scope es = some ns → NamesE X ns es ∧ ∃ cvs cus, ClsL X.cw ns cvs cus
  | [], ns, h => by cases h; exact ⟨.nil, [], [], .nil⟩
  | e :: es, ns, h => by
    cases e with
    | Name x p =>
      unfold clsN at h
      by_cases h1 : (glbB X.env.scope x && okN x && T.cls x) = true
      · rw [if_pos h1] at h
        obtain ⟨ns', h2, rfl⟩ := Option.map_eq_some_iff.mp h
        simp only [Bool.and_eq_true] at h1
        obtain ⟨p1, cvs, cus, p2⟩ := clsN_ok C h2
        obtain ⟨v, u, hc⟩ := C.cls x h1.2
        exact ⟨.cons (glb_of h1.1.1) (okN_of h1.1.2).1 p1, _, _, .cons hc p2⟩
      · rw [if_neg h1] at h; cases h
    | _ => cases h
theorem trC_ok (C : CtxF T Γ X) (tk : L2.Takes X W) {f : Expr → Ex} (hf : ∀ e, PE X e (bE X.cw W S (evE Γ (f e)))) (x : Str) (args : List Expr) (p pos : Pos) : PE X (.Call (.Name x p) args [] pos) (bE X.cw W S (evE Γ (trC T f X.env.scope x args))) := by
  unfold trC
  by_cases hi : (x == ("isinstance" : Str)) = true
  · rw [if_pos hi]
    obtain rfl : x = "isinstance" := beq_iff_eq.mp hi
    split
    · rename_i a c pc
      by_cases h1 : (glbB X.env.scope "isinstance" && T.fr "isinstance" && notStar a && glbB X.env.scope c && okN c && T.cls c) = true
      · rw [if_pos h1]
        simp only [Bool.and_eq_true] at h1
        obtain ⟨v, u, hc⟩ := C.cls c h1.2
        exact be_isi1 C.kit hc (okN_of h1.1.2).1 (glb_of h1.1.1.1.1.1) (C.fr _ h1.1.1.1.1.2) (hf a) (glb_of h1.1.1.2) (star_of h1.1.1.1.2)
      · rw [if_neg h1]; exact be_bad
    · rename_i a es k pt
      split
      · rename_i c cs hcs
        by_cases h1 : (glbB X.env.scope "isinstance" && T.fr "isinstance" && notStar a && decide ((c :: cs).length ≤ 1000)) = true
        · rw [if_pos h1]
          simp only [Bool.and_eq_true, decide_eq_true_eq] at h1
          obtain ⟨hn, cvs, cus, hc⟩ := clsN_ok C hcs
          exact be_isiT C.kit hc (by simp) h1.2 (glb_of h1.1.1.1) (C.fr _ h1.1.1.2) (hf a) hn (star_of h1.1.2)
        · rw [if_neg h1]; exact be_bad
      · exact be_bad
    · exact be_bad
  · rw [if_neg hi]
    by_cases hl : (x == ("list" : Str) && isLR args) = true
    · rw [if_pos hl]
      simp only [Bool.and_eq_true] at hl
      obtain rfl : x = "list" := beq_iff_eq.mp hl.1
      split
      · rename_i r pr a pc
        by_cases h1 : (glbB X.env.scope "list" && T.fr "list" && glbB X.env.scope r && T.fr r && notStar a) = true
        · rw [if_pos h1]
          simp only [Bool.and_eq_true] at h1
          obtain rfl : r = "range" := beq_iff_eq.mp hl.2
          exact be_lrng C.calm (glb_of h1.1.1.1.1) (C.fr _ h1.1.1.1.2) (glb_of h1.1.1.2) (C.fr _ h1.1.2) (hf a) (star_of h1.2) (star_of rfl)
        · rw [if_neg h1]; exact be_bad
      · exact be_bad
    · rw [if_neg hl]
      by_cases hrp : (x == ("repr" : Str)) = true
      · rw [if_pos hrp]
        obtain rfl : x = "repr" := beq_iff_eq.mp hrp
        split
        · rename_i a
          by_cases h1 : (glbB X.env.scope "repr" && T.fr "repr" && notStar a) = true
          · rw [if_pos h1]
            simp only [Bool.and_eq_true] at h1
            exact be_rpr C.gd C.hu C.sm (glb_of h1.1.1) (C.fr _ h1.1.2) (hf a) (star_of h1.2)
          · rw [if_neg h1]; exact be_bad
        · exact be_bad
      rw [if_neg hrp]
      by_cases htu : (x == ("tuple" : Str)) = true
      · rw [if_pos htu]
        obtain rfl : x = "tuple" := beq_iff_eq.mp htu
        split
        · rename_i a
          by_cases h1 : (glbB X.env.scope "tuple" && T.fr "tuple" && notStar a) = true
          · rw [if_pos h1]
            simp only [Bool.and_eq_true] at h1
            exact be_tupl (glb_of h1.1.1) (C.fr _ h1.1.2) (hf a) (star_of h1.2)
          · rw [if_neg h1]; exact be_bad
        · exact be_bad
      rw [if_neg htu]
      split
      · rename_i b hb
        by_cases h1 : (glbB X.env.scope x && T.fr x && args.all notStar && !args.isEmpty) = true
        · rw [if_pos h1]
          simp only [Bool.and_eq_true] at h1
          obtain rfl := blN_of hb
          cases args with
          | nil => simp at h1
          | cons a es =>
            have ha := h1.1.2
            simp only [List.all_cons, Bool.and_eq_true] at ha
            exact be_blt C.calm (glb_of h1.1.1.1) (C.fr _ h1.1.1.2) (ba_all (by simp) hf h1.1.2) (star_of ha.1) (star_any ha.2)
        · rw [if_neg h1]; exact be_bad
      · split
        · rename_i k hk
          by_cases h1 : (glbB X.env.scope x && okN x && args.all notStar && args.length == k && !args.isEmpty) = true
          · rw [if_pos h1]
            simp only [Bool.and_eq_true] at h1
            obtain ⟨lv, a, fd, ps, F, hr, hm, hkp, hb⟩ := C.fn x k hk
            cases args with
            | nil => simp at h1
            | cons e es =>
              have ha := h1.1.1.2
              simp only [List.all_cons, Bool.and_eq_true] at ha
              have hlen : (e :: es).length = k := beq_iff_eq.mp h1.1.2
              exact be_call F tk hr C.gd (glb_of h1.1.1.1.1) hm hkp hb hlen (ba_all (by simp) hf h1.1.1.2) (fun env xs q => by rw [evL_length q, List.length_map, hlen]) (okN_of h1.1.1.1.2).1 (star_of ha.1) (star_any ha.2)
          · rw [if_neg h1]; exact be_bad
        · exact be_bad
theorem trP_ok {f : Expr → Ex} (hf : ∀ e, PE X e (bE X.cw W S (evE Γ (f e)))) : ∀ o : Option Expr, PO X o (bO X.cw W S fun env => partO (trP f o) (evE Γ (trP f o) env))
  | none => bo_none
  | some e => by
    have h := bo_some (hf e)
    unfold trP
    dsimp only
    split
    · exact ⟨fun _ _ _ _ _ _ z => by obtain ⟨env, Z, er, z⟩ := z; exact z.elim⟩
    · rename_i x hx
      have : ∀ r, partO (f e) r = (r >>= fun x => match x.2 with | .int i => .ok (some i) | _ => .stuck) := by
        intro r
        unfold partO
        split
        · exact absurd (by assumption) hx
        · rfl
      exact ⟨fun pins s σ H Q I z => h.run pins s σ H Q I (by
        obtain ⟨env, Z, er, z⟩ := z
        refine ⟨env, Z, er, ?_⟩
        have z : Fin (partO (f e) (evE Γ (f e) env)) _ _ := z
        rw [this] at z
        exact z)⟩
theorem evL1 {x : Ex} {env : Env} {β : Type} {g : List Ent → Res β} : (evL Γ [x] env >>= g) = (evE Γ x env >>= fun a => g [a]) := by
  show ((evE Γ x env >>= fun y => evL Γ [] env >>= fun ys => Res.ok (y :: ys)) >>= g) = _
  cases evE Γ x env <;> rfl
theorem evL2 {x y : Ex} {env : Env} {β : Type} {g : List Ent → Res β} : (evL Γ [x, y] env >>= g) = (evE Γ x env >>= fun a => evE Γ y env >>= fun b => g [a, b]) := by
  show ((evE Γ x env >>= fun a => evL Γ [y] env >>= fun ys => Res.ok (a :: ys)) >>= g) = _
  cases evE Γ x env with
  | ok a =>
    show ((evL Γ [y] env >>= fun ys => Res.ok (a :: ys)) >>= g) = (evE Γ y env >>= fun b => g [a, b])
    rw [evL1]
    cases evE Γ y env <;> rfl
  | exc _ => rfl
  | stuck => rfl
theorem res_assoc {α β γ : Type} {m : Res α} {f : α → Res β} {g : β → Res γ} : ((m >>= f) >>= g) = (m >>= fun x => f x >>= g) := by cases m <;> rfl
theorem bE_eq {e : Expr} {ev ev' : Env → Res Ent} (h : PE X e (bE X.cw W S ev)) (q : ∀ env, ev' env = ev env) : PE X e (bE X.cw W S ev') := by
  have : ev' = ev := funext q
  rw [this]
  exact h
theorem bI_eq {tg e : Expr} {ev ev' : Env → Res (List D)} (h : PI X tg e (bI X.cw W S ev)) (q : ∀ env, ev' env = ev env) : PI X tg e (bI X.cw W S ev') := by
  have : ev' = ev := funext q
  rw [this]
  exact h
theorem trI_ok (C : CtxF T Γ X) {f : Expr → Ex} (hf : ∀ e, PE X e (bE X.cw W S (evE Γ (f e)))) (tg iter : Expr)
    (ht : okI (trI T f X.env.scope iter).1 tg = true) :
    PI X tg iter (bI X.cw W S fun env => evL Γ (trI T f X.env.scope iter).2 env >>= fun xs => Res.of (iterD (trI T f X.env.scope iter).1 (xs.map (·.2)))) := by
  have seq : PI X tg iter (bI X.cw W S fun env => evL Γ [f iter] env >>= fun xs => Res.of (iterD .seq (xs.map (·.2)))) := bI_eq (bi_seq (hf iter)) fun env => by rw [evL1]; rfl
  unfold trI at ht ⊢
  split
  · rename_i x p args q
    dsimp only at ht
    by_cases h1 : (x == ("range" : Str) && glbB X.env.scope x && T.fr x && args.all notStar && (args.length == 1 || args.length == 2)) = true
    · rw [if_pos h1]
      simp only [Bool.and_eq_true, Bool.or_eq_true, beq_iff_eq] at h1
      obtain ⟨⟨⟨⟨rfl, hg⟩, hm⟩, hs⟩, hl⟩ := h1
      match args, hs, hl with
      | [a], hs, _ =>
        have hs1 := hs
        simp only [List.all_cons, Bool.and_eq_true] at hs1
        refine bI_eq (bi_rng1 (glb_of hg) (C.fr _ hm) (ba_all (by simp) hf hs) (star_of hs1.1)) fun env => ?_
        show (evL Γ [f a] env >>= _) = (evL Γ [f a] env >>= _)
        rw [evL1, evL1]
        congr 1
        funext x
        obtain ⟨k, d⟩ := x
        cases d <;> rfl
      | [a, b], hs, _ =>
        have hs1 := hs
        simp only [List.all_cons, Bool.and_eq_true] at hs1
        refine bI_eq (bi_rng2 (glb_of hg) (C.fr _ hm) (ba_all (by simp) hf hs) (by rw [star_of hs1.1, star_of hs1.2.1]; rfl) (star_of hs1.2.1)) fun env => ?_
        show (evL Γ [f a, f b] env >>= _) = (evL Γ [f a, f b] env >>= _)
        rw [evL2, evL2]
        congr 1
        funext x
        congr 1
        funext y
        obtain ⟨k, d⟩ := x
        obtain ⟨j, e⟩ := y
        cases d <;> cases e <;> rfl
      | [], _, hl => simp at hl
      | _ :: _ :: _ :: _, _, hl => simp at hl
    · rw [if_neg h1] at ht ⊢
      by_cases h2 : (x == ("enumerate" : Str) && glbB X.env.scope x && T.fr x && args.all notStar && args.length == 1) = true
      · rw [if_pos h2] at ht ⊢
        simp only [Bool.and_eq_true, beq_iff_eq] at h2
        obtain ⟨⟨⟨⟨rfl, hg⟩, hm⟩, hs⟩, hl⟩ := h2
        have htt : isTup tg = true := ht
        match args, hs, hl with
        | [a], hs, _ =>
          have hs1 := hs
          simp only [List.all_cons, Bool.and_eq_true] at hs1
          cases tg with
          | Tuple elts kk tpos =>
            refine bI_eq (bi_enum (glb_of hg) (C.fr _ hm) (ba_all (by simp) hf hs) (star_of hs1.1)) fun env => ?_
            show (evL Γ [f a] env >>= _) = (evL Γ [f a] env >>= _)
            rw [evL1, evL1]
            congr 1
            funext x
            obtain ⟨k, d⟩ := x
            cases d <;> rfl
          | _ => cases htt
        | [], _, hl => simp at hl
        | _ :: _ :: _, _, hl => simp at hl
      · rw [if_neg h2] at ht ⊢
        by_cases h3 : (x == ("zip" : Str) && glbB X.env.scope x && T.fr x && args.all notStar && args.length == 2) = true
        · rw [if_pos h3] at ht ⊢
          simp only [Bool.and_eq_true, beq_iff_eq] at h3
          obtain ⟨⟨⟨⟨rfl, hg⟩, hm⟩, hs⟩, hl⟩ := h3
          have htt : isTup tg = true := ht
          match args, hs, hl with
          | [a, b], hs, _ =>
            have hs1 := hs
            simp only [List.all_cons, Bool.and_eq_true] at hs1
            cases tg with
            | Tuple elts kk tpos =>
              refine bI_eq (bi_zip (glb_of hg) (C.fr _ hm) (ba_all (by simp) hf hs) (star_of hs1.1) (star_any (by simp [hs1.2.1]))) fun env => ?_
              show (evL Γ [f a, f b] env >>= _) = (evL Γ [f a, f b] env >>= _)
              rw [evL2, evL2]
              congr 1
              funext x
              congr 1
              funext y
              obtain ⟨k, d⟩ := x
              obtain ⟨j, e⟩ := y
              cases d <;> cases e <;> rfl
            | _ => cases htt
          | [], _, hl => simp at hl
          | [_], _, hl => simp at hl
          | _ :: _ :: _ :: _, _, hl => simp at hl
        · rw [if_neg h3]
          exact seq
  · rename_i x p
    dsimp only at ht
    by_cases hd : T.dk x = true
    · rw [if_pos hd] at ht
      cases ht
    · rw [if_neg hd]
      exact seq
  · exact seq
theorem pt_ifT {q a b : Expr} {tc ta tb : TT} {pos : Pos} (hc : PT X q tc) (ha : PT X a ta) (hb : PT X b tb) : PT X (.IfExp q a b pos) (fun σ H Q => tc σ H fun k H1 => if k = true then ta σ H1 Q else tb σ H1 Q) := by
  refine ⟨fun pins s σ H Q I h => ?_⟩
  refine PyProof.Rows.isTrue_IfExp (thn (hc.run pins s σ H _ I h) fun d s1 ⟨H1, I1, q1⟩ => ?_)
  cases d with
  | true => exact ha.run pins s1 σ H1 Q I1 q1
  | false => exact hb.run pins s1 σ H1 Q I1 q1
theorem bt_ife {q a b : Expr} {pos : Pos} {et ea eb : Env → Res Bool} (hc : PT X q (bT X.cw W S et)) (ha : PT X a (bT X.cw W S ea)) (hb : PT X b (bT X.cw W S eb)) :
    PT X (.IfExp q a b pos) (bT X.cw W S fun env => et env >>= fun c => if c = true then ea env else eb env) := by
  refine (pt_ifT hc ha hb).imp fun σ H Q h => ?_
  obtain ⟨env, Z, er, h⟩ := h
  refine stepT er h fun x H1 er1 e1 hf => ?_
  cases x with
  | true =>
    simp only [if_true] at hf ⊢
    exact ⟨env, Z, er1, hf.mono (fun y _ q H' e' => q H' (e1.trans e')) fun _ q => q⟩
  | false =>
    simp only [Bool.false_eq_true, if_false] at hf ⊢
    exact ⟨env, Z, er1, hf.mono (fun y _ q H' e' => q H' (e1.trans e')) fun _ q => q⟩
theorem trE_nm {n : Nat} {x : Str} {p : Pos} {i : Nat} (h : trE T X.N n X.env.scope (.Name x p) = .nm i) : PE X (.Name x p) (tVar i) := by
  cases n with
  | zero => cases h
  | succ n =>
    have h : (if (okN x && visB X.env.scope x) = true then (match X.N.idxOf? x with | some i => Ex.nm i | none => .bad) else if (okN x && glbB X.env.scope x && T.gl x) = true then .gl x else .bad) = .nm i := h
    split at h
    · rename_i h1
      rw [Bool.and_eq_true] at h1
      split at h
      · rename_i j hj
        cases h
        exact pe_var (idxOf_of hj) (vis_of h1.2) (okN_of h1.1).1 (okN_of h1.1).2
      · cases h
    · split at h <;> cases h
theorem trI_keys {f : Expr → Ex} {sc : Scope} {iter : Expr} (h : ((trI T f sc iter).1 == .keys) = true) (h2 : isNm (trI T f sc iter).2 = true) : ∃ x p i, iter = .Name x p ∧ T.dk x = true ∧ f (.Name x p) = .nm i := by
  unfold trI at h h2
  split at h
  · split at h
    · cases h
    · split at h
      · cases h
      · split at h <;> cases h
  · rename_i x p
    dsimp only at h2
    by_cases hd : T.dk x = true
    · rw [if_pos hd] at h2
      refine ⟨x, p, ?_⟩
      unfold isNm at h2
      split at h2
      · rename_i i e
        exact ⟨i, rfl, hd, by injection e⟩
      · cases h2
    · rw [if_neg hd] at h; cases h
  · cases h
/-- the main theorem of expressions -/
theorem trE_ok : ∀ (n : Nat) {X : Cx} {W : WX} (C : CtxF T Γ X) (tk : L2.Takes X W) (hS : ∀ i, S i) (e : Expr),
    PE X e (bE X.cw W S (evE Γ (trE T X.N n X.env.scope e))) ∧ PT X e (bT X.cw W S fun env => evE Γ (trE T X.N n X.env.scope e) env >>= asB)
  | 0, X, W, C, tk, hS, e => ⟨be_bad, bt_bad⟩
  | n + 1, X, W, C, tk, hS, e => by
    have ih := trE_ok n C tk hS
    have ihE := fun e => (ih e).1
    have ihT := fun e => (ih e).2
    have val : ∀ {x : Ex}, PE X e (bE X.cw W S (evE Γ x)) → (∀ whole, isTrue e X.env whole = (do let v ← whole; standAt e.pos; holding [v] (truthy v))) → PE X e (bE X.cw W S (evE Γ x)) ∧ PT X e (bT X.cw W S fun env => evE Γ x env >>= asB) := fun h q => ⟨h, bt_val h q⟩
    cases e with
    | Name x pos =>
      refine val ?_ fun _ => rfl
      show PE X _ (bE X.cw W S (evE Γ (if (okN x && visB X.env.scope x) = true then (match X.N.idxOf? x with | some i => Ex.nm i | none => .bad) else if (okN x && glbB X.env.scope x && T.gl x) = true then .gl x else .bad)))
      by_cases h1 : (okN x && visB X.env.scope x) = true
      · rw [if_pos h1]
        simp only [Bool.and_eq_true] at h1
        cases hi : X.N.idxOf? x with
        | none => exact be_bad
        | some i => exact be_var (idxOf_of hi) (vis_of h1.2) (okN_of h1.1).1 (okN_of h1.1).2 (hS i)
      · rw [if_neg h1]
        by_cases h2 : (okN x && glbB X.env.scope x && T.gl x) = true
        · rw [if_pos h2]
          simp only [Bool.and_eq_true] at h2
          obtain ⟨d, v, u, hd, hm, hr, hrep⟩ := C.gl x h2.2
          have := be_const (c := X.cw) (W := W) (S := S) (k := 0) (d := d) (pe_glob (pos := pos) (glb_of h2.1.2) hm hr (okN_of h2.1.1).1) hrep
          refine this.imp fun σ H Q h => ?_
          obtain ⟨env, Z, er, h⟩ := h
          refine ⟨env, Z, er, ?_⟩
          have e : evE Γ (.gl x) env = .ok (0, d) := by
            show ((Res.of (Γ.glob x)) >>= fun d => Res.ok (ent d)) = _
            rw [hd]
            rfl
          rw [e] at h
          exact h
        · rw [if_neg h2]; exact be_bad
    | Constant c k pos =>
      refine val ?_ fun _ => rfl
      cases c with
      | none => exact be_const pe_non fun _ _ => .non
      | bool b => exact be_const pe_bl fun _ _ => .bl
      | int i => exact be_const pe_int fun _ _ => .int
      | str s => exact be_const pe_str fun _ _ => .str
      | _ => exact be_bad
    | Tuple es k pos =>
      refine val ?_ fun _ => rfl
      show PE X _ (bE X.cw W S (evE Γ (if es.all notStar = true then .tup (es.map (trE T X.N n X.env.scope)) else .bad)))
      by_cases h1 : es.all notStar = true
      · rw [if_pos h1]; exact be_tup (ba_all (by simp) ihE h1)
      · rw [if_neg h1]; exact be_bad
    | List es pos =>
      refine val ?_ fun _ => rfl
      show PE X _ (bE X.cw W S (evE Γ (if es.all notStar = true then .lst (es.map (trE T X.N n X.env.scope)) else .bad)))
      by_cases h1 : es.all notStar = true
      · rw [if_pos h1]; exact be_lst (ba_all (by simp) ihE h1)
      · rw [if_neg h1]; exact be_bad
    | BinOp a op b pos =>
      refine val ?_ fun _ => rfl
      show PE X _ (bE X.cw W S (evE Γ (match bop? op with | some o => .bin o (trE T X.N n X.env.scope a) (trE T X.N n X.env.scope b) | none => .bad)))
      cases hb : bop? op with
      | none => exact be_bad
      | some o =>
        obtain ⟨r, h1, h2⟩ := bop_ok (X := X) hb
        exact be_bin h1 h2 (ihE a) (ihE b)
    | UnaryOp op a pos =>
      cases op with
      | USub => exact val (be_neg (ihE a)) fun _ => rfl
      | Not =>
        refine ⟨be_not (ihE a), ?_⟩
        refine (bt_not (ihT a)).imp fun σ H Q h => ?_
        obtain ⟨env, Z, er, h⟩ := h
        refine ⟨env, Z, er, ?_⟩
        have e : (evE Γ (.not (trE T X.N n X.env.scope a)) env >>= asB) = ((evE Γ (trE T X.N n X.env.scope a) env >>= asB) >>= fun b => .ok (!b)) := by
          show ((evE Γ (trE T X.N n X.env.scope a) env >>= fun x => asB x >>= fun b => Res.ok (ent (.bl (!b)))) >>= asB) = _
          cases evE Γ (trE T X.N n X.env.scope a) env with
          | ok x =>
            show ((asB x >>= fun b => Res.ok (ent (.bl (!b)))) >>= asB) = (asB x >>= fun b => .ok (!b))
            cases asB x <;> rfl
          | exc _ => rfl
          | stuck => rfl
        have h : Fin (evE Γ (.not (trE T X.N n X.env.scope a)) env >>= asB) _ _ := h
        rw [e] at h
        exact h
      | _ => exact val be_bad fun _ => rfl
    | BoolOp op vs pos =>
      show PE X _ (bE X.cw W S (evE Γ (trB op (vs.map (trE T X.N n X.env.scope))))) ∧ PT X _ (bT X.cw W S fun env => evE Γ (trB op (vs.map (trE T X.N n X.env.scope))) env >>= asB)
      suffices PE X (.BoolOp op vs pos) (bE X.cw W S (evE Γ (trB op (vs.map (trE T X.N n X.env.scope))))) ∧ PW X (.BoolOp op vs pos) (bT X.cw W S fun env => evE Γ (trB op (vs.map (trE T X.N n X.env.scope))) env >>= asB) from ⟨this.1, this.2.pt⟩
      clear val
      induction vs with
      | nil => exact ⟨be_bad, ⟨fun _ _ _ _ _ _ _ h => by obtain ⟨env, Z, er, h⟩ := h; exact h.elim⟩⟩
      | cons a vs ihv =>
        cases vs with
        | nil => exact ⟨pe_one (ihE a), by cases op with | And => exact bt_and1 (ihT a) | Or => exact bt_or1 (ihT a)⟩
        | cons b rest =>
          cases op with
          | And =>
            refine ⟨be_and (ihE a) ihv.1, (bt_and (ihT a) ihv.2).imp fun σ H Q h => ?_⟩
            obtain ⟨env, Z, er, h⟩ := h
            refine ⟨env, Z, er, ?_⟩
            have e : ∀ (A B : Ex), (evE Γ (.and A B) env >>= asB) = ((evE Γ A env >>= asB) >>= fun c => if c = true then (evE Γ B env >>= asB) else .ok false) := by
              intro A B
              show ((evE Γ A env >>= fun x => asB x >>= fun c => if c = true then evE Γ B env else .ok (ent (.bl false))) >>= asB) = _
              cases evE Γ A env with
              | ok x =>
                show ((asB x >>= fun c => if c = true then evE Γ B env else .ok (ent (.bl false))) >>= asB) = (asB x >>= fun c => if c = true then (evE Γ B env >>= asB) else .ok false)
                cases asB x with
                | ok c => cases c <;> rfl
                | exc _ => rfl
                | stuck => rfl
              | exc _ => rfl
              | stuck => rfl
            have h : Fin (evE Γ (.and (trE T X.N n X.env.scope a) (trB .And ((b :: rest).map (trE T X.N n X.env.scope)))) env >>= asB) _ _ := h
            rw [e] at h
            exact h
          | Or =>
            refine ⟨be_or (ihE a) ihv.1, (bt_or (ihT a) ihv.2).imp fun σ H Q h => ?_⟩
            obtain ⟨env, Z, er, h⟩ := h
            refine ⟨env, Z, er, ?_⟩
            have e : ∀ (A B : Ex), (evE Γ (.or A B) env >>= asB) = ((evE Γ A env >>= asB) >>= fun c => if c = true then .ok true else (evE Γ B env >>= asB)) := by
              intro A B
              show ((evE Γ A env >>= fun x => asB x >>= fun c => if c = true then .ok (ent (.bl true)) else evE Γ B env) >>= asB) = _
              cases evE Γ A env with
              | ok x =>
                show ((asB x >>= fun c => if c = true then .ok (ent (.bl true)) else evE Γ B env) >>= asB) = (asB x >>= fun c => if c = true then .ok true else (evE Γ B env >>= asB))
                cases asB x with
                | ok c => cases c <;> rfl
                | exc _ => rfl
                | stuck => rfl
              | exc _ => rfl
              | stuck => rfl
            have h : Fin (evE Γ (.or (trE T X.N n X.env.scope a) (trB .Or ((b :: rest).map (trE T X.N n X.env.scope)))) env >>= asB) _ _ := h
            rw [e] at h
            exact h
    | IfExp q a b pos =>
      have e : ∀ (A B C : Ex) (env : Env), evE Γ (.ife A B C) env = ((evE Γ A env >>= asB) >>= fun c => if c = true then evE Γ B env else evE Γ C env) := by
        intro A B C env
        show (evE Γ A env >>= fun x => asB x >>= fun c => if c = true then evE Γ B env else evE Γ C env) = _
        cases evE Γ A env <;> rfl
      refine ⟨(be_ife (ihT q) (ihE a) (ihE b)).imp fun σ H Q h => ?_, (bt_ife (ihT q) (ihT a) (ihT b)).imp fun σ H Q h => ?_⟩
      · obtain ⟨env, Z, er, h⟩ := h
        refine ⟨env, Z, er, ?_⟩
        have h : Fin (evE Γ (.ife (trE T X.N n X.env.scope q) (trE T X.N n X.env.scope a) (trE T X.N n X.env.scope b)) env) _ _ := h
        rw [e] at h
        exact h
      · obtain ⟨env, Z, er, h⟩ := h
        refine ⟨env, Z, er, ?_⟩
        have h : Fin (evE Γ (.ife (trE T X.N n X.env.scope q) (trE T X.N n X.env.scope a) (trE T X.N n X.env.scope b)) env >>= asB) _ _ := h
        rw [e] at h
        show Fin ((evE Γ (trE T X.N n X.env.scope q) env >>= asB) >>= fun c => if c = true then (evE Γ (trE T X.N n X.env.scope a) env >>= asB) else (evE Γ (trE T X.N n X.env.scope b) env >>= asB)) _ _
        cases q2 : (evE Γ (trE T X.N n X.env.scope q) env >>= asB) with
        | ok c =>
          rw [q2] at h
          cases c <;> exact h
        | exc _ => rw [q2] at h; exact h
        | stuck => rw [q2] at h; exact h
    | Compare a ops bs pos =>
      match ops, bs with
      | [op], [b] =>
        show PE X _ (bE X.cw W S (evE Γ (if behindInMarks op b = false then .cmp (cop op) (trE T X.N n X.env.scope a) (trE T X.N n X.env.scope b) else .bad))) ∧ PT X _ (bT X.cw W S fun env => evE Γ (if behindInMarks op b = false then .cmp (cop op) (trE T X.N n X.env.scope a) (trE T X.N n X.env.scope b) else .bad) env >>= asB)
        by_cases h1 : behindInMarks op b = false
        · rw [if_pos h1]
          obtain ⟨r, o1, o2⟩ := cop_ok C.hu op
          exact ⟨be_cmp o1 o2 (ihE a) (ihE b) h1, bt_cmp o1 o2 (ihE a) (ihE b) h1⟩
        · rw [if_neg h1]; exact ⟨be_bad, bt_bad⟩
      | [op, op2], [b, d] =>
        show PE X _ (bE X.cw W S (evE Γ (if behindInMarks op2 d = false then .chain (cop op) (cop op2) (trE T X.N n X.env.scope a) (trE T X.N n X.env.scope b) (trE T X.N n X.env.scope d) else .bad))) ∧ PT X _ (bT X.cw W S fun env => evE Γ (if behindInMarks op2 d = false then .chain (cop op) (cop op2) (trE T X.N n X.env.scope a) (trE T X.N n X.env.scope b) (trE T X.N n X.env.scope d) else .bad) env >>= asB)
        by_cases h1 : behindInMarks op2 d = false
        · rw [if_pos h1]
          obtain ⟨r, o1, o2⟩ := cop_ok C.hu op
          obtain ⟨r', o1', o2'⟩ := cop_ok C.hu op2
          exact ⟨be_chain o1 o1' o2 o2' (ihE a) (ihE b) (ihE d) h1, bt_chain o1 o1' o2 o2' (ihE a) (ihE b) (ihE d) h1⟩
        · rw [if_neg h1]; exact ⟨be_bad, bt_bad⟩
      | [], _ => exact ⟨be_bad, bt_bad⟩
      | [_], [] => exact ⟨be_bad, bt_bad⟩
      | [_], _ :: _ :: _ => exact ⟨be_bad, bt_bad⟩
      | [_, _], [] => exact ⟨be_bad, bt_bad⟩
      | [_, _], [_] => exact ⟨be_bad, bt_bad⟩
      | [_, _], _ :: _ :: _ :: _ => exact ⟨be_bad, bt_bad⟩
      | _ :: _ :: _ :: _, _ => exact ⟨be_bad, bt_bad⟩
    | Subscript a b pos =>
      refine val ?_ fun _ => rfl
      have idx : notSl b = true → PE X (.Subscript a b pos) (bE X.cw W S (evE Γ (.idx (trE T X.N n X.env.scope a) (trE T X.N n X.env.scope b)))) := fun h => be_idx C.hu (ihE a) (ihE b) (plain_of h)
      unfold trE
      dsimp only
      split
      · exact be_rev (ihE a)
      · exact be_slc (ihE a) (trP_ok ihE _) (trP_ok ihE _)
      · split
        · rename_i h1; exact idx h1
        · exact be_bad
    | Call g args kws pos =>
      refine val ?_ fun _ => rfl
      cases kws with
      | cons _ _ => cases g <;> exact be_bad
      | nil =>
        cases g with
        | Name x p => exact trC_ok C tk ihE x args p pos
        | _ => exact be_bad
    | ListComp elt gens scope pos =>
      refine val ?_ fun _ => rfl
      unfold trE
      dsimp only
      split
      · rename_i tg iter ifs
        split
        · rename_i t htg
          by_cases h1 : (blkB X.N X.env.scope scope (ownOf X.N scope) && tgIns t ((ownOf X.N scope).map (·.2)) && notSet iter && decide (ifs.length ≤ 1) && (okI (trI T (trE T X.N n X.env.scope) X.env.scope iter).1 tg || ((trI T (trE T X.N n X.env.scope) X.env.scope iter).1 == .keys && isNm (trI T (trE T X.N n X.env.scope) X.env.scope iter).2))) = true
          · rw [if_pos h1]
            simp only [Bool.and_eq_true, decide_eq_true_eq] at h1
            obtain ⟨⟨⟨⟨hb, hin⟩, hset⟩, hif⟩, hti⟩ := h1
            have inner : ∀ (s : Shared) (H : Hp) (A : Addr) (cl : List (Str × Addr)) (fp : List Addr) (e : Expr), PE (X.blk s H scope (compEnvC scope cl A X.env) fp) e (bE X.cw WF S (evE Γ (trE T X.N n (relab scope X.env.scope) e))) ∧
                PT (X.blk s H scope (compEnvC scope cl A X.env) fp) e (bT X.cw WF S fun env => evE Γ (trE T X.N n (relab scope X.env.scope) e) env >>= asB) :=
              fun s H A cl fp e => trE_ok n (C.blk s H scope cl A fp) takesF hS e
            have hg : ∀ (s : Shared) (H : Hp) (A : Addr) (cl : List (Str × Addr)) (fp : List Addr), PG (X.blk s H scope (compEnvC scope cl A X.env) fp) tg (gT X.K t) := fun s H A cl fp =>
              trT_ok (X := X.blk s H scope (compEnvC scope cl A X.env) fp) rfl C.nd C.calm (fun x hx => relab_local hx) (fun x hx => ⟨relab_cell hx, beq_iff_eq.mpr hx⟩) 20 htg
            have hts : ∀ (s : Shared) (H : Hp) (A : Addr) (cl : List (Str × Addr)) (fp : List Addr), PTs (X.blk s H scope (compEnvC scope cl A X.env) fp) ifs (bT X.cw WF S fun env => evC Γ (ifs.map (trE T X.N n (relab scope X.env.scope))) env) := fun s H A cl fp => by
              match ifs, hif with
              | [], _ =>
                refine ⟨fun pins s σ H Q I h => pts_nil.run pins s σ H Q I ?_⟩
                obtain ⟨env, Z, er, h⟩ := h
                exact h H (Ext.refl H)
              | [q], _ =>
                have := pts_one (inner s H A cl fp q).2
                exact this
              | _ :: _ :: _, hif => simp at hif
            have hfs : ∀ x, foldedSetIterable iter X.env x = pure x := fun x => by cases iter <;> first | rfl | cases hset
            rcases Bool.or_eq_true_iff.mp hti with hti | hti
            · refine bE_eq (be_lc C.calm C.nd (trI_ok C ihE tg iter hti) (blkB_ok hb) (fun i hi => tgIns_ok hin hi) hg hts (fun s H A cl fp => (inner s H A cl fp elt).1) hfs) (fun env => ?_)
              rw [res_assoc]
              rfl
            · rw [Bool.and_eq_true] at hti
              obtain ⟨x, p, i, rfl, hd, hi⟩ := trI_keys hti.1 hti.2
              have hx : trI T (trE T X.N n X.env.scope) X.env.scope (.Name x p) = (.keys, [trE T X.N n X.env.scope (.Name x p)]) := by
                show (if T.dk x = true then (IK.keys, [trE T X.N n X.env.scope (.Name x p)]) else (.seq, [trE T X.N n X.env.scope (.Name x p)])) = _
                rw [if_pos hd]
              rw [hx]
              have hv : PE X (.Name x p) (tVar i) := trE_nm hi
              refine bE_eq (be_lck (Γ := Γ) hS C.calm C.nd hv (blkB_ok hb) (fun i hi => tgIns_ok hin hi) hg hts (fun s H A cl fp => (inner s H A cl fp elt).1) hfs) (fun env => ?_)
              rw [hi]
              show (evL Γ [.nm i] env >>= fun xs => Res.of (iterD .keys (xs.map (·.2))) >>= fun ds => _) = _
              rw [evL1, res_assoc]
              rfl
          · rw [if_neg h1]; exact be_bad
        · exact be_bad
      · exact be_bad
    | _ => exact val be_bad fun _ => rfl
end
end MP

/-! MPr: an expression asks its own names alone. -/
namespace MP
open PySem PySem.Spec PyProof.Rows L2 RZ
/-- alike at these -/
def Ag (l : List Nat) (env env' : Env) : Prop := env.length = env'.length ∧ ∀ i ∈ l, env[i]? = env'[i]?
theorem Ag.sub {l l' : List Nat} {env env' : Env} (h : Ag l env env') (s : ∀ i ∈ l', i ∈ l) : Ag l' env env' := ⟨h.1, fun i hi => h.2 i (s i hi)⟩
theorem Ag.left {l l' : List Nat} {env env' : Env} (h : Ag (l ++ l') env env') : Ag l env env' := h.sub fun i hi => List.mem_append_left _ hi
theorem Ag.right {l l' : List Nat} {env env' : Env} (h : Ag (l ++ l') env env') : Ag l' env env' := h.sub fun i hi => List.mem_append_right _ hi
theorem Ag.set {l : List Nat} {env env' : Env} (h : Ag l env env') (i : Nat) (o : Option Slt) : Ag l (env.set i o) (env'.set i o) := by
  refine ⟨by rw [List.length_set, List.length_set, h.1], fun j hj => ?_⟩
  by_cases e : i = j
  · subst e
    by_cases hl : i < env.length
    · rw [List.getElem?_set_self hl, List.getElem?_set_self (h.1 ▸ hl)]
    · rw [List.getElem?_eq_none (by simpa using hl), List.getElem?_eq_none (by rw [List.length_set, ← h.1]; simpa using hl)]
  · rw [List.getElem?_set_ne e, List.getElem?_set_ne e, h.2 j hj]
theorem Ag.drop {l : List Nat} {env env' : Env} (h : Ag l env env') (i : Nat) : Ag l (dropB i env) (dropB i env') :=
  ⟨by simp [dropB, h.1], fun j hj => by unfold dropB; rw [List.getElem?_map, List.getElem?_map, h.2 j hj]⟩
theorem Ag.wipe {l : List Nat} {env env' : Env} : ∀ (own : List Nat), Ag (l.filter fun i => !own.contains i) env env' → Ag l (wipeE own env) (wipeE own env') := by
  intro own h
  have hlen : ∀ (own : List Nat) (e : Env), (wipeE own e).length = e.length := by
    intro own
    induction own with
    | nil => intro e; rfl
    | cons i r ih => intro e; unfold wipeE; rw [List.length_set, ih]
  have hin : ∀ (own : List Nat) (e : Env) (i : Nat), i ∈ own → (wipeE own e)[i]? = if i < e.length then some none else none := by
    intro own
    induction own with
    | nil => intro e i h; cases h
    | cons j r ih =>
      intro e i h
      unfold wipeE
      by_cases ej : j = i
      · subst ej
        by_cases hl : j < e.length
        · rw [List.getElem?_set_self (by rw [hlen]; exact hl), if_pos hl]
        · rw [List.getElem?_eq_none (by rw [List.length_set, hlen]; simpa using hl), if_neg hl]
      · rw [List.getElem?_set_ne ej]
        exact ih e i (by
          rcases List.mem_cons.mp h with z | z
          · exact absurd z.symm ej
          · exact z)
  have hout : ∀ (own : List Nat) (e : Env) (i : Nat), i ∉ own → (wipeE own e)[i]? = e[i]? := by
    intro own
    induction own with
    | nil => intro e i _; rfl
    | cons j r ih =>
      intro e i h
      unfold wipeE
      rw [List.getElem?_set_ne fun z : j = i => h (by rw [← z]; exact List.mem_cons_self)]
      exact ih e i fun z => h (List.mem_cons_of_mem _ z)
  refine ⟨by rw [hlen, hlen, h.1], fun i hi => ?_⟩
  by_cases c : i ∈ own
  · rw [hin own env i c, hin own env' i c, h.1]
  · rw [hout own env i c, hout own env' i c]
    exact h.2 i (List.mem_filter.mpr ⟨hi, by simpa using c⟩)
mutual
theorem bindTg_ag {M B : List Nat} {l : List Nat} : ∀ {t : Tg} {x : Ent} {env env' : Env}, Ag l env env' → (bindTg M B t x env = none ∧ bindTg M B t x env' = none) ∨ ∃ e1 e2, bindTg M B t x env = some e1 ∧ bindTg M B t x env' = some e2 ∧ Ag l e1 e2
  | .nm i, x, env, env', h => by
    unfold bindTg
    exact .inr ⟨_, _, rfl, rfl, (h.drop i).set i _⟩
  | .tup ts, (k, d), env, env', h => by
    cases d with
    | tup ds =>
      unfold bindTg
      exact bindTgs_ag h
    | _ => exact .inl ⟨rfl, rfl⟩
theorem bindTgs_ag {M B : List Nat} {l : List Nat} : ∀ {ts : List Tg} {k : Nat} {ds : List D} {env env' : Env}, Ag l env env' → (bindTgs M B ts k ds env = none ∧ bindTgs M B ts k ds env' = none) ∨ ∃ e1 e2, bindTgs M B ts k ds env = some e1 ∧ bindTgs M B ts k ds env' = some e2 ∧ Ag l e1 e2
  | [], k, [], env, env', h => .inr ⟨env, env', rfl, rfl, h⟩
  | [], k, _ :: _, env, env', h => .inl ⟨rfl, rfl⟩
  | t :: ts, k, [], env, env', h => .inl ⟨rfl, rfl⟩
  | t :: ts, k, d :: ds, env, env', h => by
    unfold bindTgs
    rcases bindTg_ag (M := M) (B := B) (t := t) (x := (k, d)) h with ⟨h1, h2⟩ | ⟨e1, e2, h1, h2, h3⟩
    · rw [h1, h2]; exact .inl ⟨rfl, rfl⟩
    · rw [h1, h2]; exact bindTgs_ag h3
end
section
variable {Γ : Gm}
mutual
theorem evE_ag : ∀ {x : Ex} {env env' : Env}, Ag (fv x) env env' → evE Γ x env = evE Γ x env'
  | .nop, _, _, _ => rfl
  | .bad, _, _, _ => rfl
  | .nm i, env, env', h => by
    show (match env[i]? with | some (some x) => Res.ok (0, x.2.1) | _ => .stuck) = (match env'[i]? with | some (some x) => Res.ok (0, x.2.1) | _ => .stuck)
    rw [h.2 i (by simp [fv])]
  | .gl _, _, _, _ => rfl
  | .non, _, _, _ => rfl
  | .bl _, _, _, _ => rfl
  | .int _, _, _, _ => rfl
  | .str _, _, _, _ => rfl
  | .tup es, env, env', h => by
    show (evL Γ es env >>= fun xs => Res.of (tupO xs)) = (evL Γ es env' >>= fun xs => Res.of (tupO xs))
    rw [evL_ag (xs := es) h]
  | .lst es, env, env', h => by
    show (evL Γ es env >>= fun xs => Res.of (lstO xs)) = (evL Γ es env' >>= fun xs => Res.of (lstO xs))
    rw [evL_ag (xs := es) h]
  | .dic _ _, _, _, _ => rfl
  | .bin op a b, env, env', h => by
    show (evE Γ a env >>= fun x => evE Γ b env >>= fun y => Res.of (binD op x.2 y.2)) = (evE Γ a env' >>= fun x => evE Γ b env' >>= fun y => Res.of (binD op x.2 y.2))
    rw [evE_ag (x := a) h.left, evE_ag (x := b) h.right]
  | .neg a, env, env', h => by
    have := evE_ag (x := a) (env := env) (env' := env') h
    simp only [evE, this]
  | .not a, env, env', h => by
    have := evE_ag (x := a) (env := env) (env' := env') h
    simp only [evE, this]
  | .and a b, env, env', h => by
    have h1 := evE_ag (x := a) (env := env) (env' := env') h.left
    have h2 := evE_ag (x := b) (env := env) (env' := env') h.right
    simp only [evE, h1, h2]
  | .or a b, env, env', h => by
    have h1 := evE_ag (x := a) (env := env) (env' := env') h.left
    have h2 := evE_ag (x := b) (env := env) (env' := env') h.right
    simp only [evE, h1, h2]
  | .ife a b c, env, env', h => by
    have h1 := evE_ag (x := a) (env := env) (env' := env') h.left
    have h2 := evE_ag (x := b) (env := env) (env' := env') h.right.left
    have h3 := evE_ag (x := c) (env := env) (env' := env') h.right.right
    simp only [evE, h1, h2, h3]
  | .cmp op a b, env, env', h => by
    have h1 := evE_ag (x := a) (env := env) (env' := env') h.left
    have h2 := evE_ag (x := b) (env := env) (env' := env') h.right
    simp only [evE, h1, h2]
  | .chain _ _ a b c, env, env', h => by
    have h1 := evE_ag (x := a) (env := env) (env' := env') h.left
    have h2 := evE_ag (x := b) (env := env) (env' := env') h.right.left
    have h3 := evE_ag (x := c) (env := env) (env' := env') h.right.right
    simp only [evE, h1, h2, h3]
  | .idx a b, env, env', h => by
    have h1 := evE_ag (x := a) (env := env) (env' := env') h.left
    have h2 := evE_ag (x := b) (env := env) (env' := env') h.right
    simp only [evE, h1, h2]
  | .slc a b c, env, env', h => by
    have h1 := evE_ag (x := a) (env := env) (env' := env') h.left
    have h2 := evE_ag (x := b) (env := env) (env' := env') h.right.left
    have h3 := evE_ag (x := c) (env := env) (env' := env') h.right.right
    simp only [evE, h1, h2, h3]
  | .rev a, env, env', h => by
    have := evE_ag (x := a) (env := env) (env' := env') h
    simp only [evE, this]
  | .call _ es, env, env', h => by
    have := evL_ag (xs := es) (env := env) (env' := env') h
    simp only [evE, this]
  | .blt _ es, env, env', h => by
    have := evL_ag (xs := es) (env := env) (env' := env') h
    simp only [evE, this]
  | .lrng a, env, env', h => by
    have := evE_ag (x := a) (env := env) (env' := env') h
    simp only [evE, this]
  | .mnd _, _, _, _ => rfl
  | .rpr a, env, env', h => by
    have := evE_ag (x := a) (env := env) (env' := env') h
    simp only [evE, this]
  | .tupl a, env, env', h => by
    have := evE_ag (x := a) (env := env) (env' := env') h
    simp only [evE, this]
  | .met _ o es, env, env', h => by
    have h1 := evE_ag (x := o) (env := env) (env' := env') h.left
    have h2 := evL_ag (xs := es) (env := env) (env' := env') h.right
    simp only [evE, h1, h2]
  | .isi a _, env, env', h => by
    have := evE_ag (x := a) (env := env) (env' := env') h
    simp only [evE, this]
  | .lc el tg ik its cond own, env, env', h => by
    have h1 := evL_ag (xs := its) (env := env) (env' := env') h.left
    have h2 := Ag.wipe (l := fv.fvs cond ++ fv el) own h.right
    have h3 : ∀ d, (Res.of (bindTg [] [] tg (0, d) (wipeE own env)) >>= fun e1 => evC Γ cond e1 >>= fun b => if b = true then evE Γ el e1 >>= fun x => Res.ok (some x) else .ok none) =
        (Res.of (bindTg [] [] tg (0, d) (wipeE own env')) >>= fun e1 => evC Γ cond e1 >>= fun b => if b = true then evE Γ el e1 >>= fun x => Res.ok (some x) else .ok none) := fun d => by
      rcases bindTg_ag (M := []) (B := []) (t := tg) (x := (0, d)) h2 with ⟨q1, q2⟩ | ⟨e1, e2, q1, q2, q3⟩
      · rw [q1, q2]
      · rw [q1, q2]
        show (evC Γ cond e1 >>= fun b => if b = true then evE Γ el e1 >>= fun x => Res.ok (some x) else .ok none) = (evC Γ cond e2 >>= fun b => if b = true then evE Γ el e2 >>= fun x => Res.ok (some x) else .ok none)
        rw [evC_ag (xs := cond) q3.left, evE_ag (x := el) q3.right]
    simp only [evE, h1, h3]
  | .atr a _, env, env', h => by
    have := evE_ag (x := a) (env := env) (env' := env') h
    simp only [evE, this]
theorem evL_ag : ∀ {xs : List Ex} {env env' : Env}, Ag (fv.fvs xs) env env' → evL Γ xs env = evL Γ xs env'
  | [], _, _, _ => rfl
  | x :: xs, env, env', h => by
    have h1 := evE_ag (x := x) (env := env) (env' := env') h.left
    have h2 := evL_ag (xs := xs) (env := env) (env' := env') h.right
    simp only [evL, h1, h2]
theorem evC_ag : ∀ {xs : List Ex} {env env' : Env}, Ag (fv.fvs xs) env env' → evC Γ xs env = evC Γ xs env'
  | [], _, _, _ => rfl
  | [x], env, env', h => by
    have h1 := evE_ag (x := x) (env := env) (env' := env') h.left
    simp only [evC, h1]
  | _ :: _ :: _, _, _, _ => rfl
end
end
end MP

/-! MPs: statements: what they do, what stands in the slots. -/
namespace MP
open PySem PySem.Spec PyProof.Rows L2 RZ
/-! ### what they do -/
inductive Out where
  | nx (env : Env) | rt (x : Ent) | exc (x : D) (env : Env) | stuck
/-- the slots that own parts of what these hold -/
def brw (env : Env) (l : List Nat) : List Nat := l.flatMap fun i => match env[i]? with
  | some (some (k, _, B)) => if k = 0 then B else i :: B
  | _ => []
def andThen (o : Out) (f : Env → Out) : Out := match o with
  | .nx env => f env
  | o => o
def forO (f : D → Env → Out) : List D → Env → Out
  | [], env => .nx env
  | d :: ds, env => andThen (f d env) (forO f ds)
def resO (env : Env) (r : Res Ent) (f : Ent → Out) : Out := match r with
  | .ok x => f x
  | .exc x => .exc x env
  | .stuck => .stuck
def FinO (o : Out) (nx : Env → Prop) (rt : Ent → Prop) (ex : D → Env → Prop) : Prop := match o with
  | .nx env => nx env
  | .rt x => rt x
  | .exc x env => ex x env
  | .stuck => False
theorem FinO.mono {o : Out} {nx nx' : Env → Prop} {rt rt' : Ent → Prop} {ex ex' : D → Env → Prop} (h : FinO o nx rt ex) (h1 : ∀ e, nx e → nx' e) (h2 : ∀ x, rt x → rt' x) (h3 : ∀ x e, ex x e → ex' x e) : FinO o nx' rt' ex' := by
  cases o with
  | nx e => exact h1 e h
  | rt x => exact h2 x h
  | exc x e => exact h3 x e h
  | stuck => exact h
theorem FinO.then {o : Out} {f : Env → Out} {nx : Env → Prop} {rt : Ent → Prop} {ex : D → Env → Prop} (h : FinO (andThen o f) nx rt ex) : FinO o (fun e => FinO (f e) nx rt ex) rt ex := by
  cases o <;> exact h
theorem FinO.res {env : Env} {r : Res Ent} {f : Ent → Out} {nx : Env → Prop} {rt : Ent → Prop} {ex : D → Env → Prop} (h : FinO (resO env r f) nx rt ex) : Fin r (fun x => FinO (f x) nx rt ex) (fun x => ex x env) := by
  cases r <;> exact h
/-! ### what stands in the slots -/
structure StR (c : Cw) (H0 : Hp) (Z0 : Addr → Prop) (L : List Nat) (gh : List ((Addr → Prop) × Hp × List Nat)) (H : Hp) (Z : Addr → Prop) (os : Nat → List Addr) (σ : L2.St) (env : Env) : Prop where
  there : ∀ a, Z a → H a ≠ none
  oth : ∀ i, ∀ a ∈ os i, H a ≠ none
  len : env.length = σ.length
  nd : ∀ i, (os i).Nodup
  dj : ∀ i j a, a ∈ os i → a ∈ os j → i = j
  nz : ∀ i, ∀ a ∈ os i, ¬ Z a
  at_ : ∀ i k d B, env[i]? = some (some (k, d, B)) → ∃ v, σ[i]? = some (some v) ∧ Rep c H (fun a => Z a ∨ ∃ j ∈ B, a ∈ os j) k d v (os i)
  ext0 : Ext H0 H
  onew : ∀ i, ∀ a ∈ os i, H0 a = none
  znew : ∀ a, Z a → Z0 a ∨ H0 a = none
  z0 : ∀ a, Z0 a → Z a
  ghL : ∀ g ∈ gh, ∀ j ∈ g.2.2, j ∈ L
  gh : ∀ g ∈ gh, Kp g.1 g.2.1 H ∧ ∀ a, g.1 a → Z a ∨ ∃ j ∈ g.2.2, a ∈ os j
section
variable {c : Cw} {H0 H H1 : Hp} {Z0 Z : Addr → Prop} {L : List Nat} {gh : List ((Addr → Prop) × Hp × List Nat)} {os : Nat → List Addr} {σ : L2.St} {env : Env} {S : Nat → Prop}
/-- more stands -/
theorem StR.ext {o : List Addr} (r : StR c H0 Z0 L gh H Z os σ env) (e : Ext H H1) (ho : ∀ a ∈ o, H a = none) : StR c H0 Z0 L gh H1 (fun a => Z a ∨ (H a = none ∧ H1 a ≠ none ∧ a ∉ o)) os σ env := by
  refine ⟨fun a q => ?_, fun i a h => e.ne (r.oth i a h), r.len, r.nd, r.dj, fun i a h q => ?_, fun i k d B h => ?_, r.ext0.trans e, r.onew, fun a q => ?_, fun a q => .inl (r.z0 a q), r.ghL, fun g hg => ?_⟩
  · exact q.elim (fun q => e.ne (r.there a q)) fun q => q.2.1
  · exact q.elim (r.nz i a h) fun q => r.oth i a h q.1
  · obtain ⟨v, h1, h2⟩ := r.at_ i k d B h
    exact ⟨v, h1, h2.mono e fun a q => q.elim (fun q => .inl (.inl q)) .inr⟩
  · exact q.elim (r.znew a) fun q => .inr (r.ext0.none q.1)
  · obtain ⟨h1, h2⟩ := r.gh g hg
    exact ⟨h1.trans e.kp, fun a q => (h2 a q).elim (fun q => .inl (.inl q)) .inr⟩
/-- the names of an expression alone -/
def mask (l : List Nat) (env : Env) : Env := env.mapIdx fun i o => if l.contains i then o else none
theorem mask_get {l : List Nat} {env : Env} {i : Nat} : (mask l env)[i]? = (env[i]?).map fun o => if l.contains i then o else none := by
  unfold mask; rw [List.getElem?_mapIdx]
theorem mask_ag {l : List Nat} {env : Env} : Ag l env (mask l env) := by
  refine ⟨by simp [mask], fun i hi => ?_⟩
  rw [mask_get]
  have : l.contains i = true := by simpa using hi
  simp [hi]
def Zb (Z : Addr → Prop) (os : Nat → List Addr) (B : List Nat) : Addr → Prop := fun a => Z a ∨ ∃ j ∈ B, a ∈ os j
theorem brw_mem {l : List Nat} {i k : Nat} {d : D} {B : List Nat} (h : env[i]? = some (some (k, d, B))) (hi : i ∈ l) : (∀ j ∈ B, j ∈ brw env l) ∧ (k ≠ 0 → i ∈ brw env l) := by
  unfold brw
  refine ⟨fun j hj => List.mem_flatMap.mpr ⟨i, hi, ?_⟩, fun hk => List.mem_flatMap.mpr ⟨i, hi, ?_⟩⟩
  · rw [h]
    dsimp only
    split
    · exact hj
    · exact List.mem_cons_of_mem _ hj
  · rw [h]
    dsimp only
    rw [if_neg hk]
    exact List.mem_cons_self
mutual
theorem Rep.none0 : ∀ {d v os}, Rep c H Z 0 d v os → os = []
  | _, _, _, .non => rfl
  | _, _, _, .bl => rfl
  | _, _, _, .int => rfl
  | _, _, _, .str => rfl
  | _, _, _, .tup _ r => Reps.none0 r
  | _, _, _, .scr _ _ => rfl
  | _, _, _, .lstF _ _ _ => rfl
  | _, _, _, .dctF _ _ _ _ _ => rfl
  | _, _, _, .dctZ _ _ _ _ => rfl
  | _, _, _, .exc0 _ _ => rfl
  | _, _, _, .exc1 _ _ _ _ _ _ => rfl
theorem Reps.none0 : ∀ {ds vs os}, Reps c H Z 0 ds vs os → os = []
  | _, _, _, .nil => rfl
  | _, _, _, .cons r rs => by rw [r.none0, Reps.none0 rs]; rfl
end
theorem StR.envB (r : StR c H0 Z0 L gh H Z os σ env) (l : List Nat) : EnvR c H (Zb Z os (brw env l)) S σ (mask l env) := by
  refine ⟨fun a q => ?_, by rw [← r.len]; simp [mask], fun i _ x hx => ?_⟩
  · rcases q with q | ⟨j, _, q⟩
    · exact r.there a q
    · exact r.oth j a q
  · rw [mask_get] at hx
    cases h : env[i]? with
    | none => rw [h] at hx; cases hx
    | some o =>
      rw [h, Option.map_some] at hx
      by_cases hi : l.contains i = true
      · rw [if_pos hi] at hx
        cases hx
        obtain ⟨k, d, B⟩ := x
        obtain ⟨v, h1, h2⟩ := r.at_ i k d B h
        obtain ⟨hB, hk⟩ := brw_mem (l := l) h (by simpa using hi)
        refine ⟨v, h1, h2.demote (fun a q => q.elim .inl fun ⟨j, hj, q⟩ => .inr ⟨j, hB j hj, q⟩) fun a ha => .inr ⟨i, hk fun z => ?_, ha⟩⟩
        subst z
        rw [h2.none0] at ha
        cases ha
      · rw [if_neg hi] at hx; cases hx
/-- all of them -/
theorem StR.envA (r : StR c H0 Z0 L gh H Z os σ env) : EnvR c H (fun a => Z a ∨ ∃ j, a ∈ os j) S σ env := by
  refine ⟨fun a q => q.elim (r.there a) fun ⟨j, q⟩ => r.oth j a q, r.len, fun i _ x hx => ?_⟩
  obtain ⟨k, d, B⟩ := x
  obtain ⟨v, h1, h2⟩ := r.at_ i k d B hx
  exact ⟨v, h1, h2.demote (fun a q => q.elim .inl fun ⟨j, _, q⟩ => .inr ⟨j, q⟩) fun a ha => .inr ⟨i, ha⟩⟩
/-- a name is stored -/
theorem StR.set {i k : Nat} {d : D} {v : V} {o : List Addr} {B M : List Nat} (r : StR c H0 Z0 L gh H Z os σ env) (rv : Rep c H (Zb Z os B) k d v o) (hnd : o.Nodup) (hz : ∀ a ∈ o, ¬ Z a) (hos : ∀ j, ∀ a ∈ o, a ∉ os j) (h0 : ∀ a ∈ o, H0 a = none) :
    ∃ Z' os', StR c H0 Z0 L gh H Z' os' (σ.set i (some v)) ((dropB i env).set i (some (if M.contains i then k else 0, d, if ful k d then [] else B.filter fun j => j != i))) ∧
      (∀ a, Z a → Z' a) ∧ (∀ j, ∀ a ∈ os j, a ∈ os' j ∨ Z' a) ∧ (∀ a, Z' a → Z a ∨ (∃ j, a ∈ os j) ∨ a ∈ o) ∧ (∀ j, ∀ a ∈ os' j, a ∈ os j ∨ a ∈ o) := by
  have hth := rv.there
  -- where the slot owns its value, and where not
  have key : ∀ (o1 o2 : List Addr) (k1 : Nat), o1.Nodup → (∀ a ∈ o1, a ∈ o) → (∀ a ∈ o2, a ∈ o) → (∀ a ∈ o1, a ∉ o2) → (∀ Zq : Addr → Prop, (∀ a, Z a → Zq a) → (∀ a ∈ o2, Zq a) → (∀ j ∈ B, ∀ a ∈ os j, j = i → Zq a) → Rep c H (fun a => Zq a ∨ ∃ j ∈ (if ful k d then [] else B.filter fun j => j != i), a ∈ os j) k1 d v o1) →
      ∃ Z' os', StR c H0 Z0 L gh H Z' os' (σ.set i (some v)) ((dropB i env).set i (some (k1, d, if ful k d then [] else B.filter fun j => j != i))) ∧
      (∀ a, Z a → Z' a) ∧ (∀ j, ∀ a ∈ os j, a ∈ os' j ∨ Z' a) ∧ (∀ a, Z' a → Z a ∨ (∃ j, a ∈ os j) ∨ a ∈ o) ∧ (∀ j, ∀ a ∈ os' j, a ∈ os j ∨ a ∈ o) := by
    intro o1 o2 k1 hnd1 hs1 hs2 hd12 hrep
    have ne : ∀ {j}, j ≠ i → (fun j => if j = i then o1 else os j) j = os j := fun h => if_neg h
    refine ⟨fun a => Z a ∨ a ∈ os i ∨ a ∈ o2, fun j => if j = i then o1 else os j, ⟨fun a q => ?_, fun j a q => ?_, by rw [List.length_set, List.length_set, ← r.len]; simp [dropB], fun j => ?_, fun j l a q1 q2 => ?_, fun j a q z => ?_, fun j k' d' B' h => ?_, r.ext0, fun j a q => ?_, fun a q => ?_, fun a q => .inl (r.z0 a q), r.ghL, fun g hg => ?_⟩, fun a q => .inl q, fun j a q => ?_, fun a q => ?_, fun j a q => ?_⟩
    · rcases q with q | q | q
      · exact r.there a q
      · exact r.oth i a q
      · exact hth a (hs2 a q)
    · try dsimp only at q
      split at q
      · exact hth a (hs1 a q)
      · exact r.oth j a q
    · try dsimp only
      split
      · exact hnd1
      · exact r.nd j
    · try dsimp only at q1 q2
      split at q1
      · rename_i e1
        split at q2
        · rename_i e2; rw [e1, e2]
        · exact absurd q2 (hos l a (hs1 a q1))
      · split at q2
        · exact absurd q1 (hos j a (hs1 a q2))
        · exact r.dj j l a q1 q2
    · try dsimp only at q
      split at q
      · rcases z with z | z | z
        · exact hz a (hs1 a q) z
        · exact hos i a (hs1 a q) z
        · exact hd12 a q z
      · rename_i hji
        rcases z with z | z | z
        · exact r.nz j a q z
        · exact hji (r.dj j i a q z)
        · exact hos j a (hs2 a z) q
    · by_cases e : i = j
      · subst e
        by_cases hl : i < env.length
        · rw [List.getElem?_set_self (by simpa [dropB] using hl)] at h
          cases h
          refine ⟨v, List.getElem?_set_self (by rw [← r.len]; exact hl), ?_⟩
          try dsimp only
          rw [if_pos rfl]
          refine (hrep (fun a => Z a ∨ a ∈ os i ∨ a ∈ o2) (fun a q => .inl q) (fun a q => .inr (.inr q)) fun j _ a q e => .inr (.inl (e ▸ q))).mono (Ext.refl _) fun a q => ?_
          rcases q with q | ⟨j, hj, q⟩
          · exact .inl q
          · by_cases ji : j = i
            · subst ji
              exact .inl (.inr (.inl q))
            · refine .inr ⟨j, hj, ?_⟩
              rw [if_neg ji]
              exact q
        · rw [List.getElem?_eq_none (by simpa [dropB] using hl)] at h; cases h
      · rw [List.getElem?_set_ne e] at h
        unfold dropB at h
        rw [List.getElem?_map] at h
        obtain ⟨B0, hB0, h9⟩ : ∃ B0, B' = B0.filter (fun l => l != i) ∧ env[j]? = some (some (k', d', B0)) := by
          cases he : env[j]? with
          | none => rw [he] at h; cases h
          | some o =>
            rw [he] at h
            cases o with
            | none => cases h
            | some y =>
              obtain ⟨y1, y2, y3⟩ := y
              cases h
              exact ⟨y3, rfl, rfl⟩
        subst hB0
        obtain ⟨u, h1, h2⟩ := r.at_ j k' d' B0 h9
        refine ⟨u, by rw [List.getElem?_set_ne e]; exact h1, ?_⟩
        try dsimp only
        rw [if_neg fun z => e z.symm]
        refine h2.mono (Ext.refl _) fun a q => ?_
        rcases q with q | ⟨l, hl, q⟩
        · exact .inl (.inl q)
        · by_cases li : l = i
          · subst li; exact .inl (.inr (.inl q))
          · exact .inr ⟨l, List.mem_filter.mpr ⟨hl, by simpa using li⟩, by rw [if_neg li]; exact q⟩
    · try dsimp only at q
      split at q
      · exact h0 a (hs1 a q)
      · exact r.onew j a q
    · rcases q with q | q | q
      · exact r.znew a q
      · exact .inr (r.onew i a q)
      · exact .inr (h0 a (hs2 a q))
    · obtain ⟨h1, h2⟩ := r.gh g hg
      refine ⟨h1, fun a q => ?_⟩
      rcases h2 a q with q | ⟨l, hl, q⟩
      · exact .inl (.inl q)
      · by_cases li : l = i
        · subst li; exact .inl (.inr (.inl q))
        · exact .inr ⟨l, hl, by rw [if_neg li]; exact q⟩
    · by_cases ji : j = i
      · subst ji; exact .inr (.inr (.inl q))
      · exact .inl (ne ji ▸ q)
    · rcases q with q | q | q
      · exact .inl q
      · exact .inr (.inl ⟨i, q⟩)
      · exact .inr (.inr (hs2 a q))
    · try dsimp only at q
      split at q
      · exact .inr (hs1 a q)
      · exact .inl q
  have zsub : ∀ (Zq : Addr → Prop), (∀ a, Z a → Zq a) → (∀ j ∈ B, ∀ a ∈ os j, j = i → Zq a) → ∀ a, Zb Z os B a → (Zq a ∨ ∃ j ∈ B.filter fun j => j != i, a ∈ os j) := fun Zq h1 h2 a q => by
    rcases q with q | ⟨j, hj, q⟩
    · exact .inl (h1 a q)
    · by_cases ji : j = i
      · exact .inl (h2 j hj a q ji)
      · exact .inr ⟨j, List.mem_filter.mpr ⟨hj, by simpa using ji⟩, q⟩
  by_cases hm : M.contains i = true
  · rw [if_pos hm]
    refine key o [] k hnd (fun _ h => h) (fun _ h => by cases h) (fun _ _ h => by cases h) fun Zq h1 h2 h3 => ?_
    by_cases hf : ful k d = true
    · rw [if_pos hf]
      exact rv.ful hf hf
    · rw [if_neg hf]
      exact rv.mono (Ext.refl _) (zsub Zq h1 h3)
  · rw [if_neg hm]
    refine key [] o 0 List.nodup_nil (fun _ h => by cases h) (fun _ h => h) (fun _ h => by cases h) fun Zq h1 h2 h3 => ?_
    by_cases hf : ful k d = true
    · rw [if_pos hf]
      exact (rv.ful (Z' := Zq) hf hf).demote (fun a q => .inl q) fun a q => .inl (h2 a q)
    · rw [if_neg hf]
      exact rv.demote (zsub Zq h1 h3) fun a q => .inl (h2 a q)
end
end MP

/-! MPt: targets over the slots' owners; places within a value. -/
namespace MP
open PySem PySem.Spec PyProof.Rows L2 RZ
section
variable {c : Cw} {H0 H H1 : Hp} {Z0 : Addr → Prop} {L : List Nat} {gh : List ((Addr → Prop) × Hp × List Nat)} {K : PySem.W.Frag}
/-- how owners come on -/
structure OwnT (Z Z' : Addr → Prop) (os os' : Nat → List Addr) (o : List Addr) : Prop where
  z : ∀ a, Z a → Z' a
  keep : ∀ j, ∀ a ∈ os j, a ∈ os' j ∨ Z' a
  zn : ∀ a, Z' a → Z a ∨ (∃ j, a ∈ os j) ∨ a ∈ o
  on : ∀ j, ∀ a ∈ os' j, a ∈ os j ∨ a ∈ o
theorem OwnT.refl {Z : Addr → Prop} {os : Nat → List Addr} {o : List Addr} : OwnT Z Z os os o := ⟨fun _ h => h, fun _ _ h => .inl h, fun _ h => .inl h, fun _ _ h => .inl h⟩
theorem OwnT.trans {Z Z1 Z2 : Addr → Prop} {os os1 os2 : Nat → List Addr} {o o1 o2 : List Addr} (a : OwnT Z Z1 os os1 o1) (b : OwnT Z1 Z2 os1 os2 o2) (h1 : ∀ x ∈ o1, x ∈ o) (h2 : ∀ x ∈ o2, x ∈ o) : OwnT Z Z2 os os2 o := by
  refine ⟨fun x h => b.z x (a.z x h), fun j x h => ?_, fun x h => ?_, fun j x h => ?_⟩
  · rcases a.keep j x h with h | h
    · exact b.keep j x h
    · exact .inr (b.z x h)
  · rcases b.zn x h with h | ⟨j, h⟩ | h
    · rcases a.zn x h with h | h | h
      · exact .inl h
      · exact .inr (.inl h)
      · exact .inr (.inr (h1 x h))
    · rcases a.on j x h with h | h
      · exact .inr (.inl ⟨j, h⟩)
      · exact .inr (.inr (h1 x h))
    · exact .inr (.inr (h2 x h))
  · rcases b.on j x h with h | h
    · rcases a.on j x h with h | h
      · exact .inl h
      · exact .inr (h1 x h)
    · exact .inr (h2 x h)
mutual
theorem gT_st {Q : L2.St → Hp → Prop} {B M : List Nat} (hK : c.K = K) : ∀ {t : Tg} {k : Nat} {d : D} {v : V} {o : List Addr} {Z : Addr → Prop} {os : Nat → List Addr} {σ : L2.St} {env env' : Env}, StR c H0 Z0 L gh H Z os σ env → Rep c H (Zb Z os B) k d v o → o.Nodup → (∀ a ∈ o, ¬ Z a) → (∀ j, ∀ a ∈ o, a ∉ os j) → (∀ a ∈ o, H0 a = none) →
    bindTg M B t (k, d) env = some env' → (∀ σ' Z' os', StR c H0 Z0 L gh H Z' os' σ' env' → OwnT Z Z' os os' o → Q σ' H) → gT K t v σ H Q
  | .nm i, k, d, v, o, Z, os, σ, env, env', r, rv, hnd, hz, hos, h0, h, q => by
    unfold bindTg at h
    cases h
    obtain ⟨Z', os', r', e1, e2, e3, e4⟩ := r.set (i := i) (M := M) rv hnd hz hos h0
    exact q _ Z' os' r' ⟨e1, e2, e3, e4⟩
  | .tup ts, k, d, v, o, Z, os, σ, env, env', r, rv, hnd, hz, hos, h0, h, q => by
    cases d with
    | tup ds =>
      obtain ⟨a, vs, rfl, g, rs⟩ := rv.tup_
      unfold bindTg at h
      refine ⟨a, vs, rfl, hK ▸ g, ?_, gTs_st hK r rs hnd hz hos h0 h q⟩
      rw [← rs.length]
      exact bindTgs_length h
    | _ => cases h
theorem gTs_st {Q : L2.St → Hp → Prop} {B M : List Nat} (hK : c.K = K) : ∀ {ts : List Tg} {k : Nat} {ds : List D} {vs : List V} {o : List Addr} {Z : Addr → Prop} {os : Nat → List Addr} {σ : L2.St} {env env' : Env}, StR c H0 Z0 L gh H Z os σ env → Reps c H (Zb Z os B) k ds vs o → o.Nodup → (∀ a ∈ o, ¬ Z a) → (∀ j, ∀ a ∈ o, a ∉ os j) → (∀ a ∈ o, H0 a = none) →
    bindTgs M B ts k ds env = some env' → (∀ σ' Z' os', StR c H0 Z0 L gh H Z' os' σ' env' → OwnT Z Z' os os' o → Q σ' H) → gTs K ts vs σ H Q
  | [], k, ds, vs, o, Z, os, σ, env, env', r, rv, hnd, hz, hos, h0, h, q => by
    cases ds with
    | nil =>
      cases rv
      cases h
      exact ⟨rfl, q _ Z os r OwnT.refl⟩
    | cons d ds => cases h
  | t :: ts, k, ds, vs, o, Z, os, σ, env, env', r, rv, hnd, hz, hos, h0, h, q => by
    cases ds with
    | nil => cases h
    | cons d ds =>
      obtain ⟨e1, h1, h2⟩ := Option.bind_eq_some_iff.mp (show (bindTg M B t (k, d) env).bind (fun env' => bindTgs M B ts k ds env') = some env' from h)
      cases rv with
      | @cons _ _ _ v vs o1 o2 rv rvs =>
        rw [List.nodup_append] at hnd
        refine ⟨_, _, rfl, gT_st hK r rv hnd.1 (fun a q => hz a (List.mem_append_left _ q)) (fun j a q => hos j a (List.mem_append_left _ q)) (fun a q => h0 a (List.mem_append_left _ q)) h1 fun σ1 Z1 os1 r1 w1 => ?_⟩
        refine gTs_st hK r1 (rvs.mono (Ext.refl _) fun a q => ?_) hnd.2.1 (fun a q z => ?_) (fun j a q z => ?_) (fun a q => h0 a (List.mem_append_right _ q)) h2 fun σ2 Z2 os2 r2 w2 => q σ2 Z2 os2 r2 (w1.trans w2 (fun x h => List.mem_append_left _ h) fun x h => List.mem_append_right _ h)
        · rcases q with q | ⟨j, hj, q⟩
          · exact .inl (w1.z a q)
          · exact (w1.keep j a q).elim (fun q => .inr ⟨j, hj, q⟩) .inl
        · rcases w1.zn a z with z | ⟨j, z⟩ | z
          · exact hz a (List.mem_append_right _ q) z
          · exact hos j a (List.mem_append_right _ q) z
          · exact hnd.2.2 a z a q rfl
        · rcases w1.on j a z with z | z
          · exact hos j a (List.mem_append_right _ q) z
          · exact hnd.2.2 a z a q rfl
end
/-! ### places -/
/-- v (the datum d, owned to the depth k: os) holds v1 (d1, k1, os1): what is put there -/
def Foc (c : Cw) (H : Hp) (Z : Addr → Prop) (k : Nat) (v : V) (os : List Addr) (k1 : Nat) (d1 : D) (v1 : V) (os1 : List Addr) (up : D → D) : Prop :=
  Rep c H Z k1 d1 v1 os1 ∧ ∃ pre post, os = pre ++ (os1 ++ post) ∧ ∀ H' Z' d' os', (∀ a, Z a → Z' a) → Kp Z H H' → (∀ a ∈ pre ++ post, H' a = H a) → Rep c H' Z' k1 d' v1 os' → Rep c H' Z' k (up d') v (pre ++ (os' ++ post))
theorem Foc.start {Z : Addr → Prop} {k : Nat} {d : D} {v : V} {os : List Addr} (r : Rep c H Z k d v os) : Foc c H Z k v os k d v os id :=
  ⟨r, [], [], by simp, fun H' Z' d' os' _ _ _ r' => by simpa using r'⟩
theorem Reps.split {Z : Addr → Prop} : ∀ {k ds vs os} {j : Nat} {e : D}, Reps c H Z k ds vs os → ds[j]? = some e → ∃ v o1 pre post, vs[j]? = some v ∧ Rep c H Z k e v o1 ∧ os = pre ++ (o1 ++ post) ∧
    ∀ H' Z' e' o', (∀ a, Z a → Z' a) → Kp Z H H' → (∀ a ∈ pre ++ post, H' a = H a) → Rep c H' Z' k e' v o' → Reps c H' Z' k (ds.set j e') vs (pre ++ (o' ++ post))
  | k, [], _, _, j, e, r, h => by simp at h
  | k, d :: ds, _, _, 0, e, .cons (v := v) (os := o) (os' := o') r rs, h => by
    cases h
    refine ⟨v, o, [], o', rfl, r, rfl, fun H' Z' e' o2 zz kp hh r' => ?_⟩
    show Reps c H' Z' k (e' :: ds) _ (o2 ++ o')
    exact .cons r' ((rs.kp kp fun a q => hh a (by simpa using q)).mono (Ext.refl _) zz)
  | k, d :: ds, _, _, j + 1, e, .cons (v := v) (os := o) (os' := o') r rs, h => by
    obtain ⟨v1, o1, pre, post, hv, r1, ho, up⟩ := rs.split (j := j) (e := e) (by simpa using h)
    refine ⟨v1, o1, o ++ pre, post, by simpa using hv, r1, by rw [ho, List.append_assoc], fun H' Z' e' o2 zz kp hh r' => ?_⟩
    rw [List.append_assoc]
    exact .cons ((r.kp kp fun a q => hh a (by simp [q])).mono (Ext.refl _) zz) (up H' Z' e' o2 zz kp (fun a q => hh a (by
      rcases List.mem_append.mp q with q | q
      · simp [q]
      · simp [q])) r')
/-- a step further -/
theorem Foc.list {Z : Addr → Prop} {k k1 : Nat} {v v1 : V} {os os1 : List Addr} {up : D → D} {ds : List D} {j : Nat} {e : D} (f : Foc c H Z k v os (k1 + 1) (.lst ds) v1 os1 up) (h : ds[j]? = some e) :
    ∃ a vs v2 os2, v1 = .ref a ∧ H a = some (.lst vs) ∧ ds.length = vs.length ∧ vs[j]? = some v2 ∧ Foc c H Z k v os k1 e v2 os2 (fun e' => up (.lst (ds.set j e'))) := by
  obtain ⟨r, pre, post, ho, hup⟩ := f
  cases r with
  | @lstO _ _ a vs os' g rs =>
    obtain ⟨v2, o1, p1, p2, hv, r1, ho2, up2⟩ := rs.split h
    refine ⟨a, vs, v2, o1, rfl, g, rs.length, hv, r1, pre ++ (a :: p1), p2 ++ post, ?_, fun H' Z' e' o' zz kp hh r' => ?_⟩
    · rw [ho, ho2]; simp
    · have rr := hup H' Z' (.lst (ds.set j e')) (a :: (p1 ++ (o' ++ p2))) zz kp (fun b q => hh b (by
        rcases List.mem_append.mp q with q | q
        · simp [q]
        · simp [q])) (.lstO ((hh a (by simp)).trans g) (up2 H' Z' e' o' zz kp (fun b q => hh b (by
        rcases List.mem_append.mp q with q | q
        · simp [q]
        · simp [q])) r'))
      have e1 : pre ++ (a :: (p1 ++ (o' ++ p2)) ++ post) = pre ++ a :: p1 ++ (o' ++ (p2 ++ post)) := by simp
      rw [e1] at rr
      exact rr
theorem Foc.tup {Z : Addr → Prop} {k k1 : Nat} {v v1 : V} {os os1 : List Addr} {up : D → D} {ds : List D} {j : Nat} {e : D} (f : Foc c H Z k v os k1 (.tup ds) v1 os1 up) (h : ds[j]? = some e) :
    ∃ a vs v2 os2, v1 = .ref a ∧ SqT c.K H a vs ∧ ds.length = vs.length ∧ vs[j]? = some v2 ∧ Foc c H Z k v os k1 e v2 os2 (fun e' => up (.tup (ds.set j e'))) := by
  obtain ⟨r, pre, post, ho, hup⟩ := f
  obtain ⟨a, vs, rfl, g, rs⟩ := r.tup_
  obtain ⟨v2, o1, p1, p2, hv, r1, ho2, up2⟩ := rs.split h
  refine ⟨a, vs, v2, o1, rfl, g, rs.length, hv, r1, pre ++ p1, p2 ++ post, ?_, fun H' Z' e' o' zz kp hh r' => ?_⟩
  · rw [ho, ho2]; simp
  · have rr := hup H' Z' (.tup (ds.set j e')) (p1 ++ (o' ++ p2)) zz kp (fun b q => hh b (by
      rcases List.mem_append.mp q with q | q
      · simp [q]
      · simp [q])) (.tup (kp.sqT g) (up2 H' Z' e' o' zz kp (fun b q => hh b (by
      rcases List.mem_append.mp q with q | q
      · simp [q]
      · simp [q])) r'))
    have e1 : pre ++ (p1 ++ (o' ++ p2) ++ post) = pre ++ p1 ++ (o' ++ (p2 ++ post)) := by simp
    rw [e1] at rr
    exact rr
theorem Foc.ext {Z Z' : Addr → Prop} {k k1 : Nat} {v v1 : V} {os os1 : List Addr} {up : D → D} {d1 : D} (f : Foc c H Z k v os k1 d1 v1 os1 up) (e : Ext H H1) (z : ∀ a, Z a → Z' a) (ht : ∀ a ∈ os, H a ≠ none) : Foc c H1 Z' k v os k1 d1 v1 os1 up := by
  obtain ⟨r, pre, post, ho, hup⟩ := f
  refine ⟨r.mono e z, pre, post, ho, fun H' Z2 d' os' zz kp hh r' => hup H' Z2 d' os' (fun a q => zz a (z a q)) ?_ (fun a q => ?_) r'⟩
  · exact (Ext.kp e).trans (kp.sub z)
  · rw [hh a q]
    cases h : H a with
    | none =>
      refine absurd h (ht a ?_)
      rw [ho]
      rcases List.mem_append.mp q with q | q
      · simp [q]
      · simp [q]
    | some o => exact e a o h
/-! ### less is owned -/
mutual
theorem Rep.lower : ∀ {Z : Addr → Prop} {k k' : Nat} {d : D} {v : V} {os : List Addr}, Rep c H Z k d v os → k' ≤ k → os.Nodup → ∃ os', List.Sublist os' os ∧ Rep c H (fun a => Z a ∨ (a ∈ os ∧ a ∉ os')) k' d v os'
  | _, _, _, _, _, _, .non, _, _ => ⟨[], List.Sublist.refl _, .non⟩
  | _, _, _, _, _, _, .bl, _, _ => ⟨[], List.Sublist.refl _, .bl⟩
  | _, _, _, _, _, _, .int, _, _ => ⟨[], List.Sublist.refl _, .int⟩
  | _, _, _, _, _, _, .str, _, _ => ⟨[], List.Sublist.refl _, .str⟩
  | _, _, _, _, _, _, .tup g r, h, n => by
    obtain ⟨os', s, r'⟩ := r.lower h n
    exact ⟨os', s, .tup g r'⟩
  | _, _, _, _, _, _, .scr g r, _, _ => ⟨[], List.Sublist.refl _, .scr (g.mono (Ext.refl _) fun _ q => .inl q) (r.mono (Ext.refl _) fun _ q => .inl q)⟩
  | _, _, _, _, _, _, .lstF g z r, h, _ => by
    obtain rfl := Nat.le_zero.mp h
    exact ⟨[], List.Sublist.refl _, .lstF g (.inl z) (r.mono (Ext.refl _) fun _ q => .inl q)⟩
  | _, k + 1, 0, _, _, _, .lstO (a := a) (os := os) g r, _, n => by
    refine ⟨[], List.nil_sublist _, .lstF g (.inr ⟨List.mem_cons_self, by simp⟩) ?_⟩
    exact r.demote (fun a q => .inl q) fun a q => .inr ⟨List.mem_cons_of_mem _ q, by simp⟩
  | _, k + 1, k' + 1, _, _, _, .lstO (a := a) (os := os) g r, h, n => by
    rw [List.nodup_cons] at n
    obtain ⟨os', s, r'⟩ := r.lower (k' := k') (by omega) n.2
    refine ⟨a :: os', s.cons_cons a, .lstO g (r'.mono (Ext.refl _) fun b q => ?_)⟩
    rcases q with q | ⟨q1, q2⟩
    · exact .inl q
    · refine .inr ⟨List.mem_cons_of_mem _ q1, fun z => ?_⟩
      rcases List.mem_cons.mp z with rfl | z
      · exact n.1 q1
      · exact q2 z
  | _, _, _, _, _, _, .dctF g z e1 e2 r, h, _ => by
    obtain rfl := Nat.le_zero.mp h
    exact ⟨[], List.Sublist.refl _, .dctF g (.inl z) e1 e2 (r.mono (Ext.refl _) fun _ q => .inl q)⟩
  | _, _, _, _, _, _, .dctZ g e1 e2 r, h, _ => by
    obtain rfl := Nat.le_zero.mp h
    exact ⟨[], List.Sublist.refl _, .dctZ g e1 e2 (r.mono (Ext.refl _) fun _ q => .inl q)⟩
  | _, k + 1, 0, _, _, _, .dctO (a := a) (os := os) g e1 e2 r, _, n => by
    refine ⟨[], List.nil_sublist _, .dctF g (.inr ⟨List.mem_cons_self, by simp⟩) e1 e2 ?_⟩
    exact r.demote (fun a q => .inl q) fun a q => .inr ⟨List.mem_cons_of_mem _ q, by simp⟩
  | _, k + 1, k' + 1, _, _, _, .dctO (a := a) (os := os) g e1 e2 r, h, n => by
    rw [List.nodup_cons] at n
    obtain ⟨os', s, r'⟩ := r.lower (k' := k') (by omega) n.2
    refine ⟨a :: os', s.cons_cons a, .dctO g e1 e2 (r'.mono (Ext.refl _) fun b q => ?_)⟩
    rcases q with q | ⟨q1, q2⟩
    · exact .inl q
    · refine .inr ⟨List.mem_cons_of_mem _ q1, fun z => ?_⟩
      rcases List.mem_cons.mp z with rfl | z
      · exact n.1 q1
      · exact q2 z
  | _, _, _, _, _, _, .exc0 g h, _, _ => ⟨[], List.Sublist.refl _, .exc0 g h⟩
  | _, _, _, _, _, _, .exc1 n g h d l r, _, _ => ⟨[], List.Sublist.refl _, .exc1 n g h d l (r.mono (Ext.refl _) fun _ q => .inl q)⟩
theorem Reps.lower : ∀ {Z : Addr → Prop} {k k' : Nat} {ds : List D} {vs : List V} {os : List Addr}, Reps c H Z k ds vs os → k' ≤ k → os.Nodup → ∃ os', List.Sublist os' os ∧ Reps c H (fun a => Z a ∨ (a ∈ os ∧ a ∉ os')) k' ds vs os'
  | _, _, _, _, _, _, .nil, _, _ => ⟨[], List.Sublist.refl _, .nil⟩
  | _, _, _, _, _, _, .cons (os := o1) (os' := o2) r rs, h, n => by
    rw [List.nodup_append] at n
    obtain ⟨p1, s1, r1⟩ := r.lower h n.1
    obtain ⟨p2, s2, r2⟩ := rs.lower h n.2.1
    refine ⟨p1 ++ p2, s1.append s2, .cons (r1.mono (Ext.refl _) fun b q => ?_) (r2.mono (Ext.refl _) fun b q => ?_)⟩
    · rcases q with q | ⟨q1, q2⟩
      · exact .inl q
      · refine .inr ⟨List.mem_append_left _ q1, fun z => ?_⟩
        rcases List.mem_append.mp z with z | z
        · exact q2 z
        · exact n.2.2 b q1 b (s2.subset z) rfl
    · rcases q with q | ⟨q1, q2⟩
      · exact .inl q
      · refine .inr ⟨List.mem_append_right _ q1, fun z => ?_⟩
        rcases List.mem_append.mp z with z | z
        · exact n.2.2 b (s1.subset z) b q1 rfl
        · exact q2 z
end
end
end MP

/-! MPu: statements, what they do; changes in place. -/
namespace MP
open PySem PySem.Spec PyProof.Rows L2 RZ
/-! ### places -/
structure Pl where
  i : Nat
  k : Nat
  d : D
  up : D → D
def stepP (p : Pl) (y : D) : Option Pl := match p.d, y with
  | .lst ds, .int n => match p.k with
    | k1 + 1 => (ixN ds.length n).bind fun j => (ds[j]?).map fun e => ⟨p.i, k1, e, fun e' => p.up (.lst (ds.set j e'))⟩
    | 0 => none
  | .tup ds, .int n => (ixN ds.length n).bind fun j => (ds[j]?).map fun e => ⟨p.i, p.k, e, fun e' => p.up (.tup (ds.set j e'))⟩
  | _, _ => none
def wipeB (i : Nat) (env : Env) : Env := env.map fun o => match o with
  | some x => if x.2.2.contains i then none else some x
  | none => none
/-- the value at a root is another one now -/
def mutOut (L : List Nat) (env : Env) (i : Nat) (d' : D) (ex : List Nat) : Out := match env[i]? with
  | some (some (k, _, B)) => if L.contains i || (B ++ ex).contains i then .stuck else .nx ((wipeB i env).set i (some (k, d', B ++ ex)))
  | _ => .stuck
/-- less of a slot's value is owned -/
def lowE (env : Env) (i m : Nat) : Env := match env[i]? with
  | some (some (k, d, B)) => env.set i (some (k - m, d, B))
  | _ => env
def resP (env : Env) (r : Res Pl) (f : Pl → Out) : Out := match r with
  | .ok x => f x
  | .exc x => .exc x env
  | .stuck => .stuck
def resL (env : Env) (r : Res (List Ent)) (f : List Ent → Out) : Out := match r with
  | .ok x => f x
  | .exc x => .exc x env
  | .stuck => .stuck
def resD (env : Env) (r : Res (List D)) (f : List D → Out) : Out := match r with
  | .ok x => f x
  | .exc x => .exc x env
  | .stuck => .stuck
def resB (env : Env) (r : Res Bool) (f : Bool → Out) : Out := match r with
  | .ok x => f x
  | .exc x => .exc x env
  | .stuck => .stuck
theorem FinO.resP {env : Env} {r : Res Pl} {f : Pl → Out} {nx : Env → Prop} {rt : Ent → Prop} {ex : D → Env → Prop} (h : FinO (MP.resP env r f) nx rt ex) : Fin r (fun x => FinO (f x) nx rt ex) (fun x => ex x env) := by
  cases r <;> exact h
theorem FinO.resL {env : Env} {r : Res (List Ent)} {f : List Ent → Out} {nx : Env → Prop} {rt : Ent → Prop} {ex : D → Env → Prop} (h : FinO (MP.resL env r f) nx rt ex) : Fin r (fun x => FinO (f x) nx rt ex) (fun x => ex x env) := by
  cases r <;> exact h
theorem FinO.resD {env : Env} {r : Res (List D)} {f : List D → Out} {nx : Env → Prop} {rt : Ent → Prop} {ex : D → Env → Prop} (h : FinO (MP.resD env r f) nx rt ex) : Fin r (fun x => FinO (f x) nx rt ex) (fun x => ex x env) := by
  cases r <;> exact h
theorem FinO.resB {env : Env} {r : Res Bool} {f : Bool → Out} {nx : Env → Prop} {rt : Ent → Prop} {ex : D → Env → Prop} (h : FinO (MP.resB env r f) nx rt ex) : Fin r (fun x => FinO (f x) nx rt ex) (fun x => ex x env) := by
  cases r <;> exact h
/-- names that are given away whole -/
def mv1 (env : Env) (i : Nat) (x : Ent) : Ent := match env[i]? with
  | some (some (k, d, _)) => (k, d)
  | _ => x
def mvs (env : Env) : List Ex → List Ent → List Ent
  | .nm i :: es, x :: xs => mv1 env i x :: mvs env es xs
  | _ :: es, x :: xs => x :: mvs env es xs
  | _, _ => []
def nmsOf : List Ex → List Nat
  | .nm i :: es => i :: nmsOf es
  | _ :: es => nmsOf es
  | [] => []
section
variable (Γ : Gm) (M : List Nat)
def evP : Ex → Env → Res Pl
  | .nm i, env => match env[i]? with
    | some (some (k, d, _)) => .ok ⟨i, k, d, id⟩
    | _ => .stuck
  | .idx p e, env => evP p env >>= fun pl => evE Γ e env >>= fun y => Res.of (stepP pl y.2)
  | _, _ => .stuck
/-- a list's new item, owned from now on if it is whole -/
def app1 (L : List Nat) (env : Env) (p e : Ex) : Out := resP env (evP Γ p env) fun pl => match pl.k, pl.d with
  | k2 + 1, .lst ds => resO env (evE Γ e env) fun x => if szOk (ds.length + 1) = true then
      (if (ful x.1 x.2 && ful k2 x.2) = true then mutOut L env pl.i (pl.up (.lst (ds ++ [x.2]))) []
       else if k2 = 0 then mutOut L env pl.i (pl.up (.lst (ds ++ [x.2]))) (brw env (fv e)) else .stuck) else .stuck
  | _, _ => .stuck
/-- .. others make the place as shallow as they are -/
def appS (L : List Nat) (env : Env) (p e : Ex) : Out := match evP Γ p env, evE Γ e env with
  | .ok pl, .ok x => if (ful x.1 x.2 && ful (pl.k - 1) x.2) = true ∨ pl.k ≤ 1 then app1 Γ L env p e else app1 Γ L (lowE env pl.i (pl.k - 1)) p e
  | _, _ => app1 Γ L env p e
/-- p[i] = e, a dict of atoms -/
def dsetS (L : List Nat) (env : Env) (p i e : Ex) : Out := resO env (evE Γ e env) fun x => resP env (evP Γ p env) fun pl => resO env (evE Γ i env) fun y => match pl.k, pl.d, key? y.2 with
  | _ + 1, .dct ks vs, some k => if (szOk (ks.length + 1) && fuls 0 vs && ful 0 x.2) = true then mutOut L env pl.i (pl.up (.dct (dset k x.2 (ks, vs)).1 (dset k x.2 (ks, vs)).2)) [] else .stuck
  | _, _, _ => .stuck
def clrF : D → Option D
  | .lst _ => some (.lst [])
  | _ => none
/-- pairs whose second one is a list -/
def clrP : D → Bool
  | .tup [_, .lst _] => true
  | _ => false
/-- .. their lists are emptied; nobody reads the whole any more -/
def clrO (L : List Nat) (env : Env) (a v : Nat) (pl : Pl) : Out := match pl.k, pl.d with
  | _ + 2, .lst ds => if (ds.all clrP && !L.contains pl.i && a != v && decide (v < env.length)) = true then .nx ((((wipeB pl.i env).set pl.i none).set a none).set v none) else .stuck
  | _, _ => .stuck
mutual
def exS (L : List Nat) : Sm → Env → Out
  | .nop, env => .nx env
  | .bad, _ => .stuck
  | .set tg e, env => resO env (evE Γ e env) fun x => match bindTg M (brw env (fv e)) tg x env with
    | some env' => .nx env'
    | none => .stuck
  | .seti p i e, env => dsetS Γ L env p i e
  | .mut .append p [e], env => appS Γ L env p e
  | .mut .clear p [], env => resP env (evP Γ p env) fun pl => if pl.k = 0 then .stuck else match clrF pl.d with
    | some d' => mutOut L env pl.i (pl.up d') []
    | none => .stuck
  | .mut _ _ _, _ => .stuck
  | .drop e, env => resO env (evE Γ e env) fun _ => .nx env
  | .ret e, env => resO env (evE Γ e env) .rt
  | .retN, _ => .rt (0, .non)
  | .retV i, env => match env[i]? with
    | some (some (k, d, _)) => .rt (if ful k d then k else 0, d)
    | _ => .stuck
  | .retT es, env => resL env (evL Γ es env) fun xs =>
    if (mvs env es xs).all fu && decide (nmsOf es).Nodup && szOk xs.length then .rt (8, .tup ((mvs env es xs).map (·.2))) else match tupO xs with
      | some x => .rt x
      | none => .stuck
  | .ife c a b, env => resB env (evE Γ c env >>= asB) fun k => if k = true then exL L a env else exL L b env
  | .for tg ik its body, env => resD env (evL Γ its env >>= fun xs => Res.of (iterD ik (xs.map (·.2)))) fun ds =>
    forO (fun d e => match bindTg M (brw env (fv.fvs its)) tg (0, d) e with
      | some e' => exL (brw env (fv.fvs its) ++ L) body e'
      | none => .stuck) ds env
  | .raise _ _, _ => .stuck
  | .clrs a v p, env => resP env (evP Γ p env) fun pl => clrO L env a v pl
def exL (L : List Nat) : List Sm → Env → Out
  | [], env => .nx env
  | s :: ss, env => andThen (exS L s env) (exL L ss)
end
/-- a def's run -/
def runF (n : Nat) (body : List Sm) (args : List D) : Res Ent := match exL Γ M [] body (args.map (fun d => some (0, d, [])) ++ List.replicate n none) with
  | .nx _ => .ok (0, .non)
  | .rt x => .ok x
  | .exc x _ => .exc x
  | .stuck => .stuck
end
/-! ### changes -/
section
variable {c : Cw} {H0 H H1 : Hp} {Z0 Z : Addr → Prop} {L : List Nat} {gh : List ((Addr → Prop) × Hp × List Nat)} {os : Nat → List Addr} {σ : L2.St} {env : Env}
theorem StR.low (r : StR c H0 Z0 L gh H Z os σ env) (i m : Nat) : ∃ Z' os', StR c H0 Z0 L gh H Z' os' σ (lowE env i m) := by
  unfold lowE
  split
  · rename_i k d B hi
    obtain ⟨v, hv, rv⟩ := r.at_ i k d B hi
    obtain ⟨o', sub, rv'⟩ := rv.lower (k' := k - m) (by omega) (r.nd i)
    refine ⟨fun a => Z a ∨ (a ∈ os i ∧ a ∉ o'), fun j => if j = i then o' else os j, ?_⟩
    have so : ∀ j, ∀ a ∈ (if j = i then o' else os j), a ∈ os j := fun j a q => by
      split at q
      · rename_i e; rw [e]; exact sub.subset q
      · exact q
    have zz : ∀ B' : List Nat, ∀ a, (Z a ∨ ∃ j ∈ B', a ∈ os j) → ((Z a ∨ (a ∈ os i ∧ a ∉ o')) ∨ ∃ j ∈ B', a ∈ (if j = i then o' else os j)) := fun B' a q => by
      rcases q with q | ⟨j, hj, q⟩
      · exact .inl (.inl q)
      · by_cases ji : j = i
        · subst ji
          by_cases ho : a ∈ o'
          · exact .inr ⟨j, hj, by rw [if_pos rfl]; exact ho⟩
          · exact .inl (.inr ⟨q, ho⟩)
        · exact .inr ⟨j, hj, by rw [if_neg ji]; exact q⟩
    refine ⟨fun a q => ?_, fun j a q => r.oth j a (so j a q), by rw [List.length_set]; exact r.len, fun j => ?_, fun j l a q1 q2 => r.dj j l a (so j a q1) (so l a q2), fun j a q z => ?_, fun j k' d' B' h => ?_, r.ext0, fun j a q => r.onew j a (so j a q), fun a q => ?_, fun a q => .inl (r.z0 a q), r.ghL, fun g hg => ?_⟩
    · rcases q with q | q
      · exact r.there a q
      · exact r.oth i a q.1
    · show (if j = i then o' else os j).Nodup
      split
      · exact (r.nd i).sublist sub
      · exact r.nd j
    · rcases z with z | ⟨z1, z2⟩
      · exact r.nz j a (so j a q) z
      · have := r.dj j i a (so j a q) z1
        subst this
        rw [if_pos rfl] at q
        exact z2 q
    · by_cases e : i = j
      · subst e
        by_cases hl : i < env.length
        · rw [List.getElem?_set_self hl] at h
          cases h
          refine ⟨v, hv, ?_⟩
          show Rep c H _ (k - m) d v (if i = i then o' else os i)
          rw [if_pos rfl]
          refine rv'.mono (Ext.refl _) fun a q => ?_
          rcases q with q | q
          · exact zz B a q
          · exact .inl (.inr q)
        · rw [List.getElem?_eq_none (by simpa using hl)] at h; cases h
      · rw [List.getElem?_set_ne e] at h
        obtain ⟨u, h1, h2⟩ := r.at_ j k' d' B' h
        refine ⟨u, h1, ?_⟩
        show Rep c H _ k' d' u (if j = i then o' else os j)
        rw [if_neg fun z => e z.symm]
        exact h2.mono (Ext.refl _) (zz B')
    · rcases q with q | q
      · exact r.znew a q
      · exact .inr (r.onew i a q.1)
    · obtain ⟨h1, h2⟩ := r.gh g hg
      exact ⟨h1, fun a q => zz g.2.2 a (h2 a q)⟩
  · exact ⟨Z, os, r⟩
/-- a value is changed at an address that its slot owns -/
theorem StR.mutate {i k : Nat} {d d' : D} {v : V} {B ex : List Nat} {a : Addr} {u : HO} {o' : List Addr} {env' : Env} (r : StR c H0 Z0 L gh H Z os σ env) (hi : env[i]? = some (some (k, d, B))) (hv : σ[i]? = some (some v)) (ha : a ∈ os i) (hu : ∀ w, H a = some w → MutO w)
    (ho : mutOut L env i d' ex = .nx env') (rv : Rep c (upd H a u) (fun b => Z b ∨ ∃ j ∈ B ++ ex, b ∈ os j) k d' v o') (hnd : o'.Nodup) (hz : ∀ b ∈ o', ¬ Z b) (hos : ∀ j, j ≠ i → ∀ b ∈ o', b ∉ os j) (h0 : ∀ b ∈ o', H0 b = none) :
    ∃ os', StR c H0 Z0 L gh (upd H a u) Z os' σ env' ∧ os' i = o' := by
  unfold mutOut at ho
  rw [hi] at ho
  dsimp only at ho
  split at ho
  · cases ho
  · rename_i hc
    cases ho
    simp only [Bool.or_eq_true, List.contains_iff_mem] at hc
    have hL : i ∉ L := fun z => hc (.inl z)
    have hB : i ∉ B ++ ex := fun z => hc (.inr z)
    have naz : ¬ Z a := r.nz i a ha
    have kp : ∀ U : Addr → Prop, ¬ U a → Kp U H (upd H a u) := fun U hU => Kp.refl.upd hU hu
    have hth := rv.there
    refine ⟨fun j => if j = i then o' else os j, ⟨fun b q => ?_, fun j b q => ?_, ?_, fun j => ?_, fun j l b q1 q2 => ?_, fun j b q z => ?_, fun j k' d2 B' h => ?_, ?_, fun j b q => ?_, r.znew, r.z0, r.ghL, fun g hg => ?_⟩, if_pos rfl⟩
    · by_cases e : b = a
      · rw [e, upd_same]; exact fun z => by cases z
      · rw [upd_ne e]; exact r.there b q
    · split at q
      · exact hth b q
      · by_cases e : b = a
        · rw [e, upd_same]; exact fun z => by cases z
        · rw [upd_ne e]; exact r.oth j b q
    · rw [List.length_set, ← r.len]; simp [wipeB]
    · show (if j = i then o' else os j).Nodup
      split
      · exact hnd
      · exact r.nd j
    · split at q1
      · rename_i e1
        split at q2
        · rename_i e2; rw [e1, e2]
        · rename_i e2; exact absurd q2 (hos l e2 b q1)
      · rename_i e1
        split at q2
        · exact absurd q1 (hos j e1 b q2)
        · exact r.dj j l b q1 q2
    · split at q
      · exact hz b q z
      · exact r.nz j b q z
    · by_cases e : i = j
      · subst e
        by_cases hl : i < env.length
        · rw [List.getElem?_set_self (by simpa [wipeB] using hl)] at h
          cases h
          refine ⟨v, hv, ?_⟩
          show Rep c _ _ k d' v (if i = i then o' else os i)
          rw [if_pos rfl]
          refine rv.mono (Ext.refl _) fun b q => ?_
          rcases q with q | ⟨j, hj, q⟩
          · exact .inl q
          · exact .inr ⟨j, hj, by rw [if_neg fun z : j = i => hB (z ▸ hj)]; exact q⟩
        · rw [List.getElem?_eq_none (by simpa [wipeB] using hl)] at h; cases h
      · rw [List.getElem?_set_ne e] at h
        unfold wipeB at h
        rw [List.getElem?_map] at h
        obtain ⟨h9, hiB⟩ : env[j]? = some (some (k', d2, B')) ∧ i ∉ B' := by
          cases he : env[j]? with
          | none => rw [he] at h; cases h
          | some x =>
            rw [he] at h
            cases x with
            | none => cases h
            | some y =>
              simp only [Option.map_some, Option.some.injEq] at h
              split at h
              · cases h
              · rename_i hn
                cases h
                exact ⟨rfl, by simpa using hn⟩
        obtain ⟨w, h1, h2⟩ := r.at_ j k' d2 B' h9
        refine ⟨w, h1, ?_⟩
        show Rep c _ _ k' d2 w (if j = i then o' else os j)
        rw [if_neg fun z => e z.symm]
        refine (h2.kp (kp _ fun q => ?_) fun b q => ?_).mono (Ext.refl _) fun b q => ?_
        · rcases q with q | ⟨l, hl, q⟩
          · exact naz q
          · exact hiB (r.dj i l a ha q ▸ hl)
        · exact upd_ne fun z : b = a => e (r.dj i j a ha (z ▸ q))
        · rcases q with q | ⟨l, hl, q⟩
          · exact .inl q
          · exact .inr ⟨l, hl, by rw [if_neg fun z : l = i => hiB (z ▸ hl)]; exact q⟩
    · exact fun b w hb => by
        rw [upd_ne fun z => by
          have := r.onew i a ha
          rw [z, this] at hb; cases hb]
        exact r.ext0 b w hb
    · split at q
      · exact h0 b q
      · exact r.onew j b q
    · obtain ⟨h1, h2⟩ := r.gh g hg
      have ng : ¬ g.1 a := fun z => by
        rcases h2 a z with z | ⟨l, hl, z⟩
        · exact naz z
        · exact hL (r.dj i l a ha z ▸ r.ghL g hg l hl)
      refine ⟨h1.trans (kp _ ng), fun b q => ?_⟩
      rcases h2 b q with q | ⟨l, hl, q⟩
      · exact .inl q
      · exact .inr ⟨l, hl, by rw [if_neg fun z : l = i => hL (z ▸ r.ghL g hg l hl)]; exact q⟩
end
end MP

/-! MPv: statements, their readings. -/
namespace MP
open PySem PySem.Spec PyProof.Rows L2 RZ
/-- a statement's reading -/
def bS (c : Cw) (W : WX) (L : List Nat) (ex : Env → Out) : TS := fun D σ H => ∃ H0 Z0 gh Z os env, StR c H0 Z0 L gh H Z os σ env ∧
  FinO (ex env) (fun env' => ∀ σ' H' Z' os', StR c H0 Z0 L gh H' Z' os' σ' env' → D.nx σ' H')
    (fun x => ∀ v H' o, ROk c H0 Z0 x.1 x.2 v H' o → D.rt v H')
    (fun x env' => ∀ σ' H' Z' os' cls dd, StR c H0 Z0 L gh H' Z' os' σ' env' → XRep c H' (fun a => Z' a ∨ ∃ j, a ∈ os' j) x cls dd → W cls dd σ' H')
theorem _root_.L2.PS.imp {X : Cx} {st : Stmt} {t t' : TS} (h : PS X st t) (i : ∀ D σ H, t' D σ H → t D σ H) : PS X st t' := ⟨fun pins s σ H D I q => h.run pins s σ H D I (i _ _ _ q)⟩
theorem _root_.L2.PSs.imp {X : Cx} {st : List Stmt} {t t' : TS} (h : PSs X st t) (i : ∀ D σ H, t' D σ H → t D σ H) : PSs X st t' := ⟨fun pins s σ H D I q => h.run pins s σ H D I (i _ _ _ q)⟩
section
variable {c : Cw} {W : WX} {H0 H H1 H2 : Hp} {Z0 Z Z2 : Addr → Prop} {L : List Nat} {gh : List ((Addr → Prop) × Hp × List Nat)} {os : Nat → List Addr} {σ : L2.St} {env : Env} {Γ : Gm} {M : List Nat}
theorem excG_of {U : Addr → Prop} {x : D} (r : StR c H0 Z0 L gh H Z os σ env) (hU : ∀ a, U a → Z a ∨ ∃ j, a ∈ os j)
    (h : ∀ σ' H' Z' os' cls dd, StR c H0 Z0 L gh H' Z' os' σ' env → XRep c H' (fun a => Z' a ∨ ∃ j, a ∈ os' j) x cls dd → W cls dd σ' H') : ExcG c W σ H U x := fun cls dd H' e rx => by
  refine h σ H' _ os cls dd (r.ext (o := []) e fun _ h => by cases h) (rx.mono fun a q => ?_)
  rcases q with q | q
  · exact (hU a q).elim (fun q => .inl (.inl q)) .inr
  · exact .inl (.inr ⟨q.1, q.2, by simp⟩)
theorem Zb_all {B : List Nat} : ∀ a, Zb Z os B a → Z a ∨ ∃ j, a ∈ os j := fun a q => q.elim .inl fun ⟨j, _, q⟩ => .inr ⟨j, q⟩
/-- an expression of a statement -/
theorem StR.ev {x : Ex} {P : Ent → Prop} {Q : VK} {S : Nat → Prop} (r : StR c H0 Z0 L gh H Z os σ env) (h : Fin (evE Γ x env) P fun y => ∀ σ' H' Z' os' cls dd, StR c H0 Z0 L gh H' Z' os' σ' env → XRep c H' (fun a => Z' a ∨ ∃ j, a ∈ os' j) y cls dd → W cls dd σ' H')
    (q : ∀ y v H1 o, P y → ROk c H (Zb Z os (brw env (fv x))) y.1 y.2 v H1 o → Q v H1) : bE c W S (evE Γ x) σ H Q := by
  refine ⟨mask (fv x) env, _, r.envB (fv x), ?_⟩
  rw [← evE_ag mask_ag]
  exact h.mono (fun y _ hp v H1 o ro => q y v H1 o hp ro) fun y hy => excG_of r Zb_all hy
/-- .. whose result ends the def -/
theorem ROk.out {k : Nat} {d : D} {v : V} {o : List Addr} {B : List Nat} (r : StR c H0 Z0 L gh H Z os σ env) (ro : ROk c H (Zb Z os B) k d v H1 o) : ROk c H0 Z0 k d v H1 o := by
  refine ⟨r.ext0.trans ro.ext, ro.rep.mono (Ext.refl _) fun a q => ?_, fun a q => r.ext0.none (ro.new a q), ro.nd⟩
  rcases q with (q | ⟨j, _, q⟩) | ⟨q1, q2, q3⟩
  · rcases r.znew a q with z | z
    · exact .inl z
    · exact .inr ⟨z, ro.ext.ne (r.there a q), fun w => r.there a q (ro.new a w)⟩
  · exact .inr ⟨r.onew j a q, ro.ext.ne (r.oth j a q), fun w => r.oth j a q (ro.new a w)⟩
  · exact .inr ⟨r.ext0.none q1, q2, q3⟩
end
section
variable {X : Cx} {W : WX} {L : List Nat} {Γ : Gm} {M : List Nat} {st : Stmt} {rest : List Stmt} {S : Nat → Prop}
theorem bs_bad : PS X st (bS X.cw W L (exS Γ M L .bad)) := ⟨fun _ _ _ _ _ _ h => by obtain ⟨H0, Z0, gh, Z, os, env, r, h⟩ := h; exact h.elim⟩
theorem bs_nop (h : PS X st tNext) : PS X st (bS X.cw W L (exS Γ M L .nop)) := h.imp fun D σ H h => by
  obtain ⟨H0, Z0, gh, Z, os, env, r, h⟩ := h
  exact h σ H Z os r
theorem bs_set {t : Tg} {x : Ex} (h : PS X st (tAsg (bE X.cw W S (evE Γ x)) (gT X.K t))) : PS X st (bS X.cw W L (exS Γ M L (.set t x))) := h.imp fun D σ H h => by
  obtain ⟨H0, Z0, gh, Z, os, env, r, h⟩ := h
  refine r.ev (FinO.res (show FinO (resO env (evE Γ x env) fun x' => match bindTg M (brw env (fv x)) t x' env with | some env' => .nx env' | none => .stuck) _ _ _ from h)) fun y v H1 o hy ro => ?_
  cases hb : bindTg M (brw env (fv x)) t y env with
  | none => rw [hb] at hy; exact hy.elim
  | some env' =>
    rw [hb] at hy
    have r1 := r.ext (o := o) ro.ext fun a q => ro.new a q
    refine gT_st (c := X.cw) rfl r1 (B := brw env (fv x)) (k := y.1) (d := y.2) (ro.rep.mono (Ext.refl _) fun a q => ?_) ro.nd (fun a q z => ?_) (fun j a q z => ?_) (fun a q => r.ext0.none (ro.new a q)) hb fun σ' Z' os' r' _ => hy σ' H1 Z' os' r'
    · rcases q with (q | q) | q
      · exact .inl (.inl q)
      · exact .inr q
      · exact .inl (.inr q)
    · rcases z with z | z
      · exact r.there a z (ro.new a q)
      · exact z.2.2 q
    · exact r.oth j a z (ro.new a q)
theorem bs_drop {x : Ex} (h : PS X st (tDrop (bE X.cw W S (evE Γ x)))) : PS X st (bS X.cw W L (exS Γ M L (.drop x))) := h.imp fun D σ H h => by
  obtain ⟨H0, Z0, gh, Z, os, env, r, h⟩ := h
  exact r.ev (FinO.res (show FinO (resO env (evE Γ x env) fun x' => .nx env) _ _ _ from h)) fun y v H1 o hy ro => hy σ H1 _ os (r.ext (o := []) ro.ext fun _ h => by cases h)
theorem bs_ret {x : Ex} (h : PS X st (tRet (bE X.cw W S (evE Γ x)))) : PS X st (bS X.cw W L (exS Γ M L (.ret x))) := h.imp fun D σ H h => by
  obtain ⟨H0, Z0, gh, Z, os, env, r, h⟩ := h
  exact r.ev (FinO.res (show FinO (resO env (evE Γ x env) .rt) _ _ _ from h)) fun y v H1 o hy ro => hy v H1 o (ro.out r)
theorem bs_retN (h : PS X st tRetN) : PS X st (bS X.cw W L (exS Γ M L .retN)) := h.imp fun D σ H h => by
  obtain ⟨H0, Z0, gh, Z, os, env, r, h⟩ := h
  exact h .non H [] (ROk.out (B := []) r (ROk.old .non))
theorem bs_retV {i : Nat} (h : PS X st (tRet (tVar i))) : PS X st (bS X.cw W L (exS Γ M L (.retV i))) := h.imp fun D σ H h => by
  obtain ⟨H0, Z0, gh, Z, os, env, r, h⟩ := h
  have h : FinO (match env[i]? with | some (some (k, d, _)) => Out.rt (if ful k d then k else 0, d) | _ => .stuck) _ _ _ := h
  split at h
  · rename_i k d B he
    obtain ⟨v, hv, rv⟩ := r.at_ i k d B he
    refine ⟨v, hv, ?_⟩
    by_cases hf : ful k d = true
    · rw [if_pos hf] at h
      exact h v H (os i) ⟨r.ext0, rv.ful hf hf, r.onew i, r.nd i⟩
    · rw [if_neg hf] at h
      refine h v H [] (ROk.out r (B := i :: B) (ROk.old (rv.demote (fun a q => ?_) fun a q => .inr ⟨i, List.mem_cons_self, q⟩)))
      exact q.elim .inl fun ⟨j, hj, q⟩ => .inr ⟨j, List.mem_cons_of_mem _ hj, q⟩
  · exact h.elim
theorem bs_if {q : Expr} {a b : List Stmt} {x : Ex} {A B : List Sm} {pos : Pos} (hc : PT X q (bT X.cw W S fun env => evE Γ x env >>= asB)) (ha : PSs X a (bS X.cw W L (exL Γ M L A))) (hb : PSs X b (bS X.cw W L (exL Γ M L B))) :
    PS X (.If q a b pos) (bS X.cw W L (exS Γ M L (.ife x A B))) := (ps_if hc ha hb).imp fun D σ H h => by
  obtain ⟨H0, Z0, gh, Z, os, env, r, h⟩ := h
  have h := FinO.resB (show FinO (resB env (evE Γ x env >>= asB) fun k => if k = true then exL Γ M L A env else exL Γ M L B env) _ _ _ from h)
  refine ⟨env, _, r.envA, h.mono (fun k _ hk H' e => ?_) fun y hy => excG_of r (fun a q => q) hy⟩
  have r1 := r.ext (o := []) e fun _ h => by cases h
  cases k with
  | true => exact ⟨H0, Z0, gh, _, os, env, r1, hk⟩
  | false => exact ⟨H0, Z0, gh, _, os, env, r1, hk⟩
theorem bss_nil : PSs X [] (bS X.cw W L (exL Γ M L [])) := pss_nil.imp fun D σ H h => by
  obtain ⟨H0, Z0, gh, Z, os, env, r, h⟩ := h
  exact h σ H Z os r
theorem bss_cons {s : Sm} {ss : List Sm} (h1 : PS X st (bS X.cw W L (exS Γ M L s))) (h2 : PSs X rest (bS X.cw W L (exL Γ M L ss))) : PSs X (st :: rest) (bS X.cw W L (exL Γ M L (s :: ss))) := (pss_cons h1 h2).imp fun D σ H h => by
  obtain ⟨H0, Z0, gh, Z, os, env, r, h⟩ := h
  exact ⟨H0, Z0, gh, Z, os, env, r, (FinO.then (show FinO (andThen (exS Γ M L s env) (exL Γ M L ss)) _ _ _ from h)).mono (fun e q σ' H' Z' os' r' => ⟨H0, Z0, gh, Z', os', e, r', q⟩) (fun _ q => q) fun _ _ q => q⟩
end
end MP

/-! MPw: loops; changes in place, as statements. -/
namespace MP
open PySem PySem.Spec PyProof.Rows L2 RZ
section
variable {c : Cw} {W : WX} {H0 H H1 H2 : Hp} {Z0 Z Z2 : Addr → Prop} {L L' : List Nat} {gh : List ((Addr → Prop) × Hp × List Nat)} {os : Nat → List Addr} {σ : L2.St} {env : Env} {Γ : Gm} {M : List Nat}
theorem StR.ghost (r : StR c H0 Z0 L gh H Z os σ env) {U : Addr → Prop} {B : List Nat} (hU : ∀ a, U a → Zb Z os B a) : StR c H0 Z0 (B ++ L) ((U, H, B) :: gh) H Z os σ env := by
  refine ⟨r.there, r.oth, r.len, r.nd, r.dj, r.nz, r.at_, r.ext0, r.onew, r.znew, r.z0, fun g hg j hj => ?_, fun g hg => ?_⟩
  · rcases List.mem_cons.mp hg with rfl | hg
    · exact List.mem_append_left _ hj
    · exact List.mem_append_right _ (r.ghL g hg j hj)
  · rcases List.mem_cons.mp hg with rfl | hg
    · exact ⟨Kp.refl, hU⟩
    · exact r.gh g hg
theorem StR.unghost {g : (Addr → Prop) × Hp × List Nat} (r : StR c H0 Z0 L' (g :: gh) H Z os σ env) (hL : ∀ g ∈ gh, ∀ j ∈ g.2.2, j ∈ L) : StR c H0 Z0 L gh H Z os σ env :=
  ⟨r.there, r.oth, r.len, r.nd, r.dj, r.nz, r.at_, r.ext0, r.onew, r.znew, r.z0, hL, fun g hg => r.gh g (List.mem_cons_of_mem _ hg)⟩
end
section
variable {X : Cx} {W : WX} {L : List Nat} {Γ : Gm} {M : List Nat} {S : Nat → Prop}
theorem bs_for {tg iter : Expr} {body : List Stmt} {t : Tg} {ik : IK} {its : List Ex} {bd : List Sm} {pos : Pos} (hp : PassesOwn (model X.prog X.w) X.A X.env X.xe) (hc : X.calm = true)
    (hi : PI X tg iter (bI X.cw W (fun _ => True) fun env => evL Γ its env >>= fun xs => Res.of (iterD ik (xs.map (·.2))))) (hg : PG X tg (gT X.K t)) (hb : ∀ L', PSs X body (bS X.cw W L' (exL Γ M L' bd)))
    (hs : ∀ x, foldedSetIterable iter X.env x = pure x) : PS X (.For tg iter body [] pos) (bS X.cw W L (exS Γ M L (.for t ik its bd))) := by
  have hbody : PSs X body fun D σ H => ∃ L', bS X.cw W L' (exL Γ M L' bd) D σ H := ⟨fun pins s σ H D I ⟨L', q⟩ => (hb L').run pins s σ H D I q⟩
  refine (ps_for hp hc hi hg hbody hs).imp fun D σ H h => ?_
  obtain ⟨H0, Z0, gh, Z, os, env, r, h⟩ := h
  generalize hB : brw env (fv.fvs its) = B at *
  have h' : exS Γ M L (.for t ik its bd) env = resD env (evL Γ its env >>= fun xs => Res.of (iterD ik (xs.map (·.2)))) fun ds => forO (fun d e => match bindTg M B t (0, d) e with
      | some e' => exL Γ M (B ++ L) bd e'
      | none => .stuck) ds env := by rw [← hB]; rfl
  rw [h'] at h
  refine ⟨mask (fv.fvs its) env, _, r.envB (fv.fvs its), ?_⟩
  show Fin (evL Γ its (mask (fv.fvs its) env) >>= fun xs => Res.of (iterD ik (xs.map (·.2)))) _ _
  rw [← evL_ag mask_ag, hB]
  refine (FinO.resD h).mono (fun ds _ hd J H1 e1 itk => ?_) fun y hy => excG_of r Zb_all hy
  obtain ⟨Y, w, yk⟩ := itk
  -- the state behind the iterable
  have r1 := r.ext (o := []) e1 fun _ h => by cases h
  have r1 := r1.ghost (U := Zn (Zb Z os B) H H1) (B := B) fun a q => by
    rcases q with (q | q) | q
    · exact .inl (.inl q)
    · exact .inr q
    · exact .inl (.inr ⟨q.1, q.2, by simp⟩)
  let f : MP.D → Env → Out := fun d e => match bindTg M B t (0, d) e with
      | some e' => exL Γ M (B ++ L) bd e'
      | none => .stuck
  let Fx : MP.D → Env → Prop := fun x env' => ∀ σ' H' Z' os' cls dd, StR X.cw H0 Z0 L gh H' Z' os' σ' env' → XRep X.cw H' (fun a => Z' a ∨ ∃ j, a ∈ os' j) x cls dd → W cls dd σ' H'
  let Fn : Env → Prop := fun env' => ∀ σ' H' Z' os', StR X.cw H0 Z0 L gh H' Z' os' σ' env' → D.nx σ' H'
  let Fr : Ent → Prop := fun x => ∀ v H' o, ROk X.cw H0 Z0 x.1 x.2 v H' o → D.rt v H'
  let Pv : Nat → L2.St → Hp → Prop := fun i σ' H' => ∃ Z' os' env', StR X.cw H0 Z0 (B ++ L) ((Zn (Zb Z os B) H H1, H1, B) :: gh) H' Z' os' σ' env' ∧ FinO (forO f (ds.drop i) env') Fn Fr Fx
  refine for_it (g := gT X.K t) (tb := fun D σ H => ∃ L', bS X.cw W L' (exL Γ M L' bd) D σ H) (D := D) w Pv ⟨_, os, env, r1, hd⟩ (fun i σ' H' _ ⟨Z', os', env', r', _⟩ => (r'.gh _ List.mem_cons_self).1) ?_ ?_
  · intro i x σ' H' H2 hi ⟨Z', os', env', r', hf⟩ hY
    obtain ⟨d, hd⟩ : ∃ d, ds[i]? = some d := ⟨ds[i], by simp [hi]⟩
    obtain ⟨kp, hz⟩ := r'.gh _ List.mem_cons_self
    obtain ⟨e2, _, rv⟩ := yk i d hd H' x H2 kp hY
    have hdr : ds.drop i = d :: ds.drop (i + 1) := by
      obtain ⟨hi', hd'⟩ := List.getElem?_eq_some_iff.mp hd
      rw [List.drop_eq_getElem_cons hi', hd']
    rw [hdr] at hf
    have hf := FinO.then (show FinO (andThen (f d env') (forO f (ds.drop (i + 1)))) _ _ _ from hf)
    have r2 := r'.ext (o := []) e2 fun _ h => by cases h
    cases hb1 : bindTg M B t (0, d) env' with
    | none =>
      have : f d env' = .stuck := by show (match bindTg M B t (0, d) env' with | some e' => exL Γ M (B ++ L) bd e' | none => .stuck) = _; rw [hb1]
      rw [this] at hf
      exact hf.elim
    | some env2 =>
      have : f d env' = exL Γ M (B ++ L) bd env2 := by show (match bindTg M B t (0, d) env' with | some e' => exL Γ M (B ++ L) bd e' | none => .stuck) = _; rw [hb1]
      rw [this] at hf
      refine gT_st (c := X.cw) rfl r2 (B := B) (k := 0) (d := d) (rv.mono (Ext.refl _) fun a q => ?_) List.nodup_nil (fun _ h => by cases h) (fun _ _ h => by cases h) (fun _ h => by cases h) hb1 fun σ3 Z3 os3 r3 _ => ?_
      · rcases q with q | q
        · rcases hz a q with q | q
          · exact .inl (.inl q)
          · exact .inr q
        · exact .inl (.inr ⟨q.1, q.2, by simp⟩)
      · refine ⟨B ++ L, H0, Z0, _, Z3, os3, env2, r3, hf.mono (fun e q σ' H' Z' os' r'' => ⟨Z', os', e, r'', q⟩) (fun _ q => q) fun x e q σ' H' Z' os' cls dd r'' rx => q σ' H' Z' os' cls dd (r''.unghost r.ghL) rx⟩
  · intro σ' H' ⟨Z', os', env', r', hf⟩
    rw [List.drop_length] at hf
    exact hf σ' H' Z' os' (r'.unghost r.ghL)
end
end MP

/-! MPx: tuples given back; append, clear, items put. -/
namespace MP
open PySem PySem.Spec PyProof.Rows L2 RZ
/-- names stand for just their slots' values -/
inductive IdV (σ : L2.St) : List Ex → List V → Prop
  | nil : IdV σ [] []
  | nm {i v es vs} : σ[i]? = some (some v) → IdV σ es vs → IdV σ (.nm i :: es) (v :: vs)
  | els {x v es vs} : (∀ i, x ≠ .nm i) → IdV σ es vs → IdV σ (x :: es) (v :: vs)
def bLi (c : Cw) (W : WX) (S : Nat → Prop) (Γ : Gm) (es : List Ex) : TA := fun σ H Q => ∃ env Z, EnvR c H Z S σ env ∧
  Fin (evL Γ es env) (fun xs => ∀ vs H' os, LOk c H Z xs vs H' os → IdV σ es vs → Q vs H') (ExcG c W σ H Z)
section
variable {X : Cx} {W : WX} {S : Nat → Prop} {Γ : Gm} {M L : List Nat} {st : Stmt}
def PEi (X : Cx) (W : WX) (S : Nat → Prop) (Γ : Gm) (e : Expr) (x : Ex) : Prop := (∃ i, x = .nm i ∧ PE X e (tVar i)) ∨ ((∀ i, x ≠ .nm i) ∧ PE X e (bE X.cw W S (evE Γ x)))
theorem bai_nil : PA X [] (bLi X.cw W S Γ []) := pa_nil.imp fun σ H Q h => by
  obtain ⟨env, Z, er, h⟩ := h
  exact h [] H [] LOk.nil .nil
theorem bai_cons (hS : ∀ i, S i) {a : Expr} {es : List Expr} {x : Ex} {xs : List Ex} (ha : PEi X W S Γ a x) (hs : PA X es (bLi X.cw W S Γ xs)) (hst : starEach (a :: es) X.env = (false, eval a X.env) :: starEach es X.env) : PA X (a :: es) (bLi X.cw W S Γ (x :: xs)) := by
  rcases ha with ⟨i, rfl, ha⟩ | ⟨hn, ha⟩
  · refine (pa_cons ha hs hst).imp fun σ H Q h => ?_
    obtain ⟨env, Z, er, h⟩ := h
    have h : Fin (evE Γ (.nm i) env >>= fun y => evL Γ xs env >>= fun ys => .ok (y :: ys)) _ _ := h
    cases he : env[i]? with
    | none =>
      have : evE Γ (.nm i) env = .stuck := by show (match env[i]? with | some (some x) => Res.ok (0, x.2.1) | _ => .stuck) = _; rw [he]
      rw [this] at h
      exact h.elim
    | some o =>
      cases o with
      | none =>
        have : evE Γ (.nm i) env = .stuck := by show (match env[i]? with | some (some x) => Res.ok (0, x.2.1) | _ => .stuck) = _; rw [he]
        rw [this] at h
        exact h.elim
      | some s =>
        have : evE Γ (.nm i) env = .ok (0, s.2.1) := by show (match env[i]? with | some (some x) => Res.ok (0, x.2.1) | _ => .stuck) = _; rw [he]
        rw [this, res_ok_bind] at h
        obtain ⟨v, hv, rv⟩ := er.at_ i (hS i) s he
        refine ⟨v, hv, env, Z, er, h.bind.mono (fun ys ey hy vs H2 os2 rs id => ?_) fun _ q => q⟩
        exact hy (v :: vs) H2 ([] ++ os2) (LOk.cons (ROk.old (k := 0) rv) rs) (.nm hv id)
  · refine (pa_cons ha hs hst).imp fun σ H Q h => ?_
    obtain ⟨env, Z, er, h⟩ := h
    refine step er (show Fin (evE Γ x env >>= fun y => evL Γ xs env >>= fun ys => .ok (y :: ys)) _ _ from h) fun y v H1 os er1 rx hf => ?_
    refine ⟨env, Z, er1, hf.bind.mono (fun ys ey hy vs H2 os2 rs id => ?_) fun _ q => q⟩
    exact hy (v :: vs) H2 _ (LOk.cons rx rs) (.els hn id)
section
variable {c : Cw} {H0 H H1 : Hp} {Z0 Z Zq Z' : Addr → Prop} {gh : List ((Addr → Prop) × Hp × List Nat)} {os : Nat → List Addr} {σ : L2.St} {env : Env}
theorem mv1_n {i : Nat} {y : Ent} (h : env[i]? = none) : mv1 env i y = y := by unfold mv1; rw [h]
theorem mv1_o {i : Nat} {y : Ent} (h : env[i]? = some none) : mv1 env i y = y := by unfold mv1; rw [h]
theorem mv1_s {i k : Nat} {d : D} {B : List Nat} {y : Ent} (h : env[i]? = some (some (k, d, B))) : mv1 env i y = (k, d) := by unfold mv1; rw [h]
theorem fu_8 {x : Ent} {v : V} {o : List Addr} (h : fu x = true) (r : Rep c H Z x.1 x.2 v o) : Rep c H Z' 8 x.2 v o := by
  unfold fu at h
  rw [Bool.and_eq_true] at h
  exact r.ful h.1 h.2
theorem mv_full (r : StR c H0 Z0 L gh H Z os σ env) (e : Ext H H1) : ∀ {es : List Ex} {xs : List Ent} {vs : List V} {o1 : List Addr}, RepE c H1 Zq xs vs o1 → IdV σ es vs → (mvs env es xs).all fu = true → (nmsOf es).Nodup → o1.Nodup → (∀ a ∈ o1, H a = none) →
    ∃ o, Reps c H1 Z' 8 ((mvs env es xs).map (·.2)) vs o ∧ o.Nodup ∧ ∀ a ∈ o, a ∈ o1 ∨ ∃ i ∈ nmsOf es, a ∈ os i
  | [], xs, vs, o1, re, id, hf, hn, hnd, hnew => by
    cases id
    cases re
    exact ⟨[], .nil, List.nodup_nil, fun a h => by cases h⟩
  | x :: es, xs, vs, o1, re, id, hf, hn, hnd, hnew => by
    cases re with
    | nil => cases id
    | @cons y ys v vs p1 p2 ry rys =>
      rw [List.nodup_append] at hnd
      -- a part that stays as it is
      have stay : ∀ {l : List Nat}, (∀ j, j ∈ nmsOf es → j ∈ l) → fu y = true → (mvs env es ys).all fu = true → IdV σ es vs → (nmsOf es).Nodup → ∃ o, Reps c H1 Z' 8 (y.2 :: (mvs env es ys).map (·.2)) (v :: vs) o ∧ o.Nodup ∧ ∀ a ∈ o, a ∈ p1 ++ p2 ∨ ∃ i ∈ l, a ∈ os i := fun {l} hl hfy hfs ids hns => by
        obtain ⟨o, ro, ndo, mo⟩ := mv_full r e rys ids hfs hns hnd.2.1 fun a h => hnew a (List.mem_append_right _ h)
        refine ⟨p1 ++ o, .cons (fu_8 hfy ry) ro, ?_, fun a h => ?_⟩
        · rw [List.nodup_append]
          refine ⟨hnd.1, ndo, fun a h1 b h2 z => ?_⟩
          subst z
          rcases mo a h2 with h2 | ⟨i, _, h2⟩
          · exact hnd.2.2 a h1 a h2 rfl
          · exact r.oth i a h2 (hnew a (List.mem_append_left _ h1))
        · rcases List.mem_append.mp h with h | h
          · exact .inl (List.mem_append_left _ h)
          · exact (mo a h).elim (fun h => .inl (List.mem_append_right _ h)) fun ⟨i, hi, h⟩ => .inr ⟨i, hl i hi, h⟩
      cases id with
      | @nm i _ _ _ hv ids =>
        have hns : i ∉ nmsOf es ∧ (nmsOf es).Nodup := List.nodup_cons.mp hn
        cases he : env[i]? with
        | none =>
          have em : mvs env (.nm i :: es) (y :: ys) = y :: mvs env es ys := congrArg (· :: mvs env es ys) (mv1_n he)
          rw [em] at hf ⊢
          simp only [List.all_cons, Bool.and_eq_true] at hf
          exact stay (l := nmsOf (.nm i :: es)) (fun j hj => List.mem_cons_of_mem _ hj) hf.1 hf.2 ids hns.2
        | some s =>
          cases s with
          | none =>
            have em : mvs env (.nm i :: es) (y :: ys) = y :: mvs env es ys := congrArg (· :: mvs env es ys) (mv1_o he)
            rw [em] at hf ⊢
            simp only [List.all_cons, Bool.and_eq_true] at hf
            exact stay (l := nmsOf (.nm i :: es)) (fun j hj => List.mem_cons_of_mem _ hj) hf.1 hf.2 ids hns.2
          | some s =>
            obtain ⟨k, d, B⟩ := s
            have em : mvs env (.nm i :: es) (y :: ys) = (k, d) :: mvs env es ys := congrArg (· :: mvs env es ys) (mv1_s he)
            rw [em] at hf ⊢
            simp only [List.all_cons, Bool.and_eq_true] at hf
            obtain ⟨o, ro, ndo, mo⟩ := mv_full r e rys ids hf.2 hns.2 hnd.2.1 fun a h => hnew a (List.mem_append_right _ h)
            obtain ⟨w, hw, rw'⟩ := r.at_ i k d B he
            rw [hv] at hw
            cases hw
            refine ⟨os i ++ o, .cons (fu_8 (x := (k, d)) hf.1 (rw'.mono e fun _ q => q)) ro, ?_, fun a h => ?_⟩
            · rw [List.nodup_append]
              refine ⟨r.nd i, ndo, fun a h1 b h2 z => ?_⟩
              subst z
              rcases mo a h2 with h2 | ⟨j, hj, h2⟩
              · exact r.oth i a h1 (hnew a (List.mem_append_right _ h2))
              · exact hns.1 (r.dj i j a h1 h2 ▸ hj)
            · rcases List.mem_append.mp h with h | h
              · exact .inr ⟨i, List.mem_cons_self, h⟩
              · exact (mo a h).elim (fun h => .inl (List.mem_append_right _ h)) fun ⟨j, hj, h⟩ => .inr ⟨j, List.mem_cons_of_mem _ hj, h⟩
      | @els _ _ _ _ hx ids =>
        have em : mvs env (x :: es) (y :: ys) = y :: mvs env es ys := by
          cases x <;> first | rfl | exact absurd rfl (hx _)
        have en : nmsOf (x :: es) = nmsOf es := by
          cases x <;> first | rfl | exact absurd rfl (hx _)
        rw [em] at hf ⊢
        rw [en] at hn ⊢
        simp only [List.all_cons, Bool.and_eq_true] at hf
        exact stay (fun j hj => hj) hf.1 hf.2 ids hn
end
theorem bs_retT {es : List Ex} {ts : List Expr} {kk : Nat} {p pos : Pos} (h : PA X ts (bLi X.cw W S Γ es)) : PS X (.Return (some (.Tuple ts kk p)) pos) (bS X.cw W L (exS Γ M L (.retT es))) := (ps_ret (pe_tup h)).imp fun D σ H h => by
  obtain ⟨H0, Z0, gh, Z, os, env, r, h⟩ := h
  have h := FinO.resL (show FinO (resL env (evL Γ es env) fun xs => if (mvs env es xs).all fu && decide (nmsOf es).Nodup && szOk xs.length then Out.rt (8, .tup ((mvs env es xs).map (·.2))) else match tupO xs with | some x => .rt x | none => .stuck) _ _ _ from h)
  refine ⟨mask (fv.fvs es) env, _, r.envB (fv.fvs es), ?_⟩
  rw [← evL_ag mask_ag]
  refine h.mono (fun xs _ hx vs H1 o ro id => ?_) fun y hy => excG_of r Zb_all hy
  by_cases hm : ((mvs env es xs).all fu && decide (nmsOf es).Nodup && szOk xs.length) = true
  · rw [if_pos hm] at hx
    simp only [Bool.and_eq_true, decide_eq_true_eq] at hm
    refine ⟨by rw [← ro.rep.length]; exact szOk_le hm.2, fun p hp => ?_⟩
    have e1 := ro.ext.trans (Ext.upd hp (o := .tup vs))
    obtain ⟨o', ro', ndo, mo⟩ := mv_full (Z' := fun a => Z0 a) r ro.ext ro.rep id hm.1.1 hm.1.2 ro.nd ro.new
    refine hx (.ref p) _ o' ⟨r.ext0.trans e1, .tup (SqT.of upd_same) (ro'.mono (Ext.upd hp) fun _ q => .inl q), fun a q => ?_, ndo⟩
    rcases mo a q with q | ⟨i, _, q⟩
    · exact r.ext0.none (ro.new a q)
    · exact r.onew i a q
  · rw [if_neg hm] at hx
    cases ht : tupO xs with
    | none => rw [ht] at hx; exact hx.elim
    | some x =>
      rw [ht] at hx
      unfold tupO at ht
      obtain ⟨hz, rfl⟩ := itb_of ht
      refine ⟨by rw [← ro.rep.length]; exact szOk_le hz, fun p hp => ?_⟩
      obtain ⟨o', r2⟩ := ROk.tupD ro hp
      exact hx (.ref p) _ o' (r2.out r)
end
end MP

/-! MPy: changes in place, as statements. -/
namespace MP
open PySem PySem.Spec PyProof.Rows L2 RZ
/-- a place's reading: where it is in its root -/
def bP (c : Cw) (W : WX) (L : List Nat) (Γ : Gm) (p : Ex) : TE := fun σ H Q => ∃ H0 Z0 gh Z os env, StR c H0 Z0 L gh H Z os σ env ∧
  Fin (evP Γ p env) (fun pl => ∀ v H1 k0 d0 B v0 os1, Ext H H1 → env[pl.i]? = some (some (k0, d0, B)) → σ[pl.i]? = some (some v0) → Foc c H1 (fun a => Zb Z os B a ∨ (H a = none ∧ H1 a ≠ none)) k0 v0 (os pl.i) pl.k pl.d v os1 pl.up → Q v H1)
    (ExcG c W σ H fun a => Z a ∨ ∃ j, a ∈ os j)
section
variable {X : Cx} {W : WX} {Γ : Gm} {M L : List Nat} {st : Stmt}
theorem bp_nm {e : Expr} {i : Nat} (h : PE X e (tVar i)) : PE X e (bP X.cw W L Γ (.nm i)) := h.imp fun σ H Q h => by
  obtain ⟨H0, Z0, gh, Z, os, env, r, h⟩ := h
  have h : Fin (match env[i]? with | some (some (k, d, _)) => Res.ok (⟨i, k, d, id⟩ : Pl) | _ => .stuck) _ _ := h
  split at h
  · rename_i k d B he
    obtain ⟨v, hv, rv⟩ := r.at_ i k d B he
    exact ⟨v, hv, h v H k d B v (os i) (Ext.refl H) he hv (Foc.start (rv.mono (Ext.refl _) fun a q => .inl q))⟩
  · exact h.elim
theorem atI_of {ds : List D} {vs : List V} {n : Int} {j : Nat} {v : V} (hl : ds.length = vs.length) (h : ixN ds.length n = some j) (hv : vs[j]? = some v) : atI vs n = some v := by
  unfold atI
  rw [← hl, h]
  exact hv
theorem bp_idx {a b : Expr} {p x : Ex} {pos : Pos} (hu : X.A.units + 65 < cLine) (ha : PE X a (bP X.cw W L Γ p)) (hb : PE X b (bE X.cw W (fun _ => True) (evE Γ x))) (hs : PlainIx b) : PE X (.Subscript a b pos) (bP X.cw W L Γ (.idx p x)) := (pe_ix (ix_all hu) ha hb hs).imp fun σ H Q h => by
  obtain ⟨H0, Z0, gh, Z, os, env, r, h⟩ := h
  have h : Fin (evP Γ p env >>= fun pl => evE Γ x env >>= fun y => Res.of (stepP pl y.2)) _ _ := h
  refine ⟨H0, Z0, gh, Z, os, env, r, h.bind.mono (fun pl _ hpl v H1 k0 d0 B v0 os1 e1 hi hv foc => ?_) fun _ q => q⟩
  have r1 := r.ext (o := []) e1 fun _ h => by cases h
  refine ⟨env, _, r1.envA, hpl.bind.mono (fun y _ hy w H2 o ro => ?_) fun z q cls dd H' e' rx => q cls dd H' (e1.trans e') (rx.mono fun a q => ?_)⟩
  · obtain ⟨pl2, e2, hq⟩ := hy.of
    have foc2 := foc.ext (Z' := fun a => Zb Z os B a ∨ (H a = none ∧ H2 a ≠ none)) ro.ext (fun a q => q.elim .inl fun q => .inr ⟨q.1, ro.ext.ne q.2⟩) fun a q => r1.oth pl.i a q
    have ext2 := e1.trans ro.ext
    obtain ⟨i, k, d, up⟩ := pl
    unfold stepP at e2
    dsimp only at e2 foc2 hi hv
    generalize y.2 = yd at e2 ro
    cases d with
    | lst ds =>
      cases yd with
      | int n =>
        cases k with
        | zero => cases e2
        | succ k1 =>
          obtain ⟨j, hj, e2⟩ := Option.bind_eq_some_iff.mp (show ((ixN ds.length n).bind fun j => (ds[j]?).map fun e => (⟨i, k1, e, fun e' => up (.lst (ds.set j e'))⟩ : Pl)) = some pl2 from e2)
          obtain ⟨e, he, rfl⟩ := Option.map_eq_some_iff.mp e2
          obtain ⟨a, vs, v2, os2, rfl, g, hl, hv2, foc3⟩ := foc2.list he
          have hw := ro.rep.int_
          subst hw
          exact .inr (.inl ⟨a, vs, n, v2, rfl, rfl, SqL.of g, atI_of hl hj hv2, hq v2 H2 k0 d0 B v0 os2 ext2 hi hv foc3⟩)
      | _ => cases e2
    | tup ds =>
      cases yd with
      | int n =>
        obtain ⟨j, hj, e2⟩ := Option.bind_eq_some_iff.mp (show ((ixN ds.length n).bind fun j => (ds[j]?).map fun e => (⟨i, k, e, fun e' => up (.tup (ds.set j e'))⟩ : Pl)) = some pl2 from e2)
        obtain ⟨e, he, rfl⟩ := Option.map_eq_some_iff.mp e2
        obtain ⟨a, vs, v2, os2, rfl, g, hl, hv2, foc3⟩ := foc2.tup he
        have hw := ro.rep.int_
        subst hw
        exact .inr (.inr (.inl ⟨a, vs, n, v2, rfl, rfl, g, atI_of hl hj hv2, hq v2 H2 k0 d0 B v0 os2 ext2 hi hv foc3⟩))
      | _ => cases e2
    | _ => cases yd <;> cases e2
  · rcases q with ((q | q) | q) | q
    · exact .inl (.inl q)
    · exact .inr ⟨q.1, e'.ne q.2.1⟩
    · exact .inl (.inr q)
    · exact .inr ⟨e1.none q.1, q.2⟩
section
variable {c : Cw} {H0 H H1 H2 : Hp} {Z0 Z Z2 Zf : Addr → Prop} {gh : List ((Addr → Prop) × Hp × List Nat)} {os : Nat → List Addr} {σ : L2.St} {env env' : Env}
theorem foc_mut {i k k1 : Nat} {d d1 d1' : D} {B ex : List Nat} {v v1 : V} {os1 os1' : List Addr} {up : D → D} {a : Addr} {u : HO} (r2 : StR c H0 Z0 L gh H2 Z2 os σ env) (hi : env[i]? = some (some (k, d, B))) (hv : σ[i]? = some (some v))
    (f : Foc c H2 Zf k v (os i) k1 d1 v1 os1 up) (hzf : ∀ b, Zf b → Z2 b ∨ ∃ j ∈ B, b ∈ os j) (ha : a ∈ os1) (hu : ∀ w, H2 a = some w → MutO w) (ho : mutOut L env i (up d1') ex = .nx env')
    (rn : Rep c (upd H2 a u) (fun b => Z2 b ∨ ∃ j ∈ B ++ ex, b ∈ os j) k1 d1' v1 os1') (hnd : os1'.Nodup) (hsub : ∀ b ∈ os1', b ∈ os1 ∨ (¬ Z2 b ∧ (∀ j, b ∉ os j) ∧ H0 b = none)) :
    ∃ os', StR c H0 Z0 L gh (upd H2 a u) Z2 os' σ env' := by
  obtain ⟨_, pre, post, hos, hup⟩ := f
  have nd := r2.nd i
  rw [hos, List.nodup_append] at nd
  obtain ⟨nd1, nd2, nd3⟩ := nd
  rw [List.nodup_append] at nd2
  obtain ⟨nd4, nd5, nd6⟩ := nd2
  have hai : a ∈ os i := by rw [hos]; exact List.mem_append_right _ (List.mem_append_left _ ha)
  have hB : i ∉ B ++ ex := by
    unfold mutOut at ho
    rw [hi] at ho
    dsimp only at ho
    split at ho
    · cases ho
    · rename_i hc
      simp only [Bool.or_eq_true, List.contains_iff_mem] at hc
      exact fun z => hc (.inr z)
  have nzf : ¬ Zf a := fun z => by
    rcases hzf a z with z | ⟨j, hj, z⟩
    · exact r2.nz i a hai z
    · exact hB (List.mem_append_left _ (r2.dj i j a hai z ▸ hj))
  have rr := hup (upd H2 a u) (fun b => Z2 b ∨ ∃ j ∈ B ++ ex, b ∈ os j) d1' os1' (fun b q => (hzf b q).elim .inl fun ⟨j, hj, q⟩ => .inr ⟨j, List.mem_append_left _ hj, q⟩) (Kp.refl.upd nzf hu) (fun b q => by
    refine upd_ne fun z => ?_
    subst z
    rcases List.mem_append.mp q with q | q
    · exact nd3 b q b (List.mem_append_left _ ha) rfl
    · exact nd6 b ha b q rfl) rn
  have hpp : ∀ b, b ∈ pre → b ∈ os i := fun b q => by rw [hos]; exact List.mem_append_left _ q
  have hpo : ∀ b, b ∈ post → b ∈ os i := fun b q => by rw [hos]; exact List.mem_append_right _ (List.mem_append_right _ q)
  have hp1 : ∀ b, b ∈ os1 → b ∈ os i := fun b q => by rw [hos]; exact List.mem_append_right _ (List.mem_append_left _ q)
  refine (r2.mutate hi hv hai hu ho rr ?_ (fun b q z => ?_) (fun j hj b q z => ?_) fun b q => ?_).imp fun _ q => q.1
  · rw [List.nodup_append, List.nodup_append]
    refine ⟨nd1, ⟨hnd, nd5, fun b q1 b' q2 z => ?_⟩, fun b q1 b' q2 z => ?_⟩
    · subst z
      rcases hsub b q1 with q | q
      · exact nd6 b q b q2 rfl
      · exact q.2.1 i (hpo b q2)
    · subst z
      rcases List.mem_append.mp q2 with q2 | q2
      · rcases hsub b q2 with q | q
        · exact nd3 b q1 b (List.mem_append_left _ q) rfl
        · exact q.2.1 i (hpp b q1)
      · exact nd3 b q1 b (List.mem_append_right _ q2) rfl
  · rcases List.mem_append.mp q with q | q
    · exact r2.nz i b (hpp b q) z
    · rcases List.mem_append.mp q with q | q
      · rcases hsub b q with q | q
        · exact r2.nz i b (hp1 b q) z
        · exact q.1 z
      · exact r2.nz i b (hpo b q) z
  · rcases List.mem_append.mp q with q | q
    · exact hj (r2.dj j i b z (hpp b q))
    · rcases List.mem_append.mp q with q | q
      · rcases hsub b q with q | q
        · exact hj (r2.dj j i b z (hp1 b q))
        · exact q.2.1 j z
      · exact hj (r2.dj j i b z (hpo b q))
  · rcases List.mem_append.mp q with q | q
    · exact r2.onew i b (hpp b q)
    · rcases List.mem_append.mp q with q | q
      · rcases hsub b q with q | q
        · exact r2.onew i b (hp1 b q)
        · exact q.2.2
      · exact r2.onew i b (hpo b q)
/-- an item behind a list -/
theorem foc_app {i k k2 : Nat} {d x : D} {ds : List D} {B ex : List Nat} {v v1 w : V} {os1 o : List Addr} {up : D → D} (r2 : StR c H0 Z0 L gh H2 Z2 os σ env) (hi : env[i]? = some (some (k, d, B))) (hv : σ[i]? = some (some v))
    (f : Foc c H2 Zf k v (os i) (k2 + 1) (.lst ds) v1 os1 up) (hzf : ∀ b, Zf b → Z2 b ∨ ∃ j ∈ B, b ∈ os j) (ho : mutOut L env i (up (.lst (ds ++ [x]))) ex = .nx env')
    (rx : Rep c H2 (fun b => Z2 b ∨ ∃ j ∈ B ++ ex, b ∈ os j) k2 x w o) (hnd : o.Nodup) (hsub : ∀ b ∈ o, ¬ Z2 b ∧ (∀ j, b ∉ os j) ∧ H0 b = none) :
    ∃ a vs, v1 = .ref a ∧ H2 a = some (.lst vs) ∧ vs.length = ds.length ∧ ∃ os', StR c H0 Z0 L gh (upd H2 a (.lst (vs ++ [w]))) Z2 os' σ env' := by
  have f0 := f
  obtain ⟨rf, pre, post, hos, _⟩ := f0
  cases rf with
  | @lstO _ _ a vs os' g rs =>
    refine ⟨a, vs, rfl, g, rs.length.symm, ?_⟩
    have nd : (a :: os').Nodup := by
      have := r2.nd i
      rw [hos, List.nodup_append] at this
      exact (List.nodup_append.mp this.2.1).1
    rw [List.nodup_cons] at nd
    have hai : ∀ b, b ∈ a :: os' → b ∈ os i := fun b q => by rw [hos]; exact List.mem_append_right _ (List.mem_append_left _ q)
    have hB : i ∉ B ++ ex := by
      unfold mutOut at ho
      rw [hi] at ho
      dsimp only at ho
      split at ho
      · cases ho
      · rename_i hc
        simp only [Bool.or_eq_true, List.contains_iff_mem] at hc
        exact fun z => hc (.inr z)
    have nz : ¬ (Z2 a ∨ ∃ j ∈ B ++ ex, a ∈ os j) := fun z => by
      rcases z with z | ⟨j, hj, z⟩
      · exact r2.nz i a (hai a List.mem_cons_self) z
      · exact hB (r2.dj i j a (hai a List.mem_cons_self) z ▸ hj)
    have hm : ∀ w, H2 a = some w → MutO w := fun w q => by rw [g] at q; cases q; trivial
    have rs2 := (rs.mono (Ext.refl _) fun b q => (hzf b q).elim .inl fun ⟨j, hj, q⟩ => (.inr ⟨j, List.mem_append_left ex hj, q⟩ : Z2 b ∨ ∃ j ∈ B ++ ex, b ∈ os j))
    refine foc_mut (k1 := k2 + 1) (os1' := a :: (os' ++ (o ++ []))) r2 hi hv f hzf List.mem_cons_self hm ho (.lstO upd_same ((rs2.kp (Kp.refl.upd nz hm) fun b q => upd_ne fun z => nd.1 (z ▸ q)).append (.cons (rx.kp (Kp.refl.upd nz hm) fun b q => upd_ne fun z : b = a => (hsub b q).2.1 i (z ▸ hai a List.mem_cons_self)) .nil))) ?_ fun b q => ?_
    · rw [List.append_nil, List.nodup_cons, List.nodup_append]
      refine ⟨fun z => ?_, nd.2, hnd, fun b q1 b' q2 z => ?_⟩
      · rcases List.mem_append.mp z with z | z
        · exact nd.1 z
        · exact (hsub a z).2.1 i (hai a List.mem_cons_self)
      · subst z
        exact (hsub b q2).2.1 i (hai b (List.mem_cons_of_mem _ q1))
    · rw [List.append_nil] at q
      rcases List.mem_cons.mp q with rfl | q
      · exact .inl List.mem_cons_self
      · rcases List.mem_append.mp q with q | q
        · exact .inl (List.mem_cons_of_mem _ q)
        · exact .inr (hsub b q)
end
end
end MP

/-! MPz: append, clear, an item put into a dict: as statements. -/
namespace MP
open PySem PySem.Spec PyProof.Rows L2 RZ
section
variable {X : Cx} {W : WX} {Γ : Gm} {M L : List Nat} {st : Stmt}
theorem evP_at {env : Env} : ∀ {p : Ex} {pl : Pl}, evP Γ p env = .ok pl → ∃ k d B, env[pl.i]? = some (some (k, d, B))
  | .nm i, pl, h => by
    have h : (match env[i]? with | some (some (k, d, _)) => Res.ok (⟨i, k, d, id⟩ : Pl) | _ => .stuck) = .ok pl := h
    split at h
    · cases h; exact ⟨_, _, _, by assumption⟩
    · cases h
  | .idx p x, pl, h => by
    have h : (evP Γ p env >>= fun pl => evE Γ x env >>= fun y => Res.of (stepP pl y.2)) = .ok pl := h
    cases e : evP Γ p env with
    | ok q =>
      rw [e, res_ok_bind] at h
      cases e2 : evE Γ x env with
      | ok y =>
        rw [e2, res_ok_bind] at h
        cases e3 : stepP q y.2 with
        | none => rw [e3] at h; cases h
        | some r =>
          rw [e3] at h
          cases h
          obtain ⟨i, k, d, up⟩ := q
          have hi : pl.i = i := by
            unfold stepP at e3
            dsimp only at e3
            split at e3
            · split at e3
              · obtain ⟨j, _, e3⟩ := Option.bind_eq_some_iff.mp e3
                obtain ⟨z, _, rfl⟩ := Option.map_eq_some_iff.mp e3
                rfl
              · cases e3
            · obtain ⟨j, _, e3⟩ := Option.bind_eq_some_iff.mp e3
              obtain ⟨z, _, rfl⟩ := Option.map_eq_some_iff.mp e3
              rfl
            · cases e3
          rw [hi]
          exact evP_at e
      | exc _ => rw [e2] at h; cases h
      | stuck => rw [e2] at h; cases h
    | exc _ => rw [e] at h; cases h
    | stuck => rw [e] at h; cases h
  | .nop, _, h => by cases h
  | .bad, _, h => by cases h
  | .gl _, _, h => by cases h
  | .non, _, h => by cases h
  | .bl _, _, h => by cases h
  | .int _, _, h => by cases h
  | .str _, _, h => by cases h
  | .tup _, _, h => by cases h
  | .lst _, _, h => by cases h
  | .dic _ _, _, h => by cases h
  | .bin _ _ _, _, h => by cases h
  | .neg _, _, h => by cases h
  | .not _, _, h => by cases h
  | .and _ _, _, h => by cases h
  | .or _ _, _, h => by cases h
  | .ife _ _ _, _, h => by cases h
  | .cmp _ _ _, _, h => by cases h
  | .chain _ _ _ _ _, _, h => by cases h
  | .slc _ _ _, _, h => by cases h
  | .rev _, _, h => by cases h
  | .call _ _, _, h => by cases h
  | .blt _ _, _, h => by cases h
  | .lrng _, _, h => by cases h
  | .mnd _, _, h => by cases h
  | .tupl _, _, h => by cases h
  | .rpr _, _, h => by cases h
  | .met _ _ _, _, h => by cases h
  | .isi _ _, _, h => by cases h
  | .lc _ _ _ _ _ _, _, h => by cases h
  | .atr _ _, _, h => by cases h
theorem bs_app1 {p x : Ex} (h : PS X st (tDrop (tBM X.K "list" rAppend (bP X.cw W L Γ p) (tCons (bE X.cw W (fun _ => True) (evE Γ x)) tNil)))) : PS X st (bS X.cw W L fun env => app1 Γ L env p x) := h.imp fun D σ H h => by
  obtain ⟨H0, Z0, gh, Z, os, env, r, h⟩ := h
  have h := FinO.resP h
  refine ⟨H0, Z0, gh, Z, os, env, r, h.mono (fun pl epl hpl v H1 k0 d0 B v0 os1 e1 hi hv foc => ?_) fun y hy => excG_of r (fun a q => q) hy⟩
  have r1 := r.ext (o := []) e1 fun _ h => by cases h
  obtain ⟨i, k, d, up⟩ := pl
  dsimp only at hpl hi hv foc
  split at hpl
  · rename_i k2 ds
    have hty : tyV X.K "list" v H1 := by
      obtain ⟨rf, _⟩ := foc
      cases rf with
      | lstO g rs => exact .inl ⟨rfl, _, SqL.of g⟩
    refine ⟨hty, r1.ev (FinO.res hpl) fun y w H2 o hy ro => ?_⟩
    have foc2 := foc.ext (Z' := fun a => Zb Z os B a ∨ (H a = none ∧ H2 a ≠ none ∧ a ∉ o)) ro.ext (fun a q => q.elim .inl fun q => .inr ⟨q.1, ro.ext.ne q.2, fun z => q.2 (ro.new a z)⟩) fun a q => r1.oth i a q
    split at hy
    · rename_i hz
      have hz := szOk_le hz
      by_cases hf : (ful y.1 y.2 && ful k2 y.2) = true
      · rw [if_pos hf] at hy
        rw [Bool.and_eq_true] at hf
        have r2 := r1.ext (o := o) ro.ext fun a q => ro.new a q
        cases hm : mutOut L env i (up (.lst (ds ++ [y.2]))) [] with
        | nx env' =>
          rw [hm] at hy
          obtain ⟨a, vs, rfl, g, hl, os', r3⟩ := foc_app r2 hi hv foc2 (fun b q => by
            rcases q with (q | q) | ⟨q1, q2, q3⟩
            · exact .inl (.inl (.inl q))
            · exact .inr q
            · by_cases h1 : H1 b = none
              · exact .inl (.inr ⟨h1, q2, q3⟩)
              · exact .inl (.inl (.inr ⟨q1, h1, by simp⟩))) hm (ro.rep.ful hf.1 hf.2) ro.nd fun b q => ⟨fun z => z.elim (fun z => r1.there b z (ro.new b q)) fun z => z.2.2 q, fun j z => r1.oth j b z (ro.new b q), r1.ext0.none (ro.new b q)⟩
          exact ⟨a, vs, w, rfl, rfl, g, by rw [hl]; omega, hy σ _ _ os' r3⟩
        | stuck => rw [hm] at hy; exact hy.elim
        | rt x => unfold mutOut at hm; split at hm <;> first | (split at hm <;> cases hm) | cases hm
        | exc x e => unfold mutOut at hm; split at hm <;> first | (split at hm <;> cases hm) | cases hm
      · rw [if_neg hf] at hy
        split at hy
        · rename_i hk0
          subst hk0
          have r2 := r1.ext (o := []) ro.ext fun a h => by cases h
          have hos := ro.rep.there
          cases hm : mutOut L env i (up (.lst (ds ++ [y.2]))) (brw env (fv x)) with
          | nx env' =>
            rw [hm] at hy
            obtain ⟨a, vs, rfl, g, hl, os', r3⟩ := foc_app (o := []) r2 hi hv foc2 (fun b q => by
              rcases q with (q | q) | ⟨q1, q2, q3⟩
              · exact .inl (.inl (.inl q))
              · exact .inr q
              · by_cases h1 : H1 b = none
                · exact .inl (.inr ⟨h1, q2, by simp⟩)
                · exact .inl (.inl (.inr ⟨q1, h1, by simp⟩))) hm (ro.rep.demote (fun b q => by
              rcases q with (q | ⟨j, hj, q⟩) | ⟨q1, q2, q3⟩
              · exact .inl (.inl q)
              · exact .inr ⟨j, List.mem_append_right _ hj, q⟩
              · exact .inl (.inr ⟨q1, q2, by simp⟩)) fun b q => .inl (.inr ⟨ro.new b q, hos b q, by simp⟩)) List.nodup_nil fun b q => by cases q
            exact ⟨a, vs, w, rfl, rfl, g, by rw [hl]; omega, hy σ _ _ os' r3⟩
          | stuck => rw [hm] at hy; exact hy.elim
          | rt x => unfold mutOut at hm; split at hm <;> first | (split at hm <;> cases hm) | cases hm
          | exc x e => unfold mutOut at hm; split at hm <;> first | (split at hm <;> cases hm) | cases hm
        · exact hy.elim
    · exact hy.elim
  · exact hpl.elim
theorem bs_app {p x : Ex} (h : PS X st (tDrop (tBM X.K "list" rAppend (bP X.cw W L Γ p) (tCons (bE X.cw W (fun _ => True) (evE Γ x)) tNil)))) : PS X st (bS X.cw W L (exS Γ M L (.mut .append p [x]))) := (bs_app1 h).imp fun D σ H h => by
  obtain ⟨H0, Z0, gh, Z, os, env, r, h⟩ := h
  have h : FinO (appS Γ L env p x) _ _ _ := h
  unfold appS at h
  split at h
  · rename_i pl y h1 h2
    split at h
    · exact ⟨H0, Z0, gh, Z, os, env, r, h⟩
    · obtain ⟨Z', os', r'⟩ := r.low pl.i (pl.k - 1)
      exact ⟨H0, Z0, gh, Z', os', _, r', h⟩
  · exact ⟨H0, Z0, gh, Z, os, env, r, h⟩
theorem bs_clr {p : Ex} (h : PS X st (tDrop (tBM0 X.K "list" rClear (bP X.cw W L Γ p)))) : PS X st (bS X.cw W L (exS Γ M L (.mut .clear p []))) := h.imp fun D σ H h => by
  obtain ⟨H0, Z0, gh, Z, os, env, r, h⟩ := h
  have h := FinO.resP (show FinO (resP env (evP Γ p env) fun pl => if pl.k = 0 then .stuck else match clrF pl.d with | some d' => mutOut L env pl.i (pl.up d') [] | none => .stuck) _ _ _ from h)
  refine ⟨H0, Z0, gh, Z, os, env, r, h.mono (fun pl epl hpl v H1 k0 d0 B v0 os1 e1 hi hv foc => ?_) fun y hy => excG_of r (fun a q => q) hy⟩
  have r1 := r.ext (o := []) e1 fun _ h => by cases h
  obtain ⟨i, k, d, up⟩ := pl
  dsimp only at hpl hi hv foc
  split at hpl
  · exact hpl.elim
  · rename_i hk
    cases d with
    | lst ds =>
      have hpl : FinO (mutOut L env i (up (.lst [])) []) _ _ _ := hpl
      have foc0 := foc
      obtain ⟨rf, pre, post, hos, _⟩ := foc0
      cases rf with
      | lstF => exact absurd rfl hk
      | @lstO k2 _ a vs os' g rs =>
        refine ⟨.inl ⟨rfl, vs, SqL.of g⟩, a, vs, rfl, rfl, g, ?_⟩
        cases hm : mutOut L env i (up (.lst [])) [] with
        | nx env' =>
          rw [hm] at hpl
          obtain ⟨os2, r3⟩ := foc_mut (ex := []) (os1' := [a]) (u := .lst []) r1 hi hv foc (fun b q => by
            rcases q with (q | q) | ⟨q1, q2⟩
            · exact .inl (.inl q)
            · exact .inr q
            · exact .inl (.inr ⟨q1, q2, by simp⟩)) List.mem_cons_self (fun w q => by rw [g] at q; cases q; trivial) hm (.lstO upd_same .nil) (by simp) fun b q => by
              rw [List.mem_singleton.mp q]; exact .inl List.mem_cons_self
          exact hpl σ _ _ os2 r3
        | stuck => rw [hm] at hpl; exact hpl.elim
        | rt x => unfold mutOut at hm; split at hm <;> first | (split at hm <;> cases hm) | cases hm
        | exc x e => unfold mutOut at hm; split at hm <;> first | (split at hm <;> cases hm) | cases hm
    | _ => exact hpl.elim
theorem dput_ful {k : Key} {x : MP.D} (hx : ful 0 x = true) : ∀ {ks vs : List MP.D}, fuls 0 vs = true → fuls 0 (dput k x ks vs) = true
  | [], [], _ => rfl
  | [], _ :: _, _ => rfl
  | _ :: _, [], _ => rfl
  | d :: ks, v :: vs, h => by
    simp only [fuls, Bool.and_eq_true] at h
    rw [dput]
    split
    · simp only [fuls, Bool.and_eq_true]
      exact ⟨hx, dput_ful hx h.2⟩
    · simp only [fuls, Bool.and_eq_true]
      exact ⟨h.1, dput_ful hx h.2⟩
theorem fuls_app {k : Nat} : ∀ {as bs : List MP.D}, fuls k as = true → fuls k bs = true → fuls k (as ++ bs) = true
  | [], _, _, h => h
  | a :: as, bs, h, h2 => by
    simp only [fuls, Bool.and_eq_true, List.cons_append] at h ⊢
    exact ⟨h.1, fuls_app h.2 h2⟩
theorem dset_ful {k : Key} {x : MP.D} {ks vs : List MP.D} (hv : fuls 0 vs = true) (hx : ful 0 x = true) : fuls 0 (dset k x (ks, vs)).2 = true := by
  unfold dset
  split
  · exact dput_ful hx hv
  · exact fuls_app hv (by simp [fuls, hx])
/-- d[k] = x, atoms -/
theorem bs_dput {p y x : Ex} (h : PS X st (sDPut (bP X.cw W L Γ p) (bE X.cw W (fun _ => True) (evE Γ y)) (bE X.cw W (fun _ => True) (evE Γ x)))) : PS X st (bS X.cw W L (exS Γ M L (.seti p y x))) := h.imp fun D σ H h => by
  obtain ⟨H0, Z0, gh, Z, os, env, r, h⟩ := h
  have h : FinO (dsetS Γ L env p y x) _ _ _ := h
  unfold dsetS at h
  refine r.ev (FinO.res h) fun xv w H1 o hx ro => ?_
  have r1 := r.ext (o := []) ro.ext fun a h => by cases h
  have hx := FinO.resP hx
  refine ⟨H0, Z0, gh, _, os, env, r1, hx.mono (fun pl epl hpl v H2 k0 d0 B v0 os1 e2 hi hv foc => ?_) fun y hy => excG_of r1 (fun a q => q) hy⟩
  have r2 := r1.ext (o := []) e2 fun _ h => by cases h
  refine r2.ev (FinO.res hpl) fun yv u H3 o3 hy ro3 => ?_
  have r3 := r2.ext (o := []) ro3.ext fun a h => by cases h
  obtain ⟨i, k, d, up⟩ := pl
  dsimp only at hy hi hv foc
  split at hy
  · rename_i k2 ks vs kk hkey
    split at hy
    · rename_i hc
      simp only [Bool.and_eq_true] at hc
      have hz := szOk_le hc.1.1
      have foc3 := foc.ext (Z' := fun a => Zb _ os B a ∨ (H1 a = none ∧ H3 a ≠ none)) ro3.ext (fun a q => q.elim .inl fun q => .inr ⟨q.1, ro3.ext.ne q.2⟩) fun a q => r2.oth i a q
      have hzf : ∀ b, (Zb (fun a => Z a ∨ (H a = none ∧ H1 a ≠ none ∧ a ∉ [])) os B b ∨ (H1 b = none ∧ H3 b ≠ none)) → ((((Z b ∨ (H b = none ∧ H1 b ≠ none ∧ b ∉ [])) ∨ (H1 b = none ∧ H2 b ≠ none ∧ b ∉ [])) ∨ (H2 b = none ∧ H3 b ≠ none ∧ b ∉ [])) ∨ ∃ j ∈ B, b ∈ os j) := fun b q => by
        rcases q with (q | q) | ⟨q1, q2⟩
        · exact .inl (.inl (.inl q))
        · exact .inr q
        · by_cases h1 : H2 b = none
          · exact .inl (.inr ⟨h1, q2, by simp⟩)
          · exact .inl (.inl (.inr ⟨q1, h1, by simp⟩))
      obtain ⟨rfl, _⟩ := key_rep hkey ro3.rep
      have foc4 := foc3
      obtain ⟨rf, pre, post, hos, _⟩ := foc4
      cases rf with
      | @dctO _ _ _ a kvs us os' g e1' e2' rs =>
        subst e1' e2'
        have rs0 := rs.ful (j := 0) (Z' := fun _ => False) (fuls_up (Nat.zero_le _) hc.1.2) hc.1.2
        have ho0 := rs0.none0
        subst ho0
        have e13 : Ext H1 H3 := e2.trans ro3.ext
        have rw0 : ∀ Z', Rep X.cw H3 Z' 0 xv.2 w [] := fun Z' => by
          have q := ro.frozen
          exact (q.ful (Z' := Z') hc.2 hc.2).mono e13 fun _ q => q
        have dk := (DK.of (rs0.mono (Z' := fun _ => False) (Ext.refl _) fun _ q => q)).set (p := (kvs.map fun p => kD p.1, vs)) (k := kk) (rw0 _)
        obtain ⟨eb, rb⟩ := dk.back
        have hu : ∀ w, H3 a = some w → MutO w := fun w q => by rw [g] at q; cases q; trivial
        refine ⟨a, upd H3 a (.dK (putK kvs kk w)), rfl, DPut.k g ?_, ?_⟩
        · have : (kvs.map fun p => kD p.1).length = kvs.length := List.length_map ..
          omega
        · generalize hds : dset kk xv.2 (kvs.map fun p => kD p.1, vs) = dd at *
          cases hm : mutOut L env i (up (.dct dd.1 dd.2)) [] with
          | nx env' =>
            rw [hm] at hy
            have hfd : fuls 0 dd.2 = true := by
              rw [← hds]
              exact dset_ful hc.1.2 hc.2
            have rn : Rep X.cw (upd H3 a (.dK (putK kvs kk w))) (fun b => (((Z b ∨ (H b = none ∧ H1 b ≠ none ∧ b ∉ [])) ∨ (H1 b = none ∧ H2 b ≠ none ∧ b ∉ [])) ∨ (H2 b = none ∧ H3 b ≠ none ∧ b ∉ [])) ∨ ∃ j ∈ B ++ [], b ∈ os j) (k2 + 1) (.dct dd.1 dd.2) (.ref a) [a] := by
              refine .dctO upd_same eb rfl ?_
              exact (rb.kp (Kp.refl.upd (fun z => z) hu) fun _ h => by cases h).ful hfd (fuls_up (Nat.zero_le _) hfd)
            obtain ⟨os2, r4⟩ := foc_mut (ex := []) (os1' := [a]) r3 hi hv foc3 hzf List.mem_cons_self hu hm rn (by simp) fun b q => by
              rw [List.mem_singleton.mp q]; exact .inl List.mem_cons_self
            exact hy σ _ _ os2 r4
          | stuck => rw [hm] at hy; exact hy.elim
          | rt x => unfold mutOut at hm; split at hm <;> first | (split at hm <;> cases hm) | cases hm
          | exc x e => unfold mutOut at hm; split at hm <;> first | (split at hm <;> cases hm) | cases hm
    · exact hy.elim
  · exact hy.elim
end
end MP

/-! MPza: a loop that empties parts of what it walks. -/
namespace MP
open PySem PySem.Spec PyProof.Rows L2 RZ
section
variable {c : Cw} {H0 H H1 H2 : Hp} {Z0 Z Z2 : Addr → Prop} {L : List Nat} {gh : List ((Addr → Prop) × Hp × List Nat)} {os : Nat → List Addr} {σ : L2.St} {env env' : Env}
/-- fewer slots are read -/
theorem StR.weaken (r : StR c H0 Z0 L gh H Z os σ env) (hl : env'.length = env.length) (h : ∀ (j : Nat) (x : Slt), env'[j]? = some (some x) → env[j]? = some (some x)) : StR c H0 Z0 L gh H Z os σ env' :=
  ⟨r.there, r.oth, hl.trans r.len, r.nd, r.dj, r.nz, fun i k d B hi => r.at_ i k d B (h i _ hi), r.ext0, r.onew, r.znew, r.z0, r.ghL, r.gh⟩
/-- a slot that is not read is set -/
theorem StR.setNone (r : StR c H0 Z0 L gh H Z os σ env) {a : Nat} {v : Option V} (h : ∀ x, env[a]? ≠ some (some x)) : StR c H0 Z0 L gh H Z os (σ.set a v) env := by
  refine ⟨r.there, r.oth, by rw [List.length_set]; exact r.len, r.nd, r.dj, r.nz, fun i k d B hi => ?_, r.ext0, r.onew, r.znew, r.z0, r.ghL, r.gh⟩
  obtain ⟨w, h1, h2⟩ := r.at_ i k d B hi
  exact ⟨w, by rw [List.getElem?_set_ne fun z : a = i => h _ (z ▸ hi)]; exact h1, h2⟩
/-- a place stands behind a change within it -/
theorem Foc.put {k k1 : Nat} {v v1 : V} {o o1 o1' : List Addr} {d1 d1' : D} {up : D → D} {Zf Zf' : Addr → Prop} (f : Foc c H Zf k v o k1 d1 v1 o1 up) (z : ∀ a, Zf a → Zf' a) (kp : Kp Zf H H2) (ag : ∀ a ∈ o, a ∉ o1 → H2 a = H a) (nd : o.Nodup) (rn : Rep c H2 Zf' k1 d1' v1 o1') :
    ∃ pre post, o = pre ++ (o1 ++ post) ∧ Foc c H2 Zf' k v (pre ++ (o1' ++ post)) k1 d1' v1 o1' up := by
  obtain ⟨_, pre, post, ho, hup⟩ := f
  rw [ho, List.nodup_append] at nd
  obtain ⟨_, nd2, nd3⟩ := nd
  rw [List.nodup_append] at nd2
  have ag2 : ∀ a ∈ pre ++ post, H2 a = H a := fun a q => by
    rcases List.mem_append.mp q with q | q
    · exact ag a (by rw [ho]; exact List.mem_append_left _ q) fun w => nd3 a q a (List.mem_append_left _ w) rfl
    · exact ag a (by rw [ho]; exact List.mem_append_right _ (List.mem_append_right _ q)) fun w => nd2.2.2 a w a q rfl
  refine ⟨pre, post, ho, rn, pre, post, rfl, fun H' Z' d' os' zz kp2 hh r' => hup H' Z' d' os' (fun a q => zz a (z a q)) (kp.trans (kp2.sub z)) (fun a q => (hh a q).trans (ag2 a q)) r'⟩
/-- a slot that nobody reads, or borrows from, is changed at an address of its own -/
theorem StR.mutN {i : Nat} {a : Addr} {u : HO} (r : StR c H0 Z0 L gh H Z os σ env) (hi : ∀ x, env[i]? ≠ some (some x)) (hb : ∀ (j k : Nat) (d : D) (B : List Nat), env[j]? = some (some (k, d, B)) → i ∉ B) (hL : i ∉ L) (ha : a ∈ os i) (hu : ∀ w, H a = some w → MutO w) :
    StR c H0 Z0 L gh (upd H a u) Z os σ env := by
  have naz : ¬ Z a := r.nz i a ha
  have kp : ∀ U : Addr → Prop, ¬ U a → Kp U H (upd H a u) := fun U hU => Kp.refl.upd hU hu
  have ne : ∀ b, H b ≠ none → upd H a u b ≠ none := fun b h => by
    by_cases e : b = a
    · rw [e, upd_same]; exact fun z => by cases z
    · rw [upd_ne e]; exact h
  refine ⟨fun b q => ne b (r.there b q), fun j b q => ne b (r.oth j b q), r.len, r.nd, r.dj, r.nz, fun j k' d2 B' h => ?_, fun b w h => ?_, r.onew, r.znew, r.z0, r.ghL, fun g hg => ?_⟩
  · have e : i ≠ j := fun z => hi _ (z ▸ h)
    have hiB := hb j k' d2 B' h
    obtain ⟨w, h1, h2⟩ := r.at_ j k' d2 B' h
    refine ⟨w, h1, h2.kp (kp _ fun q => ?_) fun b q => ?_⟩
    · rcases q with q | ⟨l, hl, q⟩
      · exact naz q
      · exact hiB (r.dj i l a ha q ▸ hl)
    · exact upd_ne fun z : b = a => e (r.dj i j a ha (z ▸ q))
  · have hne : b ≠ a := fun z => by
      rw [z, r.onew i a ha] at h
      cases h
    rw [upd_ne hne]
    exact r.ext0 b w h
  · obtain ⟨h1, h2⟩ := r.gh g hg
    have ng : ¬ g.1 a := fun z => by
      rcases h2 a z with z | ⟨l, hl, z⟩
      · exact naz z
      · exact hL (r.dj i l a ha z ▸ r.ghL g hg l hl)
    exact ⟨h1.trans (kp _ ng), h2⟩
/-- pairs with lists of their own -/
def PairsAt (K : PySem.W.Frag) (H : Hp) (os : List Addr) (vs : List V) : Prop := ∀ x ∈ vs, ∃ t y l, x = .ref t ∧ SqT K H t [y, .ref l] ∧ (∃ ws, H l = some (.lst ws)) ∧ l ∈ os
theorem reps_pairs {k : Nat} {Z : Addr → Prop} : ∀ {ds : List D} {vs : List V} {o : List Addr}, Reps c H Z (k + 1) ds vs o → ds.all clrP = true → PairsAt c.K H o vs
  | [], _, _, .nil, _ => fun x h => by cases h
  | d :: ds, _, _, .cons (v := v) (vs := vs) (os := o1) (os' := o2) r rs, h => by
    simp only [List.all_cons, Bool.and_eq_true] at h
    intro x hx
    rcases List.mem_cons.mp hx with rfl | hx
    · have h1 := h.1
      unfold clrP at h1
      split at h1
      · obtain ⟨t, us, rfl, g, rr⟩ := r.tup_
        cases rr with
        | cons ra rr =>
          cases rr with
          | cons rb rr =>
            cases rr
            cases rb with
            | lstO g2 r2 => exact ⟨t, _, _, rfl, g, ⟨_, g2⟩, by simp⟩
      · cases h1
    · obtain ⟨t, y, l, e, g, hl, m⟩ := reps_pairs rs h.2 x hx
      exact ⟨t, y, l, e, g, hl, List.mem_append_right _ m⟩
theorem PairsAt.upd {K : PySem.W.Frag} {o : List Addr} {vs : List V} {l : Addr} (p : PairsAt K H o vs) (hl : ∃ ws, H l = some (.lst ws)) : PairsAt K (upd H l (.lst [])) o vs := fun x hx => by
  obtain ⟨t, y, m, e, g, ⟨ws, hm⟩, mo⟩ := p x hx
  obtain ⟨us, hl⟩ := hl
  refine ⟨t, y, m, e, (Kp.refl.upd (U := fun _ => False) (fun z => z) fun w (q : H l = some w) => by rw [hl] at q; cases q; trivial).sqT g, ?_, mo⟩
  by_cases e : m = l
  · exact ⟨[], by rw [e, upd_same]⟩
  · exact ⟨ws, by rw [upd_ne e]; exact hm⟩
end
section
variable {X : Cx} {W : WX} {L : List Nat} {Γ : Gm} {M : List Nat} {st : Stmt}
theorem bs_clrs {a v : Nat} {p : Ex} (h : PS X st (tFor (iSeq X.K (bP X.cw W L Γ p)) (gT X.K (.tup [.nm a, .nm v])) (tDrop (tBM0 X.K "list" rClear (tVar v))))) : PS X st (bS X.cw W L (exS Γ M L (.clrs a v p))) := h.imp fun D σ H h => by
  obtain ⟨H0, Z0, gh, Z, os, env, r, h⟩ := h
  have h := FinO.resP (show FinO (resP env (evP Γ p env) fun pl => clrO L env a v pl) _ _ _ from h)
  refine ⟨H0, Z0, gh, Z, os, env, r, h.mono (fun pl epl hpl w H1 k0 d0 B v0 os1 e1 hi hv foc => ?_) fun y hy => excG_of r (fun a q => q) hy⟩
  have r1 := r.ext (o := []) e1 fun _ h => by cases h
  obtain ⟨i, k, d, up⟩ := pl
  unfold clrO at hpl
  dsimp only at hpl hi hv foc
  split at hpl
  · rename_i k2 ds
    split at hpl
    · rename_i hc
      simp only [Bool.and_eq_true, Bool.not_eq_true', bne_iff_ne, ne_eq, decide_eq_true_eq] at hc
      obtain ⟨⟨⟨hds, hL⟩, hav⟩, hvl⟩ := hc
      have hL : i ∉ L := by simpa using hL
      obtain ⟨rf, pre, post, hos, _⟩ := foc
      cases rf with
      | @lstO _ _ a1 vs os' g rs =>
        have pa := reps_pairs rs hds
        have nd := r.nd i
        rw [hos, List.nodup_append] at nd
        have nd1 := (List.nodup_append.mp nd.2.1).1
        rw [List.nodup_cons] at nd1
        refine .inl ⟨a1, rfl, ⟨vs, SqL.of g⟩, ?_⟩
        generalize hE : (((wipeB i env).set i none).set a none).set v none = E at hpl
        have rd : ∀ (j : Nat) (x : Slt), E[j]? = some (some x) → env[j]? = some (some x) ∧ j ≠ i ∧ j ≠ a ∧ j ≠ v ∧ i ∉ x.2.2 := fun j x hx => by
          rw [← hE] at hx
          have step : ∀ (e : Env) (n : Nat), (e.set n none)[j]? = some (some x) → e[j]? = some (some x) ∧ j ≠ n := fun e n hn => by
            by_cases ej : n = j
            · subst ej
              by_cases hl : n < e.length
              · rw [List.getElem?_set_self hl] at hn; cases hn
              · rw [List.getElem?_eq_none (by simpa using hl)] at hn; cases hn
            · rw [List.getElem?_set_ne ej] at hn
              exact ⟨hn, fun z => ej z.symm⟩
          obtain ⟨h1, h2⟩ := step _ _ hx
          obtain ⟨h3, h4⟩ := step _ _ h1
          obtain ⟨h5, h6⟩ := step _ _ h3
          unfold wipeB at h5
          rw [List.getElem?_map] at h5
          cases he : env[j]? with
          | none => rw [he] at h5; cases h5
          | some y =>
            rw [he] at h5
            cases y with
            | none => cases h5
            | some y =>
              simp only [Option.map_some, Option.some.injEq] at h5
              split at h5
              · cases h5
              · rename_i hn
                cases h5
                exact ⟨rfl, h6, h4, h2, by simpa using hn⟩
        have rE := r1.weaken (env' := E) (by rw [← hE]; simp [wipeB]) fun j x hx => (rd j x hx).1
        let Pv : Nat → L2.St → Hp → Prop := fun _ σ' H' => StR X.cw H0 Z0 L gh H' (fun a => Z a ∨ (H a = none ∧ H1 a ≠ none ∧ a ∉ [])) os σ' E ∧ H' a1 = some (.lst vs) ∧ PairsAt X.K H' os' vs
        refine for_it (walk_list (K := X.K) (a := a1) (xs := vs)) Pv ⟨rE, g, pa⟩ (fun _ _ H' _ q => SqL.of q.2.1) (fun j x σ' H' H2 hj q y => ?_) fun σ' H' q => hpl σ' H' _ os q.1
        obtain ⟨rr, g', pa'⟩ := q
        obtain ⟨rfl, hx⟩ := y
        obtain ⟨t, y, l, rfl, gt, ⟨ws, hl⟩, ml⟩ := pa' x (List.mem_of_getElem? hx)
        refine ⟨t, [y, .ref l], rfl, gt, rfl, y, [.ref l], rfl, .ref l, [], rfl, rfl, ?_⟩
        have r3 := (rr.setNone (a := a) (v := some y) fun x hx => (rd a x hx).2.2.1 rfl).setNone (a := v) (v := some (.ref l)) fun x hx => (rd v x hx).2.2.2.1 rfl
        refine ⟨.ref l, ?_, .inl ⟨rfl, ws, SqL.of hl⟩, l, ws, rfl, rfl, hl, ?_⟩
        · have hl' : v < σ'.length := by
            rw [← rr.len, ← hE]
            simpa [wipeB] using hvl
          rw [List.getElem?_set_self (by rw [List.length_set]; exact hl')]
        · have hne : l ≠ a1 := fun z => nd1.1 (z ▸ ml)
          refine ⟨r3.mutN (i := i) (fun x hx => (rd i x hx).2.1 rfl) (fun j k d B hj => (rd j _ hj).2.2.2.2) hL ?_ fun w q => by rw [hl] at q; cases q; trivial, by rw [upd_ne fun z => hne z.symm]; exact g', pa'.upd ⟨ws, hl⟩⟩
          rw [hos]
          exact List.mem_append_right _ (List.mem_append_left _ (List.mem_cons_of_mem _ ml))
    · exact hpl.elim
  · exact hpl.elim
end
end MP

/-! MQa: statements: from the program's text to the little language. -/
namespace MP
open PySem PySem.Spec PyProof.Rows L2 RZ
def ef : Nat := 60
/-- names of slots -/
def trN (N : List Str) (sc : Scope) (x : Str) : Ex := if (okN x && visB sc x) = true then (match N.idxOf? x with | some i => .nm i | none => .bad) else .bad
def trPth (T : Tb) (N : List Str) : Nat → Scope → Expr → Ex
  | 0, _, _ => .bad
  | n + 1, sc, e => match e with
    | .Name x _ => trN N sc x
    | .Subscript a b _ => if notSl b = true then .idx (trPth T N n sc a) (trE T N ef sc b) else .bad
    | _ => .bad
def isP : Expr → Bool
  | .Name _ _ => true
  | .Subscript _ _ _ => true
  | _ => false
def isSC : Expr → Bool
  | .SetComp _ _ _ _ => true
  | .DictComp _ _ _ _ _ => true
  | _ => false
def kLC (T : Tb) : Expr → Bool
  | .ListComp _ [⟨_, .Name x _, _, _⟩] _ _ => T.dk x
  | _ => false
def swB (sc : Scope) (value : Expr) (t : Str) (p : Pos) : Bool := match value with
  | .ListComp _ _ s _ => sc.names.lookup t == some .local && p.line == value.pos.line && !(s.names.any fun (n, k) => n == t && (k == .local || k == .cell))
  | _ => false
/-- an element of a tuple that is given back -/
def trR (T : Tb) (N : List Str) (sc : Scope) (e : Expr) : Ex := match e with
  | .Name x _ => trN N sc x
  | e => match trE T N ef sc e with
    | .nm _ => .bad
    | x => x
/-- a body that empties the list that v stands for -/
def clrB (v : Str) : List Stmt → Bool
  | [.Expr (.Call (.Attribute (.Name x _) name apos) [] [] cpos) _] => x == v && (name == ("clear" : Str) && apos.endLine == cpos.line)
  | _ => false
/-- a target of two names, the second of which is emptied; its name -/
def clrT : Expr → Option Str
  | .Tuple [.Name _ _, .Name v _] _ _ => some v
  | _ => none
def isSub : Expr → Bool
  | .Subscript _ _ _ => true
  | _ => false
def isClr (tg iter : Expr) (body : List Stmt) : Bool := isSub iter && (match clrT tg with
  | some v => clrB v body
  | none => false)
def trClr (T : Tb) (N : List Str) (sc : Scope) (tg iter : Expr) : Sm := match trT N sc ef tg, clrT tg with
  | some (.tup [.nm a, .nm v]), some x => if (match trN N sc x with | .nm j => j == v | _ => false) = true then .clrs a v (trPth T N ef sc iter) else .bad
  | _, _ => .bad
def trS (T : Tb) (N : List Str) : Nat → Scope → Stmt → Sm
  | 0, _, _ => .bad
  | n + 1, sc, st => match st with
    | .Pass _ => .nop
    | .Expr e _ => match e with
      | .Constant (.str _) _ _ => .nop
      | .Call f args kws cpos => match f, kws with
        | .Attribute o name apos, [] => if (isP o && (apos.endLine == cpos.line)) = true then (
            if (name == ("append" : Str)) = true then (match args with
              | [a] => if notStar a = true then .mut .append (trPth T N ef sc o) [trE T N ef sc a] else .bad
              | _ => .bad)
            else if (name == ("clear" : Str)) = true then (match args with
              | [] => .mut .clear (trPth T N ef sc o) []
              | _ => .bad)
            else .bad) else .bad
        | .Name x p, [] => .drop (trE T N ef sc (.Call (.Name x p) args [] cpos))
        | _, _ => .bad
      | _ => .bad
    | .Return v _ => match v with
      | none => .retN
      | some (.Name x p) => match trN N sc x with
        | .nm i => .retV i
        | _ => .bad
      | some (.Tuple es k p) => if es.all notStar = true then .retT (es.map (trR T N sc)) else .bad
      | some e => .ret (trE T N ef sc e)
    | .Assign tgs e _ => match tgs with
      | [.Subscript p i _] => if (isP p && notSl i) = true then .seti (trPth T N ef sc p) (trE T N ef sc i) (trE T N ef sc e) else .bad
      | [.Name x p] => match trT N sc ef (.Name x p) with
        | some t => if (isSC e || kLC T e) = true then .bad else .set t (trE T N ef sc e)
        | none => .bad
      | [.Tuple ts k p] => match trT N sc ef (.Tuple ts k p) with
        | some t => if isTup e = true then .bad else .set t (trE T N ef sc e)
        | none => .bad
      | _ => .bad
    | .If c a b _ => .ife (trE T N ef sc c) (a.map (trS T N n sc)) (b.map (trS T N n sc))
    | .For tg iter body orelse _ => match orelse with
      | [] => if isClr tg iter body = true then trClr T N sc tg iter else match trT N sc ef tg with
        | some t => if (notSet iter && okI (trI T (trE T N ef sc) sc iter).1 tg) = true then
            .for t (trI T (trE T N ef sc) sc iter).1 (trI T (trE T N ef sc) sc iter).2 (body.map (trS T N n sc)) else .bad
        | none => .bad
      | _ => .bad
    | _ => .bad
structure CtxS (T : Tb) (Γ : Gm) (X : Cx) (W : WX) : Prop where
  f : CtxF T Γ X
  tk : L2.Takes X W
  own : PassesOwn (model X.prog X.w) X.A X.env X.xe
  kind : X.env.scope.kind = .function
  fnc : ∀ x, X.fn x = true
section
variable {X : Cx} {W : WX} {L : List Nat} {T : Tb} {Γ : Gm} {M : List Nat}
theorem trN_ok {x : Str} {i : Nat} {p : Pos} (h : trN X.N X.env.scope x = .nm i) : PE X (.Name x p) (tVar i) := by
  unfold trN at h
  split at h
  · rename_i h1
    rw [Bool.and_eq_true] at h1
    split at h
    · rename_i j hj
      cases h
      exact pe_var (idxOf_of hj) (vis_of h1.2) (okN_of h1.1).1 (okN_of h1.1).2
    · cases h
  · cases h
theorem bp_bad {e : Expr} : PE X e (bP X.cw W L Γ .bad) := ⟨fun _ _ _ _ _ _ h => by obtain ⟨H0, Z0, gh, Z, os, env, r, h⟩ := h; exact h.elim⟩
theorem trN_cases (x : Str) : (∃ i, trN X.N X.env.scope x = .nm i) ∨ trN X.N X.env.scope x = .bad := by
  unfold trN
  split
  · split
    · exact .inl ⟨_, rfl⟩
    · exact .inr rfl
  · exact .inr rfl
theorem trPth_ok (C : CtxS T Γ X W) : ∀ (n : Nat) (e : Expr), PE X e (bP X.cw W L Γ (trPth T X.N n X.env.scope e))
  | 0, e => bp_bad
  | n + 1, e => by
    unfold trPth
    split
    · rename_i x p
      rcases trN_cases (X := X) x with ⟨i, hi⟩ | hi
      · rw [hi]; exact bp_nm (trN_ok hi)
      · rw [hi]; exact bp_bad
    · rename_i a b pos
      split
      · rename_i h1
        exact bp_idx C.f.hu (trPth_ok C n a) (trE_ok ef C.f C.tk (fun _ => trivial) b).1 (plain_of h1)
      · exact bp_bad
    · exact bp_bad
theorem sw_name (hk : X.env.scope.kind = .function) {e : Expr} {t : Str} {p : Pos} {line : Nat} (h : isSC e = false) : swapsWith e (some (.Name t p)) line X.env = pure (swB X.env.scope e t p) := by
  have hb : (X.env.blockKind == ScopeKind.function) = true := by
    unfold Env.blockKind
    rw [hk]
    rfl
  cases e <;> first | rfl | cases h | skip
  rename_i elt gens s pos
  show (pure (X.env.blockKind == .function && X.env.kindOf t == some .local && p.line == (Expr.ListComp elt gens s pos).pos.line && !(s.names.any fun (n, k) => n == t && (k == .local || k == .cell))) : Sem Bool) = _
  rw [hb, Bool.true_and]
  rfl
theorem base_of {o : Expr} {name : Str} (h : isP o = true) : attributeBase o name X.env (eval o X.env) = eval o X.env := by
  cases o <;> first | rfl | cases h
theorem few_of {a : Expr} {cpos : Pos} (h : notStar a = true) : ((backTo cpos (starEach [a] X.env)).all (fun x => !x.1) && (backToKw cpos (keywordEach [] X.env)).all (fun x => x.1.isSome)
      && decide ([a].length + ([] : List Keyword).length + (if ([] : List Keyword).isEmpty then 0 else 1) < 30)) = true := by
  rw [star_of h]
  rfl
/-- the parts of a comprehension -/
theorem lc_parts (C : CtxS T Γ X W) (n : Nat) {elt : Expr} {gens : List Comprehension} {scope : Scope} {pos : Pos} (hk : kLC T (.ListComp elt gens scope pos) = false) : trE T X.N (n + 1) X.env.scope (.ListComp elt gens scope pos) = .bad ∨
    ∃ tg iter ifs wi g tt te own, gens = [⟨tg, iter, ifs, 0⟩] ∧ PI X tg iter wi ∧ BlkOk X.N X.env.scope scope own ∧
      (∀ (s : Shared) (H : Hp) (A : Addr) (cl : List (Str × Addr)) (fp : List Addr), PG (X.blk s H scope (compEnvC scope cl A X.env) fp) tg g) ∧
      (∀ (s : Shared) (H : Hp) (A : Addr) (cl : List (Str × Addr)) (fp : List Addr), PTs (X.blk s H scope (compEnvC scope cl A X.env) fp) ifs tt) ∧
      (∀ (s : Shared) (H : Hp) (A : Addr) (cl : List (Str × Addr)) (fp : List Addr), PE (X.blk s H scope (compEnvC scope cl A X.env) fp) elt te) ∧ (∀ x, foldedSetIterable iter X.env x = pure x) ∧
      ∀ σ H Q, bE X.cw W (fun _ => True) (evE Γ (trE T X.N (n + 1) X.env.scope (.ListComp elt gens scope pos))) σ H Q → tLc wi g tt te (own.map (·.2)) σ H Q := by
  generalize hx : trE T X.N (n + 1) X.env.scope (.ListComp elt gens scope pos) = x
  unfold trE at hx
  dsimp only at hx
  split at hx
  · rename_i tg iter ifs
    split at hx
    · rename_i t htg
      split at hx
      · rename_i h1
        simp only [Bool.and_eq_true, decide_eq_true_eq] at h1
        obtain ⟨⟨⟨⟨hb, hin⟩, hset⟩, hif⟩, hti⟩ := h1
        replace hti : okI (trI T (trE T X.N n X.env.scope) X.env.scope iter).1 tg = true := by
          rcases Bool.or_eq_true_iff.mp hti with q | q
          · exact q
          · rw [Bool.and_eq_true] at q
            obtain ⟨x, p, i, rfl, hd, _⟩ := trI_keys q.1 q.2
            have : T.dk x = false := hk
            rw [hd] at this
            cases this
        have inner : ∀ (s : Shared) (H : Hp) (A : Addr) (cl : List (Str × Addr)) (fp : List Addr) (e : Expr), PE (X.blk s H scope (compEnvC scope cl A X.env) fp) e (bE X.cw WF (fun _ => True) (evE Γ (trE T X.N n (relab scope X.env.scope) e))) ∧
            PT (X.blk s H scope (compEnvC scope cl A X.env) fp) e (bT X.cw WF (fun _ => True) fun env => evE Γ (trE T X.N n (relab scope X.env.scope) e) env >>= asB) :=
          fun s H A cl fp e => trE_ok n (C.f.blk s H scope cl A fp) takesF (fun _ => trivial) e
        refine .inr ⟨tg, iter, ifs, _, gT X.K t, bT X.cw WF (fun _ => True) fun env => evC Γ (ifs.map (trE T X.N n (relab scope X.env.scope))) env, _, ownOf X.N scope, rfl, trI_ok (S := fun _ => True) C.f (fun e => (trE_ok n C.f C.tk (fun _ => trivial) e).1) tg iter hti, blkB_ok hb, fun s H A cl fp => ?_, fun s H A cl fp => ?_, fun s H A cl fp => (inner s H A cl fp elt).1, fun x => ?_, fun σ H Q q => ?_⟩
        · exact trT_ok (X := X.blk s H scope (compEnvC scope cl A X.env) fp) rfl C.f.nd C.f.calm (fun x hx => relab_local hx) (fun x hx => ⟨relab_cell hx, beq_iff_eq.mpr hx⟩) 20 htg
        · match ifs, hif with
          | [], _ =>
            refine ⟨fun pins s σ H Q I h => pts_nil.run pins s σ H Q I ?_⟩
            obtain ⟨env, Z, er, h⟩ := h
            exact h H (Ext.refl H)
          | [q], _ =>
            have := pts_one (inner s H A cl fp q).2
            exact this
          | _ :: _ :: _, hif => simp at hif
        · cases iter <;> first | rfl | cases hset
        · refine lc_imp (fun i hi => tgIns_ok hin hi) ?_
          obtain ⟨env, Z, er, q⟩ := q
          refine ⟨env, Z, er, ?_⟩
          rw [← hx] at q
          dsimp only
          rw [res_assoc]
          exact q
      · exact .inl hx.symm
    · exact .inl hx.symm
  · exact .inl hx.symm
/-- a name set -/
theorem st_name (C : CtxS T Γ X W) {x : Str} {p pos : Pos} {e : Expr} {t : Tg} (ht : trT X.N X.env.scope ef (.Name x p) = some t) (hsc : isSC e = false) (hk : kLC T e = false) : PS X (.Assign [.Name x p] e pos) (tAsg (bE X.cw W (fun _ => True) (evE Γ (trE T X.N ef X.env.scope e))) (gT X.K t)) := by
  have hE := (trE_ok ef C.f C.tk (S := fun _ => True) (fun _ => trivial) e).1
  have hG : PG X (.Name x p) (gT X.K t) := trT_ok rfl C.f.nd C.f.calm (fun _ h => h) (fun _ h => ⟨h, C.fnc _⟩) ef ht
  have hsw := sw_name (X := X) (t := x) (p := p) (line := pos.line) C.kind hsc
  cases hb : swB X.env.scope e x p with
  | false =>
    rw [hb] at hsw
    exact ps_asg hE hG hsw (by rfl) (by rfl)
  | true =>
    rw [hb] at hsw
    cases e with
    | ListComp elt gens scope cpos =>
      rcases lc_parts C 59 (elt := elt) (gens := gens) (scope := scope) (pos := cpos) hk with hbad | ⟨tg, iter, ifs, wi, g, tt, te, own, rfl, h1, h2, h3, h4, h5, h6, h7⟩
      · have hbad : trE T X.N ef X.env.scope (.ListComp elt gens scope cpos) = .bad := hbad
        rw [hbad]
        exact ⟨fun _ _ _ _ _ _ h => by obtain ⟨env, Z, er, h⟩ := h; exact h.elim⟩
      · have hl : X.env.scope.names.lookup x = some .local := by
          unfold swB at hb
          simp only [Bool.and_eq_true, beq_iff_eq] at hb
          exact hb.1.1
        obtain ⟨i, hi, rfl⟩ : ∃ i, X.N.idxOf? x = some i ∧ t = .nm i := by
          unfold trT ef at ht
          dsimp only at ht
          split at ht
          · obtain ⟨i, hi, rfl⟩ := Option.map_eq_some_iff.mp ht
            exact ⟨i, hi, rfl⟩
          · split at ht
            · obtain ⟨i, hi, rfl⟩ := Option.map_eq_some_iff.mp ht
              exact ⟨i, hi, rfl⟩
            · cases ht
        exact (ps_setLc C.f.calm C.f.nd (idxOf_of hi) hl hsw h1 h2 h3 h4 h5 h6).imp fun D σ H h => h7 _ _ _ h
    | _ => cases hb
theorem st_tup (C : CtxS T Γ X W) {ts : List Expr} {k : Nat} {p pos : Pos} {e : Expr} {t : Tg} (ht : trT X.N X.env.scope ef (.Tuple ts k p) = some t) (hsc : isTup e = false) : PS X (.Assign [.Tuple ts k p] e pos) (tAsg (bE X.cw W (fun _ => True) (evE Γ (trE T X.N ef X.env.scope e))) (gT X.K t)) := by
  have hE := (trE_ok ef C.f C.tk (S := fun _ => True) (fun _ => trivial) e).1
  have hG : PG X (.Tuple ts k p) (gT X.K t) := trT_ok rfl C.f.nd C.f.calm (fun _ h => h) (fun _ h => ⟨h, C.fnc _⟩) ef ht
  exact ps_asg hE hG (by cases e <;> rfl) (by cases e <;> first | rfl | cases hsc) (by rfl)
theorem trR_ok (C : CtxS T Γ X W) (e : Expr) : PEi X W (fun _ => True) Γ e (trR T X.N X.env.scope e) := by
  unfold trR
  split
  · rename_i x p
    rcases trN_cases (X := X) x with ⟨i, hi⟩ | hi
    · rw [hi]; exact .inl ⟨i, rfl, trN_ok hi⟩
    · rw [hi]; exact .inr ⟨fun i h => (nomatch h), be_bad⟩
  · have h := (trE_ok ef C.f C.tk (S := fun _ => True) (fun _ => trivial) e).1
    split
    · exact .inr ⟨fun i h => (nomatch h), be_bad⟩
    · rename_i hn
      exact .inr ⟨fun i q => hn i q, h⟩
theorem trRs_ok (C : CtxS T Γ X W) : ∀ {es : List Expr}, es.all notStar = true → PA X es (bLi X.cw W (fun _ => True) Γ (es.map (trR T X.N X.env.scope)))
  | [], _ => bai_nil
  | e :: es, h => by
    simp only [List.all_cons, Bool.and_eq_true] at h
    exact bai_cons (fun _ => trivial) (trR_ok C e) (trRs_ok C h.2) (star_of h.1)
theorem trN_of {e : Ex} {v : Nat} (h : (match e with | .nm j => j == v | _ => false) = true) : e = .nm v := by
  split at h
  · rw [beq_iff_eq.mp h]
  · cases h
theorem trClr_ok (C : CtxS T Γ X W) {tg iter : Expr} {body : List Stmt} {pos : Pos} (h : isClr tg iter body = true) : PS X (.For tg iter body [] pos) (bS X.cw W L (exS Γ M L (trClr T X.N X.env.scope tg iter))) := by
  unfold isClr at h
  rw [Bool.and_eq_true] at h
  unfold trClr
  split
  · rename_i a v x ht hx
    rw [hx] at h
    dsimp only at h
    by_cases hn : (match trN X.N X.env.scope x with | .nm j => j == v | _ => false) = true
    · rw [if_pos hn]
      have hb := h.2
      unfold clrB at hb
      split at hb
      · rename_i y p name apos cpos epos
        simp only [Bool.and_eq_true, beq_iff_eq] at hb
        obtain ⟨rfl, rfl, hp⟩ := hb
        refine bs_clrs (ps_for C.own C.f.calm (pi_seq (trPth_ok C ef iter)) (trT_ok rfl C.f.nd C.f.calm (fun _ h => h) (fun _ h => ⟨h, C.fnc _⟩) ef ht) ((pss_cons (ps_expr (pe_bm0 PySem.F.plainAttrs_list PySem.F.slot_list_clear PySem.F.type_list_clear mt_clear (trN_ok (trN_of hn)) (base_of rfl) (by simpa using hp)) (by rfl)) pss_nil).imp fun D σ H q => q) fun x => ?_)
        cases iter <;> first | rfl | cases h.1
      · cases hb
    · rw [if_neg hn]; exact bs_bad
  · exact bs_bad
theorem trS_ok (C : CtxS T Γ X W) : ∀ (n : Nat) (st : Stmt) (L : List Nat), PS X st (bS X.cw W L (exS Γ M L (trS T X.N n X.env.scope st)))
  | 0, st, L => bs_bad
  | n + 1, st, L => by
    have hE := fun e => (trE_ok ef C.f C.tk (S := fun _ => True) (fun _ => trivial) e).1
    have hT := fun e => (trE_ok ef C.f C.tk (S := fun _ => True) (fun _ => trivial) e).2
    have hB : ∀ (L' : List Nat) (body : List Stmt), PSs X body (bS X.cw W L' (exL Γ M L' (body.map (trS T X.N n X.env.scope)))) := fun L' body => by
      induction body with
      | nil => exact bss_nil
      | cons s ss ih => exact bss_cons (trS_ok C n s L') ih
    cases st with
    | Pass pos => exact bs_nop ps_pass
    | Expr e pos =>
      unfold trS
      dsimp only
      split
      · exact bs_nop ps_doc
      · rename_i f args kws cpos
        split
        · rename_i o name apos
          by_cases h1 : (isP o && (apos.endLine == cpos.line)) = true
          · rw [if_pos h1]
            rw [Bool.and_eq_true] at h1
            by_cases h2 : (name == ("append" : Str)) = true
            · rw [if_pos h2]
              obtain rfl : name = "append" := beq_iff_eq.mp h2
              split
              · rename_i a
                by_cases h3 : notStar a = true
                · rw [if_pos h3]
                  exact bs_app (ps_expr (pe_bm PySem.F.plainAttrs_list PySem.F.slot_list_append PySem.F.type_list_append mt_append (trPth_ok C ef o) (pa_cons (hE a) pa_nil (star_of h3)) (base_of h1.1) (few_of h3) h1.2 (star_of h3) (by rfl)) (by rfl))
                · rw [if_neg h3]; exact bs_bad
              · exact bs_bad
            · rw [if_neg h2]
              by_cases h3 : (name == ("clear" : Str)) = true
              · rw [if_pos h3]
                obtain rfl : name = "clear" := beq_iff_eq.mp h3
                split
                · exact bs_clr (ps_expr (pe_bm0 PySem.F.plainAttrs_list PySem.F.slot_list_clear PySem.F.type_list_clear mt_clear (trPth_ok C ef o) (base_of h1.1) h1.2) (by rfl))
                · exact bs_bad
              · rw [if_neg h3]; exact bs_bad
          · rw [if_neg h1]; exact bs_bad
        · exact bs_drop (ps_expr (hE _) (by rfl))
        · exact bs_bad
      · exact bs_bad
    | Return v pos =>
      unfold trS
      dsimp only
      split
      · exact bs_retN ps_retN
      · rename_i x p
        rcases trN_cases (X := X) x with ⟨i, hi⟩ | hi
        · rw [hi]; exact bs_retV (ps_ret (trN_ok hi))
        · rw [hi]; exact bs_bad
      · rename_i es k p
        split
        · rename_i h1; exact bs_retT (trRs_ok C h1)
        · exact bs_bad
      · exact bs_ret (ps_ret (hE _))
    | Assign tgs e pos =>
      unfold trS
      dsimp only
      split
      · rename_i p i tpos
        by_cases h1 : (isP p && notSl i) = true
        · rw [if_pos h1]
          have hu := C.f.hu
          exact bs_dput (ps_dput (by omega) (trPth_ok C ef p) (hE i) (hE e) (by cases e <;> rfl))
        · rw [if_neg h1]; exact bs_bad
      · rename_i x p
        cases ht : trT X.N X.env.scope ef (.Name x p) with
        | none => exact bs_bad
        | some t =>
          dsimp only
          cases hsc : (isSC e || kLC T e) with
          | true => rw [if_pos rfl]; exact bs_bad
          | false =>
            rw [if_neg Bool.false_ne_true]
            rw [Bool.or_eq_false_iff] at hsc
            exact bs_set (st_name C ht hsc.1 hsc.2)
      · rename_i ts k p
        cases ht : trT X.N X.env.scope ef (.Tuple ts k p) with
        | none => exact bs_bad
        | some t =>
          dsimp only
          cases hsc : isTup e with
          | true => rw [if_pos rfl]; exact bs_bad
          | false =>
            rw [if_neg Bool.false_ne_true]
            exact bs_set (st_tup C ht hsc)
      · exact bs_bad
    | If c a b pos => exact bs_if (hT c) (hB L a) (hB L b)
    | For tg iter body orelse pos =>
      unfold trS
      dsimp only
      split
      · by_cases hcl : isClr tg iter body = true
        · rw [if_pos hcl]
          exact trClr_ok C hcl
        rw [if_neg hcl]
        cases ht : trT X.N X.env.scope ef tg with
        | none => exact bs_bad
        | some t =>
          dsimp only
          by_cases h1 : (notSet iter && okI (trI T (trE T X.N ef X.env.scope) X.env.scope iter).1 tg) = true
          · rw [if_pos h1]
            rw [Bool.and_eq_true] at h1
            refine bs_for C.own C.f.calm (trI_ok C.f hE tg iter h1.2) (trT_ok rfl C.f.nd C.f.calm (fun _ h => h) (fun _ h => ⟨h, C.fnc _⟩) ef ht) (fun L' => hB L' body) fun x => ?_
            cases iter <;> first | rfl | cases h1.1
          · rw [if_neg h1]; exact bs_bad
      · exact bs_bad
    | _ => exact bs_bad
end
end MP

/-! MQb: defs, one behind another. -/
namespace MP
open PySem PySem.Spec PyProof.Rows L2 RZ
def sf : Nat := 40
structure WldF (T : Tb) (Γ : Gm) (P : Program) (w : World) (K : PySem.W.Frag) (mg : Str → Option Value) (base : Heap) (k : Nat) : Prop where
  sm : ∃ o, K.lookup sysModules = some o
  kit : KitF ⟨P, w, K, mg⟩ Γ
  cls : ∀ x, T.cls x = true → ∃ v u, IsCls ⟨P, w, K, mg⟩ x v u
  gl : ∀ x, T.gl x = true → ∃ d v u, Γ.glob x = some d ∧ mg x = some u ∧ RelV v u ∧ ∀ H Z, Rep ⟨P, w, K, mg⟩ H Z 0 d v []
  fr : ∀ x, T.fr x = true → mg x = none
  fn : ∀ f n, T.ar f = some n → ∃ j a fd ps, j ≤ k ∧ FnOkG P w K mg base (L2.CX P w) j a fd ps (spB ⟨P, w, K, mg⟩ (Γ.call f) n) ∧ mg f = some (.ref a) ∧ PySem.W.keepIn K (.ref a) = true ∧ Binds K fd ps []
section
variable {T : Tb} {Γ : Gm} {P : Program} {w : World} {K : PySem.W.Frag} {mg : Str → Option Value} {base : Heap} {k : Nat} {M : List Nat}
theorem reps_get {c : Cw} {H : Hp} {Z : Addr → Prop} {ds : List D} {vs : List V} (r : Reps c H Z 0 ds vs []) {i : Nat} {d : D} (h : ds[i]? = some d) : ∃ v, vs[i]? = some v ∧ Rep c H Z 0 d v [] := r.get h
theorem fn_ok {x qual : Str} {params : Arguments} {body : List Stmt} {scope : Scope} {f : Addr} {fd : FuncData} {N ps : List Str} {sms : List Sm} (Wf : WldF T Γ P w K mg base k) (F : FunD K x qual params body scope [] [] f fd) (S : FnScope N ps scope)
    (htr : body.map (trS T N sf scope) = sms) : FnOkG P w K mg base (L2.CX P w) (k + 1) f fd ps (spB ⟨P, w, K, mg⟩ (runF Γ M (N.length - ps.length) sms) ps.length) := by
  refine fnG F S (fun vs H Q E h => h.1) fun cdv A outer s H vs Q E hr hgd h => ?_
  obtain ⟨hl, ds, Z, hz, rd, hf⟩ := h
  have C : CtxS T Γ (cxOf (L2.CX P w) P w K mg base N qual scope f cdv A outer s H E) (fun cls d _ H => E cls d H) := by
    refine ⟨⟨rfl, S.nd, ?_, hgd, Wf.sm, Wf.kit, Wf.cls, Wf.gl, Wf.fr, fun g n hg => ?_⟩, takes_of rfl rfl rfl rfl, passes_of rfl, S.kind, fun _ => rfl⟩
    · have := hr.un
      show (A.deeper (envOfC qual scope s.heap.objs.size f cdv)).units + 65 < cLine
      omega
    · obtain ⟨j, a, fd', ps', hj, h1, h2, h3, h4⟩ := Wf.fn g n hg
      exact ⟨j, a, fd', ps', h1, hr.mono hj, h2, h3, h4⟩
  refine ⟨bS ⟨P, w, K, mg⟩ (fun cls d _ H => E cls d H) [] (exL Γ M [] sms), ?_, ?_⟩
  · rw [← htr]
    have hB : ∀ (body : List Stmt), PSs (cxOf (L2.CX P w) P w K mg base N qual scope f cdv A outer s H E) body (bS ⟨P, w, K, mg⟩ (fun cls d _ H => E cls d H) [] (exL Γ M [] (body.map (trS T N sf scope)))) := fun body => by
      induction body with
      | nil => exact bss_nil
      | cons st ss ih => exact bss_cons (trS_ok C sf st []) ih
    exact hB body
  · have hpl : ps.length ≤ N.length := by have := congrArg List.length S.pre; rw [List.length_take] at this; omega
    have hdl : ds.length = ps.length := rd.length.trans hl
    refine ⟨H, Z, [], Z, fun _ => [], ds.map (fun d => some (0, d, [])) ++ List.replicate (N.length - ps.length) none, ⟨hz, (fun _ _ h => by cases h), ?_, fun _ => List.nodup_nil, (fun _ _ _ h => by cases h), (fun _ _ h => by cases h), fun i k d B hi => ?_, Ext.refl H, (fun _ _ h => by cases h), fun _ q => .inl q, fun _ q => q, (fun _ h => by cases h), (fun _ h => by cases h)⟩, ?_⟩
    · simp only [L2.start, List.length_append, List.length_map, List.length_replicate]
      omega
    · by_cases hlt : i < ds.length
      · rw [List.getElem?_append_left (by simpa using hlt), List.getElem?_map] at hi
        obtain ⟨d', hd, e⟩ := Option.map_eq_some_iff.mp hi
        cases e
        obtain ⟨v, hv, rv⟩ := rd.get hd
        refine ⟨v, ?_, rv.mono (Ext.refl _) fun _ q => .inl q⟩
        unfold L2.start
        obtain ⟨hlt', _⟩ := List.getElem?_eq_some_iff.mp hv
        rw [List.getElem?_append_left (by simpa using hlt'), List.getElem?_map, hv]
        rfl
      · rw [List.getElem?_append_right (by simpa using hlt), List.getElem?_replicate] at hi
        split at hi <;> cases hi
    · have hf : Fin (match exL Γ M [] sms (ds.map (fun d => some (0, d, [])) ++ List.replicate (N.length - ps.length) none) with
        | .nx _ => Res.ok ((0, .non) : Ent)
        | .rt x => .ok x
        | .exc x _ => .exc x
        | .stuck => .stuck) _ _ := hf
      cases ho : exL Γ M [] sms (ds.map (fun d => some (0, d, [])) ++ List.replicate (N.length - ps.length) none) with
      | nx e =>
        rw [ho] at hf
        exact fun σ' H' Z' os' r => hf .non H' [] ⟨r.ext0, .non, (fun _ h => by cases h), List.nodup_nil⟩
      | rt x =>
        rw [ho] at hf
        exact fun v H' o ro => hf v H' o ro
      | exc x e =>
        rw [ho] at hf
        refine fun σ' H' Z' os' cls dd r rx => hf cls dd H' r.ext0 (rx.mono fun a q => ?_)
        rcases q with q | ⟨j, q⟩
        · rcases r.znew a q with z | z
          · exact .inl z
          · exact .inr ⟨z, r.there a q⟩
        · exact .inr ⟨r.onew j a q, r.oth j a q⟩
      | stuck => rw [ho] at hf; exact hf
/-! ### all defs of a program, the last one first -/
structure FnRec where
  name : Str
  N : List Str
  ps : List Str
  M : List Nat
  params : Arguments
  body : List Stmt
  scope : Scope
  sm : List Sm
def Tj (T : Tb) (fs : List FnRec) : Tb := { T with ar := fun x => (fs.find? fun r => r.name == x).map fun r => r.ps.length }
def Gj (g : Gm) : List FnRec → Gm
  | [] => { g with call := fun _ _ => .stuck }
  | r :: rest => { Gj g rest with call := fun f ds => if (r.name == f) = true then runF (Gj g rest) r.M (r.N.length - r.ps.length) r.sm ds else (Gj g rest).call f ds }
theorem Gj_kit (g : Gm) : ∀ fs, (Gj g fs).kit = g.kit ∧ (Gj g fs).glob = g.glob
  | [] => ⟨rfl, rfl⟩
  | _ :: rest => Gj_kit g rest
/-- what a def's record leans on -/
structure RecOk (T : Tb) (K : PySem.W.Frag) (mg : Str → Option Value) (rest : List FnRec) (r : FnRec) : Prop where
  fd : ∃ a fd, FunD K r.name r.name r.params r.body r.scope [] [] a fd ∧ mg r.name = some (.ref a) ∧ Binds K fd r.ps []
  sc : FnScope r.N r.ps r.scope
  tr : r.body.map (trS (Tj T rest) r.N sf r.scope) = r.sm
inductive RecsOk (T : Tb) (K : PySem.W.Frag) (mg : Str → Option Value) : List FnRec → Prop
  | nil : RecsOk T K mg []
  | cons {r rest} : RecOk T K mg rest r → RecsOk T K mg rest → RecsOk T K mg (r :: rest)
theorem wld {g : Gm} (sm : ∃ o, K.lookup sysModules = some o) (kit : KitF ⟨P, w, K, mg⟩ g) (cls : ∀ x, T.cls x = true → ∃ v u, IsCls ⟨P, w, K, mg⟩ x v u)
    (gl : ∀ x, T.gl x = true → ∃ d v u, g.glob x = some d ∧ mg x = some u ∧ RelV v u ∧ ∀ H Z, Rep ⟨P, w, K, mg⟩ H Z 0 d v []) (fr : ∀ x, T.fr x = true → mg x = none) :
    ∀ {fs : List FnRec}, RecsOk T K mg fs → WldF (Tj T fs) (Gj g fs) P w K mg base fs.length
  | [], _ => ⟨sm, ⟨kit.kit, kit.exc⟩, cls, gl, fr, fun f n h => by cases h⟩
  | r :: rest, .cons h hs => by
    have ih := wld sm kit cls gl fr hs
    refine ⟨sm, ⟨ih.kit.kit, ih.kit.exc⟩, cls, ?_, fr, fun f n hf => ?_⟩
    · exact ih.gl
    · obtain ⟨a, fd, hF, hm, hb⟩ := h.fd
      have hf : ((r :: rest).find? fun q => q.name == f).map (fun q => q.ps.length) = some n := hf
      rw [List.find?_cons] at hf
      cases hn : r.name == f with
      | true =>
        rw [hn] at hf
        cases hf
        obtain rfl : r.name = f := beq_iff_eq.mp hn
        refine ⟨rest.length + 1, a, fd, r.ps, Nat.le_refl _, ?_, hm, hF.kp, hb⟩
        have e : (Gj g (r :: rest)).call r.name = runF (Gj g rest) r.M (r.N.length - r.ps.length) r.sm := by
          funext ds
          show (if (r.name == r.name) = true then _ else _) = _
          rw [if_pos (by simp)]
        rw [e]
        exact fn_ok ih hF h.sc h.tr
      | false =>
        rw [hn] at hf
        obtain ⟨j, a', fd', ps', hj, h1, h2, h3, h4⟩ := ih.fn f n hf
        refine ⟨j, a', fd', ps', Nat.le_succ_of_le hj, ?_, h2, h3, h4⟩
        have e : (Gj g (r :: rest)).call f = (Gj g rest).call f := by
          funext ds
          show (if (r.name == f) = true then _ else _) = _
          rw [hn, if_neg Bool.false_ne_true]
        rw [e]
        exact h1
end
end MP

/-! MQc: a law's end. -/
namespace MP
open PySem PySem.Spec PyProof.Rows L2 RZ
/-- the law's def, called as the claim's caller does -/
theorem lawG {P : Program} {w : World} {K : PySem.W.Frag} {mg mb : Str → Option Value} {CX : CXT} {k : Nat} {fa a : Addr} {fd : FuncData} {x : Str} {sp : Sp} {t : Shared} {vs : List Value} {ns : List Int}
    (kin : K.In t.heap) (gn : t.heap.Ns mainGlobals mg) (bn : t.heap.Ns builtinsNs mb) (be : ∀ y : Str, y ≠ "__name__" → mb y = bootBuiltins y) (nl : t.heap.NoLimit) (gens : t.gens = #[])
    (oa : t.heap.get? a = some { cls := .type "list", data := .seq vs.toArray }) (isI : IntsAre vs ns) (short : ns.length ≤ sizeLine) (room : Room k callerA)
    (F : ∀ base : Heap, K.In base → base.Ns mainGlobals mg → FnOkG P w K mg base CX k fa fd [x] sp) (bind : ∀ (s : Shared) (u : Value), BindsTo s fd ⟨[u], []⟩ [(x, u)])
    (prom : ∀ H : Hp, Only H → SqL K H a (ns.map V.int) → sp [.ref a] H (fun v _ => v = .bl true) fun _ _ _ => False)
    (noX : ∀ H e s', CX [] H t (fun _ _ _ => False) e s' → False) :
    codeAny (model P w) callerA (.call (.ref fa) ⟨[.ref a], []⟩) (fun r s' => r = .ok (.ret (.bool true)) ∧ OldK t.heap s'.heap ∧ s'.os = t.os ∧ AllBare s'.gens) t := by
  have vals := vals_ints isI
  have len := isI.length
  have main : ∀ H : Hp, Only H → SqL K H a (ns.map V.int) → HOk P w H t.heap → (∀ b, H b ≠ none → b = a) → (∀ b, H b ≠ none → K.lookup a = none) →
      codeAny (model P w) callerA (.call (.ref fa) ⟨[.ref a], []⟩) (fun r s' => r = .ok (.ret (.bool true)) ∧ OldK t.heap s'.heap ∧ s'.os = t.os ∧ AllBare s'.gens) t := by
    intro H only sq ok alone out
    have dictFree : ∀ {b : Addr} {o : Obj} {es : Array DictEntry} {ep : Nat}, t.heap.get? b = some o → o.data = .dict es ep → H b = none := by
      intro b o es ep e d
      by_cases h : H b = none
      · exact h
      · rw [alone b h, oa] at e
        cases e
        exact nomatch (show Data.seq vs.toArray _ = Data.dict es ep from d)
    have keepNs : ∀ {b : Addr} {m : Str → Option Value}, t.heap.Ns b m → (hidT t.heap H).Ns b m := by
      rintro b m ⟨o, es, ep, e, d, r⟩
      exact ⟨o, es, ep, hidT_get e (dictFree e d), d, r⟩
    have kinB : K.In (hidT t.heap H) := by
      intro b o e
      refine hidT_get (kin b o e) ?_
      by_cases h : H b = none
      · exact h
      · rw [alone b h, out b h] at e
        cases e
    have env0 : Env0 P w K mg (hidT t.heap H) callerA [] t H := by
      obtain ⟨mc, l1, l2⟩ := nl
      exact ⟨rfl, ⟨kinB, keepNs gn, ⟨mb, keepNs bn, be⟩, ⟨mc, keepNs l1, l2⟩⟩, fun b o e => of_hidT e, Nat.le_of_eq (hidT_size _ _), trivial, fun b hb => (nomatch hb), ok, .of_eq gens⟩
    have call := (F _ kinB (keepNs gn)).run callerA [] t H ⟨[.ref a], []⟩ [.ref a] [.ref a] _ _ room rfl env0 (bind t (.ref a)) (.cons rfl .nil) (prom H only sq)
    refine codeAny_mono call fun r s' h => ?_
    match r, h with
    | .error e, h => exact (noX H e s' h).elim
    | .ok .next, h => exact h.elim
    | .ok .brk, h => exact h.elim
    | .ok .cont, h => exact h.elim
    | .ok (.ret u), ⟨v, H', sameOs, bare, un, ok', rel, q⟩ =>
      obtain rfl : v = .bl true := q
      obtain rfl : u = Value.bool true := rel
      refine ⟨rfl, OldK.of_keep fun b o e => ?_, sameOs, bare⟩
      rcases only b with z | ⟨ob, xs, z⟩
      · exact un.keep b o e z (fun y => nomatch y) (fun y => nomatch y)
      · obtain ⟨e1, _⟩ := ok b _ z
        obtain ⟨e2, _⟩ := ok' b _ (un.frzs b ob _ z)
        rw [← e, e1]
        exact e2
  cases lk : K.lookup a with
  | some o =>
    have same := kin a o lk
    rw [oa] at same
    cases same
    exact main (fun _ => none) (fun _ => .inl rfl) (.inr ⟨_, vs.toArray, _, lk, rfl, rfl, rfl, by rw [List.size_toArray, len]; exact short, by simpa using vals⟩) (fun b u z => nomatch (show (none : Option HO) = some u from z)) (fun b z => absurd rfl z) fun b z => absurd rfl z
  | none =>
    let ho : HO := .frz { cls := .type "list", data := .seq vs.toArray } (.lst (ns.map V.int))
    have at_a : (fun b => if b = a then some ho else none : Hp) a = some ho := if_pos rfl
    have off : ∀ b, b ≠ a → (fun b => if b = a then some ho else none : Hp) b = none := fun b h => if_neg h
    refine main (fun b => if b = a then some ho else none) (fun b => ?_) (.inl (.inr ⟨_, at_a⟩)) (fun b u z => ?_) (fun b z => ?_) fun _ _ => lk
    · by_cases h : b = a
      · exact .inr ⟨_, _, by rw [h]; exact at_a⟩
      · exact .inl (off b h)
    · by_cases h : b = a
      · subst h
        rw [at_a] at z
        cases z
        exact ⟨oa, by rw [List.length_map]; exact short, vs, _, vals, oa⟩
      · rw [off b h] at z
        cases z
    · by_cases h : b = a
      · exact h
      · exact absurd (off b h) z
/-- over a head by facts -/
theorem walkG {l : PySem.W.OpenLaw} {n k : Nat} {q : Program} {loose : List Str} {XP : (Str → Option Value) → Heap → Prop} {YP : World → Heap → Prop} {d : DefRec} {CX : World → CXT} {x : Str}
    (hn : l.most = some n) (hn2 : n ≤ sizeLine) (hdf : d.params.defaults = []) (room : Room k callerA)
    (F : ∀ (w : World) (mg : Str → Option Value) (fa : Addr) (h : Heap), YP w h → h.Ns mainGlobals mg → mg d.name = some (.ref fa) →
      ∃ (K : PySem.W.Frag) (fd : FuncData) (sp : Sp), K.In h ∧ (∀ (s : Shared) (u : Value), BindsTo s fd ⟨[u], []⟩ [(x, u)]) ∧
        (∀ (H : Hp) (a : Addr) (ns : List Int), ns.length ≤ n → Only H → SqL K H a (ns.map V.int) → sp [.ref a] H (fun v _ => v = .bl true) fun _ _ _ => False) ∧
        ∀ base : Heap, K.In base → base.Ns mainGlobals mg → FnOkG l.prog w K mg base (CX w) k fa fd [x] sp)
    (noX : ∀ (w : World) (H : Hp) (s : Shared) (e : Value) (s' : Shared), CX w [] H s (fun _ _ _ => False) e s' → False) : PySem.W.WalkO q loose XP YP l.row.toRowW d [] (fun f vs => PySem.call f vs) :=
  Att.attach_call hn hdf fun w s₀ s₁ mg mb fa o pm cd doc a vs ns G Y ho hd hcd hmg hobj hints hlen hg => by
    obtain ⟨K, fd, sp, kin, bind, prom, ok⟩ := F w mg fa _ Y G.T.g hmg
    exact lawG kin G.T.g G.T.b G.T.builtins G.T.nolimit hg hobj hints (Nat.le_trans hlen hn2) room ok bind (fun H only sq => prom H a ns hlen only sq) fun H e s' => noX w H s₁ e s'
theorem reps_ints {c : Cw} {H : Hp} {Z : Addr → Prop} : ∀ ns : List Int, Reps c H Z 0 (ns.map D.int) (ns.map V.int) []
  | [] => .nil
  | _ :: ns => .cons0 .int (reps_ints ns)
/-- the law's promise, where its run tells True -/
theorem law_prom {c : Cw} {fn : List D → Res Ent} {H : Hp} {a : Addr} {ns : List Int} {k : Nat} (only : Only H) (sq : SqL c.K H a (ns.map V.int)) (h : fn [.scr (ns.map .int)] = .ok (k, .bl true)) : spB c fn 1 [.ref a] H (fun v _ => v = .bl true) fun _ _ _ => False := by
  refine ⟨rfl, [.scr (ns.map .int)], fun b => b = a ∧ H a ≠ none, fun b q => q.1 ▸ q.2, ?_, ?_⟩
  · refine .cons0 (.scr (vs := ns.map V.int) ?_ ?_) .nil
    · rcases sq with (sq | ⟨o, sq⟩) | sq
      · exact .inl ⟨sq, rfl, by rw [sq]; exact fun z => by cases z⟩
      · exact .inr (.inl ⟨o, sq⟩)
      · exact .inr (.inr sq)
    · exact reps_ints ns
  · rw [h]
    intro v H' os r
    exact r.rep.bl_
end MP

/-! MQd: the head's facts, sys.modules among them. -/
namespace MP
open PySem PySem.Spec PyProof.Rows L2 RZ
def asM (g : Addr → Option Obj) (n : Nat) : List Addr := sysModules :: He.asD g n
abbrev AlM : Type := Bool × He.AlD
def obsM (fa : List He.Fa) (fn : List He.DefD) (ex : PySem.W.Frag → Bool) (K : PySem.W.Frag) : AlM := ((K.lookup sysModules).isSome && ex K, He.obsD fa fn K)
structure SaysM (fa : List He.Fa) (fn : List He.DefD) (ex : PySem.W.Frag → Bool) (K : PySem.W.Frag) : Prop where
  sm : ∃ o, K.lookup sysModules = some o
  ex : ex K = true
  d : He.SaysD fa fn K
def obsMG (n : Nat) (fa : List He.Fa) (fn : List He.DefD) (ex : PySem.W.Frag → Bool) (g : Addr → Option Obj) : AlM := obsM fa fn ex (He.frG g (asM g n))
def hookM (n : Nat) (fa : List He.Fa) (fn : List He.DefD) (ex : PySem.W.Frag → Bool) : PySem.W.Hook where
  α := AlM
  obs := fun s => obsMG n fa fn ex s.heap.get?
  val := fun _ => (true, He.valD fn)
  says := fun _ h => ∃ K : PySem.W.Frag, K.In h ∧ SaysM fa fn ex K
  of := fun _ _ e => by
    have e1 := congrArg Prod.fst e
    have e2 := congrArg Prod.snd e
    have e1 := Bool.and_eq_true_iff.mp e1
    exact ⟨_, He.frG_in, Option.isSome_iff_exists.mp e1.1, e1.2, e2⟩
  keeps := fun _ _ _ ⟨K, hK, c⟩ k => ⟨K, PySem.W.Frag.In.keeps hK k, c⟩
theorem obsMG_eq {n : Nat} {fa : List He.Fa} {fn : List He.DefD} {ex : PySem.W.Frag → Bool} {g : Addr → Option Obj} {s : Shared} (h : ∀ a, g a = s.heap.get? a) : obsMG n fa fn ex g = (hookM n fa fn ex).obs s := by
  obtain rfl : g = s.heap.get? := funext h
  rfl
/-! ### isinstance among built-in kinds -/
theorem kit_bi (K : PySem.W.Frag) : PySem.W.kitOne K (.type "bool") (.type "int") = some true := by rfl
theorem kit_ib (K : PySem.W.Frag) : PySem.W.kitOne K (.type "int") (.type "bool") = some false := by rfl
end MP

/-! MQe: the records of a program's defs. -/
namespace MP
open PySem PySem.Spec PyProof.Rows L2 RZ
/-- a def, by its statement; its slots' names, how many of them are parameters, the slots that are changed in place -/
structure DefI where
  name : Str
  N : List Str
  np : Nat
  M : List Nat
  st : Stmt
/-- the last one first -/
def recs (T : Tb) : List DefI → List FnRec
  | [] => []
  | d :: rest => ⟨d.name, d.N, d.N.take d.np, d.M, defArgs d.st, defBody d.st, defScope d.st, (defBody d.st).map (trS (Tj T (recs T rest)) d.N sf (defScope d.st))⟩ :: recs T rest
structure DefOk (K : PySem.W.Frag) (mg : Str → Option Value) (d : DefI) : Prop where
  fd : ∃ a fd, FunD K d.name d.name (defArgs d.st) (defBody d.st) (defScope d.st) [] [] a fd ∧ mg d.name = some (.ref a) ∧ Binds K fd (d.N.take d.np) []
  sc : FnScope d.N (d.N.take d.np) (defScope d.st)
inductive DefsOk (K : PySem.W.Frag) (mg : Str → Option Value) : List DefI → Prop
  | nil : DefsOk K mg []
  | cons {d ds} : DefOk K mg d → DefsOk K mg ds → DefsOk K mg (d :: ds)
theorem recs_ok {T : Tb} {K : PySem.W.Frag} {mg : Str → Option Value} {ds : List DefI} (h : DefsOk K mg ds) : RecsOk T K mg (recs T ds) := by
  induction h with
  | nil => exact .nil
  | cons h _ ih => exact .cons ⟨h.fd, h.sc, rfl⟩ ih
theorem recs_length {T : Tb} : ∀ ds : List DefI, (recs T ds).length = ds.length
  | [] => rfl
  | _ :: ds => by simp [recs, recs_length ds]
end MP

/-! MQf: isinstance among the built-in kinds. -/
namespace MP
open PySem PySem.Spec PyProof.Rows L2 RZ
def biT : List Str := ["NoneType", "bool", "int", "str", "tuple", "list", "dict"]
def biN : List Str := ["bool", "int", "str", "tuple", "list", "dict"]
def kitB (t n : Str) : Option Bool := if (biT.contains t && biN.contains n) = true then some (t == n || (t == ("bool" : Str) && n == ("int" : Str))) else none
theorem boot_bi {n : Str} {T : String} (hn : n ∈ biN) (h : bootBuiltins n = some (.type T)) : n = Str.ofString T ∧ T ∈ ["bool", "int", "str", "tuple", "list", "dict"] := by
  simp only [biN, List.mem_cons, List.not_mem_nil, or_false] at hn
  rcases hn with rfl | rfl | rfl | rfl | rfl | rfl
  · have e : bootBuiltins ("bool" : Str) = some (.type "bool") := by decide +kernel
    rw [e] at h; cases h; exact ⟨rfl, by simp⟩
  · have e : bootBuiltins ("int" : Str) = some (.type "int") := by decide +kernel
    rw [e] at h; cases h; exact ⟨rfl, by simp⟩
  · have e : bootBuiltins ("str" : Str) = some (.type "str") := by decide +kernel
    rw [e] at h; cases h; exact ⟨rfl, by simp⟩
  · have e : bootBuiltins ("tuple" : Str) = some (.type "tuple") := by decide +kernel
    rw [e] at h; cases h; exact ⟨rfl, by simp⟩
  · have e : bootBuiltins ("list" : Str) = some (.type "list") := by decide +kernel
    rw [e] at h; cases h; exact ⟨rfl, by simp⟩
  · have e : bootBuiltins ("dict" : Str) = some (.type "dict") := by decide +kernel
    rw [e] at h; cases h; exact ⟨rfl, by simp⟩
def kitAll (tn : String) : Prop := ∀ (K : PySem.W.Frag) (T : String), T ∈ ["bool", "int", "str", "tuple", "list", "dict"] → PySem.W.kitOne K (.type tn) (.type T) = some (Str.ofString tn == Str.ofString T || (Str.ofString tn == ("bool" : Str) && Str.ofString T == ("int" : Str)))
theorem kitAll_of {tn : String} (h : ∀ K : PySem.W.Frag, ∀ T ∈ ["bool", "int", "str", "tuple", "list", "dict"], PySem.W.kitOne K (.type tn) (.type T) = some (Str.ofString tn == Str.ofString T || (Str.ofString tn == ("bool" : Str) && Str.ofString T == ("int" : Str)))) : kitAll tn := fun K T hT => h K T hT
theorem kit_non : kitAll "NoneType" := fun K T hT => by
  simp only [List.mem_cons, List.not_mem_nil, or_false] at hT
  rcases hT with rfl | rfl | rfl | rfl | rfl | rfl <;> rfl
theorem kit_bl : kitAll "bool" := fun K T hT => by
  simp only [List.mem_cons, List.not_mem_nil, or_false] at hT
  rcases hT with rfl | rfl | rfl | rfl | rfl | rfl <;> rfl
theorem kit_int : kitAll "int" := fun K T hT => by
  simp only [List.mem_cons, List.not_mem_nil, or_false] at hT
  rcases hT with rfl | rfl | rfl | rfl | rfl | rfl <;> rfl
theorem kit_str : kitAll "str" := fun K T hT => by
  simp only [List.mem_cons, List.not_mem_nil, or_false] at hT
  rcases hT with rfl | rfl | rfl | rfl | rfl | rfl <;> rfl
theorem kit_tup : kitAll "tuple" := fun K T hT => by
  simp only [List.mem_cons, List.not_mem_nil, or_false] at hT
  rcases hT with rfl | rfl | rfl | rfl | rfl | rfl <;> rfl
theorem kit_lst : kitAll "list" := fun K T hT => by
  simp only [List.mem_cons, List.not_mem_nil, or_false] at hT
  rcases hT with rfl | rfl | rfl | rfl | rfl | rfl <;> rfl
theorem kit_dct : kitAll "dict" := fun K T hT => by
  simp only [List.mem_cons, List.not_mem_nil, or_false] at hT
  rcases hT with rfl | rfl | rfl | rfl | rfl | rfl <;> rfl
theorem kitF_bi {c : Cw} {Γ : Gm} (hk : Γ.kit = kitB) (free : ∀ n ∈ biT, c.mg n = none) : KitF c Γ := by
  have inv : ∀ {t n : Str} {b : Bool}, Γ.kit t n = some b → t ∈ biT ∧ n ∈ biN ∧ b = (t == n || (t == ("bool" : Str) && n == ("int" : Str))) := fun {t n b} h => by
    rw [hk] at h
    unfold kitB at h
    obtain ⟨h1, h2⟩ := ite_of h
    simp only [Bool.and_eq_true, List.contains_iff_mem] at h1
    exact ⟨h1.1, h1.2, h2⟩
  have sub : ∀ n ∈ biN, n ∈ biT := fun n hn => List.mem_cons_of_mem _ hn
  refine ⟨fun t n b h tv v u ht hc => ?_, fun t n b C h hm => ?_⟩
  · obtain ⟨h1, h2, rfl⟩ := inv h
    cases hc with
    | own hm => rw [free n (sub n h2)] at hm; cases hm
    | @bt T _ hb _ =>
      obtain ⟨rfl, hT⟩ := boot_bi h2 hb
      cases ht with
      | non => exact kit_non c.K T hT
      | bl => exact kit_bl c.K T hT
      | int => exact kit_int c.K T hT
      | str => exact kit_str c.K T hT
      | tup => exact kit_tup c.K T hT
      | lst => exact kit_lst c.K T hT
      | dct => exact kit_dct c.K T hT
      | exc hm _ => rw [free t h1] at hm; cases hm
  · obtain ⟨h1, _, _⟩ := inv h
    rw [free t h1] at hm
    cases hm
end MP

namespace MP.Head
open PySem PySem.Spec PyProof.Rows L2
def top (i : Nat) : Stmt := PySem.Challenge.pw_roundhand_k58_called_otherwise.main.body.getD i (.Pass ⟨0, 0, 0, 0⟩)
def dd (x : Str) (i : Nat) : He.DefD := ⟨(x, none), x, x, defArgs (top i), defBody (top i), defScope (top i), [], []⟩
def fn : List He.DefD := [dd "is_whole" 3, dd "is_within" 4, dd "is_name" 5, dd "many_stores" 6, dd "is_tuple" 19, dd "is_box" 20, dd "look_at_boxes" 21, dd "look_at_procs" 22, dd "worths_of" 23, dd "are_tos" 24, dd "is_row_of_box" 25, dd "is_row" 26, dd "look_at_rows" 27, dd "look_at_hands" 28, dd "look_at" 29, dd "are_names" 31, dd "look_at_names" 32, dd "called_row" 33, dd "called" 34, dd "_law_cell_at" 36, dd "_law_digits" 37, dd "_law_name" 38, dd "_law_to_row" 39, dd "_law_plan" 40, dd "_law_program" 41, dd "_law_others" 42, dd "_law_due" 43, dd "_law_back" 44, dd "law" 45]
def fa1 : List He.Fa := [.glo "is_whole", .glo "is_within", .glo "is_name", .glo "many_stores", .glo "is_tuple", .glo "is_box", .glo "look_at_boxes", .glo "look_at_procs", .glo "worths_of", .glo "are_tos", .glo "is_row_of_box", .glo "is_row", .glo "look_at_rows", .glo "look_at_hands", .glo "look_at", .glo "are_names", .glo "look_at_names", .glo "called_row", .glo "called", .glo "_law_cell_at", .glo "_law_digits", .glo "_law_name", .glo "_law_to_row", .glo "_law_plan", .glo "_law_program", .glo "_law_others", .glo "_law_due", .glo "_law_back", .glo "law"]
def fa2 : List He.Fa := [.free "len", .free "abs", .free "all", .free "dict", .free "int", .free "list", .free "sum", .free "tuple", .free "str", .free "max", .free "min", .free "isinstance", .free "range", .free "enumerate", .free "zip", .free "repr", .free "bool", .free "NoneType"]
def fa3 : List He.Fa := [.int "LONGEST" 8, .int "MOST_BOXES" 3, .int "MOST_WORTHS" 6, .int "MOST_STORES" 8, .int "MOST_PROCS" 6, .int "MOST_ROWS" 8, .int "MOST_HANDS" 3, .int "MOST_WAYS" 4, .str "LETTERS" "abcdefghijklmnopqrstuvwxyz"]
def fa : List He.Fa := fa1 ++ (fa2 ++ fa3)
abbrev R : PySem.W.OpenRow := PySem.W.OpenLaw.row PySem.Challenge.rw_roundhand_k58_called_otherwise
abbrev hk : PySem.W.Hook := hookM 4 fa fn fun _ => true
def ob (s : PySem.W.SharedT) : AlM := obsMG 4 fa fn (fun _ => true) (HandSHeadRun.getT s)
theorem ob_eq (s : PySem.W.SharedT) : ob s = hk.obs s.abs := obsMG_eq (HandSHeadRun.getT_eq s)
def lo0 : List Str := ["LETTERS", "LONGEST", "is_whole", "is_within", "is_name", "many_stores", "HandError", "NoProgram", "NoNames", "MOST_BOXES", "MOST_WORTHS", "MOST_STORES", "MOST_PROCS", "MOST_ROWS", "MOST_HANDS", "MOST_WAYS", "is_tuple", "is_box", "look_at_boxes", "look_at_procs", "worths_of", "are_tos", "is_row_of_box", "is_row", "look_at_rows", "look_at_hands", "look_at", "are_names", "look_at_names", "called_row"]
def lo1 : List Str := ["called", "_law_cell_at", "_law_digits", "_law_name", "_law_to_row", "_law_plan", "_law_program", "_law_others", "_law_due", "_law_back"]
def loose : List Str := lo0 ++ lo1
theorem run (w : World) : HandSHeadRun.RunEq R (PySem.W.view R.prog [45]) hk ob 3000 loose w := by
  intro os
  kernel_rfl
end MP.Head

namespace MP.Head
open PySem PySem.Spec PyProof.Rows L2 RZ
def d0 : DefI := ⟨"is_whole", ["thing"], 1, [], top 3⟩
theorem ok0 {K : PySem.W.Frag} {mg : Str → Option Value} {h : Heap} (X : K.In h) (G : h.Ns mainGlobals mg) (c : He.SaysD fa fn K) : DefOk K mg d0 := by
  obtain ⟨fd, F⟩ := c.def_ 0 (d := dd "is_whole" 3) rfl
  exact ⟨⟨_, fd, F, He.glo_ok X G (c.fact 0 (f := .glo "is_whole") rfl), FunD.bindsN (ps := d0.N.take d0.np) F fun _ _ _ _ _ _ us hl => match us, hl with | [_], _ => rfl⟩, ⟨rfl, rfl, rfl, by decide +kernel, rfl, by decide +kernel, by decide +kernel⟩⟩
def d1 : DefI := ⟨"is_within", ["thing", "low", "high"], 3, [], top 4⟩
theorem ok1 {K : PySem.W.Frag} {mg : Str → Option Value} {h : Heap} (X : K.In h) (G : h.Ns mainGlobals mg) (c : He.SaysD fa fn K) : DefOk K mg d1 := by
  obtain ⟨fd, F⟩ := c.def_ 1 (d := dd "is_within" 4) rfl
  exact ⟨⟨_, fd, F, He.glo_ok X G (c.fact 1 (f := .glo "is_within") rfl), FunD.bindsN (ps := d1.N.take d1.np) F fun _ _ _ _ _ _ us hl => match us, hl with | [_, _, _], _ => rfl⟩, ⟨rfl, rfl, rfl, by decide +kernel, rfl, by decide +kernel, by decide +kernel⟩⟩
def d2 : DefI := ⟨"is_name", ["thing", ".0", "sign"], 1, [], top 5⟩
theorem ok2 {K : PySem.W.Frag} {mg : Str → Option Value} {h : Heap} (X : K.In h) (G : h.Ns mainGlobals mg) (c : He.SaysD fa fn K) : DefOk K mg d2 := by
  obtain ⟨fd, F⟩ := c.def_ 2 (d := dd "is_name" 5) rfl
  exact ⟨⟨_, fd, F, He.glo_ok X G (c.fact 2 (f := .glo "is_name") rfl), FunD.bindsN (ps := d2.N.take d2.np) F fun _ _ _ _ _ _ us hl => match us, hl with | [_], _ => rfl⟩, ⟨rfl, rfl, rfl, by decide +kernel, rfl, by decide +kernel, by decide +kernel⟩⟩
def d3 : DefI := ⟨"many_stores", ["boxes", "many", "name", "worths", "first"], 1, [1], top 6⟩
theorem ok3 {K : PySem.W.Frag} {mg : Str → Option Value} {h : Heap} (X : K.In h) (G : h.Ns mainGlobals mg) (c : He.SaysD fa fn K) : DefOk K mg d3 := by
  obtain ⟨fd, F⟩ := c.def_ 3 (d := dd "many_stores" 6) rfl
  exact ⟨⟨_, fd, F, He.glo_ok X G (c.fact 3 (f := .glo "many_stores") rfl), FunD.bindsN (ps := d3.N.take d3.np) F fun _ _ _ _ _ _ us hl => match us, hl with | [_], _ => rfl⟩, ⟨rfl, rfl, rfl, by decide +kernel, rfl, by decide +kernel, by decide +kernel⟩⟩
def d4 : DefI := ⟨"is_tuple", ["thing", "many"], 2, [], top 19⟩
theorem ok4 {K : PySem.W.Frag} {mg : Str → Option Value} {h : Heap} (X : K.In h) (G : h.Ns mainGlobals mg) (c : He.SaysD fa fn K) : DefOk K mg d4 := by
  obtain ⟨fd, F⟩ := c.def_ 4 (d := dd "is_tuple" 19) rfl
  exact ⟨⟨_, fd, F, He.glo_ok X G (c.fact 4 (f := .glo "is_tuple") rfl), FunD.bindsN (ps := d4.N.take d4.np) F fun _ _ _ _ _ _ us hl => match us, hl with | [_, _], _ => rfl⟩, ⟨rfl, rfl, rfl, by decide +kernel, rfl, by decide +kernel, by decide +kernel⟩⟩
def d5 : DefI := ⟨"is_box", ["thing"], 1, [], top 20⟩
theorem ok5 {K : PySem.W.Frag} {mg : Str → Option Value} {h : Heap} (X : K.In h) (G : h.Ns mainGlobals mg) (c : He.SaysD fa fn K) : DefOk K mg d5 := by
  obtain ⟨fd, F⟩ := c.def_ 5 (d := dd "is_box" 20) rfl
  exact ⟨⟨_, fd, F, He.glo_ok X G (c.fact 5 (f := .glo "is_box") rfl), FunD.bindsN (ps := d5.N.take d5.np) F fun _ _ _ _ _ _ us hl => match us, hl with | [_], _ => rfl⟩, ⟨rfl, rfl, rfl, by decide +kernel, rfl, by decide +kernel, by decide +kernel⟩⟩
def d6 : DefI := ⟨"look_at_boxes", ["boxes", "number", "box", ".0", "one"], 1, [], top 21⟩
theorem ok6 {K : PySem.W.Frag} {mg : Str → Option Value} {h : Heap} (X : K.In h) (G : h.Ns mainGlobals mg) (c : He.SaysD fa fn K) : DefOk K mg d6 := by
  obtain ⟨fd, F⟩ := c.def_ 6 (d := dd "look_at_boxes" 21) rfl
  exact ⟨⟨_, fd, F, He.glo_ok X G (c.fact 6 (f := .glo "look_at_boxes") rfl), FunD.bindsN (ps := d6.N.take d6.np) F fun _ _ _ _ _ _ us hl => match us, hl with | [_], _ => rfl⟩, ⟨rfl, rfl, rfl, by decide +kernel, rfl, by decide +kernel, by decide +kernel⟩⟩
def d7 : DefI := ⟨"look_at_procs", ["procs", "number", "proc", ".0", "one"], 1, [], top 22⟩
theorem ok7 {K : PySem.W.Frag} {mg : Str → Option Value} {h : Heap} (X : K.In h) (G : h.Ns mainGlobals mg) (c : He.SaysD fa fn K) : DefOk K mg d7 := by
  obtain ⟨fd, F⟩ := c.def_ 7 (d := dd "look_at_procs" 22) rfl
  exact ⟨⟨_, fd, F, He.glo_ok X G (c.fact 7 (f := .glo "look_at_procs") rfl), FunD.bindsN (ps := d7.N.take d7.np) F fun _ _ _ _ _ _ us hl => match us, hl with | [_], _ => rfl⟩, ⟨rfl, rfl, rfl, by decide +kernel, rfl, by decide +kernel, by decide +kernel⟩⟩
def d8 : DefI := ⟨"worths_of", ["boxes", "name", "box"], 2, [], top 23⟩
theorem ok8 {K : PySem.W.Frag} {mg : Str → Option Value} {h : Heap} (X : K.In h) (G : h.Ns mainGlobals mg) (c : He.SaysD fa fn K) : DefOk K mg d8 := by
  obtain ⟨fd, F⟩ := c.def_ 8 (d := dd "worths_of" 23) rfl
  exact ⟨⟨_, fd, F, He.glo_ok X G (c.fact 8 (f := .glo "worths_of") rfl), FunD.bindsN (ps := d8.N.take d8.np) F fun _ _ _ _ _ _ us hl => match us, hl with | [_, _], _ => rfl⟩, ⟨rfl, rfl, rfl, by decide +kernel, rfl, by decide +kernel, by decide +kernel⟩⟩
def d9 : DefI := ⟨"are_tos", ["thing", "end", ".0", "to"], 2, [], top 24⟩
theorem ok9 {K : PySem.W.Frag} {mg : Str → Option Value} {h : Heap} (X : K.In h) (G : h.Ns mainGlobals mg) (c : He.SaysD fa fn K) : DefOk K mg d9 := by
  obtain ⟨fd, F⟩ := c.def_ 9 (d := dd "are_tos" 24) rfl
  exact ⟨⟨_, fd, F, He.glo_ok X G (c.fact 9 (f := .glo "are_tos") rfl), FunD.bindsN (ps := d9.N.take d9.np) F fun _ _ _ _ _ _ us hl => match us, hl with | [_, _], _ => rfl⟩, ⟨rfl, rfl, rfl, by decide +kernel, rfl, by decide +kernel, by decide +kernel⟩⟩
def d10 : DefI := ⟨"is_row_of_box", ["row", "worths", "end", "many_hands", ".0", "to"], 4, [], top 25⟩
theorem ok10 {K : PySem.W.Frag} {mg : Str → Option Value} {h : Heap} (X : K.In h) (G : h.Ns mainGlobals mg) (c : He.SaysD fa fn K) : DefOk K mg d10 := by
  obtain ⟨fd, F⟩ := c.def_ 10 (d := dd "is_row_of_box" 25) rfl
  exact ⟨⟨_, fd, F, He.glo_ok X G (c.fact 10 (f := .glo "is_row_of_box") rfl), FunD.bindsN (ps := d10.N.take d10.np) F fun _ _ _ _ _ _ us hl => match us, hl with | [_, _, _, _], _ => rfl⟩, ⟨rfl, rfl, rfl, by decide +kernel, rfl, by decide +kernel, by decide +kernel⟩⟩
def d11 : DefI := ⟨"is_row", ["row", "program", "end", "boxes", "procs", "hands", "named", ".0", "proc"], 3, [], top 26⟩
theorem ok11 {K : PySem.W.Frag} {mg : Str → Option Value} {h : Heap} (X : K.In h) (G : h.Ns mainGlobals mg) (c : He.SaysD fa fn K) : DefOk K mg d11 := by
  obtain ⟨fd, F⟩ := c.def_ 11 (d := dd "is_row" 26) rfl
  exact ⟨⟨_, fd, F, He.glo_ok X G (c.fact 11 (f := .glo "is_row") rfl), FunD.bindsN (ps := d11.N.take d11.np) F fun _ _ _ _ _ _ us hl => match us, hl with | [_, _, _], _ => rfl⟩, ⟨rfl, rfl, rfl, by decide +kernel, rfl, by decide +kernel, by decide +kernel⟩⟩
def d12 : DefI := ⟨"look_at_rows", ["program", "number", "proc", "at", "row"], 1, [], top 27⟩
theorem ok12 {K : PySem.W.Frag} {mg : Str → Option Value} {h : Heap} (X : K.In h) (G : h.Ns mainGlobals mg) (c : He.SaysD fa fn K) : DefOk K mg d12 := by
  obtain ⟨fd, F⟩ := c.def_ 12 (d := dd "look_at_rows" 27) rfl
  exact ⟨⟨_, fd, F, He.glo_ok X G (c.fact 12 (f := .glo "look_at_rows") rfl), FunD.bindsN (ps := d12.N.take d12.np) F fun _ _ _ _ _ _ us hl => match us, hl with | [_], _ => rfl⟩, ⟨rfl, rfl, rfl, by decide +kernel, rfl, by decide +kernel, by decide +kernel⟩⟩
def d13 : DefI := ⟨"look_at_hands", ["hands", "procs", "names", "number", "hand", ".0", "proc", "one"], 2, [], top 28⟩
theorem ok13 {K : PySem.W.Frag} {mg : Str → Option Value} {h : Heap} (X : K.In h) (G : h.Ns mainGlobals mg) (c : He.SaysD fa fn K) : DefOk K mg d13 := by
  obtain ⟨fd, F⟩ := c.def_ 13 (d := dd "look_at_hands" 28) rfl
  exact ⟨⟨_, fd, F, He.glo_ok X G (c.fact 13 (f := .glo "look_at_hands") rfl), FunD.bindsN (ps := d13.N.take d13.np) F fun _ _ _ _ _ _ us hl => match us, hl with | [_, _], _ => rfl⟩, ⟨rfl, rfl, rfl, by decide +kernel, rfl, by decide +kernel, by decide +kernel⟩⟩
def d14 : DefI := ⟨"look_at", ["thing", ".0", "part"], 1, [], top 29⟩
theorem ok14 {K : PySem.W.Frag} {mg : Str → Option Value} {h : Heap} (X : K.In h) (G : h.Ns mainGlobals mg) (c : He.SaysD fa fn K) : DefOk K mg d14 := by
  obtain ⟨fd, F⟩ := c.def_ 14 (d := dd "look_at" 29) rfl
  exact ⟨⟨_, fd, F, He.glo_ok X G (c.fact 14 (f := .glo "look_at") rfl), FunD.bindsN (ps := d14.N.take d14.np) F fun _ _ _ _ _ _ us hl => match us, hl with | [_], _ => rfl⟩, ⟨rfl, rfl, rfl, by decide +kernel, rfl, by decide +kernel, by decide +kernel⟩⟩
def d15 : DefI := ⟨"are_names", ["rows", "thing", "found", "row"], 2, [2], top 31⟩
theorem ok15 {K : PySem.W.Frag} {mg : Str → Option Value} {h : Heap} (X : K.In h) (G : h.Ns mainGlobals mg) (c : He.SaysD fa fn K) : DefOk K mg d15 := by
  obtain ⟨fd, F⟩ := c.def_ 15 (d := dd "are_names" 31) rfl
  exact ⟨⟨_, fd, F, He.glo_ok X G (c.fact 15 (f := .glo "are_names") rfl), FunD.bindsN (ps := d15.N.take d15.np) F fun _ _ _ _ _ _ us hl => match us, hl with | [_, _], _ => rfl⟩, ⟨rfl, rfl, rfl, by decide +kernel, rfl, by decide +kernel, by decide +kernel⟩⟩
def d16 : DefI := ⟨"look_at_names", ["program", "names", ".0", "rows", "thing"], 2, [], top 32⟩
theorem ok16 {K : PySem.W.Frag} {mg : Str → Option Value} {h : Heap} (X : K.In h) (G : h.Ns mainGlobals mg) (c : He.SaysD fa fn K) : DefOk K mg d16 := by
  obtain ⟨fd, F⟩ := c.def_ 16 (d := dd "look_at_names" 32) rfl
  exact ⟨⟨_, fd, F, He.glo_ok X G (c.fact 16 (f := .glo "look_at_names") rfl), FunD.bindsN (ps := d16.N.take d16.np) F fun _ _ _ _ _ _ us hl => match us, hl with | [_, _], _ => rfl⟩, ⟨rfl, rfl, rfl, by decide +kernel, rfl, by decide +kernel, by decide +kernel⟩⟩
def d17 : DefI := ⟨"called_row", ["row", "boxes", "procs"], 3, [0], top 33⟩
theorem ok17 {K : PySem.W.Frag} {mg : Str → Option Value} {h : Heap} (X : K.In h) (G : h.Ns mainGlobals mg) (c : He.SaysD fa fn K) : DefOk K mg d17 := by
  obtain ⟨fd, F⟩ := c.def_ 17 (d := dd "called_row" 33) rfl
  exact ⟨⟨_, fd, F, He.glo_ok X G (c.fact 17 (f := .glo "called_row") rfl), FunD.bindsN (ps := d17.N.take d17.np) F fun _ _ _ _ _ _ us hl => match us, hl with | [_, _, _], _ => rfl⟩, ⟨rfl, rfl, rfl, by decide +kernel, rfl, by decide +kernel, by decide +kernel⟩⟩
def d18 : DefI := ⟨"called", ["program", "names", "boxes", "procs", "hands", "rows", "name", "old", ".0", "row", "worths", "first", "proc"], 2, [5], top 34⟩
theorem ok18 {K : PySem.W.Frag} {mg : Str → Option Value} {h : Heap} (X : K.In h) (G : h.Ns mainGlobals mg) (c : He.SaysD fa fn K) : DefOk K mg d18 := by
  obtain ⟨fd, F⟩ := c.def_ 18 (d := dd "called" 34) rfl
  exact ⟨⟨_, fd, F, He.glo_ok X G (c.fact 18 (f := .glo "called") rfl), FunD.bindsN (ps := d18.N.take d18.np) F fun _ _ _ _ _ _ us hl => match us, hl with | [_, _], _ => rfl⟩, ⟨rfl, rfl, rfl, by decide +kernel, rfl, by decide +kernel, by decide +kernel⟩⟩
def d19 : DefI := ⟨"_law_cell_at", ["_law_script", "_law_k"], 2, [], top 36⟩
theorem ok19 {K : PySem.W.Frag} {mg : Str → Option Value} {h : Heap} (X : K.In h) (G : h.Ns mainGlobals mg) (c : He.SaysD fa fn K) : DefOk K mg d19 := by
  obtain ⟨fd, F⟩ := c.def_ 19 (d := dd "_law_cell_at" 36) rfl
  exact ⟨⟨_, fd, F, He.glo_ok X G (c.fact 19 (f := .glo "_law_cell_at") rfl), FunD.bindsN (ps := d19.N.take d19.np) F fun _ _ _ _ _ _ us hl => match us, hl with | [_, _], _ => rfl⟩, ⟨rfl, rfl, rfl, by decide +kernel, rfl, by decide +kernel, by decide +kernel⟩⟩
def d20 : DefI := ⟨"_law_digits", ["_law_cell", "_law_turn", "_law_sizes", "_law_number", "_law_wide", "_law_seed", "_law_found", "_law_k", "_law_size"], 3, [6], top 37⟩
theorem ok20 {K : PySem.W.Frag} {mg : Str → Option Value} {h : Heap} (X : K.In h) (G : h.Ns mainGlobals mg) (c : He.SaysD fa fn K) : DefOk K mg d20 := by
  obtain ⟨fd, F⟩ := c.def_ 20 (d := dd "_law_digits" 37) rfl
  exact ⟨⟨_, fd, F, He.glo_ok X G (c.fact 20 (f := .glo "_law_digits") rfl), FunD.bindsN (ps := d20.N.take d20.np) F fun _ _ _ _ _ _ us hl => match us, hl with | [_, _, _], _ => rfl⟩, ⟨rfl, rfl, rfl, by decide +kernel, rfl, by decide +kernel, by decide +kernel⟩⟩
def d21 : DefI := ⟨"_law_name", ["_law_number", "_law_k", "_law_stem", "_law_more"], 2, [], top 38⟩
theorem ok21 {K : PySem.W.Frag} {mg : Str → Option Value} {h : Heap} (X : K.In h) (G : h.Ns mainGlobals mg) (c : He.SaysD fa fn K) : DefOk K mg d21 := by
  obtain ⟨fd, F⟩ := c.def_ 21 (d := dd "_law_name" 38) rfl
  exact ⟨⟨_, fd, F, He.glo_ok X G (c.fact 21 (f := .glo "_law_name") rfl), FunD.bindsN (ps := d21.N.take d21.np) F fun _ _ _ _ _ _ us hl => match us, hl with | [_, _], _ => rfl⟩, ⟨rfl, rfl, rfl, by decide +kernel, rfl, by decide +kernel, by decide +kernel⟩⟩
def d22 : DefI := ⟨"_law_to_row", ["_law_d", "_law_worths", "_law_end", "_law_hands", "_law_tos", "_law_box", "_law_one", "_law_other", "_law_stops", ".0", "_law_j"], 4, [5, 6, 7], top 39⟩
theorem ok22 {K : PySem.W.Frag} {mg : Str → Option Value} {h : Heap} (X : K.In h) (G : h.Ns mainGlobals mg) (c : He.SaysD fa fn K) : DefOk K mg d22 := by
  obtain ⟨fd, F⟩ := c.def_ 22 (d := dd "_law_to_row" 39) rfl
  exact ⟨⟨_, fd, F, He.glo_ok X G (c.fact 22 (f := .glo "_law_to_row") rfl), FunD.bindsN (ps := d22.N.take d22.np) F fun _ _ _ _ _ _ us hl => match us, hl with | [_, _, _, _], _ => rfl⟩, ⟨rfl, rfl, rfl, by decide +kernel, rfl, by decide +kernel, by decide +kernel⟩⟩
def d23 : DefI := ⟨"_law_plan", ["_law_script", "_law_most_procs", "_law_most_rows", "_law_most_hands", "_law_menu", "_law_head", "_law_worths", "_law_k", "_law_firsts", "_law_many", "_law_hands", "_law_procs", "_law_row", "_law_end", ".0", "_law_j"], 5, [11, 6, 8, 10], top 40⟩
theorem ok23 {K : PySem.W.Frag} {mg : Str → Option Value} {h : Heap} (X : K.In h) (G : h.Ns mainGlobals mg) (c : He.SaysD fa fn K) : DefOk K mg d23 := by
  obtain ⟨fd, F⟩ := c.def_ 23 (d := dd "_law_plan" 40) rfl
  exact ⟨⟨_, fd, F, He.glo_ok X G (c.fact 23 (f := .glo "_law_plan") rfl), FunD.bindsN (ps := d23.N.take d23.np) F fun _ _ _ _ _ _ us hl => match us, hl with | [_, _, _, _, _], _ => rfl⟩, ⟨rfl, rfl, rfl, by decide +kernel, rfl, by decide +kernel, by decide +kernel⟩⟩
def d24 : DefI := ⟨"_law_program", ["_law_plan_here", "_law_number", "_law_worths", "_law_firsts", "_law_procs", "_law_hands", "_law_k", "_law_boxes", "_law_titles", "_law_rows", "_law_proc", "_law_built", "_law_row", ".0"], 2, [11, 9, 7], top 41⟩
theorem ok24 {K : PySem.W.Frag} {mg : Str → Option Value} {h : Heap} (X : K.In h) (G : h.Ns mainGlobals mg) (c : He.SaysD fa fn K) : DefOk K mg d24 := by
  obtain ⟨fd, F⟩ := c.def_ 24 (d := dd "_law_program" 41) rfl
  exact ⟨⟨_, fd, F, He.glo_ok X G (c.fact 24 (f := .glo "_law_program") rfl), FunD.bindsN (ps := d24.N.take d24.np) F fun _ _ _ _ _ _ us hl => match us, hl with | [_, _], _ => rfl⟩, ⟨rfl, rfl, rfl, by decide +kernel, rfl, by decide +kernel, by decide +kernel⟩⟩
def d25 : DefI := ⟨"_law_others", ["_law_rows", "_law_d", "_law_k", "_law_titles", "_law_at", ".0", "_law_row", "_law_name_here", "_law_other", "_law_j"], 3, [], top 42⟩
theorem ok25 {K : PySem.W.Frag} {mg : Str → Option Value} {h : Heap} (X : K.In h) (G : h.Ns mainGlobals mg) (c : He.SaysD fa fn K) : DefOk K mg d25 := by
  obtain ⟨fd, F⟩ := c.def_ 25 (d := dd "_law_others" 42) rfl
  exact ⟨⟨_, fd, F, He.glo_ok X G (c.fact 25 (f := .glo "_law_others") rfl), FunD.bindsN (ps := d25.N.take d25.np) F fun _ _ _ _ _ _ us hl => match us, hl with | [_, _, _], _ => rfl⟩, ⟨rfl, rfl, rfl, by decide +kernel, rfl, by decide +kernel, by decide +kernel⟩⟩
def d26 : DefI := ⟨"_law_due", ["_law_program_here", "_law_names", "_law_boxes", "_law_procs", "_law_hands", "_law_rows", "_law_name_here", "_law_old", "_law_some", "_law_row", "_law_first", ".0", "_law_worths", "_law_holds", "_law_proc"], 2, [8, 5, 10], top 43⟩
theorem ok26 {K : PySem.W.Frag} {mg : Str → Option Value} {h : Heap} (X : K.In h) (G : h.Ns mainGlobals mg) (c : He.SaysD fa fn K) : DefOk K mg d26 := by
  obtain ⟨fd, F⟩ := c.def_ 26 (d := dd "_law_due" 43) rfl
  exact ⟨⟨_, fd, F, He.glo_ok X G (c.fact 26 (f := .glo "_law_due") rfl), FunD.bindsN (ps := d26.N.take d26.np) F fun _ _ _ _ _ _ us hl => match us, hl with | [_, _], _ => rfl⟩, ⟨rfl, rfl, rfl, by decide +kernel, rfl, by decide +kernel, by decide +kernel⟩⟩
def d27 : DefI := ⟨"_law_back", ["_law_names", ".0", "_law_one", "_law_name_here"], 1, [], top 44⟩
theorem ok27 {K : PySem.W.Frag} {mg : Str → Option Value} {h : Heap} (X : K.In h) (G : h.Ns mainGlobals mg) (c : He.SaysD fa fn K) : DefOk K mg d27 := by
  obtain ⟨fd, F⟩ := c.def_ 27 (d := dd "_law_back" 44) rfl
  exact ⟨⟨_, fd, F, He.glo_ok X G (c.fact 27 (f := .glo "_law_back") rfl), FunD.bindsN (ps := d27.N.take d27.np) F fun _ _ _ _ _ _ us hl => match us, hl with | [_], _ => rfl⟩, ⟨rfl, rfl, rfl, by decide +kernel, rfl, by decide +kernel, by decide +kernel⟩⟩
def d28 : DefI := ⟨"law", ["_law_script", "_law_menu", "_law_plan_here", "_law_program_here", "_law_k", "_law_d", "_law_names", "_law_handed", "_law_kept", "_law_found", "_law_due_here", "_law_name_here", "_law_rows", ".0", "_law_j"], 1, [9, 6], top 45⟩
theorem ok28 {K : PySem.W.Frag} {mg : Str → Option Value} {h : Heap} (X : K.In h) (G : h.Ns mainGlobals mg) (c : He.SaysD fa fn K) : DefOk K mg d28 := by
  obtain ⟨fd, F⟩ := c.def_ 28 (d := dd "law" 45) rfl
  exact ⟨⟨_, fd, F, He.glo_ok X G (c.fact 28 (f := .glo "law") rfl), FunD.bindsN (ps := d28.N.take d28.np) F fun _ _ _ _ _ _ us hl => match us, hl with | [_], _ => rfl⟩, ⟨rfl, rfl, rfl, by decide +kernel, rfl, by decide +kernel, by decide +kernel⟩⟩
def defs : List DefI := [d28, d27, d26, d25, d24, d23, d22, d21, d20, d19, d18, d17, d16, d15, d14, d13, d12, d11, d10, d9, d8, d7, d6, d5, d4, d3, d2, d1, d0]
theorem defs_ok {K : PySem.W.Frag} {mg : Str → Option Value} {h : Heap} (X : K.In h) (G : h.Ns mainGlobals mg) (c : He.SaysD fa fn K) : DefsOk K mg defs := .cons (ok28 X G c) (.cons (ok27 X G c) (.cons (ok26 X G c) (.cons (ok25 X G c) (.cons (ok24 X G c) (.cons (ok23 X G c) (.cons (ok22 X G c) (.cons (ok21 X G c) (.cons (ok20 X G c) (.cons (ok19 X G c) (.cons (ok18 X G c) (.cons (ok17 X G c) (.cons (ok16 X G c) (.cons (ok15 X G c) (.cons (ok14 X G c) (.cons (ok13 X G c) (.cons (ok12 X G c) (.cons (ok11 X G c) (.cons (ok10 X G c) (.cons (ok9 X G c) (.cons (ok8 X G c) (.cons (ok7 X G c) (.cons (ok6 X G c) (.cons (ok5 X G c) (.cons (ok4 X G c) (.cons (ok3 X G c) (.cons (ok2 X G c) (.cons (ok1 X G c) (.cons (ok0 X G c) (.nil)))))))))))))))))))))))))))))
end MP.Head

namespace MP.Head
open PySem PySem.Spec PyProof.Rows L2 RZ
def cInts : List (Str × Int) := [("LONGEST", 8), ("MOST_BOXES", 3), ("MOST_WORTHS", 6), ("MOST_STORES", 8), ("MOST_PROCS", 6), ("MOST_ROWS", 8), ("MOST_HANDS", 3), ("MOST_WAYS", 4)]
def cStrs : List (Str × Str) := [("LETTERS", "abcdefghijklmnopqrstuvwxyz")]
def free : List Str := ["len", "abs", "all", "dict", "int", "list", "sum", "tuple", "str", "max", "min", "isinstance", "range", "enumerate", "zip", "repr", "bool"]
def T : Tb := ⟨fun _ => none, fun x => biN.contains x, fun x => (cInts.map (·.1)).contains x || (cStrs.map (·.1)).contains x, fun x => free.contains x, fun x => x == ("_law_one" : Str)⟩
def g : Gm := ⟨fun _ _ => .stuck, fun x => match cInts.lookup x with
  | some i => some (.int i)
  | none => (cStrs.lookup x).map .str, fun _ => none, kitB⟩
def Γ : Gm := Gj g (recs T defs)
theorem noX (P : Program) (w : World) (H : Hp) (s : Shared) (e : Value) (s' : Shared) (h : L2.CX P w [] H s (fun _ _ _ => False) e s') : False := by
  obtain ⟨a, B, H', cls, d, h⟩ := h
  exact h.2.2.2.2.2.2.2
theorem world {K : PySem.W.Frag} {mg : Str → Option Value} {h base : Heap} {P : Program} {w : World} (X : K.In h) (G : h.Ns mainGlobals mg) (c : SaysM fa fn (fun _ => true) K) {ds : List DefI} (hds : DefsOk K mg ds) : WldF (Tj T (recs T ds)) (Gj g (recs T ds)) P w K mg base (recs T ds).length := by
  have fr : ∀ x, T.fr x = true → mg x = none := fun x hx => by
    have hx : x ∈ free := by simpa [T] using hx
    have : ∀ y ∈ free, mg y = none := by
      intro y hy
      simp only [free, List.mem_cons, List.not_mem_nil, or_false] at hy
      rcases hy with rfl | rfl | rfl | rfl | rfl | rfl | rfl | rfl | rfl | rfl | rfl | rfl | rfl | rfl | rfl | rfl | rfl
      · exact He.free_ok X G (c.d.fact 29 (f := .free "len") rfl)
      · exact He.free_ok X G (c.d.fact 30 (f := .free "abs") rfl)
      · exact He.free_ok X G (c.d.fact 31 (f := .free "all") rfl)
      · exact He.free_ok X G (c.d.fact 32 (f := .free "dict") rfl)
      · exact He.free_ok X G (c.d.fact 33 (f := .free "int") rfl)
      · exact He.free_ok X G (c.d.fact 34 (f := .free "list") rfl)
      · exact He.free_ok X G (c.d.fact 35 (f := .free "sum") rfl)
      · exact He.free_ok X G (c.d.fact 36 (f := .free "tuple") rfl)
      · exact He.free_ok X G (c.d.fact 37 (f := .free "str") rfl)
      · exact He.free_ok X G (c.d.fact 38 (f := .free "max") rfl)
      · exact He.free_ok X G (c.d.fact 39 (f := .free "min") rfl)
      · exact He.free_ok X G (c.d.fact 40 (f := .free "isinstance") rfl)
      · exact He.free_ok X G (c.d.fact 41 (f := .free "range") rfl)
      · exact He.free_ok X G (c.d.fact 42 (f := .free "enumerate") rfl)
      · exact He.free_ok X G (c.d.fact 43 (f := .free "zip") rfl)
      · exact He.free_ok X G (c.d.fact 44 (f := .free "repr") rfl)
      · exact He.free_ok X G (c.d.fact 45 (f := .free "bool") rfl)
    exact this x hx
  have nt : mg "NoneType" = none := He.free_ok X G (c.d.fact 46 (f := .free "NoneType") rfl)
  have kit : KitF ⟨P, w, K, mg⟩ g := kitF_bi rfl fun n hn => by
    simp only [biT, List.mem_cons, List.not_mem_nil, or_false] at hn
    rcases hn with rfl | rfl | rfl | rfl | rfl | rfl | rfl
    · exact nt
    · exact fr "bool" (by decide +kernel)
    · exact fr "int" (by decide +kernel)
    · exact fr "str" (by decide +kernel)
    · exact fr "tuple" (by decide +kernel)
    · exact fr "list" (by decide +kernel)
    · exact fr "dict" (by decide +kernel)
  refine wld c.sm kit (fun x hx => ?_) (fun x hx => ?_) fr (recs_ok hds)
  · have hx : x ∈ biN := by simpa [T] using hx
    simp only [biN, List.mem_cons, List.not_mem_nil, or_false] at hx
    rcases hx with rfl | rfl | rfl | rfl | rfl | rfl
    · exact ⟨_, _, .bt (T := "bool") (fr "bool" (by decide +kernel)) (by decide +kernel) (by decide)⟩
    · exact ⟨_, _, .bt (T := "int") (fr "int" (by decide +kernel)) (by decide +kernel) (by decide)⟩
    · exact ⟨_, _, .bt (T := "str") (fr "str" (by decide +kernel)) (by decide +kernel) (by decide)⟩
    · exact ⟨_, _, .bt (T := "tuple") (fr "tuple" (by decide +kernel)) (by decide +kernel) (by decide)⟩
    · exact ⟨_, _, .bt (T := "list") (fr "list" (by decide +kernel)) (by decide +kernel) (by decide)⟩
    · exact ⟨_, _, .bt (T := "dict") (fr "dict" (by decide +kernel)) (by decide +kernel) (by decide)⟩
  · have hx : x ∈ cInts.map (·.1) ∨ x ∈ cStrs.map (·.1) := by simpa [T] using hx
    simp only [cInts, cStrs, List.map_cons, List.map_nil, List.mem_cons, List.not_mem_nil, or_false] at hx
    rcases hx with (rfl | rfl | rfl | rfl | rfl | rfl | rfl | rfl) | rfl
    · obtain ⟨t, ht⟩ := He.int_ok X G (c.d.fact 47 (f := .int "LONGEST" 8) rfl)
      exact ⟨.int 8, .int 8, _, rfl, ht, ⟨t, rfl⟩, fun _ _ => .int⟩
    · obtain ⟨t, ht⟩ := He.int_ok X G (c.d.fact 48 (f := .int "MOST_BOXES" 3) rfl)
      exact ⟨.int 3, .int 3, _, rfl, ht, ⟨t, rfl⟩, fun _ _ => .int⟩
    · obtain ⟨t, ht⟩ := He.int_ok X G (c.d.fact 49 (f := .int "MOST_WORTHS" 6) rfl)
      exact ⟨.int 6, .int 6, _, rfl, ht, ⟨t, rfl⟩, fun _ _ => .int⟩
    · obtain ⟨t, ht⟩ := He.int_ok X G (c.d.fact 50 (f := .int "MOST_STORES" 8) rfl)
      exact ⟨.int 8, .int 8, _, rfl, ht, ⟨t, rfl⟩, fun _ _ => .int⟩
    · obtain ⟨t, ht⟩ := He.int_ok X G (c.d.fact 51 (f := .int "MOST_PROCS" 6) rfl)
      exact ⟨.int 6, .int 6, _, rfl, ht, ⟨t, rfl⟩, fun _ _ => .int⟩
    · obtain ⟨t, ht⟩ := He.int_ok X G (c.d.fact 52 (f := .int "MOST_ROWS" 8) rfl)
      exact ⟨.int 8, .int 8, _, rfl, ht, ⟨t, rfl⟩, fun _ _ => .int⟩
    · obtain ⟨t, ht⟩ := He.int_ok X G (c.d.fact 53 (f := .int "MOST_HANDS" 3) rfl)
      exact ⟨.int 3, .int 3, _, rfl, ht, ⟨t, rfl⟩, fun _ _ => .int⟩
    · obtain ⟨t, ht⟩ := He.int_ok X G (c.d.fact 54 (f := .int "MOST_WAYS" 4) rfl)
      exact ⟨.int 4, .int 4, _, rfl, ht, ⟨t, rfl⟩, fun _ _ => .int⟩
    · obtain ⟨t, ht⟩ := He.str_ok X G (c.d.fact 55 (f := .str "LETTERS" "abcdefghijklmnopqrstuvwxyz") rfl)
      exact ⟨.str "abcdefghijklmnopqrstuvwxyz", .str "abcdefghijklmnopqrstuvwxyz", _, rfl, ht, ⟨t, rfl⟩, fun _ _ => .str⟩
/-- the plain law -/
def Plain : Prop := ∀ ns : List Int, ns.length ≤ 63 → ∃ k, Γ.call "law" [.scr (ns.map .int)] = .ok (k, .bl true)
theorem holds (plain : Plain) : PySem.Challenge.rw_roundhand_k58_called_otherwise.Holds := by
  w_on; o_law
  refine HandSHeadRun.head_any (r := PySem.W.OpenLaw.row PySem.Challenge.rw_roundhand_k58_called_otherwise) (q := PySem.W.view R.prog [45]) (H := hk) (ob := ob) (M := 3000) (loose := loose) (d := HandSHeadRun.topDef R.prog 45) (kwd := []) ob_eq
    (by kernel_rfl) (fun s => by kernel_rfl) run (by kernel_rfl) (by kernel_rfl) (by kernel_rfl) (by rfl) (by first | assumption | decide +kernel) (by decide +kernel) ⟨rfl, rfl, rfl, rfl, rfl, by decide +kernel⟩ ?hw ?hc
  case hw => w_witness2
  case hc =>
    refine walkG (l := PySem.Challenge.rw_roundhand_k58_called_otherwise) (n := 63) (k := 29) (x := "_law_script") (CX := fun w => L2.CX PySem.Challenge.pw_roundhand_k58_called_otherwise w) rfl (by decide) (by kernel_rfl) ⟨rfl, by decide, by decide⟩ ?F (fun w H s e s' h => noX _ w H s e s' h)
    intro w mg fa0 h Y G hmg0
    obtain ⟨K, KX, c⟩ := Y
    have hmg : mg ("law" : Str) = some (.ref fa0) := by
      have e : (HandSHeadRun.topDef R.prog 45).name = ("law" : Str) := by kernel_rfl
      rw [← e]
      exact hmg0
    cases defs_ok KX G c.d with
    | cons hlaw hrest =>
      obtain ⟨⟨a, fd, F, hm, hb⟩, S⟩ := hlaw
      have e : fa0 = a := by
        have q := hmg.symm.trans hm
        cases q
        rfl
      subst e
      refine ⟨K, fd, spB ⟨PySem.Challenge.pw_roundhand_k58_called_otherwise, w, K, mg⟩ (Γ.call "law") 1, KX, fun s u => ?_, fun H a ns hl only sq => ?_, fun base KB GB => ?_⟩
      · exact FunD.bindsA (ps := ["_law_script"]) F (fun _ _ _ _ _ _ us hl => match us, hl with | [_], _ => rfl) s [u] rfl
      · obtain ⟨k, hk⟩ := plain ns hl
        exact law_prom only sq hk
      · have W := world (base := base) (P := PySem.Challenge.pw_roundhand_k58_called_otherwise) (w := w) KX G c hrest
        exact fn_ok (M := d28.M) W F S rfl
end MP.Head

/-! PLa: the little language, evaluated by simp. -/
namespace MP
open PySem PySem.Spec PyProof.Rows L2
section
variable {Γ : Gm} {M L : List Nat} {env : Env}
/-- a turn of a loop -/
def forB (Γ : Gm) (M B L : List Nat) (tg : Tg) (body : List Sm) (d : D) (e : Env) : Out := match bindTg M B tg (0, d) e with
      | some e' => exL Γ M (B ++ L) body e'
      | none => .stuck
/-! ### statements -/
@[simp] theorem xL_nil : exL Γ M L [] env = .nx env := (rfl)
@[simp] theorem xL_cons {s : Sm} {ss : List Sm} : exL Γ M L (s :: ss) env = andThen (exS Γ M L s env) (exL Γ M L ss) := (rfl)
@[simp] theorem an_nx {f : Env → Out} : andThen (.nx env) f = f env := (rfl)
@[simp] theorem an_rt {x : Ent} {f : Env → Out} : andThen (.rt x) f = .rt x := (rfl)
@[simp] theorem an_exc {x : D} {f : Env → Out} : andThen (.exc x env) f = .exc x env := (rfl)
@[simp] theorem rO_ok {x : Ent} {f : Ent → Out} : resO env (.ok x) f = f x := (rfl)
@[simp] theorem rO_exc {x : D} {f : Ent → Out} : resO env (.exc x) f = .exc x env := (rfl)
@[simp] theorem rB_ok {x : Bool} {f : Bool → Out} : resB env (.ok x) f = f x := (rfl)
@[simp] theorem rB_exc {x : D} {f : Bool → Out} : resB env (.exc x) f = .exc x env := (rfl)
@[simp] theorem rL_ok {x : List Ent} {f : List Ent → Out} : resL env (.ok x) f = f x := (rfl)
@[simp] theorem rD_ok {x : List D} {f : List D → Out} : resD env (.ok x) f = f x := (rfl)
@[simp] theorem rP_ok {x : Pl} {f : Pl → Out} : resP env (.ok x) f = f x := (rfl)
@[simp] theorem xS_nop : exS Γ M L .nop env = .nx env := (rfl)
@[simp] theorem xS_set {tg : Tg} {e : Ex} : exS Γ M L (.set tg e) env = resO env (evE Γ e env) fun x => match bindTg M (brw env (fv e)) tg x env with
    | some env' => .nx env'
    | none => .stuck := (rfl)
@[simp] theorem xS_seti {p i e : Ex} : exS Γ M L (.seti p i e) env = dsetS Γ L env p i e := (rfl)
@[simp] theorem xS_app {p e : Ex} : exS Γ M L (.mut .append p [e]) env = appS Γ L env p e := (rfl)
@[simp] theorem xS_clr {p : Ex} : exS Γ M L (.mut .clear p []) env = resP env (evP Γ p env) fun pl => if pl.k = 0 then .stuck else match clrF pl.d with
    | some d' => mutOut L env pl.i (pl.up d') []
    | none => .stuck := (rfl)
@[simp] theorem xS_drop {e : Ex} : exS Γ M L (.drop e) env = resO env (evE Γ e env) fun _ => .nx env := (rfl)
@[simp] theorem xS_ret {e : Ex} : exS Γ M L (.ret e) env = resO env (evE Γ e env) .rt := (rfl)
@[simp] theorem xS_retN : exS Γ M L .retN env = .rt (0, .non) := (rfl)
@[simp] theorem xS_retV {i : Nat} : exS Γ M L (.retV i) env = match env[i]? with
    | some (some (k, d, _)) => .rt (if ful k d then k else 0, d)
    | _ => .stuck := (rfl)
@[simp] theorem xS_retT {es : List Ex} : exS Γ M L (.retT es) env = resL env (evL Γ es env) fun xs =>
    if (mvs env es xs).all fu && decide (nmsOf es).Nodup && szOk xs.length then .rt (8, .tup ((mvs env es xs).map (·.2))) else match tupO xs with
      | some x => .rt x
      | none => .stuck := (rfl)
@[simp] theorem xS_ife {c : Ex} {a b : List Sm} : exS Γ M L (.ife c a b) env = resB env (evE Γ c env >>= asB) fun k => if k = true then exL Γ M L a env else exL Γ M L b env := (rfl)
@[simp] theorem xS_for {tg : Tg} {ik : IK} {its : List Ex} {body : List Sm} : exS Γ M L (.for tg ik its body) env = resD env (evL Γ its env >>= fun xs => Res.of (iterD ik (xs.map (·.2)))) fun ds => forO (forB Γ M (brw env (fv.fvs its)) L tg body) ds env := (rfl)
@[simp] theorem xS_clrs {a v : Nat} {p : Ex} : exS Γ M L (.clrs a v p) env = resP env (evP Γ p env) fun pl => clrO L env a v pl := (rfl)
/-! ### expressions -/
@[simp] theorem e_nm {i : Nat} : evE Γ (.nm i) env = match env[i]? with
    | some (some x) => .ok (0, x.2.1)
    | _ => .stuck := (rfl)
@[simp] theorem e_gl {x : Str} : evE Γ (.gl x) env = (Res.of (Γ.glob x)) >>= fun d => .ok (ent d) := (rfl)
@[simp] theorem e_non : evE Γ .non env = .ok (0, .non) := (rfl)
@[simp] theorem e_bl {b : Bool} : evE Γ (.bl b) env = .ok (0, .bl b) := (rfl)
@[simp] theorem e_int {i : Int} : evE Γ (.int i) env = .ok (0, .int i) := (rfl)
@[simp] theorem e_str {s : Str} : evE Γ (.str s) env = .ok (0, .str s) := (rfl)
@[simp] theorem e_tup {es : List Ex} : evE Γ (.tup es) env = evL Γ es env >>= fun xs => Res.of (tupO xs) := (rfl)
@[simp] theorem e_lst {es : List Ex} : evE Γ (.lst es) env = evL Γ es env >>= fun xs => Res.of (lstO xs) := (rfl)
@[simp] theorem e_bin {op : Bop} {a b : Ex} : evE Γ (.bin op a b) env = evE Γ a env >>= fun x => evE Γ b env >>= fun y => Res.of (binD op x.2 y.2) := (rfl)
@[simp] theorem e_neg {a : Ex} : evE Γ (.neg a) env = evE Γ a env >>= fun x => match x.2 with
    | .int i => .ok (ent (.int (-i)))
    | _ => .stuck := (rfl)
@[simp] theorem e_not {a : Ex} : evE Γ (.not a) env = evE Γ a env >>= fun x => asB x >>= fun b => .ok (0, .bl (!b)) := (rfl)
@[simp] theorem e_and {a b : Ex} : evE Γ (.and a b) env = evE Γ a env >>= fun x => asB x >>= fun c => if c = true then evE Γ b env else .ok (0, .bl false) := (rfl)
@[simp] theorem e_or {a b : Ex} : evE Γ (.or a b) env = evE Γ a env >>= fun x => asB x >>= fun c => if c = true then .ok (0, .bl true) else evE Γ b env := (rfl)
@[simp] theorem e_ife {c a b : Ex} : evE Γ (.ife c a b) env = evE Γ c env >>= fun x => asB x >>= fun c => if c = true then evE Γ a env else evE Γ b env := (rfl)
@[simp] theorem e_cmp {op : Cop} {a b : Ex} : evE Γ (.cmp op a b) env = evE Γ a env >>= fun x => evE Γ b env >>= fun y => Res.of (cmpD op x.2 y.2) := (rfl)
@[simp] theorem e_chain {op op2 : Cop} {a b c : Ex} : evE Γ (.chain op op2 a b c) env = evE Γ a env >>= fun x => evE Γ b env >>= fun y => Res.of (cmpD op x.2 y.2) >>= fun z => asB z >>= fun k =>
      if k = true then evE Γ c env >>= fun w => Res.of (cmpD op2 y.2 w.2) else .ok (0, .bl false) := (rfl)
@[simp] theorem e_idx {a i : Ex} : evE Γ (.idx a i) env = evE Γ a env >>= fun x => evE Γ i env >>= fun y => Res.of (idxD x.2 y.2) := (rfl)
@[simp] theorem e_slc {a lo hi : Ex} : evE Γ (.slc a lo hi) env = evE Γ a env >>= fun x => partO lo (evE Γ lo env) >>= fun l => partO hi (evE Γ hi env) >>= fun h => Res.of (slcD x.2 l h) := (rfl)
@[simp] theorem e_rev {a : Ex} : evE Γ (.rev a) env = evE Γ a env >>= fun x => match x.2 with
    | .lst ds => .ok (1, .lst ds.reverse)
    | _ => .stuck := (rfl)
@[simp] theorem e_call {f : Str} {es : List Ex} : evE Γ (.call f es) env = evL Γ es env >>= fun xs => Γ.call f (xs.map (·.2)) := (rfl)
@[simp] theorem e_blt {b : Bl} {es : List Ex} : evE Γ (.blt b es) env = evL Γ es env >>= fun xs => Res.of (bltD b (xs.map (·.2))) := (rfl)
@[simp] theorem e_rpr {a : Ex} : evE Γ (.rpr a) env = evE Γ a env >>= fun x => Res.of (rprD x.2) := (rfl)
@[simp] theorem e_tupl {a : Ex} : evE Γ (.tupl a) env = evE Γ a env >>= fun x => match x.2 with
    | .lst ds => .ok (if fu x = true then 8 else 0, .tup ds)
    | .tup ds => .ok (x.1, .tup ds)
    | _ => .stuck := (rfl)
@[simp] theorem e_isi {a : Ex} {cs : List Str} : evE Γ (.isi a cs) env = evE Γ a env >>= fun x => Res.of (isiA Γ x.2 cs) := (rfl)
@[simp] theorem l_nil : evL Γ [] env = .ok [] := (rfl)
@[simp] theorem l_cons {e : Ex} {es : List Ex} : evL Γ (e :: es) env = evE Γ e env >>= fun x => evL Γ es env >>= fun xs => .ok (x :: xs) := (rfl)
@[simp] theorem c_nil : evC Γ [] env = .ok true := (rfl)
@[simp] theorem c_one {e : Ex} : evC Γ [e] env = evE Γ e env >>= asB := (rfl)
@[simp] theorem asB_bl {k : Nat} {b : Bool} : asB (k, .bl b) = .ok b := (rfl)
@[simp] theorem of_some {α : Type} {a : α} : Res.of (some a) = .ok a := (rfl)
@[simp] theorem ent_eq {d : D} : ent d = (0, d) := (rfl)
/-! ### places -/
@[simp] theorem p_nm {i : Nat} : evP Γ (.nm i) env = match env[i]? with
    | some (some (k, d, _)) => .ok ⟨i, k, d, id⟩
    | _ => .stuck := (rfl)
@[simp] theorem p_idx {p e : Ex} : evP Γ (.idx p e) env = evP Γ p env >>= fun pl => evE Γ e env >>= fun y => Res.of (stepP pl y.2) := (rfl)
@[simp] theorem b_nm {B : List Nat} {i : Nat} {x : Ent} : bindTg M B (.nm i) x env = some ((dropB i env).set i (some (if M.contains i then x.1 else 0, x.2, if ful x.1 x.2 then [] else B.filter fun j => j != i))) := (rfl)
@[simp] theorem b_tup {B : List Nat} {ts : List Tg} {k : Nat} {ds : List D} : bindTg M B (.tup ts) (k, .tup ds) env = bindTgs M B ts k ds env := (rfl)
@[simp] theorem bs_nil' {B : List Nat} {k : Nat} : bindTgs M B [] k [] env = some env := (rfl)
@[simp] theorem bs_cons' {B : List Nat} {t : Tg} {ts : List Tg} {k : Nat} {d : D} {ds : List D} : bindTgs M B (t :: ts) k (d :: ds) env = (bindTg M B t (k, d) env).bind fun env' => bindTgs M B ts k ds env' := (rfl)
@[simp] theorem dr_nil {i : Nat} : dropB i [] = [] := (rfl)
def dr1 (i : Nat) (o : Option Slt) : Option Slt := o.map fun x => (x.1, x.2.1, x.2.2.filter fun j => j != i)
@[simp] theorem dr_cons {i : Nat} {o : Option Slt} {r : Env} : dropB i (o :: r) = dr1 i o :: dropB i r := (rfl)
@[simp] theorem dr1_none {i : Nat} : dr1 i none = none := (rfl)
@[simp] theorem dr1_some {i k : Nat} {d : D} {B : List Nat} : dr1 i (some (k, d, B)) = some (k, d, B.filter fun j => j != i) := (rfl)
def wp1 (i : Nat) (o : Option Slt) : Option Slt := match o with
  | some x => if x.2.2.contains i then none else some x
  | none => none
@[simp] theorem wp_nil {i : Nat} : wipeB i [] = [] := (rfl)
@[simp] theorem wp_cons {i : Nat} {o : Option Slt} {r : Env} : wipeB i (o :: r) = wp1 i o :: wipeB i r := (rfl)
@[simp] theorem wp1_none {i : Nat} : wp1 i none = none := (rfl)
@[simp] theorem wp1_some {i k : Nat} {d : D} {B : List Nat} : wp1 i (some (k, d, B)) = if B.contains i then none else some (k, d, B) := (rfl)
@[simp] theorem w_nil : wipeE [] env = env := (rfl)
@[simp] theorem w_cons {i : Nat} {r : List Nat} : wipeE (i :: r) env = (wipeE r env).set i none := (rfl)
@[simp] theorem brw_nil : brw env [] = [] := (rfl)
/-! ### comprehensions -/
theorem mapR_ok' {α β : Type} {f : α → Res β} {g : α → β} : ∀ {l : List α}, (∀ a ∈ l, f a = .ok (g a)) → mapR f l = .ok (l.map g)
  | [], _ => rfl
  | a :: l, h => by
    show (f a >>= fun b => mapR f l >>= fun bs => Res.ok (b :: bs)) = _
    rw [h a List.mem_cons_self, res_ok_bind, mapR_ok' fun b hb => h b (List.mem_cons_of_mem _ hb)]
    rfl
/-- a comprehension, item by item -/
theorem e_lc {el : Ex} {tg : Tg} {ik : IK} {its cond : List Ex} {own : List Nat} {xs : List Ent} {ds : List D} {g : D → Option Ent} (h1 : evL Γ its env = .ok xs) (h2 : iterD ik (xs.map (·.2)) = some ds)
    (h3 : ∀ d ∈ ds, ∃ env' b, bindTg [] [] tg (0, d) (wipeE own env) = some env' ∧ evC Γ cond env' = .ok b ∧ if b = true then ∃ x, evE Γ el env' = .ok x ∧ g d = some x else g d = none) :
    evE Γ (.lc el tg ik its cond own) env = Res.of (lstO (ds.filterMap g)) := by
  have h3' : ∀ d ∈ ds, (fun d => (Res.of (bindTg [] [] tg (0, d) (wipeE own env)) >>= fun env' => evC Γ cond env' >>= fun b =>
        if b = true then evE Γ el env' >>= fun x => .ok (some x) else .ok none).nox) d = .ok (g d) := fun d hd => by
    obtain ⟨env', b, e1, e2, e3⟩ := h3 d hd
    dsimp only
    rw [e1, of_some, res_ok_bind, e2, res_ok_bind]
    cases b with
    | true =>
      obtain ⟨x, e4, e5⟩ := e3
      rw [if_pos rfl, e4, res_ok_bind, e5]
      rfl
    | false =>
      rw [if_neg Bool.false_ne_true, show g d = none from e3]
      rfl
  show (evL Γ its env >>= fun xs => Res.of (iterD ik (xs.map (·.2))) >>= fun ds => mapR _ ds >>= fun ys => Res.of (lstO (ys.filterMap id))) = _
  rw [h1, res_ok_bind, h2, of_some, res_ok_bind, mapR_ok' h3', res_ok_bind, List.filterMap_map]
  rfl
/-- .. without a test -/
theorem e_lcm {el : Ex} {tg : Tg} {ik : IK} {its : List Ex} {own : List Nat} {xs : List Ent} {ds : List D} {g : D → Ent} (h1 : evL Γ its env = .ok xs) (h2 : iterD ik (xs.map (·.2)) = some ds)
    (h3 : ∀ d ∈ ds, ∃ env', bindTg [] [] tg (0, d) (wipeE own env) = some env' ∧ evE Γ el env' = .ok (g d)) :
    evE Γ (.lc el tg ik its [] own) env = Res.of (lstO (ds.map g)) := by
  rw [e_lc (g := fun d => some (g d)) h1 h2 fun d hd => by
    obtain ⟨env', e1, e2⟩ := h3 d hd
    exact ⟨env', true, e1, rfl, by rw [if_pos rfl]; exact ⟨_, e2, rfl⟩⟩]
  rw [show (fun d => some (g d)) = (some ∘ g) from rfl, List.filterMap_eq_map]
theorem lstO_ok {xs : List Ent} (h : xs.length ≤ sizeLine) : lstO xs = some (if xs.all fu then 9 else 1, .lst (xs.map (·.2))) := by
  unfold lstO szOk
  rw [decide_eq_true h, if_pos rfl]
/-- a comprehension over what stands for typed things -/
theorem e_lcT {α : Type} {el : Ex} {tg : Tg} {ik : IK} {its : List Ex} {own : List Nat} {xs : List Ent} {l : List α} (f : α → D) (g : α → Ent) (h1 : evL Γ its env = .ok xs) (h2 : iterD ik (xs.map (·.2)) = some (l.map f)) (hz : l.length ≤ 1000000)
    (h3 : ∀ a ∈ l, ∃ env', bindTg [] [] tg (0, f a) (wipeE own env) = some env' ∧ evE Γ el env' = .ok (g a)) :
    evE Γ (.lc el tg ik its [] own) env = .ok (if (l.map g).all fu = true then 9 else 1, .lst (l.map fun a => (g a).2)) := by
  have key : ∀ l : List α, (∀ a ∈ l, ∃ env', bindTg [] [] tg (0, f a) (wipeE own env) = some env' ∧ evE Γ el env' = .ok (g a)) → mapR (fun d => (Res.of (bindTg [] [] tg (0, d) (wipeE own env)) >>= fun env' => evC Γ [] env' >>= fun b =>
        if b = true then evE Γ el env' >>= fun x => Res.ok (some x) else .ok none).nox) (l.map f) = .ok (l.map fun a => some (g a)) := by
    intro l
    induction l with
    | nil => intro _; rfl
    | cons a l ih =>
      intro h
      obtain ⟨env', e1, e2⟩ := h a List.mem_cons_self
      show ((Res.of (bindTg [] [] tg (0, f a) (wipeE own env)) >>= fun env' => evC Γ [] env' >>= fun b => if b = true then evE Γ el env' >>= fun x => Res.ok (some x) else .ok none).nox >>= fun b => mapR _ (l.map f) >>= fun bs => Res.ok (b :: bs)) = _
      rw [e1, of_some, res_ok_bind, c_nil, res_ok_bind, if_pos rfl, e2, res_ok_bind, ih fun b hb => h b (List.mem_cons_of_mem _ hb)]
      rfl
  show (evL Γ its env >>= fun xs => Res.of (iterD ik (xs.map (·.2))) >>= fun ds => mapR _ ds >>= fun ys => Res.of (lstO (ys.filterMap id))) = _
  rw [h1, res_ok_bind, h2, of_some, res_ok_bind, key l h3, res_ok_bind]
  have e : (l.map fun a => some (g a)).filterMap id = l.map g := by
    rw [List.filterMap_map, show (id ∘ fun a => some (g a)) = (some ∘ g) from rfl, List.filterMap_eq_map]
  rw [e, lstO_ok (by rw [List.length_map]; exact Nat.le_trans hz (by decide)), of_some, List.map_map]
  rfl
/-- .. all of them whole -/
theorem e_lc9 {α : Type} {el : Ex} {tg : Tg} {ik : IK} {its : List Ex} {own : List Nat} {xs : List Ent} {l : List α} (f : α → D) (g : α → Ent) (h1 : evL Γ its env = .ok xs) (h2 : iterD ik (xs.map (·.2)) = some (l.map f)) (hz : l.length ≤ 1000000) (hfu : ∀ a ∈ l, fu (g a) = true)
    (h3 : ∀ a ∈ l, ∃ env', bindTg [] [] tg (0, f a) (wipeE own env) = some env' ∧ evE Γ el env' = .ok (g a)) :
    evE Γ (.lc el tg ik its [] own) env = .ok (9, .lst (l.map fun a => (g a).2)) := by
  rw [e_lcT f g h1 h2 hz h3]
  have : (l.map g).all fu = true := by
    rw [List.all_eq_true]
    intro x hx
    obtain ⟨a, ha, rfl⟩ := List.mem_map.mp hx
    exact hfu a ha
  rw [if_pos this]
/-- .. with a test -/
theorem e_lcF {α : Type} {el : Ex} {tg : Tg} {ik : IK} {its cond : List Ex} {own : List Nat} {xs : List Ent} {l : List α} (f : α → D) (p : α → Bool) (g : α → Ent) (h1 : evL Γ its env = .ok xs) (h2 : iterD ik (xs.map (·.2)) = some (l.map f)) (hz : l.length ≤ 1000000)
    (h3 : ∀ a ∈ l, ∃ env', bindTg [] [] tg (0, f a) (wipeE own env) = some env' ∧ evC Γ cond env' = .ok (p a) ∧ (p a = true → evE Γ el env' = .ok (g a))) :
    evE Γ (.lc el tg ik its cond own) env = .ok (if ((l.filter p).map g).all fu = true then 9 else 1, .lst ((l.filter p).map fun a => (g a).2)) := by
  have key : ∀ l : List α, (∀ a ∈ l, ∃ env', bindTg [] [] tg (0, f a) (wipeE own env) = some env' ∧ evC Γ cond env' = .ok (p a) ∧ (p a = true → evE Γ el env' = .ok (g a))) → mapR (fun d => (Res.of (bindTg [] [] tg (0, d) (wipeE own env)) >>= fun env' => evC Γ cond env' >>= fun b =>
        if b = true then evE Γ el env' >>= fun x => Res.ok (some x) else .ok none).nox) (l.map f) = .ok (l.map fun a => if p a = true then some (g a) else none) := by
    intro l
    induction l with
    | nil => intro _; rfl
    | cons a l ih =>
      intro h
      obtain ⟨env', e1, e2, e3⟩ := h a List.mem_cons_self
      show ((Res.of (bindTg [] [] tg (0, f a) (wipeE own env)) >>= fun env' => evC Γ cond env' >>= fun b => if b = true then evE Γ el env' >>= fun x => Res.ok (some x) else .ok none).nox >>= fun b => mapR _ (l.map f) >>= fun bs => Res.ok (b :: bs)) = _
      rw [e1, of_some, res_ok_bind, e2, res_ok_bind, ih fun b hb => h b (List.mem_cons_of_mem _ hb), List.map_cons]
      cases hp : p a with
      | true =>
        rw [if_pos rfl, if_pos rfl, e3 hp]
        rfl
      | false =>
        rw [if_neg Bool.false_ne_true, if_neg Bool.false_ne_true]
        rfl
  show (evL Γ its env >>= fun xs => Res.of (iterD ik (xs.map (·.2))) >>= fun ds => mapR _ ds >>= fun ys => Res.of (lstO (ys.filterMap id))) = _
  rw [h1, res_ok_bind, h2, of_some, res_ok_bind, key l h3, res_ok_bind]
  have e : ∀ l : List α, (l.map fun a => if p a = true then some (g a) else none).filterMap id = (l.filter p).map g := by
    intro l
    induction l with
    | nil => rfl
    | cons a l ih =>
      rw [List.map_cons, List.filterMap_cons, List.filter_cons]
      cases hp : p a with
      | true => simp only [if_true, id]; rw [ih, List.map_cons]
      | false => simp only [Bool.false_eq_true, if_false, id]; exact ih
  rw [e, lstO_ok (by rw [List.length_map]; exact Nat.le_trans (List.length_filter_le _ _) (Nat.le_trans hz (by decide))), of_some, List.map_map]
  rfl
/-- a loop by an invariant -/
theorem forO_inv {f : D → Env → Out} {ds : List D} (I : Nat → Env → Prop) (h : ∀ i d e, ds[i]? = some d → I i e → ∃ e', f d e = .nx e' ∧ I (i + 1) e') (h0 : I 0 env) : ∃ e', forO f ds env = .nx e' ∧ I ds.length e' := by
  have key : ∀ (n : Nat) (e : Env), n ≤ ds.length → I n e → ∃ e', forO f (ds.drop n) e = .nx e' ∧ I ds.length e' := by
    intro n
    induction hm : ds.length - n generalizing n with
    | zero =>
      intro e hn hI
      obtain rfl : n = ds.length := by omega
      rw [List.drop_length]
      exact ⟨e, rfl, hI⟩
    | succ m ih =>
      intro e hn hI
      have hlt : n < ds.length := by omega
      rw [List.drop_eq_getElem_cons hlt]
      obtain ⟨e1, h1, h2⟩ := h n ds[n] e (List.getElem?_eq_getElem hlt) hI
      obtain ⟨e2, h3, h4⟩ := ih (n + 1) (by omega) e1 (by omega) h2
      refine ⟨e2, ?_, h4⟩
      show andThen (f ds[n] e) (forO f (ds.drop (n + 1))) = _
      rw [h1]
      exact h3
  simpa using key 0 env (Nat.zero_le _) h0
theorem forO_app {f : D → Env → Out} {xs ys : List D} : ∀ {env : Env}, forO f (xs ++ ys) env = andThen (forO f xs env) (forO f ys) := by
  induction xs with
  | nil => intro env; rfl
  | cons x xs ih =>
    intro env
    show andThen (f x env) (forO f (xs ++ ys)) = andThen (andThen (f x env) (forO f xs)) (forO f ys)
    cases f x env with
    | nx e => exact ih
    | rt x => rfl
    | exc x e => rfl
    | stuck => rfl
/-- a loop over typed things, by what is done -/
theorem forO_D {α : Type} {f : D → Env → Out} {l : List α} (t : α → D) (I : List α → Env → Prop) (h : ∀ done a rest e, l = done ++ a :: rest → I done e → ∃ e', f (t a) e = .nx e' ∧ I (done ++ [a]) e') (h0 : I [] env) : ∃ e', forO f (l.map t) env = .nx e' ∧ I l e' := by
  have key : ∀ (rest done : List α) (e : Env), l = done ++ rest → I done e → ∃ e', forO f (rest.map t) e = .nx e' ∧ I l e' := by
    intro rest
    induction rest with
    | nil => intro done e hl hI; exact ⟨e, rfl, by rw [hl, List.append_nil]; exact hI⟩
    | cons a rest ih =>
      intro done e hl hI
      obtain ⟨e1, h1, h2⟩ := h done a rest e hl hI
      obtain ⟨e2, h3, h4⟩ := ih (done ++ [a]) e1 (by rw [hl]; simp) h2
      refine ⟨e2, ?_, h4⟩
      show andThen (f (t a) e) (forO f (rest.map t)) = _
      rw [h1]
      exact h3
  exact key l [] env rfl h0
/-- .. each with its place -/
theorem forO_E {α : Type} {f : D → Env → Out} {l : List α} (t : α → D) (I : List α → Env → Prop) (h : ∀ done a rest e, l = done ++ a :: rest → I done e → ∃ e', f (.tup [.int done.length, t a]) e = .nx e' ∧ I (done ++ [a]) e') (h0 : I [] env) : ∃ e', forO f ((l.map t).zipIdx.map fun p => .tup [.int p.2, p.1]) env = .nx e' ∧ I l e' := by
  have key : ∀ (rest done : List α) (e : Env), l = done ++ rest → I done e → ∃ e', forO f (((rest.map t).zipIdx done.length).map fun p => D.tup [.int p.2, p.1]) e = .nx e' ∧ I l e' := by
    intro rest
    induction rest with
    | nil => intro done e hl hI; exact ⟨e, rfl, by rw [hl, List.append_nil]; exact hI⟩
    | cons a rest ih =>
      intro done e hl hI
      obtain ⟨e1, h1, h2⟩ := h done a rest e hl hI
      obtain ⟨e2, h3, h4⟩ := ih (done ++ [a]) e1 (by rw [hl]; simp) h2
      refine ⟨e2, ?_, h4⟩
      rw [List.length_append, List.length_singleton] at h3
      show andThen (f (.tup [.int done.length, t a]) e) (forO f (((rest.map t).zipIdx (done.length + 1)).map fun p => D.tup [.int p.2, p.1])) = _
      rw [h1]
      exact h3
  exact key l [] env rfl h0
theorem loop_D {α : Type} {f : D → Env → Out} {l : List α} {t : α → D} {K : Env → Out} {o : Out} (I : List α → Env → Prop) (h0 : I [] env) (h : ∀ done a rest e, l = done ++ a :: rest → I done e → ∃ e', f (t a) e = .nx e' ∧ I (done ++ [a]) e') (k : ∀ e', I l e' → K e' = o) : andThen (forO f (l.map t) env) K = o := by
  obtain ⟨e', h1, h2⟩ := forO_D t I h h0
  rw [h1]
  exact k e' h2
theorem loop_E {α : Type} {f : D → Env → Out} {l : List α} {t : α → D} {K : Env → Out} {o : Out} (I : List α → Env → Prop) (h0 : I [] env) (h : ∀ done a rest e, l = done ++ a :: rest → I done e → ∃ e', f (.tup [.int done.length, t a]) e = .nx e' ∧ I (done ++ [a]) e') (k : ∀ e', I l e' → K e' = o) :
    andThen (forO f ((l.map t).zipIdx.map fun p => .tup [.int p.2, p.1]) env) K = o := by
  obtain ⟨e', h1, h2⟩ := forO_E t I h h0
  rw [h1]
  exact k e' h2
/-- a loop that may end the def -/
theorem loop_R {α : Type} {f : D → Env → Out} {l : List α} {t : α → D} {K : Env → Out} {o : Out} (I : List α → Env → Prop) (h0 : I [] env) (h : ∀ done a rest e, l = done ++ a :: rest → I done e → (∃ e', f (t a) e = .nx e' ∧ I (done ++ [a]) e') ∨ ((∀ e', o ≠ .nx e') ∧ f (t a) e = o)) (k : ∀ e', I l e' → K e' = o) : andThen (forO f (l.map t) env) K = o := by
  have key : ∀ (rest done : List α) (e : Env), l = done ++ rest → I done e → andThen (forO f (rest.map t) e) K = o := by
    intro rest
    induction rest with
    | nil =>
      intro done e hl hI
      rw [List.append_nil] at hl
      exact k e (hl ▸ hI)
    | cons a rest ih =>
      intro done e hl hI
      show andThen (andThen (f (t a) e) (forO f (rest.map t))) K = o
      rcases h done a rest e hl hI with ⟨e1, h1, h2⟩ | ⟨hn, h1⟩
      · rw [h1]
        exact ih (done ++ [a]) e1 (by rw [hl]; simp) h2
      · rw [h1]
        cases o with
        | nx e' => exact absurd rfl (hn e')
        | _ => rfl
  exact key l [] env rfl h0
theorem runF_rt {n : Nat} {body : List Sm} {args : List D} {x : Ent} (h : exL Γ M [] body (args.map (fun d => some (0, d, [])) ++ List.replicate n none) = .rt x) : runF Γ M n body args = .ok x := by
  unfold runF
  rw [h]
theorem runF_nx {n : Nat} {body : List Sm} {args : List D} {e : Env} (h : exL Γ M [] body (args.map (fun d => some (0, d, [])) ++ List.replicate n none) = .nx e) : runF Γ M n body args = .ok (0, .non) := by
  unfold runF
  rw [h]
theorem runF_nn {n : Nat} {body : List Sm} {args : List D} (h : ∃ e, exL Γ M [] body (args.map (fun d => some (0, d, [])) ++ List.replicate n none) = .nx e) : runF Γ M n body args = .ok (0, .non) := runF_nx h.choose_spec
theorem loop_Dn {α : Type} {f : D → Env → Out} {l : List α} {t : α → D} {K : Env → Out} (I : List α → Env → Prop) (h0 : I [] env) (h : ∀ done a rest e, l = done ++ a :: rest → I done e → ∃ e', f (t a) e = .nx e' ∧ I (done ++ [a]) e') (k : ∀ e', I l e' → ∃ e2, K e' = .nx e2) : ∃ e2, andThen (forO f (l.map t) env) K = .nx e2 := by
  obtain ⟨e', h1, h2⟩ := forO_D t I h h0
  rw [h1]
  exact k e' h2
theorem loop_En {α : Type} {f : D → Env → Out} {l : List α} {t : α → D} {K : Env → Out} (I : List α → Env → Prop) (h0 : I [] env) (h : ∀ done a rest e, l = done ++ a :: rest → I done e → ∃ e', f (.tup [.int done.length, t a]) e = .nx e' ∧ I (done ++ [a]) e') (k : ∀ e', I l e' → ∃ e2, K e' = .nx e2) :
    ∃ e2, andThen (forO f ((l.map t).zipIdx.map fun p => .tup [.int p.2, p.1]) env) K = .nx e2 := by
  obtain ⟨e', h1, h2⟩ := forO_E t I h h0
  rw [h1]
  exact k e' h2
theorem loop_Dq {α : Type} {f : D → Env → Out} {l : List α} {t : α → D} {K : Env → Out} {J : Env → Prop} (I : List α → Env → Prop) (h0 : I [] env) (h : ∀ done a rest e, l = done ++ a :: rest → I done e → ∃ e', f (t a) e = .nx e' ∧ I (done ++ [a]) e') (k : ∀ e', I l e' → ∃ e2, K e' = .nx e2 ∧ J e2) : ∃ e2, andThen (forO f (l.map t) env) K = .nx e2 ∧ J e2 := by
  obtain ⟨e', h1, h2⟩ := forO_D t I h h0
  rw [h1]
  exact k e' h2
theorem loop_Eq {α : Type} {f : D → Env → Out} {l : List α} {t : α → D} {K : Env → Out} {J : Env → Prop} (I : List α → Env → Prop) (h0 : I [] env) (h : ∀ done a rest e, l = done ++ a :: rest → I done e → ∃ e', f (.tup [.int done.length, t a]) e = .nx e' ∧ I (done ++ [a]) e') (k : ∀ e', I l e' → ∃ e2, K e' = .nx e2 ∧ J e2) :
    ∃ e2, andThen (forO f ((l.map t).zipIdx.map fun p => .tup [.int p.2, p.1]) env) K = .nx e2 ∧ J e2 := by
  obtain ⟨e', h1, h2⟩ := forO_E t I h h0
  rw [h1]
  exact k e' h2
theorem loop_DJ {α : Type} {f : D → Env → Out} {l : List α} {t : α → D} {K : Env → Out} (J : Out → Prop) (I : List α → Env → Prop) (h0 : I [] env) (h : ∀ done a rest e, l = done ++ a :: rest → I done e → ∃ e', f (t a) e = .nx e' ∧ I (done ++ [a]) e') (k : ∀ e', I l e' → J (K e')) : J (andThen (forO f (l.map t) env) K) := by
  obtain ⟨e', h1, h2⟩ := forO_D t I h h0
  rw [h1]
  exact k e' h2
theorem loop_EJ {α : Type} {f : D → Env → Out} {l : List α} {t : α → D} {K : Env → Out} (J : Out → Prop) (I : List α → Env → Prop) (h0 : I [] env) (h : ∀ done a rest e, l = done ++ a :: rest → I done e → ∃ e', f (.tup [.int done.length, t a]) e = .nx e' ∧ I (done ++ [a]) e') (k : ∀ e', I l e' → J (K e')) :
    J (andThen (forO f ((l.map t).zipIdx.map fun p => .tup [.int p.2, p.1]) env) K) := by
  obtain ⟨e', h1, h2⟩ := forO_E t I h h0
  rw [h1]
  exact k e' h2
theorem runF_ex {n : Nat} {body : List Sm} {args : List D} {J : Ent → Prop} (h : ∃ x, exL Γ M [] body (args.map (fun d => some (0, d, [])) ++ List.replicate n none) = .rt x ∧ J x) : ∃ x, runF Γ M n body args = .ok x ∧ J x := by
  obtain ⟨x, h1, h2⟩ := h
  exact ⟨x, runF_rt h1, h2⟩
/-! ### step by step -/
theorem go_set {i : Nat} {e : Ex} {ss : List Sm} {x : Ent} {o : Out} (he : evE Γ e env = .ok x) (k : exL Γ M L ss ((dropB i env).set i (some (if M.contains i then x.1 else 0, x.2, if ful x.1 x.2 then [] else (brw env (fv e)).filter fun j => j != i))) = o) : exL Γ M L (.set (.nm i) e :: ss) env = o := by
  rw [xL_cons, xS_set, he, rO_ok, b_nm]
  exact k
/-- .. of a whole thing, or of one that borrows nothing -/
theorem go_set0 {i : Nat} {e : Ex} {ss : List Sm} {x : Ent} {o : Out} {env' : Env} (he : evE Γ e env = .ok x) (hf : ful x.1 x.2 = true ∨ brw env (fv e) = []) (hE : env' = (dropB i env).set i (some (if M.contains i then x.1 else 0, x.2, []))) (k : exL Γ M L ss env' = o) : exL Γ M L (.set (.nm i) e :: ss) env = o := by
  refine go_set he ?_
  have : (if ful x.1 x.2 then [] else (brw env (fv e)).filter fun j => j != i) = [] := by
    rcases hf with hf | hf
    · rw [hf]; rfl
    · rw [hf]; split <;> rfl
  rw [this, ← hE]
  exact k
theorem go_ifT {c : Ex} {a b ss : List Sm} {k : Nat} {o : Out} (hc : evE Γ c env = .ok (k, .bl true)) (q : andThen (exL Γ M L a env) (exL Γ M L ss) = o) : exL Γ M L (.ife c a b :: ss) env = o := by
  rw [xL_cons, xS_ife, hc, res_ok_bind, asB_bl, rB_ok, if_pos rfl]
  exact q
theorem go_ifF {c : Ex} {a b ss : List Sm} {k : Nat} {o : Out} (hc : evE Γ c env = .ok (k, .bl false)) (q : andThen (exL Γ M L b env) (exL Γ M L ss) = o) : exL Γ M L (.ife c a b :: ss) env = o := by
  rw [xL_cons, xS_ife, hc, res_ok_bind, asB_bl, rB_ok, if_neg Bool.false_ne_true]
  exact q
/-- .. without an else -/
theorem go_if0 {c : Ex} {a ss : List Sm} {k : Nat} {o : Out} (hc : evE Γ c env = .ok (k, .bl false)) (q : exL Γ M L ss env = o) : exL Γ M L (.ife c a [] :: ss) env = o := go_ifF hc (by rw [xL_nil, an_nx]; exact q)
theorem go_ifR {c : Ex} {a b ss : List Sm} {k : Nat} {x : Ent} (hc : evE Γ c env = .ok (k, .bl true)) (q : exL Γ M L a env = .rt x) : exL Γ M L (.ife c a b :: ss) env = .rt x := go_ifT hc (by rw [q]; rfl)
theorem go_ret {e : Ex} {ss : List Sm} {x : Ent} (he : evE Γ e env = .ok x) : exL Γ M L (.ret e :: ss) env = .rt x := by
  rw [xL_cons, xS_ret, he]
  rfl
theorem go_drop {e : Ex} {ss : List Sm} {x : Ent} {o : Out} (he : evE Γ e env = .ok x) (k : exL Γ M L ss env = o) : exL Γ M L (.drop e :: ss) env = o := by
  rw [xL_cons, xS_drop, he]
  exact k
/-- a tuple given back, all of it whole -/
theorem go_retT {es : List Ex} {ss : List Sm} {xs : List Ent} (he : evL Γ es env = .ok xs) (h1 : (mvs env es xs).all fu = true) (h2 : (nmsOf es).Nodup) (h3 : xs.length ≤ 1000000) : exL Γ M L (.retT es :: ss) env = .rt (8, .tup ((mvs env es xs).map (·.2))) := by
  have hz : szOk xs.length = true := decide_eq_true (Nat.le_trans h3 (by decide))
  rw [xL_cons, xS_retT, he, rL_ok, h1, hz, decide_eq_true h2]
  rfl
/-- .. not whole -/
theorem go_retT0 {es : List Ex} {ss : List Sm} {xs : List Ent} (he : evL Γ es env = .ok xs) (h1 : (mvs env es xs).all fu = false) (h2 : xs.all fu = false) (h3 : xs.length ≤ 1000000) : exL Γ M L (.retT es :: ss) env = .rt (0, .tup (xs.map (·.2))) := by
  have hz : szOk xs.length = true := decide_eq_true (Nat.le_trans h3 (by decide))
  have ht : tupO xs = some (0, .tup (xs.map (·.2))) := by unfold tupO; rw [hz, if_pos rfl, h2]; rfl
  rw [xL_cons, xS_retT, he, rL_ok, h1, ht]
  rfl
theorem go_setT {tg : Tg} {e : Ex} {ss : List Sm} {x : Ent} {o : Out} {env' : Env} (he : evE Γ e env = .ok x) (hb : bindTg M (brw env (fv e)) tg x env = some env') (k : exL Γ M L ss env' = o) : exL Γ M L (.set tg e :: ss) env = o := by
  rw [xL_cons, xS_set, he, rO_ok, hb]
  exact k
theorem go_setB {i : Nat} {e : Ex} {ss : List Sm} {x : Ent} {o : Out} {env' : Env} {B : List Nat} (he : evE Γ e env = .ok x) (hf : ful x.1 x.2 = false) (hB : (brw env (fv e)).filter (fun j => j != i) = B) (hE : env' = (dropB i env).set i (some (if M.contains i then x.1 else 0, x.2, B))) (k : exL Γ M L ss env' = o) : exL Γ M L (.set (.nm i) e :: ss) env = o := by
  refine go_set he ?_
  rw [hf, if_neg Bool.false_ne_true, hB, ← hE]
  exact k
theorem go_nx {s : Sm} {ss : List Sm} {env' : Env} {o : Out} (h : exS Γ M L s env = .nx env') (k : exL Γ M L ss env' = o) : exL Γ M L (s :: ss) env = o := by
  rw [xL_cons, h]
  exact k
end
end MP

/-! PLb: isinstance, words. -/
namespace MP
open PySem PySem.Spec PyProof.Rows L2
section
variable {Γ : Gm}
theorem isi_one (hk : Γ.kit = kitB) {d : D} {t n : Str} {b : Bool} (ht : tag d = t) (hb : kitB t n = some b) : isiA Γ d [n] = some (0, .bl b) := by
  unfold isiA
  rw [hk, ht]
  simp only [List.all_cons, List.all_nil, List.any_cons, List.any_nil, Bool.and_true, Bool.or_false, hb, Option.isSome_some, if_true]
  cases b <;> rfl
theorem isi_NoneType_bool  (hk : Γ.kit = kitB) : isiA Γ .non ["bool"] = some (0, .bl false) := isi_one hk (t := "NoneType") rfl (by decide +kernel)
theorem isi_NoneType_int  (hk : Γ.kit = kitB) : isiA Γ .non ["int"] = some (0, .bl false) := isi_one hk (t := "NoneType") rfl (by decide +kernel)
theorem isi_NoneType_str  (hk : Γ.kit = kitB) : isiA Γ .non ["str"] = some (0, .bl false) := isi_one hk (t := "NoneType") rfl (by decide +kernel)
theorem isi_NoneType_tuple  (hk : Γ.kit = kitB) : isiA Γ .non ["tuple"] = some (0, .bl false) := isi_one hk (t := "NoneType") rfl (by decide +kernel)
theorem isi_NoneType_list  (hk : Γ.kit = kitB) : isiA Γ .non ["list"] = some (0, .bl false) := isi_one hk (t := "NoneType") rfl (by decide +kernel)
theorem isi_NoneType_dict  (hk : Γ.kit = kitB) : isiA Γ .non ["dict"] = some (0, .bl false) := isi_one hk (t := "NoneType") rfl (by decide +kernel)
theorem isi_bool_bool {b : Bool} (hk : Γ.kit = kitB) : isiA Γ (.bl b) ["bool"] = some (0, .bl true) := isi_one hk (t := "bool") rfl (by decide +kernel)
theorem isi_bool_int {b : Bool} (hk : Γ.kit = kitB) : isiA Γ (.bl b) ["int"] = some (0, .bl true) := isi_one hk (t := "bool") rfl (by decide +kernel)
theorem isi_bool_str {b : Bool} (hk : Γ.kit = kitB) : isiA Γ (.bl b) ["str"] = some (0, .bl false) := isi_one hk (t := "bool") rfl (by decide +kernel)
theorem isi_bool_tuple {b : Bool} (hk : Γ.kit = kitB) : isiA Γ (.bl b) ["tuple"] = some (0, .bl false) := isi_one hk (t := "bool") rfl (by decide +kernel)
theorem isi_bool_list {b : Bool} (hk : Γ.kit = kitB) : isiA Γ (.bl b) ["list"] = some (0, .bl false) := isi_one hk (t := "bool") rfl (by decide +kernel)
theorem isi_bool_dict {b : Bool} (hk : Γ.kit = kitB) : isiA Γ (.bl b) ["dict"] = some (0, .bl false) := isi_one hk (t := "bool") rfl (by decide +kernel)
theorem isi_int_bool {i : Int} (hk : Γ.kit = kitB) : isiA Γ (.int i) ["bool"] = some (0, .bl false) := isi_one hk (t := "int") rfl (by decide +kernel)
theorem isi_int_int {i : Int} (hk : Γ.kit = kitB) : isiA Γ (.int i) ["int"] = some (0, .bl true) := isi_one hk (t := "int") rfl (by decide +kernel)
theorem isi_int_str {i : Int} (hk : Γ.kit = kitB) : isiA Γ (.int i) ["str"] = some (0, .bl false) := isi_one hk (t := "int") rfl (by decide +kernel)
theorem isi_int_tuple {i : Int} (hk : Γ.kit = kitB) : isiA Γ (.int i) ["tuple"] = some (0, .bl false) := isi_one hk (t := "int") rfl (by decide +kernel)
theorem isi_int_list {i : Int} (hk : Γ.kit = kitB) : isiA Γ (.int i) ["list"] = some (0, .bl false) := isi_one hk (t := "int") rfl (by decide +kernel)
theorem isi_int_dict {i : Int} (hk : Γ.kit = kitB) : isiA Γ (.int i) ["dict"] = some (0, .bl false) := isi_one hk (t := "int") rfl (by decide +kernel)
theorem isi_str_bool {s : Str} (hk : Γ.kit = kitB) : isiA Γ (.str s) ["bool"] = some (0, .bl false) := isi_one hk (t := "str") rfl (by decide +kernel)
theorem isi_str_int {s : Str} (hk : Γ.kit = kitB) : isiA Γ (.str s) ["int"] = some (0, .bl false) := isi_one hk (t := "str") rfl (by decide +kernel)
theorem isi_str_str {s : Str} (hk : Γ.kit = kitB) : isiA Γ (.str s) ["str"] = some (0, .bl true) := isi_one hk (t := "str") rfl (by decide +kernel)
theorem isi_str_tuple {s : Str} (hk : Γ.kit = kitB) : isiA Γ (.str s) ["tuple"] = some (0, .bl false) := isi_one hk (t := "str") rfl (by decide +kernel)
theorem isi_str_list {s : Str} (hk : Γ.kit = kitB) : isiA Γ (.str s) ["list"] = some (0, .bl false) := isi_one hk (t := "str") rfl (by decide +kernel)
theorem isi_str_dict {s : Str} (hk : Γ.kit = kitB) : isiA Γ (.str s) ["dict"] = some (0, .bl false) := isi_one hk (t := "str") rfl (by decide +kernel)
theorem isi_tuple_bool {ds : List D} (hk : Γ.kit = kitB) : isiA Γ (.tup ds) ["bool"] = some (0, .bl false) := isi_one hk (t := "tuple") rfl (by decide +kernel)
theorem isi_tuple_int {ds : List D} (hk : Γ.kit = kitB) : isiA Γ (.tup ds) ["int"] = some (0, .bl false) := isi_one hk (t := "tuple") rfl (by decide +kernel)
theorem isi_tuple_str {ds : List D} (hk : Γ.kit = kitB) : isiA Γ (.tup ds) ["str"] = some (0, .bl false) := isi_one hk (t := "tuple") rfl (by decide +kernel)
theorem isi_tuple_tuple {ds : List D} (hk : Γ.kit = kitB) : isiA Γ (.tup ds) ["tuple"] = some (0, .bl true) := isi_one hk (t := "tuple") rfl (by decide +kernel)
theorem isi_tuple_list {ds : List D} (hk : Γ.kit = kitB) : isiA Γ (.tup ds) ["list"] = some (0, .bl false) := isi_one hk (t := "tuple") rfl (by decide +kernel)
theorem isi_tuple_dict {ds : List D} (hk : Γ.kit = kitB) : isiA Γ (.tup ds) ["dict"] = some (0, .bl false) := isi_one hk (t := "tuple") rfl (by decide +kernel)
theorem isi_list_bool {ds : List D} (hk : Γ.kit = kitB) : isiA Γ (.lst ds) ["bool"] = some (0, .bl false) := isi_one hk (t := "list") rfl (by decide +kernel)
theorem isi_list_int {ds : List D} (hk : Γ.kit = kitB) : isiA Γ (.lst ds) ["int"] = some (0, .bl false) := isi_one hk (t := "list") rfl (by decide +kernel)
theorem isi_list_str {ds : List D} (hk : Γ.kit = kitB) : isiA Γ (.lst ds) ["str"] = some (0, .bl false) := isi_one hk (t := "list") rfl (by decide +kernel)
theorem isi_list_tuple {ds : List D} (hk : Γ.kit = kitB) : isiA Γ (.lst ds) ["tuple"] = some (0, .bl false) := isi_one hk (t := "list") rfl (by decide +kernel)
theorem isi_list_list {ds : List D} (hk : Γ.kit = kitB) : isiA Γ (.lst ds) ["list"] = some (0, .bl true) := isi_one hk (t := "list") rfl (by decide +kernel)
theorem isi_list_dict {ds : List D} (hk : Γ.kit = kitB) : isiA Γ (.lst ds) ["dict"] = some (0, .bl false) := isi_one hk (t := "list") rfl (by decide +kernel)
theorem isi_dict_bool {ks vs : List D} (hk : Γ.kit = kitB) : isiA Γ (.dct ks vs) ["bool"] = some (0, .bl false) := isi_one hk (t := "dict") rfl (by decide +kernel)
theorem isi_dict_int {ks vs : List D} (hk : Γ.kit = kitB) : isiA Γ (.dct ks vs) ["int"] = some (0, .bl false) := isi_one hk (t := "dict") rfl (by decide +kernel)
theorem isi_dict_str {ks vs : List D} (hk : Γ.kit = kitB) : isiA Γ (.dct ks vs) ["str"] = some (0, .bl false) := isi_one hk (t := "dict") rfl (by decide +kernel)
theorem isi_dict_tuple {ks vs : List D} (hk : Γ.kit = kitB) : isiA Γ (.dct ks vs) ["tuple"] = some (0, .bl false) := isi_one hk (t := "dict") rfl (by decide +kernel)
theorem isi_dict_list {ks vs : List D} (hk : Γ.kit = kitB) : isiA Γ (.dct ks vs) ["list"] = some (0, .bl false) := isi_one hk (t := "dict") rfl (by decide +kernel)
theorem isi_dict_dict {ks vs : List D} (hk : Γ.kit = kitB) : isiA Γ (.dct ks vs) ["dict"] = some (0, .bl true) := isi_one hk (t := "dict") rfl (by decide +kernel)
theorem eqw_put_put : eqD (.str "put") (.str "put") = some true := by decide +kernel
theorem eqw_put_swap : eqD (.str "put") (.str "swap") = some false := by decide +kernel
theorem eqw_put_ask : eqD (.str "put") (.str "ask") = some false := by decide +kernel
theorem eqw_put_any : eqD (.str "put") (.str "any") = some false := by decide +kernel
theorem eqw_put_call : eqD (.str "put") (.str "call") = some false := by decide +kernel
theorem eqw_put_take : eqD (.str "put") (.str "take") = some false := by decide +kernel
theorem eqw_put_give : eqD (.str "put") (.str "give") = some false := by decide +kernel
theorem eqw_swap_put : eqD (.str "swap") (.str "put") = some false := by decide +kernel
theorem eqw_swap_swap : eqD (.str "swap") (.str "swap") = some true := by decide +kernel
theorem eqw_swap_ask : eqD (.str "swap") (.str "ask") = some false := by decide +kernel
theorem eqw_swap_any : eqD (.str "swap") (.str "any") = some false := by decide +kernel
theorem eqw_swap_call : eqD (.str "swap") (.str "call") = some false := by decide +kernel
theorem eqw_swap_take : eqD (.str "swap") (.str "take") = some false := by decide +kernel
theorem eqw_swap_give : eqD (.str "swap") (.str "give") = some false := by decide +kernel
theorem eqw_ask_put : eqD (.str "ask") (.str "put") = some false := by decide +kernel
theorem eqw_ask_swap : eqD (.str "ask") (.str "swap") = some false := by decide +kernel
theorem eqw_ask_ask : eqD (.str "ask") (.str "ask") = some true := by decide +kernel
theorem eqw_ask_any : eqD (.str "ask") (.str "any") = some false := by decide +kernel
theorem eqw_ask_call : eqD (.str "ask") (.str "call") = some false := by decide +kernel
theorem eqw_ask_take : eqD (.str "ask") (.str "take") = some false := by decide +kernel
theorem eqw_ask_give : eqD (.str "ask") (.str "give") = some false := by decide +kernel
theorem eqw_any_put : eqD (.str "any") (.str "put") = some false := by decide +kernel
theorem eqw_any_swap : eqD (.str "any") (.str "swap") = some false := by decide +kernel
theorem eqw_any_ask : eqD (.str "any") (.str "ask") = some false := by decide +kernel
theorem eqw_any_any : eqD (.str "any") (.str "any") = some true := by decide +kernel
theorem eqw_any_call : eqD (.str "any") (.str "call") = some false := by decide +kernel
theorem eqw_any_take : eqD (.str "any") (.str "take") = some false := by decide +kernel
theorem eqw_any_give : eqD (.str "any") (.str "give") = some false := by decide +kernel
theorem eqw_call_put : eqD (.str "call") (.str "put") = some false := by decide +kernel
theorem eqw_call_swap : eqD (.str "call") (.str "swap") = some false := by decide +kernel
theorem eqw_call_ask : eqD (.str "call") (.str "ask") = some false := by decide +kernel
theorem eqw_call_any : eqD (.str "call") (.str "any") = some false := by decide +kernel
theorem eqw_call_call : eqD (.str "call") (.str "call") = some true := by decide +kernel
theorem eqw_call_take : eqD (.str "call") (.str "take") = some false := by decide +kernel
theorem eqw_call_give : eqD (.str "call") (.str "give") = some false := by decide +kernel
theorem eqw_take_put : eqD (.str "take") (.str "put") = some false := by decide +kernel
theorem eqw_take_swap : eqD (.str "take") (.str "swap") = some false := by decide +kernel
theorem eqw_take_ask : eqD (.str "take") (.str "ask") = some false := by decide +kernel
theorem eqw_take_any : eqD (.str "take") (.str "any") = some false := by decide +kernel
theorem eqw_take_call : eqD (.str "take") (.str "call") = some false := by decide +kernel
theorem eqw_take_take : eqD (.str "take") (.str "take") = some true := by decide +kernel
theorem eqw_take_give : eqD (.str "take") (.str "give") = some false := by decide +kernel
theorem eqw_give_put : eqD (.str "give") (.str "put") = some false := by decide +kernel
theorem eqw_give_swap : eqD (.str "give") (.str "swap") = some false := by decide +kernel
theorem eqw_give_ask : eqD (.str "give") (.str "ask") = some false := by decide +kernel
theorem eqw_give_any : eqD (.str "give") (.str "any") = some false := by decide +kernel
theorem eqw_give_call : eqD (.str "give") (.str "call") = some false := by decide +kernel
theorem eqw_give_take : eqD (.str "give") (.str "take") = some false := by decide +kernel
theorem eqw_give_give : eqD (.str "give") (.str "give") = some true := by decide +kernel
end
end MP

/-! PLc: the program's small defs. -/
namespace MP
open PySem PySem.Spec PyProof.Rows L2
structure Bas (Γ : Gm) : Prop where
  kit : Γ.kit = kitB
  longest : Γ.glob "LONGEST" = some (.int 8)
  letters : Γ.glob "LETTERS" = some (.str "abcdefghijklmnopqrstuvwxyz")
  boxes : Γ.glob "MOST_BOXES" = some (.int 3)
  worths : Γ.glob "MOST_WORTHS" = some (.int 6)
  stores : Γ.glob "MOST_STORES" = some (.int 8)
  procs : Γ.glob "MOST_PROCS" = some (.int 6)
  rows : Γ.glob "MOST_ROWS" = some (.int 8)
  hands : Γ.glob "MOST_HANDS" = some (.int 3)
  ways : Γ.glob "MOST_WAYS" = some (.int 4)
def s_is_whole : List Sm := [
  (.ret (.and (.isi (.nm 0) ["int"]) (.not (.isi (.nm 0) ["bool"]))))]
def s_is_within : List Sm := [
  (.ret (.and (.call "is_whole" [(.nm 0)]) (.chain .le .lt (.nm 1) (.nm 0) (.nm 2))))]
def s_is_name : List Sm := [
  (.ife (.or (.not (.isi (.nm 0) ["str"])) (.not (.chain .le .le (.int (1)) (.blt .len [(.nm 0)]) (.gl "LONGEST")))) [(.ret (.bl false))] []),
  (.ret (.blt .all [(.lc (.cmp .inn (.nm 2) (.gl "LETTERS")) (.nm 2) .seq [(.nm 0)] [] [1, 2])]))]
abbrev Fn := List D → Res Ent
def lowC (c : Nat) : Bool := decide (97 ≤ c) && decide (c ≤ 122)
def nmOk (s : Str) : Bool := decide (1 ≤ s.length) && decide (s.length ≤ 8) && s.cps.toList.all lowC
theorem in_letters {c : Nat} (h : lowC c = true) : inA (.str ⟨#[c]⟩) (.str "abcdefghijklmnopqrstuvwxyz") = some true := by
  have key : ∀ k : _root_.Fin 26, inA (.str ⟨#[97 + k.val]⟩) (.str "abcdefghijklmnopqrstuvwxyz") = some true := by decide +kernel
  unfold lowC at h
  simp only [Bool.and_eq_true, decide_eq_true_eq] at h
  have := key ⟨c - 97, by omega⟩
  rwa [show 97 + (c - 97) = c by omega] at this
theorem sz_le {n : Nat} (h : n ≤ 1000000) : szOk n = true := decide_eq_true (Nat.le_trans h (by decide))
theorem bls_map {α : Type} {l : List α} {f : α → Bool} : bls? (l.map fun a => .bl (f a)) = some (l.map f) := by
  induction l with
  | nil => rfl
  | cons a l ih => simp [bls?, ih]
section
variable {Γ : Gm}
theorem is_whole_ok (B : Bas Γ) (i : Int) : runF Γ [] 0 s_is_whole [.int i] = .ok (0, .bl true) := by
  have h1 := isi_int_int (i := i) B.kit
  have h2 := isi_int_bool (i := i) B.kit
  simp [runF, s_is_whole, h1, h2]
theorem is_within_ok (h : ∀ i, Γ.call "is_whole" [.int i] = .ok (0, .bl true)) (i lo hi : Int) : runF Γ [] 0 s_is_within [.int i, .int lo, .int hi] = .ok (0, .bl (decide (lo ≤ i) && decide (i < hi))) := by
  simp [runF, s_is_within, h, cmpD, cmpI]
  by_cases h1 : lo ≤ i <;> simp [h1]
theorem is_name_ok (B : Bas Γ) {s : Str} (hs : nmOk s = true) : runF Γ [] 2 s_is_name [.str s] = .ok (0, .bl true) := by
  unfold nmOk at hs
  simp only [Bool.and_eq_true, decide_eq_true_eq, List.all_eq_true] at hs
  have h1 := isi_str_str (s := s) B.kit
  have h2 : szOk s.length = true := sz_le (by omega)
  have h3 : (1 : Int) ≤ s.length := by omega
  have h4 : (s.length : Int) ≤ 8 := by omega
  have e := e_lcT (Γ := Γ) (env := [some (0, .str s, []), none, none]) (el := .cmp .inn (.nm 2) (.gl "LETTERS")) (tg := .nm 2) (ik := .seq) (its := [.nm 0]) (own := [1, 2]) (xs := [(0, .str s)]) (l := s.cps.toList) (fun c => .str ⟨#[c]⟩) (fun _ => (0, .bl true)) rfl rfl
    (by show s.length ≤ _; omega) fun c hc => by
    refine ⟨_, rfl, ?_⟩
    simp [B.letters, cmpD, in_letters (hs.2 c hc), bl?]
  have e2 := bls_map (l := s.cps.toList) (f := fun _ => true)
  simp [runF, s_is_name, h1, h2, bltD, len?, cmpD, cmpI, h3, h4, B.longest, e, e2]
end
end MP

/-! PLd: operators over what stands for typed things. -/
namespace MP
open PySem PySem.Spec PyProof.Rows L2
/-! ### displays -/
@[simp] theorem tupO_0 : tupO [] = some (if [].all fu = true then 8 else 0, .tup []) := (rfl)
@[simp] theorem lstO_0 : lstO [] = some (if [].all fu = true then 9 else 1, .lst []) := (rfl)
@[simp] theorem tupO_1 {x : Ent} : tupO [x] = some (if [x].all fu = true then 8 else 0, .tup [x.2]) := (rfl)
@[simp] theorem lstO_1 {x : Ent} : lstO [x] = some (if [x].all fu = true then 9 else 1, .lst [x.2]) := (rfl)
@[simp] theorem tupO_2 {x y : Ent} : tupO [x, y] = some (if [x, y].all fu = true then 8 else 0, .tup [x.2, y.2]) := (rfl)
@[simp] theorem lstO_2 {x y : Ent} : lstO [x, y] = some (if [x, y].all fu = true then 9 else 1, .lst [x.2, y.2]) := (rfl)
@[simp] theorem tupO_3 {x y z : Ent} : tupO [x, y, z] = some (if [x, y, z].all fu = true then 8 else 0, .tup [x.2, y.2, z.2]) := (rfl)
@[simp] theorem lstO_3 {x y z : Ent} : lstO [x, y, z] = some (if [x, y, z].all fu = true then 9 else 1, .lst [x.2, y.2, z.2]) := (rfl)
@[simp] theorem tupO_4 {x y z w : Ent} : tupO [x, y, z, w] = some (if [x, y, z, w].all fu = true then 8 else 0, .tup [x.2, y.2, z.2, w.2]) := (rfl)
@[simp] theorem lstO_4 {x y z w : Ent} : lstO [x, y, z, w] = some (if [x, y, z, w].all fu = true then 9 else 1, .lst [x.2, y.2, z.2, w.2]) := (rfl)
@[simp] theorem tupO_5 {x y z w u : Ent} : tupO [x, y, z, w, u] = some (if [x, y, z, w, u].all fu = true then 8 else 0, .tup [x.2, y.2, z.2, w.2, u.2]) := (rfl)
@[simp] theorem lstO_5 {x y z w u : Ent} : lstO [x, y, z, w, u] = some (if [x, y, z, w, u].all fu = true then 9 else 1, .lst [x.2, y.2, z.2, w.2, u.2]) := (rfl)
@[simp] theorem tupO_6 {x y z w u v : Ent} : tupO [x, y, z, w, u, v] = some (if [x, y, z, w, u, v].all fu = true then 8 else 0, .tup [x.2, y.2, z.2, w.2, u.2, v.2]) := (rfl)
@[simp] theorem lstO_6 {x y z w u v : Ent} : lstO [x, y, z, w, u, v] = some (if [x, y, z, w, u, v].all fu = true then 9 else 1, .lst [x.2, y.2, z.2, w.2, u.2, v.2]) := (rfl)
@[simp] theorem tupO_7 {x y z w u v a : Ent} : tupO [x, y, z, w, u, v, a] = some (if [x, y, z, w, u, v, a].all fu = true then 8 else 0, .tup [x.2, y.2, z.2, w.2, u.2, v.2, a.2]) := (rfl)
@[simp] theorem tupO_8 {x y z w u v a b : Ent} : tupO [x, y, z, w, u, v, a, b] = some (if [x, y, z, w, u, v, a, b].all fu = true then 8 else 0, .tup [x.2, y.2, z.2, w.2, u.2, v.2, a.2, b.2]) := (rfl)
@[simp] theorem lstO_7 {x y z w u v a : Ent} : lstO [x, y, z, w, u, v, a] = some (if [x, y, z, w, u, v, a].all fu = true then 9 else 1, .lst [x.2, y.2, z.2, w.2, u.2, v.2, a.2]) := (rfl)
@[simp] theorem lstO_8 {x y z w u v a b : Ent} : lstO [x, y, z, w, u, v, a, b] = some (if [x, y, z, w, u, v, a, b].all fu = true then 9 else 1, .lst [x.2, y.2, z.2, w.2, u.2, v.2, a.2, b.2]) := (rfl)
@[simp] theorem lstO_9 {x y z w u v a b c : Ent} : lstO [x, y, z, w, u, v, a, b, c] = some (if [x, y, z, w, u, v, a, b, c].all fu = true then 9 else 1, .lst [x.2, y.2, z.2, w.2, u.2, v.2, a.2, b.2, c.2]) := (rfl)
/-! ### places -/
theorem ixN_nat {n : Nat} {i : Nat} (h : i < n) : ixN n (i : Int) = some i := by
  unfold ixN
  rw [if_pos (by omega), if_pos (by omega)]
  rfl
theorem atI_nat {α : Type} {xs : List α} {i : Nat} : atI xs (i : Int) = xs[i]? := by
  unfold atI
  by_cases h : i < xs.length
  · rw [ixN_nat h]; rfl
  · unfold ixN
    rw [if_pos (by omega), if_neg (by omega), List.getElem?_eq_none (by omega)]
    rfl
theorem atI_pos {α : Type} {xs : List α} {i : Int} (h : 0 ≤ i) : atI xs i = xs[i.toNat]? := by
  obtain ⟨n, rfl⟩ := Int.eq_ofNat_of_zero_le h
  exact atI_nat
@[simp] theorem atI_0 {α : Type} {x : α} {xs : List α} : atI (x :: xs) 0 = some x := by rw [atI_pos (by omega)]; rfl
@[simp] theorem atI_1 {α : Type} {x y : α} {xs : List α} : atI (x :: y :: xs) 1 = some y := by rw [atI_pos (by omega)]; rfl
@[simp] theorem atI_2 {α : Type} {x y z : α} {xs : List α} : atI (x :: y :: z :: xs) 2 = some z := by rw [atI_pos (by omega)]; rfl
@[simp] theorem atI_3 {α : Type} {x y z w : α} {xs : List α} : atI (x :: y :: z :: w :: xs) 3 = some w := by rw [atI_pos (by omega)]; rfl
@[simp] theorem atI_4 {α : Type} {x y z w u : α} {xs : List α} : atI (x :: y :: z :: w :: u :: xs) 4 = some u := by rw [atI_pos (by omega)]; rfl
@[simp] theorem ixt {ds : List D} {i : Int} : idxD (.tup ds) (.int i) = (atI ds i).map ent := (rfl)
@[simp] theorem ixl {ds : List D} {i : Int} : idxD (.lst ds) (.int i) = (atI ds i).map ent := (rfl)
@[simp] theorem ixs {ds : List D} {i : Int} : idxD (.scr ds) (.int i) = (atI ds i).map ent := (rfl)
/-! ### slices -/
theorem sIx_pos {n d : Nat} {i : Int} (h : 0 ≤ i) : HT.sIx n d (some i) = min i.toNat n := by
  show (if i < 0 then (i + (n : Int)).toNat else min i.toNat n) = _
  rw [if_neg (by omega)]
theorem cut_take {ds : List D} {i : Int} (h : 0 ≤ i) : slcD.cutL ds none (some i) = ds.take i.toNat := by
  unfold slcD.cutL
  rw [sIx_pos h, HT.sIx_none, Nat.sub_zero, List.drop_zero]
  by_cases h2 : i.toNat ≤ ds.length
  · rw [Nat.min_eq_left h2]
  · rw [Nat.min_eq_right (by omega), List.take_length, List.take_of_length_le (by omega)]
theorem cut_drop {ds : List D} {i : Int} (h : 0 ≤ i) : slcD.cutL ds (some i) none = ds.drop i.toNat := by
  unfold slcD.cutL
  rw [sIx_pos h, HT.sIx_none]
  by_cases h2 : i.toNat ≤ ds.length
  · rw [Nat.min_eq_left h2, List.take_of_length_le (by rw [List.length_drop]; omega)]
  · rw [Nat.min_eq_right (by omega), List.drop_length, List.drop_of_length_le (by omega)]
    simp
theorem cut_mid {ds : List D} {i j : Int} (h : 0 ≤ i) (h2 : i ≤ j) : slcD.cutL ds (some i) (some j) = (ds.drop i.toNat).take (j.toNat - i.toNat) := by
  unfold slcD.cutL
  rw [sIx_pos h, sIx_pos (by omega)]
  by_cases h3 : i.toNat ≤ ds.length
  · rw [Nat.min_eq_left h3]
    by_cases h4 : j.toNat ≤ ds.length
    · rw [Nat.min_eq_left h4]
    · rw [Nat.min_eq_right (by omega), List.take_of_length_le (by rw [List.length_drop]; omega), List.take_of_length_le (by rw [List.length_drop]; omega)]
  · rw [Nat.min_eq_right (by omega : ds.length ≤ i.toNat), List.drop_length, List.drop_of_length_le (by omega)]
    simp
@[simp] theorem slc_l {ds : List D} {a b : Option Int} : slcD (.lst ds) a b = some (1, .lst (slcD.cutL ds a b)) := (rfl)
@[simp] theorem slc_t {ds : List D} {a b : Option Int} : slcD (.tup ds) a b = some (0, .tup (slcD.cutL ds a b)) := (rfl)
@[simp] theorem part_nop {r : Res Ent} : partO .nop r = .ok none := (rfl)
theorem part_ok {e : Ex} {k : Nat} {i : Int} (h : e ≠ .nop) : partO e (.ok (k, .int i)) = .ok (some i) := by
  cases e <;> first | rfl | exact absurd rfl h
@[simp] theorem part_nm {j k : Nat} {i : Int} : partO (.nm j) (.ok (k, .int i)) = .ok (some i) := (rfl)
@[simp] theorem part_int {j : Int} {k : Nat} {i : Int} : partO (.int j) (.ok (k, .int i)) = .ok (some i) := (rfl)
@[simp] theorem part_bin {op : Bop} {a b : Ex} {k : Nat} {i : Int} : partO (.bin op a b) (.ok (k, .int i)) = .ok (some i) := (rfl)
/-! ### arithmetic -/
@[simp] theorem add_i {i j : Int} : binD .add (.int i) (.int j) = some (0, .int (i + j)) := (rfl)
@[simp] theorem sub_i {i j : Int} : binD .sub (.int i) (.int j) = some (0, .int (i - j)) := (rfl)
theorem mul_i {i j : Int} (h : (-(2 ^ 64) < i ∧ i < 2 ^ 64) ∨ (-(2 ^ 64) < j ∧ j < 2 ^ 64)) : binD .mul (.int i) (.int j) = some (0, .int (i * j)) := if_pos h
theorem mod_i {i j : Int} (h : 0 < j) : binD .mod (.int i) (.int j) = some (0, .int (i % j)) := if_pos h
theorem fdiv_i {i j : Int} (h : 0 < j) (h2 : j.natAbs.log2 < 9000) : binD .fdiv (.int i) (.int j) = some (0, .int (i / j)) := if_pos ⟨h, h2⟩
theorem mul_l {a : List D} {k : Int} (h0 : 0 ≤ k) (h1 : k ≤ 1000) (h2 : a.length ≤ 1000) : binD .mul (.lst a) (.int k) = some (1, .lst (List.replicate k.toNat a).flatten) := if_pos ⟨by omega, by omega, Nat.le_trans (Nat.mul_le_mul h2 (show k.toNat ≤ 1000 by omega)) (by decide)⟩
@[simp] theorem add_l {a b : List D} : binD .add (.lst a) (.lst b) = newL (a ++ b) := (rfl)
@[simp] theorem add_t {a b : List D} : binD .add (.tup a) (.tup b) = newT (a ++ b) := (rfl)
theorem newL_ok {a : List D} (h : a.length ≤ 1000000) : newL a = some (1, .lst a) := if_pos (sz_le h)
theorem newT_ok {a : List D} (h : a.length ≤ 1000000) : newT a = some (0, .tup a) := if_pos (sz_le h)
theorem add_s {a b : Str} (h : a.length + b.length ≤ 1000000) : binD .add (.str a) (.str b) = some (0, .str (a ++ b)) := if_pos (sz_le h)
@[simp] theorem lt_i {i j : Int} : cmpD .lt (.int i) (.int j) = some (0, .bl (decide (i < j))) := (rfl)
@[simp] theorem le_i {i j : Int} : cmpD .le (.int i) (.int j) = some (0, .bl (decide (i ≤ j))) := (rfl)
@[simp] theorem gt_i {i j : Int} : cmpD .gt (.int i) (.int j) = some (0, .bl (decide (j < i))) := (rfl)
@[simp] theorem ge_i {i j : Int} : cmpD .ge (.int i) (.int j) = some (0, .bl (decide (j ≤ i))) := (rfl)
@[simp] theorem eq_i {i j : Int} : cmpD .eq (.int i) (.int j) = some (0, .bl (i == j)) := by
  show bl? (eqD (.int i) (.int j)) = _
  simp [eqD, okd, eqd, bl?]
@[simp] theorem ne_i {i j : Int} : cmpD .ne (.int i) (.int j) = some (0, .bl (!(i == j))) := by
  show bl? ((eqD (.int i) (.int j)).map not) = _
  simp [eqD, okd, eqd, bl?]
theorem cmp_eq {a b : D} {r : Bool} (h : eqD a b = some r) : cmpD .eq a b = some (0, .bl r) := by
  show bl? (eqD a b) = _
  rw [h]; rfl
theorem cmp_ne {a b : D} {r : Bool} (h : eqD a b = some r) : cmpD .ne a b = some (0, .bl (!r)) := by
  show bl? ((eqD a b).map not) = _
  rw [h]; rfl
theorem cmp_in {a b : D} {r : Bool} (h : inA a b = some r) : cmpD .inn a b = some (0, .bl r) := by
  show bl? (inA a b) = _
  rw [h]; rfl
theorem cmp_notin {a b : D} {r : Bool} (h : inA a b = some r) : cmpD .notin a b = some (0, .bl (!r)) := by
  show bl? ((inA a b).map not) = _
  rw [h]; rfl
/-! ### texts -/
def sOk (s : Str) : Bool := PyData.strOk s
theorem nmOk_sOk {s : Str} (h : nmOk s = true) : sOk s = true := by
  unfold nmOk at h
  simp only [Bool.and_eq_true, decide_eq_true_eq, List.all_eq_true] at h
  unfold sOk PyData.strOk
  rw [← Array.all_toList, List.all_eq_true]
  intro c hc
  have := h.2 c hc
  unfold lowC at this
  simp only [Bool.and_eq_true, decide_eq_true_eq] at this
  exact decide_eq_true (by omega)
theorem eq_s {a b : Str} (ha : sOk a = true) (hb : sOk b = true) : eqD (.str a) (.str b) = some (a == b) := by
  unfold eqD
  rw [show okd 60 (.str a) = true from ha, show okd 60 (.str b) = true from hb]
  rfl
theorem okds_str {n : Nat} : ∀ {l : List Str}, (∀ s ∈ l, sOk s = true) → okds n (l.map .str) = true
  | [], _ => rfl
  | s :: l, h => by
    show (okd n (.str s) && okds n (l.map .str)) = true
    rw [show okd n (.str s) = true from by have := h s List.mem_cons_self; cases n <;> exact this, okds_str fun x hx => h x (List.mem_cons_of_mem _ hx)]
    rfl
theorem any_str {s : Str} : ∀ {l : List Str}, ((l.map D.str).any fun y => eqd y (.str s)) = decide (s ∈ l)
  | [] => rfl
  | x :: l => by
    rw [List.map_cons, List.any_cons, any_str]
    show ((x == s) || decide (s ∈ l)) = _
    by_cases h : x = s
    · subst h; simp
    · have h2 : (x == s) = false := beq_eq_false_iff_ne.mpr h
      rw [h2, Bool.false_or]
      have : s ∈ x :: l ↔ s ∈ l := by
        rw [List.mem_cons]
        exact ⟨fun q => q.elim (fun q => absurd q.symm h) id, .inr⟩
      simp [this]
theorem in_s {s : Str} {l : List Str} (hs : sOk s = true) (hl : ∀ s ∈ l, sOk s = true) : inA (.str s) (.lst (l.map .str)) = some (decide (s ∈ l)) := by
  show (if okd 60 (.str s) && okds 60 (l.map .str) then some ((l.map D.str).any fun y => eqd y (.str s)) else none) = _
  rw [show okd 60 (.str s) = true from hs, okds_str hl, any_str]
  rfl
theorem in_sm {α : Type} {t : α → Str} {s : Str} {l : List α} (hs : sOk s = true) (hl : ∀ a ∈ l, sOk (t a) = true) : inA (.str s) (.lst (l.map fun a => .str (t a))) = some (decide (s ∈ l.map t)) := by
  have := in_s (l := l.map t) hs fun x hx => by
    obtain ⟨a, ha, rfl⟩ := List.mem_map.mp hx
    exact hl a ha
  rw [List.map_map] at this
  exact this
/-! ### walks -/
@[simp] theorem it_l {ds : List D} : iterD .seq [.lst ds] = some ds := (rfl)
@[simp] theorem it_t {ds : List D} : iterD .seq [.tup ds] = some ds := (rfl)
@[simp] theorem it_e {ds : List D} : iterD .enum [.lst ds] = some (ds.zipIdx.map fun p => .tup [.int p.2, p.1]) := (rfl)
@[simp] theorem len_l {ds : List D} : bltD .len [.lst ds] = some (0, .int ds.length) := (rfl)
@[simp] theorem len_t {ds : List D} : bltD .len [.tup ds] = some (0, .int ds.length) := (rfl)
@[simp] theorem len_sc {ds : List D} : bltD .len [.scr ds] = some (0, .int ds.length) := (rfl)
@[simp] theorem len_d {ks vs : List D} : bltD .len [.dct ks vs] = some (0, .int ks.length) := (rfl)
theorem len_s {s : Str} (h : s.length ≤ 1000000) : bltD .len [.str s] = some (0, .int s.length) := by
  show (if szOk s.length = true then some s.length else none).map _ = _
  rw [sz_le h]
  rfl
theorem it_r {n : Int} (h : 0 ≤ n) (h2 : n ≤ 1000000) : iterD .rng [.int n] = some ((List.range n.toNat).map fun (i : Nat) => .int i) := by
  show (if -(2 ^ 62) ≤ n ∧ n < 2 ^ 62 then _ else _) = _
  rw [if_pos ⟨by omega, by omega⟩]
theorem it_rn {n : Nat} (h : n ≤ 1000000) : iterD .rng [.int (n : Int)] = some ((List.range n).map fun (i : Nat) => .int i) := by
  rw [it_r (by omega) (by omega), Int.toNat_natCast]
theorem it_8 : iterD .rng [.int 8] = some ((List.range 8).map fun (i : Nat) => .int i) := it_r (by decide) (by decide)
theorem it_6 : iterD .rng [.int 6] = some ((List.range 6).map fun (i : Nat) => .int i) := it_r (by decide) (by decide)
theorem it_3 : iterD .rng [.int 3] = some ((List.range 3).map fun (i : Nat) => .int i) := it_r (by decide) (by decide)
theorem all_bl {α : Type} {l : List α} {f : α → Bool} : bltD .all [.lst (l.map fun a => .bl (f a))] = some (0, .bl (l.all f)) := by
  show (bls? (l.map fun a => D.bl (f a))).map _ = _
  rw [bls_map]
  show some ((0, D.bl ((l.map f).all id)) : Ent) = _
  rw [List.all_map]
  rfl
/-! ### dicts of texts -/
def dD (l : List (Str × Str)) : D := .dct (l.map fun p => .str p.1) (l.map fun p => .str p.2)
theorem dlk_str {s : Str} : ∀ {l : List (Str × Str)}, dlk (.inr s) (l.map fun p => .str p.1) (l.map fun p => .str p.2) = (l.lookup s).map .str
  | [] => rfl
  | (a, b) :: l => by
    show (if key? (.str a) = some (.inr s) then some (D.str b) else dlk (.inr s) _ _) = _
    rw [List.lookup_cons]
    by_cases h : a = s
    · subst h
      simp [key?]
    · rw [if_neg (by simp [key?, h]), dlk_str, beq_eq_false_iff_ne.mpr (Ne.symm h)]
theorem idx_dD {s : Str} {l : List (Str × Str)} {v : Str} (h : l.lookup s = some v) : idxD (dD l) (.str s) = some (0, .str v) := by
  show (dlk (.inr s) _ _).map ent = _
  rw [dlk_str, h]
  rfl
theorem has_str {s : Str} {l : List (Str × Str)} : dhas (.inr s) (l.map fun p => .str p.1) = decide (s ∈ l.map (·.1)) := by
  unfold dhas
  induction l with
  | nil => rfl
  | cons p l ih =>
    rw [List.map_cons, List.any_cons, ih, List.map_cons]
    by_cases h : p.1 = s
    · simp [key?, h]
    · have : s ∈ p.1 :: l.map (·.1) ↔ s ∈ l.map (·.1) := by
        rw [List.mem_cons]
        exact ⟨fun q => q.elim (fun q => absurd q.symm h) id, .inr⟩
      simp [key?, h, this, -List.mem_map, -List.mem_cons]
theorem in_dD {s : Str} {l : List (Str × Str)} : inA (.str s) (dD l) = some (decide (s ∈ l.map (·.1))) := by
  show (key? (.str s)).map (fun k => dhas k _) = _
  show some (dhas (.inr s) _) = _
  rw [has_str]
theorem cut_done {α : Type} {t : α → D} {done rest : List α} : slcD.cutL ((done ++ rest).map t) none (some (done.length : Int)) = done.map t := by
  rw [cut_take (by omega), Int.toNat_natCast, List.map_append, List.take_left' (by simp)]
theorem cut_done1 {α : Type} {t : α → D} {done rest : List α} {a : α} : slcD.cutL ((done ++ a :: rest).map t) none (some ((done.length : Int) + 1)) = (done ++ [a]).map t := by
  have e : done ++ a :: rest = (done ++ [a]) ++ rest := by simp
  have e2 : ((done.length : Int) + 1) = (((done ++ [a]).length : Nat) : Int) := by simp
  rw [e, e2, cut_done]
/-! ### changes in place -/
section
variable {Γ : Gm} {L : List Nat} {env : Env}
theorem mut_nx {i k : Nat} {d d' : D} {B ex : List Nat} (hp : env[i]? = some (some (k, d, B))) (hL : L.contains i = false) (hB : (B ++ ex).contains i = false) : mutOut L env i d' ex = .nx ((wipeB i env).set i (some (k, d', B ++ ex))) := by
  unfold mutOut
  rw [hp]
  simp only [hL, hB, Bool.or_self, Bool.false_eq_true, if_false]
theorem app_ok {i k2 : Nat} {ds : List D} {B : List Nat} {e : Ex} {x : Ent} (hp : env[i]? = some (some (k2 + 1, .lst ds, B))) (he : evE Γ e env = .ok x) (hz : ds.length + 1 ≤ 1000000) (hf : ful x.1 x.2 = true) (hf2 : ful k2 x.2 = true) (hL : L.contains i = false) (hB : B.contains i = false) :
    appS Γ L env (.nm i) e = .nx ((wipeB i env).set i (some (k2 + 1, .lst (ds ++ [x.2]), B))) := by
  have e1 : evP Γ (.nm i) env = .ok ⟨i, k2 + 1, .lst ds, id⟩ := by rw [p_nm, hp]
  unfold appS
  rw [e1, he]
  simp only [Nat.add_sub_cancel, hf, hf2, Bool.and_self, true_or, if_true]
  unfold app1
  rw [e1, he]
  simp only [rP_ok, rO_ok, sz_le hz, if_true, hf, hf2, Bool.and_self, id]
  rw [mut_nx hp hL (by simpa using hB), List.append_nil]
/-- what is not whole borrows -/
theorem app_br {i k2 : Nat} {ds : List D} {B : List Nat} {e : Ex} {x : Ent} (hp : env[i]? = some (some (k2 + 1, .lst ds, B))) (he : evE Γ e env = .ok x) (hz : ds.length + 1 ≤ 1000000) (hf : ful x.1 x.2 = false) (hL : L.contains i = false) {env2 : Env} (h2 : env2 = lowE env i k2)
    (he2 : evE Γ e env2 = .ok x) (hB : (B ++ brw env2 (fv e)).contains i = false) :
    appS Γ L env (.nm i) e = .nx ((wipeB i env2).set i (some (1, .lst (ds ++ [x.2]), B ++ brw env2 (fv e)))) := by
  have e1 : evP Γ (.nm i) env = .ok ⟨i, k2 + 1, .lst ds, id⟩ := by rw [p_nm, hp]
  have hl : i < env.length := (List.getElem?_eq_some_iff.mp hp).1
  have hp2 : env2[i]? = some (some (1, .lst ds, B)) := by
    subst h2
    unfold lowE
    rw [hp]
    dsimp only
    rw [List.getElem?_set_self hl, Nat.add_sub_cancel_left]
  have e3 : evP Γ (.nm i) env2 = .ok ⟨i, 1, .lst ds, id⟩ := by rw [p_nm, hp2]
  have key : app1 Γ L env2 (.nm i) e = .nx ((wipeB i env2).set i (some (1, .lst (ds ++ [x.2]), B ++ brw env2 (fv e)))) := by
    unfold app1
    rw [e3, he2]
    simp only [rP_ok, rO_ok, sz_le hz, if_true, hf, Bool.false_and, Bool.false_eq_true, if_false, id]
    rw [mut_nx hp2 hL hB]
  unfold appS
  rw [e1, he]
  simp only [Nat.add_sub_cancel, hf, Bool.false_and, Bool.false_eq_true, false_or]
  by_cases hk : k2 + 1 ≤ 1
  · rw [if_pos hk]
    obtain rfl : k2 = 0 := by omega
    have : env2 = env := by
      subst h2
      unfold lowE
      rw [hp]
      dsimp only
      apply List.ext_getElem?
      intro j
      by_cases ej : i = j
      · subst ej; rw [List.getElem?_set_self hl, hp]
      · rw [List.getElem?_set_ne ej]
    rw [← this]
    exact key
  · rw [if_neg hk, ← h2]
    exact key
end
end MP

/-! PLe: programs; look_at lets by what is one. -/
namespace MP
open PySem PySem.Spec PyProof.Rows L2
inductive Rw where
  | put (b : Str) (w t : Int) | swap (b : Str) (o n t : Int) | ask (b : Str) (ts : List (Option Int)) | any (ts : List Int) | call (p : Str) (t : Int) | take (b : Str) (t : Int) | give (b : Str) (t : Int)
def oD : Option Int → D
  | none => .non
  | some i => .int i
def Rw.d : Rw → D
  | .put b w t => .tup [.str "put", .str b, .int w, .int t]
  | .swap b o n t => .tup [.str "swap", .str b, .int o, .int n, .int t]
  | .ask b ts => .tup [.str "ask", .str b, .tup (ts.map oD)]
  | .any ts => .tup [.str "any", .tup (ts.map .int)]
  | .call p t => .tup [.str "call", .str p, .int t]
  | .take b t => .tup [.str "take", .str b, .int t]
  | .give b t => .tup [.str "give", .str b, .int t]
abbrev Bx := Str × Int × Int
abbrev Pc := Str × List Rw
abbrev Hd := Str × Str
structure Pg where
  bs : List Bx
  ps : List Pc
  hs : List Hd
def bxD (b : Bx) : D := .tup [.str b.1, .int b.2.1, .int b.2.2]
theorem bxD_d (b : Bx) : bxD b = .tup [.str b.1, .int b.2.1, .int b.2.2] := rfl
@[simp] theorem bx0 {b : Bx} : idxD (bxD b) (.int 0) = some (0, .str b.1) := (rfl)
@[simp] theorem bx1 {b : Bx} : idxD (bxD b) (.int 1) = some (0, .int b.2.1) := (rfl)
@[simp] theorem bx2 {b : Bx} : idxD (bxD b) (.int 2) = some (0, .int b.2.2) := (rfl)
@[simp] theorem bxb {M B : List Nat} {ts : List Tg} {k : Nat} {b : Bx} {env : Env} : bindTg M B (.tup ts) (k, bxD b) env = bindTgs M B ts k [.str b.1, .int b.2.1, .int b.2.2] env := (rfl)
@[simp] theorem bxf {k : Nat} {b : Bx} : ful k (bxD b) = true := by cases k <;> rfl
def pcD (p : Pc) : D := .tup [.str p.1, .lst (p.2.map Rw.d)]
def hdD (h : Hd) : D := .tup [.str h.1, .str h.2]
@[simp] theorem pc0 {b : Pc} : idxD (pcD b) (.int 0) = some (0, .str b.1) := (rfl)
@[simp] theorem pc1 {b : Pc} : idxD (pcD b) (.int 1) = some (0, .lst (b.2.map Rw.d)) := (rfl)
@[simp] theorem pcb {M B : List Nat} {ts : List Tg} {k : Nat} {b : Pc} {env : Env} : bindTg M B (.tup ts) (k, pcD b) env = bindTgs M B ts k [.str b.1, .lst (b.2.map Rw.d)] env := (rfl)
@[simp] theorem hd0 {b : Hd} : idxD (hdD b) (.int 0) = some (0, .str b.1) := (rfl)
@[simp] theorem hd1 {b : Hd} : idxD (hdD b) (.int 1) = some (0, .str b.2) := (rfl)
@[simp] theorem hdb {M B : List Nat} {ts : List Tg} {k : Nat} {b : Hd} {env : Env} : bindTg M B (.tup ts) (k, hdD b) env = bindTgs M B ts k [.str b.1, .str b.2] env := (rfl)
@[simp] theorem hdf {k : Nat} {b : Hd} : ful k (hdD b) = true := by cases k <;> rfl
def Pg.d (P : Pg) : D := .tup [.lst (P.bs.map bxD), .lst (P.ps.map pcD), .lst (P.hs.map hdD)]
def wof (name : Str) : List Bx → Int
  | [] => 0
  | b :: bs => if b.1 = name then b.2.1 else wof name bs
def inW (i lo hi : Int) : Bool := decide (lo ≤ i) && decide (i < hi)
/-- a row's own names -/
def Rw.ok (bs : List Bx) (pn : List Str) (nh : Nat) (en : Int) : Rw → Bool
  | .put b w t => wof b bs != 0 && inW w 0 (wof b bs) && inW t 0 (en + 1)
  | .swap b o n t => wof b bs != 0 && inW o 0 (wof b bs) && inW n 0 (wof b bs) && inW t 0 (en + 1)
  | .ask b ts => wof b bs != 0 && (ts.length : Int) == wof b bs && (ts.filterMap id).all fun t => inW t 0 (en + 1)
  | .any ts => (ts.all fun t => inW t 0 (en + 1)) && decide (1 ≤ ts.length) && decide (ts.length ≤ 4)
  | .call p t => decide (p ∈ pn) && inW t 0 (en + 1)
  | .take b t => wof b bs != 0 && decide ((nh : Int) < wof b bs) && inW t 0 (en + 1)
  | .give b t => wof b bs != 0 && decide ((nh : Int) < wof b bs) && inW t 0 (en + 1)
def Rw.nms : Rw → List Str
  | .put b _ _ => [b]
  | .swap b _ _ _ => [b]
  | .ask b _ => [b]
  | .any _ => []
  | .call p _ => [p]
  | .take b _ => [b]
  | .give b _ => [b]
def prodI : List Int → Int
  | [] => 1
  | i :: l => i * prodI l
structure Pg.Ok (P : Pg) : Prop where
  bl : 1 ≤ P.bs.length ∧ P.bs.length ≤ 3
  bn : ∀ b ∈ P.bs, nmOk b.1 = true
  bw : ∀ b ∈ P.bs, 2 ≤ b.2.1 ∧ b.2.1 ≤ 6 ∧ 0 ≤ b.2.2 ∧ b.2.2 < b.2.1
  bd : (P.bs.map (·.1)).Nodup
  bp : prodI (P.bs.map (·.2.1)) ≤ 8
  pl : 1 ≤ P.ps.length ∧ P.ps.length ≤ 6
  pn : ∀ p ∈ P.ps, nmOk p.1 = true
  pd : (P.ps.map (·.1)).Nodup
  pr : ∀ p ∈ P.ps, 1 ≤ p.2.length ∧ p.2.length ≤ 8
  rn : ∀ p ∈ P.ps, ∀ r ∈ p.2, ∀ n ∈ r.nms, nmOk n = true
  rw : ∀ p ∈ P.ps, ∀ r ∈ p.2, r.ok P.bs (P.ps.map (·.1)) P.hs.length p.2.length = true
  hl : 1 ≤ P.hs.length ∧ P.hs.length ≤ 3
  hn : ∀ h ∈ P.hs, nmOk h.1 = true
  hm : ∀ h ∈ P.hs, nmOk h.2 = true
  hd : (P.hs.map (·.1)).Nodup
  hp : ∀ h ∈ P.hs, h.2 ∈ P.ps.map (·.1)
def s_many_stores : List Sm := [
  (.set (.nm 1) (.int (1))),
  (.for (.tup [(.nm 2), (.nm 3), (.nm 4)]) .seq [(.nm 0)] [(.set (.nm 1) (.bin .mul (.nm 1) (.nm 3)))]),
  (.retV 1)]
def s_is_tuple : List Sm := [
  (.ret (.and (.isi (.nm 0) ["tuple"]) (.cmp .eq (.blt .len [(.nm 0)]) (.nm 1))))]
def s_is_box : List Sm := [
  (.ife (.or (.not (.call "is_tuple" [(.nm 0), (.int (3))])) (.or (.not (.call "is_name" [(.idx (.nm 0) (.int (0)))])) (.not (.call "is_within" [(.idx (.nm 0) (.int (1))), (.int (2)), (.bin .add (.gl "MOST_WORTHS") (.int (1)))])))) [(.ret (.bl false))] []),
  (.ret (.call "is_within" [(.idx (.nm 0) (.int (2))), (.int (0)), (.idx (.nm 0) (.int (1)))]))]
def s_look_at_boxes : List Sm := [
  (.ife (.not (.chain .le .le (.int (1)) (.blt .len [(.nm 0)]) (.gl "MOST_BOXES"))) [.bad] []),
  (.for (.tup [(.nm 1), (.nm 2)]) .enum [(.nm 0)] [(.ife (.or (.not (.call "is_box" [(.nm 2)])) (.cmp .inn (.idx (.nm 2) (.int (0))) (.lc (.idx (.nm 4) (.int (0))) (.nm 4) .seq [(.slc (.nm 0) .nop (.nm 1))] [] [3, 4]))) [.bad] []), (.ife (.cmp .gt (.call "many_stores" [(.slc (.nm 0) .nop (.bin .add (.nm 1) (.int (1))))]) (.gl "MOST_STORES")) [.bad] [])])]
def s_look_at_procs : List Sm := [
  (.ife (.not (.chain .le .le (.int (1)) (.blt .len [(.nm 0)]) (.gl "MOST_PROCS"))) [.bad] []),
  (.for (.tup [(.nm 1), (.nm 2)]) .enum [(.nm 0)] [(.ife (.or (.not (.call "is_tuple" [(.nm 2), (.int (2))])) (.or (.not (.call "is_name" [(.idx (.nm 2) (.int (0)))])) (.not (.isi (.idx (.nm 2) (.int (1))) ["list"])))) [.bad] []), (.ife (.or (.not (.chain .le .le (.int (1)) (.blt .len [(.idx (.nm 2) (.int (1)))]) (.gl "MOST_ROWS"))) (.cmp .inn (.idx (.nm 2) (.int (0))) (.lc (.idx (.nm 4) (.int (0))) (.nm 4) .seq [(.slc (.nm 0) .nop (.nm 1))] [] [3, 4]))) [.bad] [])])]
def s_worths_of : List Sm := [
  (.for (.nm 2) .seq [(.nm 0)] [(.ife (.and (.isi (.nm 1) ["str"]) (.cmp .eq (.idx (.nm 2) (.int (0))) (.nm 1))) [(.ret (.idx (.nm 2) (.int (1))))] [])]),
  (.ret (.int (0)))]
def s_are_tos : List Sm := [
  (.ret (.and (.isi (.nm 0) ["tuple"]) (.blt .all [(.lc (.call "is_within" [(.nm 3), (.int (0)), (.bin .add (.nm 1) (.int (1)))]) (.nm 3) .seq [(.nm 0)] [] [2, 3])])))]
def s_is_row_of_box : List Sm := [
  (.ife (.cmp .eq (.nm 1) (.int (0))) [(.ret (.bl false))] []),
  (.ife (.cmp .eq (.idx (.nm 0) (.int (0))) (.str "put")) [(.ret (.and (.cmp .eq (.blt .len [(.nm 0)]) (.int (4))) (.and (.call "is_within" [(.idx (.nm 0) (.int (2))), (.int (0)), (.nm 1)]) (.call "is_within" [(.idx (.nm 0) (.int (3))), (.int (0)), (.bin .add (.nm 2) (.int (1)))]))))] []),
  (.ife (.cmp .eq (.idx (.nm 0) (.int (0))) (.str "swap")) [(.ife (.or (.cmp .ne (.blt .len [(.nm 0)]) (.int (5))) (.or (.not (.call "is_within" [(.idx (.nm 0) (.int (2))), (.int (0)), (.nm 1)])) (.not (.call "is_within" [(.idx (.nm 0) (.int (3))), (.int (0)), (.nm 1)])))) [(.ret (.bl false))] []), (.ret (.call "is_within" [(.idx (.nm 0) (.int (4))), (.int (0)), (.bin .add (.nm 2) (.int (1)))]))] []),
  (.ife (.cmp .eq (.idx (.nm 0) (.int (0))) (.str "ask")) [(.ife (.or (.not (.call "is_tuple" [(.idx (.nm 0) (.int (2))), (.nm 1)])) (.cmp .ne (.blt .len [(.nm 0)]) (.int (3)))) [(.ret (.bl false))] []), (.ret (.call "are_tos" [(.tupl (.lc (.nm 5) (.nm 5) .seq [(.idx (.nm 0) (.int (2)))] [(.cmp .isnt (.nm 5) .non)] [4, 5])), (.nm 2)]))] []),
  (.ret (.and (.cmp .eq (.blt .len [(.nm 0)]) (.int (3))) (.and (.cmp .gt (.nm 1) (.nm 3)) (.call "is_within" [(.idx (.nm 0) (.int (2))), (.int (0)), (.bin .add (.nm 2) (.int (1)))]))))]
def s_is_row : List Sm := [
  (.set (.tup [(.nm 3), (.nm 4), (.nm 5)]) (.nm 1)),
  (.ife (.or (.not (.isi (.nm 0) ["tuple"])) (.or (.cmp .lt (.blt .len [(.nm 0)]) (.int (2))) (.not (.isi (.idx (.nm 0) (.int (0))) ["str"])))) [(.ret (.bl false))] []),
  (.ife (.cmp .eq (.idx (.nm 0) (.int (0))) (.str "any")) [(.ret (.and (.cmp .eq (.blt .len [(.nm 0)]) (.int (2))) (.and (.call "are_tos" [(.idx (.nm 0) (.int (1))), (.nm 2)]) (.chain .le .le (.int (1)) (.blt .len [(.idx (.nm 0) (.int (1)))]) (.gl "MOST_WAYS")))))] []),
  (.ife (.cmp .eq (.idx (.nm 0) (.int (0))) (.str "call")) [(.set (.nm 6) (.lc (.idx (.nm 8) (.int (0))) (.nm 8) .seq [(.nm 4)] [(.and (.isi (.idx (.nm 0) (.int (1))) ["str"]) (.cmp .eq (.idx (.nm 8) (.int (0))) (.idx (.nm 0) (.int (1)))))] [7, 8])), (.ret (.and (.cmp .eq (.blt .len [(.nm 0)]) (.int (3))) (.and (.cmp .ne (.nm 6) (.lst [])) (.call "is_within" [(.idx (.nm 0) (.int (2))), (.int (0)), (.bin .add (.nm 2) (.int (1)))]))))] []),
  (.ife (.or (.cmp .notin (.idx (.nm 0) (.int (0))) (.tup [(.str "put"), (.str "swap"), (.str "ask"), (.str "take"), (.str "give")])) (.cmp .lt (.blt .len [(.nm 0)]) (.int (3)))) [(.ret (.bl false))] []),
  (.ret (.call "is_row_of_box" [(.nm 0), (.call "worths_of" [(.nm 3), (.idx (.nm 0) (.int (1)))]), (.nm 2), (.blt .len [(.nm 5)])]))]
def s_look_at_rows : List Sm := [
  (.for (.tup [(.nm 1), (.nm 2)]) .enum [(.idx (.nm 0) (.int (1)))] [(.for (.tup [(.nm 3), (.nm 4)]) .enum [(.idx (.nm 2) (.int (1)))] [(.ife (.not (.call "is_row" [(.nm 4), (.nm 0), (.blt .len [(.idx (.nm 2) (.int (1)))])])) [.bad] [])])])]
def s_look_at_hands : List Sm := [
  (.ife (.not (.chain .le .le (.int (1)) (.blt .len [(.nm 0)]) (.gl "MOST_HANDS"))) [.bad] []),
  (.set (.nm 2) (.lc (.idx (.nm 6) (.int (0))) (.nm 6) .seq [(.nm 1)] [] [5, 6])),
  (.for (.tup [(.nm 3), (.nm 4)]) .enum [(.nm 0)] [(.ife (.or (.not (.call "is_tuple" [(.nm 4), (.int (2))])) (.or (.not (.call "is_name" [(.idx (.nm 4) (.int (0)))])) (.or (.not (.call "is_name" [(.idx (.nm 4) (.int (1)))])) (.cmp .notin (.idx (.nm 4) (.int (1))) (.nm 2))))) [.bad] []), (.ife (.cmp .inn (.idx (.nm 4) (.int (0))) (.lc (.idx (.nm 7) (.int (0))) (.nm 7) .seq [(.slc (.nm 0) .nop (.nm 3))] [] [5, 7])) [.bad] [])])]
def s_look_at : List Sm := [
  (.ife (.or (.not (.call "is_tuple" [(.nm 0), (.int (3))])) (.not (.blt .all [(.lc (.isi (.nm 2) ["list"]) (.nm 2) .seq [(.nm 0)] [] [1, 2])]))) [.bad] []),
  (.drop (.call "look_at_boxes" [(.idx (.nm 0) (.int (0)))])),
  (.drop (.call "look_at_procs" [(.idx (.nm 0) (.int (1)))])),
  (.drop (.call "look_at_rows" [(.nm 0)])),
  (.drop (.call "look_at_hands" [(.idx (.nm 0) (.int (2))), (.idx (.nm 0) (.int (1)))]))]
section
variable {Γ : Gm}
/-- the promises -/
def S_whole (c : Fn) : Prop := ∀ i, c [.int i] = .ok (0, .bl true)
def S_within (c : Fn) : Prop := ∀ i lo hi : Int, c [.int i, .int lo, .int hi] = .ok (0, .bl (inW i lo hi))
def S_name (c : Fn) : Prop := ∀ s, nmOk s = true → c [.str s] = .ok (0, .bl true)
def S_stores (c : Fn) : Prop := ∀ l : List Bx, (∀ b ∈ l, 0 ≤ b.2.1 ∧ b.2.1 ≤ 6) → c [.lst (l.map bxD)] = .ok (0, .int (prodI (l.map (·.2.1))))
def S_tuple (c : Fn) : Prop := ∀ (ds : List D) (i : Int), c [.tup ds, .int i] = .ok (0, .bl ((ds.length : Int) == i))
theorem whole_s (B : Bas Γ) : S_whole (runF Γ [] 0 s_is_whole) := is_whole_ok B
theorem within_s (h : S_whole (Γ.call "is_whole")) : S_within (runF Γ [] 0 s_is_within) := is_within_ok h
theorem name_s (B : Bas Γ) : S_name (runF Γ [] 2 s_is_name) := fun _ h => is_name_ok B h
theorem tuple_s (B : Bas Γ) : S_tuple (runF Γ [] 0 s_is_tuple) := fun ds i => by
  have h1 := isi_tuple_tuple (ds := ds) B.kit
  simp [runF, s_is_tuple, h1]
theorem prodI_app : ∀ {a b : List Int}, prodI (a ++ b) = prodI a * prodI b
  | [], b => by simp [prodI]
  | x :: a, b => by rw [List.cons_append, prodI, prodI_app, prodI, Int.mul_assoc]
theorem stores_s : S_stores (runF Γ [1] 4 s_many_stores) := fun l hl => by
  refine runF_rt ?_
  simp [s_many_stores, brw, fv, fv.fvs, ful]
  refine loop_D (fun done e => ∃ o2 o3 o4, e = [some (0, .lst (l.map bxD), []), some (0, .int (prodI (done.map (·.2.1))), []), o2, o3, o4]) ⟨_, _, _, rfl⟩ (fun done b rest e hl' hI => ?_) fun e hI => ?_
  · obtain ⟨o2, o3, o4, rfl⟩ := hI
    obtain ⟨n, w, f⟩ := b
    have hw := hl (n, w, f) (by rw [hl']; simp)
    have hm := mul_i (i := prodI (done.map (·.2.1))) (j := w) (.inr ⟨by have := hw.1; dsimp only at this; omega, by have := hw.2; dsimp only at this; omega⟩)
    refine ⟨_, by simp [forB, hm, brw, fv, ful]; rfl, ?_⟩
    simp [prodI_app, prodI]
  · obtain ⟨o2, o3, o4, rfl⟩ := hI
    simp [ful]
def S_box (c : Fn) : Prop := ∀ b : Bx, nmOk b.1 = true → 2 ≤ b.2.1 → b.2.1 ≤ 6 → 0 ≤ b.2.2 → b.2.2 < b.2.1 → c [bxD b] = .ok (0, .bl true)
theorem box_s (B : Bas Γ) (h1 : S_tuple (Γ.call "is_tuple")) (h2 : S_name (Γ.call "is_name")) (h3 : S_within (Γ.call "is_within")) : S_box (runF Γ [] 0 s_is_box) := fun b e1 e2 e3 e4 e5 => by
  obtain ⟨n, w, f⟩ := b
  refine runF_rt ?_
  have e2 : 2 ≤ w := e2
  have e3 : w ≤ 6 := e3
  have e4 : 0 ≤ f := e4
  have e5 : f < w := e5
  have k1 := h1 [.str n, .int w, .int f] 3
  have k2 := h2 n e1
  have k3 := h3 w 2 7
  have k4 := h3 f 0 w
  have k5 : inW w 2 7 = true := by simp [inW]; omega
  have k6 : inW f 0 w = true := by simp [inW]; omega
  simp [s_is_box, bxD, k1, k2, k3, k4, k5, k6, B.worths]
theorem mem_d1 {α : Type} {done rest : List α} {a c : α} (h : c ∈ done ++ [a]) : c ∈ done ++ a :: rest := by
  rcases List.mem_append.mp h with h | h
  · exact List.mem_append_left _ h
  · rw [List.mem_singleton.mp h]; simp
theorem not_mem_done {α : Type} {t : α → Str} {done rest : List α} {a : α} (h : ((done ++ a :: rest).map t).Nodup) : t a ∉ done.map t := by
  rw [List.map_append, List.nodup_append] at h
  intro z
  exact h.2.2 _ z _ (by simp) rfl
def S_lboxes (c : Fn) : Prop := ∀ l : List Bx, 1 ≤ l.length → l.length ≤ 3 → (∀ b ∈ l, nmOk b.1 = true) → (∀ b ∈ l, 2 ≤ b.2.1 ∧ b.2.1 ≤ 6 ∧ 0 ≤ b.2.2 ∧ b.2.2 < b.2.1) → (l.map (·.1)).Nodup → prodI (l.map (·.2.1)) ≤ 8 → c [.lst (l.map bxD)] = .ok (0, .non)
theorem prodI_ge {l : List Int} (h : ∀ i ∈ l, 1 ≤ i) : 1 ≤ prodI l := by
  induction l with
  | nil => exact Int.le_refl _
  | cons i l ih =>
    have h1 := h i List.mem_cons_self
    have h2 := ih fun j hj => h j (List.mem_cons_of_mem _ hj)
    show 1 ≤ i * prodI l
    exact Int.le_trans h2 (by
      have := Int.mul_le_mul_of_nonneg_right h1 (Int.le_trans (by decide) h2)
      simpa using this)
theorem prodI_take {a b : List Int} (h : ∀ i ∈ b, 1 ≤ i) (ha : ∀ i ∈ a, 1 ≤ i) : prodI a ≤ prodI (a ++ b) := by
  rw [prodI_app]
  have h1 := prodI_ge ha
  have h2 := prodI_ge h
  have := Int.mul_le_mul_of_nonneg_left h2 (Int.le_trans (by decide) h1)
  simpa using this
theorem lboxes_s (B : Bas Γ) (h1 : S_box (Γ.call "is_box")) (h2 : S_stores (Γ.call "many_stores")) : S_lboxes (runF Γ [] 4 s_look_at_boxes) := fun l e1 e2 e3 e4 e5 e6 => by
  refine runF_nn ?_
  have e1' : (1 : Int) ≤ l.length := by omega
  have e2' : (l.length : Int) ≤ 3 := by omega
  simp [s_look_at_boxes, B.boxes, e1', e2', brw, fv, fv.fvs]
  refine loop_En (fun _ e => ∃ o1 o2 o3 o4, e = [some (0, .lst (l.map bxD), []), o1, o2, o3, o4]) ⟨_, _, _, _, rfl⟩ (fun done b rest e hl hI => ?_) fun e hI => ⟨e, rfl⟩
  obtain ⟨o1, o2, o3, o4, rfl⟩ := hI
  have hb : b ∈ l := by rw [hl]; simp
  have hn := e3 b hb
  obtain ⟨w1, w2, w3, w4⟩ := e4 b hb
  have k1 := h1 b hn w1 w2 w3 w4
  have k2 := h2 (done ++ [b]) fun c hc => by
    have := e4 c (by rw [hl]; exact mem_d1 hc)
    exact ⟨by omega, by omega⟩
  have k3 : prodI ((done ++ [b]).map (·.2.1)) ≤ 8 := by
    refine Int.le_trans ?_ e6
    rw [hl, show done ++ b :: rest = (done ++ [b]) ++ rest by simp, List.map_append (l₂ := rest)]
    refine prodI_take (fun i hi => ?_) fun i hi => ?_
    · obtain ⟨c, hc, rfl⟩ := List.mem_map.mp hi
      have := e4 c (by rw [hl]; simp [hc])
      omega
    · obtain ⟨c, hc, rfl⟩ := List.mem_map.mp hi
      have := e4 c (by rw [hl]; exact mem_d1 hc)
      omega
  have k4 : ¬ (8 < prodI ((done ++ [b]).map (·.2.1))) := by omega
  have k5 := not_mem_done (t := fun b : Bx => b.1) (by rw [← hl]; exact e5)
  have k6 : inA (.str b.1) (.lst (done.map fun b => .str b.1)) = some false := by
    rw [in_sm (nmOk_sOk hn) fun c hc => nmOk_sOk (e3 c (by rw [hl]; simp [hc]))]
    simpa using k5
  have k7 := cmp_in k6
  have k8 := cut_done (t := bxD) (done := done) (rest := b :: rest)
  have k9 := cut_done1 (t := bxD) (done := done) (rest := rest) (a := b)
  rw [← hl] at k8 k9
  simp [forB, k1, fv, brw]
  rw [e_lcT (l := done) bxD (fun b => (0, .str b.1)) (xs := [(1, .lst (done.map bxD))])]
  · simp [-List.map_append, k7, k9, k2, B.stores, k4]
  · simp [k8]
  · rfl
  · have := congrArg List.length hl
    simp at this
    omega
  · exact fun c hc => ⟨_, rfl, by simp⟩
end
end MP

/-! PLf: look_at. -/
namespace MP
open PySem PySem.Spec PyProof.Rows L2
section
variable {Γ : Gm}
def S_lprocs (c : Fn) : Prop := ∀ l : List Pc, 1 ≤ l.length → l.length ≤ 6 → (∀ b ∈ l, nmOk b.1 = true) → (∀ b ∈ l, 1 ≤ b.2.length ∧ b.2.length ≤ 8) → (l.map (·.1)).Nodup → c [.lst (l.map pcD)] = .ok (0, .non)
theorem lprocs_s (B : Bas Γ) (h1 : S_tuple (Γ.call "is_tuple")) (h2 : S_name (Γ.call "is_name")) : S_lprocs (runF Γ [] 4 s_look_at_procs) := fun l e1 e2 e3 e4 e5 => by
  refine runF_nn ?_
  have e1' : (1 : Int) ≤ l.length := by omega
  have e2' : (l.length : Int) ≤ 6 := by omega
  simp [s_look_at_procs, B.procs, e1', e2', brw, fv, fv.fvs]
  refine loop_En (fun _ e => ∃ o1 o2 o3 o4, e = [some (0, .lst (l.map pcD), []), o1, o2, o3, o4]) ⟨_, _, _, _, rfl⟩ (fun done b rest e hl hI => ?_) fun e hI => ⟨e, rfl⟩
  obtain ⟨o1, o2, o3, o4, rfl⟩ := hI
  have hb : b ∈ l := by rw [hl]; simp
  have hn := e3 b hb
  obtain ⟨w1, w2⟩ := e4 b hb
  have w1' : (1 : Int) ≤ b.2.length := by omega
  have w2' : (b.2.length : Int) ≤ 8 := by omega
  have k1 := h1 [.str b.1, .lst (b.2.map Rw.d)] 2
  have k1 : Γ.call "is_tuple" [pcD b, .int 2] = .ok (0, .bl true) := k1
  have k2 := h2 b.1 hn
  have k3 := isi_list_list (ds := b.2.map Rw.d) B.kit
  have k5 := not_mem_done (t := fun b : Pc => b.1) (by rw [← hl]; exact e5)
  have k6 : inA (.str b.1) (.lst (done.map fun b => .str b.1)) = some false := by
    rw [in_sm (nmOk_sOk hn) fun c hc => nmOk_sOk (e3 c (by rw [hl]; simp [hc]))]
    simpa using k5
  have k7 := cmp_in k6
  have k8 := cut_done (t := pcD) (done := done) (rest := b :: rest)
  rw [← hl] at k8
  simp [forB, k1, k2, k3, fv, brw, B.rows, w1', w2']
  rw [e_lcT (l := done) pcD (fun b => (0, .str b.1)) (xs := [(1, .lst (done.map pcD))])]
  · simp [k7]
  · simp [k8]
  · rfl
  · have := congrArg List.length hl
    simp at this
    omega
  · exact fun c hc => ⟨_, rfl, by simp⟩
def S_wof (c : Fn) : Prop := ∀ (l : List Bx) (n : Str), sOk n = true → (∀ b ∈ l, nmOk b.1 = true) → c [.lst (l.map bxD), .str n] = .ok (0, .int (wof n l))
theorem wof_app {n : Str} {b : Bx} {rest : List Bx} : ∀ {done : List Bx}, (∀ c ∈ done, c.1 ≠ n) → wof n (done ++ b :: rest) = if b.1 = n then b.2.1 else wof n rest
  | [], _ => rfl
  | c :: done, h => by
    show (if c.1 = n then c.2.1 else wof n (done ++ b :: rest)) = _
    rw [if_neg (h c List.mem_cons_self), wof_app fun x hx => h x (List.mem_cons_of_mem _ hx)]
theorem wof_no {n : Str} : ∀ {l : List Bx}, (∀ c ∈ l, c.1 ≠ n) → wof n l = 0
  | [], _ => rfl
  | c :: l, h => by
    show (if c.1 = n then c.2.1 else wof n l) = _
    rw [if_neg (h c List.mem_cons_self), wof_no fun x hx => h x (List.mem_cons_of_mem _ hx)]
theorem wof_s (B : Bas Γ) : S_wof (runF Γ [] 1 s_worths_of) := fun l n hn e3 => by
  refine runF_rt ?_
  simp [s_worths_of, brw, fv, fv.fvs]
  refine loop_R (fun done e => (∀ c ∈ done, c.1 ≠ n) ∧ ∃ o1, e = [some (0, .lst (l.map bxD), []), some (0, .str n, []), o1]) ⟨by simp, _, rfl⟩ (fun done b rest e hl hI => ?_) fun e hI => ?_
  · obtain ⟨hd, o1, rfl⟩ := hI
    have k1 := isi_str_str (s := n) B.kit
    have k2 := cmp_eq (eq_s (nmOk_sOk (e3 b (by rw [hl]; simp))) hn)
    by_cases hb : b.1 = n
    · refine .inr ⟨(fun e' h => by cases h), ?_⟩
      have e : wof n l = b.2.1 := by rw [hl, wof_app hd, if_pos hb]
      have hb2 : (b.1 == n) = true := beq_iff_eq.mpr hb
      simp [forB, k1, k2, hb2, e]
    · refine .inl ⟨_, by simp [forB, k1, k2, hb]; rfl, fun c hc => ?_, _, rfl⟩
      rcases List.mem_append.mp hc with hc | hc
      · exact hd c hc
      · rw [List.mem_singleton.mp hc]; exact hb
  · obtain ⟨hd, o1, rfl⟩ := hI
    simp [wof_no hd]
def S_tos (c : Fn) : Prop := ∀ (l : List Int) (en : Int), l.length ≤ 1000 → c [.tup (l.map .int), .int en] = .ok (0, .bl (l.all fun t => inW t 0 (en + 1)))
theorem tos_s (B : Bas Γ) (h1 : S_within (Γ.call "is_within")) : S_tos (runF Γ [] 2 s_are_tos) := fun l en hl => by
  refine runF_rt ?_
  have k1 := isi_tuple_tuple (ds := l.map .int) B.kit
  simp [s_are_tos, k1]
  rw [e_lcT (l := l) .int (fun t => (0, .bl (inW t 0 (en + 1)))) (xs := [(0, .tup (l.map .int))])]
  · have := all_bl (l := l) (f := fun t => inW t 0 (en + 1))
    simp [this]
  · simp
  · rfl
  · omega
  · exact fun t ht => ⟨_, rfl, by simp [h1 t 0 (en + 1)]⟩
/-- rows -/
theorem rw0 {r : Rw} : ∃ w ds, r.d = .tup (.str w :: ds) := by cases r <;> exact ⟨_, _, rfl⟩
def S_rowb (c : Fn) : Prop := ∀ (r : Rw) (w en : Int) (nh : Nat), (∀ ts, r ≠ .any ts) → (∀ p t, r ≠ .call p t) → (∀ b ts, r = .ask b ts → ts.length ≤ 1000) → c [r.d, .int w, .int en, .int nh] = .ok (0, .bl (w != 0 && match r with
  | .put b v t => inW v 0 w && inW t 0 (en + 1)
  | .swap b o n t => inW o 0 w && inW n 0 w && inW t 0 (en + 1)
  | .ask b ts => (ts.length : Int) == w && (ts.filterMap id).all fun t => inW t 0 (en + 1)
  | .take b t => decide ((nh : Int) < w) && inW t 0 (en + 1)
  | .give b t => decide ((nh : Int) < w) && inW t 0 (en + 1)
  | _ => false))
theorem rowb_s (B : Bas Γ) (h1 : S_within (Γ.call "is_within")) (h2 : S_tuple (Γ.call "is_tuple")) (h3 : S_tos (Γ.call "are_tos")) : S_rowb (runF Γ [] 2 s_is_row_of_box) := fun r w en nh e1 e2 e3 => by
  refine runF_rt ?_
  by_cases hw : w = 0
  · subst hw
    simp [s_is_row_of_box]
  have hw2 : (w == 0) = false := beq_eq_false_iff_ne.mpr hw
  cases r with
  | any ts => exact absurd rfl (e1 ts)
  | call p t => exact absurd rfl (e2 p t)
  | put b v t =>
    simp [s_is_row_of_box, hw2, hw, Rw.d, cmp_eq eqw_put_put, h1 v 0 w, h1 t 0 (en + 1)]
    cases inW v 0 w <;> simp [hw, h1 t 0 (en + 1)]
  | swap b o n t =>
    simp [s_is_row_of_box, hw2, hw, Rw.d, cmp_eq eqw_swap_put, cmp_eq eqw_swap_swap, h1 o 0 w, h1 n 0 w, h1 t 0 (en + 1)]
    cases inW o 0 w <;> cases inW n 0 w <;> simp [hw, h1 t 0 (en + 1)]
  | ask b ts =>
    have k1 := h2 (ts.map oD) w
    simp only [List.length_map] at k1
    simp [s_is_row_of_box, hw2, hw, Rw.d, cmp_eq eqw_ask_put, cmp_eq eqw_ask_swap, cmp_eq eqw_ask_ask, k1]
    by_cases hl : (ts.length : Int) = w
    · simp [hl]
      rw [e_lcF (l := ts) oD (fun o => o.isSome) (fun o => (0, oD o)) (xs := [(0, .tup (ts.map oD))])]
      · have : ∀ ts : List (Option Int), ((ts.filter fun o => o.isSome).map fun a => ((0, oD a) : Ent).2) = (ts.filterMap id).map D.int := by
          intro ts
          induction ts with
          | nil => rfl
          | cons o ts ih =>
            cases o with
            | none => exact ih
            | some i =>
              show D.int i :: ((ts.filter fun o => o.isSome).map fun a => ((0, oD a) : Ent).2) = D.int i :: (ts.filterMap id).map D.int
              rw [ih]
        have k3 := h3 (ts.filterMap id) en (Nat.le_trans (List.length_filterMap_le _ _) (e3 b ts rfl))
        simp [this, k3, hw]
      · simp
      · rfl
      · have := e3 b ts rfl; omega
      · intro o ho
        refine ⟨_, rfl, ?_, fun _ => by simp⟩
        cases o <;> simp [oD, cmpD, isD, bl?]
    · simp [hl]
  | take b t =>
    simp [s_is_row_of_box, hw2, hw, Rw.d, cmp_eq eqw_take_put, cmp_eq eqw_take_swap, cmp_eq eqw_take_ask, h1 t 0 (en + 1)]
    by_cases hn : (nh : Int) < w <;> simp [hn, hw, h1 t 0 (en + 1)]
  | give b t =>
    simp [s_is_row_of_box, hw2, hw, Rw.d, cmp_eq eqw_give_put, cmp_eq eqw_give_swap, cmp_eq eqw_give_ask, h1 t 0 (en + 1)]
    by_cases hn : (nh : Int) < w <;> simp [hn, hw, h1 t 0 (en + 1)]
/-- a row of a program -/
def Pg.nmsOk (P : Pg) : Prop := (∀ b ∈ P.bs, nmOk b.1 = true) ∧ (∀ p ∈ P.ps, nmOk p.1 = true)
def Rw.fine (r : Rw) : Prop := (∀ n ∈ r.nms, nmOk n = true) ∧ (∀ b ts, r = .ask b ts → ts.length ≤ 1000) ∧ (∀ ts, r = .any ts → ts.length ≤ 1000)
def S_row (c : Fn) : Prop := ∀ (P : Pg) (r : Rw) (en : Int), (∀ b ∈ P.bs, nmOk b.1 = true) → (∀ p ∈ P.ps, nmOk p.1 = true) → P.ps.length ≤ 1000 → r.fine → c [r.d, P.d, .int en] = .ok (0, .bl (r.ok P.bs (P.ps.map (·.1)) P.hs.length en))
theorem in_words {w : Str} {b : Bool} (h : inA (.str w) (.tup [.str "put", .str "swap", .str "ask", .str "take", .str "give"]) = some b) : cmpD .notin (.str w) (.tup [.str "put", .str "swap", .str "ask", .str "take", .str "give"]) = some (0, .bl (!b)) := cmp_notin h
theorem row_s (B : Bas Γ) (h1 : S_tos (Γ.call "are_tos")) (h2 : S_within (Γ.call "is_within")) (h3 : S_rowb (Γ.call "is_row_of_box")) (h4 : S_wof (Γ.call "worths_of")) : S_row (runF Γ [] 6 s_is_row) := fun P r en e1 e2 e3 e4 => by
  refine runF_rt ?_
  obtain ⟨f1, f2, f3⟩ := e4
  have kt : ∀ ds, isiA Γ (.tup ds) ["tuple"] = some (0, .bl true) := fun ds => isi_tuple_tuple (ds := ds) B.kit
  have ks : ∀ s, isiA Γ (.str s) ["str"] = some (0, .bl true) := fun s => isi_str_str (s := s) B.kit
  have q1 : cmpD .notin (.str "put") (.tup [.str "put", .str "swap", .str "ask", .str "take", .str "give"]) = some (0, .bl false) := cmp_notin (show inA (.str "put") (.tup [.str "put", .str "swap", .str "ask", .str "take", .str "give"]) = some true by decide +kernel)
  have q2 : cmpD .notin (.str "swap") (.tup [.str "put", .str "swap", .str "ask", .str "take", .str "give"]) = some (0, .bl false) := cmp_notin (show inA (.str "swap") (.tup [.str "put", .str "swap", .str "ask", .str "take", .str "give"]) = some true by decide +kernel)
  have q3 : cmpD .notin (.str "ask") (.tup [.str "put", .str "swap", .str "ask", .str "take", .str "give"]) = some (0, .bl false) := cmp_notin (show inA (.str "ask") (.tup [.str "put", .str "swap", .str "ask", .str "take", .str "give"]) = some true by decide +kernel)
  have q4 : cmpD .notin (.str "take") (.tup [.str "put", .str "swap", .str "ask", .str "take", .str "give"]) = some (0, .bl false) := cmp_notin (show inA (.str "take") (.tup [.str "put", .str "swap", .str "ask", .str "take", .str "give"]) = some true by decide +kernel)
  have q5 : cmpD .notin (.str "give") (.tup [.str "put", .str "swap", .str "ask", .str "take", .str "give"]) = some (0, .bl false) := cmp_notin (show inA (.str "give") (.tup [.str "put", .str "swap", .str "ask", .str "take", .str "give"]) = some true by decide +kernel)
  have tw : tupO [(0, .str "put"), (0, .str "swap"), (0, .str "ask"), (0, .str "take"), (0, .str "give")] = some (8, .tup [.str "put", .str "swap", .str "ask", .str "take", .str "give"]) := rfl
  have hb : ∀ n, nmOk n = true → Γ.call "worths_of" [.lst (P.bs.map bxD), .str n] = .ok (0, .int (wof n P.bs)) := fun n hn => h4 P.bs n (nmOk_sOk hn) e1
  cases r with
  | any ts =>
    have k1 := h1 ts en (f3 ts rfl)
    simp only [Rw.ok]
    generalize (ts.all fun t => inW t 0 (en + 1)) = A at k1 ⊢
    by_cases hl : (1 : Int) ≤ ts.length
    · have hl2 : 1 ≤ ts.length := by omega
      have hl3 : decide ((ts.length : Int) ≤ 4) = decide (ts.length ≤ 4) := decide_eq_decide.mpr (by omega)
      simp [s_is_row, Pg.d, Rw.d, kt, ks, cmp_eq eqw_any_any, k1, B.ways, hl, hl2, hl3]
      cases A <;> simp
    · have hl2 : ¬ 1 ≤ ts.length := by omega
      have hl4 : ts = [] := by cases ts with | nil => rfl | cons a l => simp at hl2
      simp [s_is_row, Pg.d, Rw.d, kt, ks, cmp_eq eqw_any_any, k1, B.ways, hl, hl2]
  | call p t =>
    have hp := nmOk_sOk (f1 p (by simp [Rw.nms]))
    simp [s_is_row, Pg.d, Rw.d, kt, ks, cmp_eq eqw_call_any, cmp_eq eqw_call_call, Rw.ok]
    rw [e_lcF (l := P.ps) pcD (fun q => q.1 == p) (fun q => (0, .str q.1)) (xs := [(0, .lst (P.ps.map pcD))])]
    · have hm : eqD (.lst ((P.ps.filter fun q => q.1 == p).map fun q => .str q.1)) (.lst []) = some (!decide (p ∈ P.ps.map (·.1))) := by
        have h1 : okds 59 ((P.ps.filter fun q => q.1 == p).map fun q => .str q.1) = true := by
          have := okds_str (n := 59) (l := (P.ps.filter fun q => q.1 == p).map (·.1)) fun s hs => by
            obtain ⟨q, hq, rfl⟩ := List.mem_map.mp hs
            exact nmOk_sOk (e2 q (List.mem_filter.mp hq).1)
          rw [List.map_map] at this
          exact this
        unfold eqD
        rw [show okd 60 (.lst ((P.ps.filter fun q => q.1 == p).map fun q => .str q.1)) = true from h1, show okd 60 (.lst []) = true from rfl]
        simp only [Bool.and_true, if_true, Option.some.injEq]
        cases hf : P.ps.filter fun q => q.1 == p with
        | nil =>
          have : p ∉ P.ps.map (·.1) := fun hm => by
            obtain ⟨q, hq, e⟩ := List.mem_map.mp hm
            have := List.filter_eq_nil_iff.mp hf q hq
            exact this (beq_iff_eq.mpr e)
          rw [decide_eq_false this]
          rfl
        | cons q l =>
          have hq : q ∈ P.ps.filter fun q => q.1 == p := by rw [hf]; exact List.mem_cons_self
          rw [List.mem_filter] at hq
          have : p ∈ P.ps.map (·.1) := List.mem_map.mpr ⟨q, hq.1, beq_iff_eq.mp hq.2⟩
          rw [decide_eq_true this]
          rfl
      generalize decide (p ∈ P.ps.map (·.1)) = A at hm ⊢
      have k2 := h2 t 0 (en + 1)
      simp [cmp_ne hm, lstO, sz_le, k2]
      cases A <;> simp [k2]
    · simp
    · rfl
    · omega
    · intro q hq
      refine ⟨_, rfl, ?_, fun _ => by simp⟩
      simp [ks, cmp_eq (eq_s (nmOk_sOk (e2 q hq)) hp)]
  | put b v t =>
    have k1 := h3 (.put b v t) (wof b P.bs) en P.hs.length (fun _ h => by cases h) (fun _ _ h => by cases h) (fun _ _ h => by cases h)
    simp [Rw.d] at k1
    simp [s_is_row, Pg.d, Rw.d, kt, ks, cmp_eq eqw_put_any, cmp_eq eqw_put_call, tw, q1, hb b (f1 b (by simp [Rw.nms])), k1, Rw.ok, Bool.and_assoc]
  | swap b o n t =>
    have k1 := h3 (.swap b o n t) (wof b P.bs) en P.hs.length (fun _ h => by cases h) (fun _ _ h => by cases h) (fun _ _ h => by cases h)
    simp [Rw.d] at k1
    simp [s_is_row, Pg.d, Rw.d, kt, ks, cmp_eq eqw_swap_any, cmp_eq eqw_swap_call, tw, q2, hb b (f1 b (by simp [Rw.nms])), k1, Rw.ok, Bool.and_assoc]
  | ask b ts =>
    have k1 := h3 (.ask b ts) (wof b P.bs) en P.hs.length (fun _ h => by cases h) (fun _ _ h => by cases h) (fun _ _ h => by cases h; exact f2 b ts rfl)
    simp [Rw.d] at k1
    simp [s_is_row, Pg.d, Rw.d, kt, ks, cmp_eq eqw_ask_any, cmp_eq eqw_ask_call, tw, q3, hb b (f1 b (by simp [Rw.nms])), k1, Rw.ok, Bool.and_assoc]
  | take b t =>
    have k1 := h3 (.take b t) (wof b P.bs) en P.hs.length (fun _ h => by cases h) (fun _ _ h => by cases h) (fun _ _ h => by cases h)
    simp [Rw.d] at k1
    simp [s_is_row, Pg.d, Rw.d, kt, ks, cmp_eq eqw_take_any, cmp_eq eqw_take_call, tw, q4, hb b (f1 b (by simp [Rw.nms])), k1, Rw.ok, Bool.and_assoc]
  | give b t =>
    have k1 := h3 (.give b t) (wof b P.bs) en P.hs.length (fun _ h => by cases h) (fun _ _ h => by cases h) (fun _ _ h => by cases h)
    simp [Rw.d] at k1
    simp [s_is_row, Pg.d, Rw.d, kt, ks, cmp_eq eqw_give_any, cmp_eq eqw_give_call, tw, q5, hb b (f1 b (by simp [Rw.nms])), k1, Rw.ok, Bool.and_assoc]
end
end MP

/-! PLg: look_at, names, called. -/
namespace MP
open PySem PySem.Spec PyProof.Rows L2
section
variable {Γ : Gm}
theorem Pg.Ok.fine {P : Pg} (h : P.Ok) {p : Pc} (hp : p ∈ P.ps) {r : Rw} (hr : r ∈ p.2) : r.fine := by
  have k := h.rw p hp r hr
  refine ⟨h.rn p hp r hr, fun b ts e => ?_, fun ts e => ?_⟩
  · subst e
    simp only [Rw.ok, Bool.and_eq_true, beq_iff_eq] at k
    have : ∀ {l : List Bx} {n : Str}, (∀ b ∈ l, b.2.1 ≤ 6) → wof n l ≤ 6 := by
      intro l n
      induction l with
      | nil => intro _; exact (by decide : (0 : Int) ≤ 6)
      | cons c l ih =>
        intro hc
        show (if c.1 = n then c.2.1 else wof n l) ≤ 6
        split
        · exact hc c List.mem_cons_self
        · exact ih fun b hb => hc b (List.mem_cons_of_mem _ hb)
    have := this (l := P.bs) (n := b) fun b hb => (h.bw b hb).2.1
    have := k.1.2
    omega
  · subst e
    simp only [Rw.ok, Bool.and_eq_true, decide_eq_true_eq] at k
    omega
@[simp] theorem pd0 {P : Pg} : idxD P.d (.int 0) = some (0, .lst (P.bs.map bxD)) := (rfl)
@[simp] theorem pd1 {P : Pg} : idxD P.d (.int 1) = some (0, .lst (P.ps.map pcD)) := (rfl)
@[simp] theorem pd2 {P : Pg} : idxD P.d (.int 2) = some (0, .lst (P.hs.map hdD)) := (rfl)
def S_lrows (c : Fn) : Prop := ∀ P : Pg, P.Ok → c [P.d] = .ok (0, .non)
theorem lrows_s (h1 : S_row (Γ.call "is_row")) : S_lrows (runF Γ [] 4 s_look_at_rows) := fun P hP => by
  refine runF_nn ?_
  simp [s_look_at_rows]
  refine loop_En (fun _ e => ∃ o1 o2 o3 o4, e = [some (0, P.d, []), o1, o2, o3, o4]) ⟨_, _, _, _, rfl⟩ (fun done p rest e hl hI => ?_) fun e hI => ⟨e, rfl⟩
  obtain ⟨o1, o2, o3, o4, rfl⟩ := hI
  have hp : p ∈ P.ps := by rw [hl]; simp
  simp [forB, brw, fv, fv.fvs]
  refine loop_Eq (fun _ e => ∃ o1 o3 o4, e = [some (0, P.d, []), o1, some (0, pcD p, []), o3, o4]) ⟨_, _, _, rfl⟩ (fun dn r rs e hr hI => ?_) fun e hI => ?_
  · obtain ⟨o1, o3, o4, rfl⟩ := hI
    have hrp : r ∈ p.2 := by rw [hr]; simp
    have k1 := h1 P r p.2.length hP.bn hP.pn (by have := hP.pl; omega) (hP.fine hp hrp)
    rw [hP.rw p hp r hrp] at k1
    simp [forB, k1]
  · obtain ⟨o1, o3, o4, rfl⟩ := hI
    simp
def S_lhands (c : Fn) : Prop := ∀ (l : List Hd) (ps : List Pc), 1 ≤ l.length → l.length ≤ 3 → ps.length ≤ 1000 → (∀ b ∈ l, nmOk b.1 = true) → (∀ b ∈ l, nmOk b.2 = true) → (∀ p ∈ ps, nmOk p.1 = true) → (l.map (·.1)).Nodup → (∀ b ∈ l, b.2 ∈ ps.map (·.1)) → c [.lst (l.map hdD), .lst (ps.map pcD)] = .ok (0, .non)
theorem lhands_s (B : Bas Γ) (h1 : S_tuple (Γ.call "is_tuple")) (h2 : S_name (Γ.call "is_name")) : S_lhands (runF Γ [] 6 s_look_at_hands) := fun l ps e1 e2 ep e3 e3' ep2 e5 e6 => by
  refine runF_nn ?_
  have e1' : (1 : Int) ≤ l.length := by omega
  have e2' : (l.length : Int) ≤ 3 := by omega
  simp [s_look_at_hands, B.hands, e1', e2']
  rw [e_lcT (l := ps) pcD (fun b => (0, .str b.1)) (xs := [(0, .lst (ps.map pcD))])]
  · simp [brw, fv, fv.fvs]
    refine loop_En (fun _ e => ∃ o1 o2 o3 o4 o5, e = [some (0, .lst (l.map hdD), []), some (0, .lst (ps.map pcD), []), some (0, .lst (ps.map fun p => .str p.1), []), o1, o2, o3, o4, o5]) ⟨_, _, _, _, _, by simp; exact ⟨rfl, rfl, rfl, rfl, rfl⟩⟩ (fun done b rest e hl hI => ?_) fun e hI => ⟨e, rfl⟩
    obtain ⟨o1, o2, o3, o4, o5, rfl⟩ := hI
    have hb : b ∈ l := by rw [hl]; simp
    have hn := e3 b hb
    have hn2 := e3' b hb
    have k1 : Γ.call "is_tuple" [hdD b, .int 2] = .ok (0, .bl true) := h1 [.str b.1, .str b.2] 2
    have k2 := h2 b.1 hn
    have k3 := h2 b.2 hn2
    have k4 : inA (.str b.2) (.lst (ps.map fun b => .str b.1)) = some true := by
      rw [in_sm (nmOk_sOk hn2) fun c hc => nmOk_sOk (ep2 c hc)]
      simpa using e6 b hb
    have k5 := not_mem_done (t := fun b : Hd => b.1) (by rw [← hl]; exact e5)
    have k6 : inA (.str b.1) (.lst (done.map fun b => .str b.1)) = some false := by
      rw [in_sm (nmOk_sOk hn) fun c hc => nmOk_sOk (e3 c (by rw [hl]; simp [hc]))]
      simpa using k5
    have k7 := cmp_in k6
    have k8 := cut_done (t := hdD) (done := done) (rest := b :: rest)
    rw [← hl] at k8
    simp [forB, k1, k2, k3, cmp_notin k4, fv, brw]
    rw [e_lcT (l := done) hdD (fun b => (0, .str b.1)) (xs := [(1, .lst (done.map hdD))])]
    · simp [k7]
    · simp [k8]
    · rfl
    · have := congrArg List.length hl
      simp at this
      omega
    · exact fun c hc => ⟨_, rfl, by simp⟩
  · simp
  · rfl
  · omega
  · exact fun c hc => ⟨_, rfl, by simp⟩
def S_look (c : Fn) : Prop := ∀ P : Pg, P.Ok → c [P.d] = .ok (0, .non)
theorem look_s (B : Bas Γ) (h1 : S_tuple (Γ.call "is_tuple")) (h2 : S_lboxes (Γ.call "look_at_boxes")) (h3 : S_lprocs (Γ.call "look_at_procs")) (h4 : S_lrows (Γ.call "look_at_rows")) (h5 : S_lhands (Γ.call "look_at_hands")) : S_look (runF Γ [] 2 s_look_at) := fun P hP => by
  refine runF_nn ?_
  have k1 : Γ.call "is_tuple" [P.d, .int 3] = .ok (0, .bl true) := h1 _ 3
  have k2 := h2 P.bs hP.bl.1 hP.bl.2 hP.bn hP.bw hP.bd hP.bp
  have k3 := h3 P.ps hP.pl.1 hP.pl.2 hP.pn hP.pr hP.pd
  have k4 := h4 P hP
  have k5 := h5 P.hs P.ps hP.hl.1 hP.hl.2 (by have := hP.pl; omega) hP.hn hP.hm hP.pn hP.hd hP.hp
  simp [s_look_at, k1]
  rw [e_lcT (l := [.lst (P.bs.map bxD), .lst (P.ps.map pcD), .lst (P.hs.map hdD)]) id (fun _ => (0, .bl true)) (xs := [(0, P.d)])]
  · have : bltD .all [.lst [.bl true, .bl true, .bl true]] = some (0, .bl true) := rfl
    simp [this, k2, k3, k4, k5]
  · simp
  · rfl
  · simp
  · intro c hc
    refine ⟨_, rfl, ?_⟩
    have : ∀ ds, isiA Γ (.lst ds) ["list"] = some (0, .bl true) := fun ds => isi_list_list (ds := ds) B.kit
    simp only [List.mem_cons, List.not_mem_nil, or_false] at hc
    rcases hc with rfl | rfl | rfl <;> simp [this]
end
end MP

/-! PLh: names; programs called otherwise. -/
namespace MP
open PySem PySem.Spec PyProof.Rows L2
def s_are_names : List Sm := [
  (.ife (.or (.not (.isi (.nm 1) ["dict"])) (.cmp .ne (.blt .len [(.nm 1)]) (.blt .len [(.nm 0)]))) [(.ret (.bl false))] []),
  (.set (.nm 2) (.lst [])),
  (.for (.nm 3) .seq [(.nm 0)] [(.ife (.or (.cmp .notin (.idx (.nm 3) (.int (0))) (.nm 1)) (.or (.not (.call "is_name" [(.idx (.nm 1) (.idx (.nm 3) (.int (0))))])) (.cmp .inn (.idx (.nm 1) (.idx (.nm 3) (.int (0)))) (.nm 2)))) [(.ret (.bl false))] []), (.mut .append (.nm 2) [(.idx (.nm 1) (.idx (.nm 3) (.int (0))))])]),
  (.ret (.bl true))]
def s_look_at_names : List Sm := [
  (.ife (.or (.not (.call "is_tuple" [(.nm 1), (.int (3))])) (.not (.blt .all [(.lc (.call "are_names" [(.nm 3), (.nm 4)]) (.tup [(.nm 3), (.nm 4)]) .zip [(.nm 0), (.nm 1)] [] [2, 3, 4])]))) [.bad] [])]
def s_called_row : List Sm := [
  (.ife (.cmp .eq (.idx (.nm 0) (.int (0))) (.str "any")) [(.retV 0)] []),
  (.ife (.cmp .eq (.idx (.nm 0) (.int (0))) (.str "call")) [(.ret (.bin .add (.tup [(.idx (.nm 0) (.int (0))), (.idx (.nm 2) (.idx (.nm 0) (.int (1))))]) (.slc (.nm 0) (.int (2)) .nop)))] []),
  (.ret (.bin .add (.tup [(.idx (.nm 0) (.int (0))), (.idx (.nm 1) (.idx (.nm 0) (.int (1))))]) (.slc (.nm 0) (.int (2)) .nop)))]
def s_called : List Sm := [
  (.drop (.call "look_at" [(.nm 0)])),
  (.drop (.call "look_at_names" [(.nm 0), (.nm 1)])),
  (.set (.tup [(.nm 2), (.nm 3), (.nm 4)]) (.nm 1)),
  (.set (.nm 5) (.lst [])),
  (.for (.tup [(.nm 6), (.nm 7)]) .seq [(.idx (.nm 0) (.int (1)))] [(.mut .append (.nm 5) [(.tup [(.idx (.nm 3) (.nm 6)), (.lc (.call "called_row" [(.nm 9), (.nm 2), (.nm 3)]) (.nm 9) .seq [(.nm 7)] [] [8, 9])])])]),
  (.retT [(.lc (.tup [(.idx (.nm 2) (.nm 6)), (.nm 10), (.nm 11)]) (.tup [(.nm 6), (.nm 10), (.nm 11)]) .seq [(.idx (.nm 0) (.int (0)))] [] [8, 6, 10, 11]), (.nm 5), (.lc (.tup [(.idx (.nm 4) (.nm 6)), (.idx (.nm 3) (.nm 12))]) (.tup [(.nm 6), (.nm 12)]) .seq [(.idx (.nm 0) (.int (2)))] [] [8, 6, 12])])]
section
variable {Γ : Gm}
abbrev Dn := List (Str × Str)
/-- names of these, unlike -/
structure NmFor (ns : List Str) (m : Dn) : Prop where
  len : m.length = ns.length
  has : ∀ n ∈ ns, ∃ v, m.lookup n = some v ∧ nmOk v = true
  nd : (ns.map fun n => m.lookup n).Nodup
theorem lookup_mem {n v : Str} : ∀ {m : Dn}, m.lookup n = some v → n ∈ m.map (·.1)
  | [], h => by cases h
  | (a, b) :: m, h => by
    rw [List.lookup_cons] at h
    cases e : n == a with
    | true => rw [beq_iff_eq.mp e]; exact List.mem_cons_self
    | false => rw [e] at h; exact List.mem_cons_of_mem _ (lookup_mem h)
def S_names (c : Fn) : Prop := ∀ (α : Type) (l : List α) (t : α → D) (n : α → Str) (m : Dn), (∀ a, idxD (t a) (.int 0) = some (0, .str (n a))) → l.length ≤ 1000 → NmFor (l.map n) m → c [.lst (l.map t), dD m] = .ok (0, .bl true)
theorem names_s (B : Bas Γ) (h1 : S_name (Γ.call "is_name")) : S_names (runF Γ [2] 2 s_are_names) := fun α l t n m ht hl hm => by
  refine runF_rt ?_
  have k0 : isiA Γ (dD m) ["dict"] = some (0, .bl true) := isi_dict_dict B.kit
  have k1 : bltD .len [dD m] = some (0, .int l.length) := by
    show bltD .len [.dct _ _] = _
    rw [len_d, List.length_map, hm.len, List.length_map]
  simp [s_are_names, k0, k1, lstO, sz_le, ful, fuls, brw, fv, fv.fvs]
  refine loop_D (fun done e => ∃ vs o3, done.map (fun a => m.lookup (n a)) = vs.map some ∧ e = [some (0, .lst (l.map t), []), some (0, dD m, []), some (9, .lst (vs.map .str), []), o3]) ⟨[], none, rfl, rfl⟩ (fun done b rest e hl' hI => ?_) fun e hI => ?_
  · obtain ⟨vs, o3, hv, rfl⟩ := hI
    obtain ⟨v, hv1, hv2⟩ := hm.has (n b) (by rw [hl']; simp)
    have hvs : ∀ w ∈ vs, nmOk w = true := fun w hw => by
      have : some w ∈ done.map (fun a => m.lookup (n a)) := by rw [hv]; exact List.mem_map.mpr ⟨w, hw, rfl⟩
      obtain ⟨a, ha, ea⟩ := List.mem_map.mp this
      obtain ⟨v', h1, h2⟩ := hm.has (n a) (by rw [hl']; simp; exact .inl ⟨a, ha, rfl⟩)
      rw [ea] at h1
      cases h1
      exact h2
    have hnv : v ∉ vs := fun z => by
      have nd := hm.nd
      rw [hl', List.map_map, List.map_append, List.nodup_append] at nd
      refine nd.2.2 (some v) ?_ (some v) ?_ rfl
      · rw [show (List.map ((fun n => List.lookup n m) ∘ n) done) = done.map (fun a => m.lookup (n a)) from rfl, hv]
        exact List.mem_map.mpr ⟨v, z, rfl⟩
      · rw [List.map_cons]
        show some v ∈ (m.lookup (n b)) :: _
        rw [hv1]
        exact List.mem_cons_self
    have k2 := cmp_notin (in_dD (s := n b) (l := m))
    rw [decide_eq_true (lookup_mem hv1)] at k2
    have k3 := idx_dD hv1
    have k4 := h1 v hv2
    have k5 := cmp_in (in_s (s := v) (l := vs) (nmOk_sOk hv2) fun w hw => nmOk_sOk (hvs w hw))
    rw [decide_eq_false hnv] at k5
    simp [forB, ht, k2, k3, k4, k5]
    rw [app_ok (k2 := 8) (ds := vs.map .str) (B := []) (x := (0, .str v))]
    · refine ⟨_, by simp; rfl, vs ++ [v], ?_, some (0, t b, []), ?_⟩
      · rw [hv, List.map_append, List.map_cons, List.map_nil, hv1]
      · rw [List.map_append]
        rfl
    · simp
    · simp [ht, k3]
    · have : vs.length = done.length := by have := congrArg List.length hv; simpa using this.symm
      have := congrArg List.length hl'
      simp at this ⊢
      omega
    · rfl
    · rfl
    · rfl
    · rfl
  · obtain ⟨vs, o3, hv, rfl⟩ := hI
    simp
def nmD (m1 m2 m3 : Dn) : D := .tup [dD m1, dD m2, dD m3]
@[simp] theorem nmd0 {m1 m2 m3 : Dn} : idxD (nmD m1 m2 m3) (.int 0) = some (0, dD m1) := (rfl)
@[simp] theorem nmd1 {m1 m2 m3 : Dn} : idxD (nmD m1 m2 m3) (.int 1) = some (0, dD m2) := (rfl)
@[simp] theorem nmd2 {m1 m2 m3 : Dn} : idxD (nmD m1 m2 m3) (.int 2) = some (0, dD m3) := (rfl)
@[simp] theorem nmdb {M B : List Nat} {ts : List Tg} {k : Nat} {m1 m2 m3 : Dn} {env : Env} : bindTg M B (.tup ts) (k, nmD m1 m2 m3) env = bindTgs M B ts k [dD m1, dD m2, dD m3] env := (rfl)
@[simp] theorem it_pg {P : Pg} {m1 m2 m3 : Dn} : iterD .zip [P.d, nmD m1 m2 m3] = some ([(D.lst (P.bs.map bxD), dD m1), (.lst (P.ps.map pcD), dD m2), (.lst (P.hs.map hdD), dD m3)].map fun p => .tup [p.1, p.2]) := (rfl)
def S_lnames (c : Fn) : Prop := ∀ (P : Pg) (m1 m2 m3 : Dn), P.bs.length ≤ 1000 → P.ps.length ≤ 1000 → P.hs.length ≤ 1000 → NmFor (P.bs.map (·.1)) m1 → NmFor (P.ps.map (·.1)) m2 → NmFor (P.hs.map (·.1)) m3 → c [P.d, nmD m1 m2 m3] = .ok (0, .non)
theorem lnames_s (h1 : S_tuple (Γ.call "is_tuple")) (h2 : S_names (Γ.call "are_names")) : S_lnames (runF Γ [] 3 s_look_at_names) := fun P m1 m2 m3 e1 e2 e3 n1 n2 n3 => by
  refine runF_nn ?_
  have k0 : Γ.call "is_tuple" [nmD m1 m2 m3, .int 3] = .ok (0, .bl true) := h1 _ 3
  have k1 := h2 Bx P.bs bxD (·.1) m1 (fun _ => rfl) e1 n1
  have k2 := h2 Pc P.ps pcD (·.1) m2 (fun _ => rfl) e2 n2
  have k3 := h2 Hd P.hs hdD (·.1) m3 (fun _ => rfl) e3 n3
  simp [s_look_at_names, k0]
  rw [e_lcT (l := [(D.lst (P.bs.map bxD), dD m1), (.lst (P.ps.map pcD), dD m2), (.lst (P.hs.map hdD), dD m3)]) (fun p => .tup [p.1, p.2]) (fun _ => (0, .bl true)) (xs := [(0, P.d), (0, nmD m1 m2 m3)])]
  · have : bltD .all [.lst [.bl true, .bl true, .bl true]] = some (0, .bl true) := rfl
    simp [this]
  · simp
  · rfl
  · simp
  · intro c hc
    refine ⟨_, rfl, ?_⟩
    simp only [List.mem_cons, List.not_mem_nil, or_false] at hc
    rcases hc with rfl | rfl | rfl <;> simp [k1, k2, k3]
/-- a row by other names -/
def Rw.ren (fb fp : Str → Str) : Rw → Rw
  | .put b w t => .put (fb b) w t
  | .swap b o n t => .swap (fb b) o n t
  | .ask b ts => .ask (fb b) ts
  | .any ts => .any ts
  | .call p t => .call (fp p) t
  | .take b t => .take (fb b) t
  | .give b t => .give (fb b) t
def lk (m : Dn) (n : Str) : Str := (m.lookup n).getD n
def Pg.ren (P : Pg) (fb fp fh : Str → Str) : Pg := ⟨P.bs.map fun b => (fb b.1, b.2), P.ps.map fun p => (fp p.1, p.2.map (Rw.ren fb fp)), P.hs.map fun h => (fh h.1, fp h.2)⟩
def Rw.has (r : Rw) (m1 m2 : Dn) : Prop := match r with
  | .any _ => True
  | .call p _ => ∃ v, m2.lookup p = some v
  | .put b _ _ => ∃ v, m1.lookup b = some v
  | .swap b _ _ _ => ∃ v, m1.lookup b = some v
  | .ask b _ => ∃ v, m1.lookup b = some v
  | .take b _ => ∃ v, m1.lookup b = some v
  | .give b _ => ∃ v, m1.lookup b = some v
theorem Rw.ful (r : Rw) (k : Nat) : MP.ful k r.d = true := by
  have h1 : ∀ (ts : List Int), fuls k (ts.map .int) = true := fun ts => by
    induction ts with
    | nil => cases k <;> rfl
    | cons t ts ih => rw [List.map_cons, fuls, ih]; cases k <;> rfl
  have h2 : ∀ (ts : List (Option Int)), fuls k (ts.map oD) = true := fun ts => by
    induction ts with
    | nil => cases k <;> rfl
    | cons t ts ih => rw [List.map_cons, fuls, ih]; cases t <;> cases k <;> rfl
  cases r <;> simp [Rw.d, MP.ful, fuls, h1, h2]
def S_crow (c : Fn) : Prop := ∀ (r : Rw) (m1 m2 : Dn), r.has m1 m2 → c [r.d, dD m1, dD m2] = .ok (0, (r.ren (lk m1) (lk m2)).d)
theorem crow_s : S_crow (runF Γ [0] 0 s_called_row) := fun r m1 m2 h => by
  refine runF_rt ?_
  cases r with
  | any ts => simp [s_called_row, Rw.d, cmp_eq eqw_any_any, Rw.ren]
  | call p t =>
    obtain ⟨v, hv⟩ := h
    simp [s_called_row, Rw.d, cmp_eq eqw_call_any, cmp_eq eqw_call_call, Rw.ren, idx_dD hv, cut_drop, newT_ok, lk, hv]
  | put b w t =>
    obtain ⟨v, hv⟩ := h
    simp [s_called_row, Rw.d, cmp_eq eqw_put_any, cmp_eq eqw_put_call, Rw.ren, idx_dD hv, cut_drop, newT_ok, lk, hv]
  | swap b o n t =>
    obtain ⟨v, hv⟩ := h
    simp [s_called_row, Rw.d, cmp_eq eqw_swap_any, cmp_eq eqw_swap_call, Rw.ren, idx_dD hv, cut_drop, newT_ok, lk, hv]
  | ask b ts =>
    obtain ⟨v, hv⟩ := h
    simp [s_called_row, Rw.d, cmp_eq eqw_ask_any, cmp_eq eqw_ask_call, Rw.ren, idx_dD hv, cut_drop, newT_ok, lk, hv]
  | take b t =>
    obtain ⟨v, hv⟩ := h
    simp [s_called_row, Rw.d, cmp_eq eqw_take_any, cmp_eq eqw_take_call, Rw.ren, idx_dD hv, cut_drop, newT_ok, lk, hv]
  | give b t =>
    obtain ⟨v, hv⟩ := h
    simp [s_called_row, Rw.d, cmp_eq eqw_give_any, cmp_eq eqw_give_call, Rw.ren, idx_dD hv, cut_drop, newT_ok, lk, hv]
/-- what called asks of the names -/
structure RenOk (P : Pg) (m1 m2 m3 : Dn) : Prop where
  n1 : NmFor (P.bs.map (·.1)) m1
  n2 : NmFor (P.ps.map (·.1)) m2
  n3 : NmFor (P.hs.map (·.1)) m3
  rows : ∀ p ∈ P.ps, ∀ r ∈ p.2, r.has m1 m2
def Pg.by (P : Pg) (m1 m2 m3 : Dn) : Pg := P.ren (lk m1) (lk m2) (lk m3)
theorem lk_some {m : Dn} {n v : Str} (h : m.lookup n = some v) : lk m n = v := by unfold lk; rw [h]; rfl
theorem NmFor.get {ns : List Str} {m : Dn} (h : NmFor ns m) {n : Str} (hn : n ∈ ns) : idxD (dD m) (.str n) = some (0, .str (lk m n)) := by
  obtain ⟨v, h1, _⟩ := h.has n hn
  rw [idx_dD h1, lk_some h1]
def S_called (c : Fn) : Prop := ∀ (P : Pg) (m1 m2 m3 : Dn), P.Ok → RenOk P m1 m2 m3 → c [P.d, nmD m1 m2 m3] = .ok (8, (P.by m1 m2 m3).d)
theorem fuls_map {α : Type} {k : Nat} {t : α → D} (h : ∀ a, ful k (t a) = true) : ∀ l : List α, fuls k (l.map t) = true
  | [] => by cases k <;> rfl
  | a :: l => by rw [List.map_cons, fuls, h, fuls_map h l]; rfl
theorem all_fu {α : Type} {g : α → Ent} (h : ∀ a, fu (g a) = true) : ∀ l : List α, (l.map g).all fu = true
  | [] => rfl
  | a :: l => by rw [List.map_cons, List.all_cons, h, all_fu h l]; rfl
theorem pcf {k : Nat} (p : Pc) : ful (k + 1) (pcD p) = true := by
  show fuls (k + 1) [.str p.1, .lst (p.2.map Rw.d)] = true
  simp [fuls, ful, fuls_map fun r : Rw => r.ful k]
theorem Pg.ful {P : Pg} {k : Nat} : MP.ful (k + 2) P.d = true := by
  show fuls (k + 2) [.lst (P.bs.map bxD), .lst (P.ps.map pcD), .lst (P.hs.map hdD)] = true
  have h1 := fuls_map (k := k + 1) (t := bxD) (fun b => bxf) P.bs
  have h2 := fuls_map (k := k + 1) (t := pcD) (fun b => pcf b) P.ps
  have h3 := fuls_map (k := k + 1) (t := hdD) (fun b => hdf) P.hs
  simp [fuls, MP.ful, h1, h2, h3]
theorem called_s (h1 : S_look (Γ.call "look_at")) (h2 : S_lnames (Γ.call "look_at_names")) (h3 : S_crow (Γ.call "called_row")) : S_called (runF Γ [5] 11 s_called) := fun P m1 m2 m3 hP hm => by
  refine runF_rt ?_
  have lb := hP.bl
  have lp := hP.pl
  have lh := hP.hl
  have k1 := h1 P hP
  have k2 := h2 P m1 m2 m3 (by omega) (by omega) (by omega) hm.n1 hm.n2 hm.n3
  simp [s_called, k1, k2, fv, fv.fvs, brw]
  let R : Pc → Pc := fun p => (lk m2 p.1, p.2.map (Rw.ren (lk m1) (lk m2)))
  refine loop_D (fun done e => ∃ o6 o7 o8 o9 o10 o11 o12, e = [some (0, P.d, []), some (0, nmD m1 m2 m3, []), some (0, dD m1, []), some (0, dD m2, []), some (0, dD m3, []), some (9, .lst ((done.map R).map pcD), []), o6, o7, o8, o9, o10, o11, o12]) ⟨_, _, _, _, _, _, _, rfl⟩ (fun done p rest e hl hI => ?_) fun e hI => ?_
  · obtain ⟨o6, o7, o8, o9, o10, o11, o12, rfl⟩ := hI
    have hp : p ∈ P.ps := by rw [hl]; simp
    have g1 := hm.n2.get (List.mem_map.mpr ⟨p, hp, rfl⟩)
    simp [forB]
    rw [app_ok (k2 := 8) (ds := (done.map R).map pcD) (B := []) (x := (8, pcD (R p)))]
    · refine ⟨_, by simp; rfl, ?_⟩
      simp
    · simp
    · simp [g1]
      rw [e_lcT (l := p.2) Rw.d (fun r => (0, (r.ren (lk m1) (lk m2)).d)) (xs := [(0, .lst (p.2.map Rw.d))])]
      · rw [all_fu fun r => by simp [fu, Rw.ful]]
        have q : ∀ k, fuls k (p.2.map fun r => (r.ren (lk m1) (lk m2)).d) = true := fun k => fuls_map (fun r => Rw.ful _ _) _
        simp [fu, ful, q, R, pcD]
      · simp
      · rfl
      · have := hP.pr p hp; omega
      · intro r hr
        refine ⟨_, rfl, ?_⟩
        simp [h3 r m1 m2 (hm.rows p hp r hr)]
    · have := congrArg List.length hl
      simp at this ⊢
      omega
    · exact pcf _
    · exact pcf _
    · rfl
    · rfl
  · obtain ⟨o6, o7, o8, o9, o10, o11, o12, rfl⟩ := hI
    simp
    rw [e_lcT (l := P.bs) bxD (fun b => (8, bxD (lk m1 b.1, b.2))) (xs := [(0, .lst (P.bs.map bxD))])]
    · rw [e_lcT (l := P.hs) hdD (fun b => (8, hdD (lk m3 b.1, lk m2 b.2))) (xs := [(0, .lst (P.hs.map hdD))])]
      · rw [all_fu fun r => by simp [fu], all_fu fun r => by simp [fu]]
        have q1 : ∀ k, fuls k (P.bs.map fun a => bxD (lk m1 a.1, a.2)) = true := fun k => fuls_map (fun r => bxf) _
        have q2 : ∀ k, fuls (k + 1) (P.ps.map (pcD ∘ R)) = true := fun k => fuls_map (fun r => pcf _) _
        have q3 : ∀ k, fuls k (P.hs.map fun a => hdD (lk m3 a.1, lk m2 a.2)) = true := fun k => fuls_map (fun r => hdf) _
        simp [mvs, mv1, nmsOf, fu, ful, q1, q2 6, q2 7, q2 8, q3, sz_le]
        simp [Pg.d, Pg.by, Pg.ren, R, Function.comp_def]
      · simp
      · rfl
      · omega
      · intro b hb
        refine ⟨_, rfl, ?_⟩
        have g1 := hm.n3.get (List.mem_map.mpr ⟨b, hb, rfl⟩)
        have g2 := hm.n2.get (hP.hp b hb)
        simp [g1, g2, fu, ful]
        rfl
    · simp
    · rfl
    · omega
    · intro b hb
      refine ⟨_, rfl, ?_⟩
      have g1 := hm.n1.get (List.mem_map.mpr ⟨b, hb, rfl⟩)
      simp [g1, fu, ful]
      rfl
end
end MP

/-! PLi: the law's cells, digits, names. -/
namespace MP
open PySem PySem.Spec PyProof.Rows L2
def s__law_cell_at : List Sm := [
  (.ife (.cmp .lt (.nm 1) (.blt .len [(.nm 0)])) [(.ret (.idx (.nm 0) (.nm 1)))] []),
  (.ret (.int (0)))]
def s__law_digits : List Sm := [
  (.set (.nm 3) (.blt .abs [(.nm 0)])),
  (.set (.nm 4) (.cmp .ge (.nm 3) (.bin .pow (.int (10)) (.int (18))))),
  (.set (.nm 5) (.bin .add (.bin .mod (.nm 3) (.int (2147483647))) (.bin .mul (.int (7919)) (.nm 1)))),
  (.set (.nm 6) (.lst [])),
  (.for (.tup [(.nm 7), (.nm 8)]) .enum [(.nm 2)] [(.ife (.and (.nm 4) (.cmp .gt (.nm 3) (.int (0)))) [(.mut .append (.nm 6) [(.bin .mod (.nm 3) (.nm 8))]), (.set (.nm 3) (.bin .fdiv (.nm 3) (.nm 8)))] [(.set (.nm 5) (.bin .mod (.bin .pow (.bin .add (.nm 5) (.bin .mul (.int (104729)) (.bin .add (.nm 7) (.int (1))))) (.int (2))) (.int (2147483587)))), (.mut .append (.nm 6) [(.bin .mod (.bin .fdiv (.nm 5) (.int (16))) (.nm 8))])])]),
  (.retV 6)]
def s__law_name : List Sm := [
  (.set (.nm 2) (.idx (.str "abcdefghijklmnopqrstuvwxyz") (.bin .mod (.bin .add (.nm 0) (.bin .mul (.int (7)) (.nm 1))) (.int (26))))),
  (.set (.nm 3) (.idx (.lst [(.str ""), (.str "x"), (.str "zz"), (.str "qqqqqqq")]) (.bin .mod (.bin .fdiv (.nm 0) (.int (26))) (.int (4))))),
  (.ret (.idx (.lst [(.bin .add (.nm 3) (.nm 2)), (.bin .add (.nm 2) (.nm 3))]) (.bin .mod (.bin .fdiv (.nm 0) (.int (104))) (.int (2)))))]
section
variable {Γ : Gm}
def cellAt (ns : List Int) (k : Int) : Int := (ns[k.toNat]?).getD 0
def S_cell (c : Fn) : Prop := ∀ (ns : List Int) (k : Int), 0 ≤ k → c [.scr (ns.map .int), .int k] = .ok (0, .int (cellAt ns k))
theorem cell_s : S_cell (runF Γ [] 0 s__law_cell_at) := fun ns k hk => by
  refine runF_rt ?_
  simp [s__law_cell_at]
  by_cases h : k < ns.length
  · have h2 : k.toNat < ns.length := by omega
    have h3 : cellAt ns k = ns[k.toNat] := by unfold cellAt; rw [List.getElem?_eq_getElem h2]; rfl
    simp [h, atI_pos hk, h2, h3]
  · have h3 : cellAt ns k = 0 := by unfold cellAt; rw [List.getElem?_eq_none (by omega)]; rfl
    simp [h, h3]
theorem log2_lt {j : Int} (h : 0 < j) (h2 : j < 2 ^ 64) : j.natAbs.log2 < 9000 := by
  have : j.natAbs.log2 < 64 := (Nat.log2_lt (by omega)).mpr (by omega)
  omega
theorem fdiv_i' {i j : Int} (h : 0 < j) (h2 : j < 2 ^ 64) : binD .fdiv (.int i) (.int j) = some (0, .int (i / j)) := fdiv_i h (log2_lt h h2)
theorem pow_18 : binD .pow (.int 10) (.int 18) = some (0, .int 1000000000000000000) := rfl
theorem pow_2 {i : Int} (h : i.natAbs < 2 ^ 64) : binD .pow (.int i) (.int 2) = some (0, .int (i ^ 2)) := if_pos ⟨by decide, by decide, h⟩
theorem sq_mod {i : Int} : 0 ≤ i ^ 2 % 2147483587 ∧ i ^ 2 % 2147483587 < 2147483587 := ⟨Int.emod_nonneg _ (by decide), Int.emod_lt_of_pos _ (by decide)⟩
@[simp] theorem abs_i {i : Int} : bltD .abs [.int i] = some (0, .int (if i < 0 then -i else i)) := (rfl)
/-- digits that keep their bounds -/
def DigOk (szs ds : List Int) : Prop := ds.length = szs.length ∧ ∀ (i : Nat) (d s : Int), ds[i]? = some d → szs[i]? = some s → 0 ≤ d ∧ d < s
def S_dig (c : Fn) : Prop := ∀ (n t : Int) (szs : List Int), 0 ≤ t → t ≤ 1000 → szs.length ≤ 1000 → (∀ s ∈ szs, 1 ≤ s ∧ s ≤ 1000000) → ∃ ds : List Int, c [.int n, .int t, .lst (szs.map .int)] = .ok (9, .lst (ds.map .int)) ∧ DigOk szs ds
theorem DigOk.snoc {a b : List Int} {s d : Int} (h : DigOk a b) (h1 : 0 ≤ d) (h2 : d < s) : DigOk (a ++ [s]) (b ++ [d]) := by
  refine ⟨by simp [h.1], fun i x y hx hy => ?_⟩
  by_cases hi : i < b.length
  · rw [List.getElem?_append_left hi] at hx
    rw [List.getElem?_append_left (by rw [← h.1]; exact hi)] at hy
    exact h.2 i x y hx hy
  · rw [List.getElem?_append_right (by omega)] at hx
    rw [List.getElem?_append_right (by rw [← h.1]; omega)] at hy
    rw [← h.1] at hy
    cases hj : i - b.length with
    | zero =>
      rw [hj] at hx hy
      cases hx
      cases hy
      exact ⟨h1, h2⟩
    | succ j => rw [hj] at hx; simp at hx
theorem dig_s : S_dig (runF Γ [6] 6 s__law_digits) := fun n t szs ht ht2 hz hs => by
  have key : ∃ ds : List Int, exL Γ [6] [] s__law_digits [some (0, .int n, []), some (0, .int t, []), some (0, .lst (szs.map .int), []), none, none, none, none, none, none] = .rt (9, .lst (ds.map .int)) ∧ DigOk szs ds := by
    simp [s__law_digits, pow_18, mod_i, mul_i, fv, fv.fvs, brw, ful, fuls]
    refine loop_EJ (J := fun o => ∃ ds : List Int, o = .rt (9, .lst (ds.map .int)) ∧ DigOk szs ds) (fun done e => ∃ (m sd : Int) (w : Bool) (ds : List Int) (o7 o8 : Option Slt), 0 ≤ m ∧ 0 ≤ sd ∧ sd < 2 ^ 40 ∧ DigOk done ds ∧
      e = [some (0, .int n, []), some (0, .int t, []), some (0, .lst (szs.map .int), []), some (0, .int m, []), some (0, .bl w, []), some (0, .int sd, []), some (9, .lst (ds.map .int), []), o7, o8]) ?_ (fun done s rest e hl hI => ?_) fun e hI => ?_
    · refine ⟨if n < 0 then -n else n, _, _, [], none, none, ?_, ?_, ?_, ⟨rfl, fun i d s h => by simp at h⟩, rfl⟩
      · split <;> omega
      · have := Int.emod_nonneg (if n < 0 then -n else n) (b := 2147483647) (by decide)
        omega
      · have := Int.emod_lt_of_pos (if n < 0 then -n else n) (b := 2147483647) (by decide)
        omega
    · obtain ⟨m, sd, w, ds, o7, o8, h1, h2, h3, h4, rfl⟩ := hI
      obtain ⟨s1, s2⟩ := hs s (by rw [hl]; simp)
      have hdl : done.length ≤ 1000 := by
        have := congrArg List.length hl
        simp at this
        omega
      have hfu : ∀ k (l : List Int), fuls k (l.map .int) = true := fun k l => fuls_map (fun i => by cases k <;> rfl) l
      have ha : ∀ (k : Nat) (env : Env) (e : Ex) (d : Int), env[6]? = some (some (9, .lst (ds.map .int), [])) → evE Γ e env = .ok (k, .int d) → appS Γ [] env (.nm 6) e = .nx ((wipeB 6 env).set 6 (some (9, .lst ((ds ++ [d]).map .int), []))) := fun k env e d q1 q2 => by
        rw [app_ok (k2 := 8) q1 q2 (by rw [List.length_map, h4.1]; omega) (by cases k <;> rfl) rfl rfl rfl, List.map_append]
        rfl
      have p1 := pow_2 (i := sd + 104729 * (done.length + 1)) (by omega)
      obtain ⟨q1, q2⟩ := sq_mod (i := sd + 104729 * (done.length + 1))
      generalize hsd : (sd + 104729 * (done.length + 1)) ^ 2 % 2147483587 = sd2 at q1 q2
      have hin : ∀ (m sd : Int) (w : Bool) (ds : List Int) (d : Int) (o7 o8 : Option Slt), 0 ≤ m → 0 ≤ sd → sd < 2 ^ 40 → DigOk done ds → 0 ≤ d → d < s → ∃ (m' sd' : Int) (w' : Bool) (ds' : List Int) (p7 p8 : Option Slt), 0 ≤ m' ∧ 0 ≤ sd' ∧ sd' < 2 ^ 40 ∧ DigOk (done ++ [s]) ds' ∧
          [some (0, .int n, []), some (0, .int t, []), some (0, .lst (szs.map .int), []), some (0, .int m, []), some (0, .bl w, []), some (0, .int sd, []), some (9, .lst ((ds ++ [d]).map .int), []), o7, o8] = [some (0, .int n, []), some (0, .int t, []), some (0, .lst (szs.map .int), []), some (0, .int m', []), some (0, .bl w', []), some (0, .int sd', []), some (9, .lst (ds'.map .int), []), p7, p8] :=
        fun m sd w ds d o7 o8 h1 h2 h3 h4 h5 h6 => ⟨m, sd, w, ds ++ [d], o7, o8, h1, h2, h3, h4.snoc h5 h6, rfl⟩
      have d1 : 0 ≤ sd2 / 16 % s := Int.emod_nonneg _ (by omega)
      have d2 : sd2 / 16 % s < s := Int.emod_lt_of_pos _ (by omega)
      have d3 : 0 ≤ m % s := Int.emod_nonneg _ (by omega)
      have d4 : m % s < s := Int.emod_lt_of_pos _ (by omega)
      have hw : w = false ∨ (w = true ∧ ¬ 0 < m) → ∃ e', forB Γ [6] [] [] (.tup [.nm 7, .nm 8]) [(.ife (.and (.nm 4) (.cmp .gt (.nm 3) (.int (0)))) [(.mut .append (.nm 6) [(.bin .mod (.nm 3) (.nm 8))]), (.set (.nm 3) (.bin .fdiv (.nm 3) (.nm 8)))] [(.set (.nm 5) (.bin .mod (.bin .pow (.bin .add (.nm 5) (.bin .mul (.int (104729)) (.bin .add (.nm 7) (.int (1))))) (.int (2))) (.int (2147483587)))), (.mut .append (.nm 6) [(.bin .mod (.bin .fdiv (.nm 5) (.int (16))) (.nm 8))])])]
          (.tup [.int done.length, .int s]) [some (0, .int n, []), some (0, .int t, []), some (0, .lst (szs.map .int), []), some (0, .int m, []), some (0, .bl w, []), some (0, .int sd, []), some (9, .lst (ds.map .int), []), o7, o8] = .nx e' ∧
          e' = [some (0, .int n, []), some (0, .int t, []), some (0, .lst (szs.map .int), []), some (0, .int m, []), some (0, .bl w, []), some (0, .int sd2, []), some (9, .lst ((ds ++ [sd2 / 16 % s]).map .int), []), some (0, .int done.length, []), some (0, .int s, [])] := fun hc => by
        refine ⟨_, ?_, rfl⟩
        have ea : ∀ env : Env, env = [some (0, .int n, []), some (0, .int t, []), some (0, .lst (szs.map .int), []), some (0, .int m, []), some (0, .bl w, []), some (0, .int sd2, []), some (9, .lst (ds.map .int), []), some (0, .int done.length, []), some (0, .int s, [])] → appS Γ [] env (.nm 6) (.bin .mod (.bin .fdiv (.nm 5) (.int (16))) (.nm 8)) = .nx ((wipeB 6 env).set 6 (some (9, .lst ((ds ++ [sd2 / 16 % s]).map .int), []))) := fun env he => by
          refine ha 0 env _ _ (by rw [he]; rfl) ?_
          rw [he]
          simp [fdiv_i', mod_i (show 0 < s by omega)]
        rcases hc with rfl | ⟨rfl, hm⟩
        · simp [forB, mul_i, p1, mod_i, brw, fv, ful, hsd]
          rw [ea _ rfl]
          simp
        · simp [forB, hm, mul_i, p1, mod_i, brw, fv, ful, hsd]
          rw [ea _ rfl]
          simp
      by_cases hc : w = true ∧ 0 < m
      · obtain ⟨rfl, hm⟩ := hc
        refine ⟨_, ?_, hin (m / s) sd true ds (m % s) (some (0, .int done.length, [])) (some (0, .int s, [])) (Int.ediv_nonneg h1 (by omega)) h2 h3 h4 d3 d4⟩
        have ea : ∀ env : Env, env = [some (0, .int n, []), some (0, .int t, []), some (0, .lst (szs.map .int), []), some (0, .int m, []), some (0, .bl true, []), some (0, .int sd, []), some (9, .lst (ds.map .int), []), some (0, .int done.length, []), some (0, .int s, [])] → appS Γ [] env (.nm 6) (.bin .mod (.nm 3) (.nm 8)) = .nx ((wipeB 6 env).set 6 (some (9, .lst ((ds ++ [m % s]).map .int), []))) := fun env he => by
          refine ha 0 env _ _ (by rw [he]; rfl) ?_
          rw [he]
          simp [mod_i (show 0 < s by omega)]
        simp [forB, hm, brw, fv, ful]
        rw [ea _ rfl]
        simp [fdiv_i' (show 0 < s by omega) (show s < 2 ^ 64 by omega), ful]
      · obtain ⟨e', q, rfl⟩ := hw (by
          cases w with
          | false => exact .inl rfl
          | true => exact .inr ⟨rfl, fun z => hc ⟨rfl, z⟩⟩)
        exact ⟨_, q, hin m sd2 w ds _ _ _ h1 q1 (by omega) h4 d1 d2⟩
    · obtain ⟨m, sd, w, ds, o7, o8, h1, h2, h3, h4, rfl⟩ := hI
      refine ⟨ds, ?_, h4⟩
      have : ful 9 (.lst (ds.map .int)) = true := fuls_map (fun i => rfl) _
      simp [this]
  obtain ⟨ds, h1, h2⟩ := key
  exact ⟨ds, runF_rt h1, h2⟩
end
end MP

/-! PLj: the law's names, rows. -/
namespace MP
open PySem PySem.Spec PyProof.Rows L2
def s__law_to_row : List Sm := [
  (.set (.nm 4) (.lc (.bin .mod (.bin .add (.idx (.nm 0) (.int (4))) (.bin .mul (.nm 10) (.bin .add (.idx (.nm 0) (.int (5))) (.int (1))))) (.bin .add (.nm 2) (.int (1)))) (.nm 10) .rng [(.int (8))] [] [9, 10])),
  (.set (.nm 5) (.bin .mod (.idx (.nm 0) (.int (1))) (.blt .len [(.nm 1)]))),
  (.set (.nm 6) (.bin .mod (.idx (.nm 0) (.int (2))) (.idx (.nm 1) (.nm 5)))),
  (.set (.nm 7) (.bin .mod (.idx (.nm 0) (.int (3))) (.idx (.nm 1) (.nm 5)))),
  (.ife (.cmp .eq (.idx (.nm 0) (.int (0))) (.int (0))) [(.retT [(.str "put"), (.nm 5), (.nm 6), (.idx (.nm 4) (.int (0)))])] []),
  (.ife (.cmp .eq (.idx (.nm 0) (.int (0))) (.int (1))) [(.retT [(.str "swap"), (.nm 5), (.nm 6), (.nm 7), (.idx (.nm 4) (.int (0)))])] []),
  (.ife (.cmp .lt (.idx (.nm 0) (.int (0))) (.int (4))) [(.set (.nm 8) (.lc (.and (.cmp .eq (.idx (.nm 0) (.int (0))) (.int (3))) (.cmp .eq (.bin .mod (.bin .fdiv (.idx (.nm 0) (.int (6))) (.idx (.lst [(.int (1)), (.int (2)), (.int (4)), (.int (8)), (.int (16)), (.int (32))]) (.nm 10))) (.int (2))) (.int (1)))) (.nm 10) .rng [(.int (6))] [] [9, 10])), (.retT [(.str "ask"), (.nm 5), (.tupl (.lc (.idx (.lst [(.idx (.nm 4) (.nm 10)), .non]) (.blt .int [(.idx (.nm 8) (.nm 10))])) (.nm 10) .rng [(.idx (.nm 1) (.nm 5))] [] [9, 10]))])] []),
  (.ife (.cmp .eq (.idx (.nm 0) (.int (0))) (.int (4))) [(.retT [(.str "any"), (.tupl (.slc (.nm 4) .nop (.bin .add (.int (1)) (.bin .mod (.idx (.nm 0) (.int (2))) (.int (4))))))])] []),
  (.ife (.cmp .eq (.idx (.nm 0) (.int (0))) (.int (5))) [(.retT [(.str "call"), (.idx (.nm 0) (.int (7))), (.idx (.nm 4) (.int (0)))])] []),
  (.ife (.cmp .le (.idx (.nm 1) (.nm 5)) (.nm 3)) [(.retT [(.str "put"), (.nm 5), (.nm 7), (.idx (.nm 4) (.int (0)))])] []),
  (.retT [(.idx (.lst [(.str "take"), (.str "give")]) (.bin .sub (.idx (.nm 0) (.int (0))) (.int (6)))), (.nm 5), (.idx (.nm 4) (.int (0)))])]
section
variable {Γ : Gm}
def stemS (a : Nat) : Str := ⟨#[97 + a]⟩
def moreS : Nat → Str
  | 0 => ""
  | 1 => "x"
  | 2 => "zz"
  | _ => "qqqqqqq"
def lnm (a b c : Nat) : Str := if c = 0 then moreS b ++ stemS a else stemS a ++ moreS b
def lname (n k : Int) : Str := lnm ((n + 7 * k) % 26).toNat (n / 26 % 4).toNat (n / 104 % 2).toNat
theorem lnm_ok : ∀ (a : _root_.Fin 26) (b : _root_.Fin 4) (c : _root_.Fin 2), nmOk (lnm a b c) = true ∧ lnm a b c ≠ "zzzzzzzz" := by decide +kernel
theorem lnm_inj : ∀ (a a' : _root_.Fin 26) (b : _root_.Fin 4) (c : _root_.Fin 2), lnm a b c = lnm a' b c → a = a' := by decide +kernel
theorem lname_ok {n k : Int} : nmOk (lname n k) = true ∧ lname n k ≠ "zzzzzzzz" := by
  have h1 := Int.emod_nonneg (n + 7 * k) (b := 26) (by decide)
  have h2 := Int.emod_lt_of_pos (n + 7 * k) (b := 26) (by decide)
  have h3 := Int.emod_nonneg (n / 26) (b := 4) (by decide)
  have h4 := Int.emod_lt_of_pos (n / 26) (b := 4) (by decide)
  have h5 := Int.emod_nonneg (n / 104) (b := 2) (by decide)
  have h6 := Int.emod_lt_of_pos (n / 104) (b := 2) (by decide)
  exact lnm_ok ⟨((n + 7 * k) % 26).toNat, by omega⟩ ⟨(n / 26 % 4).toNat, by omega⟩ ⟨(n / 104 % 2).toNat, by omega⟩
theorem lname_inj {n k k' : Int} (h : lname n k = lname n k') : (n + 7 * k) % 26 = (n + 7 * k') % 26 := by
  have h1 := Int.emod_nonneg (n + 7 * k) (b := 26) (by decide)
  have h2 := Int.emod_lt_of_pos (n + 7 * k) (b := 26) (by decide)
  have h1' := Int.emod_nonneg (n + 7 * k') (b := 26) (by decide)
  have h2' := Int.emod_lt_of_pos (n + 7 * k') (b := 26) (by decide)
  have h3 := Int.emod_nonneg (n / 26) (b := 4) (by decide)
  have h4 := Int.emod_lt_of_pos (n / 26) (b := 4) (by decide)
  have h5 := Int.emod_nonneg (n / 104) (b := 2) (by decide)
  have h6 := Int.emod_lt_of_pos (n / 104) (b := 2) (by decide)
  have := lnm_inj ⟨((n + 7 * k) % 26).toNat, by omega⟩ ⟨((n + 7 * k') % 26).toNat, by omega⟩ ⟨(n / 26 % 4).toNat, by omega⟩ ⟨(n / 104 % 2).toNat, by omega⟩ h
  have := congrArg (fun x : _root_.Fin 26 => x.val) this
  dsimp only at this
  omega
theorem lname_ne {n k k' : Int} (h : k < k') (h2 : k' ≤ k + 25) : lname n k ≠ lname n k' := fun z => by
  have := lname_inj z
  omega
def S_nm (c : Fn) : Prop := ∀ n k : Int, 0 ≤ n → 0 ≤ k → k < 1000 → c [.int n, .int k] = .ok (0, .str (lname n k))
theorem stem_i : ∀ a : _root_.Fin 26, idxD (.str "abcdefghijklmnopqrstuvwxyz") (.int a.val) = some (0, .str (stemS a)) := by
  have key : ∀ a : _root_.Fin 26, atI (PySem.Str.ofString "abcdefghijklmnopqrstuvwxyz").cps.toList (a.val : Int) = some (97 + a.val) := by decide +kernel
  intro a
  show (if szOk (PySem.Str.ofString "abcdefghijklmnopqrstuvwxyz").length then (atI (PySem.Str.ofString "abcdefghijklmnopqrstuvwxyz").cps.toList (a.val : Int)).map fun c => ent (.str ⟨#[c]⟩) else none) = _
  rw [sz_le (by decide +kernel), key a]
  rfl
theorem nm_s : S_nm (runF Γ [] 2 s__law_name) := fun n k hn hk hk2 => by
  refine runF_rt ?_
  have h1 := Int.emod_nonneg (n + 7 * k) (b := 26) (by decide)
  have h2 := Int.emod_lt_of_pos (n + 7 * k) (b := 26) (by decide)
  have h3 := Int.emod_nonneg (n / 26) (b := 4) (by decide)
  have h4 := Int.emod_lt_of_pos (n / 26) (b := 4) (by decide)
  have h5 := Int.emod_nonneg (n / 104) (b := 2) (by decide)
  have h6 := Int.emod_lt_of_pos (n / 104) (b := 2) (by decide)
  have e1 := stem_i ⟨((n + 7 * k) % 26).toNat, by omega⟩
  rw [show ((((n + 7 * k) % 26).toNat : Nat) : Int) = (n + 7 * k) % 26 by omega] at e1
  dsimp only at e1
  have hm : n / 26 % 4 = 0 ∨ n / 26 % 4 = 1 ∨ n / 26 % 4 = 2 ∨ n / 26 % 4 = 3 := by omega
  have hs : n / 104 % 2 = 0 ∨ n / 104 % 2 = 1 := by omega
  simp [s__law_name, mul_i, mod_i, fdiv_i', e1, fv, fv.fvs, brw, ful]
  have hl : (stemS ((n + 7 * k) % 26).toNat).length = 1 := rfl
  have l0 : ("" : Str).length = 0 := by decide +kernel
  have l1 : ("x" : Str).length = 1 := by decide +kernel
  have l2 : ("zz" : Str).length = 2 := by decide +kernel
  have l3 : ("qqqqqqq" : Str).length = 7 := by decide +kernel
  have z : (n / 104 % 2).toNat = 0 ∨ (n / 104 % 2).toNat = 1 := by omega
  unfold lname lnm
  generalize stemS ((n + 7 * k) % 26).toNat = st at hl ⊢
  rcases hm with hm | hm | hm | hm <;> rcases hs with hs | hs <;> rw [hm, hs] <;> simp [add_s, hl, l0, l1, l2, l3, moreS, fdiv_i', mod_i, hs]
/-- rows by numbers -/
inductive Ri where
  | put (b w t : Int) | swap (b o n t : Int) | ask (b : Int) (ts : List (Option Int)) | any (ts : List Int) | call (p t : Int) | take (b t : Int) | give (b t : Int)
def Ri.d : Ri → D
  | .put b w t => .tup [.str "put", .int b, .int w, .int t]
  | .swap b o n t => .tup [.str "swap", .int b, .int o, .int n, .int t]
  | .ask b ts => .tup [.str "ask", .int b, .tup (ts.map oD)]
  | .any ts => .tup [.str "any", .tup (ts.map .int)]
  | .call p t => .tup [.str "call", .int p, .int t]
  | .take b t => .tup [.str "take", .int b, .int t]
  | .give b t => .tup [.str "give", .int b, .int t]
def wAt (ws : List Int) (b : Int) : Int := (ws[b.toNat]?).getD 0
def Ri.ok (ws : List Int) (np nh en : Int) : Ri → Prop
  | .put b w t => inW b 0 ws.length = true ∧ inW w 0 (wAt ws b) = true ∧ inW t 0 (en + 1) = true
  | .swap b o n t => inW b 0 ws.length = true ∧ inW o 0 (wAt ws b) = true ∧ inW n 0 (wAt ws b) = true ∧ inW t 0 (en + 1) = true
  | .ask b ts => inW b 0 ws.length = true ∧ (ts.length : Int) = wAt ws b ∧ ∀ t, some t ∈ ts → inW t 0 (en + 1) = true
  | .any ts => (∀ t ∈ ts, inW t 0 (en + 1) = true) ∧ 1 ≤ ts.length ∧ ts.length ≤ 4
  | .call p t => inW p 0 np = true ∧ inW t 0 (en + 1) = true
  | .take b t => inW b 0 ws.length = true ∧ nh < wAt ws b ∧ inW t 0 (en + 1) = true
  | .give b t => inW b 0 ws.length = true ∧ nh < wAt ws b ∧ inW t 0 (en + 1) = true
def S_trow (c : Fn) : Prop := ∀ (d ws : List Int) (en nh np : Int), DigOk [8, 3, 6, 6, 9, 8, 64, np] d → 1 ≤ ws.length → ws.length ≤ 3 → (∀ w ∈ ws, 2 ≤ w ∧ w ≤ 6) → 1 ≤ en → en ≤ 8 → ∃ r : Ri, c [.lst (d.map .int), .tup (ws.map .int), .int en, .int nh] = .ok (8, r.d) ∧ r.ok ws np nh en
def pw (j : Nat) : Int := ([1, 2, 4, 8, 16, 32][j]?).getD 1
theorem pw_i {j : Nat} (h : j < 6) : idxD (.lst [.int 1, .int 2, .int 4, .int 8, .int 16, .int 32]) (.int j) = some (0, .int (pw j)) ∧ 0 < pw j ∧ pw j < 2 ^ 64 := by
  have : j = 0 ∨ j = 1 ∨ j = 2 ∨ j = 3 ∨ j = 4 ∨ j = 5 := by omega
  rcases this with rfl | rfl | rfl | rfl | rfl | rfl <;> exact ⟨rfl, by decide, by decide⟩
theorem Ri.ful (r : Ri) (k : Nat) : MP.ful k r.d = true := by
  have h1 : ∀ (ts : List Int), fuls k (ts.map .int) = true := fun ts => fuls_map (fun _ => by cases k <;> rfl) _
  have h2 : ∀ (ts : List (Option Int)), fuls k (ts.map oD) = true := fun ts => fuls_map (fun t => by cases t <;> cases k <;> rfl) _
  cases r <;> simp [Ri.d, MP.ful, fuls, h1, h2]
end
end MP

/-! PLk: the law's rows, by numbers. -/
namespace MP
open PySem PySem.Spec PyProof.Rows L2
section
variable {Γ : Gm}
theorem tos_e {dl wl : D} {en nh d4 d5 j : Int} (i4 : idxD dl (.int 4) = some (0, .int d4)) (i5 : idxD dl (.int 5) = some (0, .int d5)) (hj1 : 0 ≤ j) (hj : j < 8) (hm : 0 < en + 1) :
   evE Γ (.bin .mod (.bin .add (.idx (.nm 0) (.int (4))) (.bin .mul (.nm 10) (.bin .add (.idx (.nm 0) (.int (5))) (.int (1))))) (.bin .add (.nm 2) (.int (1)))) [some (0, dl, []), some (0, wl, []), some (0, .int en, []), some (0, .int nh, []), none, none, none, none, none, none, some (0, .int j, [])] = .ok (0, .int ((d4 + j * (d5 + 1)) % (en + 1))) := by
  have hm2 := mul_i (i := j) (j := d5 + 1) (.inl ⟨by omega, by omega⟩)
  simp [i4, i5, hm2, mod_i hm]
theorem stop_e {dl wl tl : D} {en nh b v2 v3 d0 d6 j pj : Int} (i0 : idxD dl (.int 0) = some (0, .int d0)) (i6 : idxD dl (.int 6) = some (0, .int d6)) (q1 : idxD (.lst [.int 1, .int 2, .int 4, .int 8, .int 16, .int 32]) (.int j) = some (0, .int pj)) (q2 : 0 < pj) (q3 : pj < 2 ^ 64) :
    evE Γ (.and (.cmp .eq (.idx (.nm 0) (.int (0))) (.int (3))) (.cmp .eq (.bin .mod (.bin .fdiv (.idx (.nm 0) (.int (6))) (.idx (.lst [(.int (1)), (.int (2)), (.int (4)), (.int (8)), (.int (16)), (.int (32))]) (.nm 10))) (.int (2))) (.int (1))))
      [some (0, dl, []), some (0, wl, []), some (0, .int en, []), some (0, .int nh, []), some (0, tl, []), some (0, .int b, []), some (0, .int v2, []), some (0, .int v3, []), none, none, some (0, .int j, [])] = .ok (0, .bl ((d0 == 3) && (d6 / pj % 2 == 1))) := by
  have := fdiv_i' (i := d6) q2 q3
  have q1' : (atI [D.int 1, .int 2, .int 4, .int 8, .int 16, .int 32] j).map ent = some (0, .int pj) := q1
  by_cases h3 : d0 = 3
  · simp [i0, i6, q1', this, mod_i, h3]
  · simp [i0, i6, q1', this, mod_i, h3]
theorem stopv_e {dl wl tl sl : D} {en nh b v2 v3 j tj : Int} {s : Bool} (h1 : idxD tl (.int j) = some (0, .int tj)) (h2 : idxD sl (.int j) = some (0, .bl s)) :
    evE Γ (.idx (.lst [(.idx (.nm 4) (.nm 10)), .non]) (.blt .int [(.idx (.nm 8) (.nm 10))]))
      [some (0, dl, []), some (0, wl, []), some (0, .int en, []), some (0, .int nh, []), some (0, tl, []), some (0, .int b, []), some (0, .int v2, []), some (0, .int v3, []), some (0, sl, []), none, some (0, .int j, [])] = .ok (0, oD (if s = true then none else some tj)) := by
  have : bltD .int [.bl s] = some (0, .int (if s = true then 1 else 0)) := rfl
  cases s <;> simp [h1, h2, this, oD]
theorem trow_s : S_trow (runF Γ [5, 6, 7] 7 s__law_to_row) := fun d ws en nh np hd l1 l2 hw e1 e2 => by
  obtain ⟨hl, hd⟩ := hd
  obtain ⟨d0, d1, d2, d3, d4, d5, d6, d7, rfl⟩ : ∃ d0 d1 d2 d3 d4 d5 d6 d7, d = [d0, d1, d2, d3, d4, d5, d6, d7] := by
    match d, hl with
    | [a, b, c, d, e, f, g, h], _ => exact ⟨a, b, c, d, e, f, g, h, rfl⟩
  have b0 := hd 0 d0 8 rfl rfl
  have b1 := hd 1 d1 3 rfl rfl
  have b2 := hd 2 d2 6 rfl rfl
  have b3 := hd 3 d3 6 rfl rfl
  have b4 := hd 4 d4 9 rfl rfl
  have b5 := hd 5 d5 8 rfl rfl
  have b6 := hd 6 d6 64 rfl rfl
  have b7 := hd 7 d7 np rfl rfl
  let t : Int → Int := fun j => (d4 + j * (d5 + 1)) % (en + 1)
  have ht : ∀ j, inW (t j) 0 (en + 1) = true := fun j => by
    have h1 := Int.emod_nonneg (d4 + j * (d5 + 1)) (b := en + 1) (by omega)
    have h2 := Int.emod_lt_of_pos (d4 + j * (d5 + 1)) (b := en + 1) (by omega)
    simp [inW, t]
    exact ⟨h1, h2⟩
  -- the box
  have c1 := Int.emod_nonneg d1 (b := ws.length) (by omega)
  have c2 := Int.emod_lt_of_pos d1 (b := ws.length) (by omega)
  generalize hb : d1 % (ws.length : Int) = b at c1 c2
  have hbn : b.toNat < ws.length := by omega
  have hbw : inW b 0 ws.length = true := by simp [inW]; omega
  have hwb : wAt ws b = ws[b.toNat] := by unfold wAt; rw [List.getElem?_eq_getElem hbn]; rfl
  have w2 := hw (wAt ws b) (by rw [hwb]; exact List.getElem_mem hbn)
  have hix : idxD (.tup (ws.map .int)) (.int b) = some (0, .int (wAt ws b)) := by
    rw [ixt, atI_pos c1, List.getElem?_map, List.getElem?_eq_getElem hbn, hwb]
    rfl
  have o1 := Int.emod_nonneg d2 (b := wAt ws b) (by omega)
  have o2 := Int.emod_lt_of_pos d2 (b := wAt ws b) (by omega)
  have o3 := Int.emod_nonneg d3 (b := wAt ws b) (by omega)
  have o4 := Int.emod_lt_of_pos d3 (b := wAt ws b) (by omega)
  have p1 : inW (d2 % wAt ws b) 0 (wAt ws b) = true := by simp [inW]; omega
  have p2 : inW (d3 % wAt ws b) 0 (wAt ws b) = true := by simp [inW]; omega
  have hmod : ∀ i j : Int, 0 < j → binD .mod (.int i) (.int j) = some (0, .int (i % j)) := fun i j h => mod_i h
  let tl : D := .lst ((List.range 8).map fun (j : Nat) => .int (t j))
  have ht0 : idxD tl (.int 0) = some (0, .int (t 0)) := rfl
  have key : ∃ r : Ri, exL Γ [5, 6, 7] [] s__law_to_row [some (0, .lst ([d0, d1, d2, d3, d4, d5, d6, d7].map .int), []), some (0, .tup (ws.map .int), []), some (0, .int en, []), some (0, .int nh, []), none, none, none, none, none, none, none] = .rt (8, r.d) ∧ r.ok ws np nh en := by
    have i0 : idxD (.lst ([d0, d1, d2, d3, d4, d5, d6, d7].map .int)) (.int 0) = some (0, .int d0) := rfl
    have i1 : idxD (.lst ([d0, d1, d2, d3, d4, d5, d6, d7].map .int)) (.int 1) = some (0, .int d1) := rfl
    have i2 : idxD (.lst ([d0, d1, d2, d3, d4, d5, d6, d7].map .int)) (.int 2) = some (0, .int d2) := rfl
    have i3 : idxD (.lst ([d0, d1, d2, d3, d4, d5, d6, d7].map .int)) (.int 3) = some (0, .int d3) := rfl
    have i4 : idxD (.lst ([d0, d1, d2, d3, d4, d5, d6, d7].map .int)) (.int 4) = some (0, .int d4) := rfl
    have i5 : idxD (.lst ([d0, d1, d2, d3, d4, d5, d6, d7].map .int)) (.int 5) = some (0, .int d5) := rfl
    have i6 : idxD (.lst ([d0, d1, d2, d3, d4, d5, d6, d7].map .int)) (.int 6) = some (0, .int d6) := rfl
    have i7 : idxD (.lst ([d0, d1, d2, d3, d4, d5, d6, d7].map .int)) (.int 7) = some (0, .int d7) := rfl
    generalize D.lst ([d0, d1, d2, d3, d4, d5, d6, d7].map .int) = dl at i0 i1 i2 i3 i4 i5 i6 i7 ⊢
    generalize hW : D.tup (ws.map .int) = wl at hix ⊢
    have hlw : bltD .len [wl] = some (0, .int ws.length) := by rw [← hW, len_t, List.length_map]
    have st1 : ∀ {ss : List Sm} {o : Out}, exL Γ [5, 6, 7] [] ss [some (0, dl, []), some (0, wl, []), some (0, .int en, []), some (0, .int nh, []), some (0, tl, []), none, none, none, none, none, none] = o →
        exL Γ [5, 6, 7] [] ((.set (.nm 4) (.lc (.bin .mod (.bin .add (.idx (.nm 0) (.int (4))) (.bin .mul (.nm 10) (.bin .add (.idx (.nm 0) (.int (5))) (.int (1))))) (.bin .add (.nm 2) (.int (1)))) (.nm 10) .rng [(.int (8))] [] [9, 10])) :: ss) [some (0, dl, []), some (0, wl, []), some (0, .int en, []), some (0, .int nh, []), none, none, none, none, none, none, none] = o := fun {ss o} k => by
      refine go_set0 (e_lcT (l := List.range 8) (fun (i : Nat) => .int i) (fun j => (0, .int (t j))) (xs := [(0, .int 8)]) rfl it_8 (by simp) fun j hj => ⟨_, rfl, ?_⟩) (.inr rfl) rfl k
      have hj : j < 8 := by simpa using hj
      exact tos_e i4 i5 (by omega) (by omega) (by omega)
    generalize hv2 : d2 % wAt ws b = v2 at p1
    generalize hv3 : d3 % wAt ws b = v3 at p2
    let E4 : Env := [some (0, dl, []), some (0, wl, []), some (0, .int en, []), some (0, .int nh, []), some (0, tl, []), some (0, .int b, []), some (0, .int v2, []), some (0, .int v3, []), none, none, none]
    have st : ∀ {o : Out}, exL Γ [5, 6, 7] [] (s__law_to_row.drop 4) E4 = o → exL Γ [5, 6, 7] [] s__law_to_row [some (0, dl, []), some (0, wl, []), some (0, .int en, []), some (0, .int nh, []), none, none, none, none, none, none, none] = o := fun {o} k => by
      unfold s__law_to_row
      refine st1 (go_set0 (x := (0, .int b)) ?_ (.inl rfl) rfl (go_set0 (x := (0, .int v2)) ?_ (.inl rfl) rfl (go_set0 (x := (0, .int v3)) ?_ (.inl rfl) rfl k)))
      · simp [i1, hlw, hmod _ (ws.length : Int) (by omega), hb]
      · simp [i2, hix, hmod _ (wAt ws b) (by omega), hv2]
      · simp [i3, hix, hmod _ (wAt ws b) (by omega), hv3]
    have hc : ∀ m : Int, evE Γ (.cmp .eq (.idx (.nm 0) (.int 0)) (.int m)) E4 = .ok (0, .bl (d0 == m)) := fun m => by simp [E4, i0]
    have hlt : ∀ m : Int, evE Γ (.cmp .lt (.idx (.nm 0) (.int 0)) (.int m)) E4 = .ok (0, .bl (decide (d0 < m))) := fun m => by simp [E4, i0]
    have ht4 : evE Γ (.idx (.nm 4) (.int 0)) E4 = .ok (0, .int (t 0)) := by simp [E4, ht0]
    have hcc : ∀ m : Int, d0 ≠ m → evE Γ (.cmp .eq (.idx (.nm 0) (.int 0)) (.int m)) E4 = .ok (0, .bl false) := fun m h => by rw [hc, beq_eq_false_iff_ne.mpr h]
    have hct : ∀ m : Int, d0 = m → evE Γ (.cmp .eq (.idx (.nm 0) (.int 0)) (.int m)) E4 = .ok (0, .bl true) := fun m h => by rw [hc, beq_iff_eq.mpr h]
    by_cases h0 : d0 = 0
    · exact ⟨.put b v2 (t 0), st (go_ifR (hct 0 h0) (go_retT (xs := [(0, .str "put"), (0, .int b), (0, .int v2), (0, .int (t 0))]) (by simp [ht4]; simp [E4]) rfl (by decide) (by simp))), hbw, p1, ht 0⟩
    by_cases h1 : d0 = 1
    · exact ⟨.swap b v2 v3 (t 0), st (go_if0 (hcc 0 h0) (go_ifR (hct 1 h1) (go_retT (xs := [(0, .str "swap"), (0, .int b), (0, .int v2), (0, .int v3), (0, .int (t 0))]) (by simp [ht4]; simp [E4]) rfl (by decide) (by simp)))), hbw, p1, p2, ht 0⟩
    by_cases h2 : d0 < 4
    · have hl4 : evE Γ (.cmp .lt (.idx (.nm 0) (.int 0)) (.int 4)) E4 = .ok (0, .bl true) := by rw [hlt, decide_eq_true h2]
      let sp : Nat → Bool := fun j => (d0 == 3) && (d6 / pw j % 2 == 1)
      let ts : List (Option Int) := (List.range (wAt ws b).toNat).map fun j => if sp j = true then none else some (t j)
      have hfu : ∀ k, fuls k (ts.map oD) = true := fun k => fuls_map (fun o => by cases o <;> cases k <;> rfl) _
      let sl : D := .lst ((List.range 6).map fun j => .bl (sp j))
      let E5 : Env := [some (0, dl, []), some (0, wl, []), some (0, .int en, []), some (0, .int nh, []), some (0, tl, []), some (0, .int b, []), some (0, .int v2, []), some (0, .int v3, []), some (0, sl, []), none, none]
      refine ⟨.ask b ts, st (go_if0 (hcc 0 h0) (go_if0 (hcc 1 h1) (go_ifR hl4 ?_))), hbw, ?_, ?_⟩
      · refine go_set0 (env' := E5) (e_lcT (l := List.range 6) (fun i => .int i) (fun j => (0, .bl (sp j))) (xs := [(0, .int 6)]) rfl it_6 (by simp) fun j hj => ⟨_, rfl, ?_⟩) (.inr rfl) rfl ?_
        · have hj : j < 6 := by simpa using hj
          obtain ⟨q1, q2, q3⟩ := pw_i hj
          exact stop_e i0 i6 q1 q2 q3
        · refine go_retT (xs := [(0, .str "ask"), (0, .int b), (8, .tup (ts.map oD))]) ?_ ?_ (by decide) (by simp)
          · have hz : (wAt ws b).toNat ≤ 6 := by omega
            have e := e_lcT (Γ := Γ) (env := E5) (el := .idx (.lst [(.idx (.nm 4) (.nm 10)), .non]) (.blt .int [(.idx (.nm 8) (.nm 10))])) (tg := .nm 10) (ik := .rng) (its := [.idx (.nm 1) (.nm 5)]) (own := [9, 10]) (l := List.range (wAt ws b).toNat) (fun (i : Nat) => .int i) (fun j => (0, oD (if sp j = true then none else some (t j)))) (xs := [(0, .int (wAt ws b))]) (by simp [E5, hix]) (it_r (by omega) (by omega)) (by simp; omega) fun j hj => ⟨_, rfl, by
              have hj : j < (wAt ws b).toNat := by simpa using hj
              refine stopv_e ?_ ?_
              · show (atI ((List.range 8).map fun (j : Nat) => D.int (t j)) (j : Int)).map ent = _
                rw [atI_nat, List.getElem?_map, List.getElem?_range (by omega)]
                rfl
              · show (atI ((List.range 6).map fun (j : Nat) => D.bl (sp j)) (j : Int)).map ent = _
                rw [atI_nat, List.getElem?_map, List.getElem?_range (by omega)]
                rfl⟩
            have hall : ((List.range (wAt ws b).toNat).map fun j => ((0, oD (if sp j = true then none else some (t j))) : Ent)).all fu = true := all_fu (fun j => by cases sp j <;> rfl) _
            rw [hall, if_pos rfl] at e
            have em : ((List.range (wAt ws b).toNat).map fun a => ((0, oD (if sp a = true then none else some (t a))) : Ent).2) = ts.map oD := by
              show _ = ((List.range (wAt ws b).toNat).map fun j => if sp j = true then none else some (t j)).map oD
              rw [List.map_map]
              rfl
            rw [em] at e
            simp [e, fu, ful, hfu]
            simp [E5]
          · simp [mvs, mv1, E5, fu, ful, hfu]
      · simp [ts]
        omega
      · intro x hx
        obtain ⟨j, _, e⟩ := List.mem_map.mp hx
        split at e
        · cases e
        · cases e; exact ht j
    have hl4 : evE Γ (.cmp .lt (.idx (.nm 0) (.int 0)) (.int 4)) E4 = .ok (0, .bl false) := by rw [hlt, decide_eq_false h2]
    by_cases h3 : d0 = 4
    · have q1 := Int.emod_nonneg d2 (b := 4) (by decide)
      have q2 := Int.emod_lt_of_pos d2 (b := 4) (by decide)
      let ts : List Int := ((List.range 8).map fun (j : Nat) => t j).take (1 + d2 % 4).toNat
      have e1 : slcD.cutL ((List.range 8).map fun (j : Nat) => D.int (t j)) none (some (1 + d2 % 4)) = ts.map .int := by
        rw [cut_take (by omega), ← List.map_take]
        show _ = (((List.range 8).map fun (j : Nat) => t j).take (1 + d2 % 4).toNat).map D.int
        rw [← List.map_take, List.map_map]
        rfl
      have hfu : ∀ k, fuls k (ts.map .int) = true := fun k => fuls_map (fun i => by cases k <;> rfl) _
      refine ⟨.any ts, st (go_if0 (hcc 0 h0) (go_if0 (hcc 1 h1) (go_if0 hl4 (go_ifR (hct 4 h3) (go_retT (xs := [(0, .str "any"), (8, .tup (ts.map .int))]) ?_ ?_ (by decide) (by simp)))))), ?_, ?_, ?_⟩
      · simp [E4, i2, mod_i, tl, e1, fu, ful, hfu]
      · simp [mvs, fu, ful, hfu]
      · intro x hx
        obtain ⟨j, _, rfl⟩ := List.mem_map.mp (List.mem_of_mem_take hx)
        exact ht j
      · simp [ts]; omega
      · simp [ts]; omega
    by_cases h5 : d0 = 5
    · exact ⟨.call d7 (t 0), st (go_if0 (hcc 0 h0) (go_if0 (hcc 1 h1) (go_if0 hl4 (go_if0 (hcc 4 h3) (go_ifR (hct 5 h5) (go_retT (xs := [(0, .str "call"), (0, .int d7), (0, .int (t 0))]) (by simp [ht4]; simp [E4, i7]) rfl (by decide) (by simp))))))), by simp [inW]; omega, ht 0⟩
    have hle : evE Γ (.cmp .le (.idx (.nm 1) (.nm 5)) (.nm 3)) E4 = .ok (0, .bl (decide (wAt ws b ≤ nh))) := by simp [E4, hix]
    by_cases h6 : wAt ws b ≤ nh
    · exact ⟨.put b v3 (t 0), st (go_if0 (hcc 0 h0) (go_if0 (hcc 1 h1) (go_if0 hl4 (go_if0 (hcc 4 h3) (go_if0 (hcc 5 h5) (go_ifR (by rw [hle, decide_eq_true h6]) (go_retT (xs := [(0, .str "put"), (0, .int b), (0, .int v3), (0, .int (t 0))]) (by simp [ht4]; simp [E4]) rfl (by decide) (by simp)))))))), hbw, p2, ht 0⟩
    have hlf : evE Γ (.cmp .le (.idx (.nm 1) (.nm 5)) (.nm 3)) E4 = .ok (0, .bl false) := by rw [hle, decide_eq_false h6]
    by_cases h7 : d0 = 6
    · exact ⟨.take b (t 0), st (go_if0 (hcc 0 h0) (go_if0 (hcc 1 h1) (go_if0 hl4 (go_if0 (hcc 4 h3) (go_if0 (hcc 5 h5) (go_if0 hlf (go_retT (xs := [(0, .str "take"), (0, .int b), (0, .int (t 0))]) (by simp [ht4]; simp [E4, i0, h7]) rfl (by decide) (by simp)))))))), hbw, by omega, ht 0⟩
    have h8 : d0 = 7 := by omega
    exact ⟨.give b (t 0), st (go_if0 (hcc 0 h0) (go_if0 (hcc 1 h1) (go_if0 hl4 (go_if0 (hcc 4 h3) (go_if0 (hcc 5 h5) (go_if0 hlf (go_retT (xs := [(0, .str "give"), (0, .int b), (0, .int (t 0))]) (by simp [ht4]; simp [E4, i0, h8]) rfl (by decide) (by simp)))))))), hbw, by omega, ht 0⟩
  obtain ⟨r, h1, h2⟩ := key
  exact ⟨r, runF_rt h1, h2⟩
end
end MP

/-! PLl: the law's plan. -/
namespace MP
open PySem PySem.Spec PyProof.Rows L2
def s__law_plan : List Sm := [
  (.set (.nm 5) (.call "_law_digits" [(.call "_law_cell_at" [(.nm 0), (.int (0))]), (.int (0)), (.lst [(.blt .len [(.nm 4)]), (.nm 1), (.nm 3), (.int (6)), (.int (6)), (.int (6)), (.int (6)), (.int (6)), (.int (6))])])),
  (.set (.nm 6) (.idx (.nm 4) (.idx (.nm 5) (.int (0))))),
  (.set (.nm 8) (.lc (.bin .mod (.idx (.nm 5) (.bin .add (.int (3)) (.nm 7))) (.idx (.nm 6) (.nm 7))) (.nm 7) .rng [(.blt .len [(.nm 6)])] [] [14, 7])),
  (.set (.nm 9) (.bin .add (.int (1)) (.idx (.nm 5) (.int (1))))),
  (.set (.nm 10) (.lc (.bin .mod (.idx (.nm 5) (.bin .add (.int (6)) (.nm 7))) (.nm 9)) (.nm 7) .rng [(.bin .add (.int (1)) (.idx (.nm 5) (.int (2))))] [] [14, 7])),
  (.set (.nm 11) (.lst [])),
  (.for (.nm 7) .rng [(.nm 9)] [(.set (.nm 12) (.call "_law_digits" [(.call "_law_cell_at" [(.nm 0), (.bin .add (.int (1)) (.nm 7))]), (.bin .add (.int (1)) (.nm 7)), (.bin .add (.lst [(.nm 2)]) (.bin .mul (.lst [(.int (8)), (.int (3)), (.int (6)), (.int (6)), (.int (9)), (.int (8)), (.int (64)), (.nm 9)]) (.nm 2)))])), (.set (.nm 13) (.bin .add (.int (1)) (.idx (.nm 12) (.int (0))))), (.mut .append (.nm 11) [(.lc (.call "_law_to_row" [(.slc (.nm 12) (.bin .add (.int (1)) (.bin .mul (.int (8)) (.nm 15))) (.bin .add (.int (9)) (.bin .mul (.int (8)) (.nm 15)))), (.nm 6), (.nm 13), (.blt .len [(.nm 10)])]) (.nm 15) .rng [(.nm 13)] [] [14, 15])])]),
  (.retT [(.nm 6), (.nm 8), (.nm 11), (.nm 10)])]
section
variable {Γ : Gm}
structure Plan where
  ws : List Int
  fs : List Int
  ps : List (List Ri)
  hs : List Int
def Plan.d (p : Plan) : D := .tup [.tup (p.ws.map .int), .lst (p.fs.map .int), .lst (p.ps.map fun l => .lst (l.map Ri.d)), .lst (p.hs.map .int)]
structure Plan.Ok (p : Plan) : Prop where
  wl : 1 ≤ p.ws.length ∧ p.ws.length ≤ 3
  wb : ∀ w ∈ p.ws, 2 ≤ w ∧ w ≤ 6
  wp : prodI p.ws ≤ 8
  fl : p.fs.length = p.ws.length
  fb : ∀ (i : Nat) (f w : Int), p.fs[i]? = some f → p.ws[i]? = some w → 0 ≤ f ∧ f < w
  pl : 1 ≤ p.ps.length ∧ p.ps.length ≤ 6
  pr : ∀ l ∈ p.ps, 1 ≤ l.length ∧ l.length ≤ 8
  rw : ∀ l ∈ p.ps, ∀ r ∈ l, r.ok p.ws p.ps.length p.hs.length l.length
  hl : 1 ≤ p.hs.length ∧ p.hs.length ≤ 3
  hb : ∀ h ∈ p.hs, 0 ≤ h ∧ h < p.ps.length
/-- makes of boxes -/
def MenuOk (m : List (List Int)) : Prop := 1 ≤ m.length ∧ m.length ≤ 1000 ∧ ∀ ws ∈ m, (1 ≤ ws.length ∧ ws.length ≤ 3) ∧ (∀ w ∈ ws, 2 ≤ w ∧ w ≤ 6) ∧ prodI ws ≤ 8
def menuD (m : List (List Int)) : D := .lst (m.map fun ws => .tup (ws.map .int))
def S_plan (c : Fn) : Prop := ∀ (ns : List Int) (mp mr mh : Int) (m : List (List Int)), 1 ≤ mp → mp ≤ 6 → 1 ≤ mr → mr ≤ 8 → 1 ≤ mh → mh ≤ 3 → MenuOk m →
  ∃ p : Plan, c [.scr (ns.map .int), .int mp, .int mr, .int mh, menuD m] = .ok (8, p.d) ∧ p.Ok ∧ p.ps.length ≤ mp.toNat ∧ p.hs.length ≤ mh.toNat ∧ ∀ l ∈ p.ps, l.length ≤ mr.toNat
theorem dig_get {szs ds : List Int} (h : DigOk szs ds) {i : Nat} {s : Int} (hs : szs[i]? = some s) : ∃ d, ds[i]? = some d ∧ 0 ≤ d ∧ d < s := by
  have hi : i < szs.length := (List.getElem?_eq_some_iff.mp hs).1
  have hi2 : i < ds.length := by rw [h.1]; exact hi
  exact ⟨ds[i], List.getElem?_eq_getElem hi2, h.2 i _ s (List.getElem?_eq_getElem hi2) hs⟩
theorem idx_int {ds : List Int} {i : Int} {d : Int} (h0 : 0 ≤ i) (h : ds[i.toNat]? = some d) : idxD (.lst (ds.map .int)) (.int i) = some (0, .int d) := by
  rw [ixl, atI_pos h0, List.getElem?_map, h]
  rfl
theorem idx_intT {ds : List Int} {i : Int} {d : Int} (h0 : 0 ≤ i) (h : ds[i.toNat]? = some d) : idxD (.tup (ds.map .int)) (.int i) = some (0, .int d) := by
  rw [ixt, atI_pos h0, List.getElem?_map, h]
  rfl
/-- the digits of a row, cut out of many -/
theorem DigOk.cut {a szs b ds : List Int} {n : Nat} (h : DigOk (a ++ szs ++ b) ds) (hn : a.length = n) : DigOk szs ((ds.drop n).take szs.length) := by
  obtain ⟨hl, hd⟩ := h
  simp only [List.length_append] at hl
  refine ⟨by simp; omega, fun i d s h1 h2 => ?_⟩
  have hi : i < szs.length := (List.getElem?_eq_some_iff.mp h2).1
  rw [List.getElem?_take_of_lt hi, List.getElem?_drop] at h1
  refine hd (n + i) d s h1 ?_
  rw [List.append_assoc, List.getElem?_append_right (by omega), hn, Nat.add_sub_cancel_left, List.getElem?_append_left hi]
  exact h2
theorem rep_split {l : List Int} {k j : Nat} (h : j < k) : (List.replicate k l).flatten = (List.replicate j l).flatten ++ l ++ (List.replicate (k - j - 1) l).flatten := by
  have : List.replicate k l = List.replicate j l ++ (l :: List.replicate (k - j - 1) l) := by
    rw [show l :: List.replicate (k - j - 1) l = List.replicate (k - j - 1 + 1) l from rfl, List.replicate_append_replicate]
    congr 1
    omega
  rw [this, List.flatten_append, List.flatten_cons, List.append_assoc]
theorem choose_fn {α : Type} [Inhabited α] {n : Nat} {p : Nat → α → Prop} (h : ∀ j, j < n → ∃ a, p j a) : ∃ f : Nat → α, ∀ j, j < n → p j (f j) := by
  classical
  refine ⟨fun j => if hj : j < n then Classical.choose (h j hj) else default, fun j hj => ?_⟩
  dsimp only
  rw [dif_pos hj]
  exact Classical.choose_spec (h j hj)
instance : Inhabited Ri := ⟨.any []⟩
theorem fuls_int {k : Nat} {l : List Int} : fuls k (l.map .int) = true := fuls_map (fun i => by cases k <;> rfl) _
theorem rowc_e {ev : Env} {row : List Int} {wl hd : D} {en nh j : Int} {rd : D} (e0 : ev[12]? = some (some (0, .lst (row.map .int), []))) (e1 : ev[6]? = some (some (0, wl, []))) (e2 : ev[13]? = some (some (0, .int en, []))) (e3 : ev[10]? = some (some (9, hd, []))) (e4 : ev[15]? = some (some (0, .int j, [])))
    (hh : bltD .len [hd] = some (0, .int nh)) (h0 : 0 ≤ j) (h1 : j ≤ 1000) (hc : Γ.call "_law_to_row" [.lst (((row.drop (1 + 8 * j).toNat).take 8).map .int), wl, .int en, .int nh] = .ok (8, rd)) :
    evE Γ (.call "_law_to_row" [(.slc (.nm 12) (.bin .add (.int (1)) (.bin .mul (.int (8)) (.nm 15))) (.bin .add (.int (9)) (.bin .mul (.int (8)) (.nm 15)))), (.nm 6), (.nm 13), (.blt .len [(.nm 10)])]) ev = .ok (8, rd) := by
  have m := mul_i (i := 8) (j := j) (.inl ⟨by decide, by decide⟩)
  have c : slcD.cutL (row.map D.int) (some (1 + 8 * j)) (some (9 + 8 * j)) = ((row.drop (1 + 8 * j).toNat).take 8).map .int := by
    rw [cut_mid (by omega) (by omega), ← List.map_drop, ← List.map_take]
    congr 2
    omega
  simp only [List.map_take, List.map_drop] at hc c
  simp [e0, e1, e2, e3, e4, hh, m, c, hc]
theorem fst_e {ev : Env} {hd wl : D} {j x w : Int} (e0 : ev[5]? = some (some (0, hd, []))) (e1 : ev[6]? = some (some (0, wl, []))) (e2 : ev[7]? = some (some (0, .int j, []))) (z1 : idxD hd (.int (3 + j)) = some (0, .int x)) (z2 : idxD wl (.int j) = some (0, .int w)) (h : 0 < w) :
    evE Γ (.bin .mod (.idx (.nm 5) (.bin .add (.int (3)) (.nm 7))) (.idx (.nm 6) (.nm 7))) ev = .ok (0, .int (x % w)) := by simp [e0, e1, e2, z1, z2, mod_i h]
theorem hnd_e {ev : Env} {hd : D} {j x w : Int} (e0 : ev[5]? = some (some (0, hd, []))) (e1 : ev[9]? = some (some (0, .int w, []))) (e2 : ev[7]? = some (some (0, .int j, []))) (z1 : idxD hd (.int (6 + j)) = some (0, .int x)) (h : 0 < w) :
    evE Γ (.bin .mod (.idx (.nm 5) (.bin .add (.int (6)) (.nm 7))) (.nm 9)) ev = .ok (0, .int (x % w)) := by simp [e0, e1, e2, z1, mod_i h]
theorem rows_ful (k : Nat) (l : List Ri) : ful (k + 1) (.lst (l.map Ri.d)) = true := fuls_map (t := Ri.d) (fun r => r.ful k) l
/-- a turn's digits -/
theorem pdig_e {ev : Env} {ns : List Int} {k mr many : Int} {ds : List Int} (e0 : ev[0]? = some (some (0, .scr (ns.map .int), []))) (e1 : ev[7]? = some (some (0, .int k, []))) (e2 : ev[2]? = some (some (0, .int mr, []))) (e3 : ev[9]? = some (some (0, .int many, []))) (h0 : 0 ≤ mr) (h1 : mr ≤ 8)
    (hc : Γ.call "_law_cell_at" [.scr (ns.map .int), .int (1 + k)] = .ok (0, .int (cellAt ns (1 + k)))) (hd : Γ.call "_law_digits" [.int (cellAt ns (1 + k)), .int (1 + k), .lst (([mr] ++ (List.replicate mr.toNat [8, 3, 6, 6, 9, 8, 64, many]).flatten).map .int)] = .ok (9, .lst (ds.map .int))) :
    evE Γ (.call "_law_digits" [(.call "_law_cell_at" [(.nm 0), (.bin .add (.int (1)) (.nm 7))]), (.bin .add (.int (1)) (.nm 7)), (.bin .add (.lst [(.nm 2)]) (.bin .mul (.lst [(.int (8)), (.int (3)), (.int (6)), (.int (6)), (.int (9)), (.int (8)), (.int (64)), (.nm 9)]) (.nm 2)))]) ev = .ok (9, .lst (ds.map .int)) := by
  have m := mul_l (a := [.int 8, .int 3, .int 6, .int 6, .int 9, .int 8, .int 64, .int many]) (k := mr) h0 (by omega) (by simp)
  have e : D.int mr :: (List.replicate mr.toNat [D.int 8, .int 3, .int 6, .int 6, .int 9, .int 8, .int 64, .int many]).flatten = ([mr] ++ (List.replicate mr.toNat [8, 3, 6, 6, 9, 8, 64, many]).flatten).map .int := by
    simp [List.map_flatten]
  have n := newL_ok (a := D.int mr :: (List.replicate mr.toNat [D.int 8, .int 3, .int 6, .int 6, .int 9, .int 8, .int 64, .int many]).flatten) (by simp; omega)
  have big : evE Γ (.bin .add (.lst [(.nm 2)]) (.bin .mul (.lst [(.int (8)), (.int (3)), (.int (6)), (.int (6)), (.int (9)), (.int (8)), (.int (64)), (.nm 9)]) (.nm 2))) ev = .ok (1, .lst (([mr] ++ (List.replicate mr.toNat [8, 3, 6, 6, 9, 8, 64, many]).flatten).map .int)) := by
    rw [← e]
    simp [e2, e3, m, n]
  have c1 : evE Γ (.call "_law_cell_at" [(.nm 0), (.bin .add (.int (1)) (.nm 7))]) ev = .ok (0, .int (cellAt ns (1 + k))) := by simp [e0, e1, hc]
  have c2 : evE Γ (.bin .add (.int (1)) (.nm 7)) ev = .ok (0, .int (1 + k)) := by simp [e1]
  rw [e_call, l_cons, l_cons, l_cons, l_nil, big, c1, c2]
  exact hd
theorem prow_ok {ws : List Int} {np nh en : Int} {r : Ri} (h : r.ok ws np nh en) : r.ok ws np nh en := h
theorem plan_s (h1 : S_cell (Γ.call "_law_cell_at")) (h2 : S_dig (Γ.call "_law_digits")) (h3 : S_trow (Γ.call "_law_to_row")) : S_plan (runF Γ [11, 6, 8, 10] 11 s__law_plan) := fun ns mp mr mh m p1 p2 r1 r2 q1 q2 hm => by
  obtain ⟨hm1, hm2, hm3⟩ := hm
  -- the head
  obtain ⟨hd, c1, dg⟩ := h2 (cellAt ns 0) 0 [(m.length : Int), mp, mh, 6, 6, 6, 6, 6, 6] (by decide) (by decide) (by simp) (by simp; omega)
  obtain ⟨a0, g0, b0, b0'⟩ := dig_get dg (i := 0) rfl
  obtain ⟨a1, g1, b1, b1'⟩ := dig_get dg (i := 1) rfl
  obtain ⟨a2, g2, b2, b2'⟩ := dig_get dg (i := 2) rfl
  have hal : a0.toNat < m.length := by omega
  obtain ⟨w1, w2, w3⟩ := hm3 _ (List.getElem_mem hal)
  generalize hws : m[a0.toNat] = ws at w1 w2 w3
  have ix4 : idxD (menuD m) (.int a0) = some (0, .tup (ws.map .int)) := by
    show (atI (m.map fun ws => D.tup (ws.map .int)) a0).map ent = _
    rw [atI_pos b0, List.getElem?_map, List.getElem?_eq_getElem hal, hws]
    rfl
  have cl := h1 ns 0 (by decide)
  let many : Int := 1 + a1
  let nh : Int := 1 + a2
  let E0 : Env := [some (0, .scr (ns.map .int), []), some (0, .int mp, []), some (0, .int mr, []), some (0, .int mh, []), some (0, menuD m, []), none, none, none, none, none, none, none, none, none, none, none]
  let wl : D := .tup (ws.map .int)
  let E2 : Env := [some (0, .scr (ns.map .int), []), some (0, .int mp, []), some (0, .int mr, []), some (0, .int mh, []), some (0, menuD m, []), some (0, .lst (hd.map .int), []), some (0, wl, []), none, none, none, none, none, none, none, none, none]
  -- the firsts
  have hfs : ∃ f : Nat → Int, ∀ j, j < ws.length → ∃ x w, hd[3 + j]? = some x ∧ ws[j]? = some w ∧ 0 < w ∧ f j = x % w := by
    refine choose_fn (p := fun j f => ∃ x w, hd[3 + j]? = some x ∧ ws[j]? = some w ∧ 0 < w ∧ f = x % w) fun j hj => ?_
    have hj2 : ([(m.length : Int), mp, mh, 6, 6, 6, 6, 6, 6] : List Int)[3 + j]? = some 6 := by
      have : j = 0 ∨ j = 1 ∨ j = 2 := by omega
      rcases this with rfl | rfl | rfl <;> rfl
    obtain ⟨x, g, _, _⟩ := dig_get dg hj2
    have := w2 ws[j] (List.getElem_mem hj)
    exact ⟨_, x, ws[j], g, List.getElem?_eq_getElem hj, by omega, rfl⟩
  obtain ⟨f, hf⟩ := hfs
  let fs : List Int := (List.range ws.length).map f
  have hhs : ∃ f : Nat → Int, ∀ j, j < nh.toNat → ∃ x, hd[6 + j]? = some x ∧ f j = x % many := by
    refine choose_fn (p := fun j f => ∃ x, hd[6 + j]? = some x ∧ f = x % many) fun j hj => ?_
    have hj3 : j < 3 := by show j < 3; have : nh ≤ 3 := by show 1 + a2 ≤ 3; omega
                           omega
    have hj2 : ([(m.length : Int), mp, mh, 6, 6, 6, 6, 6, 6] : List Int)[6 + j]? = some 6 := by
      have : j = 0 ∨ j = 1 ∨ j = 2 := by omega
      rcases this with rfl | rfl | rfl <;> rfl
    obtain ⟨x, g, _, _⟩ := dig_get dg hj2
    exact ⟨_, x, g, rfl⟩
  obtain ⟨hf2, hh2⟩ := hhs
  let hs : List Int := (List.range nh.toNat).map hf2
  have hsl : hs.length = nh.toNat := by simp [hs]
  let E5 : Env := [some (0, .scr (ns.map .int), []), some (0, .int mp, []), some (0, .int mr, []), some (0, .int mh, []), some (0, menuD m, []), some (0, .lst (hd.map .int), []), some (0, wl, []), none, some (9, .lst (fs.map .int), []), some (0, .int many, []), some (9, .lst (hs.map .int), []), some (9, .lst [], []), none, none, none, none]
  have many1 : 1 ≤ many ∧ many ≤ 6 ∧ many ≤ mp := by show 1 ≤ 1 + a1 ∧ 1 + a1 ≤ 6 ∧ 1 + a1 ≤ mp; omega
  have nh1 : 1 ≤ nh ∧ nh ≤ 3 ∧ nh ≤ mh := by show 1 ≤ 1 + a2 ∧ 1 + a2 ≤ 3 ∧ 1 + a2 ≤ mh; omega
  have st : ∀ {o : Out}, exL Γ [11, 6, 8, 10] [] (s__law_plan.drop 6) E5 = o → exL Γ [11, 6, 8, 10] [] s__law_plan E0 = o := fun {o} k => by
    unfold s__law_plan
    refine go_set0 (x := (9, .lst (hd.map .int))) ?_ (.inl fuls_int) rfl (go_set0 (env' := E2) (x := (0, wl)) ?_ (.inl fuls_int) rfl (go_set0 (x := (9, .lst (fs.map .int))) ?_ (.inl fuls_int) rfl (go_set0 (x := (0, .int many)) ?_ (.inl rfl) rfl (go_set0 (x := (9, .lst (hs.map .int))) ?_ (.inl fuls_int) rfl (go_set0 (env' := E5) (x := (9, .lst [])) ?_ (.inl rfl) rfl k)))))
    · have hl : bltD .len [menuD m] = some (0, .int m.length) := by
        show bltD .len [.lst _] = _
        rw [len_l, List.length_map]
      simp only [List.map_cons, List.map_nil] at c1
      simp [E0, cl, hl, c1]
    · simp [E0, wl, idx_int (i := 0) (by decide) g0, ix4]
    · refine (e_lc9 (l := List.range ws.length) (fun (i : Nat) => .int i) (fun j => (0, .int (f j))) (xs := [(0, .int ws.length)]) ?_ (it_rn (by omega)) (by simp; omega) (fun _ _ => rfl) fun j hj => ⟨_, rfl, ?_⟩).trans ?_
      · simp [E2, wl]
      · obtain ⟨x, w, y1, y2, y3, y4⟩ := hf j (by simpa using hj)
        have z1 : idxD (.lst (hd.map .int)) (.int (3 + (j : Int))) = some (0, .int x) := idx_int (by omega) (by rw [show (3 + (j : Int)).toNat = 3 + j by omega]; exact y1)
        have z2 : idxD wl (.int (j : Int)) = some (0, .int w) := idx_intT (by omega) y2
        rw [y4]
        exact fst_e rfl rfl rfl z1 z2 y3
      · simp [fs]
    · simp [E2, idx_int (i := 1) (by decide) g1, many]
    · refine (e_lc9 (l := List.range nh.toNat) (fun (i : Nat) => .int i) (fun j => (0, .int (hf2 j))) (xs := [(0, .int nh)]) ?_ (it_r (by omega) (by omega)) (by simp; omega) (fun _ _ => rfl) fun j hj => ⟨_, rfl, ?_⟩).trans ?_
      · simp [E2, idx_int (i := 2) (by decide) g2, nh]
      · obtain ⟨x, y1, y4⟩ := hh2 j (by simpa using hj)
        have z1 : idxD (.lst (hd.map .int)) (.int (6 + (j : Int))) = some (0, .int x) := idx_int (by omega) (by rw [show (6 + (j : Int)).toNat = 6 + j by omega]; exact y1)
        rw [y4]
        exact hnd_e rfl rfl rfl z1 (by omega)
      · simp [hs]
    · rfl
  have loop : ∃ ps : List (List Ri), exL Γ [11, 6, 8, 10] [] (s__law_plan.drop 6) E5 = .rt (8, Plan.d ⟨ws, fs, ps, hs⟩) ∧ ps.length = many.toNat ∧ ∀ l ∈ ps, (1 ≤ l.length ∧ l.length ≤ mr.toNat) ∧ ∀ r ∈ l, r.ok ws many nh l.length := by
    show ∃ ps : List (List Ri), exL Γ [11, 6, 8, 10] [] [_, _] E5 = _ ∧ _
    rw [xL_cons, xS_for]
    have hit : (evL Γ [Ex.nm 9] E5 >>= fun xs => Res.of (iterD .rng (xs.map (·.2)))) = .ok ((List.range many.toNat).map fun (i : Nat) => .int i) := by
      have := it_r (n := many) (by omega) (by omega)
      simp [E5, this]
    rw [hit, rD_ok]
    refine loop_DJ (J := fun o => ∃ ps : List (List Ri), o = .rt (8, Plan.d ⟨ws, fs, ps, hs⟩) ∧ ps.length = many.toNat ∧ ∀ l ∈ ps, (1 ≤ l.length ∧ l.length ≤ mr.toNat) ∧ ∀ r ∈ l, r.ok ws many nh l.length)
      (fun done e => ∃ (ps : List (List Ri)) (o7 o12 o13 o14 o15 : Option Slt), ps.length = done.length ∧ (∀ l ∈ ps, (1 ≤ l.length ∧ l.length ≤ mr.toNat) ∧ ∀ r ∈ l, r.ok ws many nh l.length) ∧
        e = [some (0, .scr (ns.map .int), []), some (0, .int mp, []), some (0, .int mr, []), some (0, .int mh, []), some (0, menuD m, []), some (0, .lst (hd.map .int), []), some (0, wl, []), o7, some (9, .lst (fs.map .int), []), some (0, .int many, []), some (9, .lst (hs.map .int), []), some (9, .lst (ps.map fun l => .lst (l.map Ri.d)), []), o12, o13, o14, o15])
      ⟨[], none, none, none, none, none, rfl, (fun _ h => by cases h), rfl⟩ (fun done k rest e hl hI => ?_) fun e hI => ?_
    · obtain ⟨ps, o7, o12, o13, o14, o15, i1, i2, rfl⟩ := hI
      have hk : k < many.toNat := by
        have : k ∈ List.range many.toNat := by rw [hl]; simp
        simpa using this
      have cl1 := h1 ns (1 + (k : Int)) (by omega)
      obtain ⟨ds, d1, d2⟩ := h2 (cellAt ns (1 + (k : Int))) (1 + (k : Int)) ([mr] ++ (List.replicate mr.toNat [8, 3, 6, 6, 9, 8, 64, many]).flatten) (by omega) (by omega) (by simp; omega) (fun s hs => by
        rcases List.mem_append.mp hs with hs | hs
        · rw [List.mem_singleton.mp hs]; omega
        · obtain ⟨l, hl1, hl2⟩ := List.mem_flatten.mp hs
          rw [(List.mem_replicate.mp hl1).2] at hl2
          simp only [List.mem_cons, List.not_mem_nil, or_false] at hl2
          rcases hl2 with rfl | rfl | rfl | rfl | rfl | rfl | rfl | rfl <;> omega)
      obtain ⟨x0, y0, y1, y2⟩ := dig_get d2 (i := 0) (s := mr) rfl
      have hen1 : 1 ≤ 1 + x0 ∧ 1 + x0 ≤ mr := ⟨by omega, by omega⟩
      generalize hen : 1 + x0 = en at hen1
      have hrs : ∃ rs : Nat → Ri, ∀ j, j < en.toNat → Γ.call "_law_to_row" [.lst (((ds.drop (1 + 8 * (j : Int)).toNat).take 8).map .int), wl, .int en, .int nh] = .ok (8, (rs j).d) ∧ (rs j).ok ws many nh en := by
        refine choose_fn (p := fun j (r : Ri) => Γ.call "_law_to_row" [.lst (((ds.drop (1 + 8 * (j : Int)).toNat).take 8).map .int), wl, .int en, .int nh] = .ok (8, r.d) ∧ r.ok ws many nh en) fun j hj => ?_
        have hjm : j < mr.toNat := by omega
        have dj : DigOk [8, 3, 6, 6, 9, 8, 64, many] ((ds.drop (1 + 8 * (j : Int)).toNat).take 8) := by
          rw [rep_split hjm, ← List.append_assoc, ← List.append_assoc] at d2
          refine DigOk.cut d2 ?_
          simp
          omega
        exact h3 _ ws en nh many dj w1.1 w1.2 w2 hen1.1 (by omega)
      obtain ⟨rs, hrs⟩ := hrs
      let row : List Ri := (List.range en.toNat).map rs
      have hrow : row.length = en.toNat := by simp [row]
      refine ⟨[some (0, .scr (ns.map .int), []), some (0, .int mp, []), some (0, .int mr, []), some (0, .int mh, []), some (0, menuD m, []), some (0, .lst (hd.map .int), []), some (0, wl, []), some (0, .int k, []), some (9, .lst (fs.map .int), []), some (0, .int many, []), some (9, .lst (hs.map .int), []), some (9, .lst ((ps ++ [row]).map fun l => .lst (l.map Ri.d)), []), some (0, .lst (ds.map .int), []), some (0, .int en, []), wp1 11 (dr1 13 (dr1 12 (dr1 7 o14))), wp1 11 (dr1 13 (dr1 12 (dr1 7 o15)))], ?_, ps ++ [row], _, _, _, _, _, by simp [i1], fun l hl => ?_, rfl⟩
      · unfold forB
        rw [b_nm]
        refine go_set0 (x := (9, .lst (ds.map .int))) (pdig_e rfl rfl rfl rfl (by omega) (by omega) cl1 d1) (.inl fuls_int) rfl (go_set0 (x := (0, .int en)) ?_ (.inl rfl) rfl ?_)
        · have := idx_int (i := 0) (by decide) y0
          simp [this, hen]
        · rw [xL_cons, xS_app, app_ok (k2 := 8) (ds := ps.map fun l => .lst (l.map Ri.d)) (B := []) (x := (9, .lst (row.map Ri.d)))]
          · simp [ful, brw, fv, fv.fvs]
          · rfl
          · have hlen : bltD .len [.lst (hs.map .int)] = some (0, .int nh) := by
              rw [len_l, List.length_map, hsl, show ((nh.toNat : Nat) : Int) = nh by omega]
            refine (e_lc9 (l := List.range en.toNat) (fun (i : Nat) => .int i) (fun j => (8, (rs j).d)) (xs := [(0, .int en)]) ?_ (it_r (by omega) (by omega)) (by simp; omega) (fun j _ => by simp [fu, Ri.ful]) fun j hj => ⟨_, rfl, ?_⟩).trans ?_
            · simp
            · have hj : j < en.toNat := by simpa using hj
              exact rowc_e rfl rfl rfl rfl rfl hlen (by omega) (by omega) (hrs j hj).1
            · simp [row]
          · have := congrArg List.length hl
            simp at this
            simp
            omega
          · exact rows_ful 8 row
          · exact rows_ful 7 row
          · rfl
          · rfl
      · rcases List.mem_append.mp hl with hl | hl
        · exact i2 l hl
        · rw [List.mem_singleton.mp hl, hrow]
          refine ⟨⟨by omega, by omega⟩, fun r hr => ?_⟩
          obtain ⟨j, hj, rfl⟩ := List.mem_map.mp hr
          have := (hrs j (by simpa using hj)).2
          rw [show ((en.toNat : Nat) : Int) = en by omega]
          exact this
    · obtain ⟨ps, o7, o12, o13, o14, o15, i1, i2, rfl⟩ := hI
      refine ⟨ps, ?_, by rw [i1]; simp, i2⟩
      refine go_retT (xs := [(0, wl), (0, .lst (fs.map .int)), (0, .lst (ps.map fun l => .lst (l.map Ri.d))), (0, .lst (hs.map .int))]) (by simp) ?_ (by decide) (by simp)
      have q : ∀ k, fuls (k + 1) (ps.map fun l => D.lst (l.map Ri.d)) = true := fun k => fuls_map (t := fun l => D.lst (l.map Ri.d)) (rows_ful k) ps
      simp [mvs, mv1, fu, ful, fuls_int, q 7, q 8, wl, q 6]
  obtain ⟨ps, l1, l2, l3⟩ := loop
  refine ⟨⟨ws, fs, ps, hs⟩, runF_rt (st l1), ⟨w1, w2, w3, by simp [fs], fun i x w y1 y2 => ?_, by simp only [l2]; omega, fun l hl => ?_, fun l hl r hr => ?_, by simp only [hsl]; omega, fun x hx => ?_⟩, by simp only [l2]; omega, by simp only [hsl]; omega, fun l hl => (l3 l hl).1.2⟩
  · have hi : i < ws.length := (List.getElem?_eq_some_iff.mp y2).1
    obtain ⟨x', w', z1, z2, z3, z4⟩ := hf i hi
    have : x = f i := by
      have y1 : ((List.range ws.length).map f)[i]? = some x := y1
      rw [List.getElem?_map, List.getElem?_range hi] at y1
      cases y1
      rfl
    rw [y2] at z2
    cases z2
    rw [this, z4]
    exact ⟨Int.emod_nonneg _ (by omega), Int.emod_lt_of_pos _ (by omega)⟩
  · have := (l3 l hl).1
    omega
  · have := (l3 l hl).2 r hr
    simp only [l2, hsl]
    rw [show ((many.toNat : Nat) : Int) = many by omega, show ((nh.toNat : Nat) : Int) = nh by omega]
    exact this
  · obtain ⟨j, hj, rfl⟩ := List.mem_map.mp hx
    obtain ⟨x, _, z⟩ := hh2 j (by simpa using hj)
    rw [z]
    simp only [l2]
    rw [show ((many.toNat : Nat) : Int) = many by omega]
    exact ⟨Int.emod_nonneg _ (by omega), Int.emod_lt_of_pos _ (by omega)⟩
end
end MP

/-! PLm: the law's program. -/
namespace MP
open PySem PySem.Spec PyProof.Rows L2
def s__law_program : List Sm := [
  (.set (.tup [(.nm 2), (.nm 3), (.nm 4), (.nm 5)]) (.nm 0)),
  (.set (.nm 7) (.lc (.tup [(.call "_law_name" [(.bin .mod (.nm 1) (.int (208))), (.nm 6)]), (.idx (.nm 2) (.nm 6)), (.idx (.nm 3) (.nm 6))]) (.nm 6) .rng [(.blt .len [(.nm 2)])] [] [13, 6])),
  (.set (.nm 8) (.lc (.call "_law_name" [(.bin .mod (.bin .fdiv (.nm 1) (.int (208))) (.int (208))), (.nm 6)]) (.nm 6) .rng [(.blt .len [(.nm 4)])] [] [13, 6])),
  (.set (.nm 9) (.lst [])),
  (.for (.tup [(.nm 6), (.nm 10)]) .enum [(.nm 4)] [(.set (.nm 11) (.lst [])), (.for (.nm 12) .seq [(.nm 10)] [(.ife (.cmp .eq (.idx (.nm 12) (.int (0))) (.str "call")) [(.set (.nm 12) (.tup [(.str "call"), (.idx (.nm 8) (.idx (.nm 12) (.int (1)))), (.idx (.nm 12) (.int (2)))]))] [(.ife (.cmp .ne (.idx (.nm 12) (.int (0))) (.str "any")) [(.set (.nm 12) (.bin .add (.tup [(.idx (.nm 12) (.int (0))), (.idx (.idx (.nm 7) (.idx (.nm 12) (.int (1)))) (.int (0)))]) (.slc (.nm 12) (.int (2)) .nop)))] [])]), (.mut .append (.nm 11) [(.nm 12)])]), (.mut .append (.nm 9) [(.tup [(.idx (.nm 8) (.nm 6)), (.nm 11)])])]),
  (.retT [(.nm 7), (.nm 9), (.lc (.tup [(.call "_law_name" [(.bin .mod (.bin .fdiv (.nm 1) (.int (43264))) (.int (208))), (.nm 6)]), (.idx (.nm 8) (.nm 10))]) (.tup [(.nm 6), (.nm 10)]) .enum [(.nm 5)] [] [13, 6, 10])])]
section
variable {Γ : Gm}
def Ri.nm (bn pn : Int → Str) : Ri → Rw
  | .put b w t => .put (bn b) w t
  | .swap b o n t => .swap (bn b) o n t
  | .ask b ts => .ask (bn b) ts
  | .any ts => .any ts
  | .call p t => .call (pn p) t
  | .take b t => .take (bn b) t
  | .give b t => .give (bn b) t
def bnm (n k : Int) : Str := lname (n % 208) k
def pnm (n k : Int) : Str := lname (n / 208 % 208) k
def hnm (n k : Int) : Str := lname (n / 43264 % 208) k
def planP (p : Plan) (n : Int) : Pg := ⟨(List.range p.ws.length).map fun (k : Nat) => (bnm n k, wAt p.ws k, wAt p.fs k), p.ps.zipIdx.map fun q => (pnm n q.2, q.1.map (Ri.nm (bnm n) (pnm n))), p.hs.zipIdx.map fun q => (hnm n q.2, pnm n q.1)⟩
def S_prog (c : Fn) : Prop := ∀ (p : Plan) (n : Int), p.Ok → 0 ≤ n → c [p.d, .int n] = .ok (0, (planP p n).d)
theorem xL_nil' {M L : List Nat} {o : Out} : andThen o (exL Γ M L []) = o := by cases o <;> rfl
/-- a row's turn -/
theorem rown_e {ev : Env} {n : Int} {ws : List Int} {np nh en : Int} {r : Ri} {M : List Nat} {ss : List Sm} {o : Out} {bx tl : D} (hM : M.contains 12 = false) (hr : r.ok ws np nh en) (e0 : ev[12]? = some (some (0, r.d, []))) (e1 : ev[8]? = some (some (0, tl, []))) (e2 : ∃ k, ev[7]? = some (some (k, bx, [])))
    (hb : ∀ b : Int, inW b 0 ws.length = true → ∃ x, idxD bx (.int b) = some (0, x) ∧ idxD x (.int 0) = some (0, .str (bnm n b))) (ht : ∀ b : Int, inW b 0 np = true → idxD tl (.int b) = some (0, .str (pnm n b)))
    (k : exL Γ M [] ss ((dropB 12 ev).set 12 (some (0, (r.nm (bnm n) (pnm n)).d, []))) = o) (kn : exL Γ M [] ss (ev.set 12 (some (0, (r.nm (bnm n) (pnm n)).d, []))) = o) :
    exL Γ M [] ((.ife (.cmp .eq (.idx (.nm 12) (.int (0))) (.str "call")) [(.set (.nm 12) (.tup [(.str "call"), (.idx (.nm 8) (.idx (.nm 12) (.int (1)))), (.idx (.nm 12) (.int (2)))]))] [(.ife (.cmp .ne (.idx (.nm 12) (.int (0))) (.str "any")) [(.set (.nm 12) (.bin .add (.tup [(.idx (.nm 12) (.int (0))), (.idx (.idx (.nm 7) (.idx (.nm 12) (.int (1)))) (.int (0)))]) (.slc (.nm 12) (.int (2)) .nop)))] [])]) :: ss) ev = o := by
  obtain ⟨k7, e2⟩ := e2
  have es : ev.set 12 (some (0, r.d, [])) = ev := by
    apply List.ext_getElem?
    intro i
    by_cases h : 12 = i
    · subst h
      rw [List.getElem?_set_self (List.getElem?_eq_some_iff.mp e0).1, e0]
    · rw [List.getElem?_set_ne h]
  have fin : ∀ (x : Ent) (e : Ex), evE Γ e ev = .ok x → x.2 = (r.nm (bnm n) (pnm n)).d → ful x.1 x.2 = true → andThen (exL Γ M [] [(.set (.nm 12) e)] ev) (exL Γ M [] ss) = o := fun x e he hx hf => by
    rw [go_set0 (x := x) (o := .nx ((dropB 12 ev).set 12 (some (0, (r.nm (bnm n) (pnm n)).d, [])))) he (.inl hf) rfl]
    · exact k
    · rw [xL_nil, hM, hx]; rfl
  cases r with
  | any ts =>
    refine go_ifF (k := 0) (by simp [e0, Ri.d, cmp_eq eqw_any_call]) ?_
    rw [go_if0 (k := 0) (o := .nx ev) (by simp [e0, Ri.d, cmp_ne eqw_any_any]) xL_nil]
    have kn := kn
    rw [show ev.set 12 (some (0, (Ri.nm (bnm n) (pnm n) (.any ts)).d, [])) = ev from es] at kn
    exact kn
  | call p t =>
    refine go_ifT (k := 0) (by simp [e0, Ri.d, cmp_eq eqw_call_call]) ?_
    have := ht p hr.1
    refine fin (8, (Rw.call (pnm n p) t).d) _ ?_ rfl (Rw.ful (Rw.call (pnm n p) t) 8)
    simp [e0, e1, Ri.d, Rw.d, this, fu, ful]
  | put b w t =>
    obtain ⟨x, hx1, hx2⟩ := hb b hr.1
    refine go_ifF (k := 0) (by simp [e0, Ri.d, cmp_eq eqw_put_call]) ?_
    rw [go_ifT (k := 0) (o := .nx ((dropB 12 ev).set 12 (some (0, (Ri.nm (bnm n) (pnm n) (.put b w t)).d, [])))) (by simp [e0, Ri.d, cmp_ne eqw_put_any])]
    · exact k
    · rw [xL_nil']
      refine go_set0 (x := (0, (Ri.nm (bnm n) (pnm n) (.put b w t)).d)) ?_ (.inl (Rw.ful (Ri.nm (bnm n) (pnm n) (.put b w t)) 0)) (by rw [hM]; rfl) rfl
      simp [e0, e2, Ri.d, Ri.nm, Rw.d, hx1, hx2, cut_drop, newT_ok]
  | swap b o n' t =>
    obtain ⟨x, hx1, hx2⟩ := hb b hr.1
    refine go_ifF (k := 0) (by simp [e0, Ri.d, cmp_eq eqw_swap_call]) ?_
    rw [go_ifT (k := 0) (o := .nx ((dropB 12 ev).set 12 (some (0, (Ri.nm (bnm n) (pnm n) (.swap b o n' t)).d, [])))) (by simp [e0, Ri.d, cmp_ne eqw_swap_any])]
    · exact k
    · rw [xL_nil']
      refine go_set0 (x := (0, (Ri.nm (bnm n) (pnm n) (.swap b o n' t)).d)) ?_ (.inl (Rw.ful (Ri.nm (bnm n) (pnm n) (.swap b o n' t)) 0)) (by rw [hM]; rfl) rfl
      simp [e0, e2, Ri.d, Ri.nm, Rw.d, hx1, hx2, cut_drop, newT_ok]
  | ask b ts =>
    obtain ⟨x, hx1, hx2⟩ := hb b hr.1
    refine go_ifF (k := 0) (by simp [e0, Ri.d, cmp_eq eqw_ask_call]) ?_
    rw [go_ifT (k := 0) (o := .nx ((dropB 12 ev).set 12 (some (0, (Ri.nm (bnm n) (pnm n) (.ask b ts)).d, [])))) (by simp [e0, Ri.d, cmp_ne eqw_ask_any])]
    · exact k
    · rw [xL_nil']
      refine go_set0 (x := (0, (Ri.nm (bnm n) (pnm n) (.ask b ts)).d)) ?_ (.inl (Rw.ful (Ri.nm (bnm n) (pnm n) (.ask b ts)) 0)) (by rw [hM]; rfl) rfl
      simp [e0, e2, Ri.d, Ri.nm, Rw.d, hx1, hx2, cut_drop, newT_ok]
  | take b t =>
    obtain ⟨x, hx1, hx2⟩ := hb b hr.1
    refine go_ifF (k := 0) (by simp [e0, Ri.d, cmp_eq eqw_take_call]) ?_
    rw [go_ifT (k := 0) (o := .nx ((dropB 12 ev).set 12 (some (0, (Ri.nm (bnm n) (pnm n) (.take b t)).d, [])))) (by simp [e0, Ri.d, cmp_ne eqw_take_any])]
    · exact k
    · rw [xL_nil']
      refine go_set0 (x := (0, (Ri.nm (bnm n) (pnm n) (.take b t)).d)) ?_ (.inl (Rw.ful (Ri.nm (bnm n) (pnm n) (.take b t)) 0)) (by rw [hM]; rfl) rfl
      simp [e0, e2, Ri.d, Ri.nm, Rw.d, hx1, hx2, cut_drop, newT_ok]
  | give b t =>
    obtain ⟨x, hx1, hx2⟩ := hb b hr.1
    refine go_ifF (k := 0) (by simp [e0, Ri.d, cmp_eq eqw_give_call]) ?_
    rw [go_ifT (k := 0) (o := .nx ((dropB 12 ev).set 12 (some (0, (Ri.nm (bnm n) (pnm n) (.give b t)).d, [])))) (by simp [e0, Ri.d, cmp_ne eqw_give_any])]
    · exact k
    · rw [xL_nil']
      refine go_set0 (x := (0, (Ri.nm (bnm n) (pnm n) (.give b t)).d)) ?_ (.inl (Rw.ful (Ri.nm (bnm n) (pnm n) (.give b t)) 0)) (by rw [hM]; rfl) rfl
      simp [e0, e2, Ri.d, Ri.nm, Rw.d, hx1, hx2, cut_drop, newT_ok]
theorem rws_ful (k : Nat) (l : List Rw) : ful (k + 1) (.lst (l.map Rw.d)) = true := fuls_map (t := Rw.d) (fun r => r.ful k) l
theorem pcf0 (p : Pc) : ful 0 (pcD p) = false := by
  show fuls 0 [.str p.1, .lst (p.2.map Rw.d)] = false
  simp [fuls, ful]
theorem pcs_ful {l : List Pc} (h : l ≠ []) : fuls 0 (l.map pcD) = false := by
  cases l with
  | nil => exact absurd rfl h
  | cons p l => rw [List.map_cons, fuls, pcf0]; rfl
theorem box_e (h1 : S_nm (Γ.call "_law_name")) {ev : Env} {n j w f : Int} {ws fs : D} (e0 : ev[1]? = some (some (0, .int n, []))) (e1 : ev[6]? = some (some (0, .int j, []))) (e2 : ev[2]? = some (some (0, ws, []))) (e3 : ev[3]? = some (some (0, fs, []))) (hn : 0 ≤ n) (hj : 0 ≤ j) (hj2 : j < 1000)
    (w1 : idxD ws (.int j) = some (0, .int w)) (f1 : idxD fs (.int j) = some (0, .int f)) :
    evE Γ (.tup [(.call "_law_name" [(.bin .mod (.nm 1) (.int (208))), (.nm 6)]), (.idx (.nm 2) (.nm 6)), (.idx (.nm 3) (.nm 6))]) ev = .ok (8, bxD (bnm n j, w, f)) := by
  have c := h1 (n % 208) j (Int.emod_nonneg _ (by decide)) hj hj2
  simp [e0, e1, e2, e3, w1, f1, mod_i, c, fu, ful]
  rfl
theorem title_e (h1 : S_nm (Γ.call "_law_name")) {ev : Env} {n j : Int} (e0 : ev[1]? = some (some (0, .int n, []))) (e1 : ev[6]? = some (some (0, .int j, []))) (hn : 0 ≤ n) (hj : 0 ≤ j) (hj2 : j < 1000) :
    evE Γ (.call "_law_name" [(.bin .mod (.bin .fdiv (.nm 1) (.int (208))) (.int (208))), (.nm 6)]) ev = .ok (0, .str (pnm n j)) := by
  have c := h1 (n / 208 % 208) j (Int.emod_nonneg _ (by decide)) hj hj2
  simp [e0, e1, mod_i, fdiv_i', c]
  rfl
theorem hand_e (h1 : S_nm (Γ.call "_law_name")) {ev : Env} {n j h : Int} {tl : D} (e0 : ev[1]? = some (some (0, .int n, []))) (e1 : ev[6]? = some (some (0, .int j, []))) (e2 : ev[8]? = some (some (0, tl, []))) (e3 : ev[10]? = some (some (0, .int h, []))) (hn : 0 ≤ n) (hj : 0 ≤ j) (hj2 : j < 1000) (ht : idxD tl (.int h) = some (0, .str (pnm n h))) :
    evE Γ (.tup [(.call "_law_name" [(.bin .mod (.bin .fdiv (.nm 1) (.int (43264))) (.int (208))), (.nm 6)]), (.idx (.nm 8) (.nm 10))]) ev = .ok (8, hdD (hnm n j, pnm n h)) := by
  have c := h1 (n / 43264 % 208) j (Int.emod_nonneg _ (by decide)) hj hj2
  simp [e0, e1, e2, e3, mod_i, fdiv_i', c, ht, fu, ful]
  rfl
theorem prog_s (h1 : S_nm (Γ.call "_law_name")) : S_prog (runF Γ [11, 9, 7] 12 s__law_program) := fun p n hp hn => by
  have lw := hp.wl
  have lp := hp.pl
  have lh := hp.hl
  refine runF_rt ?_
  let bs : List Bx := (List.range p.ws.length).map fun (k : Nat) => (bnm n k, wAt p.ws k, wAt p.fs k)
  let ts : List Str := (List.range p.ps.length).map fun (k : Nat) => pnm n k
  let Rp : List Ri × Nat → Pc := fun q => (pnm n q.2, q.1.map (Ri.nm (bnm n) (pnm n)))
  let E1 : Env := [some (0, p.d, []), some (0, .int n, []), some (0, .tup (p.ws.map .int), []), some (0, .lst (p.fs.map .int), []), some (0, .lst (p.ps.map fun l => .lst (l.map Ri.d)), []), some (0, .lst (p.hs.map .int), []), none, none, none, none, none, none, none, none]
  let E4 : Env := [some (0, p.d, []), some (0, .int n, []), some (0, .tup (p.ws.map .int), []), some (0, .lst (p.fs.map .int), []), some (0, .lst (p.ps.map fun l => .lst (l.map Ri.d)), []), some (0, .lst (p.hs.map .int), []), none, some (9, .lst (bs.map bxD), []), some (0, .lst (ts.map .str), []), some (9, .lst [], []), none, none, none, none]
  have hbx : ∀ b : Int, inW b 0 p.ws.length = true → ∃ x, idxD (.lst (bs.map bxD)) (.int b) = some (0, x) ∧ idxD x (.int 0) = some (0, .str (bnm n b)) := fun b hb => by
    simp [inW] at hb
    refine ⟨bxD (bnm n b, wAt p.ws b, wAt p.fs b), ?_, rfl⟩
    show (atI (bs.map bxD) b).map ent = _
    rw [atI_pos hb.1, List.getElem?_map]
    show Option.map ent (Option.map bxD (((List.range p.ws.length).map fun (k : Nat) => ((bnm n k, wAt p.ws k, wAt p.fs k) : Bx))[b.toNat]?)) = _
    rw [List.getElem?_map, List.getElem?_range (by omega)]
    simp only [Option.map_some]
    rw [show ((b.toNat : Nat) : Int) = b by omega]
    rfl
  have htx : ∀ b : Int, inW b 0 p.ps.length = true → idxD (.lst (ts.map .str)) (.int b) = some (0, .str (pnm n b)) := fun b hb => by
    simp [inW] at hb
    show (atI (ts.map .str) b).map ent = _
    rw [atI_pos hb.1, List.getElem?_map]
    show Option.map ent (Option.map D.str (((List.range p.ps.length).map fun (k : Nat) => pnm n k)[b.toNat]?)) = _
    rw [List.getElem?_map, List.getElem?_range (by omega)]
    simp only [Option.map_some]
    rw [show ((b.toNat : Nat) : Int) = b by omega]
    rfl
  refine go_setT (x := (0, p.d)) (env' := E1) (by simp) (by simp [Plan.d, brw, fv, E1]) ?_
  refine go_set0 (x := (9, .lst (bs.map bxD))) ?_ (.inl (fuls_map (t := bxD) (fun b => bxf) bs)) rfl (go_set0 (x := (9, .lst (ts.map .str))) ?_ (.inl (fuls_map (t := .str) (fun _ => rfl) ts)) rfl (go_set0 (env' := E4) (x := (9, .lst [])) (by rfl) (.inl rfl) rfl ?_))
  · refine (e_lc9 (l := List.range p.ws.length) (fun (i : Nat) => .int i) (fun k => (8, bxD (bnm n k, wAt p.ws k, wAt p.fs k))) (xs := [(0, .int p.ws.length)]) (by simp [E1]) (it_rn (by omega)) (by simp; omega) (fun _ _ => by simp [fu]) fun k hk => ⟨_, rfl, ?_⟩).trans (by simp [bs])
    have hk : k < p.ws.length := by simpa using hk
    have hk2 : k < p.fs.length := by rw [hp.fl]; exact hk
    have z1 : p.ws[k]? = some (wAt p.ws k) := by unfold wAt; rw [Int.toNat_natCast, List.getElem?_eq_getElem hk]; rfl
    have z2 : p.fs[k]? = some (wAt p.fs k) := by unfold wAt; rw [Int.toNat_natCast, List.getElem?_eq_getElem hk2]; rfl
    exact box_e h1 rfl rfl rfl rfl hn (by omega) (by omega) (idx_intT (by omega) (by rw [Int.toNat_natCast]; exact z1)) (idx_int (by omega) (by rw [Int.toNat_natCast]; exact z2))
  · refine (e_lc9 (l := List.range p.ps.length) (fun (i : Nat) => .int i) (fun k => (0, .str (pnm n k))) (xs := [(0, .int p.ps.length)]) (by simp [E1]) (it_rn (by omega)) (by simp; omega) (fun _ _ => rfl) fun k hk => ⟨_, rfl, ?_⟩).trans (by simp [ts])
    have hk : k < p.ps.length := by simpa using hk
    exact title_e h1 rfl rfl hn (by omega) (by omega)
  rw [xL_cons, xS_for]
  have hit : (evL Γ [Ex.nm 4] E4 >>= fun xs => Res.of (iterD .enum (xs.map (·.2)))) = .ok ((p.ps.map fun l => D.lst (l.map Ri.d)).zipIdx.map fun p => .tup [.int p.2, p.1]) := rfl
  rw [hit, rD_ok]
  refine loop_E (fun done e => ∃ (k9 : Nat) (B9 : List Nat) (o6 o10 o11 o12 : Option Slt), (B9 = [] ∨ B9 = [11]) ∧ (done ≠ [] → k9 = 0) ∧
      e = [some (0, p.d, []), some (0, .int n, []), some (0, .tup (p.ws.map .int), []), some (0, .lst (p.fs.map .int), []), some (0, .lst (p.ps.map fun l => .lst (l.map Ri.d)), []), some (0, .lst (p.hs.map .int), []), o6, some (9, .lst (bs.map bxD), []), some (0, .lst (ts.map .str), []), some (k9 + 1, .lst ((done.zipIdx.map Rp).map pcD), B9), o10, o11, o12, none])
    ⟨8, [], none, none, none, none, .inl rfl, (fun h => absurd rfl h), rfl⟩ (fun done l rest e hl hI => ?_) fun e hI => ?_
  · obtain ⟨k9, B9, o6, o10, o11, o12, hB, hk, rfl⟩ := hI
    have hlp : l ∈ p.ps := by rw [hl]; simp
    have hll := hp.pr l hlp
    have hdl : done.length < p.ps.length := by
      have := congrArg List.length hl
      simp at this
      omega
    let N := Ri.nm (bnm n) (pnm n)
    let X : D := .lst ((done.zipIdx.map Rp).map pcD)
    let F : List D → Option Slt → Env := fun acc o12 => [some (0, p.d, []), some (0, .int n, []), some (0, .tup (p.ws.map .int), []), some (0, .lst (p.fs.map .int), []), some (0, .lst (p.ps.map fun l => .lst (l.map Ri.d)), []), some (0, .lst (p.hs.map .int), []), some (0, .int done.length, []), some (9, .lst (bs.map bxD), []), some (0, .lst (ts.map .str), []), some (k9 + 1, X, []), some (0, .lst (l.map Ri.d), []), some (9, .lst acc, []), o12, none]
    have inner : ∀ q12, ∃ e', exL Γ [11, 9, 7] [] [(.for (.nm 12) .seq [(.nm 10)] [(.ife (.cmp .eq (.idx (.nm 12) (.int (0))) (.str "call")) [(.set (.nm 12) (.tup [(.str "call"), (.idx (.nm 8) (.idx (.nm 12) (.int (1)))), (.idx (.nm 12) (.int (2)))]))] [(.ife (.cmp .ne (.idx (.nm 12) (.int (0))) (.str "any")) [(.set (.nm 12) (.bin .add (.tup [(.idx (.nm 12) (.int (0))), (.idx (.idx (.nm 7) (.idx (.nm 12) (.int (1)))) (.int (0)))]) (.slc (.nm 12) (.int (2)) .nop)))] [])]), (.mut .append (.nm 11) [(.nm 12)])]), (.mut .append (.nm 9) [(.tup [(.idx (.nm 8) (.nm 6)), (.nm 11)])])] (F [] q12) = .nx e' ∧
        ∃ (k9 : Nat) (B9 : List Nat) (o6 o10 o11 o12 : Option Slt), (B9 = [] ∨ B9 = [11]) ∧ (done ++ [l] ≠ [] → k9 = 0) ∧
          e' = [some (0, p.d, []), some (0, .int n, []), some (0, .tup (p.ws.map .int), []), some (0, .lst (p.fs.map .int), []), some (0, .lst (p.ps.map fun l => .lst (l.map Ri.d)), []), some (0, .lst (p.hs.map .int), []), o6, some (9, .lst (bs.map bxD), []), some (0, .lst (ts.map .str), []), some (k9 + 1, .lst (((done ++ [l]).zipIdx.map Rp).map pcD), B9), o10, o11, o12, none] := fun q12 => by
      rw [xL_cons, xS_for]
      have hit : (evL Γ [Ex.nm 10] (F [] q12) >>= fun xs => Res.of (iterD .seq (xs.map (·.2)))) = .ok (l.map Ri.d) := rfl
      rw [hit, rD_ok]
      refine loop_Dq (fun dn e => ∃ o12, e = F ((dn.map N).map Rw.d) o12) ⟨_, rfl⟩ (fun dn r rs e hr hI => ?_) fun e hI => ?_
      · obtain ⟨o12, rfl⟩ := hI
        have hrl : r ∈ l := by rw [hr]; simp
        have hrok := hp.rw l hlp r hrl
        refine ⟨F (((dn ++ [r]).map N).map Rw.d) (some (0, (N r).d, [])), ?_, _, rfl⟩
        have ap : exL Γ [11, 9, 7] [] [(.mut .append (.nm 11) [(.nm 12)])] (F ((dn.map N).map Rw.d) (some (0, (N r).d, []))) = .nx (F (((dn ++ [r]).map N).map Rw.d) (some (0, (N r).d, []))) := by
          rw [xL_cons, xS_app, app_ok (k2 := 8) (ds := (dn.map N).map Rw.d) (B := []) (x := (0, (N r).d))]
          · rw [an_nx, xL_nil]
            simp [F, X]
          · rfl
          · rfl
          · have := congrArg List.length hr
            simp at this
            simp
            omega
          · exact Rw.ful _ 0
          · exact Rw.ful _ 8
          · rfl
          · rfl
        show forB Γ [11, 9, 7] [] [] (.nm 12) _ r.d _ = _
        unfold forB
        have hset : (if ful 0 r.d = true then ([] : List Nat) else List.filter (fun j => j != 12) []) = [] := by split <;> rfl
        rw [b_nm]
        simp only [hset]
        exact rown_e (r := r) (ws := p.ws) (np := p.ps.length) (nh := p.hs.length) (en := l.length) rfl hrok rfl rfl ⟨_, rfl⟩ hbx htx ap ap
      · obtain ⟨o12, rfl⟩ := hI
        let G : Env := [some (0, p.d, []), some (0, .int n, []), some (0, .tup (p.ws.map .int), []), some (0, .lst (p.fs.map .int), []), some (0, .lst (p.ps.map fun l => .lst (l.map Ri.d)), []), some (0, .lst (p.hs.map .int), []), some (0, .int done.length, []), some (9, .lst (bs.map bxD), []), some (0, .lst (ts.map .str), []), some (1, X, []), some (0, .lst (l.map Ri.d), []), some (9, .lst ((l.map N).map Rw.d), []), o12, none]
        have ht := htx done.length (by simp [inW]; omega)
        have hpc : D.tup [.str (pnm n done.length), .lst ((l.map N).map Rw.d)] = pcD (Rp (l, done.length)) := rfl
        have hx : ∀ e : Env, e[8]? = some (some (0, .lst (ts.map .str), [])) → e[6]? = some (some (0, .int done.length, [])) → e[11]? = some (some (9, .lst ((l.map N).map Rw.d), [])) → evE Γ (.tup [(.idx (.nm 8) (.nm 6)), (.nm 11)]) e = .ok (0, pcD (Rp (l, done.length))) := fun e e1 e2 e3 => by
          rw [← hpc]
          simp only [e_tup, l_cons, l_nil, e_idx, e_nm, e1, e2, e3, res_ok_bind, ht, of_some, tupO_2]
          rfl
        refine ⟨_, ?_, 0, [11], some (0, .int done.length, []), some (0, .lst (l.map Ri.d), []), some (9, .lst ((l.map N).map Rw.d), []), wp1 9 o12, .inr rfl, fun _ => rfl, rfl⟩
        rw [xL_cons, xS_app, app_br (k2 := k9) (ds := (done.zipIdx.map Rp).map pcD) (B := []) (x := (0, pcD (Rp (l, done.length)))) (env2 := G)]
        · rw [an_nx, xL_nil]
          have hz : ((done ++ [l]).zipIdx.map Rp).map pcD = (done.zipIdx.map Rp).map pcD ++ [pcD (Rp (l, done.length))] := by
            rw [List.zipIdx_append, List.map_append, List.map_append]
            simp
          rw [hz]
          rfl
        · rfl
        · exact hx _ rfl rfl rfl
        · simp
          omega
        · exact pcf0 _
        · rfl
        · show G = (F ((l.map N).map Rw.d) o12).set 9 (some (k9 + 1 - k9, X, []))
          rw [Nat.add_sub_cancel_left]
          rfl
        · exact hx _ rfl rfl rfl
        · rfl
    obtain ⟨e', q1, q2⟩ := inner (dr1 11 (dr1 10 (dr1 6 o12)))
    refine ⟨e', ?_, q2⟩
    show forB Γ [11, 9, 7] [] [] _ _ _ _ = _
    unfold forB
    rcases hB with rfl | rfl
    · refine go_set0 (x := (9, .lst [])) (by rfl) (.inl rfl) ?_ q1
      rfl
    · refine go_set0 (x := (9, .lst [])) (by rfl) (.inl rfl) ?_ q1
      rfl
  · obtain ⟨k9, B9, o6, o10, o11, o12, hB, hk, rfl⟩ := hI
    have hne : p.ps ≠ [] := fun z => by rw [z] at lp; simp at lp
    obtain rfl := hk hne
    have hl9 : fuls 0 ((p.ps.zipIdx.map Rp).map pcD) = false := pcs_ful fun z => hne (by simpa using z)
    refine (go_retT0 (xs := [(0, .lst (bs.map bxD)), (0, .lst ((p.ps.zipIdx.map Rp).map pcD)), (9, .lst ((p.hs.zipIdx.map fun q => ((hnm n q.2, pnm n q.1) : Hd)).map hdD))]) ?_ ?_ ?_ (by simp)).trans ?_
    · have e : evE Γ (.lc (.tup [(.call "_law_name" [(.bin .mod (.bin .fdiv (.nm 1) (.int (43264))) (.int (208))), (.nm 6)]), (.idx (.nm 8) (.nm 10))]) (.tup [(.nm 6), (.nm 10)]) .enum [(.nm 5)] [] [13, 6, 10])
          [some (0, p.d, []), some (0, .int n, []), some (0, .tup (p.ws.map .int), []), some (0, .lst (p.fs.map .int), []), some (0, .lst (p.ps.map fun l => .lst (l.map Ri.d)), []), some (0, .lst (p.hs.map .int), []), o6, some (9, .lst (bs.map bxD), []), some (0, .lst (ts.map .str), []), some (0 + 1, .lst ((p.ps.zipIdx.map Rp).map pcD), B9), o10, o11, o12, none] = .ok (9, .lst ((p.hs.zipIdx.map fun q => ((hnm n q.2, pnm n q.1) : Hd)).map hdD)) := by
        refine (e_lc9 (l := p.hs.zipIdx) (fun q => .tup [.int q.2, .int q.1]) (fun q => (8, hdD (hnm n q.2, pnm n q.1))) (xs := [(0, .lst (p.hs.map .int))]) rfl (by
            show some (((p.hs.map D.int).zipIdx).map fun p => D.tup [.int p.2, p.1]) = _
            rw [List.zipIdx_map, List.map_map]
            rfl) (by simp; omega) (fun _ _ => by simp [fu]) fun q' hq => ⟨_, rfl, ?_⟩).trans (by simp [Function.comp_def])
        obtain ⟨x, i⟩ := q'
        have hx := List.mem_zipIdx hq
        have hxm : x ∈ p.hs := by rw [hx.2.2]; exact List.getElem_mem _
        have hb := hp.hb x hxm
        exact hand_e h1 rfl rfl rfl rfl hn (by omega) (by
                have := hx.2.1
                simp only at this ⊢
                omega) (htx x (by simp [inW]; omega))
      rw [l_cons, l_cons, l_cons, l_nil, e]
      simp
    · simp [-List.map_map, mvs, mv1, fu, ful, hl9]
    · simp [fu, ful]
    · rfl
end
end MP

/-! PLn: the law's program is one. -/
namespace MP
open PySem PySem.Spec PyProof.Rows L2
section
theorem nodup_map {α β : Type} {f : α → β} : ∀ {l : List α}, l.Nodup → (∀ a ∈ l, ∀ b ∈ l, f a = f b → a = b) → (l.map f).Nodup
  | [], _, _ => List.nodup_nil
  | a :: l, h, hi => by
    rw [List.nodup_cons] at h
    rw [List.map_cons, List.nodup_cons]
    refine ⟨fun hm => ?_, nodup_map h.2 fun x hx y hy => hi x (List.mem_cons_of_mem _ hx) y (List.mem_cons_of_mem _ hy)⟩
    obtain ⟨b, hb, e⟩ := List.mem_map.mp hm
    exact h.1 (hi a List.mem_cons_self b (List.mem_cons_of_mem _ hb) e.symm ▸ hb)
theorem lname_inj2 {n k k' : Int} (h0 : 0 ≤ k) (h1 : k < 26) (h2 : 0 ≤ k') (h3 : k' < 26) (e : lname n k = lname n k') : k = k' := by
  rcases Int.lt_trichotomy k k' with h | h | h
  · exact absurd e (lname_ne h (by omega))
  · exact h
  · exact absurd e.symm (lname_ne h (by omega))
theorem wof_mem {l : List Bx} (h : (l.map (·.1)).Nodup) {b : Bx} (hb : b ∈ l) : wof b.1 l = b.2.1 := by
  induction l with
  | nil => cases hb
  | cons c l ih =>
    rw [List.map_cons, List.nodup_cons] at h
    show (if c.1 = b.1 then c.2.1 else wof b.1 l) = _
    rcases List.mem_cons.mp hb with rfl | hb
    · rw [if_pos rfl]
    · rw [if_neg fun (e : c.1 = b.1) => h.1 (e ▸ List.mem_map.mpr ⟨b, hb, rfl⟩)]
      exact ih h.2 hb
theorem wAt_all (ws : List Int) : ((List.range ws.length).map fun (k : Nat) => wAt ws k) = ws := by
  apply List.ext_getElem (by simp)
  intro i h1 h2
  simp [wAt, List.getElem?_eq_getElem h2]
theorem range_nodup {α : Type} {f : Int → α} {k : Nat} (hk : k ≤ 20) (hf : ∀ i j : Int, 0 ≤ i → i < 20 → 0 ≤ j → j < 20 → f i = f j → i = j) : ((List.range k).map fun (i : Nat) => f i).Nodup := nodup_map List.nodup_range fun a ha b hb e => by
  have ha : a < k := by simpa using ha
  have hb : b < k := by simpa using hb
  have := hf a b (by omega) (by omega) (by omega) (by omega) e
  omega
theorem zip_names {α β : Type} {f : Int → β} {l : List α} : (l.zipIdx.map fun q => f q.2) = (List.range l.length).map fun (i : Nat) => f i := by
  apply List.ext_getElem (by simp)
  intro i h1 h2
  simp
theorem planP_ok {p : Plan} {n : Int} (hp : p.Ok) : (planP p n).Ok := by
  have lw := hp.wl
  have lp := hp.pl
  have lh := hp.hl
  have ebd : (planP p n).bs.map (·.1) = (List.range p.ws.length).map fun (k : Nat) => bnm n k := by simp [planP, Function.comp_def]
  have epd : (planP p n).ps.map (·.1) = (List.range p.ps.length).map fun (k : Nat) => pnm n k := by
    rw [← zip_names (f := pnm n)]
    simp [planP, Function.comp_def]
  have ehd : (planP p n).hs.map (·.1) = (List.range p.hs.length).map fun (k : Nat) => hnm n k := by
    rw [← zip_names (f := hnm n)]
    simp [planP, Function.comp_def]
  have bd : ((planP p n).bs.map (·.1)).Nodup := by rw [ebd]; exact range_nodup (by omega) fun i j h0 h1 h2 h3 e => lname_inj2 h0 (by omega) h2 (by omega) e
  have ew : (planP p n).bs.map (·.2.1) = p.ws := by
    rw [show (planP p n).bs.map (·.2.1) = (List.range p.ws.length).map fun (k : Nat) => wAt p.ws k by simp [planP, Function.comp_def]]
    exact wAt_all p.ws
  have hw : ∀ b : Int, inW b 0 p.ws.length = true → wof (bnm n b) (planP p n).bs = wAt p.ws b ∧ 2 ≤ wAt p.ws b := fun b hb => by
    simp [inW] at hb
    have hm : ((bnm n b, wAt p.ws b, wAt p.fs b) : Bx) ∈ (planP p n).bs := by
      refine List.mem_map.mpr ⟨b.toNat, by simp; omega, ?_⟩
      rw [show ((b.toNat : Nat) : Int) = b by omega]
    refine ⟨wof_mem bd hm, ?_⟩
    have hl : b.toNat < p.ws.length := by omega
    have : wAt p.ws b = p.ws[b.toNat] := by unfold wAt; rw [List.getElem?_eq_getElem hl]; rfl
    rw [this]
    exact (hp.wb _ (List.getElem_mem hl)).1
  have hpm : ∀ x : Int, inW x 0 p.ps.length = true → pnm n x ∈ (planP p n).ps.map (·.1) := fun x hx => by
    simp [inW] at hx
    rw [epd]
    refine List.mem_map.mpr ⟨x.toNat, by simp; omega, ?_⟩
    rw [show ((x.toNat : Nat) : Int) = x by omega]
  have hpl : (planP p n).ps.length = p.ps.length := by simp [planP]
  have hhl : (planP p n).hs.length = p.hs.length := by simp [planP]
  have hps : ∀ q ∈ (planP p n).ps, ∃ l ∈ p.ps, q.2 = l.map (Ri.nm (bnm n) (pnm n)) ∧ ∃ i : Nat, q.1 = pnm n i := fun q hq => by
    obtain ⟨⟨l, i⟩, hx, rfl⟩ := List.mem_map.mp hq
    have := List.mem_zipIdx hx
    exact ⟨l, by rw [this.2.2]; exact List.getElem_mem _, rfl, i, rfl⟩
  refine ⟨by simp [planP]; omega, fun b hb => ?_, fun b hb => ?_, bd, by rw [ew]; exact hp.wp, by omega, fun q hq => ?_, by rw [epd]; exact range_nodup (by omega) fun i j h0 h1 h2 h3 e => lname_inj2 h0 (by omega) h2 (by omega) e, fun q hq => ?_, fun q hq r hr m hm => ?_, fun q hq r hr => ?_, by omega, fun h hh => ?_, fun h hh => ?_, by rw [ehd]; exact range_nodup (by omega) fun i j h0 h1 h2 h3 e => lname_inj2 h0 (by omega) h2 (by omega) e, fun h hh => ?_⟩
  · obtain ⟨k, _, rfl⟩ := List.mem_map.mp hb
    exact lname_ok.1
  · obtain ⟨k, hk, rfl⟩ := List.mem_map.mp hb
    have hk : k < p.ws.length := by simpa using hk
    have hk2 : k < p.fs.length := by rw [hp.fl]; exact hk
    have e1 : wAt p.ws k = p.ws[k] := by unfold wAt; rw [Int.toNat_natCast, List.getElem?_eq_getElem hk]; rfl
    have e2 : wAt p.fs k = p.fs[k] := by unfold wAt; rw [Int.toNat_natCast, List.getElem?_eq_getElem hk2]; rfl
    have h1 := hp.wb _ (List.getElem_mem hk)
    have h2 := hp.fb k _ _ (List.getElem?_eq_getElem hk2) (List.getElem?_eq_getElem hk)
    simp only [e1, e2]
    exact ⟨h1.1, h1.2, h2.1, h2.2⟩
  · obtain ⟨l, _, _, i, e⟩ := hps q hq
    rw [e]
    exact lname_ok.1
  · obtain ⟨l, hl, e, _⟩ := hps q hq
    rw [e, List.length_map]
    exact hp.pr l hl
  · obtain ⟨l, hl, e, _⟩ := hps q hq
    rw [e] at hr
    obtain ⟨r', _, rfl⟩ := List.mem_map.mp hr
    cases r' <;> simp [Ri.nm, Rw.nms] at hm <;> subst hm <;> exact lname_ok.1
  · obtain ⟨l, hl, e, _⟩ := hps q hq
    rw [e] at hr
    obtain ⟨r', hr', rfl⟩ := List.mem_map.mp hr
    have hok := hp.rw l hl r' hr'
    rw [hhl, e, List.length_map]
    cases r' with
    | put b w t =>
      obtain ⟨h1, h2, h3⟩ := hok
      obtain ⟨h4, h5⟩ := hw b h1
      have h6 : (wAt p.ws b != 0) = true := by rw [bne_iff_ne]; omega
      simp [Ri.nm, Rw.ok, h4, h6, h2, h3]
    | swap b o n t =>
      obtain ⟨h1, h2, h2', h3⟩ := hok
      obtain ⟨h4, h5⟩ := hw b h1
      simp [Ri.nm, Rw.ok, h4, h2, h3, h2']
      omega
    | ask b ts =>
      obtain ⟨h1, h2, h3⟩ := hok
      obtain ⟨h4, h5⟩ := hw b h1
      have h7 : ((ts.filterMap id).all fun t => inW t 0 ((l.length : Int) + 1)) = true := by
        rw [List.all_eq_true]
        intro x hx
        obtain ⟨o, ho, e⟩ := List.mem_filterMap.mp hx
        have e : o = some x := e
        exact h3 x (e ▸ ho)
      simp only [Ri.nm, Rw.ok, h4, h7, Bool.and_true, Bool.and_eq_true, bne_iff_ne, beq_iff_eq]
      exact ⟨by omega, h2⟩
    | any ts =>
      obtain ⟨h1, h2, h3⟩ := hok
      have h7 : (ts.all fun t => inW t 0 ((l.length : Int) + 1)) = true := by rw [List.all_eq_true]; exact h1
      simp only [Ri.nm, Rw.ok, h7, Bool.true_and, Bool.and_eq_true, decide_eq_true_eq]
      exact ⟨h2, h3⟩
    | call x t =>
      obtain ⟨h1, h2⟩ := hok
      have := hpm x h1
      simp only [Ri.nm, Rw.ok, decide_eq_true this, h2, Bool.and_self]
    | take b t =>
      obtain ⟨h1, h2, h3⟩ := hok
      obtain ⟨h4, h5⟩ := hw b h1
      simp [Ri.nm, Rw.ok, h4, h2, h3]
      omega
    | give b t =>
      obtain ⟨h1, h2, h3⟩ := hok
      obtain ⟨h4, h5⟩ := hw b h1
      simp [Ri.nm, Rw.ok, h4, h2, h3]
      omega
  · obtain ⟨q, _, rfl⟩ := List.mem_map.mp hh
    exact lname_ok.1
  · obtain ⟨q, _, rfl⟩ := List.mem_map.mp hh
    exact lname_ok.1
  · obtain ⟨⟨x, i⟩, hx, rfl⟩ := List.mem_map.mp hh
    have := List.mem_zipIdx hx
    have hb := hp.hb x (by rw [this.2.2]; exact List.getElem_mem _)
    exact hpm x (by simp [inW]; exact hb)
end
end MP

/-! PLo: the law's names. -/
namespace MP
open PySem PySem.Spec PyProof.Rows L2
def s__law_others : List Sm := [
  (.set (.nm 3) (.lc (.idx (.nm 6) (.int (0))) (.nm 6) .seq [(.nm 0)] [] [5, 6])),
  (.ife (.cmp .eq (.bin .mod (.idx (.nm 1) (.int (1))) (.int (2))) (.int (0))) [(.set (.nm 3) (.rev (.nm 3)))] []),
  (.ife (.cmp .eq (.idx (.nm 1) (.int (0))) (.int (0))) [(.ret (.blt .dict [(.lc (.tup [(.nm 7), (.nm 7)]) (.nm 7) .seq [(.nm 3)] [] [5, 7])]))] []),
  (.ife (.cmp .eq (.idx (.nm 1) (.int (0))) (.int (1))) [(.set (.nm 4) (.bin .mod (.idx (.nm 1) (.int (1))) (.blt .len [(.nm 3)]))), (.ret (.blt .dict [(.lc (.tup [(.nm 7), (.nm 8)]) (.tup [(.nm 7), (.nm 8)]) .zip [(.nm 3), (.bin .add (.slc (.nm 3) (.nm 4) .nop) (.slc (.nm 3) .nop (.nm 4)))] [] [5, 7, 8])]))] []),
  (.ret (.blt .dict [(.lc (.tup [(.nm 7), (.call "_law_name" [(.idx (.nm 1) (.int (2))), (.bin .add (.nm 9) (.nm 2))])]) (.tup [(.nm 9), (.nm 7)]) .enum [(.nm 3)] [] [5, 9, 7])]))]
def s__law_back : List Sm := [
  (.ret (.tupl (.lc (.blt .dict [(.lc (.tup [(.idx (.nm 2) (.nm 3)), (.nm 3)]) (.nm 3) .keys [(.nm 2)] [] [1, 3])]) (.nm 2) .seq [(.nm 0)] [] [1, 2])))]
section
variable {Γ : Gm}
/-! ### dicts out of pairs -/
theorem prs_str : ∀ m : Dn, prs? (m.map hdD) = some (m.map fun p => ((.inr p.1 : Key), D.str p.2))
  | [] => rfl
  | p :: m => by
    show (key? (.str p.1)).bind (fun k => (prs? (m.map hdD)).map ((k, .str p.2) :: ·)) = _
    rw [prs_str m]
    rfl
theorem dset_new {s v : Str} {m : Dn} (h : s ∉ m.map (·.1)) : dset (.inr s) (.str v) (m.map fun p => .str p.1, m.map fun p => .str p.2) = ((m ++ [(s, v)]).map fun p => .str p.1, (m ++ [(s, v)]).map fun p => .str p.2) := by
  unfold dset
  rw [has_str, decide_eq_false h, if_neg Bool.false_ne_true, List.map_append, List.map_append]
  rfl
theorem dmerge_str {m : Dn} (h : (m.map (·.1)).Nodup) : dmerge (m.map fun p => ((.inr p.1 : Key), D.str p.2)) = (m.map fun p => .str p.1, m.map fun p => .str p.2) := by
  have key : ∀ (b a : Dn), ((a ++ b).map (·.1)).Nodup → (b.map fun p => ((.inr p.1 : Key), D.str p.2)).foldl (fun a p => dset p.1 p.2 a) (a.map fun p => .str p.1, a.map fun p => .str p.2) = ((a ++ b).map fun p => .str p.1, (a ++ b).map fun p => .str p.2) := by
    intro b
    induction b with
    | nil => intro a _; rw [List.append_nil]; rfl
    | cons p b ih =>
      intro a hn
      rw [List.map_cons, List.foldl_cons]
      have h1 := not_mem_done (t := fun p : Str × Str => p.1) hn
      obtain ⟨s, v⟩ := p
      rw [dset_new h1]
      have e : a ++ (s, v) :: b = (a ++ [(s, v)]) ++ b := by simp
      rw [e] at hn ⊢
      exact ih _ hn
  have := key m [] (by simpa using h)
  simpa [dmerge] using this
theorem dict_str {m : Dn} (h : (m.map (·.1)).Nodup) : bltD .dict [.lst (m.map hdD)] = some (1, dD m) := by
  show (prs? (m.map hdD)).map (fun ps => let r := dmerge ps; ((1, .dct r.1 r.2) : Ent)) = _
  rw [prs_str, Option.map_some, dmerge_str h]
  rfl
/-! ### good names -/
def zz : Str := "zzzzzzzz"
structure GoodN (ns : List Str) (m : Dn) : Prop where
  len : m.length = ns.length
  kd : (m.map (·.1)).Nodup
  km : ∀ n, n ∈ ns ↔ n ∈ m.map (·.1)
  vd : (m.map (·.2)).Nodup
  vo : ∀ p ∈ m, nmOk p.2 = true
theorem lookup_of {m : Dn} (h : (m.map (·.1)).Nodup) {p : Str × Str} (hp : p ∈ m) : m.lookup p.1 = some p.2 := by
  induction m with
  | nil => cases hp
  | cons q m ih =>
    rw [List.map_cons, List.nodup_cons] at h
    obtain ⟨a, b⟩ := q
    rw [List.lookup_cons]
    rcases List.mem_cons.mp hp with rfl | hp
    · simp
    · have : (p.1 == a) = false := beq_eq_false_iff_ne.mpr fun e => h.1 (e ▸ List.mem_map.mpr ⟨p, hp, rfl⟩)
      rw [this]
      exact ih h.2 hp
theorem GoodN.get {ns : List Str} {m : Dn} (g : GoodN ns m) {n : Str} (hn : n ∈ ns) : ∃ p ∈ m, p.1 = n ∧ m.lookup n = some p.2 := by
  obtain ⟨p, hp, e⟩ := List.mem_map.mp ((g.km n).mp hn)
  exact ⟨p, hp, e, e ▸ lookup_of g.kd hp⟩
theorem snd_inj {m : Dn} (h : (m.map (·.2)).Nodup) {p q : Str × Str} (hp : p ∈ m) (hq : q ∈ m) (e : p.2 = q.2) : p = q := by
  induction m with
  | nil => cases hp
  | cons r m ih =>
    rw [List.map_cons, List.nodup_cons] at h
    rcases List.mem_cons.mp hp with e1 | h1
    · rcases List.mem_cons.mp hq with e2 | h2
      · rw [e1, e2]
      · exact absurd (show r.2 ∈ m.map (·.2) from List.mem_map.mpr ⟨q, h2, by rw [← e, e1]⟩) h.1
    · rcases List.mem_cons.mp hq with e2 | h2
      · exact absurd (show r.2 ∈ m.map (·.2) from List.mem_map.mpr ⟨p, h1, by rw [e, e2]⟩) h.1
      · exact ih h.2 h1 h2
theorem GoodN.lk_inj {ns : List Str} {m : Dn} (g : GoodN ns m) {a b : Str} (ha : a ∈ ns) (hb : b ∈ ns) (e : lk m a = lk m b) : a = b := by
  obtain ⟨p, hp, rfl, h1⟩ := g.get ha
  obtain ⟨q, hq, rfl, h2⟩ := g.get hb
  rw [lk_some h1, lk_some h2] at e
  rw [snd_inj g.vd hp hq e]
theorem GoodN.nm {ns : List Str} {m : Dn} (g : GoodN ns m) (hn : ns.Nodup) : NmFor ns m := by
  refine ⟨g.len, fun n h => ?_, nodup_map hn fun a ha b hb e => ?_⟩
  · obtain ⟨p, hp, _, h1⟩ := g.get h
    exact ⟨p.2, h1, g.vo p hp⟩
  · obtain ⟨p, hp, rfl, h1⟩ := g.get ha
    obtain ⟨q, hq, rfl, h2⟩ := g.get hb
    rw [h1, h2] at e
    rw [snd_inj g.vd hp hq (Option.some.inj e)]
theorem GoodN.of {ns ts vs : List Str} (hp : ts.Perm ns) (hn : ns.Nodup) (hl : vs.length = ts.length) (hv : vs.Nodup) (ho : ∀ v ∈ vs, nmOk v = true) : GoodN ns (ts.zip vs) := by
  have e1 : (ts.zip vs).map (·.1) = ts := List.map_fst_zip (by omega)
  have e2 : (ts.zip vs).map (·.2) = vs := List.map_snd_zip (by omega)
  refine ⟨by rw [List.length_zip, hl, Nat.min_self, hp.length_eq], by rw [e1]; exact hp.nodup_iff.mpr hn, fun n => by rw [e1]; exact hp.mem_iff.symm, by rw [e2]; exact hv, fun p h => ho _ ?_⟩
  rw [← e2]
  exact List.mem_map.mpr ⟨p, h, rfl⟩
def S_others (c : Fn) : Prop := ∀ (α : Type) (l : List α) (t : α → D) (n : α → Str) (d : List Int) (k : Int), (∀ a, idxD (t a) (.int 0) = some (0, .str (n a))) → 1 ≤ l.length → l.length ≤ 6 → (l.map n).Nodup → (∀ a ∈ l, nmOk (n a) = true ∧ n a ≠ zz) → DigOk [3, 6, 208] d → 0 ≤ k → k ≤ 5 →
  ∃ m : Dn, c [.lst (l.map t), .lst (d.map .int), .int k] = .ok (1, dD m) ∧ GoodN (l.map n) m ∧ ∀ p ∈ m, p.2 ≠ zz
theorem oth_e (h1 : S_nm (Γ.call "_law_name")) {ev : Env} {d : D} {x : Str} {d2 j k : Int} (e0 : ev[1]? = some (some (0, d, []))) (e1 : ev[2]? = some (some (0, .int k, []))) (e2 : ev[7]? = some (some (0, .str x, []))) (e3 : ev[9]? = some (some (0, .int j, []))) (i2 : idxD d (.int 2) = some (0, .int d2)) (h0 : 0 ≤ d2) (hj : 0 ≤ j + k) (hj2 : j + k < 1000) :
    evE Γ (.tup [(.nm 7), (.call "_law_name" [(.idx (.nm 1) (.int (2))), (.bin .add (.nm 9) (.nm 2))])]) ev = .ok (8, hdD (x, lname d2 (j + k))) := by
  have c := h1 d2 (j + k) h0 hj hj2
  simp [e0, e1, e2, e3, i2, c, fu, ful]
  rfl
theorem others_s (h1 : S_nm (Γ.call "_law_name")) : S_others (runF Γ [] 7 s__law_others) := fun α l t n d k ht l1 l2 hn ho hd k0 k5 => by
  obtain ⟨hl, hd⟩ := hd
  obtain ⟨d0, d1, d2, rfl⟩ : ∃ d0 d1 d2, d = [d0, d1, d2] := by
    match d, hl with
    | [a, b, c], _ => exact ⟨a, b, c, rfl⟩
  have b0 := hd 0 d0 3 rfl rfl
  have b1 := hd 1 d1 6 rfl rfl
  have b2 := hd 2 d2 208 rfl rfl
  have i0 : idxD (.lst ([d0, d1, d2].map .int)) (.int 0) = some (0, .int d0) := rfl
  have i1 : idxD (.lst ([d0, d1, d2].map .int)) (.int 1) = some (0, .int d1) := rfl
  have i2 : idxD (.lst ([d0, d1, d2].map .int)) (.int 2) = some (0, .int d2) := rfl
  generalize D.lst ([d0, d1, d2].map .int) = dl at i0 i1 i2 ⊢
  let F : List Str → Env := fun ts => [some (0, .lst (l.map t), []), some (0, dl, []), some (0, .int k, []), some (0, .lst (ts.map .str), []), none, none, none, none, none, none]
  have sf : ∀ k (ts : List Str), ful (k + 1) (.lst (ts.map .str)) = true := fun k ts => fuls_map (t := D.str) (fun _ => by cases k <;> rfl) ts
  -- the titles, turned or not
  have st : ∃ ts : List Str, ts.Perm (l.map n) ∧ ∀ {o : Out}, exL Γ [] [] (s__law_others.drop 2) (F ts) = o → exL Γ [] [] s__law_others [some (0, .lst (l.map t), []), some (0, dl, []), some (0, .int k, []), none, none, none, none, none, none, none] = o := by
    have q1 : ∀ {o : Out}, exL Γ [] [] (s__law_others.drop 1) (F (l.map n)) = o → exL Γ [] [] s__law_others [some (0, .lst (l.map t), []), some (0, dl, []), some (0, .int k, []), none, none, none, none, none, none, none] = o := fun {o} q => by
      unfold s__law_others
      refine go_set0 (x := (9, .lst ((l.map n).map .str))) ?_ (.inl (sf 8 _)) rfl q
      refine (e_lc9 (l := l) t (fun a => (0, .str (n a))) (xs := [(0, .lst (l.map t))]) rfl rfl (by omega) (fun _ _ => rfl) fun a _ => ⟨_, rfl, ?_⟩).trans (by simp)
      simp [ht]
    have hm := mod_i (i := d1) (j := 2) (by decide)
    by_cases hc : d1 % 2 = 0
    · refine ⟨(l.map n).reverse, List.reverse_perm _, fun {o} q => q1 ?_⟩
      refine go_ifT (k := 0) (by simp [F, i1, hm, hc]) ?_
      rw [go_set0 (x := (1, .lst ((l.map n).reverse.map .str))) (o := .nx (F (l.map n).reverse)) (by simp [F, List.map_reverse]) (.inl (sf 0 _)) rfl rfl]
      exact q
    · have hc2 : d1 % 2 = 1 := by omega
      refine ⟨l.map n, .refl _, fun {o} q => q1 (go_if0 (k := 0) (by simp [F, i1, hm, hc2]) q)⟩
  obtain ⟨ts, hts, st⟩ := st
  have tl : ts.length = l.length := by rw [hts.length_eq, List.length_map]
  have tn : ts.Nodup := hts.nodup_iff.mpr hn
  have to : ∀ x ∈ ts, nmOk x = true ∧ x ≠ zz := fun x hx => by
    obtain ⟨a, ha, rfl⟩ := List.mem_map.mp (hts.mem_iff.mp hx)
    exact ho a ha
  have fin : ∀ vs : List Str, vs.length = ts.length → vs.Nodup → (∀ v ∈ vs, nmOk v = true ∧ v ≠ zz) → bltD .dict [.lst ((ts.zip vs).map hdD)] = some (1, dD (ts.zip vs)) ∧ GoodN (l.map n) (ts.zip vs) ∧ ∀ p ∈ ts.zip vs, p.2 ≠ zz := fun vs v1 v2 v3 => by
    have g := GoodN.of hts hn v1 v2 fun v hv => (v3 v hv).1
    refine ⟨dict_str g.kd, g, fun p hp => (v3 p.2 ?_).2⟩
    have e2 : (ts.zip vs).map (·.2) = vs := List.map_snd_zip (by omega)
    rw [← e2]
    exact List.mem_map.mpr ⟨p, hp, rfl⟩
  by_cases h0 : d0 = 0
  · obtain ⟨f1, f2, f3⟩ := fin ts rfl tn to
    refine ⟨ts.zip ts, runF_rt (st (go_ifR (k := 0) (by simp [F, i0, h0]) (go_ret ?_))), f2, f3⟩
    have e : evE Γ (.lc (.tup [(.nm 7), (.nm 7)]) (.nm 7) .seq [(.nm 3)] [] [5, 7]) (F ts) = .ok (9, .lst ((ts.zip ts).map hdD)) := by
      refine (e_lc9 (l := ts) .str (fun x => (8, hdD (x, x))) (xs := [(0, .lst (ts.map .str))]) rfl rfl (by omega) (fun _ _ => by simp [fu]) fun a _ => ⟨_, rfl, ?_⟩).trans ?_
      · simp [F, fu, ful]; rfl
      · have : ts.zip ts = ts.map fun x => (x, x) := by
          apply List.ext_getElem (by simp)
          intro i q1 q2
          simp
        rw [this, List.map_map]
        rfl
    rw [e_blt, l_cons, l_nil, e]
    simp [f1]
  have c0 : evE Γ (.cmp .eq (.idx (.nm 1) (.int (0))) (.int (0))) (F ts) = .ok (0, .bl false) := by simp [F, i0, h0]
  by_cases h2 : d0 = 1
  · have a0 := Int.emod_nonneg d1 (b := ts.length) (by omega)
    have a1 := Int.emod_lt_of_pos d1 (b := ts.length) (by omega)
    have hm := mod_i (i := d1) (j := ts.length) (by omega)
    generalize d1 % (ts.length : Int) = at_ at a0 a1 hm
    obtain ⟨f1, f2, f3⟩ := fin (ts.drop at_.toNat ++ ts.take at_.toNat) (by simp; omega) (by
        have : (ts.drop at_.toNat ++ ts.take at_.toNat).Perm ts := (List.perm_append_comm).trans (by rw [List.take_append_drop])
        exact this.nodup_iff.mpr tn) (fun v hv => to v (by
        rcases List.mem_append.mp hv with hv | hv
        · exact List.mem_of_mem_drop hv
        · exact List.mem_of_mem_take hv))
    let G : Env := [some (0, .lst (l.map t), []), some (0, dl, []), some (0, .int k, []), some (0, .lst (ts.map .str), []), some (0, .int at_, []), none, none, none, none, none]
    refine ⟨_, runF_rt (st (go_if0 c0 (go_ifR (k := 0) (by simp [F, i0, h2]) (go_set0 (env' := G) (x := (0, .int at_)) ?_ (.inl rfl) rfl (go_ret ?_))))), f2, f3⟩
    · have hlen : bltD .len [.lst (ts.map .str)] = some (0, .int ts.length) := by rw [len_l, List.length_map]
      simp only [e_bin, e_idx, e_nm, e_int, e_blt, l_cons, l_nil]
      simp [F, i1, hm]
    have e : evE Γ (.lc (.tup [(.nm 7), (.nm 8)]) (.tup [(.nm 7), (.nm 8)]) .zip [(.nm 3), (.bin .add (.slc (.nm 3) (.nm 4) .nop) (.slc (.nm 3) .nop (.nm 4)))] [] [5, 7, 8]) G = .ok (9, .lst ((ts.zip (ts.drop at_.toNat ++ ts.take at_.toNat)).map hdD)) := by
      refine (e_lc9 (l := ts.zip (ts.drop at_.toNat ++ ts.take at_.toNat)) hdD (fun p => (8, hdD p)) (xs := [(0, .lst (ts.map .str)), (1, .lst ((ts.drop at_.toNat ++ ts.take at_.toNat).map .str))]) ?_ ?_ (by simp; omega) (fun _ _ => by simp [fu]) fun p hp => ⟨_, rfl, ?_⟩).trans (by simp)
      · have hadd := newL_ok (a := (ts.map D.str).drop at_.toNat ++ (ts.map D.str).take at_.toNat) (by simp; omega)
        simp [G, cut_drop a0, cut_take a0, hadd]
      · show some (((ts.map D.str).zip ((ts.drop at_.toNat ++ ts.take at_.toNat).map D.str)).map fun p => D.tup [p.1, p.2]) = _
        rw [List.zip_map, List.map_map]
        rfl
      · simp [G, fu, ful]; rfl
    rw [e_blt, l_cons, l_nil, e]
    simp [f1]
  have c1 : evE Γ (.cmp .eq (.idx (.nm 1) (.int (0))) (.int (1))) (F ts) = .ok (0, .bl false) := by simp [F, i0, h2]
  let vs : List Str := (List.range ts.length).map fun (j : Nat) => lname d2 (j + k)
  obtain ⟨f1, f2, f3⟩ := fin vs (by simp [vs]) (range_nodup (k := ts.length) (f := fun j => lname d2 (j + k)) (by omega) fun i j q0 q1 q2 q3 e => by
      have := lname_inj2 (n := d2) (k := i + k) (k' := j + k) (by omega) (by omega) (by omega) (by omega) e
      omega) (fun v hv => by
      obtain ⟨j, _, rfl⟩ := List.mem_map.mp hv
      exact lname_ok)
  refine ⟨_, runF_rt (st (go_if0 c0 (go_if0 c1 (go_ret ?_)))), f2, f3⟩
  have e : evE Γ (.lc (.tup [(.nm 7), (.call "_law_name" [(.idx (.nm 1) (.int (2))), (.bin .add (.nm 9) (.nm 2))])]) (.tup [(.nm 9), (.nm 7)]) .enum [(.nm 3)] [] [5, 9, 7]) (F ts) = .ok (9, .lst ((ts.zip vs).map hdD)) := by
    refine (e_lc9 (l := ts.zipIdx) (fun q => .tup [.int q.2, .str q.1]) (fun q => (8, hdD (q.1, lname d2 (q.2 + k)))) (xs := [(0, .lst (ts.map .str))]) rfl ?_ (by simp; omega) (fun _ _ => by simp [fu]) fun q hq => ⟨_, rfl, ?_⟩).trans ?_
    · show some (((ts.map D.str).zipIdx).map fun p => D.tup [.int p.2, p.1]) = _
      rw [List.zipIdx_map, List.map_map]
      rfl
    · obtain ⟨x, i⟩ := q
      have hx := List.mem_zipIdx hq
      exact oth_e h1 rfl rfl rfl rfl i2 b2.1 (by omega) (by have := hx.2.1; simp only at this ⊢; omega)
    · have : ts.zip vs = ts.zipIdx.map fun q => (q.1, lname d2 (q.2 + k)) := by
        apply List.ext_getElem (by simp [vs])
        intro i q1 q2
        simp [vs]
      rw [this, List.map_map]
      rfl
  rw [e_blt, l_cons, l_nil, e]
  simp [f1]
end
end MP

/-! PLp: what is due. -/
namespace MP
open PySem PySem.Spec PyProof.Rows L2
def s__law_due : List Sm := [
  (.set (.tup [(.nm 2), (.nm 3), (.nm 4)]) (.nm 0)),
  (.set (.nm 5) (.lst [])),
  (.for (.tup [(.nm 6), (.nm 7)]) .seq [(.nm 3)] [(.set (.nm 8) (.lst [])), (.for (.nm 9) .seq [(.nm 7)] [(.ife (.cmp .eq (.idx (.nm 9) (.int (0))) (.str "call")) [(.set (.nm 9) (.tup [(.str "call"), (.idx (.idx (.nm 1) (.int (1))) (.idx (.nm 9) (.int (1)))), (.idx (.nm 9) (.int (2)))]))] [(.ife (.cmp .ne (.idx (.nm 9) (.int (0))) (.str "any")) [(.set (.nm 9) (.bin .add (.tup [(.idx (.nm 9) (.int (0))), (.idx (.idx (.nm 1) (.int (0))) (.idx (.nm 9) (.int (1))))]) (.slc (.nm 9) (.int (2)) .nop)))] [])]), (.mut .append (.nm 8) [(.nm 9)])]), (.mut .append (.nm 5) [(.tup [(.idx (.idx (.nm 1) (.int (1))) (.nm 6)), (.nm 8)])])]),
  (.set (.nm 10) (.lc (.tup [(.idx (.idx (.nm 1) (.int (0))) (.nm 6)), (.nm 12), (.nm 13)]) (.tup [(.nm 6), (.nm 12), (.nm 13)]) .seq [(.nm 2)] [] [11, 6, 12, 13])),
  (.retT [(.nm 10), (.nm 5), (.lc (.tup [(.idx (.idx (.nm 1) (.int (2))) (.nm 6)), (.idx (.idx (.nm 1) (.int (1))) (.nm 14))]) (.tup [(.nm 6), (.nm 14)]) .seq [(.nm 4)] [] [11, 6, 14])])]
section
variable {Γ : Gm}
theorem rowd_e {ev : Env} {r : Rw} {m1 m2 m3 : Dn} {M : List Nat} {ss : List Sm} {o : Out} (hM : M.contains 9 = false) (hr : r.has m1 m2) (e0 : ev[9]? = some (some (0, r.d, []))) (e1 : ev[1]? = some (some (0, nmD m1 m2 m3, [])))
    (k : exL Γ M [] ss ((dropB 9 ev).set 9 (some (0, (r.ren (lk m1) (lk m2)).d, []))) = o) (kn : exL Γ M [] ss (ev.set 9 (some (0, (r.ren (lk m1) (lk m2)).d, []))) = o) :
    exL Γ M [] ((.ife (.cmp .eq (.idx (.nm 9) (.int (0))) (.str "call")) [(.set (.nm 9) (.tup [(.str "call"), (.idx (.idx (.nm 1) (.int (1))) (.idx (.nm 9) (.int (1)))), (.idx (.nm 9) (.int (2)))]))] [(.ife (.cmp .ne (.idx (.nm 9) (.int (0))) (.str "any")) [(.set (.nm 9) (.bin .add (.tup [(.idx (.nm 9) (.int (0))), (.idx (.idx (.nm 1) (.int (0))) (.idx (.nm 9) (.int (1))))]) (.slc (.nm 9) (.int (2)) .nop)))] [])]) :: ss) ev = o := by
  have es : ev.set 9 (some (0, r.d, [])) = ev := by
    apply List.ext_getElem?
    intro i
    by_cases h : 9 = i
    · subst h
      rw [List.getElem?_set_self (List.getElem?_eq_some_iff.mp e0).1, e0]
    · rw [List.getElem?_set_ne h]
  cases r with
  | any ts =>
    refine go_ifF (k := 0) (by simp [e0, Rw.d, cmp_eq eqw_any_call]) ?_
    rw [go_if0 (k := 0) (o := .nx ev) (by simp [e0, Rw.d, cmp_ne eqw_any_any]) xL_nil]
    have kn := kn
    rw [show ev.set 9 (some (0, (Rw.ren (lk m1) (lk m2) (.any ts)).d, [])) = ev from es] at kn
    exact kn
  | call p t =>
    obtain ⟨v, hv⟩ := hr
    refine go_ifT (k := 0) (by simp [e0, Rw.d, cmp_eq eqw_call_call]) ?_
    rw [go_set0 (x := (8, (Rw.ren (lk m1) (lk m2) (.call p t)).d)) (o := .nx ((dropB 9 ev).set 9 (some (0, (Rw.ren (lk m1) (lk m2) (.call p t)).d, [])))) ?_ (.inl (Rw.ful (Rw.ren (lk m1) (lk m2) (.call p t)) 8)) rfl]
    · exact k
    · rw [xL_nil, hM]; rfl
    · simp [e0, e1, Rw.d, Rw.ren, idx_dD hv, lk, hv, fu, ful]
  | put b w t =>
    obtain ⟨v, hv⟩ := hr
    refine go_ifF (k := 0) (by simp [e0, Rw.d, cmp_eq eqw_put_call]) ?_
    rw [go_ifT (k := 0) (o := .nx ((dropB 9 ev).set 9 (some (0, (Rw.ren (lk m1) (lk m2) (.put b w t)).d, [])))) (by simp [e0, Rw.d, cmp_ne eqw_put_any])]
    · exact k
    · rw [xL_nil']
      refine go_set0 (x := (0, (Rw.ren (lk m1) (lk m2) (.put b w t)).d)) ?_ (.inl (Rw.ful (Rw.ren (lk m1) (lk m2) (.put b w t)) 0)) (by rw [hM]; rfl) rfl
      simp [e0, e1, Rw.d, Rw.ren, idx_dD hv, lk, hv, cut_drop, newT_ok]
  | swap b o' n t =>
    obtain ⟨v, hv⟩ := hr
    refine go_ifF (k := 0) (by simp [e0, Rw.d, cmp_eq eqw_swap_call]) ?_
    rw [go_ifT (k := 0) (o := .nx ((dropB 9 ev).set 9 (some (0, (Rw.ren (lk m1) (lk m2) (.swap b o' n t)).d, [])))) (by simp [e0, Rw.d, cmp_ne eqw_swap_any])]
    · exact k
    · rw [xL_nil']
      refine go_set0 (x := (0, (Rw.ren (lk m1) (lk m2) (.swap b o' n t)).d)) ?_ (.inl (Rw.ful (Rw.ren (lk m1) (lk m2) (.swap b o' n t)) 0)) (by rw [hM]; rfl) rfl
      simp [e0, e1, Rw.d, Rw.ren, idx_dD hv, lk, hv, cut_drop, newT_ok]
  | ask b ts =>
    obtain ⟨v, hv⟩ := hr
    refine go_ifF (k := 0) (by simp [e0, Rw.d, cmp_eq eqw_ask_call]) ?_
    rw [go_ifT (k := 0) (o := .nx ((dropB 9 ev).set 9 (some (0, (Rw.ren (lk m1) (lk m2) (.ask b ts)).d, [])))) (by simp [e0, Rw.d, cmp_ne eqw_ask_any])]
    · exact k
    · rw [xL_nil']
      refine go_set0 (x := (0, (Rw.ren (lk m1) (lk m2) (.ask b ts)).d)) ?_ (.inl (Rw.ful (Rw.ren (lk m1) (lk m2) (.ask b ts)) 0)) (by rw [hM]; rfl) rfl
      simp [e0, e1, Rw.d, Rw.ren, idx_dD hv, lk, hv, cut_drop, newT_ok]
  | take b t =>
    obtain ⟨v, hv⟩ := hr
    refine go_ifF (k := 0) (by simp [e0, Rw.d, cmp_eq eqw_take_call]) ?_
    rw [go_ifT (k := 0) (o := .nx ((dropB 9 ev).set 9 (some (0, (Rw.ren (lk m1) (lk m2) (.take b t)).d, [])))) (by simp [e0, Rw.d, cmp_ne eqw_take_any])]
    · exact k
    · rw [xL_nil']
      refine go_set0 (x := (0, (Rw.ren (lk m1) (lk m2) (.take b t)).d)) ?_ (.inl (Rw.ful (Rw.ren (lk m1) (lk m2) (.take b t)) 0)) (by rw [hM]; rfl) rfl
      simp [e0, e1, Rw.d, Rw.ren, idx_dD hv, lk, hv, cut_drop, newT_ok]
  | give b t =>
    obtain ⟨v, hv⟩ := hr
    refine go_ifF (k := 0) (by simp [e0, Rw.d, cmp_eq eqw_give_call]) ?_
    rw [go_ifT (k := 0) (o := .nx ((dropB 9 ev).set 9 (some (0, (Rw.ren (lk m1) (lk m2) (.give b t)).d, [])))) (by simp [e0, Rw.d, cmp_ne eqw_give_any])]
    · exact k
    · rw [xL_nil']
      refine go_set0 (x := (0, (Rw.ren (lk m1) (lk m2) (.give b t)).d)) ?_ (.inl (Rw.ful (Rw.ren (lk m1) (lk m2) (.give b t)) 0)) (by rw [hM]; rfl) rfl
      simp [e0, e1, Rw.d, Rw.ren, idx_dD hv, lk, hv, cut_drop, newT_ok]
def S_due (c : Fn) : Prop := ∀ (P : Pg) (m1 m2 m3 : Dn), P.Ok → RenOk P m1 m2 m3 → c [P.d, nmD m1 m2 m3] = .ok (0, (P.by m1 m2 m3).d)
theorem due_s : S_due (runF Γ [8, 5, 10] 13 s__law_due) := fun P m1 m2 m3 hP hm => by
  have lb := hP.bl
  have lp := hP.pl
  have lh := hP.hl
  refine runF_rt ?_
  let R : Pc → Pc := fun p => (lk m2 p.1, p.2.map (Rw.ren (lk m1) (lk m2)))
  let E2 : Env := [some (0, P.d, []), some (0, nmD m1 m2 m3, []), some (0, .lst (P.bs.map bxD), []), some (0, .lst (P.ps.map pcD), []), some (0, .lst (P.hs.map hdD), []), some (9, .lst [], []), none, none, none, none, none, none, none, none, none]
  refine go_setT (x := (0, P.d)) (env' := [some (0, P.d, []), some (0, nmD m1 m2 m3, []), some (0, .lst (P.bs.map bxD), []), some (0, .lst (P.ps.map pcD), []), some (0, .lst (P.hs.map hdD), []), none, none, none, none, none, none, none, none, none, none]) (by simp) (by simp [Pg.d, brw, fv]) ?_
  refine go_set0 (env' := E2) (x := (9, .lst [])) (by rfl) (.inl rfl) rfl ?_
  rw [xL_cons, xS_for]
  have hit : (evL Γ [Ex.nm 3] E2 >>= fun xs => Res.of (iterD .seq (xs.map (·.2)))) = .ok (P.ps.map pcD) := rfl
  rw [hit, rD_ok]
  refine loop_D (fun done e => ∃ (k9 : Nat) (B9 : List Nat) (o6 o7 o8 o9 : Option Slt), (B9 = [] ∨ B9 = [8]) ∧ (done ≠ [] → k9 = 0) ∧
      e = [some (0, P.d, []), some (0, nmD m1 m2 m3, []), some (0, .lst (P.bs.map bxD), []), some (0, .lst (P.ps.map pcD), []), some (0, .lst (P.hs.map hdD), []), some (k9 + 1, .lst ((done.map R).map pcD), B9), o6, o7, o8, o9, none, none, none, none, none])
    ⟨8, [], none, none, none, none, .inl rfl, (fun h => absurd rfl h), rfl⟩ (fun done q rest e hl hI => ?_) fun e hI => ?_
  · obtain ⟨k9, B9, o6, o7, o8, o9, hB, hk, rfl⟩ := hI
    have hq : q ∈ P.ps := by rw [hl]; simp
    obtain ⟨x, l⟩ := q
    have hll := hP.pr _ hq
    have hdl : done.length < P.ps.length := by
      have := congrArg List.length hl
      simp at this
      omega
    let N := Rw.ren (lk m1) (lk m2)
    let X : D := .lst ((done.map R).map pcD)
    let F : List D → Option Slt → Env := fun acc o9 => [some (0, P.d, []), some (0, nmD m1 m2 m3, []), some (0, .lst (P.bs.map bxD), []), some (0, .lst (P.ps.map pcD), []), some (0, .lst (P.hs.map hdD), []), some (k9 + 1, X, []), some (0, .str x, []), some (0, .lst (l.map Rw.d), []), some (9, .lst acc, []), o9, none, none, none, none, none]
    have inner : ∀ q9, ∃ e', exL Γ [8, 5, 10] [] [(.for (.nm 9) .seq [(.nm 7)] [(.ife (.cmp .eq (.idx (.nm 9) (.int (0))) (.str "call")) [(.set (.nm 9) (.tup [(.str "call"), (.idx (.idx (.nm 1) (.int (1))) (.idx (.nm 9) (.int (1)))), (.idx (.nm 9) (.int (2)))]))] [(.ife (.cmp .ne (.idx (.nm 9) (.int (0))) (.str "any")) [(.set (.nm 9) (.bin .add (.tup [(.idx (.nm 9) (.int (0))), (.idx (.idx (.nm 1) (.int (0))) (.idx (.nm 9) (.int (1))))]) (.slc (.nm 9) (.int (2)) .nop)))] [])]), (.mut .append (.nm 8) [(.nm 9)])]), (.mut .append (.nm 5) [(.tup [(.idx (.idx (.nm 1) (.int (1))) (.nm 6)), (.nm 8)])])] (F [] q9) = .nx e' ∧
        ∃ (k9 : Nat) (B9 : List Nat) (o6 o7 o8 o9 : Option Slt), (B9 = [] ∨ B9 = [8]) ∧ (done ++ [(x, l)] ≠ [] → k9 = 0) ∧
          e' = [some (0, P.d, []), some (0, nmD m1 m2 m3, []), some (0, .lst (P.bs.map bxD), []), some (0, .lst (P.ps.map pcD), []), some (0, .lst (P.hs.map hdD), []), some (k9 + 1, .lst (((done ++ [(x, l)]).map R).map pcD), B9), o6, o7, o8, o9, none, none, none, none, none] := fun q9 => by
      rw [xL_cons, xS_for]
      have hit : (evL Γ [Ex.nm 7] (F [] q9) >>= fun xs => Res.of (iterD .seq (xs.map (·.2)))) = .ok (l.map Rw.d) := rfl
      rw [hit, rD_ok]
      refine loop_Dq (fun dn e => ∃ o9, e = F ((dn.map N).map Rw.d) o9) ⟨_, rfl⟩ (fun dn r rs e hr hI => ?_) fun e hI => ?_
      · obtain ⟨o9, rfl⟩ := hI
        have hrl : r ∈ l := by rw [hr]; simp
        refine ⟨F (((dn ++ [r]).map N).map Rw.d) (some (0, (N r).d, [])), ?_, _, rfl⟩
        have ap : exL Γ [8, 5, 10] [] [(.mut .append (.nm 8) [(.nm 9)])] (F ((dn.map N).map Rw.d) (some (0, (N r).d, []))) = .nx (F (((dn ++ [r]).map N).map Rw.d) (some (0, (N r).d, []))) := by
          rw [xL_cons, xS_app, app_ok (k2 := 8) (ds := (dn.map N).map Rw.d) (B := []) (x := (0, (N r).d))]
          · rw [an_nx, xL_nil]
            simp [F, X]
          · rfl
          · rfl
          · have := congrArg List.length hr
            simp at this
            simp at hll
            simp
            omega
          · exact Rw.ful _ 0
          · exact Rw.ful _ 8
          · rfl
          · rfl
        show forB Γ [8, 5, 10] [] [] (.nm 9) _ r.d _ = _
        unfold forB
        have hset : (if ful 0 r.d = true then ([] : List Nat) else List.filter (fun j => j != 9) []) = [] := by split <;> rfl
        rw [b_nm]
        simp only [hset]
        exact rowd_e (r := r) rfl (hm.rows _ hq r hrl) rfl rfl ap ap
      · obtain ⟨o9, rfl⟩ := hI
        let G : Env := [some (0, P.d, []), some (0, nmD m1 m2 m3, []), some (0, .lst (P.bs.map bxD), []), some (0, .lst (P.ps.map pcD), []), some (0, .lst (P.hs.map hdD), []), some (1, X, []), some (0, .str x, []), some (0, .lst (l.map Rw.d), []), some (9, .lst ((l.map N).map Rw.d), []), o9, none, none, none, none, none]
        have ht := hm.n2.get (List.mem_map.mpr ⟨_, hq, rfl⟩)
        have hpc : D.tup [.str (lk m2 x), .lst ((l.map N).map Rw.d)] = pcD (R (x, l)) := rfl
        have hx : ∀ e : Env, e[1]? = some (some (0, nmD m1 m2 m3, [])) → e[6]? = some (some (0, .str x, [])) → e[8]? = some (some (9, .lst ((l.map N).map Rw.d), [])) → evE Γ (.tup [(.idx (.idx (.nm 1) (.int (1))) (.nm 6)), (.nm 8)]) e = .ok (0, pcD (R (x, l))) := fun e e1 e2 e3 => by
          rw [← hpc]
          simp only [e_tup, l_cons, l_nil, e_idx, e_nm, e_int, e1, e2, e3, res_ok_bind, nmd1, of_some, ht, tupO_2]
          rfl
        refine ⟨_, ?_, 0, [8], some (0, .str x, []), some (0, .lst (l.map Rw.d), []), some (9, .lst ((l.map N).map Rw.d), []), wp1 5 o9, .inr rfl, fun _ => rfl, rfl⟩
        rw [xL_cons, xS_app, app_br (k2 := k9) (ds := (done.map R).map pcD) (B := []) (x := (0, pcD (R (x, l)))) (env2 := G)]
        · rw [an_nx, xL_nil]
          have hz : ((done ++ [(x, l)]).map R).map pcD = (done.map R).map pcD ++ [pcD (R (x, l))] := by simp
          rw [hz]
          rfl
        · rfl
        · exact hx _ rfl rfl rfl
        · simp
          omega
        · exact pcf0 _
        · rfl
        · show G = (F ((l.map N).map Rw.d) o9).set 5 (some (k9 + 1 - k9, X, []))
          rw [Nat.add_sub_cancel_left]
          rfl
        · exact hx _ rfl rfl rfl
        · rfl
    obtain ⟨e', q1, q2⟩ := inner (dr1 8 (dr1 7 (dr1 6 o9)))
    refine ⟨e', ?_, q2⟩
    show forB Γ [8, 5, 10] [] [] _ _ _ _ = _
    unfold forB
    rcases hB with rfl | rfl
    · exact go_set0 (x := (9, .lst [])) (by rfl) (.inl rfl) rfl q1
    · exact go_set0 (x := (9, .lst [])) (by rfl) (.inl rfl) rfl q1
  · obtain ⟨k9, B9, o6, o7, o8, o9, hB, hk, rfl⟩ := hI
    have hne : P.ps ≠ [] := fun z => by rw [z] at lp; simp at lp
    obtain rfl := hk hne
    have hl9 : fuls 0 ((P.ps.map R).map pcD) = false := pcs_ful fun z => hne (by simpa using z)
    let bs : List Bx := P.bs.map fun b => (lk m1 b.1, b.2)
    let hs : List Hd := P.hs.map fun h => (lk m3 h.1, lk m2 h.2)
    refine go_set0 (env' := [some (0, P.d, []), some (0, nmD m1 m2 m3, []), some (0, .lst (P.bs.map bxD), []), some (0, .lst (P.ps.map pcD), []), some (0, .lst (P.hs.map hdD), []), some (0 + 1, .lst ((P.ps.map R).map pcD), B9.filter fun j => j != 10), dr1 10 o6, dr1 10 o7, dr1 10 o8, dr1 10 o9, some (9, .lst (bs.map bxD), []), none, none, none, none]) (x := (9, .lst (bs.map bxD))) ?_ (.inl (fuls_map (t := bxD) (fun b => bxf) bs)) rfl ?_
    · refine (e_lc9 (l := P.bs) bxD (fun b => (8, bxD (lk m1 b.1, b.2))) (xs := [(0, .lst (P.bs.map bxD))]) rfl rfl (by omega) (fun _ _ => by simp [fu]) fun b hb => ⟨_, rfl, ?_⟩).trans (by simp [bs])
      have g1 := hm.n1.get (List.mem_map.mpr ⟨b, hb, rfl⟩)
      simp [g1, fu, ful]
      rfl
    · refine (go_retT0 (xs := [(0, .lst (bs.map bxD)), (0, .lst ((P.ps.map R).map pcD)), (9, .lst (hs.map hdD))]) ?_ ?_ ?_ (by simp)).trans ?_
      · have e : ∀ B9', evE Γ (.lc (.tup [(.idx (.idx (.nm 1) (.int (2))) (.nm 6)), (.idx (.idx (.nm 1) (.int (1))) (.nm 14))]) (.tup [(.nm 6), (.nm 14)]) .seq [(.nm 4)] [] [11, 6, 14])
            [some (0, P.d, []), some (0, nmD m1 m2 m3, []), some (0, .lst (P.bs.map bxD), []), some (0, .lst (P.ps.map pcD), []), some (0, .lst (P.hs.map hdD), []), some (0 + 1, .lst ((P.ps.map R).map pcD), B9'), dr1 10 o6, dr1 10 o7, dr1 10 o8, dr1 10 o9, some (9, .lst (bs.map bxD), []), none, none, none, none] = .ok (9, .lst (hs.map hdD)) := fun B9' => by
          refine (e_lc9 (l := P.hs) hdD (fun b => (8, hdD (lk m3 b.1, lk m2 b.2))) (xs := [(0, .lst (P.hs.map hdD))]) rfl rfl (by omega) (fun _ _ => by simp [fu]) fun b hb => ⟨_, rfl, ?_⟩).trans (by simp [hs])
          have g1 := hm.n3.get (List.mem_map.mpr ⟨b, hb, rfl⟩)
          have g2 := hm.n2.get (hP.hp b hb)
          simp [g1, g2, fu, ful]
          rfl
        rw [l_cons, l_cons, l_cons, l_nil, e]
        rfl
      · simp [-List.map_map, mvs, mv1, fu, ful, hl9]
      · simp [fu, ful]
      · simp [Pg.d, Pg.by, Pg.ren, bs, hs, R, Function.comp_def]
end
end MP

/-! PLq: names led back; programs called otherwise are programs. -/
namespace MP
open PySem PySem.Spec PyProof.Rows L2
section
variable {Γ : Gm}
def inv (m : Dn) : Dn := m.map fun p => (p.2, p.1)
theorem dD_fu {m : Dn} : fu (1, dD m) = true := by
  have h1 : ∀ k, fuls k (m.map fun p => D.str p.1) = true := fun k => fuls_map (fun _ => by cases k <;> rfl) m
  have h2 : ∀ k, fuls k (m.map fun p => D.str p.2) = true := fun k => fuls_map (fun _ => by cases k <;> rfl) m
  simp [fu, dD, ful, h1, h2]
def S_back (c : Fn) : Prop := ∀ m1 m2 m3 : Dn, (m1.map (·.1)).Nodup → (m2.map (·.1)).Nodup → (m3.map (·.1)).Nodup → (m1.map (·.2)).Nodup → (m2.map (·.2)).Nodup → (m3.map (·.2)).Nodup → m1.length ≤ 1000 → m2.length ≤ 1000 → m3.length ≤ 1000 →
  c [nmD m1 m2 m3] = .ok (8, nmD (inv m1) (inv m2) (inv m3))
theorem back_s : S_back (runF Γ [] 3 s__law_back) := fun m1 m2 m3 k1 k2 k3 v1 v2 v3 l1 l2 l3 => by
  refine runF_rt (go_ret ?_)
  have key : ∀ m ∈ [m1, m2, m3], (m.map (·.1)).Nodup ∧ (m.map (·.2)).Nodup ∧ m.length ≤ 1000 := fun m hm => by
    simp only [List.mem_cons, List.not_mem_nil, or_false] at hm
    rcases hm with rfl | rfl | rfl
    · exact ⟨k1, v1, l1⟩
    · exact ⟨k2, v2, l2⟩
    · exact ⟨k3, v3, l3⟩
  have e : evE Γ (.lc (.blt .dict [(.lc (.tup [(.idx (.nm 2) (.nm 3)), (.nm 3)]) (.nm 3) .keys [(.nm 2)] [] [1, 3])]) (.nm 2) .seq [(.nm 0)] [] [1, 2]) [some (0, nmD m1 m2 m3, []), none, none, none] = .ok (9, .lst [dD (inv m1), dD (inv m2), dD (inv m3)]) := by
    refine e_lc9 (l := [m1, m2, m3]) dD (fun m => (1, dD (inv m))) (xs := [(0, nmD m1 m2 m3)]) rfl rfl (by simp) (fun _ _ => dD_fu) fun m hm => ⟨_, rfl, ?_⟩
    obtain ⟨q1, q2, q3⟩ := key m hm
    rw [e_blt, l_cons, l_nil, e_lc9 (l := m) (fun p => .str p.1) (fun p => (8, hdD (p.2, p.1))) (xs := [(0, dD m)]) rfl rfl (by omega) (fun _ _ => by simp [fu]) fun p hp => ⟨_, rfl, ?_⟩]
    · have : m.map (fun a => ((8, hdD (a.2, a.1)) : Ent).2) = (inv m).map hdD := by simp [inv, Function.comp_def]
      rw [this, res_ok_bind, res_ok_bind, res_ok_bind]
      show Res.of (bltD .dict [.lst ((inv m).map hdD)]) = _
      rw [dict_str (by simpa [inv, Function.comp_def] using q2)]
      rfl
    · have := idx_dD (lookup_of q1 hp)
      simp [this, fu, ful]
      rfl
  have f : fu (9, .lst [dD (inv m1), dD (inv m2), dD (inv m3)]) = true := by
    have h1 : ∀ (m : Dn) k, ful (k + 1) (dD m) = true := fun m k => by
      have h1 : ∀ k, fuls k (m.map fun p => D.str p.1) = true := fun k => fuls_map (fun _ => by cases k <;> rfl) m
      have h2 : ∀ k, fuls k (m.map fun p => D.str p.2) = true := fun k => fuls_map (fun _ => by cases k <;> rfl) m
      simp [dD, ful, h1, h2]
    simp [fu, ful, fuls, h1]
  rw [e_tupl]
  simp only [List.map_cons, List.map_nil, List.append_eq, List.nil_append, List.cons_append, List.replicate]
  rw [e]
  simp [f, nmD]
end
/-! ### plain facts -/
theorem wof_in {n : Str} : ∀ {l : List Bx}, wof n l ≠ 0 → n ∈ l.map (·.1)
  | [], h => absurd rfl h
  | b :: l, h => by
    by_cases e : b.1 = n
    · rw [← e]; exact List.mem_cons_self
    · have h : (if b.1 = n then b.2.1 else wof n l) ≠ 0 := h
      rw [if_neg e] at h
      exact List.mem_cons_of_mem _ (wof_in h)
/-- a row's names are a program's -/
theorem Rw.ok_in {bs : List Bx} {pn : List Str} {nh : Nat} {en : Int} {r : Rw} (h : r.ok bs pn nh en = true) : match r with
    | .any _ => True
    | .call p _ => p ∈ pn
    | .put b _ _ => b ∈ bs.map (·.1)
    | .swap b _ _ _ => b ∈ bs.map (·.1)
    | .ask b _ => b ∈ bs.map (·.1)
    | .take b _ => b ∈ bs.map (·.1)
    | .give b _ => b ∈ bs.map (·.1) := by
  cases r <;> simp only [Rw.ok, Bool.and_eq_true, decide_eq_true_eq, bne_iff_ne] at h <;> first | trivial | exact h.1 | exact wof_in h.1 | exact wof_in h.1.1 | exact wof_in h.1.1.1
structure Good (P : Pg) (m1 m2 m3 : Dn) : Prop where
  g1 : GoodN (P.bs.map (·.1)) m1
  g2 : GoodN (P.ps.map (·.1)) m2
  g3 : GoodN (P.hs.map (·.1)) m3
theorem Good.ren {P : Pg} {m1 m2 m3 : Dn} (hP : P.Ok) (g : Good P m1 m2 m3) : RenOk P m1 m2 m3 := by
  refine ⟨g.g1.nm hP.bd, g.g2.nm hP.pd, g.g3.nm hP.hd, fun p hp r hr => ?_⟩
  have h := Rw.ok_in (hP.rw p hp r hr)
  have k1 : ∀ b, b ∈ P.bs.map (·.1) → ∃ v, m1.lookup b = some v := fun b hb => by obtain ⟨q, _, _, e⟩ := g.g1.get hb; exact ⟨_, e⟩
  have k2 : ∀ b, b ∈ P.ps.map (·.1) → ∃ v, m2.lookup b = some v := fun b hb => by obtain ⟨q, _, _, e⟩ := g.g2.get hb; exact ⟨_, e⟩
  cases r <;> first | trivial | exact k2 _ h | exact k1 _ h
theorem GoodN.lk_mem {ns : List Str} {m : Dn} (g : GoodN ns m) {n : Str} (hn : n ∈ ns) : ∃ p ∈ m, p.1 = n ∧ lk m n = p.2 := by
  obtain ⟨p, hp, e, h1⟩ := g.get hn
  exact ⟨p, hp, e, lk_some h1⟩
theorem GoodN.lk_ok {ns : List Str} {m : Dn} (g : GoodN ns m) {n : Str} (hn : n ∈ ns) : nmOk (lk m n) = true := by
  obtain ⟨p, hp, _, e⟩ := g.lk_mem hn
  rw [e]; exact g.vo p hp
theorem GoodN.inv {ns : List Str} {m : Dn} (g : GoodN ns m) (ho : ∀ n ∈ ns, nmOk n = true) : GoodN (ns.map (lk m)) (MP.inv m) := by
  have e1 : (MP.inv m).map (·.1) = m.map (·.2) := by simp [MP.inv, Function.comp_def]
  have e2 : (MP.inv m).map (·.2) = m.map (·.1) := by simp [MP.inv, Function.comp_def]
  refine ⟨by simp [MP.inv, g.len], by rw [e1]; exact g.vd, fun n => ?_, by rw [e2]; exact g.kd, fun p hp => ?_⟩
  · rw [e1]
    constructor
    · intro h
      obtain ⟨x, hx, rfl⟩ := List.mem_map.mp h
      obtain ⟨p, hp, _, e⟩ := g.lk_mem hx
      rw [e]
      exact List.mem_map.mpr ⟨p, hp, rfl⟩
    · intro h
      obtain ⟨p, hp, rfl⟩ := List.mem_map.mp h
      refine List.mem_map.mpr ⟨p.1, (g.km p.1).mpr (List.mem_map.mpr ⟨p, hp, rfl⟩), ?_⟩
      exact lk_some (lookup_of g.kd hp)
  · obtain ⟨q, hq, rfl⟩ := List.mem_map.mp hp
    exact ho _ ((g.km q.1).mpr (List.mem_map.mpr ⟨q, hq, rfl⟩))
theorem GoodN.back {ns : List Str} {m : Dn} (g : GoodN ns m) {n : Str} (hn : n ∈ ns) : lk (MP.inv m) (lk m n) = n := by
  obtain ⟨p, hp, rfl, e⟩ := g.lk_mem hn
  rw [e]
  refine lk_some ?_
  have : ((p.2, p.1) : Str × Str) ∈ MP.inv m := List.mem_map.mpr ⟨p, hp, rfl⟩
  exact lookup_of (m := MP.inv m) (by simpa [MP.inv, Function.comp_def] using g.vd) this
section
variable {P : Pg} {m1 m2 m3 : Dn}
theorem by_bn : (P.by m1 m2 m3).bs.map (·.1) = (P.bs.map (·.1)).map (lk m1) := by simp [Pg.by, Pg.ren, Function.comp_def]
theorem by_pn : (P.by m1 m2 m3).ps.map (·.1) = (P.ps.map (·.1)).map (lk m2) := by simp [Pg.by, Pg.ren, Function.comp_def]
theorem by_hn : (P.by m1 m2 m3).hs.map (·.1) = (P.hs.map (·.1)).map (lk m3) := by simp [Pg.by, Pg.ren, Function.comp_def]
theorem by_nodup {ns : List Str} {m : Dn} (g : GoodN ns m) (h : ns.Nodup) : (ns.map (lk m)).Nodup := nodup_map h fun a ha b hb e => g.lk_inj ha hb e
theorem by_wof (hP : P.Ok) (g : Good P m1 m2 m3) {b : Str} (hb : b ∈ P.bs.map (·.1)) : wof (lk m1 b) (P.by m1 m2 m3).bs = wof b P.bs := by
  obtain ⟨x, hx, rfl⟩ := List.mem_map.mp hb
  rw [wof_mem hP.bd hx]
  have : ((lk m1 x.1, x.2) : Bx) ∈ (P.by m1 m2 m3).bs := List.mem_map.mpr ⟨x, hx, rfl⟩
  exact wof_mem (b := (lk m1 x.1, x.2)) (by rw [by_bn]; exact by_nodup g.g1 hP.bd) this
theorem by_ok (hP : P.Ok) (g : Good P m1 m2 m3) : (P.by m1 m2 m3).Ok := by
  have ew : (P.by m1 m2 m3).bs.map (·.2.1) = P.bs.map (·.2.1) := by simp [Pg.by, Pg.ren, Function.comp_def]
  refine ⟨by simpa [Pg.by, Pg.ren] using hP.bl, fun b hb => ?_, fun b hb => ?_, by rw [by_bn]; exact by_nodup g.g1 hP.bd, by rw [ew]; exact hP.bp, by simpa [Pg.by, Pg.ren] using hP.pl, fun q hq => ?_, by rw [by_pn]; exact by_nodup g.g2 hP.pd, fun q hq => ?_, fun q hq r hr m hm => ?_, fun q hq r hr => ?_, by simpa [Pg.by, Pg.ren] using hP.hl, fun h hh => ?_, fun h hh => ?_, by rw [by_hn]; exact by_nodup g.g3 hP.hd, fun h hh => ?_⟩
  · obtain ⟨x, hx, rfl⟩ := List.mem_map.mp hb
    exact g.g1.lk_ok (List.mem_map.mpr ⟨x, hx, rfl⟩)
  · obtain ⟨x, hx, rfl⟩ := List.mem_map.mp hb
    exact hP.bw x hx
  · obtain ⟨x, hx, rfl⟩ := List.mem_map.mp hq
    exact g.g2.lk_ok (List.mem_map.mpr ⟨x, hx, rfl⟩)
  · obtain ⟨x, hx, rfl⟩ := List.mem_map.mp hq
    simpa using hP.pr x hx
  · obtain ⟨x, hx, rfl⟩ := List.mem_map.mp hq
    obtain ⟨r', hr', rfl⟩ := List.mem_map.mp hr
    have h := Rw.ok_in (hP.rw x hx r' hr')
    cases r' <;> simp [Rw.ren, Rw.nms] at hm <;> subst hm <;> first | exact g.g2.lk_ok h | exact g.g1.lk_ok h
  · obtain ⟨x, hx, rfl⟩ := List.mem_map.mp hq
    obtain ⟨r', hr', rfl⟩ := List.mem_map.mp hr
    have h := hP.rw x hx r' hr'
    have h2 := Rw.ok_in h
    have e1 : (P.by m1 m2 m3).hs.length = P.hs.length := by simp [Pg.by, Pg.ren]
    rw [e1, by_pn, List.length_map]
    cases r' with
    | any ts => exact h
    | call p t =>
      simp only [Rw.ok, Bool.and_eq_true, decide_eq_true_eq] at h
      simp only [Rw.ren, Rw.ok, Bool.and_eq_true, decide_eq_true_eq]
      exact ⟨List.mem_map.mpr ⟨p, h.1, rfl⟩, h.2⟩
    | put b w t => simpa only [Rw.ren, Rw.ok, by_wof hP g h2] using h
    | swap b o n t => simpa only [Rw.ren, Rw.ok, by_wof hP g h2] using h
    | ask b ts => simpa only [Rw.ren, Rw.ok, by_wof hP g h2] using h
    | take b t => simpa only [Rw.ren, Rw.ok, by_wof hP g h2] using h
    | give b t => simpa only [Rw.ren, Rw.ok, by_wof hP g h2] using h
  · obtain ⟨x, hx, rfl⟩ := List.mem_map.mp hh
    exact g.g3.lk_ok (List.mem_map.mpr ⟨x, hx, rfl⟩)
  · obtain ⟨x, hx, rfl⟩ := List.mem_map.mp hh
    exact g.g2.lk_ok (hP.hp x hx)
  · obtain ⟨x, hx, rfl⟩ := List.mem_map.mp hh
    rw [by_pn]
    exact List.mem_map.mpr ⟨_, hP.hp x hx, rfl⟩
theorem by_good (hP : P.Ok) (g : Good P m1 m2 m3) : Good (P.by m1 m2 m3) (inv m1) (inv m2) (inv m3) := by
  refine ⟨?_, ?_, ?_⟩
  · rw [by_bn]
    exact g.g1.inv fun n hn => by obtain ⟨x, hx, rfl⟩ := List.mem_map.mp hn; exact hP.bn x hx
  · rw [by_pn]
    exact g.g2.inv fun n hn => by obtain ⟨x, hx, rfl⟩ := List.mem_map.mp hn; exact hP.pn x hx
  · rw [by_hn]
    exact g.g3.inv fun n hn => by obtain ⟨x, hx, rfl⟩ := List.mem_map.mp hn; exact hP.hn x hx
theorem map_same {α : Type} {f : α → α} {l : List α} (h : ∀ a ∈ l, f a = a) : l.map f = l := by
  have := List.map_congr_left h
  rw [this]
  exact List.map_id' l
theorem by_back (hP : P.Ok) (g : Good P m1 m2 m3) : (P.by m1 m2 m3).by (inv m1) (inv m2) (inv m3) = P := by
  obtain ⟨bs, ps, hs⟩ := P
  simp only [Pg.by, Pg.ren, List.map_map]
  congr 1
  · refine map_same fun b hb => ?_
    have := g.g1.back (n := b.1) (List.mem_map.mpr ⟨b, hb, rfl⟩)
    simp only [Function.comp, this]
  · refine map_same fun p hp => ?_
    have e1 := g.g2.back (n := p.1) (List.mem_map.mpr ⟨p, hp, rfl⟩)
    simp only [Function.comp, e1, List.map_map]
    have : p.2.map (Rw.ren (lk (inv m1)) (lk (inv m2)) ∘ Rw.ren (lk m1) (lk m2)) = p.2 := map_same fun r hr => by
      have h := Rw.ok_in (hP.rw p hp r hr)
      cases r with
      | any ts => rfl
      | call x t => simp only [Function.comp, Rw.ren, g.g2.back h]
      | put b w t => simp only [Function.comp, Rw.ren, g.g1.back h]
      | swap b o n t => simp only [Function.comp, Rw.ren, g.g1.back h]
      | ask b ts => simp only [Function.comp, Rw.ren, g.g1.back h]
      | take b t => simp only [Function.comp, Rw.ren, g.g1.back h]
      | give b t => simp only [Function.comp, Rw.ren, g.g1.back h]
    rw [this]
  · refine map_same fun h hh => ?_
    have e1 := g.g3.back (n := h.1) (List.mem_map.mpr ⟨h, hh, rfl⟩)
    have e2 := g.g2.back (hP.hp h hh)
    simp only [Function.comp, e1, e2]
end
/-! ### a name put otherwise -/
theorem nodup_of_map {α β : Type} {f : α → β} : ∀ {l : List α}, (l.map f).Nodup → l.Nodup
  | [], _ => List.nodup_nil
  | a :: l, h => by
    rw [List.map_cons, List.nodup_cons] at h
    exact List.nodup_cons.mpr ⟨fun z => h.1 (List.mem_map.mpr ⟨a, z, rfl⟩), nodup_of_map h.2⟩
theorem fst_inj {m : Dn} (h : (m.map (·.1)).Nodup) {p q : Str × Str} (hp : p ∈ m) (hq : q ∈ m) (e : p.1 = q.1) : p = q := by
  have h1 := lookup_of h hp
  have h2 := lookup_of h hq
  rw [e, h2] at h1
  obtain ⟨a, b⟩ := p
  obtain ⟨c, d⟩ := q
  simp only [Option.some.injEq] at h1 e
  rw [e, h1]
def putZ (k : Str) (m : Dn) : Dn := m.map fun p => if p.1 = k then (p.1, zz) else p
theorem dput_z {k : Str} : ∀ {m : Dn}, dput (.inr k) (.str zz) (m.map fun p => .str p.1) (m.map fun p => .str p.2) = (putZ k m).map fun p => .str p.2
  | [] => rfl
  | p :: m => by
    show (if key? (.str p.1) = some (.inr k) then D.str zz :: dput _ _ _ _ else D.str p.2 :: dput _ _ _ _) = _
    rw [dput_z]
    by_cases h : p.1 = k
    · rw [if_pos (by rw [h]; rfl)]
      simp [putZ, h]
    · rw [if_neg (by simp [key?, h])]
      simp [putZ, h]
theorem dset_z {k : Str} {m : Dn} (h : k ∈ m.map (·.1)) : D.dct (dset (.inr k) (.str zz) (m.map fun p => .str p.1, m.map fun p => .str p.2)).1 (dset (.inr k) (.str zz) (m.map fun p => .str p.1, m.map fun p => .str p.2)).2 = dD (putZ k m) := by
  unfold dset
  rw [has_str, decide_eq_true h, if_pos rfl]
  dsimp only
  rw [dput_z]
  have : (m.map fun p => D.str p.1) = (putZ k m).map fun p => D.str p.1 := by
    unfold putZ
    rw [List.map_map]
    refine List.map_congr_left fun p _ => ?_
    dsimp only [Function.comp]
    split <;> rfl
  rw [this]
  rfl
theorem GoodN.putZ {ns : List Str} {m : Dn} {k : Str} (g : GoodN ns m) (hz : ∀ p ∈ m, p.2 ≠ zz) : GoodN ns (MP.putZ k m) := by
  have e1 : (MP.putZ k m).map (·.1) = m.map (·.1) := by
    unfold MP.putZ
    rw [List.map_map]
    refine List.map_congr_left fun p _ => ?_
    dsimp only [Function.comp]
    split <;> rfl
  refine ⟨by simp [MP.putZ, g.len], by rw [e1]; exact g.kd, fun n => by rw [e1]; exact g.km n, ?_, fun p hp => ?_⟩
  · unfold MP.putZ
    rw [List.map_map]
    refine nodup_map (nodup_of_map g.kd) fun a ha b hb e => ?_
    dsimp only [Function.comp] at e
    by_cases h1 : a.1 = k <;> by_cases h2 : b.1 = k
    · exact fst_inj g.kd ha hb (h1.trans h2.symm)
    · rw [if_pos h1, if_neg h2] at e
      exact absurd e.symm (hz b hb)
    · rw [if_neg h1, if_pos h2] at e
      exact absurd e (hz a ha)
    · rw [if_neg h1, if_neg h2] at e
      exact snd_inj g.vd ha hb e
  · obtain ⟨q, hq, rfl⟩ := List.mem_map.mp hp
    split
    · exact (by decide +kernel : nmOk zz = true)
    · exact g.vo q hq
end MP

/-! PLr: == and repr of what stands for programs. -/
namespace MP
open PySem PySem.Spec PyProof.Rows L2
/-! ### == -/
mutual
theorem eqd_refl : ∀ {n : Nat} {d : D}, okd n d = true → eqd d d = true
  | _, .non, _ => rfl
  | _, .bl b, _ => by show (b == b) = true; simp
  | _, .int i, _ => by show (i == i) = true; simp
  | _, .str s, _ => by show (s == s) = true; simp
  | 0, .tup ds, h => by simp [okd] at h
  | 0, .lst ds, h => by simp [okd] at h
  | n + 1, .tup ds, h => by
    show eqds ds ds = true
    exact eqds_refl (n := n) (by simpa only [okd] using h)
  | n + 1, .lst ds, h => by
    show eqds ds ds = true
    exact eqds_refl (n := n) (by simpa only [okd] using h)
  | n, .scr ds, h => by cases n <;> simp [okd] at h
  | n, .dct ks vs, h => by cases n <;> simp [okd] at h
  | n, .exc c ks vs, h => by cases n <;> simp [okd] at h
theorem eqds_refl : ∀ {n : Nat} {ds : List D}, okds n ds = true → eqds ds ds = true
  | _, [], _ => rfl
  | n, d :: ds, h => by
    simp only [okds, Bool.and_eq_true] at h
    show (eqd d d && eqds ds ds) = true
    rw [eqd_refl h.1, eqds_refl h.2]
    rfl
end
theorem eqD_refl {d : D} (h : okd 60 d = true) : eqD d d = some true := by
  unfold eqD
  rw [h, eqd_refl h]
  rfl
theorem okds_map {α : Type} {n : Nat} {f : α → D} : ∀ {l : List α}, (∀ a ∈ l, okd n (f a) = true) → okds n (l.map f) = true
  | [], _ => rfl
  | a :: l, h => by
    rw [List.map_cons, okds, h a List.mem_cons_self, okds_map fun b hb => h b (List.mem_cons_of_mem _ hb)]
    rfl
theorem okd_str {n : Nat} {s : Str} (h : sOk s = true) : okd n (.str s) = true := by cases n <;> exact h
theorem okd_int {n : Nat} {i : Int} : okd n (.int i) = true := by cases n <;> rfl
theorem okd_oD {n : Nat} {o : Option Int} : okd n (oD o) = true := by cases o <;> cases n <;> rfl
theorem Rw.okd {r : Rw} {n : Nat} (h : ∀ x ∈ r.nms, sOk x = true) : MP.okd (n + 2) r.d = true := by
  have w : ∀ s : Str, s ∈ (["put", "swap", "ask", "any", "call", "take", "give"] : List Str) → PyData.strOk s = true := by decide +kernel
  have h : ∀ x ∈ r.nms, PyData.strOk x = true := h
  have h1 : ∀ (ts : List Int) n, okds n (ts.map .int) = true := fun ts n => okds_map fun _ _ => okd_int
  have h2 : ∀ (ts : List (Option Int)) n, okds n (ts.map oD) = true := fun ts n => okds_map fun _ _ => okd_oD
  cases r with
  | any ts => simp [Rw.d, MP.okd, okds, w "any" (by decide +kernel), h1]
  | ask b ts => simp [Rw.d, MP.okd, okds, w "ask" (by decide +kernel), h b (by simp [Rw.nms]), h2]
  | put b _ _ => simp [Rw.d, MP.okd, okds, w "put" (by decide +kernel), h b (by simp [Rw.nms]), MP.okd]
  | swap b _ _ _ => simp [Rw.d, MP.okd, okds, w "swap" (by decide +kernel), h b (by simp [Rw.nms]), MP.okd]
  | call b _ => simp [Rw.d, MP.okd, okds, w "call" (by decide +kernel), h b (by simp [Rw.nms]), MP.okd]
  | take b _ => simp [Rw.d, MP.okd, okds, w "take" (by decide +kernel), h b (by simp [Rw.nms]), MP.okd]
  | give b _ => simp [Rw.d, MP.okd, okds, w "give" (by decide +kernel), h b (by simp [Rw.nms]), MP.okd]
theorem Pg.Ok.okd {P : Pg} (h : P.Ok) : MP.okd 60 P.d = true := by
  have h1 : okds 58 (P.bs.map bxD) = true := okds_map fun b hb => by
    show okds 57 [.str b.1, .int b.2.1, .int b.2.2] = true
    have : PyData.strOk b.1 = true := nmOk_sOk (h.bn b hb)
    simp [okds, MP.okd, this]
  have h2 : okds 58 (P.ps.map pcD) = true := okds_map fun p hp => by
    show okds 57 [.str p.1, .lst (p.2.map Rw.d)] = true
    have : okds 56 (p.2.map Rw.d) = true := okds_map fun r hr => Rw.okd fun x hx => nmOk_sOk (h.rn p hp r hr x hx)
    have q : PyData.strOk p.1 = true := nmOk_sOk (h.pn p hp)
    simp [okds, q, MP.okd, this]
  have h3 : okds 58 (P.hs.map hdD) = true := okds_map fun b hb => by
    show okds 57 [.str b.1, .str b.2] = true
    have q : PyData.strOk b.1 = true := nmOk_sOk (h.hn b hb)
    have q2 : PyData.strOk b.2 = true := nmOk_sOk (h.hm b hb)
    simp [okds, MP.okd, q, q2]
  show okds 59 [.lst (P.bs.map bxD), .lst (P.ps.map pcD), .lst (P.hs.map hdD)] = true
  simp [okds, MP.okd, h1, h2, h3]
/-! ### repr -/
/-- signs below 128 -/
def asc (s : Str) : Bool := s.cps.toList.all fun c => decide (c < 128)
theorem asc_app {a b : Str} (h1 : asc a = true) (h2 : asc b = true) : asc (a ++ b) = true := by
  unfold asc at *
  rw [show (a ++ b).cps = a.cps ++ b.cps from rfl, Array.toList_append, List.all_append, h1, h2]
  rfl
theorem asc_sOk {s : Str} (h : asc s = true) : sOk s = true := by
  unfold sOk PyData.strOk
  unfold asc at h
  rw [← Array.all_toList]
  rw [List.all_eq_true] at h ⊢
  intro c hc
  have := h c hc
  simp only [decide_eq_true_eq] at this ⊢
  omega
theorem asc_join : ∀ {ts : List Str}, (∀ t ∈ ts, asc t = true) → asc (Str.join ", " ts) = true
  | [], _ => rfl
  | [x], h => h x List.mem_cons_self
  | x :: y :: r, h => by
    show asc (x ++ ", " ++ Str.join ", " (y :: r)) = true
    exact asc_app (asc_app (h x List.mem_cons_self) (by decide +kernel)) (asc_join fun t ht => h t (List.mem_cons_of_mem _ ht))
theorem asc_char : ∀ (c : _root_.Fin 128), ((Builtin.Str.reprChar 39 c).all fun c => decide (c < 128)) = true ∧ ((Builtin.Str.reprChar 34 c).all fun c => decide (c < 128)) = true := by decide +kernel
theorem asc_repr {s : Str} (h : asc s = true) : asc (reprText s) = true := by
  have hq : reprQuote s = 39 ∨ reprQuote s = 34 := by
    unfold reprQuote
    split
    · exact .inr rfl
    · exact .inl rfl
  unfold asc at h
  rw [List.all_eq_true] at h
  have key : ∀ (l : List Nat) (acc : Array Nat), (∀ c ∈ l, c < 128) → (acc.toList.all fun c => decide (c < 128)) = true → ((l.foldl (fun out c => out ++ (Builtin.Str.reprChar (reprQuote s) c).toArray) acc).toList.all fun c => decide (c < 128)) = true := by
    intro l
    induction l with
    | nil => exact fun acc _ h => h
    | cons c l ih =>
      intro acc hl ha
      rw [List.foldl_cons]
      refine ih _ (fun x hx => hl x (List.mem_cons_of_mem _ hx)) ?_
      rw [Array.toList_append, List.all_append, ha]
      have := asc_char ⟨c, hl c List.mem_cons_self⟩
      rcases hq with hq | hq <;> rw [hq]
      · exact this.1
      · exact this.2
  unfold asc reprText
  dsimp only
  rw [Array.toList_push, List.all_append, ← Array.foldl_toList, key _ _ (fun c hc => by simpa using h c hc) (by rcases hq with hq | hq <;> rw [hq] <;> rfl)]
  rcases hq with hq | hq <;> rw [hq] <;> rfl
mutual
/-- small things: no scripts, no exceptions, small numbers, short texts, keys for keys -/
def smD : D → Bool
  | .non => true
  | .bl _ => true
  | .int i => decide (0 ≤ i) && decide (i < 1000)
  | .str s => asc s && decide (s.length ≤ 1000)
  | .tup ds => smDs ds
  | .lst ds => smDs ds
  | .dct ks vs => smDs ks && smDs vs && decide (ks.length = vs.length)
  | .scr _ => false
  | .exc _ _ _ => false
def smDs : List D → Bool
  | [] => true
  | d :: ds => smD d && smDs ds
end
mutual
def wD : D → Nat
  | .non => 4
  | .bl _ => 5
  | .int _ => 3
  | .str s => 10 * s.length + 2
  | .tup ds => wDs ds + 4
  | .lst ds => wDs ds + 4
  | .dct ks vs => wDs ks + wDs vs + 4
  | _ => 0
def wDs : List D → Nat
  | [] => 0
  | d :: ds => wD d + 2 + wDs ds
end
mutual
def dpD : D → Nat
  | .tup ds => dpDs ds + 1
  | .lst ds => dpDs ds + 1
  | .dct ks vs => max (dpDs ks) (dpDs vs) + 1
  | _ => 0
def dpDs : List D → Nat
  | [] => 0
  | d :: ds => max (dpD d) (dpDs ds)
end
theorem join_le (ts : List Str) : (Str.join ", " ts).length ≤ (ts.map fun t => t.length + 2).sum := by
  cases ts with
  | nil => exact Nat.zero_le _
  | cons t ts =>
    have := join_length_add (t :: ts) (by simp)
    unfold piled at this
    omega
theorem int_asc : ∀ i : Int, 0 ≤ i → i < 1000 → asc (((toString i : String) : Str)) = true := by
  have key : ∀ n : _root_.Fin 1000, asc (((toString (n.val : Int) : String) : Str)) = true := by decide +kernel
  intro i h0 h1
  have := key ⟨i.toNat, by omega⟩
  rwa [show ((i.toNat : Nat) : Int) = i by omega] at this
theorem int_show : ∀ i : Int, 0 ≤ i → i < 1000 → (((toString i : String) : Str)).length ≤ 3 := by
  have key : ∀ n : _root_.Fin 1000, (((toString (n.val : Int) : String) : Str)).length ≤ 3 := by decide +kernel
  intro i h0 h1
  have := key ⟨i.toNat, by omega⟩
  rwa [show ((i.toNat : Nat) : Int) = i by omega] at this
def lsum (ts : List Str) : Nat := (ts.map fun t => t.length + 2).sum
theorem lsum_cons {t : Str} {ts : List Str} : lsum (t :: ts) = t.length + 2 + lsum ts := by simp [lsum]
theorem kv_show : ∀ (qs rs : List PyData), qs.length = rs.length → PyData.showableAll qs = true → PyData.showableAll rs = true → PyData.showableKv (qs.zip rs) = true ∧ lsum (PyData.shownKv (qs.zip rs)) ≤ lsum (PyData.shownAll qs) + lsum (PyData.shownAll rs) ∧ PyData.depthKv (qs.zip rs) ≤ max (PyData.depthAll qs) (PyData.depthAll rs)
  | [], [], _, _, _ => by simp [PyData.showableKv, PyData.shownKv, PyData.shownAll, PyData.depthKv, PyData.depthAll]
  | q :: qs, r :: rs, hl, h1, h2 => by
    simp only [PyData.showableAll, Bool.and_eq_true] at h1 h2
    obtain ⟨k1, k2, k3⟩ := kv_show qs rs (by simpa using hl) h1.2 h2.2
    rw [List.zip_cons_cons]
    refine ⟨?_, ?_, ?_⟩
    · simp only [PyData.showableKv, Bool.and_eq_true]
      exact ⟨⟨h1.1, h2.1⟩, k1⟩
    · rw [PyData.shownKv_cons, PyData.shownAll_cons, PyData.shownAll_cons, lsum_cons, lsum_cons, lsum_cons, PySem.Str.length_append, PySem.Str.length_append]
      have : ((": " : String) : Str).length = 2 := rfl
      omega
    · simp only [PyData.depthKv, PyData.depthAll]
      omega
mutual
theorem show_le : ∀ {d : D}, smD d = true → (toQ d).showable = true ∧ (toQ d).shown.length ≤ wD d ∧ (toQ d).depth ≤ dpD d ∧ repK d = true
  | .non, _ => by simp [toQ, PyData.showable, PyData.shown, PyData.depth, wD, dpD, repK]; decide +kernel
  | .bl b, _ => by
    cases b <;> simp [toQ, PyData.showable, PyData.shown, PyData.depth, wD, dpD, repK] <;> decide +kernel
  | .int i, h => by
    simp only [smD, Bool.and_eq_true, decide_eq_true_eq] at h
    have := int_show i h.1 h.2
    refine ⟨?_, by simpa [toQ, PyData.shown, wD] using this, by simp [toQ, PyData.depth], rfl⟩
    simp only [toQ, PyData.showable, decide_eq_true_eq]
    by_cases h0 : i = 0
    · subst h0; decide
    · have : i.natAbs.log2 < 64 := (Nat.log2_lt (by omega)).mpr (by omega)
      omega
  | .str s, h => by
    simp only [smD, Bool.and_eq_true, decide_eq_true_eq] at h
    have hs : ∀ c ∈ s.cps.toList, c < 16 ^ 8 := fun c hc => by
      have h1 := asc_sOk h.1
      unfold sOk PyData.strOk at h1
      rw [← Array.all_toList, List.all_eq_true] at h1
      have := h1 c hc
      simp only [decide_eq_true_eq] at this
      omega
    have := StrLaws.reprText_len s hs
    refine ⟨rfl, by simpa [toQ, PyData.shown, wD] using this, by simp [toQ, PyData.depth], rfl⟩
  | .tup ds, h => by
    obtain ⟨h1, h2, h3, h4⟩ := shows_le (ds := ds) (by simpa only [smD] using h)
    refine ⟨by simpa only [toQ, PyData.showable] using h1, ?_, ?_, by simpa only [repK] using h4⟩
    · simp only [toQ, wD]
      rw [PyData.shown_tuple, PySem.Str.length_append, PySem.Str.length_append]
      have j := join_le (PyData.shownAll (toQs ds))
      have e1 : (("(" : String) : Str).length = 1 := rfl
      have e2 : (((if (toQs ds).length == 1 then ",)" else ")" : String)) : Str).length ≤ 2 := by split <;> decide
      unfold lsum at h2
      omega
    · simp only [toQ, PyData.depth, dpD]
      omega
  | .lst ds, h => by
    obtain ⟨h1, h2, h3, h4⟩ := shows_le (ds := ds) (by simpa only [smD] using h)
    refine ⟨by simpa only [toQ, PyData.showable] using h1, ?_, ?_, by simpa only [repK] using h4⟩
    · simp only [toQ, wD]
      rw [PyData.shown_list, PySem.Str.length_append, PySem.Str.length_append]
      have j := join_le (PyData.shownAll (toQs ds))
      have e1 : (("[" : String) : Str).length = 1 := rfl
      have e2 : (("]" : String) : Str).length = 1 := rfl
      unfold lsum at h2
      omega
    · simp only [toQ, PyData.depth, dpD]
      omega
  | .dct ks vs, h => by
    simp only [smD, Bool.and_eq_true, decide_eq_true_eq] at h
    obtain ⟨h1, h2, h3, h4⟩ := shows_le (ds := ks) h.1.1
    obtain ⟨i1, i2, i3, i4⟩ := shows_le (ds := vs) h.1.2
    obtain ⟨k1, k2, k3⟩ := kv_show (toQs ks) (toQs vs) (by rw [toQs_length, toQs_length]; exact h.2) h1 i1
    refine ⟨by simpa only [toQ, PyData.showable] using k1, ?_, ?_, by simpa only [repK] using i4⟩
    · simp only [toQ, wD]
      rw [PyData.shown_dict, PySem.Str.length_append, PySem.Str.length_append]
      have j := join_le (PyData.shownKv ((toQs ks).zip (toQs vs)))
      have e1 : (("{" : String) : Str).length = 1 := rfl
      have e2 : (("}" : String) : Str).length = 1 := rfl
      unfold lsum at k2 h2 i2
      omega
    · simp only [toQ, PyData.depth, dpD]
      omega
  | .scr _, h => by simp [smD] at h
  | .exc _ _ _, h => by simp [smD] at h
theorem shows_le : ∀ {ds : List D}, smDs ds = true → PyData.showableAll (toQs ds) = true ∧ lsum (PyData.shownAll (toQs ds)) ≤ wDs ds ∧ PyData.depthAll (toQs ds) ≤ dpDs ds ∧ repKs ds = true
  | [], _ => by simp [toQs, PyData.showableAll, PyData.shownAll, PyData.depthAll, wDs, dpDs, repKs, lsum]
  | d :: ds, h => by
    simp only [smDs, Bool.and_eq_true] at h
    obtain ⟨h1, h2, h3, h4⟩ := show_le h.1
    obtain ⟨i1, i2, i3, i4⟩ := shows_le h.2
    refine ⟨by simp [toQs, PyData.showableAll, h1, i1], ?_, ?_, by simp [repKs, h4, i4]⟩
    · simp only [toQs]
      rw [PyData.shownAll_cons, lsum_cons]
      simp only [wDs]
      omega
    · simp only [toQs, PyData.depthAll, dpDs]
      omega
end
theorem rpr_ok {d : D} (h1 : smD d = true) (h2 : isRf d = true) (h3 : wD d ≤ 16000000) (h4 : dpD d ≤ 60) : rprD d = some (0, .str (toQ d).shown) := by
  obtain ⟨k1, k2, k3, k4⟩ := show_le h1
  unfold rprD
  rw [h2, k4, k1, decide_eq_true (show (toQ d).shown.length ≤ sizeLine from Nat.le_trans k2 (Nat.le_trans h3 (by decide))), decide_eq_true (show (toQ d).depth ≤ 60 by omega)]
  rfl
theorem smDs_map {α : Type} {f : α → D} : ∀ {l : List α}, (∀ a ∈ l, smD (f a) = true) → smDs (l.map f) = true
  | [], _ => rfl
  | a :: l, h => by
    rw [List.map_cons, smDs, h a List.mem_cons_self, smDs_map fun b hb => h b (List.mem_cons_of_mem _ hb)]
    rfl
theorem wDs_map {α : Type} {f : α → D} {B : Nat} : ∀ {l : List α}, (∀ a ∈ l, wD (f a) + 2 ≤ B) → wDs (l.map f) ≤ l.length * B
  | [], _ => Nat.zero_le _
  | a :: l, h => by
    have h1 := h a List.mem_cons_self
    have h2 := wDs_map fun b hb => h b (List.mem_cons_of_mem _ hb)
    rw [List.map_cons, wDs, List.length_cons, Nat.add_mul]
    omega
theorem dpDs_map {α : Type} {f : α → D} {B : Nat} : ∀ {l : List α}, (∀ a ∈ l, dpD (f a) ≤ B) → dpDs (l.map f) ≤ B
  | [], _ => Nat.zero_le _
  | a :: l, h => by
    have h1 := h a List.mem_cons_self
    have h2 := dpDs_map fun b hb => h b (List.mem_cons_of_mem _ hb)
    rw [List.map_cons, dpDs]
    omega
theorem kv_asc : ∀ (qs rs : List PyData), (∀ t ∈ PyData.shownAll qs, asc t = true) → (∀ t ∈ PyData.shownAll rs, asc t = true) → ∀ t ∈ PyData.shownKv (qs.zip rs), asc t = true
  | [], _, _, _, t, h => by simp [PyData.shownKv] at h
  | _ :: _, [], _, _, t, h => by simp [PyData.shownKv] at h
  | q :: qs, r :: rs, h1, h2, t, h => by
    rw [List.zip_cons_cons, PyData.shownKv_cons] at h
    rw [PyData.shownAll_cons] at h1 h2
    rcases List.mem_cons.mp h with rfl | h
    · exact asc_app (asc_app (h1 _ List.mem_cons_self) (by decide +kernel)) (h2 _ List.mem_cons_self)
    · exact kv_asc qs rs (fun t ht => h1 t (List.mem_cons_of_mem _ ht)) (fun t ht => h2 t (List.mem_cons_of_mem _ ht)) t h
mutual
theorem show_asc : ∀ {d : D}, smD d = true → asc (toQ d).shown = true
  | .non, _ => by simp only [toQ, PyData.shown_none]; decide +kernel
  | .bl b, _ => by cases b <;> simp only [toQ, PyData.shown_bool] <;> decide +kernel
  | .int i, h => by
    simp only [smD, Bool.and_eq_true, decide_eq_true_eq] at h
    simp only [toQ, PyData.shown_int]
    exact int_asc i h.1 h.2
  | .str s, h => by
    simp only [smD, Bool.and_eq_true, decide_eq_true_eq] at h
    simp only [toQ, PyData.shown_str]
    exact asc_repr h.1
  | .tup ds, h => by
    have k := shows_asc (ds := ds) (by simpa only [smD] using h)
    simp only [toQ]
    rw [PyData.shown_tuple]
    exact asc_app (asc_app (by decide +kernel) (asc_join k)) (by split <;> decide +kernel)
  | .lst ds, h => by
    have k := shows_asc (ds := ds) (by simpa only [smD] using h)
    simp only [toQ]
    rw [PyData.shown_list]
    exact asc_app (asc_app (by decide +kernel) (asc_join k)) (by decide +kernel)
  | .dct ks vs, h => by
    simp only [smD, Bool.and_eq_true, decide_eq_true_eq] at h
    have k1 := shows_asc (ds := ks) h.1.1
    have k2 := shows_asc (ds := vs) h.1.2
    simp only [toQ]
    rw [PyData.shown_dict]
    exact asc_app (asc_app (by decide +kernel) (asc_join (kv_asc _ _ k1 k2))) (by decide +kernel)
  | .scr _, h => by simp [smD] at h
  | .exc _ _ _, h => by simp [smD] at h
theorem shows_asc : ∀ {ds : List D}, smDs ds = true → ∀ t ∈ PyData.shownAll (toQs ds), asc t = true
  | [], _, t, ht => by simp [toQs, PyData.shownAll] at ht
  | d :: ds, h, t, ht => by
    simp only [smDs, Bool.and_eq_true] at h
    simp only [toQs] at ht
    rw [PyData.shownAll_cons] at ht
    rcases List.mem_cons.mp ht with rfl | ht
    · exact show_asc h.1
    · exact shows_asc h.2 t ht
end
theorem rpr_ex {d : D} (h1 : smD d = true) (h2 : isRf d = true) (h3 : wD d ≤ 16000000) (h4 : dpD d ≤ 60) : ∃ s, sOk s = true ∧ rprD d = some (0, .str s) := ⟨_, asc_sOk (show_asc h1), rpr_ok h1 h2 h3 h4⟩
end MP

/-! PLs: repr of programs and names. -/
namespace MP
open PySem PySem.Spec PyProof.Rows L2
theorem wof_le {n : Str} : ∀ {l : List Bx}, (∀ b ∈ l, b.2.1 ≤ 6) → wof n l ≤ 6
  | [], _ => (by decide : (0 : Int) ≤ 6)
  | c :: l, h => by
    show (if c.1 = n then c.2.1 else wof n l) ≤ 6
    split
    · exact h c List.mem_cons_self
    · exact wof_le fun b hb => h b (List.mem_cons_of_mem _ hb)
theorem sm_i {i lo hi : Int} (h : inW i lo hi = true) (h0 : 0 ≤ lo) (h1 : hi ≤ 1000) : smD (.int i) = true := by
  simp only [inW, Bool.and_eq_true, decide_eq_true_eq] at h
  simp only [smD, Bool.and_eq_true, decide_eq_true_eq]
  omega
theorem nmOk_asc {s : Str} (h : nmOk s = true) : asc s = true := by
  unfold nmOk at h
  simp only [Bool.and_eq_true, decide_eq_true_eq, List.all_eq_true] at h
  unfold asc
  rw [List.all_eq_true]
  intro c hc
  have := h.2 c hc
  unfold lowC at this
  simp only [Bool.and_eq_true, decide_eq_true_eq] at this
  exact decide_eq_true (by omega)
theorem nm_sm {s : Str} (h : nmOk s = true) : smD (.str s) = true ∧ wD (.str s) ≤ 82 := by
  have h1 := nmOk_asc h
  unfold nmOk at h
  simp only [Bool.and_eq_true, decide_eq_true_eq] at h
  refine ⟨?_, ?_⟩
  · simp only [smD, Bool.and_eq_true, decide_eq_true_eq]
    exact ⟨h1, by omega⟩
  · simp only [wD]
    omega
theorem word_sm : ∀ s ∈ (["put", "swap", "ask", "any", "call", "take", "give"] : List Str), smD (.str s) = true ∧ wD (.str s) ≤ 42 := by
  intro s hs
  simp only [List.mem_cons, List.not_mem_nil, or_false] at hs
  rcases hs with rfl | rfl | rfl | rfl | rfl | rfl | rfl <;> exact ⟨by decide +kernel, by decide +kernel⟩
theorem oD_sm {o : Option Int} (h : ∀ i, o = some i → smD (.int i) = true) : smD (oD o) = true ∧ wD (oD o) ≤ 4 := by
  cases o with
  | none => exact ⟨rfl, by decide⟩
  | some i => exact ⟨h i rfl, by simp [oD, wD]⟩
theorem ints_sm {l : List Int} (h : ∀ i ∈ l, smD (.int i) = true) : smDs (l.map .int) = true ∧ wDs (l.map .int) ≤ l.length * 5 ∧ dpDs (l.map .int) = 0 :=
  ⟨smDs_map h, wDs_map fun a _ => by simp [wD], Nat.le_zero.mp (dpDs_map fun a _ => by simp [dpD])⟩
theorem row_sm {P : Pg} (h : P.Ok) {p : Pc} (hp : p ∈ P.ps) {r : Rw} (hr : r ∈ p.2) : smD r.d = true ∧ wD r.d ≤ 300 ∧ dpD r.d ≤ 2 := by
  have hok := h.rw p hp r hr
  have hn := h.rn p hp r hr
  have hpr := h.pr p hp
  have wl : ∀ b, wof b P.bs ≤ 6 := fun b => wof_le fun b hb => (h.bw b hb).2.1
  cases r with
  | any ts =>
    simp only [Rw.ok, Bool.and_eq_true, decide_eq_true_eq, List.all_eq_true] at hok
    obtain ⟨q1, q2, q3⟩ := ints_sm (l := ts) fun i hi => sm_i (hok.1.1 i hi) (by decide) (by omega)
    obtain ⟨w1, w2⟩ := word_sm "any" (by decide +kernel)
    have := hok.2
    refine ⟨by simp [Rw.d, smD, smDs] at w1 ⊢; exact ⟨w1, q1⟩, ?_, by simp [Rw.d, dpD, dpDs, q3]⟩
    simp only [Rw.d, wD, wDs] at w2 ⊢
    omega
  | call b t =>
    simp only [Rw.ok, Bool.and_eq_true, decide_eq_true_eq] at hok
    obtain ⟨n1, n2⟩ := nm_sm (hn b (by simp [Rw.nms]))
    obtain ⟨w1, w2⟩ := word_sm "call" (by decide +kernel)
    have t1 := sm_i hok.2 (by decide) (by omega)
    refine ⟨?_, ?_, by simp [Rw.d, dpD, dpDs]⟩
    · simp only [Rw.d, smD, smDs] at w1 n1 t1 ⊢; simp [w1, n1, t1]
    · simp only [Rw.d, wD, wDs] at w2 n2 ⊢; omega
  | put b w t =>
    simp only [Rw.ok, Bool.and_eq_true, decide_eq_true_eq] at hok
    obtain ⟨n1, n2⟩ := nm_sm (hn b (by simp [Rw.nms]))
    obtain ⟨w1, w2⟩ := word_sm "put" (by decide +kernel)
    have := wl b
    have t1 := sm_i hok.2 (by decide) (by omega)
    have t2 := sm_i hok.1.2 (by decide) (by omega)
    refine ⟨?_, ?_, by simp [Rw.d, dpD, dpDs]⟩
    · simp only [Rw.d, smD, smDs] at w1 n1 t1 t2 ⊢; simp [w1, n1, t1, t2]
    · simp only [Rw.d, wD, wDs] at w2 n2 ⊢; omega
  | swap b o n t =>
    simp only [Rw.ok, Bool.and_eq_true, decide_eq_true_eq] at hok
    obtain ⟨n1, n2⟩ := nm_sm (hn b (by simp [Rw.nms]))
    obtain ⟨w1, w2⟩ := word_sm "swap" (by decide +kernel)
    have := wl b
    have t1 := sm_i hok.2 (by decide) (by omega)
    have t2 := sm_i hok.1.2 (by decide) (by omega)
    have t3 := sm_i hok.1.1.2 (by decide) (by omega)
    refine ⟨?_, ?_, by simp [Rw.d, dpD, dpDs]⟩
    · simp only [Rw.d, smD, smDs] at w1 n1 t1 t2 t3 ⊢; simp [w1, n1, t1, t2, t3]
    · simp only [Rw.d, wD, wDs] at w2 n2 ⊢; omega
  | ask b ts =>
    simp only [Rw.ok, Bool.and_eq_true, decide_eq_true_eq, beq_iff_eq, List.all_eq_true] at hok
    obtain ⟨n1, n2⟩ := nm_sm (hn b (by simp [Rw.nms]))
    obtain ⟨w1, w2⟩ := word_sm "ask" (by decide +kernel)
    have := wl b
    have ht : ∀ o ∈ ts, smD (oD o) = true ∧ wD (oD o) ≤ 4 := fun o ho => oD_sm fun i e => sm_i (hok.2 i (List.mem_filterMap.mpr ⟨o, ho, e⟩)) (by decide) (by omega)
    have q1 : smDs (ts.map oD) = true := smDs_map fun o ho => (ht o ho).1
    have q2 : wDs (ts.map oD) ≤ ts.length * 6 := wDs_map fun o ho => by have := (ht o ho).2; omega
    have q3 : dpDs (ts.map oD) ≤ 0 := dpDs_map fun o _ => by cases o <;> simp [oD, dpD]
    have hl := hok.1.2
    refine ⟨?_, ?_, ?_⟩
    · simp only [Rw.d, smD, smDs] at w1 n1 ⊢; simp [w1, n1, q1]
    · simp only [Rw.d, wD, wDs] at w2 n2 ⊢; omega
    · simp only [Rw.d, dpD, dpDs]; omega
  | take b t =>
    simp only [Rw.ok, Bool.and_eq_true, decide_eq_true_eq] at hok
    obtain ⟨n1, n2⟩ := nm_sm (hn b (by simp [Rw.nms]))
    obtain ⟨w1, w2⟩ := word_sm "take" (by decide +kernel)
    have t1 := sm_i hok.2 (by decide) (by omega)
    refine ⟨?_, ?_, by simp [Rw.d, dpD, dpDs]⟩
    · simp only [Rw.d, smD, smDs] at w1 n1 t1 ⊢; simp [w1, n1, t1]
    · simp only [Rw.d, wD, wDs] at w2 n2 ⊢; omega
  | give b t =>
    simp only [Rw.ok, Bool.and_eq_true, decide_eq_true_eq] at hok
    obtain ⟨n1, n2⟩ := nm_sm (hn b (by simp [Rw.nms]))
    obtain ⟨w1, w2⟩ := word_sm "give" (by decide +kernel)
    have t1 := sm_i hok.2 (by decide) (by omega)
    refine ⟨?_, ?_, by simp [Rw.d, dpD, dpDs]⟩
    · simp only [Rw.d, smD, smDs] at w1 n1 t1 ⊢; simp [w1, n1, t1]
    · simp only [Rw.d, wD, wDs] at w2 n2 ⊢; omega
theorem Pg.Ok.sm {P : Pg} (h : P.Ok) : smD P.d = true ∧ wD P.d ≤ 30000 ∧ dpD P.d ≤ 6 := by
  have hb : ∀ b ∈ P.bs, smD (bxD b) = true ∧ wD (bxD b) ≤ 120 ∧ dpD (bxD b) ≤ 1 := fun b hb => by
    obtain ⟨n1, n2⟩ := nm_sm (h.bn b hb)
    have w := h.bw b hb
    refine ⟨?_, ?_, by simp [bxD, dpD, dpDs]⟩
    · simp only [bxD, smD, smDs] at n1 ⊢; simp [n1]; omega
    · simp only [bxD, wD, wDs] at n2 ⊢; omega
  have hp : ∀ p ∈ P.ps, smD (pcD p) = true ∧ wD (pcD p) ≤ 2600 ∧ dpD (pcD p) ≤ 4 := fun p hp => by
    obtain ⟨n1, n2⟩ := nm_sm (h.pn p hp)
    have w := h.pr p hp
    have q1 : smDs (p.2.map Rw.d) = true := smDs_map fun r hr => (row_sm h hp hr).1
    have q2 : wDs (p.2.map Rw.d) ≤ p.2.length * 302 := wDs_map fun r hr => by have := (row_sm h hp hr).2.1; omega
    have q3 : dpDs (p.2.map Rw.d) ≤ 2 := dpDs_map fun r hr => (row_sm h hp hr).2.2
    refine ⟨?_, ?_, ?_⟩
    · simp only [pcD, smD, smDs] at n1 ⊢; simp [n1, q1]
    · simp only [pcD, wD, wDs] at n2 ⊢; omega
    · simp only [pcD, dpD, dpDs]; omega
  have hh : ∀ p ∈ P.hs, smD (hdD p) = true ∧ wD (hdD p) ≤ 180 ∧ dpD (hdD p) ≤ 1 := fun p hp => by
    obtain ⟨n1, n2⟩ := nm_sm (h.hn p hp)
    obtain ⟨m1, m2⟩ := nm_sm (h.hm p hp)
    refine ⟨?_, ?_, by simp [hdD, dpD, dpDs]⟩
    · simp only [hdD, smD, smDs] at n1 m1 ⊢; simp [n1, m1]
    · simp only [hdD, wD, wDs] at n2 m2 ⊢; omega
  have a1 : smDs (P.bs.map bxD) = true := smDs_map fun b q => (hb b q).1
  have a2 : wDs (P.bs.map bxD) ≤ P.bs.length * 122 := wDs_map fun b q => by have := (hb b q).2.1; omega
  have a3 : dpDs (P.bs.map bxD) ≤ 1 := dpDs_map fun b q => (hb b q).2.2
  have b1 : smDs (P.ps.map pcD) = true := smDs_map fun b q => (hp b q).1
  have b2 : wDs (P.ps.map pcD) ≤ P.ps.length * 2602 := wDs_map fun b q => by have := (hp b q).2.1; omega
  have b3 : dpDs (P.ps.map pcD) ≤ 4 := dpDs_map fun b q => (hp b q).2.2
  have c1 : smDs (P.hs.map hdD) = true := smDs_map fun b q => (hh b q).1
  have c2 : wDs (P.hs.map hdD) ≤ P.hs.length * 182 := wDs_map fun b q => by have := (hh b q).2.1; omega
  have c3 : dpDs (P.hs.map hdD) ≤ 1 := dpDs_map fun b q => (hh b q).2.2
  have l1 := h.bl
  have l2 := h.pl
  have l3 := h.hl
  refine ⟨?_, ?_, ?_⟩
  · simp only [Pg.d, smD, smDs]; simp [a1, b1, c1]
  · simp only [Pg.d, wD, wDs]; omega
  · simp only [Pg.d, dpD, dpDs]; omega
theorem dD_sm {m : Dn} (h : ∀ p ∈ m, nmOk p.1 = true ∧ nmOk p.2 = true) : smD (dD m) = true ∧ wD (dD m) ≤ m.length * 168 + 4 ∧ dpD (dD m) ≤ 1 := by
  have a1 : smDs (m.map fun p => D.str p.1) = true := smDs_map fun p hp => (nm_sm (h p hp).1).1
  have a2 : smDs (m.map fun p => D.str p.2) = true := smDs_map fun p hp => (nm_sm (h p hp).2).1
  have b1 : wDs (m.map fun p => D.str p.1) ≤ m.length * 84 := wDs_map fun p hp => by have := (nm_sm (h p hp).1).2; omega
  have b2 : wDs (m.map fun p => D.str p.2) ≤ m.length * 84 := wDs_map fun p hp => by have := (nm_sm (h p hp).2).2; omega
  have c1 : dpDs (m.map fun p => D.str p.1) ≤ 0 := dpDs_map fun p hp => by simp [dpD]
  have c2 : dpDs (m.map fun p => D.str p.2) ≤ 0 := dpDs_map fun p hp => by simp [dpD]
  refine ⟨?_, ?_, ?_⟩
  · simp only [dD, smD]; simp [a1, a2]
  · simp only [dD, wD]; omega
  · simp only [dD, dpD]; omega
theorem handed_rpr {P : Pg} {m1 m2 m3 : Dn} (h : P.Ok) (g : Good P m1 m2 m3) : ∃ s, sOk s = true ∧ rprD (.lst [P.d, nmD m1 m2 m3]) = some (0, .str s) := by
  obtain ⟨p1, p2, p3⟩ := h.sm
  have k : ∀ (ns : List Str) (m : Dn), GoodN ns m → (∀ n ∈ ns, nmOk n = true) → ns.length ≤ 6 → smD (dD m) = true ∧ wD (dD m) ≤ 1100 ∧ dpD (dD m) ≤ 1 := fun ns m g hn hl => by
    obtain ⟨q1, q2, q3⟩ := dD_sm (m := m) fun p hp => ⟨hn _ ((g.km p.1).mpr (List.mem_map.mpr ⟨p, hp, rfl⟩)), g.vo p hp⟩
    have := g.len
    exact ⟨q1, by omega, q3⟩
  obtain ⟨a1, a2, a3⟩ := k _ m1 g.g1 (fun n hn => by obtain ⟨b, hb, rfl⟩ := List.mem_map.mp hn; exact h.bn b hb) (by rw [List.length_map]; have := h.bl; omega)
  obtain ⟨b1, b2, b3⟩ := k _ m2 g.g2 (fun n hn => by obtain ⟨b, hb, rfl⟩ := List.mem_map.mp hn; exact h.pn b hb) (by rw [List.length_map]; have := h.pl; omega)
  obtain ⟨c1, c2, c3⟩ := k _ m3 g.g3 (fun n hn => by obtain ⟨b, hb, rfl⟩ := List.mem_map.mp hn; exact h.hn b hb) (by rw [List.length_map]; have := h.hl; omega)
  exact rpr_ex (d := .lst [P.d, nmD m1 m2 m3]) (by simp only [nmD, smD, smDs]; simp [p1, a1, b1, c1]) rfl (by simp only [nmD, wD, wDs]; omega) (by simp only [nmD, dpD, dpDs]; omega)
end MP

/-! PLt: the law. -/
namespace MP
open PySem PySem.Spec PyProof.Rows L2
def s_law : List Sm := [
  (.set (.nm 1) (.lst [(.tup [(.int (2))]), (.tup [(.int (3))]), (.tup [(.int (4))]), (.tup [(.int (5))]), (.tup [(.int (6))]), (.tup [(.int (2)), (.int (2))]), (.tup [(.int (2)), (.int (3))]), (.tup [(.int (3)), (.int (2))]), (.tup [(.int (2)), (.int (4))]), (.tup [(.int (4)), (.int (2))]), (.tup [(.int (2)), (.int (2)), (.int (2))]), (.tup [(.int (2))]), (.tup [(.int (2)), (.int (2))]), (.tup [(.int (3))])])),
  (.set (.nm 2) (.call "_law_plan" [(.nm 0), (.int (6)), (.int (8)), (.int (3)), (.nm 1)])),
  (.set (.nm 3) (.call "_law_program" [(.nm 2), (.blt .abs [(.call "_law_cell_at" [(.nm 0), (.int (7))])])])),
  (.for (.nm 4) .rng [(.int (6))] [(.set (.nm 5) (.call "_law_digits" [(.call "_law_cell_at" [(.nm 0), (.bin .add (.int (8)) (.nm 4))]), (.nm 4), (.bin .mul (.lst [(.int (3)), (.int (6)), (.int (208))]) (.int (3)))])), (.set (.nm 6) (.tupl (.lc (.call "_law_others" [(.idx (.nm 3) (.nm 14)), (.slc (.nm 5) (.bin .mul (.int (3)) (.nm 14)) (.bin .add (.bin .mul (.int (3)) (.nm 14)) (.int (3)))), (.nm 4)]) (.nm 14) .rng [(.int (3))] [] [13, 14]))), (.set (.nm 7) (.lst [(.nm 3), (.nm 6)])), (.set (.nm 8) (.rpr (.nm 7))), (.set (.nm 9) (.call "called" [(.nm 3), (.nm 6)])), (.set (.nm 10) (.call "_law_due" [(.nm 3), (.nm 6)])), (.ife (.or (.not (.isi (.nm 9) ["tuple"])) (.or (.cmp .ne (.nm 9) (.nm 10)) (.or (.cmp .isnt (.call "look_at" [(.nm 9)]) .non) (.cmp .ne (.rpr (.nm 7)) (.nm 8))))) [(.ret (.bl false))] []), (.ife (.cmp .ne (.call "called" [(.nm 9), (.call "_law_back" [(.nm 6)])]) (.nm 3)) [(.ret (.bl false))] []), (.mut .clear (.idx (.nm 9) (.int (0))) []), (.clrs 11 12 (.idx (.nm 9) (.int (1)))), (.ife (.or (.cmp .ne (.rpr (.nm 7)) (.nm 8)) (.cmp .ne (.call "called" [(.nm 3), (.nm 6)]) (.nm 10))) [(.ret (.bl false))] []), (.seti (.idx (.nm 6) (.int (0))) (.idx (.idx (.idx (.nm 3) (.int (0))) (.int (0))) (.int (0))) (.str "zzzzzzzz")), (.ife (.cmp .ne (.call "called" [(.nm 3), (.nm 6)]) (.call "_law_due" [(.nm 3), (.nm 6)])) [(.ret (.bl false))] [])]),
  (.ret (.bl true))]
section
variable {Γ : Gm}
def menu58 : List (List Int) := [[2], [3], [4], [5], [6], [2, 2], [2, 3], [3, 2], [2, 4], [4, 2], [2, 2, 2], [2], [2, 2], [3]]
theorem menu58_ok : MenuOk menu58 := by
  refine ⟨by decide, by decide, ?_⟩
  decide
theorem nmD_ful {m1 m2 m3 : Dn} {k : Nat} : ful (k + 1) (nmD m1 m2 m3) = true := by
  have h1 : ∀ (m : Dn), ful (k + 1) (dD m) = true := fun m => by
    have h1 : ∀ k, fuls k (m.map fun p => D.str p.1) = true := fun k => fuls_map (fun _ => by cases k <;> rfl) m
    have h2 : ∀ k, fuls k (m.map fun p => D.str p.2) = true := fun k => fuls_map (fun _ => by cases k <;> rfl) m
    simp [dD, ful, h1, h2]
  show fuls (k + 1) [dD m1, dD m2, dD m3] = true
  simp [fuls, h1]
theorem pg0 {P : Pg} : ful 0 P.d = false := by
  show fuls 0 [.lst _, _, _] = false
  simp [fuls, ful]
/-- one round of the law -/
structure Calls (Γ : Gm) : Prop where
  B : Bas Γ
  cell : S_cell (Γ.call "_law_cell_at")
  dig : S_dig (Γ.call "_law_digits")
  oth : S_others (Γ.call "_law_others")
  called : S_called (Γ.call "called")
  due : S_due (Γ.call "_law_due")
  look : S_look (Γ.call "look_at")
  back : S_back (Γ.call "_law_back")
  plan : S_plan (Γ.call "_law_plan")
  prog : S_prog (Γ.call "_law_program")
def bodyOf : Sm → List Sm
  | .for _ _ _ b => b
  | _ => []
def body58 : List Sm := bodyOf (s_law.getD 3 .nop)
def PreE (scr men pl P : D) (o4 o5 o6 o7 o8 o9 o10 o11 o12 : Option Slt) : Env := [some (0, scr, []), some (0, men, []), some (0, pl, []), some (0, P, []), o4, o5, o6, o7, o8, o9, o10, o11, o12, none, none]
theorem oth58_e {ev : Env} {pd rows dm : D} {ds : List Int} {k j : Int} (e0 : ev[3]? = some (some (0, pd, []))) (e1 : ev[5]? = some (some (0, .lst (ds.map .int), []))) (e2 : ev[4]? = some (some (0, .int k, []))) (e3 : ev[14]? = some (some (0, .int j, []))) (h0 : 0 ≤ j) (h1 : j ≤ 1000)
    (hx : idxD pd (.int j) = some (0, rows)) (hc : Γ.call "_law_others" [rows, .lst (((ds.drop (3 * j).toNat).take 3).map .int), .int k] = .ok (1, dm)) :
    evE Γ (.call "_law_others" [(.idx (.nm 3) (.nm 14)), (.slc (.nm 5) (.bin .mul (.int (3)) (.nm 14)) (.bin .add (.bin .mul (.int (3)) (.nm 14)) (.int (3)))), (.nm 4)]) ev = .ok (1, dm) := by
  have m := mul_i (i := 3) (j := j) (.inl ⟨by decide, by decide⟩)
  have c : slcD.cutL (ds.map D.int) (some (3 * j)) (some (3 * j + 3)) = ((ds.drop (3 * j).toNat).take 3).map .int := by
    rw [cut_mid (by omega) (by omega), ← List.map_drop, ← List.map_take]
    congr 2
    omega
  simp only [List.map_take, List.map_drop] at hc c
  simp [e0, e1, e2, e3, hx, m, c, hc]
theorem dig58_e (h1 : S_cell (Γ.call "_law_cell_at")) {ev : Env} {ns ds : List Int} {k : Int} (e0 : ev[0]? = some (some (0, .scr (ns.map .int), []))) (e1 : ev[4]? = some (some (0, .int k, []))) (h0 : 0 ≤ k)
    (hd : Γ.call "_law_digits" [.int (cellAt ns (8 + k)), .int k, .lst (([3, 6, 208, 3, 6, 208, 3, 6, 208] : List Int).map .int)] = .ok (9, .lst (ds.map .int))) :
    evE Γ (.call "_law_digits" [(.call "_law_cell_at" [(.nm 0), (.bin .add (.int (8)) (.nm 4))]), (.nm 4), (.bin .mul (.lst [(.int (3)), (.int (6)), (.int (208))]) (.int (3)))]) ev = .ok (9, .lst (ds.map .int)) := by
  have c := h1 ns (8 + k) (by omega)
  have m : binD .mul (.lst [.int 3, .int 6, .int 208]) (.int 3) = some (1, .lst [.int 3, .int 6, .int 208, .int 3, .int 6, .int 208, .int 3, .int 6, .int 208]) := mul_l (by decide) (by decide) (by simp)
  simp only [List.map_cons, List.map_nil] at hd
  simp [e0, e1, c, m, hd]
/-- the names of a round -/
theorem names58 (C : Calls Γ) {ns : List Int} {men pl : D} {P : Pg} (hP : P.Ok) (hz : (∀ b ∈ P.bs, b.1 ≠ zz) ∧ (∀ b ∈ P.ps, b.1 ≠ zz) ∧ ∀ b ∈ P.hs, b.1 ≠ zz) {k : Int} (k0 : 0 ≤ k) (k5 : k ≤ 5) (o6 o7 o8 o9 o10 o11 o12 : Option Slt) {ds : List Int} (hd : DigOk [3, 6, 208, 3, 6, 208, 3, 6, 208] ds) :
    ∃ m1 m2 m3 : Dn, Good P m1 m2 m3 ∧ (∀ p ∈ m1, p.2 ≠ zz) ∧ evE Γ (.tupl (.lc (.call "_law_others" [(.idx (.nm 3) (.nm 14)), (.slc (.nm 5) (.bin .mul (.int (3)) (.nm 14)) (.bin .add (.bin .mul (.int (3)) (.nm 14)) (.int (3)))), (.nm 4)]) (.nm 14) .rng [(.int (3))] [] [13, 14]))
      (PreE (.scr (ns.map .int)) men pl P.d (some (0, .int k, [])) (some (0, .lst (ds.map .int), [])) o6 o7 o8 o9 o10 o11 o12) = .ok (8, nmD m1 m2 m3) := by
  have l1 := hP.bl
  have l2 := hP.pl
  have l3 := hP.hl
  have d1 : DigOk [3, 6, 208] ((ds.drop (3 * (0 : Int)).toNat).take 3) := DigOk.cut (a := []) (szs := [3, 6, 208]) (b := [3, 6, 208, 3, 6, 208]) hd rfl
  have d2 : DigOk [3, 6, 208] ((ds.drop (3 * (1 : Int)).toNat).take 3) := DigOk.cut (a := [3, 6, 208]) (szs := [3, 6, 208]) (b := [3, 6, 208]) hd rfl
  have d3 : DigOk [3, 6, 208] ((ds.drop (3 * (2 : Int)).toNat).take 3) := DigOk.cut (a := [3, 6, 208, 3, 6, 208]) (szs := [3, 6, 208]) (b := []) hd rfl
  obtain ⟨m1, c1, g1, z1⟩ := C.oth Bx P.bs bxD (·.1) _ k (fun _ => rfl) (by omega) (by omega) hP.bd (fun b hb => ⟨hP.bn b hb, hz.1 b hb⟩) d1 k0 k5
  obtain ⟨m2, c2, g2, _⟩ := C.oth Pc P.ps pcD (·.1) _ k (fun _ => rfl) (by omega) (by omega) hP.pd (fun b hb => ⟨hP.pn b hb, hz.2.1 b hb⟩) d2 k0 k5
  obtain ⟨m3, c3, g3, _⟩ := C.oth Hd P.hs hdD (·.1) _ k (fun _ => rfl) (by omega) (by omega) hP.hd (fun b hb => ⟨hP.hn b hb, hz.2.2 b hb⟩) d3 k0 k5
  refine ⟨m1, m2, m3, ⟨g1, g2, g3⟩, z1, ?_⟩
  have e := e_lc9 (Γ := Γ) (env := PreE (.scr (ns.map .int)) men pl P.d (some (0, .int k, [])) (some (0, .lst (ds.map .int), [])) o6 o7 o8 o9 o10 o11 o12) (el := .call "_law_others" [(.idx (.nm 3) (.nm 14)), (.slc (.nm 5) (.bin .mul (.int (3)) (.nm 14)) (.bin .add (.bin .mul (.int (3)) (.nm 14)) (.int (3)))), (.nm 4)]) (tg := .nm 14) (ik := .rng) (its := [.int 3]) (own := [13, 14])
    (l := [((0 : Int), m1), (1, m2), (2, m3)]) (fun p => .int p.1) (fun p => (1, dD p.2)) (xs := [(0, .int 3)]) rfl it_3 (by simp) (fun _ _ => dD_fu) fun p hp => ⟨_, rfl, by
      simp only [List.mem_cons, List.not_mem_nil, or_false] at hp
      rcases hp with rfl | rfl | rfl
      · exact oth58_e (j := 0) rfl rfl rfl rfl (by decide) (by decide) rfl c1
      · exact oth58_e (j := 1) rfl rfl rfl rfl (by decide) (by decide) rfl c2
      · exact oth58_e (j := 2) rfl rfl rfl rfl (by decide) (by decide) rfl c3⟩
  rw [e_tupl, e]
  have f : fu (9, .lst [dD m1, dD m2, dD m3]) = true := by
    have := nmD_ful (m1 := m1) (m2 := m2) (m3 := m3) (k := 7)
    have h7 := nmD_ful (m1 := m1) (m2 := m2) (m3 := m3) (k := 6)
    have h1 : fuls 8 [dD m1, dD m2, dD m3] = true := this
    have h2 : fuls 7 [dD m1, dD m2, dD m3] = true := h7
    simp only [fu, ful, h1, h2, Bool.and_self]
  simp [f, nmD]
theorem round58 (C : Calls Γ) {ns : List Int} {men pl : D} {P : Pg} (hP : P.Ok) (hz : (∀ b ∈ P.bs, b.1 ≠ zz) ∧ (∀ b ∈ P.ps, b.1 ≠ zz) ∧ ∀ b ∈ P.hs, b.1 ≠ zz) {k : Int} (k0 : 0 ≤ k) (k5 : k ≤ 5) (o5 o6 o7 o8 o9 o10 o11 o12 : Option Slt) :
    ∃ o5' o6' o7' o8' o9' o10' o11' o12', exL Γ [9, 6] [] body58 (PreE (.scr (ns.map .int)) men pl P.d (some (0, .int k, [])) o5 o6 o7 o8 o9 o10 o11 o12) = .nx (PreE (.scr (ns.map .int)) men pl P.d (some (0, .int k, [])) o5' o6' o7' o8' o9' o10' o11' o12') := by
  obtain ⟨ds, dc, dg⟩ := C.dig (cellAt ns (8 + k)) k [3, 6, 208, 3, 6, 208, 3, 6, 208] k0 (by omega) (by simp) (by simp)
  let scr : D := .scr (ns.map .int)
  let o4 : Option Slt := some (0, .int k, [])
  let q5 : Option Slt := some (0, .lst (ds.map .int), [])
  obtain ⟨m1, m2, m3, g, hz1, hn⟩ := names58 C (men := men) (pl := pl) (ns := ns) hP hz k0 k5 (dr1 5 o6) (dr1 5 o7) (dr1 5 o8) (dr1 5 o9) (dr1 5 o10) (dr1 5 o11) (dr1 5 o12) dg
  let Q : D := (P.by m1 m2 m3).d
  have rn := g.ren hP
  have cQ := C.called P m1 m2 m3 hP rn
  have dQ := C.due P m1 m2 m3 hP rn
  have okQ := by_ok hP g
  have gQ := by_good hP g
  have lQ := C.look _ okQ
  have bQ := C.back m1 m2 m3 g.g1.kd g.g2.kd g.g3.kd g.g1.vd g.g2.vd g.g3.vd (by rw [g.g1.len, List.length_map]; have := hP.bl; omega) (by rw [g.g2.len, List.length_map]; have := hP.pl; omega) (by rw [g.g3.len, List.length_map]; have := hP.hl; omega)
  have cB := C.called _ _ _ _ okQ (gQ.ren okQ)
  rw [by_back hP g] at cB
  obtain ⟨kept, hk1, hk2⟩ := handed_rpr hP g
  let hD : D := .lst [P.d, nmD m1 m2 m3]
  -- step by step
  let F : Option Slt → Option Slt → Option Slt → Option Slt → Option Slt → Option Slt → Option Slt → Env := fun a6 a7 a8 a9 a10 a11 a12 => PreE scr men pl P.d o4 q5 a6 a7 a8 a9 a10 a11 a12
  let n6 : Option Slt := some (8, nmD m1 m2 m3, [])
  let n7 : Option Slt := some (0, hD, [6])
  let n8 : Option Slt := some (0, .str kept, [])
  let n9 : Option Slt := some (8, Q, [])
  let n10 : Option Slt := some (0, Q, [6])
  let Q' : D := .tup [.lst [], .lst ((P.by m1 m2 m3).ps.map pcD), .lst ((P.by m1 m2 m3).hs.map hdD)]
  obtain ⟨b0, br, hb0⟩ : ∃ b0 br, P.bs = b0 :: br := by
    have := hP.bl
    cases h : P.bs with
    | nil => rw [h] at this; simp at this
    | cons a l => exact ⟨a, l, rfl⟩
  let z1 : Dn := putZ b0.1 m1
  let n6' : Option Slt := some (8, nmD z1 m2 m3, [])
  have hfh : ful 1 hD = false := by
    show fuls 0 [P.d, nmD m1 m2 m3] = false
    simp [fuls, pg0]
  have s1 : ∀ {o : Out}, exL Γ [9, 6] [] (body58.drop 6) (F n6 n7 n8 n9 n10 (dr1 10 (dr1 9 (dr1 8 (dr1 7 (dr1 6 (dr1 5 o11)))))) (dr1 10 (dr1 9 (dr1 8 (dr1 7 (dr1 6 (dr1 5 o12))))))) = o → exL Γ [9, 6] [] body58 (PreE scr men pl P.d o4 o5 o6 o7 o8 o9 o10 o11 o12) = o := fun {o} q => by
    refine go_set0 (x := (9, .lst (ds.map .int))) (dig58_e C.cell rfl rfl k0 dc) (.inl fuls_int) rfl ?_
    refine go_set0 (env' := F n6 (dr1 6 (dr1 5 o7)) (dr1 6 (dr1 5 o8)) (dr1 6 (dr1 5 o9)) (dr1 6 (dr1 5 o10)) (dr1 6 (dr1 5 o11)) (dr1 6 (dr1 5 o12))) (x := (8, nmD m1 m2 m3)) hn (.inl nmD_ful) rfl ?_
    refine go_setB (env' := F n6 n7 (dr1 7 (dr1 6 (dr1 5 o8))) (dr1 7 (dr1 6 (dr1 5 o9))) (dr1 7 (dr1 6 (dr1 5 o10))) (dr1 7 (dr1 6 (dr1 5 o11))) (dr1 7 (dr1 6 (dr1 5 o12)))) (x := (1, hD)) ?_ hfh (B := [6]) rfl rfl ?_
    · simp [F, PreE, n6, fu, pg0]; rfl
    refine go_set0 (env' := F n6 n7 n8 (dr1 8 (dr1 7 (dr1 6 (dr1 5 o9)))) (dr1 8 (dr1 7 (dr1 6 (dr1 5 o10)))) (dr1 8 (dr1 7 (dr1 6 (dr1 5 o11)))) (dr1 8 (dr1 7 (dr1 6 (dr1 5 o12))))) (x := (0, .str kept)) ?_ (.inl rfl) rfl ?_
    · simp [F, PreE, n7, hD, hk2]
    refine go_set0 (env' := F n6 n7 n8 n9 (dr1 9 (dr1 8 (dr1 7 (dr1 6 (dr1 5 o10))))) (dr1 9 (dr1 8 (dr1 7 (dr1 6 (dr1 5 o11))))) (dr1 9 (dr1 8 (dr1 7 (dr1 6 (dr1 5 o12)))))) (x := (8, Q)) ?_ (.inl Pg.ful) rfl ?_
    · simp [F, PreE, n6, cQ]; rfl
    refine go_setB (env' := F n6 n7 n8 n9 n10 _ _) (x := (0, Q)) ?_ pg0 (B := [6]) rfl rfl q
    · simp [F, PreE, n6, dQ]; rfl
  have s2 : ∀ {o : Out} (a11 a12 : Option Slt), exL Γ [9, 6] [] (body58.drop 8) (F n6 n7 n8 n9 n10 a11 a12) = o → exL Γ [9, 6] [] (body58.drop 6) (F n6 n7 n8 n9 n10 a11 a12) = o := fun {o} a11 a12 q => by
    refine go_if0 (k := 0) ?_ (go_if0 (k := 0) ?_ q)
    · have hisi : isiA Γ Q ["tuple"] = some (0, .bl true) := isi_tuple_tuple C.B.kit
      have hne := cmp_ne (eqD_refl okQ.okd)
      have hnn : cmpD .isnt .non .non = some (0, .bl false) := rfl
      have hkk := cmp_ne (eqD_refl (d := .str kept) hk1)
      have hlk : Γ.call "look_at" [Q] = .ok (0, .non) := lQ
      have hne : cmpD .ne Q Q = some (0, .bl (!true)) := hne
      simp [F, PreE, n7, n8, n9, n10, hD, hk2, hisi, hne, hnn, hkk, hlk]
    · have hne := cmp_ne (eqD_refl hP.okd)
      have cB' : Γ.call "called" [Q, nmD (inv m1) (inv m2) (inv m3)] = .ok (8, P.d) := cB
      simp [F, PreE, n6, n9, bQ, cB', hne]
  have s3 : ∀ {o : Out} (a11 a12 : Option Slt), exL Γ [9, 6] [] (body58.drop 10) (F n6 n7 n8 none n10 none none) = o → exL Γ [9, 6] [] (body58.drop 8) (F n6 n7 n8 n9 n10 a11 a12) = o := fun {o} a11 a12 q => by
    refine go_nx (env' := F n6 n7 n8 (some (8, Q', [])) n10 (wp1 9 a11) (wp1 9 a12)) ?_ (go_nx (env' := F n6 n7 n8 none n10 none none) ?_ q)
    · have e : evP Γ (.idx (.nm 9) (.int (0))) (F n6 n7 n8 n9 n10 a11 a12) = .ok ⟨9, 8, .lst ((P.by m1 m2 m3).bs.map bxD), fun e' => id (.tup ([.lst ((P.by m1 m2 m3).bs.map bxD), .lst ((P.by m1 m2 m3).ps.map pcD), .lst ((P.by m1 m2 m3).hs.map hdD)].set 0 e'))⟩ := rfl
      rw [xS_clr, e, rP_ok]
      dsimp only [clrF]
      rw [if_neg (by decide)]
      exact (mut_nx (i := 9) (k := 8) (d := Q) (B := []) (ex := []) rfl rfl rfl).trans rfl
    · have e : evP Γ (.idx (.nm 9) (.int (1))) (F n6 n7 n8 (some (8, Q', [])) n10 (wp1 9 a11) (wp1 9 a12)) = .ok ⟨9, 8, .lst ((P.by m1 m2 m3).ps.map pcD), fun e' => id (.tup ([.lst [], .lst ((P.by m1 m2 m3).ps.map pcD), .lst ((P.by m1 m2 m3).hs.map hdD)].set 1 e'))⟩ := rfl
      have hall : ((P.by m1 m2 m3).ps.map pcD).all clrP = true := by
        rw [List.all_eq_true]
        intro x hx
        obtain ⟨p, _, rfl⟩ := List.mem_map.mp hx
        rfl
      rw [xS_clrs, e, rP_ok]
      unfold clrO
      dsimp only
      rw [hall]
      rfl
  have s4 : ∀ {o : Out}, exL Γ [9, 6] [] (body58.drop 12) (F n6' none n8 none none none none) = o → exL Γ [9, 6] [] (body58.drop 10) (F n6 n7 n8 none n10 none none) = o := fun {o} q => by
    refine go_if0 (k := 0) ?_ (go_nx (env' := F n6' none n8 none none none none) ?_ q)
    · have hne := cmp_ne (eqD_refl okQ.okd)
      have hne : cmpD .ne Q Q = some (0, .bl (!true)) := hne
      have hkk := cmp_ne (eqD_refl (d := .str kept) hk1)
      have cQ' : Γ.call "called" [P.d, nmD m1 m2 m3] = .ok (8, Q) := cQ
      simp [F, PreE, n6, n7, n8, n10, hD, hk2, hkk, cQ', hne]
    · have e : evP Γ (.idx (.nm 6) (.int (0))) (F n6 n7 n8 none n10 none none) = .ok ⟨6, 8, dD m1, fun e' => id (.tup ([dD m1, dD m2, dD m3].set 0 e'))⟩ := rfl
      have e2 : evE Γ (.idx (.idx (.idx (.nm 3) (.int (0))) (.int (0))) (.int (0))) (F n6 n7 n8 none n10 none none) = .ok (0, .str b0.1) := by
        simp [F, PreE, hb0]
      have hkm : b0.1 ∈ m1.map (·.1) := (g.g1.km b0.1).mp (List.mem_map.mpr ⟨b0, by rw [hb0]; exact List.mem_cons_self, rfl⟩)
      have hlen := g.g1.len
      have hfv : fuls 0 (m1.map fun p => D.str p.2) = true := fuls_map (fun _ => rfl) _
      rw [xS_seti]
      unfold dsetS
      rw [e_str, rO_ok, e, rP_ok, e2, rO_ok]
      dsimp only [dD, key?]
      rw [sz_le (by rw [List.length_map, hlen, List.length_map]; have := hP.bl; omega), hfv]
      have hz := dset_z hkm
      refine (if_pos rfl).trans ?_
      refine (mut_nx (i := 6) (k := 8) (d := nmD m1 m2 m3) (B := []) (ex := []) rfl rfl rfl).trans ?_
      rw [show (D.str ("zzzzzzzz" : Str)) = D.str zz from rfl, hz]
      rfl
  refine ⟨_, _, _, _, _, _, _, _, s1 (s2 _ _ (s3 _ _ (s4 (go_if0 (k := 0) ?_ rfl))))⟩
  have gz : Good P z1 m2 m3 := ⟨g.g1.putZ hz1, g.g2, g.g3⟩
  have rz := gz.ren hP
  have c1 := C.called P z1 m2 m3 hP rz
  have c2 := C.due P z1 m2 m3 hP rz
  have hne := cmp_ne (eqD_refl (by_ok hP gz).okd)
  simp [F, PreE, n6', c1, c2, hne]
theorem law58 (C : Calls Γ) (ns : List Int) (hns : ns.length ≤ 63) : runF Γ [9, 6] 14 s_law [.scr (ns.map .int)] = .ok (0, .bl true) := by
  refine runF_rt ?_
  obtain ⟨p, pc, pok, _⟩ := C.plan ns 6 8 3 menu58 (by decide) (by decide) (by decide) (by decide) (by decide) (by decide) menu58_ok
  have hn0 : 0 ≤ (if cellAt ns 7 < 0 then -cellAt ns 7 else cellAt ns 7) := by split <;> omega
  have gc := C.prog p (if cellAt ns 7 < 0 then -cellAt ns 7 else cellAt ns 7) pok hn0
  have hP := planP_ok (n := if cellAt ns 7 < 0 then -cellAt ns 7 else cellAt ns 7) pok
  have hz : (∀ b ∈ (planP p (if cellAt ns 7 < 0 then -cellAt ns 7 else cellAt ns 7)).bs, b.1 ≠ zz) ∧ (∀ b ∈ (planP p (if cellAt ns 7 < 0 then -cellAt ns 7 else cellAt ns 7)).ps, b.1 ≠ zz) ∧ ∀ b ∈ (planP p (if cellAt ns 7 < 0 then -cellAt ns 7 else cellAt ns 7)).hs, b.1 ≠ zz := by
    refine ⟨fun b hb => ?_, fun b hb => ?_, fun b hb => ?_⟩ <;> obtain ⟨x, _, rfl⟩ := List.mem_map.mp hb <;> exact lname_ok.2
  generalize planP p (if cellAt ns 7 < 0 then -cellAt ns 7 else cellAt ns 7) = P at gc hP hz
  have c7 := C.cell ns 7 (by decide)
  refine go_set0 (x := (9, menuD menu58)) (by rfl) (.inr rfl) rfl ?_
  refine go_set0 (x := (8, p.d)) ?_ (.inr rfl) rfl ?_
  · simp [pc]
  refine go_set0 (env' := PreE (.scr (ns.map .int)) (menuD menu58) p.d P.d none none none none none none none none none) (x := (0, P.d)) ?_ (.inr rfl) rfl ?_
  · simp [c7, gc]
  rw [xL_cons, xS_for]
  have hit : (evL Γ [Ex.int 6] (PreE (.scr (ns.map .int)) (menuD menu58) p.d P.d none none none none none none none none none) >>= fun xs => Res.of (iterD .rng (xs.map (·.2)))) = .ok ((List.range 6).map fun (i : Nat) => .int i) := by
    rw [l_cons, l_nil, e_int, res_ok_bind, res_ok_bind, res_ok_bind]
    show Res.of (iterD .rng [.int 6]) = _
    rw [it_6]
    rfl
  rw [hit, rD_ok]
  refine loop_D (fun _ e => ∃ o4 o5 o6 o7 o8 o9 o10 o11 o12, e = PreE (.scr (ns.map .int)) (menuD menu58) p.d P.d o4 o5 o6 o7 o8 o9 o10 o11 o12) ⟨_, _, _, _, _, _, _, _, _, rfl⟩ (fun done k rest e hl hI => ?_) fun e hI => ?_
  · obtain ⟨o4, o5, o6, o7, o8, o9, o10, o11, o12, rfl⟩ := hI
    have hk : k < 6 := by
      have : k ∈ List.range 6 := by rw [hl]; simp
      simpa using this
    obtain ⟨p5, p6, p7, p8, p9, p10, p11, p12, h⟩ := round58 C (ns := ns) (men := menuD menu58) (pl := p.d) hP hz (k := k) (by omega) (by omega) (dr1 4 o5) (dr1 4 o6) (dr1 4 o7) (dr1 4 o8) (dr1 4 o9) (dr1 4 o10) (dr1 4 o11) (dr1 4 o12)
    exact ⟨_, h, _, _, _, _, _, _, _, _, _, rfl⟩
  · exact go_ret rfl
end
end MP

/-! PLu: the parts put together. -/
namespace MP.Head
open PySem PySem.Spec PyProof.Rows L2 RZ
def w (k : Nat) : Gm := Gj g (recs T (defs.drop (29 - k)))
theorem bas (k : Nat) : Bas (w k) := by
  obtain ⟨h1, h2⟩ := Gj_kit g (recs T (defs.drop (29 - k)))
  refine ⟨h1, ?_, ?_, ?_, ?_, ?_, ?_, ?_, ?_, ?_⟩ <;> (unfold w; rw [h2]; rfl)
theorem q0 : (w 1).call "is_whole" = runF (w 0) [] 0 s_is_whole := by kernel_rfl
theorem t0 : S_whole ((w 1).call "is_whole") := by
  rw [q0]
  exact whole_s (bas 0)
theorem q1 : (w 2).call "is_within" = runF (w 1) [] 0 s_is_within := by kernel_rfl
theorem t1 : S_within ((w 2).call "is_within") := by
  rw [q1]
  exact within_s t0
theorem q2 : (w 3).call "is_name" = runF (w 2) [] 2 s_is_name := by kernel_rfl
theorem t2 : S_name ((w 3).call "is_name") := by
  rw [q2]
  exact name_s (bas 2)
theorem q3 : (w 4).call "many_stores" = runF (w 3) [1] 4 s_many_stores := by kernel_rfl
theorem t3 : S_stores ((w 4).call "many_stores") := by
  rw [q3]
  exact stores_s 
theorem q4 : (w 5).call "is_tuple" = runF (w 4) [] 0 s_is_tuple := by kernel_rfl
theorem t4 : S_tuple ((w 5).call "is_tuple") := by
  rw [q4]
  exact tuple_s (bas 4)
theorem q5 : (w 6).call "is_box" = runF (w 5) [] 0 s_is_box := by kernel_rfl
theorem t5 : S_box ((w 6).call "is_box") := by
  rw [q5]
  exact box_s (bas 5) t4 (by rw [show (w 5).call "is_name" = (w 3).call "is_name" by kernel_rfl]; exact t2) (by rw [show (w 5).call "is_within" = (w 2).call "is_within" by kernel_rfl]; exact t1)
theorem q6 : (w 7).call "look_at_boxes" = runF (w 6) [] 4 s_look_at_boxes := by kernel_rfl
theorem t6 : S_lboxes ((w 7).call "look_at_boxes") := by
  rw [q6]
  exact lboxes_s (bas 6) t5 (by rw [show (w 6).call "many_stores" = (w 4).call "many_stores" by kernel_rfl]; exact t3)
theorem q7 : (w 8).call "look_at_procs" = runF (w 7) [] 4 s_look_at_procs := by kernel_rfl
theorem t7 : S_lprocs ((w 8).call "look_at_procs") := by
  rw [q7]
  exact lprocs_s (bas 7) (by rw [show (w 7).call "is_tuple" = (w 5).call "is_tuple" by kernel_rfl]; exact t4) (by rw [show (w 7).call "is_name" = (w 3).call "is_name" by kernel_rfl]; exact t2)
theorem q8 : (w 9).call "worths_of" = runF (w 8) [] 1 s_worths_of := by kernel_rfl
theorem t8 : S_wof ((w 9).call "worths_of") := by
  rw [q8]
  exact wof_s (bas 8)
theorem q9 : (w 10).call "are_tos" = runF (w 9) [] 2 s_are_tos := by kernel_rfl
theorem t9 : S_tos ((w 10).call "are_tos") := by
  rw [q9]
  exact tos_s (bas 9) (by rw [show (w 9).call "is_within" = (w 2).call "is_within" by kernel_rfl]; exact t1)
theorem q10 : (w 11).call "is_row_of_box" = runF (w 10) [] 2 s_is_row_of_box := by kernel_rfl
theorem t10 : S_rowb ((w 11).call "is_row_of_box") := by
  rw [q10]
  exact rowb_s (bas 10) (by rw [show (w 10).call "is_within" = (w 2).call "is_within" by kernel_rfl]; exact t1) (by rw [show (w 10).call "is_tuple" = (w 5).call "is_tuple" by kernel_rfl]; exact t4) t9
theorem q11 : (w 12).call "is_row" = runF (w 11) [] 6 s_is_row := by kernel_rfl
theorem t11 : S_row ((w 12).call "is_row") := by
  rw [q11]
  exact row_s (bas 11) (by rw [show (w 11).call "are_tos" = (w 10).call "are_tos" by kernel_rfl]; exact t9) (by rw [show (w 11).call "is_within" = (w 2).call "is_within" by kernel_rfl]; exact t1) t10 (by rw [show (w 11).call "worths_of" = (w 9).call "worths_of" by kernel_rfl]; exact t8)
theorem q12 : (w 13).call "look_at_rows" = runF (w 12) [] 4 s_look_at_rows := by kernel_rfl
theorem t12 : S_lrows ((w 13).call "look_at_rows") := by
  rw [q12]
  exact lrows_s t11
theorem q13 : (w 14).call "look_at_hands" = runF (w 13) [] 6 s_look_at_hands := by kernel_rfl
theorem t13 : S_lhands ((w 14).call "look_at_hands") := by
  rw [q13]
  exact lhands_s (bas 13) (by rw [show (w 13).call "is_tuple" = (w 5).call "is_tuple" by kernel_rfl]; exact t4) (by rw [show (w 13).call "is_name" = (w 3).call "is_name" by kernel_rfl]; exact t2)
theorem q14 : (w 15).call "look_at" = runF (w 14) [] 2 s_look_at := by kernel_rfl
theorem t14 : S_look ((w 15).call "look_at") := by
  rw [q14]
  exact look_s (bas 14) (by rw [show (w 14).call "is_tuple" = (w 5).call "is_tuple" by kernel_rfl]; exact t4) (by rw [show (w 14).call "look_at_boxes" = (w 7).call "look_at_boxes" by kernel_rfl]; exact t6) (by rw [show (w 14).call "look_at_procs" = (w 8).call "look_at_procs" by kernel_rfl]; exact t7) (by rw [show (w 14).call "look_at_rows" = (w 13).call "look_at_rows" by kernel_rfl]; exact t12) t13
theorem q15 : (w 16).call "are_names" = runF (w 15) [2] 2 s_are_names := by kernel_rfl
theorem t15 : S_names ((w 16).call "are_names") := by
  rw [q15]
  exact names_s (bas 15) (by rw [show (w 15).call "is_name" = (w 3).call "is_name" by kernel_rfl]; exact t2)
theorem q16 : (w 17).call "look_at_names" = runF (w 16) [] 3 s_look_at_names := by kernel_rfl
theorem t16 : S_lnames ((w 17).call "look_at_names") := by
  rw [q16]
  exact lnames_s (by rw [show (w 16).call "is_tuple" = (w 5).call "is_tuple" by kernel_rfl]; exact t4) t15
theorem q17 : (w 18).call "called_row" = runF (w 17) [0] 0 s_called_row := by kernel_rfl
theorem t17 : S_crow ((w 18).call "called_row") := by
  rw [q17]
  exact crow_s 
theorem q18 : (w 19).call "called" = runF (w 18) [5] 11 s_called := by kernel_rfl
theorem t18 : S_called ((w 19).call "called") := by
  rw [q18]
  exact called_s (by rw [show (w 18).call "look_at" = (w 15).call "look_at" by kernel_rfl]; exact t14) (by rw [show (w 18).call "look_at_names" = (w 17).call "look_at_names" by kernel_rfl]; exact t16) t17
theorem q19 : (w 20).call "_law_cell_at" = runF (w 19) [] 0 s__law_cell_at := by kernel_rfl
theorem t19 : S_cell ((w 20).call "_law_cell_at") := by
  rw [q19]
  exact cell_s 
theorem q20 : (w 21).call "_law_digits" = runF (w 20) [6] 6 s__law_digits := by kernel_rfl
theorem t20 : S_dig ((w 21).call "_law_digits") := by
  rw [q20]
  exact dig_s 
theorem q21 : (w 22).call "_law_name" = runF (w 21) [] 2 s__law_name := by kernel_rfl
theorem t21 : S_nm ((w 22).call "_law_name") := by
  rw [q21]
  exact nm_s 
theorem q22 : (w 23).call "_law_to_row" = runF (w 22) [5, 6, 7] 7 s__law_to_row := by kernel_rfl
theorem t22 : S_trow ((w 23).call "_law_to_row") := by
  rw [q22]
  exact trow_s 
theorem q23 : (w 24).call "_law_plan" = runF (w 23) [11, 6, 8, 10] 11 s__law_plan := by kernel_rfl
theorem t23 : S_plan ((w 24).call "_law_plan") := by
  rw [q23]
  exact plan_s (by rw [show (w 23).call "_law_cell_at" = (w 20).call "_law_cell_at" by kernel_rfl]; exact t19) (by rw [show (w 23).call "_law_digits" = (w 21).call "_law_digits" by kernel_rfl]; exact t20) t22
theorem q24 : (w 25).call "_law_program" = runF (w 24) [11, 9, 7] 12 s__law_program := by kernel_rfl
theorem t24 : S_prog ((w 25).call "_law_program") := by
  rw [q24]
  exact prog_s (by rw [show (w 24).call "_law_name" = (w 22).call "_law_name" by kernel_rfl]; exact t21)
theorem q25 : (w 26).call "_law_others" = runF (w 25) [] 7 s__law_others := by kernel_rfl
theorem t25 : S_others ((w 26).call "_law_others") := by
  rw [q25]
  exact others_s (by rw [show (w 25).call "_law_name" = (w 22).call "_law_name" by kernel_rfl]; exact t21)
theorem q26 : (w 27).call "_law_due" = runF (w 26) [8, 5, 10] 13 s__law_due := by kernel_rfl
theorem t26 : S_due ((w 27).call "_law_due") := by
  rw [q26]
  exact due_s 
theorem q27 : (w 28).call "_law_back" = runF (w 27) [] 3 s__law_back := by kernel_rfl
theorem t27 : S_back ((w 28).call "_law_back") := by
  rw [q27]
  exact back_s 
theorem q28 : Γ.call "law" = runF (w 28) [9, 6] 14 s_law := by kernel_rfl
theorem calls : Calls (w 28) := ⟨bas 28, (by rw [show (w 28).call "_law_cell_at" = (w 20).call "_law_cell_at" by kernel_rfl]; exact t19), (by rw [show (w 28).call "_law_digits" = (w 21).call "_law_digits" by kernel_rfl]; exact t20), (by rw [show (w 28).call "_law_others" = (w 26).call "_law_others" by kernel_rfl]; exact t25), (by rw [show (w 28).call "called" = (w 19).call "called" by kernel_rfl]; exact t18), (by rw [show (w 28).call "_law_due" = (w 27).call "_law_due" by kernel_rfl]; exact t26), (by rw [show (w 28).call "look_at" = (w 15).call "look_at" by kernel_rfl]; exact t14), t27, (by rw [show (w 28).call "_law_plan" = (w 24).call "_law_plan" by kernel_rfl]; exact t23), (by rw [show (w 28).call "_law_program" = (w 25).call "_law_program" by kernel_rfl]; exact t24)⟩
theorem plain : Plain := fun ns hns => ⟨0, by rw [q28]; exact law58 calls ns hns⟩
theorem done : PySem.Challenge.rw_roundhand_k58_called_otherwise.Holds := holds plain
end MP.Head

theorem PySem.Challenge.cw_roundhand_k58_called_otherwise_holds : PySem.Challenge.rw_roundhand_k58_called_otherwise.Holds := by
  exact MP.Head.done
