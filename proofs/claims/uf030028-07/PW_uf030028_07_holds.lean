import PyProof.Rows.All
import Wide.All
import OpenK.AllK
import Wide.FinOn
import PyProof.StationsW
import PyProof.CompFree
import PyProof.DictStraight
import PyProof.WalksMore
import PyProof.NeKinds
import PyProof.TupleOps
import PyProof.StrBlock2
import PyProof.Rows.IntRules
import PyProof.Rows.RuleB_mul
import PyProof.Rows.RuleB_sub
import PyProof.Rows.RuleB_floordiv
import PyProof.Rows.RuleB_mod
import PyProof.Rows.ListMul
import PyProof.Rows.RuleC_int
import PyProof.StrLawsIn
import PyProof.PureInt
import PyProof.Rows.StrTemp
import PyProof.Rows.TupMore
import PyProof.SliceMore
import PyProof.SliceStr2
import PyProof.DictRoads
import PyProof.ListCopy
import PyProof.TupleOfSeq
import PyProof.TupleCall
import PyProof.Rows.DictMethods
import PyProof.Cells
import PyProof.RulesDelMore
import PyProof.RulesAssignMore
import PyProof.Rows.Nodes
import PyProof.StrWalks
import PyProof.RangeFor
import PyProof.CompUse
import KE.KIntText
import PyProof.Rows.SortShell
import PyProof.Rows.SortWalk
import PyProof.MinMaxWalk
import PyProof.StrLawsTight
import PyProof.MeetsStr2
import PyProof.MeetsStr
import PyProof.MeetsSeq
import PyProof.MeetsDictList
import PyProof.WalkInts
import PyProof.IsiHeapPairs
import PyProof.IsiPairs
import PyProof.IsiNone
import KE.KIsNot
import PyProof.ExcAttrAll.ValueError
import PyProof.ExcClass2
import PyProof.ExcBaseAll.ValueError
import OpenK.KMore
import OpenK.KTop
import PyProof.EnumMake
import PyProof.EnumStmt
import PyProof.EnumFor
import OpenK.KMake
import OpenK.KGet
import OpenK.KCls
import PyProof.RulesTry
import PyProof.NsDelKeeps
import PyProof.RulesAs
import Wide.Well
import PyProof.Ends
import PySem.Challenge.RW_uf030028_07
set_option genInjectivity false
set_option genSizeOf false
set_option Elab.async false
set_option bootstrap.genMatcherCode false
section
set_option bootstrap.genMatcherCode false
/- the mini language: values, expressions, statements, their interpreter -/
set_option genSizeOf false
set_option genInjectivity false
namespace Mine
section
open Classical

inductive V where
  | none | bool (b : Bool) | int (i : Int) | str (s : List Nat) | tup (xs : List V) | lst (xs : List V) | dct | ref (n : Nat) | exc (c : Nat)

/-- a mutable object -/
inductive M where
  | list (xs : List V) | dict (es : List (Int × V)) | inst (c : Nat) (fs : List V) | gone

noncomputable abbrev H := List M
noncomputable abbrev Rho := List (Option V)

inductive R (α : Type) where
  | ok (a : α) (h : H) | exc (c : Nat) (h : H) | fail
noncomputable def R.bind {α β : Type} : R α → (α → H → R β) → R β
  | .ok a h, f => f a h
  | .exc c h, _ => .exc c h
  | .fail, _ => .fail
/-- a statement's end -/
inductive RS where
  | next (r : Rho) (h : H) | ret (v : V) (r : Rho) (h : H) | exc (c : Nat) (r : Rho) (h : H) | fail

noncomputable def RS.andThen (r : RS) (k : Rho → H → RS) : RS := match r with
  | .next ρ h => k ρ h
  | x => x
noncomputable def RS.of {α : Type} (r : Rho) (x : R α) (f : α → H → RS) : RS :=
  match x with
  | .ok a h => f a h
  | .exc c h => .exc c r h
  | .fail => .fail

inductive Op where | add | sub | mul | div | mod
inductive COp where | eq | ne | lt | le | gt | ge | isIn | notIn | is | isNot
inductive Ty where | int | bool | str | tuple | list | valueError | cls (c : Nat)
/-- built-in functions -/
inductive Bi where | len | int | str | tuple | sorted | min | max
/-- methods of built-in types -/
inductive Bm where | append | pop | remove | index | count | join | split

set_option genCtorIdx false
mutual
inductive E where
  | var (i : Nat) | const (v : V) | glob (g : Nat) (v : V)
  | bin (op : Op) (a b : E) | rep (a b : E)
  | not (a : E) | and (es : List E) | or (es : List E)
  | cmp (op : COp) (a b : E) | cmp2 (op1 op2 : COp) (a b c : E)
  | ite (c : C) (a b : E)
  | call (f : Nat) (args : List E) | new (c : Nat) (args : List E) | meth (o : E) (m : Nat) (args : List E)
  | bi (b : Bi) (args : List E) | bm (m : Bm) (o : E) (args : List E)
  | isinst (a : E) (t : Ty)
  | toList (mu : Bool) (a : E)
  | attr (a : E) (k : Nat)
  | sub (a b : E) | slice (mu : Bool) (a lo hi : E)
  | list (mu : Bool) (es : List E) | tuple (es : List E) | comp (mu : Bool) (x : Nat) (elt : E) (it : It) (ifs : List C)
  | dict0 (mu : Bool)
  | freeze (a : E)
  | inTab (neg : Bool) (t : Nat) (a : E) | subTab (t : Nat) (a : E)
inductive It where
  | of (e : E) | range1 (a : E) | range2 (a b : E)
inductive C where
  | t (e : E) | not (c : C) | and (cs : List C) | or (cs : List C)
end

inductive S where
  | assign (x : Nat) (e : E) | setattr (o : E) (k : Nat) (e : E) | setsub (o i e : E) | expr (e : E)
  | ite (c : C) (a b : List S)
  | for1 (x : Nat) (it : It) (body : List S) | for2 (x y : Nat) (it : E) (body : List S)
  | while (c : C) (body : List S)
  | ret (e : E) | raise (c : Nat) (msg : List Nat)
  | try (body : List S) (hs : List (Nat × Option Nat × List S))

structure Fn where
  npar : Nat
  nloc : Nat
  body : List S
  pure : Bool
structure Cls where
  init : Nat
  meths : List (Nat × Nat)
  /-- the attributes, in their order -/
  attrs : List Nat
structure Prog where
  fns : List (Nat × Fn)
  clss : List Cls
  /-- an exception class's line: itself and those above it -/
  excs : List (List Nat)
  tabs : List (List (List Nat × List Nat))
  /-- the exceptions that may be raised -/
  rz : List Nat
noncomputable def Prog.fn (P : Prog) (f : Nat) : Option Fn := P.fns.lookup f

/-- values without references, of small depth -/
noncomputable def V.plainN : Nat → V → Bool
  | 0, .tup _ | 0, .lst _ => false
  | n + 1, .tup xs => xs.all (V.plainN n)
  | n + 1, .lst xs => xs.all (V.plainN n)
  | _, .ref _ | _, .exc _ | _, .dct => false
  | _, .none | _, .bool _ | _, .int _ | _, .str _ => true
noncomputable def V.plain (v : V) : Bool := V.plainN 6 v
-- all references lie below n
mutual
noncomputable def V.refUnder (n : Nat) : V → Bool
  | .tup xs | .lst xs => V.refsUnder n xs
  | .ref m => decide (m < n)
  | _ => true
noncomputable def V.refsUnder (n : Nat) : List V → Bool
  | [] => true
  | x :: xs => x.refUnder n && V.refsUnder n xs
end
-- Python's ==
mutual
noncomputable def eqV : V → V → Bool
  | .none, .none => true
  | .bool a, .bool b => a == b
  | .bool a, .int b => (if a then 1 else 0) == b
  | .int a, .bool b => a == (if b then 1 else 0)
  | .int a, .int b => a == b
  | .str a, .str b => a == b
  | .tup a, .tup b => eqVs a b
  | .lst a, .lst b => eqVs a b
  | .dct, .dct => true
  | _, _ => false
noncomputable def eqVs : List V → List V → Bool
  | [], [] => true
  | x :: xs, y :: ys => eqV x y && eqVs xs ys
  | _, _ => false
end

noncomputable def listOf (h : H) : V → Option (List V)
  | .lst xs => some xs
  | .ref n => match h[n]? with | some (.list xs) => some xs | _ => none
  | _ => none
noncomputable def seqOf (h : H) : V → Option (List V)
  | .tup xs => some xs
  | v => listOf h v
/-- a mutable list seen as a frozen one -/
noncomputable def deref (h : H) (v : V) : V := match v with
  | .ref n => match h[n]? with | some (.list xs) => .lst xs | _ => v
  | v => v
noncomputable def mkList (mu : Bool) (xs : List V) (h : H) : R V :=
  if mu then .ok (.ref h.length) (h ++ [.list xs]) else .ok (.lst xs) h
noncomputable def truth (_h : H) : V → Option Bool
  | .bool b => some b
  | _ => none

noncomputable def okInt (i : Int) : Bool := decide (-(2 ^ 63) ≤ i) && decide (i < 2 ^ 63)
/-- a range's bound -/
noncomputable def okR (i : Int) : Bool := decide (-1000000000000 ≤ i) && decide (i < 1000000000000)
noncomputable def addV (h : H) (a b : V) : R V := match a with
  | .int a => (match b with | .int b => .ok (.int (a + b)) h | _ => .fail)

  | .lst a => (match b with | .lst b => if a.length + b.length ≤ 100000 then .ok (.lst (a ++ b)) h else .fail | _ => .fail)

  | _ => .fail
noncomputable def subV (h : H) (a b : V) : R V := match a with
  | .int a => (match b with | .int b => .ok (.int (a - b)) h | _ => .fail)
  | _ => .fail
noncomputable def mulV (h : H) (a b : V) : R V := match b with
  | .int b => (match a with
    | .int a => if okInt a || okInt b then .ok (.int (a * b)) h else .fail
    | .lst a => if okInt b && decide (a.length * b.toNat ≤ 100000) then .ok (.lst (List.replicate b.toNat a).flatten) h else .fail
    | _ => .fail)
  | _ => .fail
noncomputable def divV (h : H) (a b : V) : R V := match a with
  | .int a => (match b with | .int b => if b ≠ 0 ∧ b.natAbs < 1073741824 then .ok (.int (a.fdiv b)) h else .fail | _ => .fail)
  | _ => .fail
noncomputable def modV (h : H) (a b : V) : R V := match a with
  | .int a => (match b with | .int b => if b ≠ 0 then .ok (.int (a.fmod b)) h else .fail | _ => .fail)
  | _ => .fail
noncomputable def binV (op : Op) (h : H) (a b : V) : R V := match op with
  | .add => addV h (deref h a) (deref h b)
  | .sub => subV h (deref h a) (deref h b)
  | .mul => mulV h (deref h a) (deref h b)
  | .div => divV h (deref h a) (deref h b)
  | .mod => modV h (deref h a) (deref h b)

noncomputable def memV (h : H) (a b : V) : Option Bool :=
  match b with
  | .ref n => match h[n]? with
    | some (.list xs) => if a.plain && xs.all V.plain then some (xs.any fun x => eqV x a) else none
    | some (.dict es) => match a with | .int k => some (es.any fun p => p.1 == k) | _ => none
    | _ => none
  | .lst xs => if a.plain && xs.all V.plain then some (xs.any fun x => eqV x a) else none
  | _ => none

noncomputable def isN : V → Bool
  | .none => true
  | _ => false
noncomputable def cmpV (op : COp) (h : H) (a b : V) : Option Bool :=
  match op with
  | .eq => if (deref h a).plain && (deref h b).plain then some (eqV (deref h a) (deref h b)) else none
  | .ne => if (deref h a).plain && (deref h b).plain then some (!eqV (deref h a) (deref h b)) else none
  | .lt => match a, b with | .int a, .int b => some (decide (a < b)) | _, _ => none
  | .le => match a, b with | .int a, .int b => some (decide (a ≤ b)) | _, _ => none
  | .gt => match a, b with | .int a, .int b => some (decide (b < a)) | _, _ => none
  | .ge => match a, b with | .int a, .int b => some (decide (b ≤ a)) | _, _ => none
  | .isIn => memV h a b
  | .notIn => (memV h a b).map (!·)
  | .is => match b with | .none => some (isN a) | _ => none
  | .isNot => match b with | .none => some (!isN a) | _ => none

/-- the type of a value, by number -/
noncomputable def tyOf (h : H) : V → Option Nat
  | .none => some 0
  | .bool _ => some 1
  | .int _ => some 2
  | .str _ => some 3
  | .tup _ => some 4
  | .lst _ => some 5
  | .ref n => match h[n]? with | some (.list _) => some 5 | some (.dict _) => some 6 | _ => none
  | _ => none
noncomputable def isInst (P : Prog) (h : H) (v : V) (t : Ty) : Option Bool :=
  match t with
  | .int => (tyOf h v).map fun k => k == 1 || k == 2
  | .bool => (tyOf h v).map fun k => k == 1
  | .str => (tyOf h v).map fun k => k == 3
  | .tuple => (tyOf h v).map fun k => k == 4
  | .list => (tyOf h v).map fun k => k == 5
  | .valueError => match v with | .exc e => if P.rz.contains e then some true else none | _ => none
  | .cls c => match v with | .exc e => if P.rz.contains e then (P.excs[e]?).map fun l => l.contains c else none | _ => none

noncomputable def onSome {α : Type} (o : Option α) (f : α → R V) : R V := match o with
  | some x => f x
  | none => .fail
noncomputable def instV (P : Prog) (h : H) (x : V) (t : Ty) : R V := onSome (isInst P h x t) fun b => .ok (.bool b) h
/-- exceptions are asked for where they may be raised alone -/
noncomputable def okT (P : Prog) : Ty → Bool
  | .valueError | .cls _ => !P.rz.isEmpty
  | _ => true
noncomputable def okIdx (k : Int) : Bool := decide (0 ≤ k) && decide (k < 1000000)
noncomputable def getItem (h : H) (v i : V) : Option V :=
  match i with
  | .int k => match v with
    | .ref n => match h[n]? with
      | some (.list xs) => if okIdx k then xs[k.toNat]? else none
      | some (.dict es) => (es.find? fun p => p.1 == k).map (·.2)
      | _ => none
    | .lst xs | .tup xs => if okIdx k then xs[k.toNat]? else none
    | _ => none
  | _ => none

noncomputable def dictSet (es : List (Int × V)) (k : Int) (v : V) : List (Int × V) :=
  if es.any (fun p => p.1 == k) then es.map (fun p => if p.1 == k then (k, v) else p) else es ++ [(k, v)]
noncomputable def setItem (h : H) (o i v : V) : Option H :=
  match o, i with
  | .ref n, .int k => match h[n]? with
    | some (.list xs) => if okIdx k ∧ k.toNat < xs.length then some (h.set n (.list (xs.set k.toNat v))) else none
    | some (.dict es) => if es.length ≤ 100000 then some (h.set n (.dict (dictSet es k v))) else none
    | _ => none
  | _, _ => none

/-- a slice's bound: none, a number from 0 on, or one from the end -/
noncomputable def bound (len : Nat) (dflt : Nat) : V → Option Nat
  | .none => some dflt
  | .int k => some (if k < 0 then (k + len).toNat else min k.toNat len)
  | _ => none
noncomputable def sliceL {α : Type} (xs : List α) (a b : Nat) : List α := (xs.drop a).take (b - a)
noncomputable def onRef (o : V) (f : Nat → R V) : R V := match o with | .ref n => f n | _ => .fail
noncomputable def onInt (o : V) (f : Int → R V) : R V := match o with | .int s => f s | _ => .fail
noncomputable def slL (mu : Bool) (h : H) (xs : List V) (lo hi : V) : R V := onSome (bound xs.length 0 lo) fun a => onSome (bound xs.length xs.length hi) fun b => if xs.length ≤ 100000 then mkList mu (sliceL xs a b) h else .fail
noncomputable def sliceV (mu : Bool) (h : H) (v lo hi : V) : R V := match v with
  | .lst xs => slL mu h xs lo hi
  | .ref n => onSome (listOf h (.ref n)) fun xs => slL mu h xs lo hi
  | _ => .fail

noncomputable def isDigit (c : Nat) : Bool := decide (48 ≤ c) && decide (c ≤ 57)
noncomputable def readNat (s : List Nat) : Nat := s.foldl (fun a c => 10 * a + (c - 48)) 0
noncomputable def intsV : List V → Option (List Int)
  | [] => some []
  | .int i :: r => (intsV r).map (i :: ·)
  | _ => none
noncomputable def lenV (h : H) (v : V) : Option Nat :=
  match v with
  | .str s => some s.length
  | v => (seqOf h v).map List.length
noncomputable def biV (q : Bool) (b : Bi) (h : H) (vs : List V) : R V :=
  match b, vs with
  | .len, [v] => match lenV h v with | some n => if n ≤ 100000 then .ok (.int n) h else .fail | none => .fail
  | .int, [.bool b] => .ok (.int (if b then 1 else 0)) h
  | .int, [.str s] => if s.all isDigit && decide (1 ≤ s.length) && decide (s.length ≤ 18) then .ok (.int (readNat s)) h else .fail





  | _, _ => .fail

/-- what kind of thing a method is asked of -/
noncomputable def kindM (h : H) : V → Nat
  | .str _ => 1
  | .lst _ => 2
  | .ref n => match h[n]? with | some (.list _) => 2 | some (.dict _) => 3 | _ => 0
  | _ => 0
noncomputable def okM (m : Bm) (k : Nat) : Bool := match m with
  | .append => k == 2
  | .pop => k == 2 || k == 3
  | .remove => k == 2
  | .index => k == 1 || k == 2
  | .count => k == 2
  | .join => k == 1
  | .split => k == 1
noncomputable def one? (vs : List V) : Option V := match vs with
  | [] => none
  | v :: r => (match r with | [] => some v | _ => none)
noncomputable def onList (o : Option M) (f : List V → R V) : R V := match o with
  | some (.list xs) => f xs
  | _ => .fail
noncomputable def appN (h : H) (n : Nat) (v : V) : R V := onList h[n]? fun xs => if xs.length ≤ 100000 then .ok .none (h.set n (.list (xs ++ [v]))) else .fail
noncomputable def popL (h : H) (n : Nat) (xs : List V) (k : Int) : R V := match xs with
  | x :: xs => if k = 0 ∧ xs.length ≤ 99999 then .ok x (h.set n (.list xs)) else .fail
  | [] => .fail
noncomputable def popD (h : H) (n : Nat) (es : List (Int × V)) (k : Int) : R V := onSome (es.find? fun p => p.1 == k) fun p => if es.length ≤ 100000 then .ok p.2 (h.set n (.dict (es.filter fun p => p.1 != k))) else .fail
noncomputable def popN (h : H) (n : Nat) (k : Int) : R V := match h[n]? with
  | some (.list xs) => popL h n xs k
  | some (.dict es) => popD h n es k
  | _ => .fail
noncomputable def remN (h : H) (n : Nat) (k : Int) : R V := onList h[n]? fun xs => onSome (intsV xs) fun is => if is.contains k = true ∧ is.length ≤ 100000 then .ok .none (h.set n (.list ((is.erase k).map .int))) else .fail
noncomputable def cntL (h : H) (o v : V) : R V := onSome (listOf h o) fun xs => if v.plain && xs.all V.plain then .ok (.int (xs.countP fun x => eqV x v)) h else .fail
noncomputable def bmV1 (m : Bm) (h : H) (o v : V) : R V := match m with
  | .append => onRef o fun n => appN h n v
  | .pop => onRef o fun n => onInt v fun k => popN h n k
  | .remove => onRef o fun n => onInt v fun k => remN h n k
  | .index => .fail
  | .count => cntL h o v
  | .join => .fail
  | .split => .fail
noncomputable def bmV (m : Bm) (h : H) (o : V) (vs : List V) : R V := match one? vs with
  | some v => bmV1 m h o v
  | none => .fail

/-- what a loop takes, and the list that must not turn while it runs -/
noncomputable def itemsOf (h : H) : V → Option (List V × Option (Nat × List V))
  | .lst xs => some (xs, none)
  | .ref n => match h[n]? with | some (.list xs) => some (xs, some (n, xs)) | _ => none
  | _ => none
noncomputable def still (h : H) : Option (Nat × List V) → Bool
  | none => true
  | some (n, xs) => decide (h[n]? = some (.list xs))

noncomputable def forLoop (still : H → Bool) (step : V → Rho → H → RS) : List V → Rho → H → RS
  | [], r, h => if still h then .next r h else .fail
  | v :: vs, r, h => if still h then (step v r h).andThen (forLoop still step vs) else .fail
noncomputable def compLoop (still : H → Bool) (step : V → H → R Unit) : List V → H → R Unit
  | [], h => if still h then .ok () h else .fail
  | v :: vs, h => if still h then (step v h).bind fun _ h' => compLoop still step vs h' else .fail
/-- a comprehension's end: its list is the object with the number of the first heap's length -/
noncomputable def endComp (mu : Bool) (h h' : H) : R V :=
  match h'[h.length]? with
  | some (.list ys) => if mu then .ok (.ref h.length) h' else if h'.take h.length = h ∧ V.refsUnder h.length ys = true then .ok (.lst ys) h else .ok (.lst ys) (h'.set h.length .gone)
  | _ => .fail
/-- what a loop over a list with numbers takes -/
noncomputable def listIt (h : H) : V → Option (List V × Option (Nat × List V))
  | .lst xs => some (xs, none)
  | .ref n => itemsOf h (.ref n)
  | _ => none
noncomputable def numbered : Nat → List V → List (Nat × V)
  | _, [] => []
  | i, x :: xs => (i, x) :: numbered (i + 1) xs
noncomputable def forLoop2 (still : H → Bool) (step : Nat × V → Rho → H → RS) : List (Nat × V) → Rho → H → RS
  | [], r, h => if still h then .next r h else .fail
  | v :: vs, r, h => if still h then (step v r h).andThen (forLoop2 still step vs) else .fail
/-- a turn of a comprehension: its tests, its element, the list's object -/
noncomputable def compStep (tests : Rho → H → R Bool) (elt : Rho → H → R V) (x N : Nat) (r : Rho) (v : V) (h : H) : R Unit :=
  (tests (r.set x (some v)) h).bind fun t h' => if t then (elt (r.set x (some v)) h').bind fun y h' => (appN h' N y).bind fun _ h' => .ok () h' else .ok () h'

noncomputable def methOf (P : Prog) (h : H) (x : V) (m : Nat) : Option Nat :=
  match x with
  | .ref n => match h[n]? with
    | some (.inst c _) => match P.clss[c]? with
      | some cl => cl.meths.lookup m
      | none => none
    | _ => none
  | _ => none

/-- an attribute -/
noncomputable def getA (P : Prog) (h : H) (x : V) (k : Nat) : Option V :=
  match x with
  | .ref n => match h[n]? with
    | some (.inst c fs) => match P.clss[c]? with
      | some cl => match cl.attrs.findIdx? (· == k) with
        | some i => fs[i]?
        | none => none
      | none => none
    | _ => none
  | _ => none
noncomputable def setA (P : Prog) (h : H) (x : V) (k : Nat) (v : V) : Option H :=
  match x with
  | .ref n => match h[n]? with
    | some (.inst c fs) => match P.clss[c]? with
      | some cl => match cl.attrs.findIdx? (· == k) with
        | some i => if i < fs.length then some (h.set n (.inst c (fs.set i v))) else if i = fs.length then some (h.set n (.inst c (fs ++ [v]))) else none
        | none => none
      | none => none
    | _ => none
  | _ => none

section
variable (P : Prog) (q : Bool) (call : Nat → List V → H → R V)
mutual
noncomputable def evE : E → Rho → H → R V
  | .var i, r, h => match r[i]? with | some (some v) => .ok v h | _ => .fail
  | .const v, _, h => .ok v h
  | .glob _ v, _, h => .ok v h
  | .bin op a b, r, h => (evE a r h).bind fun x h => (evE b r h).bind fun y h => binV op h x y
  | .rep _ _, _, _ => .fail
  | .not a, r, h => (evE a r h).bind fun x h => match truth h x with | some b => .ok (.bool (!b)) h | none => .fail
  | .and es, r, h => evAnd es r h
  | .or es, r, h => evOr es r h
  | .cmp op a b, r, h => (evE a r h).bind fun x h => (evE b r h).bind fun y h => match cmpV op h x y with | some b => .ok (.bool b) h | none => .fail
  | .cmp2 op1 op2 a b c, r, h => (evE a r h).bind fun x h => (evE b r h).bind fun y h => match cmpV op1 h x y with
      | some true => (evE c r h).bind fun z h => match cmpV op2 h y z with | some b => .ok (.bool b) h | none => .fail
      | some false => .ok (.bool false) h
      | none => .fail
  | .ite c a b, r, h => (evC c r h).bind fun t h => if t then evE a r h else evE b r h
  | .call f args, r, h => (evEs args r h).bind fun vs h => call f vs h
  | .new c args, r, h => (evEs args r h).bind fun vs h => match P.clss[c]? with
      | some cl => (call cl.init (.ref h.length :: vs) (h ++ [.inst c []])).bind fun v h' => match v with
        | .none => .ok (.ref h.length) h'
        | _ => .fail
      | none => .fail
  | .meth o m args, r, h => (evE o r h).bind fun x h => match methOf P h x m with
      | some f => (evEs args r h).bind fun vs h => call f (x :: vs) h
      | none => .fail
  | .bi b args, r, h => (evEs args r h).bind fun vs h => biV q b h vs
  | .bm m o args, r, h => (evE o r h).bind fun x h => if okM m (kindM h x) then (evEs args r h).bind fun vs h' => if kindM h' x = kindM h x then bmV m h' x vs else .fail else .fail
  | .isinst a t, r, h => if okT P t then (evE a r h).bind fun x h => instV P h x t else .fail
  | .toList mu a, r, h => (evE a r h).bind fun x h => match seqOf h x with | some xs => if xs.length ≤ 100000 then mkList mu xs h else .fail | none => .fail
  | .attr a k, r, h => (evE a r h).bind fun x h => match getA P h x k with | some v => .ok v h | none => .fail
  | .sub a b, r, h => (evE a r h).bind fun x h => (evE b r h).bind fun y h => match getItem h x y with | some v => .ok v h | none => .fail
  | .slice mu a lo hi, r, h => (evE a r h).bind fun x h => (evE lo r h).bind fun y h => (evE hi r h).bind fun z h => sliceV mu h x y z
  | .list mu es, r, h => (evEs es r h).bind fun vs h => mkList mu vs h
  | .tuple es, r, h => (evEs es r h).bind fun vs h => .ok (.tup vs) h
  | .comp mu x elt it ifs, r, h => (evIt it r h).bind fun s h => match itemsOf h s with
      | some (xs, live) => if q = true ∧ xs.length ≤ 100000 then (compLoop (still · live) (compStep (evIfs ifs) (evE elt) x h.length r) xs (h ++ [.list []])).bind fun _ h' => endComp mu h h' else .fail
      | none => .fail
  | .dict0 mu, _, h => if mu then .ok (.ref h.length) (h ++ [.dict []]) else .fail
  | .freeze _, _, _ => .fail
  | .inTab _ _ _, _, _ => .fail
  | .subTab _ _, _, _ => .fail
noncomputable def evIt : It → Rho → H → R V
  | .of e, r, h => evE e r h
  | .range1 a, r, h => (evE a r h).bind fun x h => match x with
      | .int n => if okR n && decide (n.toNat ≤ 100000) then .ok (.lst ((List.range n.toNat).map fun (i : Nat) => .int i)) h else .fail
      | _ => .fail
  | .range2 _ _, _, _ => .fail
noncomputable def evEs : List E → Rho → H → R (List V)
  | [], _, h => .ok [] h
  | e :: es, r, h => (evE e r h).bind fun v h => (evEs es r h).bind fun vs h => .ok (v :: vs) h
noncomputable def evAnd : List E → Rho → H → R V
  | [], _, _ => .fail
  | [e], r, h => evE e r h
  | e :: e' :: es, r, h => (evE e r h).bind fun v h => match truth h v with
      | some true => evAnd (e' :: es) r h
      | some false => .ok v h
      | none => .fail
noncomputable def evOr : List E → Rho → H → R V
  | [], _, _ => .fail
  | [e], r, h => evE e r h
  | e :: e' :: es, r, h => (evE e r h).bind fun v h => match truth h v with
      | some false => evOr (e' :: es) r h
      | some true => .ok v h
      | none => .fail
noncomputable def evC : C → Rho → H → R Bool
  | .t e, r, h => (evE e r h).bind fun v h => match truth h v with | some b => .ok b h | none => .fail
  | .not c, r, h => (evC c r h).bind fun b h => .ok (!b) h
  | .and cs, r, h => evCand cs r h
  | .or cs, r, h => evCor cs r h
noncomputable def evCand : List C → Rho → H → R Bool
  | [], _, h => .ok true h
  | c :: cs, r, h => (evC c r h).bind fun b h => if b then evCand cs r h else .ok false h
noncomputable def evCor : List C → Rho → H → R Bool
  | [], _, h => .ok false h
  | c :: cs, r, h => (evC c r h).bind fun b h => if b then .ok true h else evCor cs r h
noncomputable def evIfs : List C → Rho → H → R Bool
  | [], _, h => .ok true h
  | c :: cs, r, h => (evC c r h).bind fun b h => if b then evIfs cs r h else .ok false h
end
end

section
variable (P : Prog) (call : Bool → Nat → List V → H → R V)
/-- the exception's name goes behind its clause -/
noncomputable def clr (x : Option Nat) : RS → RS
  | .next r h => .next (match x with | some i => r.set i none | none => r) h
  | .ret v r h => .ret v (match x with | some i => r.set i none | none => r) h
  | .exc c r h => .exc c (match x with | some i => r.set i none | none => r) h
  | .fail => .fail
mutual
noncomputable def evS (q : Bool) : S → Rho → H → RS
  | .assign x e, r, h => RS.of r (evE P q (call q) e r h) fun v h => .next (r.set x (some v)) h
  | .setattr o k e, r, h => RS.of r (evE P q (call q) e r h) fun v h => RS.of r (evE P q (call q) o r h) fun x h => match setA P h x k v with
      | some h' => .next r h'
      | none => .fail
  | .setsub o i e, r, h => RS.of r (evE P q (call q) e r h) fun v h => RS.of r (evE P q (call q) o r h) fun x h => RS.of r (evE P q (call q) i r h) fun y h => match setItem h x y v with
      | some h' => .next r h'
      | none => .fail
  | .expr e, r, h => RS.of r (evE P q (call q) e r h) fun _ h => .next r h
  | .ite c a b, r, h => RS.of r (evC P q (call q) c r h) fun t h => if t then evSs q a r h else evSs q b r h
  | .for1 x it body, r, h => RS.of r (evIt P q (call q) it r h) fun s h => match itemsOf h s with
      | some (xs, live) => if q = true ∧ xs.length ≤ 100000 then forLoop (still · live) (fun v r h => evSs q body (r.set x (some v)) h) xs r h else .fail
      | none => .fail
  | .for2 x y it body, r, h => RS.of r (evE P q (call q) it r h) fun s h => match listIt h s with
      | some (xs, live) => if q = true ∧ xs.length ≤ 100000 then forLoop2 (still · live) (fun p r h => evSs q body ((r.set x (some (.int p.1))).set y (some p.2)) h) (numbered 0 xs) r h else .fail
      | none => .fail
  | .while _ _, _, _ => .fail
  | .ret e, r, h => RS.of r (evE P q (call q) e r h) fun v h => .ret v r h
  | .raise c _, r, h => if q = true ∧ P.rz.contains c = true then .exc c r h else .fail
  | .try body hs, r, h => match evSs q body r h with
      | .exc c r' h' => if P.rz.contains c = true then evHs c hs r' h' else .fail
      | x => x
noncomputable def evSs (q : Bool) : List S → Rho → H → RS
  | [], r, h => .next r h
  | s :: ss, r, h => (evS q s r h).andThen (evSs q ss)
/-- the clauses in order -/
noncomputable def evHs (c : Nat) : List (Nat × Option Nat × List S) → Rho → H → RS
  | [], r, h => .exc c r h
  | (k, x, b) :: rest, r, h => if ((P.excs[c]?).getD []).contains k then clr x (evSs false b (match x with | some i => r.set i (some (.exc c)) | none => r) h) else evHs c rest r h
end
end

noncomputable def fin (pure : Bool) (h : H) (r : R V) : R V :=
  if pure then match r with
    | .ok v h' => if h'.take h.length = h ∧ v.refUnder h.length = true then .ok v h else .fail
    | .exc c h' => if h'.take h.length = h then .exc c h else .fail
    | .fail => .fail
  else r
noncomputable def ofRS : RS → R V
  | .next _ h => .ok .none h
  | .ret v _ h => .ok v h
  | .exc c _ h => .exc c h
  | .fail => .fail
noncomputable def callN (P : Prog) : Nat → Bool → Nat → List V → H → R V
  | 0, _, _, _, _ => .fail
  | d + 1, q, f, vs, h => match P.fn f with
    | none => .fail
    | some F => if vs.length = F.npar then fin F.pure h (ofRS (evSs P (callN P d) q F.body (vs.map some ++ List.replicate (F.nloc - F.npar) none) h)) else .fail

end
end Mine
end
section
namespace Mine
open PySem

/-- object's address, its dict's address -/
noncomputable abbrev Phi := List (Addr × Addr)

structure St where
  prog : Program
  w : World
  P : Prog
  base : Heap
  nolim : base.NoLimit
  cls : Nat → Addr
  attrs : Nat → List Str
  exc : Nat → Addr

noncomputable abbrev St.M (T : St) : Model := model T.prog T.w

inductive own (φ : Phi) (η : H) (b : Addr) : Prop where
  | mk (n : Nat) (p : Addr × Addr) (m : M) (hp : φ[n]? = some p) (hm : η[n]? = some m) (hg : m ≠ M.gone) (hb : b = p.1 ∨ b = p.2)

noncomputable abbrev listO (items : Array Value) (n : Nat) : Obj := { cls := .type "list", dict := none, data := .seq items n, slots := #[] }
noncomputable abbrev tupO (items : Array Value) (n : Nat) : Obj := { cls := .type "tuple", dict := none, data := .seq items n, slots := #[] }
noncomputable abbrev dictO (es : Array DictEntry) (n : Nat) : Obj := { cls := .type "dict", dict := none, data := .dict es n, slots := #[] }
noncomputable abbrev instO (C d : Addr) : Obj := { cls := .ref C, dict := some d, data := .plain, slots := #[] }

mutual
noncomputable def VR (T : St) (φ : Phi) (N : Addr → Prop) (h : Heap) : V → Value → Prop
  | .none, v => v = .none
  | .bool b, v => v = .bool b
  | .int i, v => ∃ t, v = .int i t
  | .str s, v => ∃ t, v = .str ⟨s.toArray⟩ t
  | .tup xs, v => ∃ a items n, v = .ref a ∧ ¬ N a ∧ h.get? a = some (tupO items n) ∧ VRs T φ N h xs items.toList
  | .lst xs, v => ∃ a items n, v = .ref a ∧ ¬ N a ∧ h.get? a = some (listO items n) ∧ VRs T φ N h xs items.toList
  | .dct, _ => False
  | .ref n, v => ∃ p, φ[n]? = some p ∧ v = .ref p.1
  | .exc c, v => ∃ a o, v = .ref a ∧ ¬ N a ∧ h.get? a = some o ∧ o.cls = .ref (T.exc c) ∧ ∃ vs, o.data = .fields vs
noncomputable def VRs (T : St) (φ : Phi) (N : Addr → Prop) (h : Heap) : List V → List Value → Prop
  | [], vs => vs = []
  | x :: xs, vs => ∃ v r, vs = v :: r ∧ VR T φ N h x v ∧ VRs T φ N h xs r
end

/-- an exception, or an entry of its way: its fields may turn -/
noncomputable def Loose (o : Obj) : Prop := (∃ vs, o.data = .fields vs) ∧ (o.cls = .type "traceback" ∨ ∃ C, o.cls = .ref C)
/-- an object stays; a frame's slots may turn, and an exception's fields -/
noncomputable def StayO (o : Obj) (h : Heap) (b : Addr) : Prop :=
  h.get? b = some o ∨ (o.cls = .type "frame" ∧ ∃ sl, h.get? b = some { o with slots := sl }) ∨ (Loose o ∧ ∃ o', h.get? b = some o' ∧ o'.cls = o.cls ∧ Loose o')
theorem StayO.exact {o : Obj} {h : Heap} {b : Addr} (x : StayO o h b) (hc : o.cls ≠ .type "frame") (hl : ¬ Loose o) : h.get? b = some o := by
  rcases x with x | ⟨x, _⟩ | ⟨x, _⟩
  · exact x
  · exact absurd x hc
  · exact absurd x hl
theorem StayO.refl {o : Obj} {h : Heap} {b : Addr} (e : h.get? b = some o) : StayO o h b := .inl e
theorem Loose.notFrame {o : Obj} (x : Loose o) : o.cls ≠ .type "frame" := by
  obtain ⟨_, e | ⟨C, e⟩⟩ := x <;> (rw [e]; simp)
theorem not_loose {o : Obj} {c : String} (e : o.cls = .type c) (hc : c ≠ "traceback") : ¬ Loose o := by
  rintro ⟨_, x | ⟨C, x⟩⟩
  · rw [e] at x; cases x; exact hc rfl
  · rw [e] at x; cases x
theorem StayO.trans {o : Obj} {h h' : Heap} {b : Addr} (x : StayO o h b) (y : ∀ o', h.get? b = some o' → StayO o' h' b) : StayO o h' b := by
  rcases x with x | ⟨c, sl, x⟩ | ⟨l, o', x, ec, l'⟩
  · exact y o x
  · rcases y _ x with y | ⟨_, sl', y⟩ | ⟨l, _⟩
    · exact .inr (.inl ⟨c, sl, y⟩)
    · exact .inr (.inl ⟨c, sl', y⟩)
    · exact absurd c l.notFrame
  · rcases y _ x with y | ⟨c, _⟩ | ⟨_, o'', y, ec', l''⟩
    · exact .inr (.inr ⟨l, o', y, ec, l'⟩)
    · exact absurd c l'.notFrame
    · exact .inr (.inr ⟨l, o'', y, ec'.trans ec, l''⟩)
theorem StayO.there {o : Obj} {h : Heap} {b : Addr} (x : StayO o h b) : ∃ o', h.get? b = some o' ∧ o'.cls = o.cls := by
  rcases x with x | ⟨_, sl, x⟩ | ⟨_, o', x, e, _⟩
  · exact ⟨_, x, rfl⟩
  · exact ⟨_, x, rfl⟩
  · exact ⟨_, x, e⟩

structure Step (φ : Phi) (η : H) (h : Heap) (φ' : Phi) (η' : H) (h' : Heap) : Prop where
  ext : φ <+: φ'
  keep : ∀ b o, ¬ own φ η b → h.get? b = some o → StayO o h' b
  osub : ∀ b, own φ' η' b → own φ η b ∨ h.get? b = none
  alive : ∀ b o, h.get? b = some o → (h'.get? b).isSome = true

theorem Step.refl (φ : Phi) (η : H) (h : Heap) : Step φ η h φ η h :=
  ⟨List.prefix_refl _, fun _ _ _ e => .refl e, fun _ o => .inl o, fun _ _ e => by rw [e]; rfl⟩

theorem Step.trans {φ₁ φ₂ φ₃ : Phi} {η₁ η₂ η₃ : H} {h₁ h₂ h₃ : Heap} (x : Step φ₁ η₁ h₁ φ₂ η₂ h₂) (y : Step φ₂ η₂ h₂ φ₃ η₃ h₃) : Step φ₁ η₁ h₁ φ₃ η₃ h₃ where
  ext := x.ext.trans y.ext
  keep := fun b o hb e => by
    have hb₂ : ¬ own φ₂ η₂ b := fun q => (x.osub b q).elim hb fun q => by rw [q] at e; cases e
    exact (x.keep b o hb e).trans fun o' e' => y.keep b o' hb₂ e'
  osub := fun b q => by
    rcases y.osub b q with q | q
    · exact x.osub b q
    · right
      cases e : h₁.get? b with
      | none => rfl
      | some o => have := x.alive b o e; rw [q] at this; cases this
  alive := fun b o e => by
    obtain ⟨o', e'⟩ := Option.isSome_iff_exists.mp (x.alive b o e)
    exact y.alive b o' e'

theorem Step.off {φ φ' : Phi} {η η' : H} {h h' : Heap} (st : Step φ η h φ' η' h') {a : Addr} {o : Obj} (hN : ¬ own φ η a) (hg : h.get? a = some o) : ¬ own φ' η' a :=
  fun q => (st.osub a q).elim hN fun q => by rw [q] at hg; cases hg

theorem get_prefix {α : Type} {l l' : List α} (x : l <+: l') {n : Nat} {a : α} (e : l[n]? = some a) : l'[n]? = some a := by
  obtain ⟨t, rfl⟩ := x
  rw [List.getElem?_append_left (List.getElem?_eq_some_iff.mp e).1]
  exact e

mutual
theorem VR.step {T : St} {φ φ' : Phi} {η η' : H} {h h' : Heap} (st : Step φ η h φ' η' h') : ∀ (v : V) (x : Value), VR T φ (own φ η) h v x → VR T φ' (own φ' η') h' v x
  | .none, _, e => e
  | .bool _, _, e => e
  | .int _, _, e => e
  | .str _, _, e => e
  | .tup xs, x, e => by
    simp only [VR] at e ⊢
    obtain ⟨a, items, n, rfl, hN, hg, hr⟩ := e
    exact ⟨a, items, n, rfl, st.off hN hg, (st.keep a _ hN hg).exact (by simp) (not_loose rfl (by decide)), VRs.step st xs _ hr⟩
  | .lst xs, x, e => by
    simp only [VR] at e ⊢
    obtain ⟨a, items, n, rfl, hN, hg, hr⟩ := e
    exact ⟨a, items, n, rfl, st.off hN hg, (st.keep a _ hN hg).exact (by simp) (not_loose rfl (by decide)), VRs.step st xs _ hr⟩
  | .dct, x, e => by
    simp only [VR] at e
  | .ref n, x, e => by
    simp only [VR] at e ⊢
    obtain ⟨p, hp, rfl⟩ := e
    exact ⟨p, get_prefix st.ext hp, rfl⟩
  | .exc c, x, e => by
    simp only [VR] at e ⊢
    obtain ⟨a, o, rfl, hN, hg, hc, hd⟩ := e
    rcases st.keep a _ hN hg with x | ⟨x, _⟩ | ⟨_, o', x, ec, hl⟩
    · exact ⟨a, o, rfl, st.off hN hg, x, hc, hd⟩
    · rw [hc] at x; cases x
    · exact ⟨a, o', rfl, st.off hN hg, x, ec.trans hc, hl.1⟩
theorem VRs.step {T : St} {φ φ' : Phi} {η η' : H} {h h' : Heap} (st : Step φ η h φ' η' h') : ∀ (v : List V) (x : List Value), VRs T φ (own φ η) h v x → VRs T φ' (own φ' η') h' v x
  | [], _, e => e
  | y :: ys, x, e => by
    simp only [VRs] at e ⊢
    obtain ⟨v, r, rfl, h1, h2⟩ := e
    exact ⟨v, r, rfl, VR.step st y v h1, VRs.step st ys r h2⟩
end

/-- an instance's dict: its names, and how many -/
noncomputable def DAt (h : Heap) (a : Addr) (m : Str → Option Value) (k : Nat) : Prop := ∃ o es n, h.get? a = some o ∧ o.cls = .type "dict" ∧ o.data = .dict es n ∧ StrKeys es ∧ (∀ x, nsFind es x = m x) ∧ es.size ≤ k
theorem DAt.at {h h' : Heap} {a : Addr} {m : Str → Option Value} {k : Nat} (x : DAt h a m k) (kk : ∀ o, h.get? a = some o → h'.get? a = some o) : DAt h' a m k := by
  obtain ⟨o, es, n, g, r⟩ := x
  exact ⟨o, es, n, kk _ g, r⟩
/-- an instance's names -/
noncomputable def attrM (names : List Str) (ys : List Value) (x : Str) : Option Value := (names.zip ys).lookup x

noncomputable def OR (T : St) (φ : Phi) (N : Addr → Prop) (h : Heap) (m : M) (p : Addr × Addr) : Prop :=
  match m with
  | .list xs => p.2 = p.1 ∧ ∃ items n, h.get? p.1 = some (listO items n) ∧ VRs T φ N h xs items.toList
  | .dict es => p.2 = p.1 ∧ ∃ kvs, h.DictOf (intKind T.prog T.w) p.1 kvs ∧ kvs.map (·.1) = es.map (·.1) ∧ VRs T φ N h (es.map (·.2)) (kvs.map (·.2))
  | .inst c fs => p.1 ≠ p.2 ∧ h.get? p.1 = some (instO (T.cls c) p.2) ∧ ∃ ys, DAt h p.2 (attrM (T.attrs c) ys) ys.length ∧ ys.length ≤ (T.attrs c).length ∧ VRs T φ N h fs ys
  | .gone => True

structure Rel (T : St) (φ : Phi) (η : H) (h : Heap) : Prop where
  len : φ.length = η.length
  base : ∀ b o, T.base.get? b = some o → h.get? b = some o
  obj : ∀ (n : Nat) (m : M) (p : Addr × Addr), η[n]? = some m → φ[n]? = some p → OR T φ (own φ η) h m p
  fresh : ∀ b, own φ η b → T.base.get? b = none ∧ cStatics < b
  disj : ∀ (n n' : Nat) (p p' : Addr × Addr) (m m' : M), φ[n]? = some p → φ[n']? = some p' → η[n]? = some m → η[n']? = some m' → m ≠ .gone → m' ≠ .gone → n ≠ n' → p.1 ≠ p'.1 ∧ p.1 ≠ p'.2 ∧ p.2 ≠ p'.1 ∧ p.2 ≠ p'.2

/-- what is owned is there, and no frame -/
theorem Rel.there {T : St} {φ : Phi} {η : H} {h : Heap} (R : Rel T φ η h) {b : Addr} (o : own φ η b) : ∃ ob, h.get? b = some ob ∧ ob.cls ≠ .type "frame" := by
  obtain ⟨n, p, m, hp, hm, hg, hb⟩ := o
  have := R.obj n m p hm hp
  unfold OR at this
  split at this
  · obtain ⟨e, items, k, hg, _⟩ := this
    rcases hb with rfl | rfl
    · exact ⟨_, hg, by simp⟩
    · rw [e]; exact ⟨_, hg, by simp⟩
  · obtain ⟨e, kvs, hd, _⟩ := this
    obtain ⟨o, es, ep, hg, hx, _⟩ := hd
    rcases hb with rfl | rfl
    · exact ⟨_, hg, by rw [hx.1]; simp⟩
    · rw [e]; exact ⟨_, hg, by rw [hx.1]; simp⟩
  · obtain ⟨_, h1, ys, ⟨o, es, k, h2, hc, _⟩, _⟩ := this
    rcases hb with rfl | rfl
    · exact ⟨_, h1, by simp⟩
    · exact ⟨_, h2, by rw [hc]; simp⟩
  · exact absurd rfl hg

/-- an object with fields is not owned -/
theorem Rel.notFields {T : St} {φ : Phi} {η : H} {h : Heap} (R : Rel T φ η h) {b : Addr} {o : Obj} {vs : Array Value} (hg : h.get? b = some o) (hd : o.data = .fields vs) : ¬ own φ η b := by
  rintro ⟨n, p, m, hp, hm, hgn, hb⟩
  have := R.obj n m p hm hp
  unfold OR at this
  split at this
  · obtain ⟨e, items, k, h1, _⟩ := this
    rcases hb with rfl | rfl <;> (try rw [e] at hg) <;> (rw [h1] at hg; cases hg; cases hd)
  · obtain ⟨e, kvs, hdd, _⟩ := this
    obtain ⟨o', es, ep, h1, hx, h2, _⟩ := hdd
    rcases hb with rfl | rfl <;> (try rw [e] at hg) <;> (rw [h1] at hg; cases hg; rw [h2] at hd; cases hd)
  · obtain ⟨_, h1, ys, ⟨o, es, k, h2, _, h3, _⟩, _⟩ := this
    rcases hb with rfl | rfl
    · rw [h1] at hg; cases hg; cases hd
    · rw [h2] at hg; cases hg; rw [h3] at hd; cases hd
  · exact hgn rfl

/-- the heap has grown alone -/
theorem Step.keeps {φ : Phi} {η : H} {h h' : Heap} (k : ∀ b o, h.get? b = some o → h'.get? b = some o) : Step φ η h φ η h' :=
  ⟨List.prefix_refl _, fun b o _ e => .refl (k b o e), fun _ o => .inl o, fun b o e => by rw [k b o e]; rfl⟩

theorem OR.step {T : St} {φ φ' : Phi} {η η' : H} {h h' : Heap} (st : Step φ η h φ' η' h') {m : M} {p : Addr × Addr} (k : ∀ o, ∀ b, b = p.1 ∨ b = p.2 → h.get? b = some o → h'.get? b = some o)
    (x : OR T φ (own φ η) h m p) : OR T φ' (own φ' η') h' m p := by
  unfold OR at x ⊢
  split at x
  · obtain ⟨e, items, n, h1, h2⟩ := x
    exact ⟨e, items, n, k _ _ (.inl rfl) h1, VRs.step st _ _ h2⟩
  · obtain ⟨e, kvs, ⟨o, es, ep, h0, h0'⟩, h1, h2⟩ := x
    exact ⟨e, kvs, ⟨o, es, ep, k _ _ (.inl rfl) h0, h0'⟩, h1, VRs.step st _ _ h2⟩
  · obtain ⟨e, h1, ys, h2, hl, h3⟩ := x
    exact ⟨e, k _ _ (.inl rfl) h1, ys, h2.at fun o => k o _ (.inr rfl), hl, VRs.step st _ _ h3⟩
  · trivial

theorem Rel.keeps {T : St} {φ : Phi} {η : H} {h h' : Heap} (R : Rel T φ η h) (k : ∀ b o, h.get? b = some o → h'.get? b = some o) : Rel T φ η h' where
  len := R.len
  base := fun b o e => k b o (R.base b o e)
  obj := fun n m p hm hp => OR.step (.keeps k) (fun o b _ e => k b o e) (R.obj n m p hm hp)
  fresh := R.fresh
  disj := R.disj

theorem own_set {φ : Phi} {η : H} {n : Nat} {m m' : M} (hm : η[n]? = some m) (hg : m ≠ .gone) (hg' : m' ≠ .gone) (b : Addr) : own φ (η.set n m') b ↔ own φ η b := by
  have hlt : n < η.length := (List.getElem?_eq_some_iff.mp hm).1
  constructor
  · rintro ⟨k, p, x, hp, hx, hxg, hb⟩
    by_cases e : n = k
    · subst e; exact ⟨n, p, m, hp, hm, hg, hb⟩
    · rw [List.getElem?_set_ne e] at hx; exact ⟨k, p, x, hp, hx, hxg, hb⟩
  · rintro ⟨k, p, x, hp, hx, hxg, hb⟩
    by_cases e : n = k
    · subst e; exact ⟨n, p, m', hp, by simp [hlt], hg', hb⟩
    · exact ⟨k, p, x, hp, by rw [List.getElem?_set_ne e]; exact hx, hxg, hb⟩

/-- one object turns -/
theorem Rel.set {T : St} {φ : Phi} {η : H} {h h' : Heap} {n : Nat} {m m' : M} {p : Addr × Addr} (R : Rel T φ η h) (hm : η[n]? = some m) (hp : φ[n]? = some p) (hg : m ≠ .gone) (hg' : m' ≠ .gone)
    (k : ∀ b o, b ≠ p.1 → b ≠ p.2 → h.get? b = some o → h'.get? b = some o) (a1 : (h'.get? p.1).isSome = true) (a2 : (h'.get? p.2).isSome = true)
    (ho : Step φ η h φ (η.set n m') h' → OR T φ (own φ (η.set n m')) h' m' p) : Rel T φ (η.set n m') h' ∧ Step φ η h φ (η.set n m') h' := by
  have hown : own φ η p.1 ∧ own φ η p.2 := ⟨⟨n, p, m, hp, hm, hg, .inl rfl⟩, ⟨n, p, m, hp, hm, hg, .inr rfl⟩⟩
  have st : Step φ η h φ (η.set n m') h' := ⟨List.prefix_refl _, fun b o hb e => .refl (k b o (fun q => hb (q ▸ hown.1)) (fun q => hb (q ▸ hown.2)) e), fun b hb => .inl ((own_set hm hg hg' b).mp hb), fun b o e => by
    by_cases q1 : b = p.1
    · rw [q1]; exact a1
    · by_cases q2 : b = p.2
      · rw [q2]; exact a2
      · rw [k b o q1 q2 e]; rfl⟩
  refine ⟨⟨?_, fun b o e => ?_, fun k' x p' hx hp' => ?_, fun b hb => R.fresh b ((own_set hm hg hg' b).mp hb), fun i j q q' x x' hq hq' hx hx' gx gx' hij => ?_⟩, st⟩
  · rw [List.length_set]; exact R.len
  · exact k b o (fun q => by have := (R.fresh _ hown.1).1; rw [← q, e] at this; cases this) (fun q => by have := (R.fresh _ hown.2).1; rw [← q, e] at this; cases this) (R.base b o e)
  · by_cases e : n = k'
    · subst e
      have hlt : n < η.length := (List.getElem?_eq_some_iff.mp hm).1
      rw [List.getElem?_set_self hlt] at hx
      cases hx
      rw [hp] at hp'; cases hp'
      exact ho st
    · rw [List.getElem?_set_ne e] at hx
      by_cases gx : x = .gone
      · subst gx; trivial
      · have d := R.disj n k' p p' m x hp hp' hm hx hg gx e
        refine OR.step st (fun o b hb e => k b o ?_ ?_ e) (R.obj k' x p' hx hp')
        · rcases hb with rfl | rfl
          · exact Ne.symm d.1
          · exact Ne.symm d.2.1
        · rcases hb with rfl | rfl
          · exact Ne.symm d.2.2.1
          · exact Ne.symm d.2.2.2
  · have get : ∀ (i : Nat) (x : M), (η.set n m')[i]? = some x → x ≠ .gone → ∃ y, η[i]? = some y ∧ y ≠ .gone := fun i x hx gx => by
      by_cases e : n = i
      · subst e; exact ⟨m, hm, hg⟩
      · rw [List.getElem?_set_ne e] at hx; exact ⟨x, hx, gx⟩
    obtain ⟨y, hy, gy⟩ := get i x hx gx
    obtain ⟨y', hy', gy'⟩ := get j x' hx' gx'
    exact R.disj i j q q' y y' hq hq' hy hy' gy gy' hij

theorem own_add {T : St} {φ : Phi} {η : H} {h : Heap} (R : Rel T φ η h) {p : Addr × Addr} {m : M} {b : Addr} (x : own (φ ++ [p]) (η ++ [m]) b) : own φ η b ∨ b = p.1 ∨ b = p.2 := by
  obtain ⟨n, q, y, hq, hy, gy, hb⟩ := x
  by_cases hn : n < φ.length
  · rw [List.getElem?_append_left hn] at hq
    rw [List.getElem?_append_left (by rw [← R.len]; exact hn)] at hy
    exact .inl ⟨n, q, y, hq, hy, gy, hb⟩
  · have : n = φ.length := by
      have := (List.getElem?_eq_some_iff.mp hq).1
      simp at this; omega
    subst this
    rw [List.getElem?_append_right (Nat.le_refl _)] at hq
    simp at hq; subst hq
    exact .inr hb

/-- a new object -/
theorem Rel.add {T : St} {φ : Phi} {η : H} {h h' : Heap} {m : M} {p : Addr × Addr} (R : Rel T φ η h) (k : ∀ b o, h.get? b = some o → h'.get? b = some o) (h1 : h.get? p.1 = none) (h2 : h.get? p.2 = none) (l1 : cStatics < p.1) (l2 : cStatics < p.2)
    (ho : Step φ η h (φ ++ [p]) (η ++ [m]) h' → OR T (φ ++ [p]) (own (φ ++ [p]) (η ++ [m])) h' m p) : Rel T (φ ++ [p]) (η ++ [m]) h' ∧ Step φ η h (φ ++ [p]) (η ++ [m]) h' := by
  have nb : ∀ b, h.get? b = none → T.base.get? b = none := fun b hb => by
    cases q : T.base.get? b with
    | none => rfl
    | some o => have := R.base b o q; rw [hb] at this; cases this
  have st : Step φ η h (φ ++ [p]) (η ++ [m]) h' := ⟨List.prefix_append _ _, fun b o _ e => .refl (k b o e), fun b hb => (own_add R hb).imp id fun q => by rcases q with rfl | rfl <;> assumption, fun b o e => by rw [k b o e]; rfl⟩
  have notp : ∀ b, own φ η b → b ≠ p.1 ∧ b ≠ p.2 := fun b hb => by
    obtain ⟨o, e, _⟩ := R.there hb
    exact ⟨fun q => (by rw [q, h1] at e; cases e), fun q => (by rw [q, h2] at e; cases e)⟩
  have lastOr : ∀ (i : Nat) (x : M) (q : Addr × Addr), (η ++ [m])[i]? = some x → (φ ++ [p])[i]? = some q → (η[i]? = some x ∧ φ[i]? = some q ∧ i < φ.length) ∨ (i = φ.length ∧ x = m ∧ q = p) := fun i x q hx hq => by
    by_cases hi : i < φ.length
    · rw [List.getElem?_append_left hi] at hq
      rw [List.getElem?_append_left (by rw [← R.len]; exact hi)] at hx
      exact .inl ⟨hx, hq, hi⟩
    · have : i = φ.length := by
        have := (List.getElem?_eq_some_iff.mp hq).1
        simp at this; omega
      subst this
      rw [List.getElem?_append_right (Nat.le_refl _)] at hq
      rw [R.len, List.getElem?_append_right (Nat.le_refl _)] at hx
      simp at hq hx
      exact .inr ⟨rfl, hx.symm, hq.symm⟩
  refine ⟨⟨by simp [R.len], fun b o e => k b o (R.base b o e), fun i x q hx hq => ?_, fun b hb => ?_, fun i j q q' x x' hq hq' hx hx' gx gx' hij => ?_⟩, st⟩
  · rcases lastOr i x q hx hq with ⟨hx, hq, _⟩ | ⟨_, rfl, rfl⟩
    · exact OR.step st (fun o b _ e => k b o e) (R.obj i x q hx hq)
    · exact ho st
  · rcases own_add R hb with q | rfl | rfl
    · exact R.fresh b q
    · exact ⟨nb _ h1, l1⟩
    · exact ⟨nb _ h2, l2⟩
  · have off : ∀ (i : Nat) (x : M) (q : Addr × Addr), η[i]? = some x → φ[i]? = some q → x ≠ .gone → q.1 ≠ p.1 ∧ q.1 ≠ p.2 ∧ q.2 ≠ p.1 ∧ q.2 ≠ p.2 := fun i x q hx hq gx => by
      have a := notp q.1 ⟨i, q, x, hq, hx, gx, .inl rfl⟩
      have b := notp q.2 ⟨i, q, x, hq, hx, gx, .inr rfl⟩
      exact ⟨a.1, a.2, b.1, b.2⟩
    rcases lastOr i x q hx hq with ⟨ex, eq, hi⟩ | ⟨ei, ex, eq⟩ <;> rcases lastOr j x' q' hx' hq' with ⟨ex', eq', hj⟩ | ⟨ej, ex', eq'⟩
    · exact R.disj i j q q' x x' eq eq' ex ex' gx gx' hij
    · rw [eq']; exact off i x q ex eq gx
    · rw [eq]
      have := off j x' q' ex' eq' gx'
      exact ⟨Ne.symm this.1, Ne.symm this.2.2.1, Ne.symm this.2.1, Ne.symm this.2.2.2⟩
    · exact absurd (ei.trans ej.symm) hij

/-- an object is owned no more -/
theorem Rel.free {T : St} {φ : Phi} {η : H} {h : Heap} {n : Nat} (R : Rel T φ η h) : Rel T φ (η.set n .gone) h ∧ Step φ η h φ (η.set n .gone) h := by
  have sub : ∀ b, own φ (η.set n .gone) b → own φ η b := by
    rintro b ⟨k, p, x, hp, hx, hxg, hb⟩
    by_cases e : n = k
    · subst e
      by_cases hlt : n < η.length
      · rw [List.getElem?_set_self hlt] at hx; cases hx; exact absurd rfl hxg
      · rw [List.getElem?_eq_none (by simp; omega)] at hx; cases hx
    · rw [List.getElem?_set_ne e] at hx; exact ⟨k, p, x, hp, hx, hxg, hb⟩
  have st : Step φ η h φ (η.set n .gone) h := ⟨List.prefix_refl _, fun b o _ e => .refl e, fun b hb => .inl (sub b hb), fun b o e => by rw [e]; rfl⟩
  have get : ∀ (i : Nat) (x : M), (η.set n .gone)[i]? = some x → x ≠ .gone → η[i]? = some x := fun i x hx gx => by
    by_cases e : n = i
    · subst e
      by_cases hlt : n < η.length
      · rw [List.getElem?_set_self hlt] at hx; cases hx; exact absurd rfl gx
      · rw [List.getElem?_eq_none (by simp; omega)] at hx; cases hx
    · rw [List.getElem?_set_ne e] at hx; exact hx
  refine ⟨⟨by rw [List.length_set]; exact R.len, R.base, fun k x p hx hp => ?_, fun b hb => R.fresh b (sub b hb), fun i j q q' x x' hq hq' hx hx' gx gx' hij => R.disj i j q q' x x' hq hq' (get i x hx gx) (get j x' hx' gx') gx gx' hij⟩, st⟩
  by_cases gx : x = .gone
  · subst gx; trivial
  · exact OR.step st (fun o b _ e => e) (R.obj k x p (get k x hx gx) hp)

theorem Rel.high {T : St} {φ : Phi} {η : H} {h : Heap} (R : Rel T φ η h) : cStatics < h.objs.size := by
  obtain ⟨mc, ⟨o, _, _, e, _⟩, _⟩ := T.nolim
  exact Heap.lt_size (R.base _ _ e)
end Mine
end
section
namespace Mine
open PySem

/-- the frames that lie on the stack -/
noncomputable def Stk (T : St) (φ : Phi) (η : H) (l : List Env) (h : Heap) : Prop :=
  ∀ env ∈ l, env.scope.kind ≠ .module ∧ ∃ L o, env.frame = some L ∧ T.base.get? L = none ∧ ¬ own φ η L ∧ h.get? L = some o ∧ o.cls = .type "frame" ∧ ∃ es n, o.data = .dict es n

theorem Stk.step {T : St} {φ φ' : Phi} {η η' : H} {l : List Env} {h h' : Heap} (x : Stk T φ η l h) (st : Step φ η h φ' η' h') : Stk T φ' η' l h' := fun env he => by
  obtain ⟨hk, L, o, hf, hb, ho, hg, hc, es, n, hd⟩ := x env he
  rcases st.keep L o ho hg with x | ⟨_, sl, x⟩ | ⟨x, _⟩
  · exact ⟨hk, L, _, hf, hb, st.off ho hg, x, hc, es, n, hd⟩
  · exact ⟨hk, L, _, hf, hb, st.off ho hg, x, hc, es, n, hd⟩
  · exact absurd hc x.notFrame

theorem Stk.fun {T : St} {φ : Phi} {η : H} {h : Heap} : ∀ {l : List Env}, Stk T φ η l h → h.FunFrames T.base l
  | [], _ => trivial
  | env :: rest, x => by
    obtain ⟨hk, L, o, hf, hb, ho, hg, hc, es, n, hd⟩ := x env List.mem_cons_self
    exact ⟨hk, ⟨L, o, hf, hb, hg, fun vs q => by rw [hd] at q; cases q⟩, Stk.fun fun e he => x e (List.mem_cons_of_mem _ he)⟩

/-- what is behind a step: the new state -/
structure Post (T : St) (φ : Phi) (η : H) (s : Shared) (φ' : Phi) (η' : H) (s' : Shared) : Prop where
  step : Step φ η s.heap φ' η' s'.heap
  rel : Rel T φ' η' s'.heap
  gens : s'.gens = s.gens
  os : s'.os = s.os
  drawn : s'.drawn = s.drawn

theorem Post.refl {T : St} {φ : Phi} {η : H} {s : Shared} (R : Rel T φ η s.heap) : Post T φ η s φ η s := ⟨.refl .., R, rfl, rfl, rfl⟩
theorem Post.toks {T : St} {φ : Phi} {η : H} {s : Shared} {k : Nat} (R : Rel T φ η s.heap) : Post T φ η s φ η { s with toks := k } := ⟨.refl .., R, rfl, rfl, rfl⟩
theorem Post.grown {T : St} {φ : Phi} {η : H} {s : Shared} {h' : Heap} {k : Nat} (R : Rel T φ η s.heap) (hk : ∀ b o, s.heap.get? b = some o → h'.get? b = some o) : Post T φ η s φ η { s with heap := h', toks := k } :=
  ⟨.keeps hk, R.keeps hk, rfl, rfl, rfl⟩
theorem Post.mk' {T : St} {φ φ' : Phi} {η η' : H} {s : Shared} {h' : Heap} {k : Nat} (x : Rel T φ' η' h' ∧ Step φ η s.heap φ' η' h') : Post T φ η s φ' η' { s with heap := h', toks := k } := ⟨x.2, x.1, rfl, rfl, rfl⟩
theorem Post.trans {T : St} {φ₁ φ₂ φ₃ : Phi} {η₁ η₂ η₃ : H} {s₁ s₂ s₃ : Shared} (x : Post T φ₁ η₁ s₁ φ₂ η₂ s₂) (y : Post T φ₂ η₂ s₂ φ₃ η₃ s₃) : Post T φ₁ η₁ s₁ φ₃ η₃ s₃ :=
  ⟨x.step.trans y.step, y.rel, y.gens.trans x.gens, y.os.trans x.os, y.drawn.trans x.drawn⟩

/-- an exception on its way through the frame L -/
noncomputable def RZ (T : St) (h : Heap) (e : Addr) (c : Nat) (L : Addr) : Prop :=
  ∃ oe vs a0, h.get? e = some oe ∧ oe.cls = .ref (T.exc c) ∧ oe.data = .fields vs ∧ vs[0]? = some a0 ∧ T.base.get? e = none ∧
    (vs[1]? = some .none ∨ ∃ Tb oT ts, vs[1]? = some (.ref Tb) ∧ Tb ≠ e ∧ T.base.get? Tb = none ∧ h.get? Tb = some oT ∧ oT.cls = .type "traceback" ∧ oT.data = .fields ts ∧ (ts[3]? = some .none ∨ ts[3]? = some (rawInt L)))
noncomputable def XR (T : St) (h : Heap) (e : Value) (c : Nat) (L : Addr) : Prop := ∃ a, e = .ref a ∧ RZ T h a c L

/-- a relation between what the interpreter and what the machine give -/
noncomputable abbrev QR (α β : Type) := Phi → H → Heap → β → α → Prop
noncomputable abbrev QV (T : St) : QR Value V := fun φ η h v x => VR T φ (own φ η) h v x
noncomputable abbrev QVs (T : St) : QR (List Value) (List V) := fun φ η h v x => VRs T φ (own φ η) h v x
noncomputable abbrev QB : QR Bool Bool := fun _ _ _ v x => v = x

/-- a value's end, an exception's end -/
inductive SOk {α β : Type} (T : St) (φ : Phi) (η : H) (s : Shared) (r : R β) (Q : QR α β) (x : α) (s' : Shared) : Prop where
  | mk (v : β) (η' : H) (φ' : Phi) (e : r = .ok v η') (p : Post T φ η s φ' η' s') (q : Q φ' η' s'.heap v x)
inductive SEx {β : Type} (T : St) (L : Addr) (φ : Phi) (η : H) (s : Shared) (r : R β) (e : Value) (s' : Shared) : Prop where
  | mk (c : Nat) (η' : H) (φ' : Phi) (h : r = .exc c η') (p : Post T φ η s φ' η' s') (x : XR T s'.heap e c L)
noncomputable def Sim (T : St) (A : Around) (L : Addr) (φ : Phi) (η : H) (s : Shared) {α β : Type} (t : Sem α) (r : R β) (Q : QR α β) : Prop :=
  r = .fail ∨ wpAny T.M A t (SOk T φ η s r Q) (SEx T L φ η s r) s

section
variable {T : St} {A : Around} {L : Addr} {φ : Phi} {η : H} {s : Shared} {α β γ δ : Type}

theorem Sim.fail {t : Sem α} {Q : QR α β} : Sim T A L φ η s t (.fail : R β) Q := .inl rfl

theorem Sim.ifF {t : Sem α} {c : Prop} {_ : Decidable c} {r : R β} {Q : QR α β} (h : c → Sim T A L φ η s t r Q) : Sim T A L φ η s t (if c then r else .fail) Q := by
  by_cases hc : c
  · rw [if_pos hc]; exact h hc
  · rw [if_neg hc]; exact .fail
/-- an option's value -/
theorem Sim.get {γ : Type} {t : Sem α} {o : Option γ} {f : γ → R V} {Q : QR α V} (h : ∀ x, o = some x → Sim T A L φ η s t (f x) Q) : Sim T A L φ η s t (onSome o f) Q := by
  cases o with
  | none => exact .fail
  | some x => exact h x rfl
theorem Sim.getL {t : Sem α} {o : Option M} {f : List V → R V} {Q : QR α V} (h : ∀ x, o = some (.list x) → Sim T A L φ η s t (f x) Q) : Sim T A L φ η s t (onList o f) Q := by
  cases o with
  | none => exact .fail
  | some x => cases x <;> first | exact h _ rfl | exact .fail
/-- the three ends in turn -/
theorem Sim.elim {t : Sem α} {r : R β} {Q : QR α β} {W : α → Shared → Prop} {E : Value → Shared → Prop} (h : Sim T A L φ η s t r Q) (hf : r ≠ .fail)
    (h1 : ∀ v η' φ' x s', r = .ok v η' → Post T φ η s φ' η' s' → Q φ' η' s'.heap v x → W x s') (h2 : ∀ c η' φ' e s', r = .exc c η' → Post T φ η s φ' η' s' → XR T s'.heap e c L → E e s') : wpAny T.M A t W E s :=
  wpAny_mono (h.resolve_left hf) (fun x s' k => by cases k with | mk v η' φ' e p q => exact h1 v η' φ' x s' e p q) fun e s' k => by cases k with | mk c η' φ' h p x => exact h2 c η' φ' e s' h p x
theorem Sim.intro {t : Sem α} {r : R β} {Q : QR α β} (h : r ≠ .fail → wpAny T.M A t (SOk T φ η s r Q) (SEx T L φ η s r) s) : Sim T A L φ η s t r Q := by
  by_cases hf : r = .fail
  · exact .inl hf
  · exact .inr (h hf)
theorem Sim.from {t : Sem α} {r : R β} {Q : QR α β} {s₁ : Shared} (P0 : Post T φ η s φ η s₁) (h : Sim T A L φ η s₁ t r Q) (hf : r ≠ .fail) : wpAny T.M A t (SOk T φ η s r Q) (SEx T L φ η s r) s₁ :=
  h.elim hf (fun v η' φ' _ _ e p q => ⟨v, η', φ', e, P0.trans p, q⟩) fun c η' φ' _ _ e p x => ⟨c, η', φ', e, P0.trans p, x⟩
theorem bind_bind {r : R β} {g : β → H → R γ} {k : γ → H → R δ} {tot : R δ} (e : (r.bind g).bind k = tot) : r.bind (fun v h => (g v h).bind k) = tot := by subst e; cases r <;> rfl
theorem ifR_nf {c : Prop} {_ : Decidable c} {r tot : R β} (e : (if c then r else .fail) = tot) (hf : tot ≠ .fail) : c ∧ r = tot := by
  by_cases hc : c
  · exact ⟨hc, by rw [if_pos hc] at e; exact e⟩
  · rw [if_neg hc] at e; exact absurd e.symm hf
theorem bind_nf {r : R β} {g : β → H → R δ} {tot : R δ} (e : r.bind g = tot) (hf : tot ≠ .fail) : r ≠ .fail := fun h => by subst h; exact hf e.symm
theorem bind_ok' {r : R β} {g : β → H → R δ} {tot : R δ} {v : β} {h : H} (e : r.bind g = tot) (er : r = .ok v h) : g v h = tot := by subst er; exact e
theorem bind_exc' {r : R β} {g : β → H → R δ} {tot : R δ} {c : Nat} {h : H} (e : r.bind g = tot) (er : r = .exc c h) : tot = .exc c h := by subst er; exact e.symm
theorem Sim.bind {t : Sem α} {k : α → Sem γ} {r : R β} {g : β → H → R δ} {Q₁ : QR α β} {Q₂ : QR γ δ} (h1 : Sim T A L φ η s t r Q₁)
    (h2 : ∀ v η' φ' x s', r = .ok v η' → Post T φ η s φ' η' s' → Q₁ φ' η' s'.heap v x → Sim T A L φ' η' s' (k x) (g v η') Q₂) : Sim T A L φ η s (t >>= k) (r.bind g) Q₂ :=
  .intro fun hf => wpAny_bind (h1.elim (bind_nf rfl hf) (fun v η' φ' x s' e p q => (h2 v η' φ' x s' e p q).elim (fun q => hf ((bind_ok' rfl e).symm.trans q)) (fun v' η'' φ'' y s'' e' p' q' => ⟨v', η'', φ'', (bind_ok' rfl e).symm.trans e', p.trans p', q'⟩) fun c η'' φ'' e₁ s'' e' p' x' => ⟨c, η'', φ'', (bind_ok' rfl e).symm.trans e', p.trans p', x'⟩)
    fun c η' φ' e s' he p x => ⟨c, η', φ', bind_exc' rfl he, p, x⟩)

theorem Sim.pure {x : α} {v : β} {Q : QR α β} (R : Rel T φ η s.heap) (h : Q φ η s.heap v x) : Sim T A L φ η s (Pure.pure x) (.ok v η) Q :=
  .inr (wpAny_pure ⟨v, η, φ, rfl, .refl R, h⟩)
theorem Sim.standAt {p : Pos} {k : Unit → Sem α} {r : R β} {Q : QR α β} (h : Sim T A L φ η s (k ()) r Q) : Sim T A L φ η s (PySem.standAt p >>= k) r Q :=
  h.imp id fun h => wpAny_bind (wpAny_standAt h)
theorem Sim.holding {vs : List Value} {t : Sem α} {r : R β} {Q : QR α β} (h : Sim T A L φ η s t r Q) : Sim T A L φ η s (PySem.holding vs t) r Q := h.imp id wpAny_holding
theorem Sim.mono {t : Sem α} {r : R β} {Q Q' : QR α β} (h : Sim T A L φ η s t r Q) (hq : ∀ φ' η' s' v x, r = .ok v η' → Post T φ η s φ' η' s' → Q φ' η' s'.heap v x → Q' φ' η' s'.heap v x) : Sim T A L φ η s t r Q' :=
  h.imp id fun h => wpAny_mono h (fun x s' ⟨v, η', φ', e, hp, q⟩ => ⟨v, η', φ', e, hp, hq φ' η' s' v x e hp q⟩) fun _ _ y => y
/-- an end without exception -/
theorem Sim.ok {t : Sem α} {v : β} {η' : H} {r : R β} {Q : QR α β} (e : r = .ok v η') (h : wpAny T.M A t (fun x s' => ∃ φ', Post T φ η s φ' η' s' ∧ Q φ' η' s'.heap v x) (fun _ _ => False) s) : Sim T A L φ η s t r Q := by
  subst e
  exact .inr (wpAny_mono h (fun x s' ⟨φ', hp, q⟩ => ⟨v, η', φ', rfl, hp, q⟩) fun _ _ y => y.elim)
end
end Mine
end
section
namespace Mine
open PySem PySem.SeqAt

section
variable {T : St} {φ : Phi} {N : Addr → Prop} {h : Heap}

theorem VRs.length : ∀ {xs : List V} {vs : List Value}, VRs T φ N h xs vs → vs.length = xs.length
  | [], _, e => by simp only [VRs] at e; simp [e]
  | x :: xs, _, e => by
    simp only [VRs] at e
    obtain ⟨v, r, rfl, _, h2⟩ := e
    simp [VRs.length h2]
theorem VRs.get : ∀ {xs : List V} {vs : List Value} {i : Nat} {x : V}, VRs T φ N h xs vs → xs[i]? = some x → ∃ v, vs[i]? = some v ∧ VR T φ N h x v
  | [], _, _, _, _, e => by simp at e
  | x :: xs, _, i, y, e, hi => by
    simp only [VRs] at e
    obtain ⟨v, r, rfl, h1, h2⟩ := e
    cases i with
    | zero => simp at hi; subst hi; exact ⟨v, rfl, h1⟩
    | succ i => simpa using VRs.get h2 (by simpa using hi)
theorem VRs.get' : ∀ {xs : List V} {vs : List Value} {i : Nat} {v : Value}, VRs T φ N h xs vs → vs[i]? = some v → ∃ x, xs[i]? = some x ∧ VR T φ N h x v
  | [], _, _, _, e, hi => by simp only [VRs] at e; simp [e] at hi
  | x :: xs, _, i, w, e, hi => by
    simp only [VRs] at e
    obtain ⟨v, r, rfl, h1, h2⟩ := e
    cases i with
    | zero => simp at hi; subst hi; exact ⟨x, rfl, h1⟩
    | succ i => simpa using VRs.get' h2 (by simpa using hi)
theorem VRs.append : ∀ {xs ys : List V} {vs ws : List Value}, VRs T φ N h xs vs → VRs T φ N h ys ws → VRs T φ N h (xs ++ ys) (vs ++ ws)
  | [], _, _, _, e, e' => by simp only [VRs] at e; subst e; exact e'
  | x :: xs, _, _, _, e, e' => by
    simp only [VRs] at e
    obtain ⟨v, r, rfl, h1, h2⟩ := e
    simp only [List.cons_append, VRs]
    exact ⟨v, _, rfl, h1, VRs.append h2 e'⟩
theorem VRs.of_get : ∀ {xs : List V} {vs : List Value}, vs.length = xs.length → (∀ (i : Nat) x v, xs[i]? = some x → vs[i]? = some v → VR T φ N h x v) → VRs T φ N h xs vs
  | [], vs, hl, _ => by simp only [VRs]; exact List.length_eq_zero_iff.mp (by simpa using hl)
  | x :: xs, [], hl, _ => by simp at hl
  | x :: xs, v :: vs, hl, hg => by
    simp only [VRs]
    exact ⟨v, vs, rfl, hg 0 x v rfl rfl, VRs.of_get (by simpa using hl) fun i y w hy hw => hg (i + 1) y w (by simpa using hy) (by simpa using hw)⟩
theorem VRs.drop {xs : List V} {vs : List Value} (k : Nat) (e : VRs T φ N h xs vs) : VRs T φ N h (xs.drop k) (vs.drop k) :=
  .of_get (by simp [e.length]) fun i x v hx hv => by
    rw [List.getElem?_drop] at hx hv
    obtain ⟨w, hw, hr⟩ := e.get hx
    rw [hv] at hw; cases hw; exact hr
theorem VRs.take {xs : List V} {vs : List Value} (k : Nat) (e : VRs T φ N h xs vs) : VRs T φ N h (xs.take k) (vs.take k) :=
  .of_get (by simp [e.length]) fun i x v hx hv => by
    rw [List.getElem?_take] at hx hv
    split at hx
    · rename_i hk
      rw [if_pos hk] at hv
      obtain ⟨w, hw, hr⟩ := e.get hx
      rw [hv] at hw; cases hw; exact hr
    · cases hx
theorem VRs.set {xs : List V} {vs : List Value} {k : Nat} {x : V} {v : Value} (e : VRs T φ N h xs vs) (hr : VR T φ N h x v) : VRs T φ N h (xs.set k x) (vs.set k v) :=
  .of_get (by simp [e.length]) fun i y w hy hw => by
    by_cases q : k = i
    · subst q
      by_cases hk : k < xs.length
      · rw [List.getElem?_set_self hk] at hy
        rw [List.getElem?_set_self (by rw [e.length]; exact hk)] at hw
        cases hy; cases hw; exact hr
      · rw [List.getElem?_eq_none (by simp; omega)] at hy; cases hy
    · rw [List.getElem?_set_ne q] at hy hw
      obtain ⟨w', hw', hr'⟩ := e.get hy
      rw [hw] at hw'; cases hw'; exact hr'
end

theorem eqVs_range : ∀ (xs ys : List V), eqVs xs ys = ((List.range (min xs.length ys.length)).all (fun j => eqV (xs.getD j .none) (ys.getD j .none)) && xs.length == ys.length)
  | [], [] => rfl
  | [], _ :: _ => rfl
  | _ :: _, [] => rfl
  | x :: xs, y :: ys => by
    rw [show eqVs (x :: xs) (y :: ys) = (eqV x y && eqVs xs ys) from rfl, eqVs_range xs ys]
    simp only [List.length_cons, Nat.succ_min_succ, List.range_succ_eq_map, List.all_cons, List.all_map, Function.comp_def, List.getD_cons_zero, List.getD_cons_succ, Bool.and_assoc]
    congr 2
    simp

/-- the shape of a plain value -/
inductive Shp (T : St) (φ : Phi) (N : Addr → Prop) (h : Heap) : Nat → V → Value → Prop
  | none {n : Nat} : Shp T φ N h n .none .none
  | bool {n : Nat} (b : Bool) : Shp T φ N h n (.bool b) (.bool b)
  | int {n : Nat} (i : Int) (t : Tok) : Shp T φ N h n (.int i) (.int i t)
  | str {n : Nat} (s : List Nat) (t : Tok) : Shp T φ N h n (.str s) (.str ⟨s.toArray⟩ t)
  | tup {n : Nat} {xs : List V} {a : Addr} {items : Array Value} {k : Nat} : h.get? a = some (tupO items k) → VRs T φ N h xs items.toList → (∀ x ∈ xs, V.plainN n x = true) → Shp T φ N h (n + 1) (.tup xs) (.ref a)
  | lst {n : Nat} {xs : List V} {a : Addr} {items : Array Value} {k : Nat} : h.get? a = some (listO items k) → VRs T φ N h xs items.toList → (∀ x ∈ xs, V.plainN n x = true) → Shp T φ N h (n + 1) (.lst xs) (.ref a)

theorem shp_of {T : St} {φ : Phi} {N : Addr → Prop} {h : Heap} {n : Nat} {a : V} {x : Value} (p : V.plainN n a = true) (r : VR T φ N h a x) : Shp T φ N h n a x := by
  cases a with
  | none => simp only [VR] at r; subst r; exact .none
  | bool b => simp only [VR] at r; subst r; exact .bool b
  | int i => simp only [VR] at r; obtain ⟨t, rfl⟩ := r; exact .int i t
  | str i => simp only [VR] at r; obtain ⟨t, rfl⟩ := r; exact .str i t
  | tup xs =>
    cases n with
    | zero => simp [V.plainN] at p
    | succ n =>
      simp only [VR] at r
      obtain ⟨a, items, k, rfl, _, hg, hr⟩ := r
      exact .tup hg hr (by simpa [V.plainN] using p)
  | lst xs =>
    cases n with
    | zero => simp [V.plainN] at p
    | succ n =>
      simp only [VR] at r
      obtain ⟨a, items, k, rfl, _, hg, hr⟩ := r
      exact .lst hg hr (by simpa [V.plainN] using p)
  | dct => cases n <;> simp [V.plainN] at p
  | ref _ => cases n <;> simp [V.plainN] at p
  | exc _ => cases n <;> simp [V.plainN] at p

/-- a scalar by its machine value -/
noncomputable def unV : Value → Option V
  | .none => some .none
  | .bool b => some (.bool b)
  | .int i _ => some (.int i)
  | .str s _ => some (.str s.cps.toList)
  | _ => none
inductive ShpV (T : St) (φ : Phi) (N : Addr → Prop) (h : Heap) (n : Nat) (a : V) (x : Value) : Prop
  | sc (e : unV x = some a) (p : eqV a a = true)
  | tup (m : Nat) (xs : List V) (ad : Addr) (items : Array Value) (k : Nat) (hn : n = m + 1) (ha : a = .tup xs) (hx : x = .ref ad) (g : h.get? ad = some (tupO items k)) (r : VRs T φ N h xs items.toList) (p : ∀ x ∈ xs, V.plainN m x = true)
  | lst (m : Nat) (xs : List V) (ad : Addr) (items : Array Value) (k : Nat) (hn : n = m + 1) (ha : a = .lst xs) (hx : x = .ref ad) (g : h.get? ad = some (listO items k)) (r : VRs T φ N h xs items.toList) (p : ∀ x ∈ xs, V.plainN m x = true)
theorem Shp.view {T : St} {φ : Phi} {N : Addr → Prop} {h : Heap} {n : Nat} {a : V} {x : Value} (s : Shp T φ N h n a x) : ShpV T φ N h n a x := by
  cases s with
  | none => exact .sc rfl rfl
  | bool b => exact .sc rfl (beq_self_eq_true _)
  | int i t => exact .sc rfl (beq_self_eq_true _)
  | str s t => exact .sc rfl (beq_self_eq_true _)
  | tup g r p => exact .tup _ _ _ _ _ rfl rfl rfl g r p
  | lst g r p => exact .lst _ _ _ _ _ rfl rfl rfl g r p
theorem tup_lst {i j : Array Value} {k l : Nat} : tupO i k ≠ listO j l := fun e => by
  have := congrArg Obj.cls e
  exact absurd (Value.type.inj this) (by decide)
theorem seq_inj {T : St} {φ : Phi} {N : Addr → Prop} {h : Heap} {n : Nat} (ih : ∀ (a b : V) (x : Value), Shp T φ N h n a x → Shp T φ N h n b x → a = b) : ∀ (xs ys : List V) (vs : List Value), (∀ x ∈ xs, V.plainN n x = true) → (∀ x ∈ ys, V.plainN n x = true) → VRs T φ N h xs vs → VRs T φ N h ys vs → xs = ys
  | [], ys, vs, _, _, h1, h2 => by
    simp only [VRs] at h1; subst h1; have := h2.length; cases ys with | nil => rfl | cons _ _ => simp at this
  | z :: zs, ys, vs, p1, p2, h1, h2 => by
    simp only [VRs] at h1
    obtain ⟨v, r, rfl, r1, r2⟩ := h1
    cases ys with
    | nil => have := h2.length; simp at this
    | cons y ys =>
      simp only [VRs] at h2
      obtain ⟨v', r', e, r3, r4⟩ := h2
      cases e
      rw [ih z y v (shp_of (p1 z List.mem_cons_self) r1) (shp_of (p2 y List.mem_cons_self) r3), seq_inj ih zs ys r (fun x hx => p1 x (List.mem_cons_of_mem _ hx)) (fun x hx => p2 x (List.mem_cons_of_mem _ hx)) r2 r4]
/-- a plain value is told by its machine value -/
theorem Shp.inj {T : St} {φ : Phi} {N : Addr → Prop} {h : Heap} (n : Nat) : ∀ (a b : V) (x : Value), Shp T φ N h n a x → Shp T φ N h n b x → a = b := by
  induction n with
  | zero =>
    intro a b x ha hb
    cases ha.view with
    | sc e _ => cases hb.view with
      | sc e' _ => exact Option.some.inj (e.symm.trans e')
      | tup _ _ _ _ _ hn => cases hn
      | lst _ _ _ _ _ hn => cases hn
    | tup _ _ _ _ _ hn => cases hn
    | lst _ _ _ _ _ hn => cases hn
  | succ n ih =>
    intro a b x ha hb
    cases ha.view with
    | sc e _ => cases hb.view with
      | sc e' _ => exact Option.some.inj (e.symm.trans e')
      | tup _ _ _ _ _ _ _ hx => rw [hx] at e; cases e
      | lst _ _ _ _ _ _ _ hx => rw [hx] at e; cases e
    | tup m xs ad items k hn ha hx g r p => cases hb.view with
      | sc e' _ => rw [hx] at e'; cases e'
      | tup m' xs' ad' items' k' hn' hb hx' g' r' p' =>
        cases hn; cases hn'; cases hx.symm.trans hx'
        have e := Option.some.inj (g.symm.trans g')
        cases e
        rw [ha, hb, seq_inj ih xs xs' items.toList p p' r r']
      | lst m' xs' ad' items' k' hn' hb hx' g' r' p' =>
        cases hx.symm.trans hx'
        exact absurd (Option.some.inj (g.symm.trans g')) tup_lst
    | lst m xs ad items k hn ha hx g r p => cases hb.view with
      | sc e' _ => rw [hx] at e'; cases e'
      | tup m' xs' ad' items' k' hn' hb hx' g' r' p' =>
        cases hx.symm.trans hx'
        exact absurd (Option.some.inj (g'.symm.trans g)) tup_lst
      | lst m' xs' ad' items' k' hn' hb hx' g' r' p' =>
        cases hn; cases hn'; cases hx.symm.trans hx'
        have e := Option.some.inj (g.symm.trans g')
        cases e
        rw [ha, hb, seq_inj ih xs xs' items.toList p p' r r']
theorem Shp.self {T : St} {φ : Phi} {N : Addr → Prop} {h : Heap} (n : Nat) : ∀ {a : V} {x : Value}, Shp T φ N h n a x → eqV a a = true := by
  have seqR : ∀ {n : Nat} (ih : ∀ {a : V} {x : Value}, Shp T φ N h n a x → eqV a a = true) (xs : List V) (vs : List Value), (∀ x ∈ xs, V.plainN n x = true) → VRs T φ N h xs vs → eqVs xs xs = true := by
    intro n ih xs
    induction xs with
    | nil => intros; rfl
    | cons z zs ihz =>
      intro vs p r
      simp only [VRs] at r
      obtain ⟨v, r', rfl, r1, r2⟩ := r
      exact (Bool.and_eq_true _ _).mpr ⟨ih (shp_of (p z List.mem_cons_self) r1), ihz _ (fun x hx => p x (List.mem_cons_of_mem _ hx)) r2⟩
  induction n with
  | zero =>
    intro a x s
    cases s.view with
    | sc _ p => exact p
    | tup _ _ _ _ _ hn => cases hn
    | lst _ _ _ _ _ hn => cases hn
  | succ n ih =>
    intro a x s
    cases s.view with
    | sc _ p => exact p
    | tup m xs ad items k hn ha hx g r p => cases hn; subst ha; exact seqR ih xs _ p r
    | lst m xs ad items k hn ha hx g r p => cases hn; subst ha; exact seqR ih xs _ p r
/-- two values of one machine value -/
theorem eqV_same {T : St} {φ : Phi} {N : Addr → Prop} {h : Heap} (n : Nat) (a b : V) (x : Value) (ha : Shp T φ N h n a x) (hb : Shp T φ N h n b x) : eqV a b = true := by
  rw [Shp.inj n a b x ha hb]; exact hb.self

theorem isList_of {h : Heap} {a : Addr} {items : Array Value} {k : Nat} (e : h.get? a = some (listO items k)) : h.IsList a items := ⟨_, e, rfl, k, rfl⟩
theorem isTuple_of {h : Heap} {a : Addr} {items : Array Value} {k : Nat} (e : h.get? a = some (tupO items k)) : h.IsTuple a items := ⟨_, e, rfl, k, rfl⟩

theorem str_beq' (s s' : List Nat) : ((⟨s.toArray⟩ : Str) == ⟨s'.toArray⟩) = (s == s') := by
  rw [← str_beq]

section
variable {T : St} {φ : Phi} {N : Addr → Prop} {A : Around} {s : Shared}

structure Eqs (A : Around) (s : Shared) (x y : Value) (b : Bool) : Prop where
  eq : EqAt A s x y b
  rc : RcAt A s x y b
  ne : RcNeAt A s x y (!b)

theorem Eqs.cast {x y : Value} {b b' : Bool} (h : Eqs A s x y b) (e : b = b') : Eqs A s x y b' := e ▸ h

theorem eqs0 {a b : V} {x y : Value} (ha : Shp T φ N s.heap 0 a x) (hb : Shp T φ N s.heap 0 b y) : Eqs A s x y (eqV a b) := by
  cases ha with
  | none => cases hb with
    | none => exact ⟨.same _, .none_none, .none_none⟩
    | bool b => exact ⟨.none_bool b, .none_bool b, .none_bool b⟩
    | int b u => exact ⟨.none_int b u, .none_int b u, .none_int b u⟩
    | str b u => exact ⟨.none_str _ u, .none_str _ u, .none_str _ u⟩
  | bool a => cases hb with
    | none => exact ⟨.bool_none a, .bool_none a, .bool_none a⟩
    | bool b => exact ⟨.bool_bool a b, .bool_bool a b, .bool_bool a b⟩
    | int b u => exact ⟨.bool_int a b u, .bool_int a b u, .bool_int a b u⟩
    | str b u => exact ⟨.bool_str a _ u, .bool_str a _ u, .bool_str a _ u⟩
  | int a t => cases hb with
    | none => exact ⟨.int_none a t, .int_none a t, .int_none a t⟩
    | bool b => exact ⟨.int_bool a t b, .int_bool a t b, .int_bool a t b⟩
    | int b u => exact ⟨.int_int a t b u, .int_int a t b u, .int_int a t b u⟩
    | str b u => exact ⟨.int_str a t _ u, .int_str a t _ u, .int_str a t _ u⟩
  | str a t => cases hb with
    | none => exact ⟨.str_none _ t, .str_none _ t, .str_none _ t⟩
    | bool b => exact ⟨.str_bool _ t b, .str_bool _ t b, .str_bool _ t b⟩
    | int b u => exact ⟨.str_int _ t b u, .str_int _ t b u, .str_int _ t b u⟩
    | str b u =>
      refine Eqs.cast ⟨.str_str _ t _ u, .str_str _ t _ u, .str_str _ t _ u⟩ ?_
      rw [str_beq']; rfl
theorem eqs_of : ∀ (n : Nat) (a b : V) (x y : Value) (A : Around), Shp T φ N s.heap n a x → Shp T φ N s.heap n b y → A.units + n < cLine → Eqs A s x y (eqV a b) := by
  intro n
  induction n with
  | zero =>
    exact fun a b x y A ha hb _ => eqs0 ha hb
  | succ n ih =>
    intro a b x y A ha hb hu
    have hu' : A.units < cLine := by omega
    have items : ∀ (xs ys : List V) (i1 i2 : Array Value), VRs T φ N s.heap xs i1.toList → VRs T φ N s.heap ys i2.toList → (∀ x ∈ xs, V.plainN n x = true) → (∀ x ∈ ys, V.plainN n x = true) →
        ∀ j (h1 : j < i1.size) (h2 : j < i2.size), EqAt A.in1 s i1[j] i2[j] (eqV (xs.getD j .none) (ys.getD j .none)) := by
      intro xs ys i1 i2 r1 r2 p1 p2 j h1 h2
      have e1 : i1.toList[j]? = some i1[j] := by simp [h1]
      have e2 : i2.toList[j]? = some i2[j] := by simp [h2]
      obtain ⟨x, hx, rx⟩ := r1.get' e1
      obtain ⟨y, hy, ry⟩ := r2.get' e2
      rw [List.getD_eq_getElem?_getD, List.getD_eq_getElem?_getD, hx, hy]
      exact (ih x y _ _ A.in1 (shp_of (p1 x (List.mem_of_getElem? hx)) rx) (shp_of (p2 y (List.mem_of_getElem? hy)) ry) (by show A.units + 1 + n < cLine; omega)).eq
    have len : ∀ (xs : List V) (i1 : Array Value), VRs T φ N s.heap xs i1.toList → i1.size = xs.length := fun xs i1 r => by have := r.length; simpa using this
    cases ha with
    | none => cases hb with
      | none => exact eqs0 (T := T) (φ := φ) (N := N) .none .none
      | bool b => exact eqs0 (T := T) (φ := φ) (N := N) .none (.bool b)
      | int b u => exact eqs0 (T := T) (φ := φ) (N := N) .none (.int b u)
      | str b u => exact eqs0 (T := T) (φ := φ) (N := N) .none (.str b u)
      | tup g _ _ => exact ⟨.none_tuple (isTuple_of g) hu', .none_tuple (isTuple_of g) hu', .none_tuple (isTuple_of g) hu'⟩
      | lst g _ _ => exact ⟨.none_list (isList_of g) hu', .none_list (isList_of g) hu', .none_list (isList_of g) hu'⟩
    | bool a => cases hb with
      | none => exact eqs0 (T := T) (φ := φ) (N := N) (.bool a) .none
      | bool b => exact eqs0 (T := T) (φ := φ) (N := N) (.bool a) (.bool b)
      | int b u => exact eqs0 (T := T) (φ := φ) (N := N) (.bool a) (.int b u)
      | str b u => exact eqs0 (T := T) (φ := φ) (N := N) (.bool a) (.str b u)
      | tup g _ _ => exact ⟨.bool_tuple a (isTuple_of g) hu', .bool_tuple a (isTuple_of g) hu', .bool_tuple a (isTuple_of g) hu'⟩
      | lst g _ _ => exact ⟨.bool_list a (isList_of g) hu', .bool_list a (isList_of g) hu', .bool_list a (isList_of g) hu'⟩
    | int a t => cases hb with
      | none => exact eqs0 (T := T) (φ := φ) (N := N) (.int a t) .none
      | bool b => exact eqs0 (T := T) (φ := φ) (N := N) (.int a t) (.bool b)
      | int b u => exact eqs0 (T := T) (φ := φ) (N := N) (.int a t) (.int b u)
      | str b u => exact eqs0 (T := T) (φ := φ) (N := N) (.int a t) (.str b u)
      | tup g _ _ => exact ⟨.int_tuple a t (isTuple_of g) hu', .int_tuple a t (isTuple_of g) hu', .int_tuple a t (isTuple_of g) hu'⟩
      | lst g _ _ => exact ⟨.int_list a t (isList_of g) hu', .int_list a t (isList_of g) hu', .int_list a t (isList_of g) hu'⟩
    | str a t => cases hb with
      | none => exact eqs0 (T := T) (φ := φ) (N := N) (.str a t) .none
      | bool b => exact eqs0 (T := T) (φ := φ) (N := N) (.str a t) (.bool b)
      | int b u => exact eqs0 (T := T) (φ := φ) (N := N) (.str a t) (.int b u)
      | str b u => exact eqs0 (T := T) (φ := φ) (N := N) (.str a t) (.str b u)
      | tup g _ _ => exact ⟨.str_tuple _ t (isTuple_of g) hu', .str_tuple _ t (isTuple_of g) hu', .str_tuple _ t (isTuple_of g) hu'⟩
      | lst g _ _ => exact ⟨.str_list _ t (isList_of g) hu', .str_list _ t (isList_of g) hu', .str_list _ t (isList_of g) hu'⟩
    | tup g1 r1 p1 =>
      rename_i xs a i1 k1
      cases hb with
      | none => exact ⟨.tuple_none (isTuple_of g1) hu', .tuple_none (isTuple_of g1) hu', .tuple_none (isTuple_of g1) hu'⟩
      | bool b => exact ⟨.tuple_bool b (isTuple_of g1) hu', .tuple_bool b (isTuple_of g1) hu', .tuple_bool b (isTuple_of g1) hu'⟩
      | int b u => exact ⟨.tuple_int b u (isTuple_of g1) hu', .tuple_int b u (isTuple_of g1) hu', .tuple_int b u (isTuple_of g1) hu'⟩
      | str b u => exact ⟨.tuple_str _ u (isTuple_of g1) hu', .tuple_str _ u (isTuple_of g1) hu', .tuple_str _ u (isTuple_of g1) hu'⟩
      | lst g2 _ _ => exact ⟨.tuple_list (isTuple_of g1) (isList_of g2) hu', .tuple_list (isTuple_of g1) (isList_of g2) hu', .tuple_list (isTuple_of g1) (isList_of g2) hu'⟩
      | tup g2 r2 p2 =>
        rename_i ys b i2 k2
        have it := items xs ys i1 i2 r1 r2 p1 p2
        have e : ((List.range (min i1.size i2.size)).all (fun j => eqV (xs.getD j .none) (ys.getD j .none)) && i1.size == i2.size) = eqV (.tup xs) (.tup ys) := by
          rw [show eqV (.tup xs) (.tup ys) = eqVs xs ys from rfl, eqVs_range, len xs i1 r1, len ys i2 r2]
        have rc := RcAt.tuples (isTuple_of g1) (isTuple_of g2) hu' it
        have ne := RcNeAt.tuples (isTuple_of g1) (isTuple_of g2) hu' it
        rw [e] at rc ne
        refine ⟨?_, rc, ne⟩
        by_cases q : a = b
        · subst q
          rw [eqV_same (n + 1) _ _ _ (Shp.tup g1 r1 p1) (Shp.tup g2 r2 p2)]
          exact .same _
        · exact .of_refs q rc
    | lst g1 r1 p1 =>
      rename_i xs a i1 k1
      cases hb with
      | none => exact ⟨.list_none (isList_of g1) hu', .list_none (isList_of g1) hu', .list_none (isList_of g1) hu'⟩
      | bool b => exact ⟨.list_bool b (isList_of g1) hu', .list_bool b (isList_of g1) hu', .list_bool b (isList_of g1) hu'⟩
      | int b u => exact ⟨.list_int b u (isList_of g1) hu', .list_int b u (isList_of g1) hu', .list_int b u (isList_of g1) hu'⟩
      | str b u => exact ⟨.list_str _ u (isList_of g1) hu', .list_str _ u (isList_of g1) hu', .list_str _ u (isList_of g1) hu'⟩
      | tup g2 _ _ => exact ⟨.list_tuple (isList_of g1) (isTuple_of g2) hu', .list_tuple (isList_of g1) (isTuple_of g2) hu', .list_tuple (isList_of g1) (isTuple_of g2) hu'⟩
      | lst g2 r2 p2 =>
        rename_i ys b i2 k2
        have it := items xs ys i1 i2 r1 r2 p1 p2
        have both : RcAt A s (.ref a) (.ref b) (eqV (.lst xs) (.lst ys)) ∧ RcNeAt A s (.ref a) (.ref b) (!eqV (.lst xs) (.lst ys)) := by
          by_cases hsz : i1.size = i2.size
          · have e : ((List.range i1.size).all (fun j => eqV (xs.getD j .none) (ys.getD j .none))) = eqV (.lst xs) (.lst ys) := by
              rw [show eqV (.lst xs) (.lst ys) = eqVs xs ys from rfl, eqVs_range, ← len xs i1 r1, ← len ys i2 r2, hsz]; simp
            have rc := RcAt.lists (isList_of g1) (isList_of g2) hsz hu' it
            have ne := RcNeAt.lists (isList_of g1) (isList_of g2) hsz hu' it
            rw [e] at rc ne
            exact ⟨rc, ne⟩
          · have e : eqV (.lst xs) (.lst ys) = false := by
              rw [show eqV (.lst xs) (.lst ys) = eqVs xs ys from rfl, eqVs_range, ← len xs i1 r1, ← len ys i2 r2]; simp [hsz]
            have hne : (i1.size != i2.size) = true := by simpa using hsz
            rw [e]
            exact ⟨RcAt.lists_lengths (isList_of g1) (isList_of g2) hne hu', RcNeAt.lists_lengths (isList_of g1) (isList_of g2) hne hu'⟩
        refine ⟨?_, both.1, both.2⟩
        by_cases q : a = b
        · subst q
          rw [eqV_same (n + 1) _ _ _ (Shp.lst g1 r1 p1) (Shp.lst g2 r2 p2)]
          exact .same _
        · exact .of_refs q both.1
end
end Mine
end
section
namespace Mine
open PySem PySem.SeqAt PyProof.Rows

section
variable {T : St} {φ : Phi} {η : H} {h : Heap}
theorem list_view (R : Rel T φ η h) {v : V} {x : Value} {xs : List V} (e : listOf η v = some xs) (r : VR T φ (own φ η) h v x) :
    ∃ a items k, x = .ref a ∧ h.get? a = some (listO items k) ∧ VRs T φ (own φ η) h xs items.toList := by
  unfold listOf at e
  split at e
  · cases e
    simp only [VR] at r
    obtain ⟨a, items, k, rfl, _, hg, hr⟩ := r
    exact ⟨a, items, k, rfl, hg, hr⟩
  · split at e
    · rename_i n _ ys hn
      cases e
      simp only [VR] at r
      obtain ⟨p, hp, rfl⟩ := r
      obtain ⟨_, items, k, hg, hr⟩ := R.obj n _ p hn hp
      exact ⟨p.1, items, k, rfl, hg, hr⟩
    · cases e
  · cases e
theorem deref_lst {v : V} {xs : List V} (e : deref η v = .lst xs) : listOf η v = some xs := by
  unfold deref at e
  split at e
  · split at e
    · rename_i n ys hn; cases e; simp [listOf, hn]
    · cases e
  · subst e; rfl
theorem deref_int {v : V} {i : Int} (e : deref η v = .int i) : v = .int i := by
  unfold deref at e
  split at e
  · split at e <;> cases e
  · exact e
theorem fresh_size (R : Rel T φ η h) : ¬ own φ η h.objs.size := fun o => by
  obtain ⟨ob, e, _⟩ := R.there o
  exact Nat.lt_irrefl _ (Heap.lt_size e)
theorem push_keeps (o : Obj) : ∀ b ob, h.get? b = some ob → (h.push o).get? b = some ob := fun _ _ e => Heap.get?_push_of_some o e
end

section
variable {T : St} {A : Around} {L : Addr} {φ : Phi} {η : H} {s : Shared}

/-- a new list -/
theorem mk_list (mu : Bool) (R : Rel T φ η s.heap) {items : Array Value} {xs : List V} (hv : VRs T φ (own φ η) s.heap xs items.toList) (k : Nat) :
    ∃ v η' φ', mkList mu xs η = .ok v η' ∧ Post T φ η s φ' η' { s with heap := s.heap.push (listO items 0), toks := k } ∧ VR T φ' (own φ' η') (s.heap.push (listO items 0)) v (.ref s.heap.objs.size) := by
  have hg : (s.heap.push (listO items 0)).get? s.heap.objs.size = some (listO items 0) := Heap.get?_push_size _ rfl
  have st : Step φ η s.heap φ η (s.heap.push (listO items 0)) := .keeps (push_keeps _)
  cases mu with
  | false =>
    refine ⟨.lst xs, η, φ, rfl, .grown R (push_keeps _), ?_⟩
    simp only [VR]
    exact ⟨_, items, 0, rfl, fresh_size R, hg, VRs.step st _ _ hv⟩
  | true =>
    have none : s.heap.get? s.heap.objs.size = none := Heap.get?_none_of_le (Nat.le_refl _)
    have x := R.add (m := .list xs) (p := (s.heap.objs.size, s.heap.objs.size)) (push_keeps (listO items 0)) none none R.high R.high
      (fun st => ⟨rfl, items, 0, hg, VRs.step st _ _ hv⟩)
    refine ⟨.ref η.length, _, _, rfl, .mk' x, ?_⟩
    simp only [VR]
    exact ⟨(s.heap.objs.size, s.heap.objs.size), by rw [← R.len, List.getElem?_append_right (Nat.le_refl _)]; simp, rfl⟩
theorem mk_tup (R : Rel T φ η s.heap) {items : Array Value} {xs : List V} (hv : VRs T φ (own φ η) s.heap xs items.toList) (k : Nat) :
    Post T φ η s φ η { s with heap := s.heap.push (tupO items 0), toks := k } ∧ VR T φ (own φ η) (s.heap.push (tupO items 0)) (.tup xs) (.ref s.heap.objs.size) := by
  have hg : (s.heap.push (tupO items 0)).get? s.heap.objs.size = some (tupO items 0) := Heap.get?_push_size _ rfl
  have st : Step φ η s.heap φ η (s.heap.push (tupO items 0)) := .keeps (push_keeps _)
  refine ⟨.grown R (push_keeps _), ?_⟩
  simp only [VR]
  exact ⟨_, items, 0, rfl, fresh_size R, hg, VRs.step st _ _ hv⟩
/-- the frozen reading of it -/
theorem mk_lst (R : Rel T φ η s.heap) {items : Array Value} {xs : List V} (hv : VRs T φ (own φ η) s.heap xs items.toList) (k : Nat) :
    Post T φ η s φ η { s with heap := s.heap.push (listO items 0), toks := k } ∧ VR T φ (own φ η) (s.heap.push (listO items 0)) (.lst xs) (.ref s.heap.objs.size) := by
  obtain ⟨v, η', φ', e, p, r⟩ := mk_list false R hv k
  simp only [mkList, Bool.false_eq_true, if_false] at e
  cases e
  have hg : (s.heap.push (listO items 0)).get? s.heap.objs.size = some (listO items 0) := Heap.get?_push_size _ rfl
  have st : Step φ η s.heap φ η (s.heap.push (listO items 0)) := .keeps (push_keeps _)
  refine ⟨.grown R (push_keeps _), ?_⟩
  simp only [VR]
  exact ⟨_, items, 0, rfl, fresh_size R, hg, VRs.step st _ _ hv⟩

noncomputable def opOf : Op → Operator
  | .add => .Add | .sub => .Sub | .mul => .Mult | .div => .FloorDiv | .mod => .Mod

theorem len_items {xs : List V} {items : Array Value} {N : Addr → Prop} {hh : Heap} (r : VRs T φ N hh xs items.toList) : items.size = xs.length := by have := r.length; simpa using this

theorem ok_int {i : Int} (h : okInt i = true) : -(2 ^ 63) ≤ i ∧ i < 2 ^ 63 := by
  unfold okInt at h
  simp only [Bool.and_eq_true, decide_eq_true_eq] at h
  exact h

theorem bits64 {i : Int} (h : okInt i = true) : Builtin.Int.intBits i ≤ 64 := by
  have hi := ok_int h
  unfold Builtin.Int.intBits
  split
  · omega
  · rename_i h0
    have hne : i.natAbs ≠ 0 := fun q => h0 (by simp; omega)
    have : i.natAbs.log2 < 64 := (Nat.log2_lt hne).mpr (by omega)
    omega

theorem foldl_flat : ∀ (n : Nat) (items acc : Array Value), (List.foldl (fun x1 x2 => x1 ++ x2) acc (List.replicate n items)).toList = acc.toList ++ (List.replicate n items.toList).flatten
  | 0, _, _ => by simp
  | n + 1, items, acc => by
    rw [List.replicate_succ, List.foldl_cons, foldl_flat n items (acc ++ items), List.replicate_succ, List.flatten_cons]
    simp
theorem vrs_rep {xs : List V} {vs : List Value} {N : Addr → Prop} {hh : Heap} (r : VRs T φ N hh xs vs) : ∀ n : Nat, VRs T φ N hh (List.replicate n xs).flatten (List.replicate n vs).flatten
  | 0 => by simp only [List.replicate_zero, List.flatten_nil, VRs]
  | n + 1 => by
    simp only [List.replicate_succ, List.flatten_cons]
    exact r.append (vrs_rep r n)
theorem rep_flat {xs : List V} {items : Array Value} {N : Addr → Prop} {hh : Heap} (r : VRs T φ N hh xs items.toList) (n : Nat) :
    VRs T φ N hh (List.replicate n xs).flatten (List.foldl (fun x1 x2 => x1 ++ x2) #[] (List.replicate (if items.isEmpty = true then 0 else n) items)).toList := by
  rw [foldl_flat]
  by_cases he : items.isEmpty = true
  · rw [if_pos he]
    have h0 : items.toList = [] := by
      have : items = #[] := by simpa using he
      rw [this]
    rw [h0] at r
    have hx : xs = [] := by
      have := r.length
      cases xs with
      | nil => rfl
      | cons _ _ => simp at this
    subst hx
    simp [VRs]
  · rw [if_neg he]
    simpa using vrs_rep r n

theorem str_len (a : List Nat) : (⟨a.toArray⟩ : Str).length = a.length := by simp [Str.length]
theorem line_le {n : Nat} (h : n ≤ 100000) : n ≤ sizeLine := Nat.le_trans h (by decide)

theorem sim_add {a b : V} {x y : Value} (R : Rel T φ η s.heap) (ha : QV T φ η s.heap a x) (hb : QV T φ η s.heap b y) : Sim T A L φ η s (binaryOp .Add x y) (addV η (deref η a) (deref η b)) (QV T) := by
  generalize e1 : deref η a = a'
  generalize e2 : deref η b = b'
  cases a' with
  | int i =>
    cases b' with
    | int j =>
      have := deref_int e1; have := deref_int e2; subst_vars
      simp only [QV, VR] at ha hb
      obtain ⟨t, rfl⟩ := ha; obtain ⟨u, rfl⟩ := hb
      exact .ok rfl (wpAny_add_int ⟨φ, .toks R, by simp only [QV, VR]; exact ⟨_, rfl⟩⟩)
    | _ => exact .fail
  | str i => exact .fail
  | lst i =>
    cases b' with
    | lst j =>
      obtain ⟨p, i1, k1, rfl, g1, r1⟩ := list_view R (deref_lst e1) ha
      obtain ⟨q, i2, k2, rfl, g2, r2⟩ := list_view R (deref_lst e2) hb
      refine Sim.ifF fun hsz => ?_
      have hv := mk_lst R (items := i1 ++ i2) (by simpa using r1.append r2) s.toks
      exact .ok rfl (P.add_list g1 g2 ⟨φ, hv.1, hv.2⟩ (by rw [len_items r1, len_items r2]; exact line_le hsz))
    | _ => exact .fail
  | tup xs => exact .fail
  | _ => exact .fail

theorem sim_sub {a b : V} {x y : Value} (R : Rel T φ η s.heap) (ha : QV T φ η s.heap a x) (hb : QV T φ η s.heap b y) : Sim T A L φ η s (binaryOp .Sub x y) (subV η (deref η a) (deref η b)) (QV T) := by
  generalize e1 : deref η a = a'
  generalize e2 : deref η b = b'
  cases a' with
  | int i =>
    cases b' with
    | int j =>
      have := deref_int e1; have := deref_int e2; subst_vars
      simp only [QV, VR] at ha hb
      obtain ⟨t, rfl⟩ := ha; obtain ⟨u, rfl⟩ := hb
      exact .ok rfl (sub_int' ⟨φ, .toks R, by simp only [QV, VR]; exact ⟨_, rfl⟩⟩)
    | _ => exact .fail
  | _ => exact .fail

theorem sim_mul {a b : V} {x y : Value} (R : Rel T φ η s.heap) (ha : QV T φ η s.heap a x) (hb : QV T φ η s.heap b y) : Sim T A L φ η s (binaryOp .Mult x y) (mulV η (deref η a) (deref η b)) (QV T) := by
  generalize e1 : deref η a = a'
  generalize e2 : deref η b = b'
  cases b' with
  | int j =>
    cases a' with
    | int i =>
      have := deref_int e1; have := deref_int e2; subst_vars
      simp only [QV, VR] at ha hb
      obtain ⟨t, rfl⟩ := ha; obtain ⟨u, rfl⟩ := hb
      refine Sim.ifF fun hm => ?_
      refine .ok rfl (mul_int ⟨φ, .toks R, by simp only [QV, VR]; exact ⟨_, rfl⟩⟩ ?_)
      rcases Bool.or_eq_true_iff.mp hm with q | q
      · exact .of_left (bits64 q)
      · exact .of_right (bits64 q)
    | str i => exact .fail
    | lst xs =>
      obtain ⟨p, i1, k1, rfl, g1, r1⟩ := list_view R (deref_lst e1) ha
      have := deref_int e2; subst_vars
      simp only [QV, VR] at hb
      obtain ⟨u, rfl⟩ := hb
      refine Sim.ifF fun hm => ?_
      rw [Bool.and_eq_true, decide_eq_true_eq] at hm
      obtain ⟨hok, hsz⟩ := hm
      have hi := ok_int hok
      have hv := mk_lst R (rep_flat r1 j.toNat) s.toks
      have hz : i1.size * j.toNat ≤ 100000 := by rw [len_items r1]; exact hsz
      refine .ok rfl (wpAny_binaryOp_repeat_ref (T := "list") (U := "int") (by decide) ⟨_, g1, rfl⟩ (fun s' => typeIs_int s' j u) noFill_list_mul F.fills_int_mul F.slot_int_rmul repeat_list F.slot_int_index.lookup
        (call_meets F.slot_int_rmul (typeIs_int s j u) F.entry_int_rmul (F.args_int_rmul_2 _ _) (int___rmul___int_list j u p i1 k1)
          ⟨g1, rfl, ⟨_, g1, rfl⟩, call_meets F.slot_list_mul ⟨_, g1, rfl⟩ F.entry_list_mul (F.args_list_mul_2 _ _)
            (AutoListH.list___mul___list_int_3 p i1 k1 j u (by simp [Builtin.List.listFitsIndex]; omega) (by omega) (by simp [Builtin.List.listTooLong, sizeLine]; omega))
            ⟨g1, ⟨φ, hv.1, hv.2⟩⟩⟩))
    | _ => exact .fail
  | _ => exact .fail

theorem sim_div {a b : V} {x y : Value} (R : Rel T φ η s.heap) (ha : QV T φ η s.heap a x) (hb : QV T φ η s.heap b y) : Sim T A L φ η s (binaryOp .FloorDiv x y) (divV η (deref η a) (deref η b)) (QV T) := by
  generalize e1 : deref η a = a'
  generalize e2 : deref η b = b'
  cases a' with
  | int i =>
    cases b' with
    | int j =>
      have := deref_int e1; have := deref_int e2; subst_vars
      simp only [QV, VR] at ha hb
      obtain ⟨t, rfl⟩ := ha; obtain ⟨u, rfl⟩ := hb
      refine Sim.ifF fun hd => ?_
      exact .ok rfl (floordiv_int hd.1 ⟨φ, .toks R, by simp only [QV, VR]; exact ⟨_, rfl⟩⟩ (.inl (PyProof.noPylong_small hd.2)))
    | _ => exact .fail
  | _ => exact .fail

theorem sim_mod {a b : V} {x y : Value} (R : Rel T φ η s.heap) (ha : QV T φ η s.heap a x) (hb : QV T φ η s.heap b y) : Sim T A L φ η s (binaryOp .Mod x y) (modV η (deref η a) (deref η b)) (QV T) := by
  generalize e1 : deref η a = a'
  generalize e2 : deref η b = b'
  cases a' with
  | int i =>
    cases b' with
    | int j =>
      have := deref_int e1; have := deref_int e2; subst_vars
      simp only [QV, VR] at ha hb
      obtain ⟨t, rfl⟩ := ha; obtain ⟨u, rfl⟩ := hb
      refine Sim.ifF fun hd => ?_
      exact .ok rfl (mod_int' hd ⟨φ, .toks R, by simp only [QV, VR]; exact ⟨_, rfl⟩⟩)
    | _ => exact .fail
  | _ => exact .fail

theorem sim_bin (op : Op) {a b : V} {x y : Value} (R : Rel T φ η s.heap) (ha : QV T φ η s.heap a x) (hb : QV T φ η s.heap b y) : Sim T A L φ η s (binaryOp (opOf op) x y) (binV op η a b) (QV T) := by
  cases op with
  | add => exact sim_add R ha hb
  | sub => exact sim_sub R ha hb
  | mul => exact sim_mul R ha hb
  | div => exact sim_div R ha hb
  | mod => exact sim_mod R ha hb
end
end Mine
end
section
namespace Mine
open PySem PySem.SeqAt PyProof.Rows

/-- what an item of a list is, by its machine value -/
noncomputable def itemBy (xs : List V) (items : List Value) (y : Value) : V := ((items.zip xs).lookup y).getD .none

section
variable {T : St} {φ : Phi} {N : Addr → Prop} {h : Heap}
theorem itemBy_get : ∀ {xs : List V} {vs : List Value} {i : Nat} {v : Value} {x : V}, VRs T φ N h xs vs → (∀ x ∈ xs, x.plain = true) → vs[i]? = some v → xs[i]? = some x → itemBy xs vs v = x
  | [], _, _, _, _, _, _, _, hx => by simp at hx
  | z :: zs, _, i, v, x, r, p, hv, hx => by
    have hx0 : x.plain = true := p x (List.mem_of_getElem? hx)
    have rx : VR T φ N h x v := by
      obtain ⟨w, hw, hr⟩ := r.get hx
      rw [hv] at hw; cases hw; exact hr
    simp only [VRs] at r
    obtain ⟨v', r', rfl, r1, r2⟩ := r
    unfold itemBy
    simp only [List.zip_cons_cons, List.lookup_cons]
    by_cases e : v = v'
    · subst e
      simp only [beq_self_eq_true]
      exact Shp.inj 6 _ _ _ (shp_of (p z List.mem_cons_self) r1) (shp_of hx0 rx)
    · have : (v == v') = false := by simpa using e
      rw [this]
      cases i with
      | zero => simp at hv; exact absurd hv.symm e
      | succ i => exact itemBy_get r2 (fun y hy => p y (List.mem_cons_of_mem _ hy)) (by simpa using hv) (by simpa using hx)
theorem any_itemBy {xs : List V} {items : Array Value} {a : V} (r : VRs T φ N h xs items.toList) (p : ∀ x ∈ xs, x.plain = true) : items.any (fun y => eqV (itemBy xs items.toList y) a) = xs.any fun x => eqV x a := by
  rw [Bool.eq_iff_iff, ← Array.any_toList, List.any_eq_true, List.any_eq_true]
  constructor
  · rintro ⟨y, hy, he⟩
    obtain ⟨i, hi⟩ := List.mem_iff_getElem?.mp hy
    obtain ⟨x, hx, _⟩ := r.get' hi
    rw [itemBy_get r p hi hx] at he
    exact ⟨x, List.mem_of_getElem? hx, he⟩
  · rintro ⟨x, hx, he⟩
    obtain ⟨i, hi⟩ := List.mem_iff_getElem?.mp hx
    obtain ⟨y, hy, _⟩ := r.get hi
    exact ⟨y, List.mem_of_getElem? hy, by rw [itemBy_get r p hy hi]; exact he⟩
end

section
variable {T : St} {A : Around} {L : Addr} {φ : Phi} {η : H} {s : Shared}

theorem shp_deref (R : Rel T φ η s.heap) {a : V} {x : Value} (p : (deref η a).plain = true) (r : VR T φ (own φ η) s.heap a x) : Shp T φ (own φ η) s.heap 6 (deref η a) x := by
  by_cases hl : ∃ xs, listOf η a = some xs ∧ deref η a = .lst xs
  · obtain ⟨xs, e1, e2⟩ := hl
    obtain ⟨q, items, k, rfl, g, r'⟩ := list_view R e1 r
    rw [e2] at p ⊢
    exact .lst g r' (by simpa [V.plain, V.plainN] using p)
  · have e : deref η a = a := by
      unfold deref
      split
      · split
        · rename_i n xs hn
          exact absurd ⟨xs, by simp [listOf, hn], by simp [deref, hn]⟩ hl
        · rfl
      · rfl
    rw [e] at p ⊢
    exact shp_of p r

theorem eqAt_items (_R : Rel T φ η s.heap) (hu : A.units + 7 < cLine) {xs : List V} {items : Array Value} {a : V} {x : Value} (r : VRs T φ (own φ η) s.heap xs items.toList) (p : ∀ x ∈ xs, x.plain = true) (pa : a.plain = true) (ra : VR T φ (own φ η) s.heap a x) :
    ∀ y, y ∈ items → EqAt A.in1 s y x (eqV (itemBy xs items.toList y) a) := fun y hy => by
  obtain ⟨i, hi⟩ := List.mem_iff_getElem?.mp (Array.mem_toList_iff.mpr hy)
  obtain ⟨z, hz, rz⟩ := r.get' hi
  rw [itemBy_get r p hi hz]
  exact (eqs_of 6 z a y x A.in1 (shp_of (p z (List.mem_of_getElem? hz)) rz) (shp_of pa ra) (by show A.units + 1 + 6 < cLine; omega)).eq

noncomputable def copOf : COp → CmpOp
  | .eq => .Eq | .ne => .NotEq | .lt => .Lt | .le => .LtE | .gt => .Gt | .ge => .GtE | .isIn => .In | .notIn => .NotIn | .is => .Is | .isNot => .IsNot

theorem cmp_ok {t : Sem Value} {o : Option Bool} (h : ∀ b, o = some b → ∀ Q : Value → Shared → Prop, (∀ k, Q (.bool b) { s with toks := k }) → wpAny T.M A t Q (fun _ _ => False) s) (R : Rel T φ η s.heap) :
    Sim T A L φ η s t (match o with | some b => .ok (.bool b) η | none => .fail) (QV T) := by
  cases o with
  | none => exact .fail
  | some b => exact .ok rfl (h b rfl _ fun k => ⟨φ, .toks R, by simp only [QV, VR]⟩)

theorem find_map (kvs : List (Int × Value)) (k : Int) : (valueAt kvs k).isSome = kvs.any fun p => p.1 == k := by
  unfold valueAt
  induction kvs with
  | nil => rfl
  | cons p r ih =>
    simp only [List.find?_cons, List.any_cons]
    by_cases e : p.1 = k
    · simp [e]
    · have h1 : (p.1 == k) = false := by simpa using e
      simp [e, h1, ih]

theorem mem_cmp {a b : V} {x y : Value} (R : Rel T φ η s.heap) (ha : QV T φ η s.heap a x) (hb : QV T φ η s.heap b y) (hu : A.units + 7 < cLine) {r : Bool} (e : memV η a b = some r) (Q : Value → Shared → Prop) :
    ((∀ k, Q (.bool r) { s with toks := k }) → wpAny T.M A (compareOp .In x y) Q (fun _ _ => False) s) ∧ ((∀ k, Q (.bool (!r)) { s with toks := k }) → wpAny T.M A (compareOp .NotIn x y) Q (fun _ _ => False) s) := by
  have seqL : ∀ (l : Addr) (xs : List V) (items : Array Value) (k : Nat), y = .ref l → s.heap.get? l = some (listO items k) → VRs T φ (own φ η) s.heap xs items.toList → (a.plain && xs.all V.plain) = true → r = xs.any (fun z => eqV z a) →
      ((∀ k, Q (.bool r) { s with toks := k }) → wpAny T.M A (compareOp .In x y) Q (fun _ _ => False) s) ∧ ((∀ k, Q (.bool (!r)) { s with toks := k }) → wpAny T.M A (compareOp .NotIn x y) Q (fun _ _ => False) s) := by
    intro l xs items k hy g rr hp hr
    rw [Bool.and_eq_true] at hp
    have pp : ∀ x ∈ xs, x.plain = true := by simpa using hp.2
    have it := eqAt_items R hu rr pp hp.1 ha
    subst hy
    have an := any_itemBy (a := a) rr pp
    rw [← an] at hr
    subst hr
    exact ⟨fun h => in_listAt _ (isList_of g) it (h s.toks), fun h => notIn_listAt _ (isList_of g) it (h s.toks)⟩
  unfold memV at e
  split at e
  · rename_i n
    split at e
    · rename_i xs hn
      split at e
      · rename_i hp
        cases e
        simp only [QV, VR] at hb
        obtain ⟨p, hpn, rfl⟩ := hb
        obtain ⟨_, items, k, hg, hr⟩ := R.obj n _ p hn hpn
        exact seqL p.1 xs items k rfl hg hr hp rfl
      · cases e
    · rename_i es hn
      split at e
      · rename_i k
        cases e
        simp only [QV, VR] at hb ha
        obtain ⟨p, hpn, rfl⟩ := hb
        obtain ⟨t, rfl⟩ := ha
        obtain ⟨_, kvs, hd, hk, _⟩ := R.obj n _ p hn hpn
        have own1 : own φ η p.1 := ⟨n, p, _, hpn, hn, by simp, .inl rfl⟩
        have hs : (p.1 == sysModules) = false := by
          have h1 := (R.fresh _ own1).2
          have h2 : sysModules < cStatics := by decide
          have h3 : p.1 ≠ sysModules := Nat.ne_of_gt (Nat.lt_trans h2 h1)
          simpa using h3
        have hm : es.any (fun q => q.1 == k) = (valueAt kvs k).isSome := by
          rw [find_map]
          have a1 : ∀ l : List (Int × V), l.any (fun q => q.1 == k) = (l.map (·.1)).any (· == k) := fun l => by rw [List.any_map]; rfl
          have a2 : ∀ l : List (Int × Value), l.any (fun q => q.1 == k) = (l.map (·.1)).any (· == k) := fun l => by rw [List.any_map]; rfl
          rw [a1, a2, hk]
        rw [hm]
        exact ⟨fun h => wpAny_in_of (knd := intKind T.prog T.w) (k := k) (by simp [intKind, Value.isInt]) hs hd.mapOf (h _), fun h => wpAny_notIn_of (knd := intKind T.prog T.w) (k := k) (by simp [intKind, Value.isInt]) hs hd.mapOf (h _)⟩
      · cases e
    · cases e
  · rename_i xs
    split at e
    · rename_i hp
      cases e
      simp only [QV, VR] at hb
      obtain ⟨l, items, k, hy, _, hg, hr⟩ := hb
      exact seqL l xs items k hy hg hr hp rfl
    · cases e
  · cases e

theorem isSame_none {a : V} {x : Value} {N : Addr → Prop} {h : Heap} (r : VR T φ N h a x) : isSame x .none = pure (isN a) := by
  cases a <;> simp only [VR] at r
  · subst r; rfl
  · subst r; rfl
  · obtain ⟨t, rfl⟩ := r; rfl
  · obtain ⟨t, rfl⟩ := r; rfl
  · obtain ⟨p, _, _, rfl, _⟩ := r; rfl
  · obtain ⟨p, _, _, rfl, _⟩ := r; rfl
  · obtain ⟨p, _, rfl⟩ := r; rfl
  · obtain ⟨p, _, rfl, _⟩ := r; rfl

theorem sim_cmp (op : COp) {a b : V} {x y : Value} (R : Rel T φ η s.heap) (ha : QV T φ η s.heap a x) (hb : QV T φ η s.heap b y) (hu : A.units + 7 < cLine) :
    Sim T A L φ η s (compareOp (copOf op) x y) (match cmpV op η a b with | some b => .ok (.bool b) η | none => .fail) (QV T) := by
  refine cmp_ok (fun r e Q hQ => ?_) R
  have q0 := hQ s.toks
  unfold cmpV at e
  cases op with
  | eq =>
    simp only at e
    split at e
    · rename_i hp
      rw [Bool.and_eq_true] at hp
      cases e
      exact (eqs_of 6 _ _ x y A (shp_deref R hp.1 ha) (shp_deref R hp.2 hb) (by omega)).rc T.prog T.w _ Q q0
    · cases e
  | ne =>
    simp only at e
    split at e
    · rename_i hp
      rw [Bool.and_eq_true] at hp
      cases e
      exact (eqs_of 6 _ _ x y A (shp_deref R hp.1 ha) (shp_deref R hp.2 hb) (by omega)).ne T.prog T.w _ Q q0
    · cases e
  | lt =>
    simp only at e
    split at e
    · simp only [QV, VR] at ha hb
      obtain ⟨t, rfl⟩ := ha; obtain ⟨u, rfl⟩ := hb
      cases e
      exact wpAny_lt_int q0
    · cases e
  | le =>
    simp only at e
    split at e
    · simp only [QV, VR] at ha hb
      obtain ⟨t, rfl⟩ := ha; obtain ⟨u, rfl⟩ := hb
      cases e
      exact PyProof.Rows.le_int q0
    · cases e
  | gt =>
    simp only at e
    split at e
    · simp only [QV, VR] at ha hb
      obtain ⟨t, rfl⟩ := ha; obtain ⟨u, rfl⟩ := hb
      cases e
      exact PyProof.Rows.gt_int q0
    · cases e
  | ge =>
    simp only at e
    split at e
    · simp only [QV, VR] at ha hb
      obtain ⟨t, rfl⟩ := ha; obtain ⟨u, rfl⟩ := hb
      cases e
      exact PyProof.Rows.ge_int q0
    · cases e
  | isIn => exact (mem_cmp R ha hb hu e Q).1 hQ
  | notIn =>
    simp only [Option.map_eq_some_iff] at e
    obtain ⟨r', e', rfl⟩ := e
    exact (mem_cmp R ha hb hu e' Q).2 hQ
  | is =>
    simp only at e
    split at e
    · simp only [QV, VR] at hb
      subst hb
      cases e
      show wpAny _ _ (do return Value.bool (← isSame x .none)) _ _ _
      rw [isSame_none ha]
      exact wpAny_bind (wpAny_pure (wpAny_pure q0))
    · cases e
  | isNot =>
    simp only at e
    split at e
    · simp only [QV, VR] at hb
      subst hb
      cases e
      show wpAny _ _ (do return Value.bool (!(← isSame x .none))) _ _ _
      rw [isSame_none ha]
      exact wpAny_bind (wpAny_pure (wpAny_pure q0))
    · cases e
end
end Mine
end
section
namespace Mine
open PySem PySem.SeqAt PyProof.Rows

section
variable {T : St} {A : Around} {L : Addr} {φ : Phi} {η : H} {s : Shared}

theorem ok_idx {k : Int} (h : okIdx k = true) : 0 ≤ k ∧ k < 1000000 := by
  unfold okIdx at h; simpa using h
theorem seqIndex_of {k : Int} {n : Nat} (h0 : 0 ≤ k) (hk : k.toNat < n) : seqIndex? k n = some k.toNat := by
  unfold seqIndex?
  obtain ⟨j, rfl⟩ := Int.eq_ofNat_of_zero_le h0
  simp at hk ⊢
  omega

theorem dict_get {N : Addr → Prop} {h : Heap} {k : Int} {q : Int × V} : ∀ {es : List (Int × V)} {kvs : List (Int × Value)}, kvs.map (·.1) = es.map (·.1) → VRs T φ N h (es.map (·.2)) (kvs.map (·.2)) → es.find? (fun p => p.1 == k) = some q →
    ∃ w, valueAt kvs k = some w ∧ VR T φ N h q.2 w
  | [], _, _, _, hq => by simp at hq
  | z :: zs, [], hk, _, _ => by simp at hk
  | z :: zs, y :: ys, hk, hv, hq => by
    simp only [List.map_cons, List.cons.injEq] at hk
    simp only [List.map_cons, VRs] at hv
    obtain ⟨w, r, e1, r1, r2⟩ := hv
    cases e1
    unfold valueAt
    simp only [List.find?_cons] at hq ⊢
    by_cases hz : z.1 = k
    · simp only [hz, beq_self_eq_true, Option.some.injEq] at hq
      subst hq
      rw [hk.1, hz]
      simp only [decide_true, Option.map_some]
      exact ⟨_, rfl, r1⟩
    · have h1 : (z.1 == k) = false := by simpa using hz
      rw [h1] at hq
      have h2 : decide (y.1 = k) = false := by rw [hk.1]; simpa using hz
      rw [h2]
      exact dict_get hk.2 r2 hq

/-- an item -/
theorem sim_tail {value slice : Expr} (hs : ∀ o i, subscripted slice false o i = operate [o, i] (PySem.getItem o i)) {a b : V} {x y : Value} (R : Rel T φ η s.heap) (ha : QV T φ η s.heap a x) (hb : QV T φ η s.heap b y) :
    Sim T A L φ η s (subscriptTail value slice x y) (match getItem η a b with | some v => .ok v η | none => .fail) (QV T) := by
  cases e : getItem η a b with
  | none => exact .fail
  | some v =>
    refine .ok rfl ?_
    unfold getItem at e
    have lst : ∀ (xs : List V) (p : Addr) (items : Array Value) (n : Nat) (k : Int) (u : Tok), y = .int k u → x = .ref p → s.heap.get? p = some (listO items n) → VRs T φ (own φ η) s.heap xs items.toList → okIdx k = true → xs[k.toNat]? = some v →
        wpAny T.M A (subscriptTail value slice x y) (fun x s' => ∃ φ', Post T φ η s φ' η s' ∧ QV T φ' η s'.heap v x) (fun _ _ => False) s := by
      rintro xs p items n k u rfl rfl g r hk hx
      have hi := ok_idx hk
      obtain ⟨w, hw, rw⟩ := r.get hx
      exact tail_any ⟨_, g, rfl⟩ F.slot_list_getitem.lookup (wpAny_getItem_list (isList_of g) hi.1 (by omega) (by simpa using hw) ⟨φ, .refl R, rw⟩) (hs _ _)
    split at e
    · rename_i k
      simp only [QV, VR] at hb
      obtain ⟨u, rfl⟩ := hb
      split at e
      · rename_i n
        simp only [QV, VR] at ha
        obtain ⟨p, hp, rfl⟩ := ha
        split at e
        · rename_i xs hn
          split at e
          · rename_i hk
            obtain ⟨_, items, k', hg, hr⟩ := R.obj n _ p hn hp
            exact lst xs p.1 items k' k u rfl rfl hg hr hk e
          · cases e
        · rename_i es hn
          obtain ⟨_, kvs, hd, hk, hv⟩ := R.obj n _ p hn hp
          rw [Option.map_eq_some_iff] at e
          obtain ⟨q, hq, rfl⟩ := e
          have key := dict_get hk hv hq
          obtain ⟨w, hw, rw⟩ := key
          exact tail_any hd.typeIs slot_dict_getitem.lookup (wpAny_getItem_of (knd := intKind T.prog T.w) (k := k) (by simp [intKind, Value.isInt]) hd.mapOf hw ⟨φ, .toks R, rw⟩) (hs _ _)
        · cases e
      · split at e
        · rename_i xs hk
          simp only [QV, VR] at ha
          obtain ⟨p, items, n, rfl, _, g, r⟩ := ha
          exact lst xs p items n k u rfl rfl g r hk e
        · cases e
      · split at e
        · rename_i xs hk
          simp only [QV, VR] at ha
          obtain ⟨p, items, n, rfl, _, g, r⟩ := ha
          have hi := ok_idx hk
          obtain ⟨w, hw, rw⟩ := r.get e
          have hlt : k.toNat < items.size := by have := (List.getElem?_eq_some_iff.mp hw).1; simpa using this
          exact tail_any ⟨_, g, rfl⟩ F.slot_tuple_getitem.lookup (P.getItem_tuple g (by omega) (by omega) (seqIndex_of hi.1 hlt) (by simpa using hw) ⟨φ, .refl R, rw⟩) (hs _ _)
        · cases e
      · cases e
    · cases e

theorem clip_bound {n d k : Nat} {v : V} {x : Value} {N : Addr → Prop} {h : Heap} (e : bound n d v = some k) (r : VR T φ N h v x) : ∃ lo : Option (Int × Tok), x = partValue lo ∧ (lo.map (·.1)).elim d (clipAt n) = k := by
  unfold bound at e
  split at e
  · cases e
    simp only [VR] at r; subst r
    exact ⟨none, rfl, rfl⟩
  · rename_i i
    cases e
    simp only [VR] at r
    obtain ⟨t, rfl⟩ := r
    refine ⟨some (i, t), rfl, ?_⟩
    show clipAt n i = _
    unfold clipAt
    split
    · rename_i hi
      rw [Int.min_eq_left (by omega)]
      generalize i + (n : Int) = x
      omega
    · rename_i hi
      obtain ⟨m, rfl⟩ := Int.eq_ofNat_of_zero_le (Int.not_lt.mp hi)
      rw [show min (m : Int) n = ((min m n : Nat) : Int) by omega, Int.max_eq_right (Int.natCast_nonneg _), Int.toNat_natCast, Int.toNat_natCast]
  · cases e
theorem isPart_of (lo : Option (Int × Tok)) : IsPart (partValue lo) (lo.map (·.1)) := by
  cases lo with
  | none => exact .none
  | some p => obtain ⟨i, t⟩ := p; exact .int i t

/-- a slice: the object is there -/
noncomputable abbrev sliceO (y z : Value) : Obj := { cls := .type "slice", data := .fields #[y, z, .none] }
theorem slice_lst (mu : Bool) {value : Expr} {l u : Option Expr} {pp : Pos} {a : V} {xs : List V} {lo hi : V} {x y z : Value} (R : Rel T φ η s.heap) (e : listOf η a = some xs) (ha : QV T φ η s.heap a x) (hl : QV T φ η s.heap lo y) (hh : QV T φ η s.heap hi z) :
    Sim T A L φ η { s with heap := s.heap.push (sliceO y z) } (subscriptTail value (.Slice l u none pp) x (.ref s.heap.objs.size)) (slL mu η xs lo hi) (QV T) := by
  have R' := R.keeps (push_keeps (h := s.heap) (sliceO y z))
  refine Sim.get fun p e1 => Sim.get fun q e2 => Sim.ifF fun hsz => ?_
  obtain ⟨ad, items, k, rfl, g, r⟩ := list_view R' e (VR.step (.keeps (push_keeps (h := s.heap) _)) _ _ ha)
  obtain ⟨o1, rfl, c1⟩ := clip_bound e1 hl
  obtain ⟨o2, rfl, c2⟩ := clip_bound e2 hh
  have hlen := len_items r
  have rv : VRs T φ (own φ η) (s.heap.push (sliceO (partValue o1) (partValue o2))) (sliceL xs p q) (slicePick items (o1.map (·.1)) (o2.map (·.1)) none).toList := by
    rw [show (slicePick items (o1.map (·.1)) (o2.map (·.1)) none).toList = sliceL items.toList p q by rw [slicePick_plain, hlen, c1, c2]; simp [sliceL]]
    exact (r.drop p).take (q - p)
  obtain ⟨v, η', φ', em, pm, vm⟩ := mk_list (s := { s with heap := s.heap.push (sliceO (partValue o1) (partValue o2)) }) mu R' rv s.toks
  exact .ok em (tail_any ⟨_, g, rfl⟩ F.slot_list_getitem.lookup (wpAny_getItem_list_slice (isList_of g) (Heap.IsSliceOf.new ..) (isPart_of o1) (isPart_of o2) .none (by simp) ⟨φ', pm, vm⟩ (by rw [hlen]; exact line_le hsz)) rfl)
theorem sim_slice (mu : Bool) {value : Expr} {l u : Option Expr} {pp pos : Pos} {a lo hi : V} {x y z : Value} (R : Rel T φ η s.heap) (ha : QV T φ η s.heap a x) (hl : QV T φ η s.heap lo y) (hh : QV T φ η s.heap hi z) :
    Sim T A L φ η s (do let i ← newFields "slice" [y, z, .none]; standAt pos; subscriptTail value (.Slice l u none pp) x i) (sliceV mu η a lo hi) (QV T) := by
  refine .intro fun hf => wpAny_bind (wpAny_newObj_type (wpAny_bind (wpAny_standAt (Sim.from ⟨.keeps (push_keeps _), R.keeps (push_keeps _), rfl, rfl, rfl⟩ ?_ hf))))
  cases a with
  | str sg => exact .fail
  | tup xs => exact .fail
  | lst xs => exact slice_lst mu R rfl ha hl hh
  | ref n => exact Sim.get fun xs e => slice_lst mu R e ha hl hh
  | _ => exact .fail
end
end Mine
end
section
namespace Mine
open PySem PySem.SeqAt PyProof.Rows

noncomputable abbrev NPost (T : St) (φ : Phi) (η : H) (s : Shared) {α β : Type} (r : R β) (Q : QR α β) : α → Shared → Prop := SOk T φ η s r Q
noncomputable abbrev NExc (T : St) (L : Addr) (φ : Phi) (η : H) (s : Shared) {β : Type} (r : R β) : Value → Shared → Prop := SEx T L φ η s r

section
variable {T : St} {A : Around} {L : Addr} {φ : Phi} {η : H} {s : Shared} {α β γ δ : Type}

/-- the two in one another -/
theorem Sim.nest {t : Sem α} {k : α → Sem γ} {r : R β} {g : β → H → R δ} {Q₁ : QR α β} {Q₂ : QR γ δ} (h1 : Sim T A L φ η s t r Q₁)
    (h2 : ∀ v η' φ' x s', r = .ok v η' → Post T φ η s φ' η' s' → Q₁ φ' η' s'.heap v x → Sim T A L φ' η' s' (k x) (g v η') Q₂) :
    r.bind g = .fail ∨ wpAny T.M A t (fun x s' => SOk T φ η s r Q₁ x s' ∧ wpAny T.M A (k x) (NPost T φ η s (r.bind g) Q₂) (NExc T L φ η s (r.bind g)) s') (NExc T L φ η s (r.bind g)) s := by
  rcases h1 with h1 | h1
  · left; rw [h1]; rfl
  · cases r with
    | fail => left; rfl
    | exc c h =>
      right
      refine wpAny_mono h1 (fun x s' ⟨v, η', φ', e, _, _⟩ => by cases e) fun e s' ⟨c', η', φ', he, hp, hx⟩ => ?_
      cases he
      exact ⟨c, h, φ', rfl, hp, hx⟩
    | ok v₀ η₀ =>
      by_cases hf : g v₀ η₀ = .fail
      · left; exact hf
      · right
        refine wpAny_mono h1 (fun x s' ⟨v, η', φ', e, hp, hq⟩ => ?_) fun e s' ⟨c', η', φ', he, _, _⟩ => by cases he
        cases e
        refine ⟨⟨v₀, η₀, φ', rfl, hp, hq⟩, ?_⟩
        rcases h2 v₀ η₀ φ' x s' rfl hp hq with h3 | h3
        · exact absurd h3 hf
        · refine wpAny_mono h3 (fun y s'' ⟨v', η'', φ'', e', hp', hq'⟩ => ⟨v', η'', φ'', e', hp.trans hp', hq'⟩) fun e s'' ⟨c', η'', φ'', he, hp', hx⟩ => ⟨c', η'', φ'', he, hp.trans hp', hx⟩

/-- a new list, wherever it lies -/
theorem mk_listG (mu : Bool) (R : Rel T φ η s.heap) {h' : Heap} {a : Addr} {c : Nat} {items : Array Value} {xs : List V} (hv : VRs T φ (own φ η) s.heap xs items.toList) (hk : ∀ b o, s.heap.get? b = some o → h'.get? b = some o)
    (ha : s.heap.objs.size ≤ a) (hg : h'.get? a = some (listO items c)) (k : Nat) :
    ∃ v η' φ', mkList mu xs η = .ok v η' ∧ Post T φ η s φ' η' { s with heap := h', toks := k } ∧ VR T φ' (own φ' η') h' v (.ref a) := by
  have st : Step φ η s.heap φ η h' := .keeps hk
  have none : s.heap.get? a = Option.none := Heap.get?_none_of_le ha
  cases mu with
  | false =>
    refine ⟨.lst xs, η, φ, rfl, .grown R hk, ?_⟩
    simp only [VR]
    have no : ¬ own φ η a := fun o => by obtain ⟨ob, e, _⟩ := R.there o; rw [none] at e; cases e
    exact ⟨_, items, c, rfl, no, hg, VRs.step st _ _ hv⟩
  | true =>
    have x := R.add (m := .list xs) (p := (a, a)) hk none none (Nat.lt_of_lt_of_le R.high ha) (Nat.lt_of_lt_of_le R.high ha)
      (fun st => ⟨rfl, items, c, hg, VRs.step st _ _ hv⟩)
    refine ⟨.ref η.length, _, _, rfl, .mk' x, ?_⟩
    simp only [VR]
    exact ⟨(a, a), by rw [← R.len, List.getElem?_append_right (Nat.le_refl _)]; simp, rfl⟩

/-- a list turns -/
theorem upd_list (R : Rel T φ η s.heap) {n : Nat} {xs xs' : List V} {p : Addr × Addr} {items : Array Value} {k : Nat} (hn : η[n]? = some (.list xs)) (hp : φ[n]? = some p) (g : s.heap.get? p.1 = some (listO items k)) (f : Array Value → Array Value)
    (hv : VRs T φ (own φ η) s.heap xs' (f items).toList) (t : Nat) : Post T φ η s φ (η.set n (.list xs')) { s with heap := s.heap.update p.1 (Obj.mapSeq f), toks := t } := by
  have e2 : p.2 = p.1 := (R.obj n _ p hn hp).1
  have hg : (s.heap.update p.1 (Obj.mapSeq f)).get? p.1 = some (Obj.mapSeq f (listO items k)) := Heap.get?_update_self _ g rfl
  obtain ⟨k', hk'⟩ : ∃ k', Obj.mapSeq f (listO items k) = listO (f items) k' := ⟨_, rfl⟩
  rw [hk'] at hg
  refine .mk' (R.set hn hp (by simp) (by simp) (fun b o h1 _ e => (Heap.get?_update_other _ _ (Ne.symm h1)).trans e) (by rw [hg]; rfl) (by rw [e2, hg]; rfl) fun st => ?_)
  exact ⟨e2, _, k', hg, VRs.step st _ _ hv⟩

theorem setItem_list {l : Addr} {items : Array Value} {n : Nat} {k : Int} {t : Tok} {v : Value} {Q : Unit → Shared → Prop} {E : Value → Shared → Prop} (g : s.heap.get? l = some (listO items n)) (h0 : 0 ≤ k) (hfit : k < 2 ^ 63) (hn : k < items.size)
    (hQ : Q () { s with heap := s.heap.update l (Obj.mapSeq fun xs => xs.setIfInBounds k.toNat v) }) : wpAny T.M A (PySem.setItem (.ref l) (.int k t) v) Q E s := by
  have hl := isList_of g
  unfold PySem.setItem
  refine wpAny_holding (wpAny_bind (wpAny_sequenceKey hl.typeIs (by decide) (wpAny_bind (wpAny_callSpecial?_slot (name := Str.ofString "__setitem__") hl.typeIs slot_list_setitem
    (wpAny_call_entry slot_list_setitem hl.typeIs entry_list_setitem ?_ (args_list_setitem _ _ _))))))
  show wpAny _ _ (Builtin.List.listSubscript? (.int k t) >>= _) _ _ s
  refine wpAny_bind (wpAny_listSubscript_int (fitsIndex_of h0 hfit) ?_)
  obtain ⟨j, rfl⟩ := Int.eq_ofNat_of_zero_le h0
  have hj : j < items.size := by omega
  have hx : items[j]? = some items[j] := Array.getElem?_eq_getElem hj
  show wpAny _ _ ((seqItemAt l j >>= fun r => pure (r.map (j, ·))) >>= _) _ _ s
  refine wpAny_bind (wpAny_bind (wpAny_seqItemAt g rfl (wpAny_pure ?_)))
  rw [hx]
  show wpAny _ _ (setSeqItemAt l j v >>= _) _ _ s
  refine wpAny_bind (wpAny_setSeqItemAt g rfl ?_)
  first
    | exact wpAny_bind (wpAny_pure (wpAny_pure ⟨.none, rfl, wpAny_pure hQ⟩))
    | exact wpAny_pure ⟨.none, rfl, wpAny_pure hQ⟩

theorem dict_stored {N : Addr → Prop} {h : Heap} {k : Int} {v : V} {x : Value} {es : List (Int × V)} {kvs : List (Int × Value)} (hk : kvs.map (·.1) = es.map (·.1)) (hv : VRs T φ N h (es.map (·.2)) (kvs.map (·.2))) (r : VR T φ N h v x) :
    (stored kvs k x).map (·.1) = (dictSet es k v).map (·.1) ∧ VRs T φ N h ((dictSet es k v).map (·.2)) ((stored kvs k x).map (·.2)) := by
  have hany : kvs.any (fun kv => kv.1 = k) = es.any (fun p => p.1 == k) := by
    have a1 : ∀ l : List (Int × V), l.any (fun q => q.1 == k) = (l.map (·.1)).any (· == k) := fun l => by rw [List.any_map]; rfl
    have a2 : ∀ l : List (Int × Value), l.any (fun q => decide (q.1 = k)) = (l.map (·.1)).any (· == k) := fun l => by
      rw [List.any_map]; congr 1
    rw [a1, a2, hk]
  unfold stored dictSet
  rw [hany]
  split
  · rename_i hh
    clear hany hh
    induction es generalizing kvs with
    | nil =>
      cases kvs with
      | nil => exact ⟨rfl, by simp [VRs]⟩
      | cons _ _ => simp at hk
    | cons z zs ih =>
      cases kvs with
      | nil => simp at hk
      | cons y ys =>
        simp only [List.map_cons, List.cons.injEq] at hk
        simp only [List.map_cons, VRs] at hv
        obtain ⟨w, rr, e1, r1, r2⟩ := hv
        cases e1
        have := ih hk.2 r2
        simp only [List.map_cons, VRs]
        by_cases hz : z.1 = k
        · have hy : y.1 = k := hk.1.trans hz
          simp only [hz, hy, if_true, beq_self_eq_true]
          exact ⟨by rw [List.cons.injEq]; exact ⟨rfl, this.1⟩, x, _, rfl, r, this.2⟩
        · have hy : ¬ y.1 = k := fun q => hz (hk.1.symm.trans q)
          have hz' : (z.1 == k) = false := by simpa using hz
          simp only [hz', hy, if_false, Bool.false_eq_true]
          exact ⟨by rw [List.cons.injEq]; exact ⟨hk.1, this.1⟩, y.2, _, rfl, r1, this.2⟩
  · rw [List.map_append, List.map_append, List.map_append, List.map_append]
    refine ⟨by rw [hk]; rfl, hv.append ?_⟩
    simp only [List.map_cons, List.map_nil, VRs]
    exact ⟨x, [], rfl, r, rfl⟩

/-- o[i] = v -/
theorem sim_setItem {o i v : V} {x y z : Value} (R : Rel T φ η s.heap) (ho : QV T φ η s.heap o x) (hi : QV T φ η s.heap i y) (hv : QV T φ η s.heap v z) :
    Sim T A L φ η s (PySem.setItem x y z) (match setItem η o i v with | some η' => .ok () η' | none => .fail) (fun _ _ _ (_ : Unit) (_ : Unit) => True) := by
  cases e : setItem η o i v with
  | none => exact .fail
  | some η' =>
    refine .ok rfl ?_
    unfold setItem at e
    split at e
    · rename_i n k
      simp only [QV, VR] at ho hi
      obtain ⟨p, hp, rfl⟩ := ho
      obtain ⟨t, rfl⟩ := hi
      split at e
      · rename_i xs hn
        split at e
        · rename_i hk
          cases e
          have hb := ok_idx hk.1
          obtain ⟨_, items, c, g, r⟩ := R.obj n _ p hn hp
          have hsz := len_items r
          refine setItem_list g hb.1 (by omega) (by rw [hsz]; omega) ⟨φ, upd_list R hn hp g _ ?_ s.toks, trivial⟩
          have := r.set (k := k.toNat) hv
          simpa using this
        · cases e
      · rename_i es hn
        split at e
        · rename_i hl
          cases e
          obtain ⟨e2, kvs, hd, hk, hv'⟩ := R.obj n _ p hn hp
          have hlen : kvs.length = es.length := by have := congrArg List.length hk; simpa using this
          have st := dict_stored (k := k) hk hv' hv
          refine wpAny_setItem_pairs (knd := intKind T.prog T.w) (k := k) (by simp [intKind, Value.isInt]) hd (fun h' hm hs => ⟨φ, .mk' (R.set hn hp (by simp) (by simp) (fun b o h1 _ e => (hs.2 b h1).trans e) ?_ ?_ fun st' => ?_), trivial⟩) (by rw [hlen]; exact line_le hl)
          · obtain ⟨o, _, _, e, _⟩ := hm; rw [e]; rfl
          · obtain ⟨o, _, _, e, _⟩ := hm; rw [e2, e]; rfl
          · exact ⟨e2, _, hm, st.1, VRs.step st' _ _ st.2⟩
        · cases e
      · cases e
    · cases e
end
end Mine
end
section
namespace Mine
open PySem PyProof.Rows

section
variable {T : St} {A : Around} {L : Addr} {φ : Phi} {η : H} {s : Shared}

/-- frames' slots, exceptions' fields turn; new objects come -/
theorem Post.slack {h' : Heap} {t : Nat} (R : Rel T φ η s.heap) (k : ∀ b o, s.heap.get? b = some o → ¬ own φ η b → T.base.get? b = none → StayO o h' b)
    (k' : ∀ b o, own φ η b ∨ (T.base.get? b).isSome = true → s.heap.get? b = some o → h'.get? b = some o) : Post T φ η s φ η { s with heap := h', toks := t } := by
  have st : Step φ η s.heap φ η h' := ⟨List.prefix_refl _, fun b o hb e => by
      cases q : T.base.get? b with
      | none => exact k b o e hb q
      | some o' => exact .inl (k' b o (.inr (by rw [q]; rfl)) e), fun _ o => .inl o, fun b o e => by
      by_cases hb : own φ η b
      · rw [k' b o (.inl hb) e]; rfl
      · cases q : T.base.get? b with
        | none => obtain ⟨o', e', _⟩ := (k b o e hb q).there; rw [e']; rfl
        | some o' => rw [k' b o (.inr (by rw [q]; rfl)) e]; rfl⟩
  refine ⟨st, ⟨R.len, fun b o e => k' b o (.inr (by rw [e]; rfl)) (R.base b o e), fun n m p hm hp => ?_, R.fresh, R.disj⟩, rfl, rfl, rfl⟩
  by_cases gm : m = .gone
  · subst gm; trivial
  · exact OR.step st (fun o b hb e => k' b o (.inl ⟨n, p, m, hp, hm, gm, hb⟩) e) (R.obj n m p hm hp)

noncomputable def RN (T : St) (h : Heap) (e : Addr) (c : Nat) (fl : Value) : Prop :=
  ∃ oe vs a0 Tb oT ts, h.get? e = some oe ∧ oe.cls = .ref (T.exc c) ∧ oe.data = .fields vs ∧ vs[0]? = some a0 ∧ T.base.get? e = none ∧
    vs[1]? = some (.ref Tb) ∧ Tb ≠ e ∧ T.base.get? Tb = none ∧ h.get? Tb = some oT ∧ oT.cls = .type "traceback" ∧ oT.data = .fields ts ∧ ts[3]? = some fl
theorem RN.held {h : Heap} {e : Addr} {c : Nat} (x : RN T h e c (rawInt L)) : RZ T h e c L := by
  obtain ⟨oe, vs, a0, Tb, oT, ts, h1, h2, h3, h4, h5, h6, h7, h8, h9, h10, h11, h12⟩ := x
  exact ⟨oe, vs, a0, h1, h2, h3, h4, h5, .inr ⟨Tb, oT, ts, h6, h7, h8, h9, h10, h11, .inr h12⟩⟩
theorem RN.free {h : Heap} {e : Addr} {c : Nat} (x : RN T h e c .none) (L : Addr) : RZ T h e c L := by
  obtain ⟨oe, vs, a0, Tb, oT, ts, h1, h2, h3, h4, h5, h6, h7, h8, h9, h10, h11, h12⟩ := x
  exact ⟨oe, vs, a0, h1, h2, h3, h4, h5, .inr ⟨Tb, oT, ts, h6, h7, h8, h9, h10, h11, .inl h12⟩⟩

theorem loose_set {o : Obj} {vs : Array Value} (f : Array Value → Array Value) (hd : o.data = .fields vs) (hl : Loose o) : Loose (Obj.mapFields f o) := by
  refine ⟨⟨_, Obj.data_mapFields hd f⟩, ?_⟩
  rw [Obj.cls_mapFields]; exact hl.2

/-- a field of a loose object turns -/
theorem Post.field {a : Addr} {o : Obj} {vs : Array Value} (R : Rel T φ η s.heap) (g : s.heap.get? a = some o) (hd : o.data = .fields vs) (hl : Loose o) (hb : T.base.get? a = none) (f : Array Value → Array Value) :
    Post T φ η s φ η { s with heap := s.heap.update a (Obj.mapFields f) } := by
  refine Post.slack (t := s.toks) R (fun b o' e _ _ => ?_) fun b o' q e => ?_
  · by_cases hba : b = a
    · subst hba
      rw [g] at e; cases e
      exact .inr (.inr ⟨hl, _, Heap.get?_update_self _ g (Obj.isFreed_of_fields (Obj.data_mapFields hd f)), Obj.cls_mapFields _ _, loose_set f hd hl⟩)
    · exact .inl ((Heap.get?_update_other _ _ (Ne.symm hba)).trans e)
  · have hba : b ≠ a := by
      rintro rfl
      rcases q with q | q
      · exact R.notFields g hd q
      · rw [hb] at q; cases q
    exact (Heap.get?_update_other _ _ (Ne.symm hba)).trans e

theorem loose_exc {o : Obj} {C : Addr} {vs : Array Value} (hc : o.cls = .ref C) (hd : o.data = .fields vs) : Loose o := ⟨⟨_, hd⟩, .inr ⟨C, hc⟩⟩
theorem loose_tb {o : Obj} {vs : Array Value} (hc : o.cls = .type "traceback") (hd : o.data = .fields vs) : Loose o := ⟨⟨_, hd⟩, .inl hc⟩

theorem set_flight {e : Addr} {c : Nat} {fl : Value} {fr : Option Addr} {E : Value → Shared → Prop} (R : Rel T φ η s.heap) (x : RN T s.heap e c fl) :
    wpAny T.M A (setFlight (.ref e) fr) (fun _ s' => Post T φ η s φ η s' ∧ RN T s'.heap e c (fr.elim .none fun f => rawInt f)) E s := by
  obtain ⟨oe, vs, a0, Tb, oT, ts, h1, h2, h3, h4, h5, h6, h7, h8, h9, h10, h11, h12⟩ := x
  have hsz : 3 < ts.size := (Array.getElem?_eq_some_iff.mp h12).1
  unfold setFlight
  refine wpAny_bind (wpAny_field h1 h3 h6 ?_)
  rw [if_pos (show (Value.ref Tb != Value.none) = true from by simp)]
  refine wpAny_setField h9 h11 hsz ⟨Post.field R h9 h11 (loose_tb h10 h11) h8 _, ?_⟩
  refine ⟨oe, vs, a0, Tb, _, _, (Heap.get?_update_other _ _ h7).trans h1, h2, h3, h4, h5, h6, h7, h8, Heap.get?_update_self _ h9 (Obj.isFreed_of_fields (Obj.data_mapFields h11 _)), (Obj.cls_mapFields _ _).trans h10, Obj.data_mapFields h11 _, by simp [hsz]⟩

theorem frame_of {top env : Env} {outer : List Env} {Q : Value → Shared → Prop} {E : Value → Shared → Prop} (hfr : A.frames = some (top :: outer)) (htop : top.frame = some L) (S : Stk T φ η (top :: outer) s.heap) (hf : env.frame = some L)
    (h : ∀ h', Heap.SlotsOnly ((top :: outer).filterMap (·.frame)) s.heap h' → Q (.ref L) { s with heap := h' }) : wpAny T.M A (frameOf env) Q E s := by
  unfold PySem.frameOf
  refine wpAny_bind (wpAny_frameEnvs hfr ?_)
  have hdw : ((top :: outer).dropWhile fun x => x.frame != env.frame) = top :: outer := by rw [hf]; simp [List.dropWhile, htop]
  rw [hdw]
  unfold frameObject
  refine wpAny_bind (wpAny_bind (wpAny_readyFrames_fun S.fun fun h₁ hs₁ => wpAny_pure ?_))
  rw [htop]
  exact wpAny_pure (h h₁ hs₁)

theorem Stk.mem {l : List Env} (S : Stk T φ η l s.heap) {b : Addr} (hb : b ∈ l.filterMap (·.frame)) : T.base.get? b = none ∧ ¬ own φ η b ∧ ∃ o, s.heap.get? b = some o ∧ o.cls = .type "frame" ∧ ∃ es n, o.data = .dict es n := by
  obtain ⟨env, he, hf⟩ := List.mem_filterMap.mp hb
  obtain ⟨_, L, o, hf', hbase, ho, hg, hc, es, n, hd⟩ := S env he
  rw [hf'] at hf; cases hf
  exact ⟨hbase, ho, o, hg, hc, es, n, hd⟩

/-- slots of the frames alone -/
theorem Post.frames {l : List Env} {h' : Heap} {t : Nat} (R : Rel T φ η s.heap) (S : Stk T φ η l s.heap) (x : Heap.SlotsOnly (l.filterMap (·.frame)) s.heap h') : Post T φ η s φ η { s with heap := h', toks := t } := by
  refine Post.slack R (fun b o e _ _ => ?_) fun b o q e => ?_
  · by_cases hb : b ∈ l.filterMap (·.frame)
    · obtain ⟨_, _, o', e', hc, _⟩ := S.mem hb
      rw [e] at e'; cases e'
      obtain ⟨sl, e''⟩ := x.2.2 b o e
      exact .inr (.inl ⟨hc, sl, e''⟩)
    · exact .inl ((x.2.1 b hb).trans e)
  · have hb : b ∉ l.filterMap (·.frame) := fun hb => by
      obtain ⟨h1, h2, _⟩ := S.mem hb
      rcases q with q | q
      · exact h2 q
      · rw [h1] at q; cases q
    exact (x.2.1 b hb).trans e

/-- a new entry of the way -/
theorem entry {top env : Env} {outer : List Env} {e : Addr} {c : Nat} {oe : Obj} {vs : Array Value} {a0 head : Value} {hadNext : Bool} {E : Value → Shared → Prop}
    (hfr : A.frames = some (top :: outer)) (htop : top.frame = some L) (S : Stk T φ η (top :: outer) s.heap) (hf : env.frame = some L) (R : Rel T φ η s.heap)
    (h1 : s.heap.get? e = some oe) (h2 : oe.cls = .ref (T.exc c)) (h3 : oe.data = .fields vs) (h4 : vs[0]? = some a0) (h5 : T.base.get? e = none) (hsz : 1 < vs.size) :
    wpAny T.M A (do let a ← frameOf env; let pl ← entryPlaceOf L hadNext; let b ← EntryCells.newEntry head a .none (rawInt L) .none pl; setField (.ref e) 1 b) (fun _ s' => Post T φ η s φ η s' ∧ RN T s'.heap e c (rawInt L)) E s := by
  refine wpAny_bind (frame_of hfr htop S hf fun h₁ hs₁ => ?_)
  have p₁ : Post T φ η s φ η { s with heap := h₁ } := Post.frames (t := s.toks) R S hs₁
  have hene : e ∉ (top :: outer).filterMap (·.frame) := fun hm => by
    obtain ⟨_, _, o, e', _, es, n, hd⟩ := S.mem hm
    rw [h1] at e'; cases e'; rw [h3] at hd; cases hd
  have he₁ : h₁.get? e = some oe := (hs₁.2.1 e hene).trans h1
  refine wpAny_bind (wpAny_entryPlaceOf fun pl hpl => ?_)
  unfold EntryCells.newEntry newFields
  refine wpAny_bind (wpAny_newObj_type ?_ (hpl.sizeOk5 _ _ _ _ _))
  have he₂ := Heap.get?_push_of_some (h := h₁) { cls := .type "traceback", dict := none, data := .fields ([head, .ref L, .none, rawInt L, .none] ++ (if pl.isEmpty then List.replicate 6 Value.none else pl)).toArray } he₁
  have hTe : h₁.objs.size ≠ e := Nat.ne_of_gt (Heap.lt_size he₁)
  have p₂ : Post T φ η { s with heap := h₁ } φ η { s with heap := h₁.push { cls := .type "traceback", dict := none, data := .fields ([head, .ref L, .none, rawInt L, .none] ++ (if pl.isEmpty then List.replicate 6 Value.none else pl)).toArray } } :=
    Post.grown (s := { s with heap := h₁ }) (k := s.toks) p₁.rel fun b o e => Heap.get?_push_of_some _ e
  refine wpAny_setField he₂ h3 hsz ⟨(p₁.trans p₂).trans (Post.field p₂.rel he₂ h3 (loose_exc h2 h3) h5 _), ?_⟩
  have hd₃ := Obj.data_mapFields h3 (·.setIfInBounds 1 (Value.ref h₁.objs.size))
  have hT₃ := (Heap.get?_update_other (h₁.push { cls := .type "traceback", dict := none, data := .fields ([head, .ref L, .none, rawInt L, .none] ++ (if pl.isEmpty then List.replicate 6 Value.none else pl)).toArray })
    (Obj.mapFields (·.setIfInBounds 1 (Value.ref h₁.objs.size))) (Ne.symm hTe)).trans (Heap.get?_push_size h₁ rfl)
  refine ⟨_, _, a0, h₁.objs.size, _, _, Heap.get?_update_self _ he₂ (Obj.isFreed_of_fields hd₃), (Obj.cls_mapFields _ _).trans h2, hd₃, ?_, h5, ?_, hTe, ?_, hT₃, rfl, rfl, ?_⟩
  · rw [Array.getElem?_setIfInBounds_ne (by decide)]; exact h4
  · simp [hsz]
  · cases q : T.base.get? h₁.objs.size with
    | none => rfl
    | some o => exact absurd (Heap.lt_size (p₁.rel.base _ _ q)) (Nat.lt_irrefl _)
  · first | (simp; done) | (rcases hpl with rfl | ⟨_, _, _, _, _, _, _, rfl⟩ <;> simp)

/-- the frame is noted -/
theorem note {top env : Env} {outer : List Env} {e : Addr} {c : Nat} {E : Value → Shared → Prop}
    (hfr : A.frames = some (top :: outer)) (htop : top.frame = some L) (S : Stk T φ η (top :: outer) s.heap) (hf : env.frame = some L) (R : Rel T φ η s.heap) (x : RZ T s.heap e c L) :
    wpAny T.M A (noteFrame (.ref e) env) (fun _ s' => Post T φ η s φ η s' ∧ RN T s'.heap e c (rawInt L)) E s := by
  obtain ⟨oe, vs, a0, h1, h2, h3, h4, h5, h6⟩ := x
  unfold noteFrame
  simp only [hf]
  rcases h6 with h6 | ⟨Tb, oT, ts, h6, h7, h8, h9, h10, h11, h12⟩
  · refine wpAny_bind (wpAny_field h1 h3 h6 ?_)
    rw [if_neg (by decide)]
    exact entry hfr htop S hf R h1 h2 h3 h4 h5 (Array.getElem?_eq_some_iff.mp h6).1
  · refine wpAny_bind (wpAny_field h1 h3 h6 ?_)
    rw [if_pos (show (Value.ref Tb != Value.none) = true from by simp)]
    rcases h12 with h12 | h12
    · refine wpAny_bind (wpAny_field h9 h11 h12 ?_)
      rw [if_neg (show ¬ ((Value.none == rawInt L) = true) from by simp [rawInt])]
      refine wpAny_bind (wpAny_setField h9 h11 (Array.getElem?_eq_some_iff.mp h12).1 ?_)
      have p := Post.field R h9 h11 (loose_tb h10 h11) h8 (·.setIfInBounds 3 Value.none)
      refine wpAny_mono (entry (s := { s with heap := s.heap.update Tb (Obj.mapFields (·.setIfInBounds 3 Value.none)) }) hfr htop (S.step p.step) hf p.rel ((Heap.get?_update_other _ _ h7).trans h1) h2 h3 h4 h5 (Array.getElem?_eq_some_iff.mp h6).1)
        (fun _ s' ⟨q, r⟩ => ⟨p.trans q, r⟩) fun _ _ y => y
    · refine wpAny_bind (wpAny_field h9 h11 h12 ?_)
      rw [if_pos (show (rawInt L == rawInt L) = true from by simp)]
      exact wpAny_pure ⟨.refl R, oe, vs, a0, Tb, oT, ts, h1, h2, h3, h4, h5, h6, h7, h8, h9, h10, h11, h12⟩

/-- out of a loop of one's own -/
theorem came_back {env : Env} {e : Addr} {c : Nat} {fl : Value} {E : Value → Shared → Prop} (hf : env.frame = some L) (R : Rel T φ η s.heap) (x : RN T s.heap e c fl)
    (h : ∀ s', Post T φ η s φ η s' → RZ T s'.heap e c L → E (.ref e) s') : cameBackBy T.M A env E (.ref e) s := by
  unfold cameBackBy
  have sf := set_flight (A := A) (fr := some L) (E := E) R x
  obtain ⟨oe, vs, a0, Tb, oT, ts, h1, h2, h3, h4, h5, h6, h7⟩ := x
  refine wpAny_bind (wpAny_field h1 h3 h6 ?_)
  rw [if_neg (show ¬ ((Value.ref Tb == Value.none) = true) from by simp), hf]
  exact wpAny_mono sf (fun _ s' ⟨p, r⟩ => h s' p r.held) fun _ _ y => y

theorem passes {α : Type} {what : String} {env : Env} {e : Addr} {c : Nat} {fl : Value} {Q : α → Shared → Prop} {E : Value → Shared → Prop} (hf : env.frame = some L) (R : Rel T φ η s.heap) (x : RN T s.heap e c fl)
    (h : ∀ s', Post T φ η s φ η s' → RZ T s'.heap e c L → E (.ref e) s') : wpAny T.M A (passOn what (.ref e) env : Sem α) Q E s := by
  unfold PySem.passOn
  have sf := set_flight (A := A) (fr := some L) (E := E) R x
  obtain ⟨oe, vs, a0, Tb, oT, ts, h1, h2, h3, h4, h5, h6, h7⟩ := x
  refine wpAny_bind (wpAny_field h1 h3 h6 ?_)
  rw [if_neg (show ¬ ((Value.ref Tb == Value.none) = true) from by simp), hf]
  exact wpAny_bind (wpAny_mono sf (fun _ s' ⟨p, r⟩ => wpAny_throw (h s' p r.held)) fun _ _ y => y)

theorem leaves {top env : Env} {outer : List Env} {e : Addr} {c : Nat} {E : Value → Shared → Prop} {Q : Unit → Shared → Prop}
    (hfr : A.frames = some (top :: outer)) (htop : top.frame = some L) (S : Stk T φ η (top :: outer) s.heap) (hf : env.frame = some L) (R : Rel T φ η s.heap) (x : RZ T s.heap e c L)
    (h : ∀ s', Post T φ η s φ η s' → (∀ L', RZ T s'.heap e c L') → Q () s') : wpAny T.M A (leaving env (.ref e)) Q E s := by
  unfold leaving
  refine wpAny_bind (wpAny_mono (note hfr htop S hf R x) (fun _ s' ⟨p, r⟩ => ?_) fun _ _ y => y)
  exact wpAny_mono (set_flight p.rel r) (fun _ s'' ⟨p', r'⟩ => h s'' (p.trans p') fun L' => r'.free L') fun _ _ y => y
end
end Mine
end
section
namespace Mine
open PySem

section
variable {T : St} {A : Around} {L : Addr} {φ φ' : Phi} {η η' : H} {s s' : Shared} {h h' : Heap}

mutual
theorem VR.under {N : Addr → Prop} : ∀ (v : V) (x : Value), VR T φ N h v x → v.refUnder φ.length = true
  | .none, _, _ => rfl
  | .bool _, _, _ => rfl
  | .int _, _, _ => rfl
  | .str _, _, _ => rfl
  | .tup xs, x, e => by
    simp only [VR] at e
    obtain ⟨a, items, n, rfl, _, _, hr⟩ := e
    rw [V.refUnder]; exact VRs.under xs _ hr
  | .lst xs, x, e => by
    simp only [VR] at e
    obtain ⟨a, items, n, rfl, _, _, hr⟩ := e
    rw [V.refUnder]; exact VRs.under xs _ hr
  | .dct, _, _ => rfl
  | .ref n, x, e => by
    simp only [VR] at e
    obtain ⟨p, hp, _⟩ := e
    rw [V.refUnder]; exact decide_eq_true (List.getElem?_eq_some_iff.mp hp).1
  | .exc _, _, _ => rfl
theorem VRs.under {N : Addr → Prop} : ∀ (v : List V) (x : List Value), VRs T φ N h v x → V.refsUnder φ.length v = true
  | [], _, _ => rfl
  | y :: ys, x, e => by
    simp only [VRs] at e
    obtain ⟨v, r, rfl, h1, h2⟩ := e
    rw [V.refsUnder, VR.under y v h1, VRs.under ys r h2]; rfl
end

mutual
theorem VR.cut {N N' : Addr → Prop} (x : φ <+: φ') (hN : ∀ b, N b → N' b) : ∀ (v : V) (y : Value), VR T φ' N' h v y → v.refUnder φ.length = true → VR T φ N h v y
  | .none, _, e, _ => e
  | .bool _, _, e, _ => e
  | .int _, _, e, _ => e
  | .str _, _, e, _ => e
  | .tup xs, y, e, u => by
    simp only [VR] at e ⊢
    obtain ⟨a, items, n, rfl, h1, h2, hr⟩ := e
    rw [V.refUnder] at u
    exact ⟨a, items, n, rfl, fun q => h1 (hN _ q), h2, VRs.cut x hN xs _ hr u⟩
  | .lst xs, y, e, u => by
    simp only [VR] at e ⊢
    obtain ⟨a, items, n, rfl, h1, h2, hr⟩ := e
    rw [V.refUnder] at u
    exact ⟨a, items, n, rfl, fun q => h1 (hN _ q), h2, VRs.cut x hN xs _ hr u⟩
  | .dct, _, e, _ => by simp only [VR] at e
  | .ref n, y, e, u => by
    simp only [VR] at e ⊢
    obtain ⟨p, hp, rfl⟩ := e
    rw [V.refUnder] at u
    have hn := of_decide_eq_true u
    refine ⟨p, ?_, rfl⟩
    have h1 : φ[n]? = some φ[n] := List.getElem?_eq_getElem hn
    have h2 := get_prefix x h1
    rw [h2] at hp; rw [h1]; exact hp
  | .exc c, y, e, _ => by
    simp only [VR] at e ⊢
    obtain ⟨a, o, rfl, h1, h2, h3⟩ := e
    exact ⟨a, o, rfl, fun q => h1 (hN _ q), h2, h3⟩
theorem VRs.cut {N N' : Addr → Prop} (x : φ <+: φ') (hN : ∀ b, N b → N' b) : ∀ (v : List V) (y : List Value), VRs T φ' N' h v y → V.refsUnder φ.length v = true → VRs T φ N h v y
  | [], _, e, _ => e
  | v :: vs, y, e, u => by
    simp only [VRs] at e ⊢
    obtain ⟨w, r, rfl, h1, h2⟩ := e
    rw [V.refsUnder, Bool.and_eq_true] at u
    exact ⟨w, r, rfl, VR.cut x hN v w h1 u.1, VRs.cut x hN vs r h2 u.2⟩
end
theorem own_cut (x : φ <+: φ') (e : η'.take η.length = η) {b : Addr} (o : own φ η b) : own φ' η' b := by
  obtain ⟨n, p, m, hp, hm, hg, hb⟩ := o
  refine ⟨n, p, m, get_prefix x hp, ?_, hg, hb⟩
  rw [← e, List.getElem?_take] at hm
  split at hm
  · exact hm
  · cases hm

/-- what a function or a comprehension has made for itself is let go -/
theorem Post.cut (P : Post T φ η s φ' η' s') (R : Rel T φ η s.heap) (e : η'.take η.length = η) : Post T φ η s φ η s' := by
  have hN : ∀ b, own φ η b → own φ' η' b := fun b => own_cut P.step.ext e
  refine ⟨⟨List.prefix_refl _, P.step.keep, fun _ o => .inl o, P.step.alive⟩, ⟨R.len, P.rel.base, fun n m p hm hp => ?_, R.fresh, R.disj⟩, P.gens, P.os, P.drawn⟩
  have hm' : η'[n]? = some m := by
    rw [← e, List.getElem?_take] at hm
    split at hm
    · exact hm
    · cases hm
  have a := R.obj n m p hm hp
  have b := P.rel.obj n m p hm' (get_prefix P.step.ext hp)
  unfold OR at a b ⊢
  split at a
  · obtain ⟨_, items, k, _, ha⟩ := a
    obtain ⟨e1, items, k, h1, h2⟩ := b
    exact ⟨e1, items, k, h1, VRs.cut P.step.ext hN _ _ h2 (VRs.under _ _ ha)⟩
  · obtain ⟨_, kvs, _, _, ha⟩ := a
    obtain ⟨e1, kvs, h0, h1, h2⟩ := b
    exact ⟨e1, kvs, h0, h1, VRs.cut P.step.ext hN _ _ h2 (VRs.under _ _ ha)⟩
  · obtain ⟨_, _, ys, _, _, ha⟩ := a
    obtain ⟨e1, h1, ys, h2, hl, h3⟩ := b
    exact ⟨e1, h1, ys, h2, hl, VRs.cut P.step.ext hN _ _ h3 (VRs.under _ _ ha)⟩
  · trivial
theorem Post.cutV (P : Post T φ η s φ' η' s') (R : Rel T φ η s.heap) (e : η'.take η.length = η) {v : V} {x : Value} (r : VR T φ' (own φ' η') s'.heap v x) (u : v.refUnder η.length = true) : VR T φ (own φ η) s'.heap v x :=
  VR.cut P.step.ext (fun _ => own_cut P.step.ext e) v x r (by rw [R.len]; exact u)
theorem Post.cutVs (P : Post T φ η s φ' η' s') (R : Rel T φ η s.heap) (e : η'.take η.length = η) {v : List V} {x : List Value} (r : VRs T φ' (own φ' η') s'.heap v x) (u : V.refsUnder η.length v = true) : VRs T φ (own φ η) s'.heap v x :=
  VRs.cut P.step.ext (fun _ => own_cut P.step.ext e) v x r (by rw [R.len]; exact u)
end
end Mine
end
section
namespace Mine
open PySem PyProof.Rows

noncomputable abbrev Gam := List (Str × Nat)

/-- a namespace of a frame or of a comprehension -/
noncomputable def NsAt (h : Heap) (a : Addr) (c : String) (m : Str → Option Value) : Prop := h.Ns a m ∧ ∃ o, h.get? a = some o ∧ o.cls = .type c
noncomputable def CellAt (h : Heap) (a : Addr) (v : Option Value) : Prop := ∃ o, h.get? a = some o ∧ o.cls = .type "cell" ∧ o.data = .cell v
theorem CellAt.is {h : Heap} {a : Addr} {v : Option Value} (x : CellAt h a v) : h.IsCell a v := let ⟨o, h1, _, h2⟩ := x; ⟨o, h1, h2⟩

/-- one frame: its names and their slots -/
structure FR (T : St) (φ : Phi) (η : H) (h : Heap) (L : Addr) (env : Env) (sc : Scope) (Γ : Gam) (ρ : Rho) : Prop where
  sc : env.scope = sc
  kind : env.scope.kind = .function
  glob : env.globals = mainGlobals
  bi : env.builtins = builtinsNs
  frame : env.frame = some L
  ns : ∃ c m, NsAt h env.locals c m ∧ (c = "frame" ∨ c = "dict") ∧ ∀ n i v, Γ.lookup n = some i → env.kindOf n = some .local → ρ[i]? = some (some v) → ∃ x, m n = some x ∧ VR T φ (own φ η) h v x
  cell : ∀ n i, Γ.lookup n = some i → env.kindOf n = some .cell → ∃ c ov, env.cells.lookup n = some c ∧ CellAt h c ov ∧ ∀ v, ρ[i]? = some (some v) → ∃ x, ov = some x ∧ VR T φ (own φ η) h v x
  lfresh : ¬ own φ η env.locals ∧ T.base.get? env.locals = none
  cthere : ∀ n c, env.cells.lookup n = some c → ∃ ov, CellAt h c ov
  cfresh : ∀ n c, env.cells.lookup n = some c → ¬ own φ η c ∧ T.base.get? c = none
  apart : ∀ n n' c, env.cells.lookup n = some c → env.cells.lookup n' = some c → n = n'
  inj : ∀ n n' i, Γ.lookup n = some i → Γ.lookup n' = some i → n = n'

theorem StayO.data {o : Obj} {h : Heap} {b : Addr} (x : StayO o h b) (hd : ∀ vs, o.data ≠ .fields vs) : ∃ o', h.get? b = some o' ∧ o'.data = o.data ∧ o'.cls = o.cls := by
  rcases x with x | ⟨_, sl, x⟩ | ⟨⟨⟨vs, e⟩, _⟩, _⟩
  · exact ⟨_, x, rfl, rfl⟩
  · exact ⟨_, x, rfl, rfl⟩
  · exact absurd e (hd vs)

section
variable {T : St} {A : Around} {L : Addr} {φ φ' : Phi} {η η' : H} {s s' : Shared} {h h' : Heap} {env : Env} {sc : Scope} {Γ : Gam} {ρ : Rho}

theorem Step.ns {a : Addr} {c : String} {m : Str → Option Value} (st : Step φ η h φ' η' h') (hN : ¬ own φ η a) (x : NsAt h a c m) : NsAt h' a c m := by
  obtain ⟨⟨o, es, ep, ho, hd, r⟩, o₂, ho₂, hc⟩ := x
  rw [ho] at ho₂; cases ho₂
  obtain ⟨o', ho', hd', hc'⟩ := (st.keep a o hN ho).data fun vs q => by rw [hd] at q; cases q
  exact ⟨⟨o', es, ep, ho', hd'.trans hd, r⟩, o', ho', hc'.trans hc⟩
theorem Step.cell {a : Addr} {v : Option Value} (st : Step φ η h φ' η' h') (hN : ¬ own φ η a) (x : CellAt h a v) : CellAt h' a v := by
  obtain ⟨o, ho, hc, hd⟩ := x
  obtain ⟨o', ho', hd', hc'⟩ := (st.keep a o hN ho).data fun vs q => by rw [hd] at q; cases q
  exact ⟨o', ho', hc'.trans hc, hd'.trans hd⟩

theorem FR.step (F : FR T φ η h L env sc Γ ρ) (st : Step φ η h φ' η' h') : FR T φ' η' h' L env sc Γ ρ where
  sc := F.sc
  kind := F.kind
  glob := F.glob
  bi := F.bi
  frame := F.frame
  ns := by
    obtain ⟨c, m, hn, hc, hv⟩ := F.ns
    refine ⟨c, m, st.ns F.lfresh.1 hn, hc, fun n i v h1 h2 h3 => ?_⟩
    obtain ⟨x, e, r⟩ := hv n i v h1 h2 h3
    exact ⟨x, e, VR.step st _ _ r⟩
  cell := fun n i h1 h2 => by
    obtain ⟨c, ov, e, hc, hv⟩ := F.cell n i h1 h2
    refine ⟨c, ov, e, st.cell (F.cfresh n c e).1 hc, fun v hr => ?_⟩
    obtain ⟨x, e', r⟩ := hv v hr
    exact ⟨x, e', VR.step st _ _ r⟩
  lfresh := by
    obtain ⟨_, m, ⟨_, o, ho, _⟩, _⟩ := F.ns
    exact ⟨st.off F.lfresh.1 ho, F.lfresh.2⟩
  cthere := fun n c e => let ⟨ov, x⟩ := F.cthere n c e; ⟨ov, st.cell (F.cfresh n c e).1 x⟩
  cfresh := fun n c e => by
    obtain ⟨_, o, ho, _⟩ := F.cthere n c e
    exact ⟨st.off (F.cfresh n c e).1 ho, (F.cfresh n c e).2⟩
  apart := F.apart
  inj := F.inj

/-- an object that no value stands for -/
noncomputable def Priv (o : Obj) : Prop := ∃ c, o.cls = .type c ∧ c ≠ "tuple" ∧ c ≠ "list"

mutual
theorem VR.but {N : Addr → Prop} {a : Addr} {o : Obj} (g : h.get? a = some o) (p : Priv o) (k : ∀ b o, b ≠ a → h.get? b = some o → h'.get? b = some o) : ∀ (v : V) (x : Value), VR T φ N h v x → VR T φ N h' v x
  | .none, _, e => e
  | .bool _, _, e => e
  | .int _, _, e => e
  | .str _, _, e => e
  | .tup xs, x, e => by
    simp only [VR] at e ⊢
    obtain ⟨b, items, n, rfl, hN, hg, hr⟩ := e
    refine ⟨b, items, n, rfl, hN, k b _ (fun q => ?_) hg, VRs.but g p k xs _ hr⟩
    rw [q, g] at hg; cases hg; obtain ⟨c, e, h1, h2⟩ := p; cases e; exact h1 rfl
  | .lst xs, x, e => by
    simp only [VR] at e ⊢
    obtain ⟨b, items, n, rfl, hN, hg, hr⟩ := e
    refine ⟨b, items, n, rfl, hN, k b _ (fun q => ?_) hg, VRs.but g p k xs _ hr⟩
    rw [q, g] at hg; cases hg; obtain ⟨c, e, h1, h2⟩ := p; cases e; exact h2 rfl
  | .dct, _, e => by simp only [VR] at e
  | .ref n, x, e => e
  | .exc c, x, e => by
    simp only [VR] at e ⊢
    obtain ⟨b, ob, rfl, hN, hg, hc, hd⟩ := e
    refine ⟨b, ob, rfl, hN, k b _ (fun q => ?_) hg, hc, hd⟩
    rw [q, g] at hg; cases hg; obtain ⟨c, e, h1, h2⟩ := p; rw [hc] at e; cases e
theorem VRs.but {N : Addr → Prop} {a : Addr} {o : Obj} (g : h.get? a = some o) (p : Priv o) (k : ∀ b o, b ≠ a → h.get? b = some o → h'.get? b = some o) : ∀ (v : List V) (x : List Value), VRs T φ N h v x → VRs T φ N h' v x
  | [], _, e => e
  | y :: ys, x, e => by
    simp only [VRs] at e ⊢
    obtain ⟨v, r, rfl, h1, h2⟩ := e
    exact ⟨v, r, rfl, VR.but g p k y v h1, VRs.but g p k ys r h2⟩
end
/-- a private object turns -/
theorem Rel.but {a : Addr} {o : Obj} (R : Rel T φ η h) (g : h.get? a = some o) (p : Priv o) (ha : ¬ own φ η a) (hb : T.base.get? a = none) (k : ∀ b o, b ≠ a → h.get? b = some o → h'.get? b = some o) : Rel T φ η h' where
  len := R.len
  base := fun b ob e => k b ob (fun q => by rw [q, hb] at e; cases e) (R.base b ob e)
  obj := fun n m q hm hq => by
    by_cases gm : m = .gone
    · subst gm; trivial
    have o1 : q.1 ≠ a := fun e => ha ⟨n, q, m, hq, hm, gm, .inl e.symm⟩
    have o2 : q.2 ≠ a := fun e => ha ⟨n, q, m, hq, hm, gm, .inr e.symm⟩
    have x := R.obj n m q hm hq
    unfold OR at x ⊢
    split at x
    · obtain ⟨e, items, n, h1, h2⟩ := x
      exact ⟨e, items, n, k _ _ o1 h1, VRs.but g p k _ _ h2⟩
    · obtain ⟨e, kvs, ⟨ob, es, ep, h0, h0'⟩, h1, h2⟩ := x
      exact ⟨e, kvs, ⟨ob, es, ep, k _ _ o1 h0, h0'⟩, h1, VRs.but g p k _ _ h2⟩
    · obtain ⟨e, h1, ys, h2, hl, h3⟩ := x
      exact ⟨e, k _ _ o1 h1, ys, h2.at fun o => k _ o o2, hl, VRs.but g p k _ _ h3⟩
    · trivial
  fresh := R.fresh
  disj := R.disj

/-- the same, seen from a state in which it was not yet there -/
theorem Post.but {φ₀ : Phi} {η₀ : H} {s₀ : Shared} {a : Addr} {o : Obj} {t : Nat} (P : Post T φ₀ η₀ s₀ φ η s) (h0 : s₀.heap.get? a = none) (g : s.heap.get? a = some o) (p : Priv o) (ha : ¬ own φ η a) (hb : T.base.get? a = none)
    (k : ∀ b o, b ≠ a → s.heap.get? b = some o → h'.get? b = some o) : Post T φ₀ η₀ s₀ φ η { s with heap := h', toks := t } := by
  refine ⟨⟨P.step.ext, fun b ob hN e => ?_, P.step.osub, fun b ob e => ?_⟩, P.rel.but g p ha hb k, P.gens, P.os, P.drawn⟩
  · have hba : b ≠ a := fun q => by rw [q, h0] at e; cases e
    exact (P.step.keep b ob hN e).trans fun o' e' => .inl (k b o' hba e')
  · have hba : b ≠ a := fun q => by rw [q, h0] at e; cases e
    obtain ⟨o', e'⟩ := Option.isSome_iff_exists.mp (P.step.alive b ob e)
    rw [k b o' hba e']; rfl

theorem find_some {es : Array DictEntry} {n : Str} : (nsFind es n).isSome = (es.findIdx? (·.key.isStr n)).isSome := by
  unfold nsFind findBy
  obtain ⟨l⟩ := es
  rw [List.find?_toArray, List.findIdx?_toArray, Option.isSome_map, Bool.eq_iff_iff, List.find?_isSome, List.findIdx?_isSome, List.any_eq_true]
theorem nsSet_k {a : Addr} {cl : String} {m : Str → Option Value} {n : Str} {v : Value} {o : Obj} {es : Array DictEntry} {ep : Nat} {Q : Unit → Shared → Prop} {E : Value → Shared → Prop} {M : Model} (ho : s.heap.get? a = some o) (hc : o.cls = .type cl) (hd : o.data = .dict es ep) (hk : StrKeys es) (hm : ∀ x, nsFind es x = m x)
    (hQ : ∀ h' o' es' ep', h'.get? a = some o' → o'.cls = .type cl → o'.data = .dict es' ep' → StrKeys es' → (∀ x, nsFind es' x = if x = n then some v else m x) → es'.size = (if (m n).isSome then es.size else es.size + 1) → Heap.SameBut a s.heap h' → Q () { s with heap := h', toks := s.toks + 1 }) : wpAny M A (nsSet a n v) Q E s := by
  have hany : es.any (·.refKey) = false := by
    rw [Array.any_eq_false']; intro e he; obtain ⟨n, t, h⟩ := hk e he; simp [DictEntry.refKey, h]
  have hsz : (m n).isSome = (es.findIdx? (·.key.isStr n)).isSome := by rw [← hm, find_some]
  intro Γ p _
  simp only [nsSet, strHash, Sem.wp_bind', Sem.wp_cmd_ask, Sem.wp_pure', Sem.wp_cmd_mkText]
  rw [Sem.wp_loadPart_of M Γ (fun e _ s => E e s) p { s with toks := s.toks + 1 } (o := o) _ ho]
  simp only [hd, aRefKeyMayBeTheName_at, hany, Bool.and_false, Bool.false_eq_true, if_false, Sem.wp_cmd_updatePart]
  refine ⟨by rw [ho]; rfl, ?_⟩
  obtain ⟨c, d, dt, sl⟩ := o
  subst hd
  rw [Obj.putName_eq]
  cases hi : es.findIdx? (·.key.isStr n) with
  | some i =>
    have e : ∀ hs k, Obj.putNameByArray n hs k v ⟨c, d, .dict es ep, sl⟩ = ⟨c, d, .dict (es.modify i fun e => { e with val := v }) ep, sl⟩ := fun hs k => by simp only [Obj.putNameByArray, hi]
    refine hQ _ _ _ ep (Heap.get?_update_self _ ho (by rw [e]; rfl)) (by rw [e]; exact hc) (by rw [e]) (hk.modify _ _) (fun x => ?_) (by rw [hsz, hi]; simp) (Heap.SameBut.update ..)
    rw [← hm]; exact findBy_modify (fun n v => v.isStr n) Value.isStr_inj es n x v i hi
  | none =>
    have e : ∀ hs k, Obj.putNameByArray n hs k v ⟨c, d, .dict es ep, sl⟩ = ⟨c, d, .dict (es.push ⟨hs, k, v⟩) (ep + 1), sl⟩ := fun hs k => by simp only [Obj.putNameByArray, hi]
    refine hQ _ _ _ (ep + 1) (Heap.get?_update_self _ ho (by rw [e]; rfl)) (by rw [e]; exact hc) (by rw [e]) (hk.push _ _ _ _) (fun x => ?_) (by rw [hsz, hi]; simp) (Heap.SameBut.update ..)
    rw [← hm]
    refine findBy_push (fun n v => v.isStr n) es n x _ _ v (fun y => ?_) hi
    show (n == y) = decide (y = n)
    by_cases h : y = n
    · subst h; simp
    · have : ¬ n = y := fun e => h e.symm
      simp [h, this]
theorem nsSet_at {a : Addr} {cl : String} {m : Str → Option Value} {n : Str} {v : Value} {Q : Unit → Shared → Prop} {E : Value → Shared → Prop} {M : Model} (hn : NsAt s.heap a cl m)
    (hQ : ∀ h', NsAt h' a cl (fun x => if x = n then some v else m x) → Heap.SameBut a s.heap h' → Q () { s with heap := h', toks := s.toks + 1 }) : wpAny M A (nsSet a n v) Q E s := by
  obtain ⟨⟨o, es, ep, ho, hd, hk, hm⟩, o₂, ho₂, hc⟩ := hn
  rw [ho] at ho₂; cases ho₂
  exact nsSet_k ho hc hd hk hm fun h' o' es' ep' g c d k f _ sb => hQ h' ⟨⟨o', es', ep', g, d, k, f⟩, o', g, c⟩ sb
end
end Mine
end
section
namespace Mine
open PySem PyProof.Rows

/-- a frame's state, seen from the call's start -/
structure FS (cw : Bool) (T : St) (A : Around) (L : Addr) (φ₀ : Phi) (η₀ : H) (s₀ : Shared) (φ : Phi) (η : H) (s : Shared) (env : Env) (sc : Scope) (Γ : Gam) (ρ : Rho) : Prop where
  post : Post T φ₀ η₀ s₀ φ η s
  fr : FR T φ η s.heap L env sc Γ ρ
  stk : ∃ top outer, A.frames = some (top :: outer) ∧ top.frame = some L ∧ Stk T φ η (top :: outer) s.heap
  l0 : s₀.heap.get? env.locals = none
  c0 : cw = true → ∀ n c, env.cells.lookup n = some c → s₀.heap.get? c = none

section
variable {cw : Bool} {T : St} {A : Around} {L : Addr} {φ₀ φ φ' : Phi} {η₀ η η' : H} {s₀ s s' : Shared} {h h' : Heap} {env : Env} {sc : Scope} {Γ : Gam} {ρ : Rho}

theorem FS.step (F : FS cw T A L φ₀ η₀ s₀ φ η s env sc Γ ρ) (p : Post T φ η s φ' η' s') : FS cw T A L φ₀ η₀ s₀ φ' η' s' env sc Γ ρ :=
  ⟨F.post.trans p, F.fr.step p.step, let ⟨t, o, h1, h2, h3⟩ := F.stk; ⟨t, o, h1, h2, h3.step p.step⟩, F.l0, F.c0⟩

/-- a name's value -/
theorem sim_var {n : Str} {i : Nat} {pos : Pos} (F : FR T φ η s.heap L env sc Γ ρ) (R : Rel T φ η s.heap) (hΓ : Γ.lookup n = some i) (hk : sc.names.lookup n = some .local ∨ sc.names.lookup n = some .cell) (hd : (n == ("__debug__" : Str)) = false) :
    Sim T A L φ η s (eval (.Name n pos) env) (match ρ[i]? with | some (some v) => .ok v η | _ => .fail) (QV T) := by
  split
  · rename_i v e
    refine .ok rfl (wpAny_Name ?_ hd)
    rcases hk with hk | hk
    · have hk' : env.kindOf n = some .local := by unfold Env.kindOf; rw [F.sc]; exact hk
      obtain ⟨c, m, hn, _, hv⟩ := F.ns
      obtain ⟨x, hx, r⟩ := hv n i v hΓ hk' e
      exact wpAny_loadName_local F.kind hk' hn.1 hx ⟨φ, .refl R, r⟩
    · have hk' : env.kindOf n = some .cell := by unfold Env.kindOf; rw [F.sc]; exact hk
      obtain ⟨c, ov, hc, hcell, hv⟩ := F.cell n i hΓ hk'
      obtain ⟨x, rfl, r⟩ := hv v e
      exact wpAny_loadName_cell F.kind hk' hc hcell.is ⟨φ, .refl R, r⟩
  · exact .fail

theorem Stk.but {l : List Env} {a : Addr} {o : Obj} (S : Stk T φ η l h) (g : h.get? a = some o) (k : ∀ b o, b ≠ a → h.get? b = some o → h'.get? b = some o)
    (hn : o.cls = .type "frame" → ∃ o', h'.get? a = some o' ∧ o'.cls = .type "frame" ∧ ∃ es n, o'.data = .dict es n) : Stk T φ η l h' := fun env he => by
  obtain ⟨hk, L, o₁, hf, hb, ho, hg, hc, es, n, hd⟩ := S env he
  by_cases e : L = a
  · subst e
    rw [g] at hg; cases hg
    obtain ⟨o', e', hc', hd'⟩ := hn hc
    exact ⟨hk, L, o', hf, hb, ho, e', hc', hd'⟩
  · exact ⟨hk, L, o₁, hf, hb, ho, k L o₁ e hg, hc, es, n, hd⟩

theorem getElem?_set_some {i j : Nat} {o : Option V} {v : V} (e : (ρ.set i o)[j]? = some (some v)) : (j = i ∧ o = some v) ∨ (j ≠ i ∧ ρ[j]? = some (some v)) := by
  by_cases h : i = j
  · subst h
    by_cases hl : i < ρ.length
    · rw [List.getElem?_set_self hl] at e; cases e; exact .inl ⟨rfl, rfl⟩
    · rw [List.getElem?_eq_none (by simp; omega)] at e; cases e
  · rw [List.getElem?_set_ne h] at e; exact .inr ⟨Ne.symm h, e⟩

/-- a name gets a value -/
theorem FS.store {A₂ : Around} {n : Str} {i : Nat} {v : V} {x : Value} {Q : Unit → Shared → Prop} {E : Value → Shared → Prop} (F : FS cw T A L φ₀ η₀ s₀ φ η s env sc Γ ρ) (hΓ : Γ.lookup n = some i) (hk : sc.names.lookup n = some .local ∨ (sc.names.lookup n = some .cell ∧ cw = true))
    (r : VR T φ (own φ η) s.heap v x) (h : ∀ s', FS cw T A L φ₀ η₀ s₀ φ η s' env sc Γ (ρ.set i (some v)) → (∀ b o, b ≠ env.locals → (∀ n c, env.cells.lookup n = some c → b ≠ c) → s.heap.get? b = some o → s'.heap.get? b = some o) → (∀ b o, s.heap.get? b = some o → (s'.heap.get? b).isSome = true) → (∀ (w : List V) y, VRs T φ (own φ η) s.heap w y → VRs T φ (own φ η) s'.heap w y) → Q () s') : wpAny T.M A₂ (storeName env n x) Q E s := by
  rcases hk with hk | ⟨hk, hcw⟩
  · have hk' : env.kindOf n = some .local := by unfold Env.kindOf; rw [F.fr.sc]; exact hk
    obtain ⟨c, m, hn, hc, hv⟩ := F.fr.ns
    obtain ⟨hns, o, g, ho⟩ := id hn
    have hp : (env.scope.kind == .class || (env.scope.kind == .module && env.locals != env.globals)) = false := by rw [F.fr.kind]; rfl
    have pv : Priv o := ⟨c, ho, by rcases hc with rfl | rfl <;> decide, by rcases hc with rfl | rfl <;> decide⟩
    rw [storeName_local hk' hp]
    refine nsSet_at hn fun h' hn' hs => h _ ?_ (fun b o hb _ e => (hs.2 b hb).trans e) (fun b o e => ?_) (fun w y r => VRs.but g pv (fun b o hb e => (hs.2 b hb).trans e) _ _ r)
    rotate_left
    · by_cases hb : b = env.locals
      · obtain ⟨_, o', e', _⟩ := hn'
        rw [hb, e']; rfl
      · rw [hs.2 b hb, e]; rfl
    have k : ∀ b o, b ≠ env.locals → s.heap.get? b = some o → h'.get? b = some o := fun b o hb e => (hs.2 b hb).trans e
    have notc : ∀ n c, env.cells.lookup n = some c → c ≠ env.locals := fun n c e q => by
      obtain ⟨ov, o', e', _, hd'⟩ := F.fr.cthere n c e
      obtain ⟨o₁, es, ep, e₁, hd₁, _⟩ := hns
      rw [q, e₁] at e'; cases e'; rw [hd₁] at hd'; cases hd'
    refine ⟨F.post.but F.l0 g pv F.fr.lfresh.1 F.fr.lfresh.2 k, ⟨F.fr.sc, F.fr.kind, F.fr.glob, F.fr.bi, F.fr.frame, ⟨c, _, hn', hc, fun n' j w h1 h2 h3 => ?_⟩, fun n' j h1 h2 => ?_, F.fr.lfresh, fun n' c' e => ?_, F.fr.cfresh, F.fr.apart, F.fr.inj⟩, ?_, F.l0, F.c0⟩
    · rcases getElem?_set_some h3 with ⟨hj, hw⟩ | ⟨hj, hw⟩
      · cases hw
        have : n' = n := F.fr.inj n' n j h1 (hj ▸ hΓ)
        subst this
        exact ⟨x, by simp, VR.but g pv k _ _ r⟩
      · obtain ⟨y, hy, ry⟩ := hv n' j w h1 h2 hw
        have hne : n' ≠ n := fun q => by rw [q, hΓ] at h1; cases h1; exact hj rfl
        exact ⟨y, by simp [hne, hy], VR.but g pv k _ _ ry⟩
    · obtain ⟨c', ov, e, hc', hv'⟩ := F.fr.cell n' j h1 h2
      obtain ⟨o', e', hc'', hd'⟩ := hc'
      refine ⟨c', ov, e, ⟨o', k c' o' (notc n' c' e) e', hc'', hd'⟩, fun w hw => ?_⟩
      rcases getElem?_set_some hw with ⟨hj, hw⟩ | ⟨hj, hw⟩
      · have : n' = n := F.fr.inj n' n j h1 (hj ▸ hΓ)
        subst this; rw [hk'] at h2; cases h2
      · obtain ⟨y, hy, ry⟩ := hv' w hw
        exact ⟨y, hy, VR.but g pv k _ _ ry⟩
    · obtain ⟨ov, o', e', hc'', hd'⟩ := F.fr.cthere n' c' e
      exact ⟨ov, o', k c' o' (notc n' c' e) e', hc'', hd'⟩
    · obtain ⟨t, u, h1, h2, h3⟩ := F.stk
      refine ⟨t, u, h1, h2, h3.but g k fun q => ?_⟩
      obtain ⟨⟨o₁, es, ep, e₁, hd₁, _⟩, o₂, e₂, hc₂⟩ := hn'
      rw [e₁] at e₂; cases e₂
      exact ⟨o₁, e₁, by rw [hc₂, ← ho, q], es, ep, hd₁⟩
  · have hk' : env.kindOf n = some .cell := by unfold Env.kindOf; rw [F.fr.sc]; exact hk
    obtain ⟨c, ov, hc, ⟨o, g, hcl, hd⟩, hv⟩ := F.fr.cell n i hΓ hk'
    have pv : Priv o := ⟨"cell", hcl, by decide, by decide⟩
    unfold storeName
    simp only [hk', F.fr.kind]
    refine wpAny_bind (wpAny_cellOf hc ?_)
    unfold cellSet
    refine wpAny_bind (wpAny_load g ?_)
    rw [hd]
    refine wpAny_update g (h _ ?_ (fun b o' hb hcb e => (Heap.get?_update_other _ _ (Ne.symm (hcb n c hc))).trans e) (fun b o' e => ?_) (fun w y r => VRs.but g pv (fun b o' hb e => (Heap.get?_update_other _ _ (Ne.symm hb)).trans e) _ _ r))
    rotate_left
    · by_cases hb : b = c
      · rw [hb, Heap.get?_update_self (fun o => { o with data := Data.cell (some x) }) g rfl]; rfl
      · rw [show (s.heap.update c fun o => { o with data := .cell (some x) }).get? b = s.heap.get? b from Heap.get?_update_other _ _ (Ne.symm hb), e]; rfl
    have k : ∀ b o', b ≠ c → s.heap.get? b = some o' → (s.heap.update c fun o => { o with data := .cell (some x) }).get? b = some o' := fun b o' hb e => (Heap.get?_update_other _ _ (Ne.symm hb)).trans e
    have gc : (s.heap.update c fun o => { o with data := .cell (some x) }).get? c = some { o with data := .cell (some x) } := Heap.get?_update_self _ g rfl
    obtain ⟨cc, m, hn, hcc, hvn⟩ := F.fr.ns
    have notl : env.locals ≠ c := fun q => by
      obtain ⟨⟨o₁, es, ep, e₁, hd₁, _⟩, _⟩ := hn
      rw [q, g] at e₁; cases e₁; rw [hd₁] at hd; cases hd
    refine ⟨F.post.but (t := s.toks) (F.c0 hcw n c hc) g pv (F.fr.cfresh n c hc).1 (F.fr.cfresh n c hc).2 k, ⟨F.fr.sc, F.fr.kind, F.fr.glob, F.fr.bi, F.fr.frame, ⟨cc, m, ?_, hcc, fun n' j w h1 h2 h3 => ?_⟩, fun n' j h1 h2 => ?_, F.fr.lfresh, fun n' c' e => ?_, F.fr.cfresh, F.fr.apart, F.fr.inj⟩, ?_, F.l0, F.c0⟩
    · obtain ⟨⟨o₁, es, ep, e₁, r₁⟩, o₂, e₂, hc₂⟩ := hn
      exact ⟨⟨o₁, es, ep, k _ _ notl e₁, r₁⟩, o₂, k _ _ notl e₂, hc₂⟩
    · rcases getElem?_set_some h3 with ⟨hj, hw⟩ | ⟨hj, hw⟩
      · have : n' = n := F.fr.inj n' n j h1 (hj ▸ hΓ)
        subst this; rw [hk'] at h2; cases h2
      · obtain ⟨y, hy, ry⟩ := hvn n' j w h1 h2 hw
        exact ⟨y, hy, VR.but g pv k _ _ ry⟩
    · by_cases hne : n' = n
      · subst hne
        refine ⟨c, some x, hc, ⟨_, gc, hcl, rfl⟩, fun w hw => ?_⟩
        rw [hΓ] at h1; cases h1
        rcases getElem?_set_some hw with ⟨_, hw⟩ | ⟨hj, _⟩
        · cases hw; exact ⟨x, rfl, VR.but g pv k _ _ r⟩
        · exact absurd rfl hj
      · obtain ⟨c', ov', e, ⟨o', e', hc'', hd'⟩, hv'⟩ := F.fr.cell n' j h1 h2
        have hcc' : c' ≠ c := fun q => hne (F.fr.apart n' n c (q ▸ e) hc)
        refine ⟨c', ov', e, ⟨o', k c' o' hcc' e', hc'', hd'⟩, fun w hw => ?_⟩
        rcases getElem?_set_some hw with ⟨hj, _⟩ | ⟨_, hw⟩
        · exact absurd (F.fr.inj n' n j h1 (hj ▸ hΓ)) hne
        · obtain ⟨y, hy, ry⟩ := hv' w hw
          exact ⟨y, hy, VR.but g pv k _ _ ry⟩
    · by_cases hcc' : c' = c
      · subst hcc'; exact ⟨some x, _, gc, hcl, rfl⟩
      · obtain ⟨ov', o', e', hc'', hd'⟩ := F.fr.cthere n' c' e
        exact ⟨ov', o', k c' o' hcc' e', hc'', hd'⟩
    · obtain ⟨t, u, h1, h2, h3⟩ := F.stk
      exact ⟨t, u, h1, h2, h3.but g k fun q => by rw [hcl] at q; simp at q⟩
end
end Mine
end
section
set_option bootstrap.genMatcherCode false
set_option backward.match.sparseCases false
namespace Mine
section
open PySem PyProof.Rows

/-- names of what the program's numbers stand for -/
structure Nm where
  fnm : List Str
  clm : List Str
  exm : List Str
  glm : List Str
  glv : List V
  tbm : List Str
  atm : List Str
  mtm : List (Nat × Str)
  /-- the classes' functions: number, class, name -/
  cfm : List (Nat × Nat × Str) := []
  /-- with classes, exceptions, enumerate -/
  ext : Bool

noncomputable def isLoc (sc : Scope) (n : Str) : Bool := (sc.names.lookup n == some .local || sc.names.lookup n == some .cell) && !(n == ("__debug__" : Str))
noncomputable def isGlo (sc : Scope) (n : Str) : Bool := sc.names.lookup n == some .globalImplicit && !(n == ("__debug__" : Str))
noncomputable def atName (l : List Str) (i : Nat) (n : Str) : Bool := l[i]? == some n && !(n == ("" : Str))

noncomputable def constEq : V → V → Bool
  | .none, .none => true
  | .bool a, .bool b => a == b
  | .int a, .int b => a == b
  | .str a, .str b => a == b
  | _, _ => false
noncomputable def constOk : V → Const → Bool
  | .none, .none => true
  | .bool a, .bool b => a == b
  | .int a, .int b => a == b
  | .str a, .str b => b.cps.toList == a
  | _, _ => false
noncomputable def biName : Bi → Str
  | .len => "len" | .int => "int" | .str => "str" | .tuple => "tuple" | .sorted => "sorted" | .min => "min" | .max => "max"
noncomputable def bmName : Bm → Str
  | .append => "append" | .pop => "pop" | .remove => "remove" | .index => "index" | .count => "count" | .join => "join" | .split => "split"
noncomputable def tyName (N : Nm) : Ty → Option Str
  | .int => some "int" | .bool => some "bool" | .str => some "str" | .tuple => some "tuple" | .list => some "list" | .valueError => some "ValueError"
  | .cls c => (N.exm[c]?).filter fun n => !(n == ("" : Str))

noncomputable def relabelS (csc sc : Scope) : Scope :=
  { csc with names := csc.names.map fun (n, k) => if (k == .free && sc.kind == .function && sc.names.lookup n == some .cell) then (n, .cell) else (n, k) }
/-- a comprehension's scope -/
noncomputable def compOk (csc sc : Scope) (n : Str) (Γ : Gam) (x : Nat) : Bool :=
  csc.kind == .function && csc.names.all (fun p => !(p.2 == .cell)) && csc.names.all (fun p => !(p.2 == .local) || csc.names.lookup p.1 == some .local) && csc.names.lookup n == some .local
    && csc.names.all (fun p => !(p.2 == .free) || (sc.kind == .function && sc.names.lookup p.1 == some .cell && (csc.names.lookup p.1 == some .free) && (Γ.lookup p.1).isSome))
    && Γ.all (fun p => !(p.2 == x)) && csc.names.all (fun p => !(p.2 == .local) || p.1 == n || (Γ.lookup p.1).isNone)
noncomputable def notSet : Expr → Bool
  | .Set .. => false
  | _ => true
noncomputable def notSlice : Expr → Bool
  | .Slice .. => false
  | _ => true
noncomputable def notComp : Expr → Bool
  | .ListComp .. | .SetComp .. | .DictComp .. => false
  | _ => true
noncomputable def isComp : E → Bool
  | .comp .. => true
  | _ => false
noncomputable def plainTest (e : E) : Expr → Bool
  | .UnaryOp .. | .BoolOp .. | .IfExp .. => false
  | .Compare .. => match e with | .cmp .. | .cmp2 .. | .inTab .. => true | _ => false
  | _ => true
noncomputable def isNoneE : E → Bool
  | .const .none => true
  | _ => false
/-- nothing of super() -/
noncomputable def notSuper : Expr → Bool
  | .Call (.Name id _) [] [] _ => !(id == ("super" : Str))
  | _ => true

-- views of an expression
noncomputable def asNameP : (x : Expr) → Option { n : Str // ∃ p, x = .Name n p }
  | .Name n z0 => some ⟨n, z0, rfl⟩
  | _ => none
noncomputable def asName (x : Expr) : Option (Str) := (asNameP x).map Subtype.val
noncomputable def asConstP : (x : Expr) → Option { n : Const // ∃ k p, x = .Constant n k p }
  | .Constant c z0 z1 => some ⟨c, z0, z1, rfl⟩
  | _ => none
noncomputable def asConst (x : Expr) : Option (Const) := (asConstP x).map Subtype.val
noncomputable def asNegP : (x : Expr) → Option { j : Int // ∃ k p p', x = .UnaryOp .USub (.Constant (.int j) k p) p' }
  | .UnaryOp .USub (.Constant (.int j) z0 z1) z2 => some ⟨j, z0, z1, z2, rfl⟩
  | _ => none
noncomputable def asNeg (x : Expr) : Option (Int) := (asNegP x).map Subtype.val
noncomputable def asBinP : (x : Expr) → Option { q : Expr × Operator × Expr // ∃ p, x = .BinOp q.1 q.2.1 q.2.2 p }
  | .BinOp l o r z0 => some ⟨(l, o, r), z0, rfl⟩
  | _ => none
noncomputable def asBin (x : Expr) : Option (Expr × Operator × Expr) := (asBinP x).map Subtype.val
noncomputable def asNotP : (x : Expr) → Option { y : Expr // ∃ p, x = .UnaryOp .Not y p }
  | .UnaryOp .Not x z0 => some ⟨x, z0, rfl⟩
  | _ => none
noncomputable def asNot (x : Expr) : Option (Expr) := (asNotP x).map Subtype.val
noncomputable def asAndP : (x : Expr) → Option { y : List Expr // ∃ p, x = .BoolOp .And y p }
  | .BoolOp .And vs z0 => some ⟨vs, z0, rfl⟩
  | _ => none
noncomputable def asAnd (x : Expr) : Option (List Expr) := (asAndP x).map Subtype.val
noncomputable def asOrP : (x : Expr) → Option { y : List Expr // ∃ p, x = .BoolOp .Or y p }
  | .BoolOp .Or vs z0 => some ⟨vs, z0, rfl⟩
  | _ => none
noncomputable def asOr (x : Expr) : Option (List Expr) := (asOrP x).map Subtype.val
noncomputable def asCmpP : (x : Expr) → Option { q : Expr × List CmpOp × List Expr // ∃ p, x = .Compare q.1 q.2.1 q.2.2 p }
  | .Compare l os rs z0 => some ⟨(l, os, rs), z0, rfl⟩
  | _ => none
noncomputable def asCmp (x : Expr) : Option (Expr × List CmpOp × List Expr) := (asCmpP x).map Subtype.val
noncomputable def asIfP : (x : Expr) → Option { q : Expr × Expr × Expr // ∃ p, x = .IfExp q.1 q.2.1 q.2.2 p }
  | .IfExp t x y z0 => some ⟨(t, x, y), z0, rfl⟩
  | _ => none
noncomputable def asIf (x : Expr) : Option (Expr × Expr × Expr) := (asIfP x).map Subtype.val
noncomputable def asCallP : (x : Expr) → Option { q : Str × List Expr // ∃ p p', x = .Call (.Name q.1 p) q.2 [] p' }
  | .Call (.Name n z0) as [] z1 => some ⟨(n, as), z0, z1, rfl⟩
  | _ => none
noncomputable def asCall (x : Expr) : Option (Str × List Expr) := (asCallP x).map Subtype.val
noncomputable def asMethP : (x : Expr) → Option { q : Expr × Str × Bool × List Expr // ∃ p p', x = .Call (.Attribute q.1 q.2.1 p) q.2.2.2 [] p' ∧ q.2.2.1 = (p.endLine == p'.line) }
  | .Call (.Attribute x name apos) as [] pos => some ⟨(x, name, apos.endLine == pos.line, as), apos, pos, rfl, rfl⟩
  | _ => none
noncomputable def asMeth (x : Expr) : Option (Expr × Str × Bool × List Expr) := (asMethP x).map Subtype.val
noncomputable def asAttrP : (x : Expr) → Option { q : Expr × Str // ∃ p, x = .Attribute q.1 q.2 p }
  | .Attribute o n z0 => some ⟨(o, n), z0, rfl⟩
  | _ => none
noncomputable def asAttr (x : Expr) : Option (Expr × Str) := (asAttrP x).map Subtype.val
noncomputable def asSubP : (x : Expr) → Option { q : Expr × Expr // ∃ p, x = .Subscript q.1 q.2 p }
  | .Subscript x i z0 => some ⟨(x, i), z0, rfl⟩
  | _ => none
noncomputable def asSub (x : Expr) : Option (Expr × Expr) := (asSubP x).map Subtype.val
noncomputable def asSliceP : (x : Expr) → Option { q : Option Expr × Option Expr // ∃ p, x = .Slice q.1 q.2 none p }
  | .Slice l u none z0 => some ⟨(l, u), z0, rfl⟩
  | _ => none
noncomputable def asSlice (x : Expr) : Option (Option Expr × Option Expr) := (asSliceP x).map Subtype.val
noncomputable def asPairP : (x : Expr) → Option { q : Str × Str // ∃ p p' k pt, x = .Tuple [.Name q.1 p, .Name q.2 p'] k pt }
  | .Tuple [.Name a p, .Name b p'] k pt => some ⟨(a, b), p, p', k, pt, rfl⟩
  | _ => none
noncomputable def asPair (x : Expr) : Option (Str × Str) := (asPairP x).map Subtype.val
noncomputable def asListP : (x : Expr) → Option { q : List Expr // ∃ p, x = .List q p }
  | .List xs z0 => some ⟨xs, z0, rfl⟩
  | _ => none
noncomputable def asList (x : Expr) : Option (List Expr) := (asListP x).map Subtype.val
noncomputable def asTupleP : (x : Expr) → Option { q : List Expr // ∃ k p, x = .Tuple q k p }
  | .Tuple xs z0 z1 => some ⟨xs, z0, z1, rfl⟩
  | _ => none
noncomputable def asTuple (x : Expr) : Option (List Expr) := (asTupleP x).map Subtype.val
noncomputable def asCompP : (x : Expr) → Option { q : Expr × Str × Expr × List Expr × Scope // ∃ p p', x = .ListComp q.1 [⟨.Name q.2.1 p, q.2.2.1, q.2.2.2.1, 0⟩] q.2.2.2.2 p' }
  | .ListComp e [⟨.Name n z0, iter, tests, 0⟩] csc z1 => some ⟨(e, n, iter, tests, csc), z0, z1, rfl⟩
  | _ => none
noncomputable def asComp (x : Expr) : Option (Expr × Str × Expr × List Expr × Scope) := (asCompP x).map Subtype.val
noncomputable def asDict0P : (x : Expr) → Option { q : Unit // ∃ p, x = .Dict [] [] p }
  | .Dict [] [] z0 => some ⟨(), z0, rfl⟩
  | _ => none
noncomputable def asDict0 (x : Expr) : Option (Unit) := (asDict0P x).map Subtype.val
noncomputable def one {α : Type} : List α → Option α
  | [x] => some x
  | _ => none
noncomputable def two {α : Type} : List α → Option (α × α)
  | [x, y] => some (x, y)
  | _ => none

mutual
noncomputable def chkE (N : Nm) (sc : Scope) (Γ : Gam) : E → Expr → Bool
  | .var i, x => (asName x).any fun n => Γ.lookup n == some i && isLoc sc n
  | .const v, x => (asConst x).any (constOk v) || (asNeg x).any fun j => constEq v (.int (-j))
  | .glob g v, x => (asName x).any fun n => atName N.glm g n && isGlo sc n && (N.glv[g]?).any (constEq v)
  | .bin op a b, x => (asBin x).any fun p => opOf op == p.2.1 && chkE N sc Γ a p.1 && chkE N sc Γ b p.2.2
  | .rep a b, x => (asBin x).any fun p => p.2.1 == .Mult && chkE N sc Γ a p.1 && chkE N sc Γ b p.2.2
  | .not a, x => (asNot x).any (chkE N sc Γ a)
  | .and es, x => (asAnd x).any (chkEs N sc Γ es)
  | .or es, x => (asOr x).any (chkEs N sc Γ es)
  | .cmp op a b, x => (asCmp x).any fun p => (one p.2.1).any fun o => (one p.2.2).any fun r => copOf op == o && notSet r && chkE N sc Γ a p.1 && chkE N sc Γ b r
  | .cmp2 o1 o2 a b c, x => (asCmp x).any fun p => (two p.2.1).any fun o => (two p.2.2).any fun r => copOf o1 == o.1 && copOf o2 == o.2 && notSet r.2 && chkE N sc Γ a p.1 && chkE N sc Γ b r.1 && chkE N sc Γ c r.2
  | .ite c a b, x => (asIf x).any fun p => chkC N sc Γ c p.1 && chkE N sc Γ a p.2.1 && chkE N sc Γ b p.2.2
  | .call f args, x => (asCall x).any fun p => atName N.fnm f p.1 && isGlo sc p.1 && chkEs N sc Γ args p.2
  | .new c args, x => (asCall x).any fun p => atName N.clm c p.1 && isGlo sc p.1 && chkEs N sc Γ args p.2
  | .meth o m args, x => (asMeth x).any fun p => N.mtm.lookup m == some p.2.1 && p.2.2.1 && decide (p.2.2.2.length < 30) && notSuper p.1 && chkE N sc Γ o p.1 && chkEs N sc Γ args p.2.2.2
  | .bi b args, x => (asCall x).any fun p => biName b == p.1 && isGlo sc p.1 && chkEs N sc Γ args p.2
  | .bm m o args, x => (asMeth x).any fun p => bmName m == p.2.1 && p.2.2.1 && decide (p.2.2.2.length < 30) && notSuper p.1 && chkE N sc Γ o p.1 && chkEs N sc Γ args p.2.2.2
  | .isinst a t, x => (asCall x).any fun p => p.1 == ("isinstance" : Str) && isGlo sc p.1 && (two p.2).any fun r => (asName r.2).any fun tn => tyName N t == some tn && isGlo sc tn && chkE N sc Γ a r.1
  | .toList _ a, x => (asCall x).any fun p => p.1 == ("list" : Str) && isGlo sc p.1 && (one p.2).any (chkE N sc Γ a)
  | .attr a k, x => (asAttr x).any fun p => atName N.atm k p.2 && notSuper p.1 && chkE N sc Γ a p.1
  | .sub a b, x => (asSub x).any fun p => notSlice p.2 && chkE N sc Γ a p.1 && chkE N sc Γ b p.2
  | .slice _ a lo hi, x => (asSub x).any fun p => chkE N sc Γ a p.1 && (asSlice p.2).any fun r => (r.1.elim (isNoneE lo) (chkE N sc Γ lo)) && (r.2.elim (isNoneE hi) (chkE N sc Γ hi))
  | .list _ es, x => (asList x).any fun xs => decide (xs.length ≤ 1000) && chkEs N sc Γ es xs
  | .tuple es, x => (asTuple x).any fun xs => decide (xs.length ≤ 1000) && chkEs N sc Γ es xs
  | .comp _ x elt it ifs, y => (asComp y).any fun p => compOk p.2.2.2.2 sc p.2.1 Γ x && chkIt N sc Γ it p.2.2.1 && chkE N (relabelS p.2.2.2.2 sc) ((p.2.1, x) :: Γ) elt p.1 && chkCs N (relabelS p.2.2.2.2 sc) ((p.2.1, x) :: Γ) ifs p.2.2.2.1
  | .dict0 _, x => (asDict0 x).any fun _ => true
  | .freeze a, e => chkE N sc Γ a e
  | .inTab neg t a, x => (asCmp x).any fun p => (one p.2.1).any fun o => (one p.2.2).any fun r => (asName r).any fun n => o == (if neg then .NotIn else .In) && atName N.tbm t n && isGlo sc n && chkE N sc Γ a p.1
  | .subTab t a, x => (asSub x).any fun p => (asName p.1).any fun n => notSlice p.2 && atName N.tbm t n && isGlo sc n && chkE N sc Γ a p.2
/-- what a loop goes over -/
noncomputable def chkIt (N : Nm) (sc : Scope) (Γ : Gam) : It → Expr → Bool
  | .range1 a, x => notSet x && (asCall x).any fun p => p.1 == ("range" : Str) && isGlo sc p.1 && (one p.2).any (chkE N sc Γ a)
  | .range2 a b, x => notSet x && (asCall x).any fun p => p.1 == ("range" : Str) && isGlo sc p.1 && (two p.2).any fun r => chkE N sc Γ a r.1 && chkE N sc Γ b r.2
  | .of e, x => notSet x && chkE N sc Γ e x
noncomputable def chkEs (N : Nm) (sc : Scope) (Γ : Gam) : List E → List Expr → Bool
  | [], x => x.isEmpty
  | e :: es, x => x.head?.any (chkE N sc Γ e) && chkEs N sc Γ es x.tail
noncomputable def chkC (N : Nm) (sc : Scope) (Γ : Gam) : C → Expr → Bool
  | .not c, x => (asNot x).any (chkC N sc Γ c)
  | .and cs, x => (asAnd x).any (chkCs N sc Γ cs)
  | .or cs, x => (asOr x).any (chkCs N sc Γ cs)
  | .t e, x => plainTest e x && chkE N sc Γ e x
noncomputable def chkCs (N : Nm) (sc : Scope) (Γ : Gam) : List C → List Expr → Bool
  | [], x => x.isEmpty
  | e :: es, x => x.head?.any (chkC N sc Γ e) && chkCs N sc Γ es x.tail
end

noncomputable def asAssignP : (x : Stmt) → Option { q : Expr × Expr // ∃ p, x = .Assign [q.1] q.2 p }
  | .Assign [t] v z0 => some ⟨(t, v), z0, rfl⟩
  | _ => none
noncomputable def asAssign (x : Stmt) : Option (Expr × Expr) := (asAssignP x).map Subtype.val
noncomputable def asExprSP : (x : Stmt) → Option { q : Expr // ∃ p, x = .Expr q p }
  | .Expr v z0 => some ⟨v, z0, rfl⟩
  | _ => none
noncomputable def asExprS (x : Stmt) : Option (Expr) := (asExprSP x).map Subtype.val
noncomputable def asIfSP : (x : Stmt) → Option { q : Expr × List Stmt × List Stmt // ∃ p, x = .If q.1 q.2.1 q.2.2 p }
  | .If t x y z0 => some ⟨(t, x, y), z0, rfl⟩
  | _ => none
noncomputable def asIfS (x : Stmt) : Option (Expr × List Stmt × List Stmt) := (asIfSP x).map Subtype.val
noncomputable def asForP : (x : Stmt) → Option { q : Expr × Expr × List Stmt // ∃ p, x = .For q.1 q.2.1 q.2.2 [] p }
  | .For t iter b [] z0 => some ⟨(t, iter, b), z0, rfl⟩
  | _ => none
noncomputable def asFor (x : Stmt) : Option (Expr × Expr × List Stmt) := (asForP x).map Subtype.val
noncomputable def asWhileP : (x : Stmt) → Option { q : Expr × List Stmt // ∃ p, x = .While q.1 q.2 [] p }
  | .While t b [] z0 => some ⟨(t, b), z0, rfl⟩
  | _ => none
noncomputable def asWhile (x : Stmt) : Option (Expr × List Stmt) := (asWhileP x).map Subtype.val
noncomputable def asRetP : (x : Stmt) → Option { q : Expr // ∃ p, x = .Return (some q) p }
  | .Return (some v) z0 => some ⟨v, z0, rfl⟩
  | _ => none
noncomputable def asRet (x : Stmt) : Option (Expr) := (asRetP x).map Subtype.val
noncomputable def asRaiseP : (x : Stmt) → Option { n : Str // ∃ np m k mp cp pos, x = .Raise (some (.Call (.Name n np) [.Constant (.str m) k mp] [] cp)) none pos }
  | .Raise (some (.Call (.Name n np) [.Constant (.str m) k mp] [] cp)) none pos => some ⟨n, np, m, k, mp, cp, pos, rfl⟩
  | _ => none
noncomputable def asRaise (x : Stmt) : Option Str := (asRaiseP x).map Subtype.val
noncomputable def asTryP : (x : Stmt) → Option { q : List Stmt × List ExceptHandler // ∃ p, x = .Try q.1 q.2 [] [] p }
  | .Try b hs [] [] z0 => some ⟨(b, hs), z0, rfl⟩
  | _ => none
noncomputable def asTry (x : Stmt) : Option (List Stmt × List ExceptHandler) := (asTryP x).map Subtype.val
noncomputable def asHandlerP : (x : ExceptHandler) → Option { q : Str × Option Str × List Stmt // ∃ np p, x = .ExceptHandler (some (.Name q.1 np)) q.2.1 q.2.2 p }
  | .ExceptHandler (some (.Name n z0)) nm b z1 => some ⟨(n, nm, b), z0, z1, rfl⟩
  | _ => none
noncomputable def asHandler (x : ExceptHandler) : Option (Str × Option Str × List Stmt) := (asHandlerP x).map Subtype.val
noncomputable def hNameOk (sc : Scope) (Γ : Gam) : Option Nat → Option Str → Bool
  | none, none => true
  | some i, some y => Γ.lookup y == some i && sc.names.lookup y == some .local
  | _, _ => false
mutual
noncomputable def chkS (N : Nm) (sc : Scope) (Γ : Gam) : S → Stmt → Bool
  | .assign x e, z => (asAssign z).any fun p => (asName p.1).any fun n => Γ.lookup n == some x && isLoc sc n && chkE N sc Γ e p.2 && (notComp p.2 || isComp e)
  | .setattr o k e, z => (asAssign z).any fun p => (asAttr p.1).any fun r => atName N.atm k r.2 && notComp p.2 && chkE N sc Γ o r.1 && chkE N sc Γ e p.2
  | .setsub o i e, z => (asAssign z).any fun p => (asSub p.1).any fun r => notSlice r.2 && notComp p.2 && chkE N sc Γ o r.1 && chkE N sc Γ i r.2 && chkE N sc Γ e p.2
  | .expr e, z => (asExprS z).any fun v => notComp v && chkE N sc Γ e v
  | .ite c a b, z => (asIfS z).any fun p => chkC N sc Γ c p.1 && chkSs N sc Γ a p.2.1 && chkSs N sc Γ b p.2.2
  | .for1 x it body, z => (asFor z).any fun p => (asName p.1).any fun n => Γ.lookup n == some x && isLoc sc n && chkIt N sc Γ it p.2.1 && chkSs N sc Γ body p.2.2
  | .for2 x y it body, z => (asFor z).any fun p => (asPair p.1).any fun n => (asCall p.2.1).any fun c => Γ.lookup n.1 == some x && isLoc sc n.1 && Γ.lookup n.2 == some y && isLoc sc n.2 && c.1 == ("enumerate" : Str) && isGlo sc c.1 && (one c.2).any (chkE N sc Γ it) && chkSs N sc Γ body p.2.2
  | .while c body, z => (asWhile z).any fun p => chkC N sc Γ c p.1 && chkSs N sc Γ body p.2
  | .ret e, z => (asRet z).any (chkE N sc Γ e)
  | .raise c _, z => (asRaise z).any fun n => atName N.exm c n && isGlo sc n
  | .try body hs, z => (asTry z).any fun p => chkSs N sc Γ body p.1 && !p.2.isEmpty && chkHs N sc Γ hs p.2
noncomputable def chkHs (N : Nm) (sc : Scope) (Γ : Gam) : List (Nat × Option Nat × List S) → List ExceptHandler → Bool
  | [], x => x.isEmpty
  | (k, x, b) :: r, y => (y.head?.any fun h => (asHandler h).any fun p => atName N.exm k p.1 && isGlo sc p.1 && hNameOk sc Γ x p.2.1 && !p.2.2.isEmpty && chkSs N sc Γ b p.2.2) && chkHs N sc Γ r y.tail
noncomputable def chkSs (N : Nm) (sc : Scope) (Γ : Gam) : List S → List Stmt → Bool
  | [], x => x.isEmpty
  | s :: ss, x => x.head?.any (chkS N sc Γ s) && chkSs N sc Γ ss x.tail
end

noncomputable def parNames (p : Arguments) : List Str := p.args.map (·.arg)
noncomputable def parOk (sc : Scope) (Γ : Gam) : Nat → List Str → Bool
  | _, [] => true
  | k, n :: r => Γ.lookup n == some k && isLoc sc n && !(r.contains n) && parOk sc Γ (k + 1) r
noncomputable def nodupN : List Nat → Bool
  | [] => true
  | k :: r => !(r.contains k) && nodupN r
noncomputable def isNoneV : Value → Bool
  | .none => true
  | _ => false
/-- a function's text -/
noncomputable def chkF (N : Nm) (F : Fn) (Γ : Gam) (fd : FuncData) : Bool :=
  (match fd.body with | .stmts b => chkSs N fd.scope Γ F.body b | _ => false) && fd.scope.kind == .function && !fd.scope.isGenerator && !fd.scope.isCoroutine
    && fd.closure.isEmpty && fd.globals == mainGlobals && fd.builtins == builtinsNs
    && fd.params.posonlyargs.isEmpty && fd.params.vararg.isNone && fd.params.kwonlyargs.isEmpty && fd.params.kwarg.isNone
    && (parNames fd.params).length == F.npar && parOk fd.scope Γ 0 (parNames fd.params) && nodupN (Γ.map (·.2)) && decide (F.npar ≤ F.nloc) && isNoneV fd.defaults
end
end Mine
end
section
namespace Mine
open PySem PyProof.Rows

theorem any_some {α : Type} {o : Option α} {f : α → Bool} (h : o.any f = true) : ∃ a, o = some a ∧ f a = true := by
  cases o with
  | none => cases h
  | some a => exact ⟨a, rfl, h⟩
theorem constEq_eq : ∀ {v w : V}, constEq v w = true → v = w
  | .none, w, h => by cases w <;> first | rfl | exact absurd h Bool.false_ne_true
  | .bool a, w, h => by
    cases w with
    | bool b => exact congrArg V.bool (beq_iff_eq.mp h)
    | _ => exact absurd h Bool.false_ne_true
  | .int a, w, h => by
    cases w with
    | int b => exact congrArg V.int (beq_iff_eq.mp h)
    | _ => exact absurd h Bool.false_ne_true
  | .str a, w, h => by
    cases w with
    | str b => exact congrArg V.str (beq_iff_eq.mp h)
    | _ => exact absurd h Bool.false_ne_true
  | .tup _, w, h => by cases w <;> exact absurd h Bool.false_ne_true
  | .lst _, w, h => by cases w <;> exact absurd h Bool.false_ne_true
  | .dct, w, h => by cases w <;> exact absurd h Bool.false_ne_true
  | .ref _, w, h => by cases w <;> exact absurd h Bool.false_ne_true
  | .exc _, w, h => by cases w <;> exact absurd h Bool.false_ne_true
theorem val_eq {α : Type} {Q : α → Prop} {o : Option (Subtype Q)} {a : α} (h : o.map Subtype.val = some a) : Q a := by
  obtain ⟨s, _, rfl⟩ := Option.map_eq_some_iff.mp h
  exact s.2
theorem one_eq {α : Type} {l : List α} {a : α} (h : one l = some a) : l = [a] := by
  cases l with
  | nil => cases h
  | cons x r => cases r with
    | nil => cases h; rfl
    | cons _ _ => cases h
theorem two_eq {α : Type} {l : List α} {a : α × α} (h : two l = some a) : l = [a.1, a.2] := by
  cases l with
  | nil => cases h
  | cons x r => cases r with
    | nil => cases h
    | cons y r => cases r with
      | nil => cases h; rfl
      | cons _ _ => cases h
theorem asName_eq {x : Expr} {n : Str} (h : asName x = some n) : ∃ p, x = .Name n p := val_eq (o := asNameP x) h
theorem asConst_eq {x : Expr} {n : Const} (h : asConst x = some n) : ∃ k p, x = .Constant n k p := val_eq (o := asConstP x) h
theorem asNeg_eq {x : Expr} {j : Int} (h : asNeg x = some j) : ∃ k p p', x = .UnaryOp .USub (.Constant (.int j) k p) p' := val_eq (o := asNegP x) h
theorem asBin_eq {x : Expr} {q : Expr × Operator × Expr} (h : asBin x = some q) : ∃ p, x = .BinOp q.1 q.2.1 q.2.2 p := val_eq (o := asBinP x) h
theorem asNot_eq {x y : Expr} (h : asNot x = some y) : ∃ p, x = .UnaryOp .Not y p := val_eq (o := asNotP x) h
theorem asAnd_eq {x : Expr} {y : List Expr} (h : asAnd x = some y) : ∃ p, x = .BoolOp .And y p := val_eq (o := asAndP x) h
theorem asOr_eq {x : Expr} {y : List Expr} (h : asOr x = some y) : ∃ p, x = .BoolOp .Or y p := val_eq (o := asOrP x) h
theorem asCmp_eq {x : Expr} {q : Expr × List CmpOp × List Expr} (h : asCmp x = some q) : ∃ p, x = .Compare q.1 q.2.1 q.2.2 p := val_eq (o := asCmpP x) h
theorem asIf_eq {x : Expr} {q : Expr × Expr × Expr} (h : asIf x = some q) : ∃ p, x = .IfExp q.1 q.2.1 q.2.2 p := val_eq (o := asIfP x) h
theorem asCall_eq {x : Expr} {q : Str × List Expr} (h : asCall x = some q) : ∃ p p', x = .Call (.Name q.1 p) q.2 [] p' := val_eq (o := asCallP x) h
theorem asMeth_eq {x : Expr} {q : Expr × Str × Bool × List Expr} (h : asMeth x = some q) : ∃ p p', x = .Call (.Attribute q.1 q.2.1 p) q.2.2.2 [] p' ∧ q.2.2.1 = (p.endLine == p'.line) := val_eq (o := asMethP x) h
theorem asSub_eq {x : Expr} {q : Expr × Expr} (h : asSub x = some q) : ∃ p, x = .Subscript q.1 q.2 p := val_eq (o := asSubP x) h
theorem asSlice_eq {x : Expr} {q : Option Expr × Option Expr} (h : asSlice x = some q) : ∃ p, x = .Slice q.1 q.2 none p := val_eq (o := asSliceP x) h
theorem asList_eq {x : Expr} {q : List Expr} (h : asList x = some q) : ∃ p, x = .List q p := val_eq (o := asListP x) h
theorem asAttr_eq {x : Expr} {q : Expr × Str} (h : asAttr x = some q) : ∃ p, x = .Attribute q.1 q.2 p := val_eq (o := asAttrP x) h
theorem asPair_eq {x : Expr} {q : Str × Str} (h : asPair x = some q) : ∃ p p' k pt, x = .Tuple [.Name q.1 p, .Name q.2 p'] k pt := val_eq (o := asPairP x) h
theorem asTuple_eq {x : Expr} {q : List Expr} (h : asTuple x = some q) : ∃ k p, x = .Tuple q k p := val_eq (o := asTupleP x) h
theorem asComp_eq {x : Expr} {q : Expr × Str × Expr × List Expr × Scope} (h : asComp x = some q) : ∃ p p', x = .ListComp q.1 [⟨.Name q.2.1 p, q.2.2.1, q.2.2.2.1, 0⟩] q.2.2.2.2 p' := val_eq (o := asCompP x) h
theorem asDict0_eq {x : Expr} {q : Unit} (h : asDict0 x = some q) : ∃ p, x = .Dict [] [] p := val_eq (o := asDict0P x) h
theorem asAssign_eq {x : Stmt} {q : Expr × Expr} (h : asAssign x = some q) : ∃ p, x = .Assign [q.1] q.2 p := val_eq (o := asAssignP x) h
theorem asExprS_eq {x : Stmt} {q : Expr} (h : asExprS x = some q) : ∃ p, x = .Expr q p := val_eq (o := asExprSP x) h
theorem asIfS_eq {x : Stmt} {q : Expr × List Stmt × List Stmt} (h : asIfS x = some q) : ∃ p, x = .If q.1 q.2.1 q.2.2 p := val_eq (o := asIfSP x) h
theorem asFor_eq {x : Stmt} {q : Expr × Expr × List Stmt} (h : asFor x = some q) : ∃ p, x = .For q.1 q.2.1 q.2.2 [] p := val_eq (o := asForP x) h
theorem asRet_eq {x : Stmt} {q : Expr} (h : asRet x = some q) : ∃ p, x = .Return (some q) p := val_eq (o := asRetP x) h
theorem asRaise_eq {x : Stmt} {n : Str} (h : asRaise x = some n) : ∃ np m k mp cp pos, x = .Raise (some (.Call (.Name n np) [.Constant (.str m) k mp] [] cp)) none pos := val_eq (o := asRaiseP x) h
theorem asTry_eq {x : Stmt} {q : List Stmt × List ExceptHandler} (h : asTry x = some q) : ∃ p, x = .Try q.1 q.2 [] [] p := val_eq (o := asTryP x) h
theorem asHandler_eq {x : ExceptHandler} {q : Str × Option Str × List Stmt} (h : asHandler x = some q) : ∃ np p, x = .ExceptHandler (some (.Name q.1 np)) q.2.1 q.2.2 p := val_eq (o := asHandlerP x) h
theorem hName {sc : Scope} {Γ : Gam} {x : Option Nat} {nm : Option Str} (h : hNameOk sc Γ x nm = true) : (x = none ∧ nm = none) ∨ ∃ i y, x = some i ∧ nm = some y ∧ Γ.lookup y = some i ∧ sc.names.lookup y = some .local := by
  cases x <;> cases nm
  · exact .inl ⟨rfl, rfl⟩
  · cases h
  · cases h
  · have h := Bool.and_eq_true_iff.mp h
    exact .inr ⟨_, _, rfl, rfl, beq_iff_eq.mp h.1, beq_iff_eq.mp h.2⟩
end Mine
end
section
namespace Mine
open PySem PyProof.Rows

/-- what lies around a step -/
structure Cxt (T : St) (A : Around) (L : Addr) (q : Bool) (d : Nat) (φ : Phi) (η : H) (s : Shared) : Prop where
  hand : q = true → A.handled = none
  depth : A.depth + 4 * d + 4 ≤ recursionLimit
  units : A.units + 20 * d + 20 < cLine
  stk : ∃ top outer, A.frames = some (top :: outer) ∧ top.frame = some L ∧ Stk T φ η (top :: outer) s.heap
  rel : Rel T φ η s.heap

section
variable {T : St} {A : Around} {L : Addr} {q : Bool} {d : Nat} {φ φ' : Phi} {η η' : H} {s s' : Shared} {env : Env} {sc : Scope} {Γ : Gam} {ρ : Rho} {α β : Type}

theorem Cxt.step (X : Cxt T A L q d φ η s) (p : Post T φ η s φ' η' s') : Cxt T A L q d φ' η' s' :=
  ⟨X.hand, X.depth, X.units, let ⟨t, o, h1, h2, h3⟩ := X.stk; ⟨t, o, h1, h2, h3.step p.step⟩, p.rel⟩

theorem Sim.operate {vs : List Value} {t : Sem Value} {r : R β} {Q : QR Value β} (h : Sim T A L φ η s t r Q) : Sim T A L φ η s (PySem.operate vs t) r Q := h.imp id wpAny_operateT
theorem Sim.release {vs ks : List Value} {k : Unit → Sem α} {r : R β} {Q : QR α β} (h : Sim T A L φ η s (k ()) r Q) : Sim T A L φ η s (PySem.release vs ks >>= k) r Q := h.imp id fun h => wpAny_bind (wpAny_release h)
theorem Sim.pureBind {γ : Type} {a : γ} {k : γ → Sem α} {r : R β} {Q : QR α β} (h : Sim T A L φ η s (k a) r Q) : Sim T A L φ η s ((Pure.pure a : Sem γ) >>= k) r Q := h.imp id fun h => wpAny_bind (wpAny_pure h)
theorem Sim.cast {t : Sem α} {r r' : R β} {Q : QR α β} (h : Sim T A L φ η s t r' Q) (e : r = r') : Sim T A L φ η s t r Q := e ▸ h

/-- an expression -/
noncomputable def SimE (T : St) (q : Bool) (d : Nat) (call : Nat → List V → H → R V) (sc : Scope) (Γ : Gam) (e : E) (x : Expr) : Prop :=
  ∀ A L φ η s env ρ, Cxt T A L q d φ η s → FR T φ η s.heap L env sc Γ ρ → Sim T A L φ η s (eval x env) (evE T.P q call e ρ η) (QV T)
noncomputable def SimEs (T : St) (q : Bool) (d : Nat) (call : Nat → List V → H → R V) (sc : Scope) (Γ : Gam) (e : List E) (x : List Expr) : Prop :=
  ∀ A L φ η s env ρ pos, Cxt T A L q d φ η s → FR T φ η s.heap L env sc Γ ρ → Sim T A L φ η s (spliced (backTo pos (starEach x env))) (evEs T.P q call e ρ η) (QVs T)
/-- a test -/
noncomputable def SimC (T : St) (q : Bool) (d : Nat) (call : Nat → List V → H → R V) (sc : Scope) (Γ : Gam) (c : C) (x : Expr) : Prop :=
  ∀ A L φ η s env ρ, Cxt T A L q d φ η s → FR T φ η s.heap L env sc Γ ρ → Sim T A L φ η s (isTrue x env (eval x env)) (evC T.P q call c ρ η) QB

variable {call : Nat → List V → H → R V}

theorem e_const {v : V} {c : Const} {k : Nat} {pos : Pos} (h : constOk v c = true) : SimE T q d call sc Γ (.const v) (.Constant c k pos) := by
  intro A L φ η s env ρ X F
  show Sim T A L φ η s (constValue env c) (.ok v η) (QV T)
  cases v with
  | none => cases c with
    | none => exact .pure X.rel (by simp [QV, VR])
    | _ => cases h
  | bool a => cases c with
    | bool b => rw [eq_of_beq (show (a == b) = true from h)]; exact .pure X.rel (by simp [QV, VR])
    | _ => cases h
  | int a => cases c with
    | int b => rw [eq_of_beq (show (a == b) = true from h)]; exact .ok rfl (wpAny_mkInt ⟨φ, .toks X.rel, by simp [QV, VR]⟩)
    | _ => cases h
  | str a => cases c with
    | str b => rw [← eq_of_beq (show (b.cps.toList == a) = true from h)]; exact .ok rfl (wpAny_mkText ⟨φ, .toks X.rel, by simp only [QV, VR]; exact ⟨s.toks, by cases b; simp⟩⟩)
    | _ => cases h
  | _ => cases c <;> cases h

theorem e_bin {op : Op} {a b : E} {l r : Expr} {pos : Pos} (h1 : SimE T q d call sc Γ a l) (h2 : SimE T q d call sc Γ b r) : SimE T q d call sc Γ (.bin op a b) (.BinOp l (opOf op) r pos) := by
  intro A L φ η s env ρ X F
  rw [eval_BinOp]
  refine Sim.bind (h1 A L φ η s env ρ X F) fun v η' φ' x s' _ p hq => ?_
  refine Sim.bind (Sim.holding (h2 A L φ' η' s' env ρ (X.step p) (F.step p.step))) fun w η'' φ'' y s'' _ p' hq' => ?_
  exact .standAt (.operate (sim_bin op p'.rel (VR.step p'.step _ _ hq) hq'))

theorem truth_some {v : V} {b : Bool} (e : truth η v = some b) : v = .bool b := by
  unfold truth at e
  split at e
  · cases e; rfl
  · cases e

/-- the truth of a value -/
theorem sim_truth {v : V} {x : Value} (R : Rel T φ η s.heap) (r : QV T φ η s.heap v x) : Sim T A L φ η s (truthy x) (match truth η v with | some b => .ok b η | none => .fail) QB := by
  cases e : truth η v with
  | none => exact .fail
  | some b =>
    have := truth_some e; subst this
    simp only [QV, VR] at r; subst r
    exact .ok rfl (wpAny_truthy_bool ⟨φ, .refl R, rfl⟩)

theorem e_not {a : E} {x : Expr} {pos : Pos} (h1 : SimE T q d call sc Γ a x) : SimE T q d call sc Γ (.not a) (.UnaryOp .Not x pos) := by
  intro A L φ η s env ρ X F
  rw [eval_UnaryOp]
  refine Sim.bind (h1 A L φ η s env ρ X F) fun v η' φ' x s' _ p hq => ?_
  refine .standAt (.holding ?_)
  show Sim T A L φ' η' s' (unaryOp .Not x) _ (QV T)
  unfold unaryOp
  refine .holding ?_
  show Sim T A L φ' η' s' (do return .bool (!(← truthy x))) _ (QV T)
  cases e : truth η' v with
  | none => exact .fail
  | some b =>
    have := truth_some e; subst this
    simp only [QV, VR] at hq; subst hq
    exact .ok rfl (wpAny_bind (wpAny_truthy_bool (wpAny_pure ⟨φ', .refl p.rel, by simp [QV, VR]⟩)))

theorem e_ite {c : C} {a b : E} {t x y : Expr} {pos : Pos} (h0 : SimC T q d call sc Γ c t) (h1 : SimE T q d call sc Γ a x) (h2 : SimE T q d call sc Γ b y) : SimE T q d call sc Γ (.ite c a b) (.IfExp t x y pos) := by
  intro A L φ η s env ρ X F
  rw [eval_IfExp]
  refine Sim.bind (h0 A L φ η s env ρ X F) fun v η' φ' b s' _ p hq => ?_
  cases hq
  cases v with
  | true => exact h1 A L φ' η' s' env ρ (X.step p) (F.step p.step)
  | false => exact h2 A L φ' η' s' env ρ (X.step p) (F.step p.step)

theorem es_nil : SimEs T q d call sc Γ [] [] := fun A L φ η s env ρ pos X _ => .pure X.rel (by simp [QVs, VRs])

/-- no star -/
noncomputable def plainArg : Expr → Bool
  | .Starred .. => false
  | _ => true
theorem starEach_plain {x : Expr} {xs : List Expr} (h : plainArg x = true) : starEach (x :: xs) env = (false, eval x env) :: starEach xs env := by
  cases x <;> first | rfl | cases h

theorem es_cons {e : E} {es : List E} {x : Expr} {xs : List Expr} (hx : plainArg x = true) (h1 : SimE T q d call sc Γ e x) (h2 : SimEs T q d call sc Γ es xs) : SimEs T q d call sc Γ (e :: es) (x :: xs) := by
  intro A L φ η s env ρ pos X F
  rw [starEach_plain hx]
  show Sim T A L φ η s (spliced ((false, eval x env) :: backTo pos (starEach xs env))) _ _
  rw [spliced]
  refine Sim.bind (h1 A L φ η s env ρ X F) fun v η' φ' y s' _ p hq => ?_
  simp only [Bool.false_eq_true, if_false]
  refine .pureBind ?_
  refine Sim.bind (Sim.holding (h2 A L φ' η' s' env ρ pos (X.step p) (F.step p.step))) fun vs η'' φ'' ys s'' _ p' hq' => ?_
  exact .pure p'.rel (by simp only [QVs, VRs]; exact ⟨y, ys, rfl, VR.step p'.step _ _ hq, hq'⟩)
end
end Mine
end
section
namespace Mine
open PySem PyProof.Rows

section
variable {T : St} {A : Around} {L : Addr} {q : Bool} {d : Nat} {φ φ' : Phi} {η η' : H} {s s' : Shared} {env : Env} {sc : Scope} {Γ : Gam} {ρ : Rho} {α β : Type} {call : Nat → List V → H → R V}

/-- single expressions of a list -/
noncomputable def SimL (T : St) (q : Bool) (d : Nat) (call : Nat → List V → H → R V) (sc : Scope) (Γ : Gam) : List E → List Expr → Prop
  | [], [] => True
  | e :: es, x :: xs => SimE T q d call sc Γ e x ∧ SimL T q d call sc Γ es xs
  | _, _ => False
noncomputable def SimCL (T : St) (q : Bool) (d : Nat) (call : Nat → List V → H → R V) (sc : Scope) (Γ : Gam) : List C → List Expr → Prop
  | [], [] => True
  | e :: es, x :: xs => SimC T q d call sc Γ e x ∧ SimCL T q d call sc Γ es xs
  | _, _ => False

theorem Sim.assoc {γ δ : Type} {a : Sem γ} {f : γ → Sem δ} {k : δ → Sem α} {r : R β} {Q : QR α β} (h : Sim T A L φ η s (a >>= fun x => f x >>= k) r Q) : Sim T A L φ η s ((a >>= f) >>= k) r Q :=
  h.imp id fun h Γ' p hΓ => by have := h Γ' p hΓ; simpa only [Sem.wp_bind'] using this
theorem Sim.held {γ : Type} {vs : List Value} {a : Sem γ} {k : γ → Sem α} {r : R β} {Q : QR α β} (h : Sim T A L φ η s (a >>= k) r Q) : Sim T A L φ η s (PySem.holding vs a >>= k) r Q :=
  h.imp id fun h Γ' p hΓ => by have := h Γ' p hΓ; simpa only [Sem.wp_bind', Sem.wp_holding] using this

theorem e_and_aux {pos : Pos} : ∀ (es : List E) (xs : List Expr), SimL T q d call sc Γ es xs → ∀ A L φ η s env ρ, Cxt T A L q d φ η s → FR T φ η s.heap L env sc Γ ρ →
    Sim T A L φ η s (boolOp pos .And (evalEach xs env)) (evAnd T.P q call es ρ η) (QV T)
  | [], [], _, A, L, φ, η, s, env, ρ, X, F => .fail
  | [e], [x], h, A, L, φ, η, s, env, ρ, X, F => h.1 A L φ η s env ρ X F
  | e :: e' :: es, x :: x' :: xs, h, A, L, φ, η, s, env, ρ, X, F => by
    show Sim T A L φ η s (do let v ← eval x env; standAt pos; let t ← holding [v] (truthy v); match BoolOp.And, t with | .And, false | .Or, true => pure v | _, _ => boolOp pos .And (evalEach (x' :: xs) env)) _ _
    refine Sim.bind (h.1 A L φ η s env ρ X F) fun v η' φ' y s' _ p hq => .standAt ?_
    cases e : truth η' v with
    | none => exact .fail
    | some b =>
      have := truth_some e; subst this
      have hy : y = .bool b := by simpa only [QV, VR] using hq
      subst hy
      have rest := e_and_aux (pos := pos) (e' :: es) (x' :: xs) h.2 A L φ' η' s' env ρ (X.step p) (F.step p.step)
      cases b with
      | true => exact rest.imp id fun r => wpAny_bind (wpAny_holding (wpAny_truthy_bool r))
      | false => exact .ok rfl (wpAny_bind (wpAny_holding (wpAny_truthy_bool (wpAny_pure ⟨φ', .refl p.rel, hq⟩))))
  | [], _ :: _, h, _, _, _, _, _, _, _, _, _ => h.elim
  | _ :: _, [], h, _, _, _, _, _, _, _, _, _ => h.elim
  | [_], _ :: _ :: _, h, _, _, _, _, _, _, _, _, _ => h.2.elim
  | _ :: _ :: _, [_], h, _, _, _, _, _, _, _, _, _ => h.2.elim
theorem e_or_aux {pos : Pos} : ∀ (es : List E) (xs : List Expr), SimL T q d call sc Γ es xs → ∀ A L φ η s env ρ, Cxt T A L q d φ η s → FR T φ η s.heap L env sc Γ ρ →
    Sim T A L φ η s (boolOp pos .Or (evalEach xs env)) (evOr T.P q call es ρ η) (QV T)
  | [], [], _, A, L, φ, η, s, env, ρ, X, F => .fail
  | [e], [x], h, A, L, φ, η, s, env, ρ, X, F => h.1 A L φ η s env ρ X F
  | e :: e' :: es, x :: x' :: xs, h, A, L, φ, η, s, env, ρ, X, F => by
    show Sim T A L φ η s (do let v ← eval x env; standAt pos; let t ← holding [v] (truthy v); match BoolOp.Or, t with | .And, false | .Or, true => pure v | _, _ => boolOp pos .Or (evalEach (x' :: xs) env)) _ _
    refine Sim.bind (h.1 A L φ η s env ρ X F) fun v η' φ' y s' _ p hq => .standAt ?_
    cases e : truth η' v with
    | none => exact .fail
    | some b =>
      have := truth_some e; subst this
      have hy : y = .bool b := by simpa only [QV, VR] using hq
      subst hy
      have rest := e_or_aux (pos := pos) (e' :: es) (x' :: xs) h.2 A L φ' η' s' env ρ (X.step p) (F.step p.step)
      cases b with
      | false => exact rest.imp id fun r => wpAny_bind (wpAny_holding (wpAny_truthy_bool r))
      | true => exact .ok rfl (wpAny_bind (wpAny_holding (wpAny_truthy_bool (wpAny_pure ⟨φ', .refl p.rel, hq⟩))))
  | [], _ :: _, h, _, _, _, _, _, _, _, _, _ => h.elim
  | _ :: _, [], h, _, _, _, _, _, _, _, _, _ => h.elim
  | [_], _ :: _ :: _, h, _, _, _, _, _, _, _, _, _ => h.2.elim
  | _ :: _ :: _, [_], h, _, _, _, _, _, _, _, _, _ => h.2.elim
theorem e_and {es : List E} {xs : List Expr} {pos : Pos} (h : SimL T q d call sc Γ es xs) : SimE T q d call sc Γ (.and es) (.BoolOp .And xs pos) := fun A L φ η s env ρ X F => e_and_aux es xs h A L φ η s env ρ X F
theorem e_or {es : List E} {xs : List Expr} {pos : Pos} (h : SimL T q d call sc Γ es xs) : SimE T q d call sc Γ (.or es) (.BoolOp .Or xs pos) := fun A L φ η s env ρ X F => e_or_aux es xs h A L φ η s env ρ X F

theorem marked_off {op : CmpOp} {e : Expr} {t : Sem Value} (h : notSet e = true) : markedBehindIn op e t = t := by
  have : behindInMarks op e = false := by cases e <;> first | rfl | cases h
  unfold markedBehindIn
  rw [this]

theorem e_cmp {op : COp} {a b : E} {l r : Expr} {pos : Pos} (hr : notSet r = true) (h1 : SimE T q d call sc Γ a l) (h2 : SimE T q d call sc Γ b r) : SimE T q d call sc Γ (.cmp op a b) (.Compare l [copOf op] [r] pos) := by
  intro A L φ η s env ρ X F
  show Sim T A L φ η s (do compareChain pos (← eval l env) [copOf op] [markedBehindIn (copOf op) r (eval r env)]) _ _
  rw [marked_off hr]
  refine Sim.bind (h1 A L φ η s env ρ X F) fun v η' φ' x s' _ p hq => ?_
  refine Sim.bind (Sim.holding (h2 A L φ' η' s' env ρ (X.step p) (F.step p.step))) fun w η'' φ'' y s'' _ p' hq' => ?_
  exact .standAt (.operate (sim_cmp op p'.rel (VR.step p'.step _ _ hq) hq' (by have := X.units; omega)))

/-- the truth of a comparison's value -/
theorem Sim.test {t : Sem Value} {o : Option Bool} (h : Sim T A L φ η s t (match o with | some b => .ok (.bool b) η | none => .fail) (QV T)) :
    Sim T A L φ η s (t >>= fun c => PySem.holding [c] (truthy c)) (match o with | some b => .ok b η | none => .fail) QB := by
  cases o with
  | none => exact .fail
  | some b =>
    refine (Sim.bind (g := fun v η' => match v with | .bool b => .ok b η' | _ => .fail) h fun v η' φ' x s' e p r => ?_).cast rfl
    cases e
    simp only [QV, VR] at r; subst r
    exact .ok rfl (wpAny_holding (wpAny_truthy_bool ⟨φ', .refl p.rel, rfl⟩))

theorem c_cmp {op : COp} {a b : E} {l r : Expr} {pos : Pos} (hr : notSet r = true) (h1 : SimE T q d call sc Γ a l) (h2 : SimE T q d call sc Γ b r) : SimC T q d call sc Γ (.t (.cmp op a b)) (.Compare l [copOf op] [r] pos) := by
  intro A L φ η s env ρ X F
  show Sim T A L φ η s (do testChain pos (← eval l env) [copOf op] [markedBehindIn (copOf op) r (eval r env)]) _ _
  rw [marked_off hr]
  have e1 : evC T.P q call (.t (.cmp op a b)) ρ η = (evE T.P q call a ρ η).bind fun x h => (evE T.P q call b ρ h).bind fun y h => match cmpV op h x y with | some b => .ok b h | none => .fail := by
    show ((((evE T.P q call a ρ η).bind fun x h => (evE T.P q call b ρ h).bind fun y h => match cmpV op h x y with | some b => R.ok (V.bool b) h | none => .fail)).bind fun v h => match truth h v with | some b => .ok b h | none => .fail) = _
    cases evE T.P q call a ρ η with
    | ok x h =>
      dsimp only [R.bind]
      cases evE T.P q call b ρ h with
      | ok y h =>
        simp only [R.bind]
        cases cmpV op h x y <;> rfl
      | exc _ _ => rfl
      | fail => rfl
    | exc _ _ => rfl
    | fail => rfl
  rw [e1]
  refine Sim.bind (h1 A L φ η s env ρ X F) fun v η' φ' x s' _ p hq => ?_
  refine Sim.bind (Sim.holding (h2 A L φ' η' s' env ρ (X.step p) (F.step p.step))) fun w η'' φ'' y s'' _ p' hq' => ?_
  refine .standAt ?_
  exact Sim.test (.operate (vs := [x, y]) (sim_cmp op p'.rel (VR.step p'.step _ _ hq) hq' (by have := X.units; omega)))

theorem e_cmp2 {o1 o2 : COp} {a b c : E} {l m r : Expr} {pos : Pos} (hr : notSet r = true) (h1 : SimE T q d call sc Γ a l) (h2 : SimE T q d call sc Γ b m) (h3 : SimE T q d call sc Γ c r) :
    SimE T q d call sc Γ (.cmp2 o1 o2 a b c) (.Compare l [copOf o1, copOf o2] [m, r] pos) := by
  intro A L φ η s env ρ X F
  show Sim T A L φ η s (do compareChain pos (← eval l env) [copOf o1, copOf o2] [eval m env, markedBehindIn (copOf o2) r (eval r env)]) _ _
  rw [marked_off hr]
  refine Sim.bind (h1 A L φ η s env ρ X F) fun v η' φ' x s' _ p hq => ?_
  refine Sim.bind (Sim.holding (h2 A L φ' η' s' env ρ (X.step p) (F.step p.step))) fun w η'' φ'' y s'' _ p' hq' => ?_
  refine .standAt ?_
  have hc := sim_cmp (A := A) (L := L) o1 p'.rel (VR.step p'.step _ _ hq) hq' (by have := X.units; omega)
  cases e : cmpV o1 η'' v w with
  | none => exact .fail
  | some b =>
    rw [e] at hc
    refine (Sim.bind (g := fun z h => if b then (evE T.P q call c ρ h).bind fun z h => match cmpV o2 h w z with | some b => R.ok (V.bool b) h | none => R.fail else R.ok (V.bool b) h) (Sim.holding hc) fun v' η₃ φ₃ c' s₃ e₃ p₃ q₃ => ?_).cast (by cases b <;> rfl)
    cases e₃
    simp only [QV, VR] at q₃; subst q₃
    refine .release ?_
    cases b with
    | false => exact .ok rfl (wpAny_bind (wpAny_holding (wpAny_truthy_bool (wpAny_pure ⟨φ₃, .refl p₃.rel, by simp [QV, VR]⟩))))
    | true =>
      have rest : Sim T A L φ₃ η'' s₃ (compareChain pos y [copOf o2] [eval r env]) ((evE T.P q call c ρ η'').bind fun z h => match cmpV o2 h w z with | some b => R.ok (V.bool b) h | none => R.fail) (QV T) := by
        have pp := (p.trans p').trans p₃
        refine Sim.bind (Sim.holding (h3 A L φ₃ η'' s₃ env ρ (X.step pp) (F.step pp.step))) fun w' η₄ φ₄ y' s₄ _ p₄ q₄ => ?_
        exact .standAt (.operate (sim_cmp o2 p₄.rel (VR.step (p₃.trans p₄).step _ _ hq') q₄ (by have := X.units; omega)))
      exact rest.imp id fun r => wpAny_bind (wpAny_holding (wpAny_truthy_bool r))

theorem c_cmp2 {o1 o2 : COp} {a b c : E} {l m r : Expr} {pos : Pos} (hr : notSet r = true) (h1 : SimE T q d call sc Γ a l) (h2 : SimE T q d call sc Γ b m) (h3 : SimE T q d call sc Γ c r) :
    SimC T q d call sc Γ (.t (.cmp2 o1 o2 a b c)) (.Compare l [copOf o1, copOf o2] [m, r] pos) := by
  intro A L φ η s env ρ X F
  show Sim T A L φ η s (do testChain pos (← eval l env) [copOf o1, copOf o2] [eval m env, markedBehindIn (copOf o2) r (eval r env)]) _ _
  rw [marked_off hr]
  have e1 : evC T.P q call (.t (.cmp2 o1 o2 a b c)) ρ η = (evE T.P q call a ρ η).bind fun x h => (evE T.P q call b ρ h).bind fun y h => match cmpV o1 h x y with
      | some true => (evE T.P q call c ρ h).bind fun z h => match cmpV o2 h y z with | some b => .ok b h | none => .fail
      | some false => .ok false h
      | none => .fail := by
    show ((((evE T.P q call a ρ η).bind fun x h => (evE T.P q call b ρ h).bind fun y h => match cmpV o1 h x y with
      | some true => (evE T.P q call c ρ h).bind fun z h => match cmpV o2 h y z with | some b => R.ok (.bool b) h | none => .fail
      | some false => .ok (.bool false) h
      | none => .fail)).bind fun v h => match truth h v with | some b => .ok b h | none => .fail) = _
    cases evE T.P q call a ρ η with
    | ok x h =>
      dsimp only [R.bind]
      cases evE T.P q call b ρ h with
      | ok y h =>
        simp only [R.bind]
        cases cmpV o1 h x y with
        | none => rfl
        | some b =>
          cases b with
          | false => rfl
          | true =>
            dsimp only
            cases evE T.P q call c ρ h with
            | ok z h => simp only; cases cmpV o2 h y z <;> rfl
            | exc _ _ => rfl
            | fail => rfl
      | exc _ _ => rfl
      | fail => rfl
    | exc _ _ => rfl
    | fail => rfl
  rw [e1]
  refine Sim.bind (h1 A L φ η s env ρ X F) fun v η' φ' x s' _ p hq => ?_
  refine Sim.bind (Sim.holding (h2 A L φ' η' s' env ρ (X.step p) (F.step p.step))) fun w η'' φ'' y s'' _ p' hq' => ?_
  refine .standAt ?_
  have hc := sim_cmp (A := A) (L := L) o1 p'.rel (VR.step p'.step _ _ hq) hq' (by have := X.units; omega)
  cases e : cmpV o1 η'' v w with
  | none => exact .fail
  | some b =>
    rw [e] at hc
    refine (Sim.bind (g := fun z h => if b then (evE T.P q call c ρ h).bind fun z h => match cmpV o2 h w z with | some b => R.ok b h | none => R.fail else R.ok b h) (Sim.holding hc) fun v' η₃ φ₃ c' s₃ e₃ p₃ q₃ => ?_).cast (by cases b <;> rfl)
    cases e₃
    simp only [QV, VR] at q₃; subst q₃
    refine .release ?_
    cases b with
    | false => exact .ok rfl (wpAny_bind (wpAny_holding (wpAny_truthy_bool (wpAny_pure ⟨φ₃, .refl p₃.rel, rfl⟩))))
    | true =>
      have rest : Sim T A L φ₃ η'' s₃ (testChain pos y [copOf o2] [eval r env]) ((evE T.P q call c ρ η'').bind fun z h => match cmpV o2 h w z with | some b => R.ok b h | none => R.fail) QB := by
        have pp := (p.trans p').trans p₃
        refine Sim.bind (Sim.holding (h3 A L φ₃ η'' s₃ env ρ (X.step pp) (F.step pp.step))) fun w' η₄ φ₄ y' s₄ _ p₄ q₄ => ?_
        exact .standAt (Sim.test (.operate (vs := [y, y']) (sim_cmp o2 p₄.rel (VR.step (p₃.trans p₄).step _ _ hq') q₄ (by have := X.units; omega))))
      exact rest.imp id fun r => wpAny_bind (wpAny_holding (wpAny_truthy_bool r))

theorem c_plain {e : E} {x : Expr} (hx : plainTest e x = true) (hc : ∀ l os rs p, x ≠ .Compare l os rs p) (h : SimE T q d call sc Γ e x) : SimC T q d call sc Γ (.t e) x := by
  intro A L φ η s env ρ X F
  have hs : isTrue x env (eval x env) = (do let v ← eval x env; standAt x.pos; holding [v] (truthy v)) := by
    cases x <;> first | rfl | cases hx | exact absurd rfl (hc _ _ _ _)
  rw [hs]
  refine Sim.bind (h A L φ η s env ρ X F) fun v η' φ' y s' _ p hq => .standAt (.holding (sim_truth p.rel hq))

theorem c_not {c : C} {x : Expr} {pos : Pos} (h : SimC T q d call sc Γ c x) : SimC T q d call sc Γ (.not c) (.UnaryOp .Not x pos) := by
  intro A L φ η s env ρ X F
  show Sim T A L φ η s (do return !(← isTrue x env (eval x env))) _ _
  refine Sim.bind (h A L φ η s env ρ X F) fun v η' φ' y s' _ p hq => ?_
  cases hq
  exact .pure p.rel rfl

theorem c_and_aux : ∀ (cs : List C) (xs : List Expr), SimCL T q d call sc Γ cs xs → ∀ A L φ η s env ρ, Cxt T A L q d φ η s → FR T φ η s.heap L env sc Γ ρ → Sim T A L φ η s (allTrue .And xs env) (evCand T.P q call cs ρ η) QB
  | [], [], _, A, L, φ, η, s, env, ρ, X, F => .pure X.rel rfl
  | c :: cs, x :: xs, h, A, L, φ, η, s, env, ρ, X, F => by
    show Sim T A L φ η s (do match BoolOp.And, ← isTrue x env (eval x env) with | .And, false => pure false | .Or, true => pure true | _, _ => allTrue .And xs env) _ _
    refine Sim.bind (h.1 A L φ η s env ρ X F) fun v η' φ' y s' _ p hq => ?_
    cases hq
    cases v with
    | true => exact c_and_aux cs xs h.2 A L φ' η' s' env ρ (X.step p) (F.step p.step)
    | false => exact .pure p.rel rfl
  | [], _ :: _, h, _, _, _, _, _, _, _, _, _ => h.elim
  | _ :: _, [], h, _, _, _, _, _, _, _, _, _ => h.elim
theorem c_or_aux : ∀ (cs : List C) (xs : List Expr), SimCL T q d call sc Γ cs xs → ∀ A L φ η s env ρ, Cxt T A L q d φ η s → FR T φ η s.heap L env sc Γ ρ → Sim T A L φ η s (allTrue .Or xs env) (evCor T.P q call cs ρ η) QB
  | [], [], _, A, L, φ, η, s, env, ρ, X, F => .pure X.rel rfl
  | c :: cs, x :: xs, h, A, L, φ, η, s, env, ρ, X, F => by
    show Sim T A L φ η s (do match BoolOp.Or, ← isTrue x env (eval x env) with | .And, false => pure false | .Or, true => pure true | _, _ => allTrue .Or xs env) _ _
    refine Sim.bind (h.1 A L φ η s env ρ X F) fun v η' φ' y s' _ p hq => ?_
    cases hq
    cases v with
    | false => exact c_or_aux cs xs h.2 A L φ' η' s' env ρ (X.step p) (F.step p.step)
    | true => exact .pure p.rel rfl
  | [], _ :: _, h, _, _, _, _, _, _, _, _, _ => h.elim
  | _ :: _, [], h, _, _, _, _, _, _, _, _, _ => h.elim
theorem c_and {cs : List C} {xs : List Expr} {pos : Pos} (h : SimCL T q d call sc Γ cs xs) : SimC T q d call sc Γ (.and cs) (.BoolOp .And xs pos) := fun A L φ η s env ρ X F => c_and_aux cs xs h A L φ η s env ρ X F
theorem c_or {cs : List C} {xs : List Expr} {pos : Pos} (h : SimCL T q d call sc Γ cs xs) : SimC T q d call sc Γ (.or cs) (.BoolOp .Or xs pos) := fun A L φ η s env ρ X F => c_or_aux cs xs h A L φ η s env ρ X F

theorem e_sub {a b : E} {x i : Expr} {pos : Pos} (hi : notSlice i = true) (h1 : SimE T q d call sc Γ a x) (h2 : SimE T q d call sc Γ b i) : SimE T q d call sc Γ (.sub a b) (.Subscript x i pos) := by
  intro A L φ η s env ρ X F
  rw [eval_Subscript]
  refine Sim.bind (h1 A L φ η s env ρ X F) fun v η' φ' y s' _ p hq => ?_
  refine Sim.bind (Sim.holding (h2 A L φ' η' s' env ρ (X.step p) (F.step p.step))) fun w η'' φ'' z s'' _ p' hq' => .standAt ?_
  exact sim_tail (value := x) (slice := i) (fun o j => by cases i <;> first | rfl | cases hi) p'.rel (VR.step p'.step _ _ hq) hq'

theorem e_slice {mu : Bool} {a lo hi : E} {x : Expr} {l u : Option Expr} {pos pp : Pos} (h1 : SimE T q d call sc Γ a x)
    (h2 : match l with | none => isNoneE lo = true | some e => SimE T q d call sc Γ lo e) (h3 : match u with | none => isNoneE hi = true | some e => SimE T q d call sc Γ hi e) : SimE T q d call sc Γ (.slice mu a lo hi) (.Subscript x (.Slice l u none pp) pos) := by
  intro A L φ η s env ρ X F
  have part : ∀ (o : Option Expr) (e : E) (h : match o with | none => isNoneE e = true | some x => SimE T q d call sc Γ e x) φ η s, Cxt T A L q d φ η s → FR T φ η s.heap L env sc Γ ρ → Sim T A L φ η s (valueOrNone (evalOpt o env)) (evE T.P q call e ρ η) (QV T) := by
    intro o e h φ η s X F
    cases o with
    | none =>
      have : e = .const .none := by
        replace h : isNoneE e = true := h
        cases e with
        | const v => cases v <;> first | rfl | cases h
        | _ => cases h
      subst this
      exact .pure X.rel (by simp [QV, VR])
    | some y => exact h A L φ η s env ρ X F
  rw [eval_Subscript]
  refine Sim.bind (h1 A L φ η s env ρ X F) fun v η' φ' y s' _ p hq => ?_
  have X' := X.step p
  have F' := F.step p.step
  show Sim T A L φ' η' s' (holding [y] (do let l ← valueOrNone (evalOpt l env); let u ← holding [l] (valueOrNone (evalOpt u env)); let s ← holding [l, u] (valueOrNone (evalOpt none env)); newFields "slice" [l, u, s]) >>= fun i => do standAt pos; subscriptTail x (.Slice l u none pp) y i) _ _
  refine Sim.held ?_
  refine Sim.assoc ?_
  refine Sim.bind (part l lo h2 φ' η' s' X' F') fun v₁ η₁ φ₁ y₁ s₁ _ p₁ q₁ => ?_
  refine Sim.assoc ?_
  refine Sim.bind (Sim.holding (part u hi h3 φ₁ η₁ s₁ (X'.step p₁) (F'.step p₁.step))) fun v₂ η₂ φ₂ y₂ s₂ _ p₂ q₂ => ?_
  refine Sim.assoc ?_
  refine Sim.held ?_
  refine .pureBind ?_
  exact sim_slice (A := A) (L := L) mu (value := x) (l := l) (u := u) (pp := pp) p₂.rel (VR.step (p₁.trans p₂).step _ _ hq) (VR.step p₂.step _ _ q₁) q₂

theorem evEs_len (P : Prog) : ∀ (es : List E) (ρ : Rho) (η : H) (vs : List V) (η' : H), evEs P q call es ρ η = .ok vs η' → vs.length = es.length
  | [], _, _, _, _, e => by cases e; rfl
  | e :: es, ρ, η, vs, η', h => by
    unfold evEs at h
    cases h1 : evE P q call e ρ η with
    | ok v h1' =>
      rw [h1] at h
      dsimp only [R.bind] at h
      cases h2 : evEs P q call es ρ h1' with
      | ok ws h2' =>
        rw [h2] at h
        dsimp only [R.bind] at h
        cases h
        simp [evEs_len P es ρ h1' ws _ h2]
      | exc _ _ => rw [h2] at h; cases h
      | fail => rw [h2] at h; cases h
    | exc _ _ => rw [h1] at h; cases h
    | fail => rw [h1] at h; cases h

theorem e_list {mu : Bool} {es : List E} {xs : List Expr} {pos : Pos} (hl : es.length ≤ 1000) (h : SimEs T q d call sc Γ es xs) : SimE T q d call sc Γ (.list mu es) (.List xs pos) := by
  intro A L φ η s env ρ X F
  show Sim T A L φ η s (do standAt pos; newList (← spliced (backTo pos (starEach xs env)))) _ _
  refine .standAt (Sim.bind (h A L φ η s env ρ pos X F) fun vs η' φ' ys s' e p hq => ?_)
  obtain ⟨v, η'', φ'', e', p', r⟩ := mk_list mu p.rel (items := ys.toArray) (by simpa using hq) s'.toks
  refine .ok e' (wpAny_newList ⟨φ'', p', r⟩ ?_)
  have h1 := VRs.length hq
  have h2 := evEs_len T.P es ρ η vs η' e
  exact line_le (by omega)

theorem e_tuple {es : List E} {xs : List Expr} {k : Nat} {pos : Pos} (hl : es.length ≤ 1000) (h : SimEs T q d call sc Γ es xs) : SimE T q d call sc Γ (.tuple es) (.Tuple xs k pos) := by
  intro A L φ η s env ρ X F
  show Sim T A L φ η s (do standAt pos; newTuple (← spliced (backTo pos (starEach xs env)))) _ _
  refine .standAt (Sim.bind (h A L φ η s env ρ pos X F) fun vs η' φ' ys s' e p hq => ?_)
  have hv := mk_tup p.rel (items := ys.toArray) (by simpa using hq) s'.toks
  refine .ok rfl (wpAny_newTuple ⟨φ', hv.1, hv.2⟩ ?_)
  have h1 := VRs.length hq
  have h2 := evEs_len T.P es ρ η vs η' e
  exact line_le (by omega)

theorem e_dict0 {mu : Bool} {pos : Pos} : SimE T q d call sc Γ (.dict0 mu) (.Dict [] [] pos) := by
  intro A L φ η s env ρ X F
  cases mu with
  | false => exact .fail
  | true =>
    have x := X.rel.add (m := .dict []) (p := (s.heap.objs.size, s.heap.objs.size)) (push_keeps (dictO #[] 0)) (Heap.get?_none_of_le (Nat.le_refl _)) (Heap.get?_none_of_le (Nat.le_refl _)) X.rel.high X.rel.high
      (fun st => ⟨rfl, [], Heap.DictOf.new s.heap, rfl, by simp [VRs]⟩)
    refine .ok rfl (wpAny_Dict_empty ⟨_, .mk' (k := s.toks) x, ?_⟩)
    simp only [QV, VR]
    exact ⟨(s.heap.objs.size, s.heap.objs.size), by rw [← X.rel.len, List.getElem?_append_right (Nat.le_refl _)]; simp, rfl⟩

theorem own_free {n : Nat} {p : Addr × Addr} (R : Rel T φ η s.heap) {xs : List V} (hn : η[n]? = some (.list xs)) (hp : φ[n]? = some p) : ¬ own φ (η.set n .gone) p.1 := by
  rintro ⟨k, p', m, hp', hm, hg, hb⟩
  by_cases e : n = k
  · subst e
    have hlt : n < η.length := (List.getElem?_eq_some_iff.mp hn).1
    rw [List.getElem?_set_self hlt] at hm; cases hm; exact hg rfl
  · rw [List.getElem?_set_ne e] at hm
    have := R.disj n k p p' _ m hp hp' hn hm (by simp) hg e
    rcases hb with hb | hb
    · exact this.1 hb
    · exact this.2.1 hb

end
end Mine
end
section
namespace Mine
open PySem PyProof.Rows

noncomputable def ItCls (c : String) : Prop := c = "list_iterator" ∨ c = "tuple_iterator" ∨ c = "str_ascii_iterator" ∨ c = "str_iterator" ∨ c = "range_iterator"

/-- where an iterator stands: what it still gives -/
inductive Iter (T : St) (φ : Phi) (η : H) (h : Heap) (I : Addr) (xs : List V) (live : Option (Nat × List V)) : Prop
  | lst (a : Addr) (items : Array Value) (k i : Nat) (all : List V) : xs = all.drop i → live = none → h.get? a = some (listO items k) → ¬ own φ η a → VRs T φ (own φ η) h all items.toList → h.IsListIter I a i → Iter T φ η h I xs live
  | live (n : Nat) (all : List V) (p : Addr × Addr) (i : Nat) : xs = all.drop i → live = some (n, all) → φ[n]? = some p → h.IsListIter I p.1 i → Iter T φ η h I xs live
  | range (m k : Int) : xs = (List.range k.toNat).map (fun i : Nat => .int (m + i)) → live = none → IsRangeIter h I m k 1 → Iter T φ η h I xs live

section
variable {T : St} {A : Around} {L : Addr} {φ φ' : Phi} {η η' : H} {s s' : Shared} {h h' : Heap} {I : Addr} {xs : List V} {live : Option (Nat × List V)} {E : Value → Shared → Prop}

theorem Iter.obj (x : Iter T φ η h I xs live) : ∃ o c, h.get? I = some o ∧ o.cls = .type c ∧ ItCls c := by
  cases x with
  | lst a items k i all e l g n r it => obtain ⟨o, h1, h2, _⟩ := it; exact ⟨o, _, h1, h2, .inl rfl⟩
  | live n all p i e l hp it => obtain ⟨o, h1, h2, _⟩ := it; exact ⟨o, _, h1, h2, .inl rfl⟩
  | range m k e l it => exact ⟨_, _, it, rfl, .inr (.inr (.inr (.inr rfl)))⟩
theorem ItCls.ne {c : String} (x : ItCls c) : c ≠ "tuple" ∧ c ≠ "list" ∧ c ≠ "frame" ∧ c ≠ "dict" ∧ c ≠ "cell" ∧ c ≠ "traceback" := by
  rcases x with rfl | rfl | rfl | rfl | rfl <;> decide
theorem Iter.priv (x : Iter T φ η h I xs live) : ∃ o, h.get? I = some o ∧ Priv o ∧ (∀ c, o.cls = .type c → c ≠ "frame" ∧ c ≠ "dict" ∧ c ≠ "cell") := by
  obtain ⟨o, c, g, hc, hi⟩ := x.obj
  refine ⟨o, g, ⟨c, hc, hi.ne.1, hi.ne.2.1⟩, fun c' e => ?_⟩
  rw [hc] at e; cases e
  exact ⟨hi.ne.2.2.1, hi.ne.2.2.2.1, hi.ne.2.2.2.2.1⟩

theorem Iter.step (st : Step φ η h φ' η' h') (hI : ¬ own φ η I) (x : Iter T φ η h I xs live) : Iter T φ' η' h' I xs live := by
  have ex : ∀ o, h.get? I = some o → h'.get? I = some o := fun o g => by
    obtain ⟨o', c, g', hc, hi⟩ := x.obj
    rw [g] at g'; cases g'
    exact (st.keep I o hI g).exact (by rw [hc]; simp [hi.ne.2.2.1]) (not_loose hc hi.ne.2.2.2.2.2)
  cases x with
  | lst a items k i all e l g n r it => exact .lst a items k i all e l ((st.keep a _ n g).exact (by simp) (not_loose rfl (by decide))) (st.off n g) (VRs.step st _ _ r) (it.at ex)
  | live n all p i e l hp it => exact .live n all p i e l (get_prefix st.ext hp) (it.at ex)
  | range m k e l it => exact .range m k e l (ex _ it)

theorem drop_head {α : Type} {all : List α} {i : Nat} {v : α} {vs : List α} (e : v :: vs = all.drop i) : all[i]? = some v ∧ vs = all.drop (i + 1) := by
  have hi : i < all.length := by
    by_cases h : i < all.length
    · exact h
    · rw [List.drop_eq_nil_of_le (by omega)] at e; cases e
  rw [List.drop_eq_getElem_cons hi] at e
  cases e
  exact ⟨List.getElem?_eq_getElem hi, rfl⟩
theorem drop_nil {α : Type} {all : List α} {i : Nat} (e : [] = all.drop i) : all[i]? = none := List.getElem?_eq_none (List.drop_eq_nil_iff.mp e.symm)

theorem sameBut_keep {a : Addr} (x : Heap.SameBut a h h') : ∀ b o, b ≠ a → h.get? b = some o → h'.get? b = some o := fun b o hb e => (x.2 b hb).trans e

open Classical in
theorem still_some {n : Nat} {all : List V} (e : still η (some (n, all)) = true) : η[n]? = some (.list all) := of_decide_eq_true e

theorem Iter.next {v : V} {vs : List V} {Q : Option Value → Shared → Prop} (R : Rel T φ η s.heap) (x : Iter T φ η s.heap I (v :: vs) live) (hl : still η live = true)
    (hQ : ∀ y h' t, VR T φ (own φ η) h' v y → Iter T φ η h' I vs live → Heap.SameBut I s.heap h' → Q (some y) { s with heap := h', toks := t }) : wpAny T.M A (pyNext (.ref I)) Q E s := by
  obtain ⟨oI, gI, pI, _⟩ := x.priv
  obtain ⟨o', c, g', hc, hi⟩ := x.obj
  rw [gI] at g'; cases g'
  cases x with
  | lst a items k i all e l g n r it =>
    obtain ⟨h1, h2⟩ := drop_head e
    obtain ⟨y, hy, ry⟩ := r.get h1
    have ne : a ≠ I := fun q => by rw [q, gI] at g; cases g; cases hc; exact hi.ne.2.1 rfl
    refine wpAny_pyNext_list_item it ⟨_, g, rfl, k, rfl⟩ (by rw [← Array.getElem?_toList]; exact hy) fun h' it' hs => ?_
    have kk := sameBut_keep hs
    exact hQ y h' s.toks (VR.but gI pI kk _ _ ry) (.lst a items k (i + 1) all h2 l (kk _ _ ne g) n (VRs.but gI pI kk _ _ r) it') hs
  | live n all p i e l hp it =>
    subst l
    have hn := still_some hl
    obtain ⟨_, items, k, g, r⟩ := R.obj n _ p hn hp
    obtain ⟨h1, h2⟩ := drop_head e
    obtain ⟨y, hy, ry⟩ := r.get h1
    refine wpAny_pyNext_list_item it ⟨_, g, rfl, k, rfl⟩ (by rw [← Array.getElem?_toList]; exact hy) fun h' it' hs => ?_
    have kk := sameBut_keep hs
    exact hQ y h' s.toks (VR.but gI pI kk _ _ ry) (.live n all p (i + 1) h2 rfl hp it') hs
  | range m k e l it =>
    have hk : 0 < k := by
      by_cases h : 0 < k
      · exact h
      · rw [show k.toNat = 0 by omega] at e; cases e
    obtain ⟨n, hn⟩ : ∃ n, k.toNat = n + 1 := ⟨k.toNat - 1, by omega⟩
    rw [hn, List.range_succ_eq_map, List.map_cons] at e
    simp only [List.cons.injEq] at e
    obtain ⟨rfl, rfl⟩ := e
    refine wpAny_pyNext_range_item it hk fun h' it' hs => hQ _ h' _ (by simp [VR]) (.range (m + 1) (k - 1) ?_ l it') hs
    rw [show (k - 1).toNat = n by omega, List.map_map]
    refine List.map_congr_left fun j _ => ?_
    simp only [Function.comp]; congr 1; push_cast; omega

theorem Iter.fin {Q : Option Value → Shared → Prop} (hh : A.handled = none) (R : Rel T φ η s.heap) (x : Iter T φ η s.heap I [] live) (hl : still η live = true)
    (hQ : ∀ h', Heap.ExtBut I s.heap h' → Q none { s with heap := h' }) : wpAny T.M A (pyNext (.ref I)) Q E s := by
  cases x with
  | lst a items k i all e l g n r it =>
    have h1 := drop_nil e
    have := len_items r
    exact wpAny_pyNext_list_end hh it ⟨_, g, rfl, k, rfl⟩ (Array.getElem?_eq_none (by rw [this]; exact List.getElem?_eq_none_iff.mp h1)) hQ
  | live n all p i e l hp it =>
    subst l
    have hn := still_some hl
    obtain ⟨_, items, k, g, r⟩ := R.obj n _ p hn hp
    have h1 := drop_nil e
    have := len_items r
    exact wpAny_pyNext_list_end hh it ⟨_, g, rfl, k, rfl⟩ (Array.getElem?_eq_none (by rw [this]; exact List.getElem?_eq_none_iff.mp h1)) hQ
  | range m k e l it =>
    refine wpAny_pyNext_range_end hh it ?_ hQ
    by_cases h : k ≤ 0
    · exact h
    · exfalso
      have := congrArg List.length e
      simp at this; omega

theorem Iter.self {Q : Value → Shared → Prop} (x : Iter T φ η s.heap I xs live) (h : Q (.ref I) s) : wpAny T.M A (pyIter (.ref I)) Q E s := by
  cases x with
  | lst a items k i all e l g n r it => exact wpAny_pyIter_listiter it h
  | live n all p i e l hp it => exact wpAny_pyIter_listiter it h
  | range m k e l it => exact wpAny_pyIter_rangeiter it h

/-- what a loop goes over: a value, or a range -/
noncomputable def QIt (T : St) : QR Value V := fun φ η h v x => VR T φ (own φ η) h v x ∨
  ∃ r m k t u w, x = .ref r ∧ IsRange h r m k 1 t u w ∧ okR m = true ∧ okR k = true ∧ v = .lst ((List.range (k - m).toNat).map fun i : Nat => .int (m + i))

theorem ok_r {i : Int} (h : okR i = true) : -1000000000000 ≤ i ∧ i < 1000000000000 := by
  unfold okR at h
  simp only [Bool.and_eq_true, decide_eq_true_eq] at h
  exact h

theorem iter_start {v : V} {x : Value} {Q : Value → Shared → Prop} (R : Rel T φ η s.heap) (e : itemsOf η v = some (xs, live)) (r : QIt T φ η s.heap v x)
    (hQ : ∀ I h', s.heap.get? I = none → (∀ b o, s.heap.get? b = some o → h'.get? b = some o) → Iter T φ η h' I xs live → Q (.ref I) { s with heap := h' }) : wpAny T.M A (pyIter x) Q E s := by
  have sz : s.heap.get? s.heap.objs.size = none := Heap.get?_none_of_le (Nat.le_refl _)
  rcases r with r | ⟨rr, m, k, t, u, w, rfl, hr, hm, hk, rfl⟩
  · unfold itemsOf at e
    split at e
    · rename_i ys
      cases e
      simp only [VR] at r
      obtain ⟨a, items, k, rfl, hN, g, r⟩ := r
      have st : Step φ η s.heap φ η (s.heap.push { cls := .type "list_iterator", data := .fields #[.ref a, .int 0 0] }) := .keeps (push_keeps _)
      exact wpAny_pyIter_list ⟨_, g, rfl, k, rfl⟩ (hQ _ _ sz (push_keeps _) (.lst a items k 0 _ rfl rfl (push_keeps _ _ _ g) hN (VRs.step st _ _ r) ⟨_, Heap.get?_push_size _ rfl, rfl, rfl⟩))
    · rename_i n
      split at e
      · rename_i ys hn
        cases e
        simp only [VR] at r
        obtain ⟨p, hp, rfl⟩ := r
        obtain ⟨_, items, k, g, r⟩ := R.obj n _ p hn hp
        exact wpAny_pyIter_list ⟨_, g, rfl, k, rfl⟩ (hQ _ _ sz (push_keeps _) (.live n _ p 0 rfl rfl hp ⟨_, Heap.get?_push_size _ rfl, rfl, rfl⟩))
      · cases e
    · cases e
  · cases e
    have h1 := ok_r hm
    have h2 := ok_r hk
    refine wpAny_pyIter_range hr (small_one (by omega) (by omega) (by omega) (by omega)) (hQ _ _ sz (push_keeps _) (.range m (Builtin.Range.rangeSize m k 1) ?_ rfl (Heap.get?_push_size _ rfl)))
    rw [rangeSize_one]
    split
    · rfl
    · rw [show (k - m).toNat = 0 by omega]; rfl
end
end Mine
end
section
namespace Mine
open PySem PyProof.Rows

structure Sta (A : Around) (q : Bool) (d : Nat) : Prop where
  hand : q = true → A.handled = none
  depth : A.depth + 4 * d + 4 ≤ recursionLimit
  units : A.units + 20 * d + 20 < cLine

/-- neither a frame's names nor its cells -/
noncomputable def Off (env : Env) (b : Addr) : Prop := b ≠ env.locals ∧ ∀ n c, env.cells.lookup n = some c → b ≠ c
/-- a step in a frame, whose own names may turn -/
structure StepL (env : Env) (φ : Phi) (η : H) (h : Heap) (φ' : Phi) (η' : H) (h' : Heap) : Prop where
  ext : φ <+: φ'
  keep : ∀ b o, ¬ own φ η b → Off env b → h.get? b = some o → StayO o h' b
  osub : ∀ b, own φ' η' b → own φ η b ∨ h.get? b = none
  alive : ∀ b o, h.get? b = some o → (h'.get? b).isSome = true

section
variable {cw : Bool} {T : St} {A : Around} {L : Addr} {q : Bool} {d : Nat} {φ₀ φ φ' φ₁ φ₂ φ₃ : Phi} {η₀ η η' η₁ η₂ η₃ : H} {s₀ s s' : Shared} {h h' h₁ h₂ h₃ : Heap} {env : Env} {sc : Scope} {Γ : Gam} {ρ : Rho} {α β : Type} {I : Addr} {xs : List V} {live : Option (Nat × List V)}

theorem Step.toL (st : Step φ η h φ' η' h') : StepL env φ η h φ' η' h' := ⟨st.ext, fun b o hb _ e => st.keep b o hb e, st.osub, st.alive⟩
theorem StepL.off (st : StepL env φ η h φ' η' h') {a : Addr} {o : Obj} (hN : ¬ own φ η a) (hg : h.get? a = some o) : ¬ own φ' η' a :=
  fun q => (st.osub a q).elim hN fun q => by rw [q] at hg; cases hg
theorem StepL.trans (x : StepL env φ₁ η₁ h₁ φ₂ η₂ h₂) (y : StepL env φ₂ η₂ h₂ φ₃ η₃ h₃) : StepL env φ₁ η₁ h₁ φ₃ η₃ h₃ where
  ext := x.ext.trans y.ext
  keep := fun b o hb ho e => by
    have hb₂ : ¬ own φ₂ η₂ b := x.off hb e
    exact (x.keep b o hb ho e).trans fun o' e' => y.keep b o' hb₂ ho e'
  osub := fun b q => by
    rcases y.osub b q with q | q
    · exact x.osub b q
    · right
      cases e : h₁.get? b with
      | none => rfl
      | some o => have := x.alive b o e; rw [q] at this; cases this
  alive := fun b o e => by
    obtain ⟨o', e'⟩ := Option.isSome_iff_exists.mp (x.alive b o e)
    exact y.alive b o' e'
theorem StepL.refl : StepL env φ η h φ η h := (Step.refl φ η h).toL

theorem FS.cxt (F : FS cw T A L φ₀ η₀ s₀ φ η s env sc Γ ρ) (X : Sta A q d) : Cxt T A L q d φ η s := ⟨X.hand, X.depth, X.units, F.stk, F.post.rel⟩

/-- an object of another kind is none of the frame's own -/
theorem FR.offOf (F : FR T φ η h L env sc Γ ρ) {b : Addr} {o : Obj} (g : h.get? b = some o) (hc : ∀ c, o.cls = .type c → c ≠ "frame" ∧ c ≠ "dict" ∧ c ≠ "cell") : Off env b := by
  refine ⟨fun q => ?_, fun n c e q => ?_⟩
  · obtain ⟨c, m, ⟨_, o', g', ho⟩, hcc, _⟩ := F.ns
    rw [← q, g] at g'; cases g'
    rcases hcc with rfl | rfl
    · exact (hc _ ho).1 rfl
    · exact (hc _ ho).2.1 rfl
  · obtain ⟨ov, o', g', ho, _⟩ := F.cthere n c e
    rw [← q, g] at g'; cases g'
    exact (hc _ ho).2.2 rfl

mutual
theorem VR.stepL (st : StepL env φ η h φ' η' h') (F : FR T φ η h L env sc Γ ρ) : ∀ (v : V) (x : Value), VR T φ (own φ η) h v x → VR T φ' (own φ' η') h' v x
  | .none, _, e => e
  | .bool _, _, e => e
  | .int _, _, e => e
  | .str _, _, e => e
  | .tup xs, x, e => by
    simp only [VR] at e ⊢
    obtain ⟨a, items, n, rfl, hN, hg, hr⟩ := e
    exact ⟨a, items, n, rfl, st.off hN hg, (st.keep a _ hN (F.offOf hg (by intro c q; cases q; decide)) hg).exact (by simp) (not_loose rfl (by decide)), VRs.stepL st F xs _ hr⟩
  | .lst xs, x, e => by
    simp only [VR] at e ⊢
    obtain ⟨a, items, n, rfl, hN, hg, hr⟩ := e
    exact ⟨a, items, n, rfl, st.off hN hg, (st.keep a _ hN (F.offOf hg (by intro c q; cases q; decide)) hg).exact (by simp) (not_loose rfl (by decide)), VRs.stepL st F xs _ hr⟩
  | .dct, x, e => by simp only [VR] at e
  | .ref n, x, e => by
    simp only [VR] at e ⊢
    obtain ⟨p, hp, rfl⟩ := e
    exact ⟨p, get_prefix st.ext hp, rfl⟩
  | .exc c, x, e => by
    simp only [VR] at e ⊢
    obtain ⟨a, o, rfl, hN, hg, hc, hd⟩ := e
    rcases st.keep a _ hN (F.offOf hg (by rw [hc]; intro c q; cases q)) hg with x | ⟨x, _⟩ | ⟨_, o', x, ec, hl⟩
    · exact ⟨a, o, rfl, st.off hN hg, x, hc, hd⟩
    · rw [hc] at x; cases x
    · exact ⟨a, o', rfl, st.off hN hg, x, ec.trans hc, hl.1⟩
theorem VRs.stepL (st : StepL env φ η h φ' η' h') (F : FR T φ η h L env sc Γ ρ) : ∀ (v : List V) (x : List Value), VRs T φ (own φ η) h v x → VRs T φ' (own φ' η') h' v x
  | [], _, e => e
  | y :: ys, x, e => by
    simp only [VRs] at e ⊢
    obtain ⟨v, r, rfl, h1, h2⟩ := e
    exact ⟨v, r, rfl, VR.stepL st F y v h1, VRs.stepL st F ys r h2⟩
end

theorem Iter.stepL (st : StepL env φ η h φ' η' h') (F : FR T φ η h L env sc Γ ρ) (hI : ¬ own φ η I) (x : Iter T φ η h I xs live) : Iter T φ' η' h' I xs live := by
  have ex : ∀ o, h.get? I = some o → h'.get? I = some o := fun o g => by
    obtain ⟨o', c, g', hc, hi⟩ := x.obj
    rw [g] at g'; cases g'
    exact (st.keep I o hI (F.offOf g (by intro c' q; rw [hc] at q; cases q; exact ⟨hi.ne.2.2.1, hi.ne.2.2.2.1, hi.ne.2.2.2.2.1⟩)) g).exact (by rw [hc]; simp [hi.ne.2.2.1]) (not_loose hc hi.ne.2.2.2.2.2)
  cases x with
  | lst a items k i all e l g n r it => exact .lst a items k i all e l ((st.keep a _ n (F.offOf g (by intro c q; cases q; decide)) g).exact (by simp) (not_loose rfl (by decide))) (st.off n g) (VRs.stepL st F _ _ r) (it.at ex)
  | live n all p i e l hp it => exact .live n all p i e l (get_prefix st.ext hp) (it.at ex)
  | range m k e l it => exact .range m k e l (ex _ it)

/-- a private object that is none of the frame's turns -/
theorem FR.but {o : Obj} (F : FR T φ η h L env sc Γ ρ) (g : h.get? I = some o) (p : Priv o) (ho : Off env I) (k : ∀ b o, b ≠ I → h.get? b = some o → h'.get? b = some o) : FR T φ η h' L env sc Γ ρ where
  sc := F.sc
  kind := F.kind
  glob := F.glob
  bi := F.bi
  frame := F.frame
  ns := by
    obtain ⟨c, m, ⟨⟨o₁, es, ep, e₁, r₁⟩, o₂, e₂, hc₂⟩, hc, hv⟩ := F.ns
    refine ⟨c, m, ⟨⟨o₁, es, ep, k _ _ (Ne.symm ho.1) e₁, r₁⟩, o₂, k _ _ (Ne.symm ho.1) e₂, hc₂⟩, hc, fun n i v h1 h2 h3 => ?_⟩
    obtain ⟨x, e, r⟩ := hv n i v h1 h2 h3
    exact ⟨x, e, VR.but g p k _ _ r⟩
  cell := fun n i h1 h2 => by
    obtain ⟨c, ov, e, ⟨o', e', hc', hd'⟩, hv⟩ := F.cell n i h1 h2
    refine ⟨c, ov, e, ⟨o', k _ _ (Ne.symm (ho.2 n c e)) e', hc', hd'⟩, fun v hr => ?_⟩
    obtain ⟨x, e', r⟩ := hv v hr
    exact ⟨x, e', VR.but g p k _ _ r⟩
  lfresh := F.lfresh
  cthere := fun n c e => let ⟨ov, o', e', hc', hd'⟩ := F.cthere n c e; ⟨ov, o', k _ _ (Ne.symm (ho.2 n c e)) e', hc', hd'⟩
  cfresh := F.cfresh
  apart := F.apart
  inj := F.inj

theorem FS.fresh (F : FS cw T A L φ₀ η₀ s₀ φ η s env sc Γ ρ) (hI : s.heap.get? I = none) : s₀.heap.get? I = none ∧ ¬ own φ η I ∧ T.base.get? I = none := by
  refine ⟨?_, fun o => ?_, ?_⟩
  · cases e : s₀.heap.get? I with
    | none => rfl
    | some o => have := F.post.step.alive I o e; rw [hI] at this; cases this
  · obtain ⟨ob, e, _⟩ := F.post.rel.there o
    rw [hI] at e; cases e
  · cases e : T.base.get? I with
    | none => rfl
    | some o => have := F.post.rel.base I o e; rw [hI] at this; cases this

theorem FS.but {o : Obj} {t : Nat} (F : FS cw T A L φ₀ η₀ s₀ φ η s env sc Γ ρ) (g : s.heap.get? I = some o) (p : Priv o) (hc : ∀ c, o.cls = .type c → c ≠ "frame" ∧ c ≠ "dict" ∧ c ≠ "cell") (h0 : s₀.heap.get? I = none) (ho : ¬ own φ η I) (hb : T.base.get? I = none)
    (k : ∀ b o, b ≠ I → s.heap.get? b = some o → h'.get? b = some o) : FS cw T A L φ₀ η₀ s₀ φ η { s with heap := h', toks := t } env sc Γ ρ :=
  ⟨F.post.but h0 g p ho hb k, F.fr.but g p (F.fr.offOf g hc) k, let ⟨t, u, h1, h2, h3⟩ := F.stk; ⟨t, u, h1, h2, h3.but g k fun q => absurd rfl (hc _ q).1⟩, F.l0, F.c0⟩

theorem StepL.but {o : Obj} (g : h.get? I = some o) (k : ∀ b o, b ≠ I → h.get? b = some o → h'.get? b = some o) (a : (h'.get? I).isSome = true) (st : StepL env φ₀ η₀ h₁ φ η h) (h0 : h₁.get? I = none) : StepL env φ₀ η₀ h₁ φ η h' where
  ext := st.ext
  keep := fun b ob hb ho e => by
    have hne : b ≠ I := fun q => by rw [q, h0] at e; cases e
    exact (st.keep b ob hb ho e).trans fun o' e' => .inl (k b o' hne e')
  osub := st.osub
  alive := fun b ob e => by
    have hne : b ≠ I := fun q => by rw [q, h0] at e; cases e
    obtain ⟨o', e'⟩ := Option.isSome_iff_exists.mp (st.alive b ob e)
    rw [k b o' hne e']; rfl

/-- a statement's end -/
inductive ROk (T : St) (A : Around) (L : Addr) (φ₀ : Phi) (η₀ : H) (s₀ : Shared) (env : Env) (sc : Scope) (Γ : Gam) (φ : Phi) (η : H) (h₀ : Heap) (r : RS) (f : Flow) (s' : Shared) : Prop where
  | mk (φ' : Phi) (η' : H) (ρ' : Rho) (h : r = .next ρ' η' ∧ f = .next ∨ ∃ v x, r = .ret v ρ' η' ∧ f = .ret x ∧ VR T φ' (own φ' η') s'.heap v x) (F : FS true T A L φ₀ η₀ s₀ φ' η' s' env sc Γ ρ') (st : StepL env φ η h₀ φ' η' s'.heap)
inductive REx (T : St) (A : Around) (L : Addr) (φ₀ : Phi) (η₀ : H) (s₀ : Shared) (env : Env) (sc : Scope) (Γ : Gam) (φ : Phi) (η : H) (h₀ : Heap) (r : RS) (e : Value) (s' : Shared) : Prop where
  | mk (c : Nat) (φ' : Phi) (η' : H) (ρ' : Rho) (h : r = .exc c ρ' η') (F : FS true T A L φ₀ η₀ s₀ φ' η' s' env sc Γ ρ') (st : StepL env φ η h₀ φ' η' s'.heap) (x : XR T s'.heap e c L)
noncomputable def SimR (T : St) (A : Around) (L : Addr) (φ₀ : Phi) (η₀ : H) (s₀ : Shared) (env : Env) (sc : Scope) (Γ : Gam) (φ : Phi) (η : H) (s : Shared) (t : Sem Flow) (r : RS) : Prop :=
  r = .fail ∨ wpAny T.M A t (ROk T A L φ₀ η₀ s₀ env sc Γ φ η s.heap r) (REx T A L φ₀ η₀ s₀ env sc Γ φ η s.heap r) s

noncomputable def SimS (T : St) (q : Bool) (d : Nat) (call : Bool → Nat → List V → H → R V) (sc : Scope) (Γ : Gam) (st : S) (x : Stmt) : Prop :=
  ∀ A L φ₀ η₀ s₀ φ η s env ρ, Sta A q d → FS true T A L φ₀ η₀ s₀ φ η s env sc Γ ρ → SimR T A L φ₀ η₀ s₀ env sc Γ φ η s (exec x env) (evS T.P call q st ρ η)
noncomputable def SimSs (T : St) (q : Bool) (d : Nat) (call : Bool → Nat → List V → H → R V) (sc : Scope) (Γ : Gam) (st : List S) (x : List Stmt) : Prop :=
  ∀ A L φ₀ η₀ s₀ φ η s env ρ, Sta A q d → FS true T A L φ₀ η₀ s₀ φ η s env sc Γ ρ → SimR T A L φ₀ η₀ s₀ env sc Γ φ η s (execs x env) (evSs T.P call q st ρ η)

section
variable {r : RS} {k : Rho → H → RS} {tot : RS} {ρ' : Rho} {hh : H}
theorem then_nf (e : r.andThen k = tot) (hf : tot ≠ .fail) : r ≠ .fail := fun h => by subst h; exact hf e.symm
theorem then_next (e : r.andThen k = tot) (er : r = .next ρ' hh) : tot = k ρ' hh := by subst er; exact e.symm
theorem then_ret {v : V} (e : r.andThen k = tot) (er : r = .ret v ρ' hh) : tot = .ret v ρ' hh := by subst er; exact e.symm
theorem then_exc {c : Nat} (e : r.andThen k = tot) (er : r = .exc c ρ' hh) : tot = .exc c ρ' hh := by subst er; exact e.symm
variable {x : R β} {g : β → H → RS}
theorem of_nf (e : RS.of ρ x g = tot) (hf : tot ≠ .fail) : x ≠ .fail := fun h => by subst h; exact hf e.symm
theorem of_ok' {v : β} (e : RS.of ρ x g = tot) (er : x = .ok v hh) : tot = g v hh := by subst er; exact e.symm
theorem of_exc {c : Nat} (e : RS.of ρ x g = tot) (er : x = .exc c hh) : tot = .exc c ρ hh := by subst er; exact e.symm
end
theorem SimR.intro {t : Sem Flow} {r : RS} (h : r ≠ .fail → wpAny T.M A t (ROk T A L φ₀ η₀ s₀ env sc Γ φ η s.heap r) (REx T A L φ₀ η₀ s₀ env sc Γ φ η s.heap r) s) : SimR T A L φ₀ η₀ s₀ env sc Γ φ η s t r := by
  by_cases hf : r = .fail
  · exact .inl hf
  · exact .inr (h hf)
/-- the ends of a statement in turn -/
theorem SimR.elim {t : Sem Flow} {r : RS} {W : Flow → Shared → Prop} {E : Value → Shared → Prop} (h : SimR T A L φ₀ η₀ s₀ env sc Γ φ η s t r) (hf : r ≠ .fail)
    (h1 : ∀ φ' η' ρ' s', r = .next ρ' η' → FS true T A L φ₀ η₀ s₀ φ' η' s' env sc Γ ρ' → StepL env φ η s.heap φ' η' s'.heap → W .next s')
    (h2 : ∀ v x φ' η' ρ' s', r = .ret v ρ' η' → VR T φ' (own φ' η') s'.heap v x → FS true T A L φ₀ η₀ s₀ φ' η' s' env sc Γ ρ' → StepL env φ η s.heap φ' η' s'.heap → W (.ret x) s')
    (h3 : ∀ c φ' η' ρ' e s', r = .exc c ρ' η' → FS true T A L φ₀ η₀ s₀ φ' η' s' env sc Γ ρ' → StepL env φ η s.heap φ' η' s'.heap → XR T s'.heap e c L → E e s') : wpAny T.M A t W E s :=
  wpAny_mono (h.resolve_left hf) (fun f s' k => by
    cases k with
    | mk φ' η' ρ' h F st =>
      cases h with
      | inl h => cases h.2; exact h1 φ' η' ρ' s' h.1 F st
      | inr h => obtain ⟨v, x, e, rfl, r⟩ := h; exact h2 v x φ' η' ρ' s' e r F st) fun e s' k => by cases k with | mk c φ' η' ρ' h F st x => exact h3 c φ' η' ρ' e s' h F st x
theorem ROk.next {φ' : Phi} {η' : H} {ρ' : Rho} {h₀ : Heap} {r : RS} (e : r = .next ρ' η') (F : FS true T A L φ₀ η₀ s₀ φ' η' s' env sc Γ ρ') (st : StepL env φ η h₀ φ' η' s'.heap) : ROk T A L φ₀ η₀ s₀ env sc Γ φ η h₀ r .next s' := ⟨φ', η', ρ', .inl ⟨e, rfl⟩, F, st⟩
theorem ROk.ret {φ' : Phi} {η' : H} {ρ' : Rho} {h₀ : Heap} {r : RS} {v : V} {x : Value} (e : r = .ret v ρ' η') (rv : VR T φ' (own φ' η') s'.heap v x) (F : FS true T A L φ₀ η₀ s₀ φ' η' s' env sc Γ ρ') (st : StepL env φ η h₀ φ' η' s'.heap) : ROk T A L φ₀ η₀ s₀ env sc Γ φ η h₀ r (.ret x) s' := ⟨φ', η', ρ', .inr ⟨v, x, e, rfl, rv⟩, F, st⟩
/-- the ends go on -/
theorem SimR.on {φ₁ : Phi} {η₁ : H} {h₁ : Heap} {t : Sem Flow} {r tot : RS} (h : SimR T A L φ₀ η₀ s₀ env sc Γ φ η s t r) (e : tot = r) (hf : tot ≠ .fail) (st : StepL env φ₁ η₁ h₁ φ η s.heap) :
    wpAny T.M A t (ROk T A L φ₀ η₀ s₀ env sc Γ φ₁ η₁ h₁ tot) (REx T A L φ₀ η₀ s₀ env sc Γ φ₁ η₁ h₁ tot) s :=
  h.elim (e ▸ hf) (fun _ _ _ _ e' F st' => .next (e.trans e') F (st.trans st')) (fun _ _ _ _ _ _ e' r F st' => .ret (e.trans e') r F (st.trans st')) fun c φ' η' ρ' _ _ e' F st' x => ⟨c, φ', η', ρ', e.trans e', F, st.trans st', x⟩

theorem SimR.expr {t : Sem α} {k : α → Sem Flow} {r : R β} {g : β → H → RS} {Q : QR α β} (F : FS true T A L φ₀ η₀ s₀ φ η s env sc Γ ρ) (h1 : Sim T A L φ η s t r Q)
    (h2 : ∀ v η' φ' x s', r = .ok v η' → FS true T A L φ₀ η₀ s₀ φ' η' s' env sc Γ ρ → Q φ' η' s'.heap v x → SimR T A L φ₀ η₀ s₀ env sc Γ φ' η' s' (k x) (g v η')) : SimR T A L φ₀ η₀ s₀ env sc Γ φ η s (t >>= k) (RS.of ρ r g) :=
  .intro fun hf => wpAny_bind (h1.elim (of_nf rfl hf) (fun v η' φ' x s' e p q => (h2 v η' φ' x s' e (F.step p) q).on (of_ok' rfl e) hf p.step.toL) fun c η' φ' e s' he p x => ⟨c, φ', η', ρ, of_exc rfl he, F.step p, p.step.toL, x⟩)
theorem SimR.standAt {p : Pos} {k : Unit → Sem Flow} {r : RS} (h : SimR T A L φ₀ η₀ s₀ env sc Γ φ η s (k ()) r) : SimR T A L φ₀ η₀ s₀ env sc Γ φ η s (PySem.standAt p >>= k) r :=
  h.imp id fun h => wpAny_bind (wpAny_standAt h)
theorem FS.stepL_store (F : FS cw T A L φ₀ η₀ s₀ φ η s env sc Γ ρ) (k : ∀ b o, b ≠ env.locals → (∀ n c, env.cells.lookup n = some c → b ≠ c) → s.heap.get? b = some o → s'.heap.get? b = some o) (a : ∀ b o, s.heap.get? b = some o → (s'.heap.get? b).isSome = true) : StepL env φ η s.heap φ η s'.heap :=
  ⟨List.prefix_refl _, fun b o _ ho e => .inl (k b o ho.1 ho.2 e), fun _ o => .inl o, a⟩

variable {call : Bool → Nat → List V → H → R V}

theorem loc_kind {n : Str} (h : isLoc sc n = true) : sc.names.lookup n = some .local ∨ sc.names.lookup n = some .cell := by
  unfold isLoc at h
  rw [Bool.and_eq_true, Bool.or_eq_true, beq_iff_eq, beq_iff_eq] at h
  exact h.1
theorem loc_store {n : Str} (h : isLoc sc n = true) : sc.names.lookup n = some .local ∨ (sc.names.lookup n = some .cell ∧ true = true) := (loc_kind h).imp id fun x => ⟨x, rfl⟩
theorem loc_debug {n : Str} (h : isLoc sc n = true) : (n == ("__debug__" : Str)) = false := by
  unfold isLoc at h
  rw [Bool.and_eq_true, Bool.not_eq_true'] at h
  exact h.2

/-- a value is stored -/
theorem sim_store {n : Str} {i : Nat} {v : V} {x : Value} {p : Pos} (F : FS true T A L φ₀ η₀ s₀ φ η s env sc Γ ρ) (hΓ : Γ.lookup n = some i) (hn : isLoc sc n = true) (r : VR T φ (own φ η) s.heap v x) :
    SimR T A L φ₀ η₀ s₀ env sc Γ φ η s (do PySem.standAt p; bindName env n x; pure .next) (.next (ρ.set i (some v)) η) :=
  .inr (wpAny_bind (wpAny_standAt (wpAny_bind (wpAny_bindName (F.store hΓ (loc_store hn) r fun s' F' k a _ => wpAny_pure ⟨φ, η, _, .inl ⟨rfl, rfl⟩, F', F.stepL_store k a⟩)))))

theorem s_assign' {x : Nat} {e : E} {n : Str} {v : Expr} {p pos : Pos} (hv : notComp v = true) (hΓ : Γ.lookup n = some x) (hn : isLoc sc n = true) (h : SimE T q d (call q) sc Γ e v) : SimS T q d call sc Γ (.assign x e) (.Assign [.Name n p] v pos) := by
  intro A L φ₀ η₀ s₀ φ η s env ρ X F
  rw [exec_Assign_Name env n p v pos (by cases v <;> first | rfl | cases hv)]
  refine SimR.standAt ?_
  exact SimR.expr F (h A L φ η s env ρ (F.cxt X) F.fr) fun w η' φ' y s' _ F' hq => sim_store F' hΓ hn hq

theorem s_expr {e : E} {v : Expr} {pos : Pos} (hv : notComp v = true) (hi : ∀ env : Env, env.scope.kind = .function → interactive env = false) (h : SimE T q d (call q) sc Γ e v) : SimS T q d call sc Γ (.expr e) (.Expr v pos) := by
  intro A L φ₀ η₀ s₀ φ η s env ρ X F
  rw [exec_Expr env v pos (hi env F.fr.kind) (by cases v <;> first | rfl | cases hv)]
  refine SimR.standAt ?_
  exact SimR.expr F (h A L φ η s env ρ (F.cxt X) F.fr) fun w η' φ' y s' _ F' hq => .inr (wpAny_dropValue ⟨φ', η', ρ, .inl ⟨rfl, rfl⟩, F', .refl⟩)

theorem s_ret' {e : E} {v : Expr} {pos : Pos} (h : SimE T q d (call q) sc Γ e v) : SimS T q d call sc Γ (.ret e) (.Return (some v) pos) := by
  intro A L φ₀ η₀ s₀ φ η s env ρ X F
  rw [exec_Return_some]
  refine SimR.standAt ?_
  exact SimR.expr F (h A L φ η s env ρ (F.cxt X) F.fr) fun w η' φ' y s' _ F' hq => .inr (wpAny_pure ⟨φ', η', ρ, .inr ⟨w, y, rfl, rfl, hq⟩, F', .refl⟩)

theorem s_ite' {c : C} {a b : List S} {t : Expr} {x y : List Stmt} {pos : Pos} (h0 : SimC T q d (call q) sc Γ c t) (h1 : SimSs T q d call sc Γ a x) (h2 : SimSs T q d call sc Γ b y) : SimS T q d call sc Γ (.ite c a b) (.If t x y pos) := by
  intro A L φ₀ η₀ s₀ φ η s env ρ X F
  rw [exec_If]
  refine SimR.standAt ?_
  refine SimR.expr F (h0 A L φ η s env ρ (F.cxt X) F.fr) fun w η' φ' z s' _ F' hq => ?_
  cases hq
  cases w with
  | true => exact h1 A L φ₀ η₀ s₀ φ' η' s' env ρ X F'
  | false => exact h2 A L φ₀ η₀ s₀ φ' η' s' env ρ X F'

theorem ss_nil : SimSs T q d call sc Γ [] [] := fun A L φ₀ η₀ s₀ φ η s env ρ X F => .inr (wpAny_execs_nil (.next rfl F .refl))
theorem ss_cons {st : S} {ss : List S} {x : Stmt} {xs : List Stmt} (h1 : SimS T q d call sc Γ st x) (h2 : SimSs T q d call sc Γ ss xs) : SimSs T q d call sc Γ (st :: ss) (x :: xs) := fun A L φ₀ η₀ s₀ φ η s env ρ X F =>
  .intro (r := (evS T.P call q st ρ η).andThen (evSs T.P call q ss)) fun hf => wpAny_execs_cons ((h1 A L φ₀ η₀ s₀ φ η s env ρ X F).elim (then_nf rfl hf)
    (fun φ' η' ρ' s' e F' st' => (h2 A L φ₀ η₀ s₀ φ' η' s' env ρ' X F').on (then_next rfl e) hf st')
    (fun v x φ' η' ρ' s' e r F' st' => .ret (then_ret rfl e) r F' st')
    fun c φ' η' ρ' e s' er F' st' x => ⟨c, φ', η', ρ', then_exc rfl er, F', st', x⟩)

/-- an exception of the body: the frame is noted, the loop is left -/
theorem noted_back {e : Value} {c : Nat} {E : Value → Shared → Prop} (F : FS cw T A L φ₀ η₀ s₀ φ η s env sc Γ ρ) (x : XR T s.heap e c L)
    (h : ∀ s', Post T φ η s φ η s' → XR T s'.heap e c L → E e s') : notedBy T.M A env (fun e s' => cameBackBy T.M A env E e s') e s := by
  obtain ⟨a, rfl, r⟩ := x
  obtain ⟨top, outer, h1, h2, h3⟩ := F.stk
  refine wpAny_mono (note h1 h2 h3 F.fr.frame F.post.rel r) (fun _ s' ⟨p, rn⟩ => ?_) fun _ _ y => y
  exact came_back F.fr.frame p.rel rn fun s'' p' r' => h s'' (p.trans p') ⟨a, rfl, r'⟩

/-- what a loop goes over -/
noncomputable def SimIt (T : St) (q : Bool) (d : Nat) (call : Nat → List V → H → R V) (sc : Scope) (Γ : Gam) (e : It) (x : Expr) : Prop :=
  ∀ A L φ η s env ρ, Cxt T A L q d φ η s → FR T φ η s.heap L env sc Γ ρ → Sim T A L φ η s (eval x env) (evIt T.P q call e ρ η) (QIt T)
end
end Mine
end
section
namespace Mine
open PySem PyProof.Rows

section
variable {cw : Bool} {T : St} {A : Around} {L : Addr} {q : Bool} {d : Nat} {φ₀ φ φ' : Phi} {η₀ η η' : H} {s₀ s s' : Shared} {h h' : Heap} {env : Env} {sc : Scope} {Γ : Gam} {ρ : Rho} {α β : Type} {I : Addr} {xs : List V} {live : Option (Nat × List V)} {call : Bool → Nat → List V → H → R V}

/-- an iterator as a frame sees it -/
structure Own (T : St) (s₀ : Shared) (φ : Phi) (η : H) (I : Addr) : Prop where
  z : s₀.heap.get? I = none
  o : ¬ own φ η I
  b : T.base.get? I = none
theorem Own.step (x : Own T s₀ φ η I) (st : StepL env φ η h φ' η' h') (g : (h.get? I).isSome = true) : Own T s₀ φ' η' I := by
  obtain ⟨o, e⟩ := Option.isSome_iff_exists.mp g
  exact ⟨x.z, st.off x.o e, x.b⟩

theorem iter_there (x : Iter T φ η h I xs live) : (h.get? I).isSome = true := by
  obtain ⟨o, c, g, _⟩ := x.obj
  rw [g]; rfl

/-- between the turns -/
inductive ForI (T : St) (A : Around) (L : Addr) (φ₀ : Phi) (η₀ : H) (s₀ : Shared) (env : Env) (sc : Scope) (Γ : Gam) (φ₁ : Phi) (η₁ : H) (h₁ : Heap) (I : Addr) (live : Option (Nat × List V)) (stp : V → Rho → H → RS) (tot : RS) (m : Nat) (s : Shared) : Prop where
  | mk (φ : Phi) (η : H) (ρ : Rho) (xs : List V) (hm : m = xs.length) (F : FS true T A L φ₀ η₀ s₀ φ η s env sc Γ ρ) (it : Iter T φ η s.heap I xs live) (ow : Own T s₀ φ η I) (st : StepL env φ₁ η₁ h₁ φ η s.heap) (e : forLoop (still · live) stp xs ρ η = tot)
theorem if_nf {c : Prop} {_ : Decidable c} {r tot : RS} (e : (if c then r else .fail) = tot) (hf : tot ≠ .fail) : c ∧ r = tot := by
  by_cases hc : c
  · exact ⟨hc, by rw [if_pos hc] at e; exact e⟩
  · rw [if_neg hc] at e; exact absurd e.symm hf
theorem for_loop {x : Nat} {n : Str} {p : Pos} {b : List Stmt} {tot : RS} {stp : V → Rho → H → RS} {φ₁ : Phi} {η₁ : H} {h₁ : Heap} (hq : A.handled = none) (hΓ : Γ.lookup n = some x) (hn : isLoc sc n = true)
    (hb : ∀ v φ η s ρ, FS true T A L φ₀ η₀ s₀ φ η s env sc Γ (ρ.set x (some v)) → SimR T A L φ₀ η₀ s₀ env sc Γ φ η s (execs b env) (stp v ρ η)) (hf : tot ≠ .fail)
    (F : FS true T A L φ₀ η₀ s₀ φ η s env sc Γ ρ) (it : Iter T φ η s.heap I xs live) (ow : Own T s₀ φ η I) (hI₁ : h₁.get? I = none) (st : StepL env φ₁ η₁ h₁ φ η s.heap)
    (e : forLoop (still · live) stp xs ρ η = tot) :
    codeAny T.M A (.forLoop (.Name n p) (.ref I) b [] env) (fun r s' => match r with | .ok f => ROk T A L φ₀ η₀ s₀ env sc Γ φ₁ η₁ h₁ tot f s' | .error e => cameBackBy T.M A env (REx T A L φ₀ η₀ s₀ env sc Γ φ₁ η₁ h₁ tot) e s') s := by
  refine codeAny_forLoop (ForI T A L φ₀ η₀ s₀ env sc Γ φ₁ η₁ h₁ I live stp tot) (fun m s hI => ?_) xs.length ⟨φ, η, ρ, xs, rfl, F, it, ow, st, e⟩
  clear e st ow it F
  cases hI with
  | mk φ η ρ xs hm F it ow st e =>
    subst hm
    obtain ⟨oI, gI, pI, cI⟩ := it.priv
    cases xs with
    | nil =>
      obtain ⟨hs, e⟩ := if_nf e hf
      refine it.fin hq F.post.rel hs fun h' k => wpAny_execs_nil (.next e.symm (F.but (t := s.toks) gI pI cI ow.z ow.o ow.b k) ⟨st.ext, fun b ob hb ho e => ?_, st.osub, fun b ob e => ?_⟩)
      · exact (st.keep b ob hb ho e).trans fun o' e' => .inl (k b o' (fun q => by rw [q, hI₁] at e; cases e) e')
      · obtain ⟨o', e'⟩ := Option.isSome_iff_exists.mp (st.alive b ob e)
        exact Option.isSome_iff_exists.mpr ⟨o', k b o' (fun q => by rw [q, hI₁] at e; cases e) e'⟩
    | cons v vs =>
      obtain ⟨hs, e⟩ := if_nf e hf
      refine it.next F.post.rel hs fun y h' t ry it' hsame => ?_
      have k := sameBut_keep hsame
      have F' := F.but (t := t) gI pI cI ow.z ow.o ow.b k
      have st' : StepL env φ₁ η₁ h₁ φ η h' := st.but gI k (iter_there it') hI₁
      refine wpAny_assign_Name (F'.store hΓ (loc_store hn) ry fun s₂ F₂ k₂ a₂ v₂ => ?_)
      have stS := st'.trans (F'.stepL_store k₂ a₂)
      have it₂ : Iter T φ η s₂.heap I vs live := it'.stepL (F'.stepL_store k₂ a₂) F'.fr ow.o
      exact (hb v φ η s₂ ρ F₂).elim (then_nf e hf) (fun φ₃ η₃ ρ₃ s₃ er F₃ st₃ => ⟨vs.length, Nat.lt_succ_self _, φ₃, η₃, ρ₃, vs, rfl, F₃, it₂.stepL st₃ F₂.fr ow.o, ow.step st₃ (iter_there it₂), stS.trans st₃, (then_next e er).symm⟩)
        (fun w y' φ₃ η' ρ' s₃ er r F₃ st₃ => .ret (then_ret e er) r F₃ (stS.trans st₃))
        fun c φ₃ η' ρ' e' s₃ er F₃ st₃ xr => noted_back F₃ xr fun s₄ p₄ xr₄ => ⟨c, φ₃, η', ρ', then_exc e er, F₃.step p₄, (stS.trans st₃).trans p₄.step.toL, xr₄⟩

theorem s_for1' {x : Nat} {n : Str} {p pos : Pos} {it : It} {iter : Expr} {body : List S} {b : List Stmt} (hset : ∀ env y, foldedSetIterable iter env y = pure y) (hΓ : Γ.lookup n = some x) (hn : isLoc sc n = true) (hi : SimIt T q d (call q) sc Γ it iter) (hb : SimSs T q d call sc Γ body b) :
    SimS T q d call sc Γ (.for1 x it body) (.For (.Name n p) iter b [] pos) := by
  intro A L φ₀ η₀ s₀ φ η s env ρ X F
  refine .intro fun hf => wpAny_For ((hi A L φ η s env ρ (F.cxt X) F.fr).elim (of_nf rfl hf) (fun v η' φ₁ y s' e p hy => ?_) fun c η' φ' e s' he p x => ⟨c, φ', η', ρ, of_exc rfl he, F.step p, p.step.toL, x⟩) (hset env)
  have ee := of_ok' (tot := evS T.P call q (.for1 x it body) ρ η) (ρ := ρ) rfl e
  generalize evS T.P call q (.for1 x it body) ρ η = tot at ee hf
  cases e2 : itemsOf η' v with
  | none => rw [e2] at ee; exact absurd ee hf
  | some pr =>
    rw [e2] at ee
    obtain ⟨hql, ee⟩ := if_nf ee.symm hf
    refine iter_start p.rel e2 hy fun I h' hI hk it' => ?_
    have F₁ := F.step p
    obtain ⟨z, o, bb⟩ := F₁.fresh hI
    have p2 : Post T φ₁ η' s' φ₁ η' { s' with heap := h' } := Post.grown (k := s'.toks) p.rel hk
    have hI₁ : s.heap.get? I = none := by
      cases e : s.heap.get? I with
      | none => rfl
      | some o => have := p.step.alive I o e; rw [hI] at this; cases this
    exact for_loop (X.hand hql.1) hΓ hn (fun v φ η s ρ F => hb A L φ₀ η₀ s₀ φ η s env _ X F) hf (F₁.step p2) it' ⟨z, o, bb⟩ hI₁ (p.trans p2).step.toL ee

end
end Mine
end
section
namespace Mine
open PySem PyProof.Rows

section
variable {M : Model} {A : Around} {E : Value → Shared → Prop} {s : Shared} {env : Env}

/-- what stands behind a comprehension's loop -/
noncomputable def CompEnd (M : Model) (A : Around) (E : Value → Shared → Prop) (use : Option (Value → Sem Unit)) (Q : Value → Shared → Prop) (acc : Value) (cenv : Env) (r : Result) (s' : Shared) : Prop :=
  match r, use with
  | .ok _, none => ∃ m, s'.heap.Ns cenv.locals m ∧ ∀ h', Heap.SameBut cenv.locals s'.heap h' → Q acc { s' with heap := h' }
  | .ok _, some u => wpAny M A (u acc) (fun _ s'' => ∃ m, s''.heap.Ns cenv.locals m ∧ ∀ h', Heap.SameBut cenv.locals s''.heap h' → Q .none { s'' with heap := h' }) E s'
  | .error x, _ => ∃ m, s'.heap.Ns cenv.locals m ∧ ∀ h', Heap.SameBut cenv.locals s'.heap h' → wpAny M A (passOn "comprehension.variables-let-go" x cenv : Sem Value) (fun _ _ => False) E { s' with heap := h' }

theorem comp_rule {e : Expr} {scope : Scope} {pos : Pos} {newAcc first : Sem Value} {g : Comprehension} {gs : List Comprehension} {cl : List (Str × Addr)} {use : Option (Value → Sem Unit)}
    {Q : Value → Shared → Prop} (hcl : clausesOf e = g :: gs) (hs : ∀ x, foldedSetIterable g.iter env x = pure x) (hclos : closureFor scope env = pure cl)
    (hkind : scope.kind = .function) (hnames : ∀ x ∈ scope.names, x.2 = .local → scope.names.lookup x.1 = some .local)
    (h : wpAny M A first (fun x s₁ => wpAny M A (pyIter x) (fun it s₂ => wpAny M A newAcc (fun acc s₃ =>
      wpAny M A (newFunctionEnv scope env.globals cl [] env.qual none .none (some env)) (fun cenv s₄ =>
        codeAny M A (.compStart e 0 it acc { cenv with scope := relabel scope env }) (CompEnd M A E use Q acc { cenv with scope := relabel scope env }) s₄) E s₃) E s₂) E s₁) E s) :
    wpAny M A (comprehension e scope env pos newAcc false first use) Q E s := by
  unfold comprehension
  rw [hclos, hcl]
  refine wpAny_bind (wpAny_mono h (fun x s₁ h₁ => wpAny_bind (wpAny_standAt (wpAny_bind (wpAny_of_eq (hs x) (wpAny_bind (wpAny_holding (wpAny_mono h₁ (fun it s₂ h₂ =>
    wpAny_standIf (wpAny_bind (wpAny_mono h₂ (fun acc s₃ h₃ => wpAny_bind (wpAny_pure (wpAny_bind (wpAny_mono h₃ (fun cenv s₄ h₄ => ?_) fun _ _ h' => h')))) fun _ _ h' => h')))
      fun _ _ h' => h'))))))) fun _ _ h' => h')
  dsimp only
  have hv : ∀ x ∈ (scope.names.filter fun x => (x.2 == .local || x.2 == .cell) && x.1 != (".0" : Str)).reverse, x.2 = .local → Env.kindOf { cenv with scope := relabel scope env } x.1 = some .local :=
    fun x hx hl => lookup_relabel_local (hnames x (List.mem_filter.mp (List.mem_reverse.mp hx)).1 hl)
  have hv' : ∀ x ∈ (scope.names.filter fun x => (x.2 == .local || x.2 == .cell) && x.1 != (".0" : Str)).reverse.drop 1 ++ (scope.names.filter fun x => (x.2 == .local || x.2 == .cell) && x.1 != (".0" : Str)).reverse.take 1,
      x.2 = .local → Env.kindOf { cenv with scope := relabel scope env } x.1 = some .local := fun x hx hl => by
    rcases List.mem_append.mp hx with h1 | h1
    · exact hv x (List.mem_of_mem_drop h1) hl
    · exact hv x (List.mem_of_mem_take h1) hl
  refine wpAny_holding (wpAny_bind (wpAny_attempt (wpAny_holding (wpAny_run (codeAny_mono h₄ fun r s' hr => ?_)))))
  cases r with
  | ok f =>
    cases use with
    | none =>
      obtain ⟨m, hn, hr⟩ := hr
      exact wpAny_bind (wpAny_holding (wpAny_comp_letGo (cenv := { cenv with scope := relabel scope env }) hkind _ s' m hv hn fun h' m' _ hs' => wpAny_pure (hr h' hs')))
    | some u =>
      refine wpAny_bind (wpAny_rule (wpAny_bind (wpAny_holding (wpAny_mono hr (fun _ s'' hr' => ?_) fun _ _ h' => h'))))
      obtain ⟨m, hn, hr'⟩ := hr'
      exact wpAny_bind (wpAny_comp_letGo (cenv := { cenv with scope := relabel scope env }) hkind _ s'' m hv' hn fun h' m' _ hs' => wpAny_pure (hr' h' hs'))
  | error x =>
    have hr' : ∃ m, s'.heap.Ns cenv.locals m ∧ ∀ h', Heap.SameBut cenv.locals s'.heap h' → wpAny M A (passOn "comprehension.variables-let-go" x { cenv with scope := relabel scope env } : Sem Value) (fun _ _ => False) E { s' with heap := h' } := by cases use <;> exact hr
    obtain ⟨m, hn, hr⟩ := hr'
    exact wpAny_bind (wpAny_holding (wpAny_comp_letGo (cenv := { cenv with scope := relabel scope env }) hkind _ s' m hv hn fun h' m' _ hs' => wpAny_mono (hr h' hs') (fun _ _ f => f.elim) fun _ _ y => y))
end

/-- the cells that a comprehension takes along -/
noncomputable def closL (env : Env) : List (Str × NameKind) → List (Str × Addr) → List (Str × Addr)
  | [], acc => acc
  | (n, k) :: r, acc => if k == .free then closL env r ((n, (env.cells.lookup n).getD 0) :: acc) else closL env r acc

theorem closure_eq (scope : Scope) (env : Env) (h : ∀ p ∈ scope.names, p.2 = .free → (env.cells.lookup p.1).isSome = true) : closureFor scope env = pure (closL env scope.names []) := by
  have go : ∀ (names : List (Str × NameKind)) (acc : List (Str × Addr)), (∀ p ∈ names, p.2 = .free → (env.cells.lookup p.1).isSome = true) →
      (forIn names acc fun (x : Str × NameKind) (cs : List (Str × Addr)) => (if (x.2 == .free) = true then (do let c ← cellOf env x.1; pure (ForInStep.yield ((x.1, c) :: cs))) else pure (ForInStep.yield cs) : Sem (ForInStep (List (Str × Addr))))) = (pure (closL env names acc) : Sem (List (Str × Addr))) := by
    intro names
    induction names with
    | nil => intro acc _; rfl
    | cons p r ih =>
      intro acc hp
      obtain ⟨n, k⟩ := p
      rw [List.forIn_cons]
      unfold closL
      by_cases hk : (k == NameKind.free) = true
      · have := hp (n, k) List.mem_cons_self (by simpa using hk)
        obtain ⟨c, hc⟩ := Option.isSome_iff_exists.mp this
        have e : cellOf env n = (pure c : Sem Addr) := by unfold cellOf; rw [show env.cells.lookup n = some c from hc]
        rw [if_pos hk, if_pos hk]
        show ((cellOf env n >>= fun c => pure (ForInStep.yield ((n, c) :: acc))) >>= _) = _
        rw [e, show env.cells.lookup n = some c from hc]
        exact ih _ fun p hm => hp p (List.mem_cons_of_mem _ hm)
      · rw [if_neg hk, if_neg hk]
        exact ih _ fun p hm => hp p (List.mem_cons_of_mem _ hm)
  have := go scope.names [] h
  exact (congrArg (fun t : Sem (List (Str × Addr)) => t >>= fun cs => pure cs) this).trans rfl

theorem closL_sub {env : Env} : ∀ (names : List (Str × NameKind)) (acc : List (Str × Addr)), (∀ p ∈ names, p.2 = .free → (env.cells.lookup p.1).isSome = true) → (∀ n c, acc.lookup n = some c → env.cells.lookup n = some c) →
    ∀ n c, (closL env names acc).lookup n = some c → env.cells.lookup n = some c
  | [], acc, _, h, n, c, e => h n c e
  | (m, k) :: r, acc, hp, h, n, c, e => by
    unfold closL at e
    split at e
    · rename_i hk
      refine closL_sub r _ (fun p hm => hp p (List.mem_cons_of_mem _ hm)) (fun n' c' e' => ?_) n c e
      rw [List.lookup_cons] at e'
      cases hb : n' == m with
      | true =>
        rw [hb] at e'; cases e'
        rw [beq_iff_eq.mp hb]
        obtain ⟨c, hc⟩ := Option.isSome_iff_exists.mp (hp (m, k) List.mem_cons_self (by simpa using hk))
        rw [show env.cells.lookup m = some c from hc]; rfl
      | false => rw [hb] at e'; exact h n' c' e'
    · exact closL_sub r acc (fun p hm => hp p (List.mem_cons_of_mem _ hm)) h n c e
theorem closL_acc {env : Env} : ∀ (names : List (Str × NameKind)) (acc : List (Str × Addr)) (n : Str), (acc.lookup n).isSome = true → ((closL env names acc).lookup n).isSome = true
  | [], acc, n, h => h
  | (m, k) :: r, acc, n, h => by
    unfold closL
    split
    · refine closL_acc r _ n ?_
      rw [List.lookup_cons]
      cases n == m
      · exact h
      · rfl
    · exact closL_acc r acc n h
theorem closL_has {env : Env} : ∀ (names : List (Str × NameKind)) (acc : List (Str × Addr)) (n : Str), (n, NameKind.free) ∈ names → ((closL env names acc).lookup n).isSome = true
  | (m, k) :: r, acc, n, h => by
    unfold closL
    rcases List.mem_cons.mp h with e | h
    · cases e
      rw [if_pos (by decide)]
      refine closL_acc r _ _ ?_
      rw [List.lookup_cons, beq_self_eq_true]; rfl
    · split
      · exact closL_has r _ n h
      · exact closL_has r _ n h

theorem lookup_relabelS (csc sc : Scope) (n : Str) : (relabelS csc sc).names.lookup n = (csc.names.lookup n).map fun k => if (k == .free && sc.kind == .function && sc.names.lookup n == some .cell) then NameKind.cell else k := by
  unfold relabelS
  dsimp only
  induction csc.names with
  | nil => rfl
  | cons p r ih =>
    obtain ⟨m, k⟩ := p
    rw [List.map_cons]
    show List.lookup n ((if (k == NameKind.free && sc.kind == .function && sc.names.lookup m == some .cell) = true then (m, NameKind.cell) else (m, k)) :: _) = Option.map _ (List.lookup n ((m, k) :: r))
    by_cases hc : (k == NameKind.free && sc.kind == .function && sc.names.lookup m == some .cell) = true
    · rw [if_pos hc, List.lookup_cons, List.lookup_cons]
      cases hb : n == m with
      | true => have := beq_iff_eq.mp hb; subst this; dsimp only; rw [Option.map_some, if_pos hc]
      | false => exact ih
    · rw [if_neg hc, List.lookup_cons, List.lookup_cons]
      cases hb : n == m with
      | true => have := beq_iff_eq.mp hb; subst this; dsimp only; rw [Option.map_some, if_neg hc]
      | false => exact ih
end Mine
end
section
namespace Mine
open PySem PySem.W PySem.Calls PyProof.Rows

noncomputable def bnames : List Str := ["len", "int", "str", "tuple", "sorted", "min", "max", "isinstance", "list", "range", "enumerate", "bool", "ValueError"]

/-- the ground: what the program's names stand for -/
structure Gd (T : St) (N : Nm) where
  K : Frag
  kin : K.In T.base
  fn : Nat → Addr
  bns : ∃ mb, T.base.Ns builtinsNs mb ∧ ∀ x : Str, x ≠ "__name__" → mb x = bootBuiltins x
  nob : ∀ x ∈ bnames, nsIn K mainGlobals x = some none
  fns : ∀ (f : Nat) (n : Str), N.fnm[f]? = some n → n ≠ ("" : Str) → nsIn K mainGlobals n = some (some (.ref (fn f))) ∧ keepIn K (.ref (fn f)) = true
  vals : ∀ (g : Nat) (n : Str) (v : V), N.glm[g]? = some n → N.glv[g]? = some v → ∃ val, nsIn K mainGlobals n = some (some val) ∧ ∀ φ M h, VR T φ M h v val

section
variable {T : St} {N : Nm} {A : Around} {L : Addr} {q : Bool} {d : Nat} {φ φ' : Phi} {η η' : H} {s s' : Shared} {env : Env} {sc : Scope} {Γ : Gam} {ρ : Rho} {α β : Type} {call' : Nat → List V → H → R V}

theorem Gd.here (G : Gd T N) (R : Rel T φ η s.heap) : G.K.In s.heap := G.kin.keeps R.base

/-- a global name -/
theorem name_glob (G : Gd T N) (R : Rel T φ η s.heap) (F : FR T φ η s.heap L env sc Γ ρ) {n : Str} {pos : Pos} {v : Value} {Q : Value → Shared → Prop} {E : Value → Shared → Prop} (hn : isGlo sc n = true) (e : nsIn G.K mainGlobals n = some (some v)) (h : Q v s) :
    wpAny T.M A (eval (.Name n pos) env) Q E s := by
  unfold isGlo at hn
  rw [Bool.and_eq_true, beq_iff_eq, Bool.not_eq_true'] at hn
  refine Name_function_global F.kind (by unfold Env.kindOf; rw [F.sc]; exact hn.1) ?_ hn.2
  unfold loadGlobal
  rw [F.glob]
  refine wpAny_bind ((looks_nsIn (G.here R) e).here ?_)
  exact wpAny_pure h
theorem name_boot (G : Gd T N) (R : Rel T φ η s.heap) (F : FR T φ η s.heap L env sc Γ ρ) {n : Str} {pos : Pos} {v : Value} {Q : Value → Shared → Prop} {E : Value → Shared → Prop} (hn : isGlo sc n = true) (hb : n ∈ bnames) (e : bootBuiltins n = some v) (h : Q v s) :
    wpAny T.M A (eval (.Name n pos) env) Q E s := by
  unfold isGlo at hn
  rw [Bool.and_eq_true, beq_iff_eq, Bool.not_eq_true'] at hn
  refine Name_function_global F.kind (by unfold Env.kindOf; rw [F.sc]; exact hn.1) ?_ hn.2
  obtain ⟨mb, hm, hmb⟩ := G.bns
  unfold loadGlobal
  rw [F.glob, F.bi]
  refine wpAny_bind ((looks_nsIn (G.here R) (G.nob n hb)).here ?_)
  refine wpAny_bind (wpAny_nsGet (hm.keeps R.base) ?_)
  have hne : n ≠ "__name__" := by rintro rfl; revert hb; decide +kernel
  rw [hmb n hne, e]
  exact wpAny_pure h

theorem boot_bi (b : Bi) : biName b ∈ bnames ∧ bootBuiltins (biName b) = some (match b with | .len => .builtin "len" | .int => .type "int" | .str => .type "str" | .tuple => .type "tuple" | .sorted => .builtin "sorted" | .min => .builtin "min" | .max => .builtin "max") := by
  cases b <;> exact ⟨by decide +kernel, by decide +kernel⟩

theorem at_name {l : List Str} {i : Nat} {n : Str} (h : atName l i n = true) : l[i]? = some n ∧ n ≠ ("" : Str) := by
  unfold atName at h
  rw [Bool.and_eq_true, beq_iff_eq, Bool.not_eq_true', beq_eq_false_iff_ne] at h
  exact h
theorem e_glob (G : Gd T N) {g : Nat} {v : V} {n : Str} {pos : Pos} (hg : atName N.glm g n = true) (hn : isGlo sc n = true) (hv : (N.glv[g]?).any (constEq v) = true) : SimE T q d call' sc Γ (.glob g v) (.Name n pos) := by
  intro A L φ η s env ρ X F
  obtain ⟨w, hw, hv⟩ := any_some hv
  have hv := constEq_eq hv
  subst hv
  obtain ⟨val, e, r⟩ := G.vals g n v (at_name hg).1 hw
  exact .ok rfl (name_glob G X.rel F hn e ⟨φ, .refl X.rel, r _ _ _⟩)

/-- no star among the arguments -/
noncomputable def plainArgs (xs : List Expr) : Prop := xs.all plainArg = true
theorem args_plain {xs : List Expr} {pos : Pos} (h : plainArgs xs) : (backTo pos (starEach xs env)).any (·.1) = false ∧ (xs = [] ∨ ∃ t r, backTo pos (starEach xs env) = (false, t) :: r) := by
  unfold plainArgs at h
  induction xs with
  | nil => exact ⟨rfl, .inl rfl⟩
  | cons x xs ih =>
    rw [List.all_cons, Bool.and_eq_true] at h
    rw [starEach_plain h.1]
    refine ⟨?_, .inr ⟨_, _, rfl⟩⟩
    show (false || (backTo pos (starEach xs env)).any (·.1)) = false
    rw [(ih h.2).1]; rfl

theorem evalArgs_none {M : Model} {f : Value} {Q : Args → Shared → Prop} {E : Value → Shared → Prop} (h : wpAny M A (spliced []) (fun vs s' => Q ⟨vs, []⟩ s') E s) : wpAny M A (evalArgs f true [] []) Q E s := by
  unfold evalArgs
  show wpAny M A (spliced [] >>= _) Q E s
  refine wpAny_bind (wpAny_mono h (fun vs s' h' => wpAny_holding ?_) fun _ _ x => x)
  exact wpAny_bind (wpAny_pure (wpAny_bind (wpAny_pure (wpAny_pure h'))))
theorem sim_evalArgs {γ : Type} {f : Value} {xs : List Expr} {pos : Pos} {r : R γ} {Q : QR (List Value) γ} (hp : plainArgs xs) (h1 : Sim T A L φ η s (spliced (backTo pos (starEach xs env))) r Q) :
    Sim T A L φ η s (evalArgs f true (backTo pos (starEach xs env)) []) r (fun φ η h v (a : Args) => Q φ η h v a.pos ∧ a.kw = []) := by
  rcases (args_plain (env := env) (pos := pos) hp).2 with e | ⟨t, r, e⟩
  · subst e
    exact h1.imp id fun h1 => evalArgs_none (wpAny_mono h1 (fun vs s' ⟨v, η', φ', a, b, c⟩ => ⟨v, η', φ', a, b, c, rfl⟩) fun _ _ y => y)
  · rw [e] at h1 ⊢
    exact h1.imp id fun h1 => evalArgs_plain (wpAny_mono h1 (fun vs s' ⟨v, η', φ', a, b, c⟩ => ⟨v, η', φ', a, b, c, rfl⟩) fun _ _ y => y)

/-- a call: the arguments, then the call itself -/
theorem sim_callWithG {γ : Type} {f : Value} {first : List Value} {xs : List Expr} {pos p₀ : Pos} {r : R γ} {g : γ → H → R V} {Q : QR (List Value) γ}
    (hk : ∀ h, (∀ b o, T.base.get? b = some o → h.get? b = some o) → ∃ k, (k = Keeper.frame ∨ k = Keeper.machine ∨ k = Keeper.boundFrame) ∧ Looks T.M h (keeperOf f) k)
    (hp : plainArgs xs) (h : Sim T A L φ η s (spliced (backTo pos (starEach xs env))) r Q)
    (h2 : ∀ v η' φ' ys s', r = .ok v η' → Post T φ η s φ' η' s' → Q φ' η' s'.heap v ys → Sim T A L φ' η' s' (PySem.call f (first ++ ys)) (g v η') (QV T)) :
    Sim T A L φ η s (callWith p₀ f first (backTo pos (starEach xs env)) []) (r.bind g) (QV T) := by
  refine (Sim.nest (Q₂ := QV T) (k := fun a : Args => PySem.call f (first ++ a.pos) a.kw) (sim_evalArgs (f := f) (pos := pos) hp h) fun vs η' φ' a s' e p hq => ?_).imp id fun w => ?_
  · rw [hq.2]; exact h2 vs η' φ' a.pos s' e p hq.1
  · exact callWith_of (P := fun h => ∀ b o, T.base.get? b = some o → h.get? b = some o) (by rw [(args_plain hp).1]; rfl) hk (wpAny_mono w (fun a s₁ ⟨⟨v, η', φ', e, p, hq⟩, w⟩ => ⟨p.rel.base, w⟩) fun _ _ y => y)
theorem sim_callWith {f : Value} {first : List Value} {es : List E} {xs : List Expr} {pos p₀ : Pos} {g : List V → H → R V} (hk : ∀ h, (∀ b o, T.base.get? b = some o → h.get? b = some o) → ∃ k, (k = Keeper.frame ∨ k = Keeper.machine ∨ k = Keeper.boundFrame) ∧ Looks T.M h (keeperOf f) k)
    (hp : plainArgs xs) (h : SimEs T q d call' sc Γ es xs) (X : Cxt T A L q d φ η s) (F : FR T φ η s.heap L env sc Γ ρ)
    (h2 : ∀ vs η' φ' ys s', evEs T.P q call' es ρ η = .ok vs η' → Post T φ η s φ' η' s' → VRs T φ' (own φ' η') s'.heap vs ys → Sim T A L φ' η' s' (PySem.call f (first ++ ys)) (g vs η') (QV T)) :
    Sim T A L φ η s (callWith p₀ f first (backTo pos (starEach xs env)) []) ((evEs T.P q call' es ρ η).bind g) (QV T) :=
  sim_callWithG (Q := QVs T) hk hp (h A L φ η s env ρ pos X F) h2

theorem seq_view {v : V} {x : Value} {xs : List V} (R : Rel T φ η s.heap) (e : seqOf η v = some xs) (r : QV T φ η s.heap v x) :
    ∃ a items k, x = .ref a ∧ (s.heap.get? a = some (listO items k) ∨ s.heap.get? a = some (tupO items k)) ∧ VRs T φ (own φ η) s.heap xs items.toList := by
  unfold seqOf at e
  split at e
  · cases e
    simp only [QV, VR] at r
    obtain ⟨a, items, k, rfl, _, g, r⟩ := r
    exact ⟨a, items, k, rfl, .inr g, r⟩
  · obtain ⟨a, items, k, rfl, g, r⟩ := list_view R e r
    exact ⟨a, items, k, rfl, .inl g, r⟩

/-- len -/
theorem sim_len {v : V} {x : Value} (R : Rel T φ η s.heap) (r : QV T φ η s.heap v x) : Sim T A L φ η s (PySem.call (.builtin "len") [x]) (match lenV η v with | some n => if n ≤ 100000 then .ok (.int n) η else .fail | none => .fail) (QV T) := by
  cases e : lenV η v with
  | none => exact .fail
  | some n =>
    dsimp only
    split
    · rename_i hn
      unfold lenV at e
      split at e
      · rename_i sg
        cases e
        simp only [QV, VR] at r
        obtain ⟨t, rfl⟩ := r
        refine .ok rfl (P.len_str (by rw [str_len]; omega) ⟨φ, .toks R, ?_⟩)
        simp only [QV, VR, str_len]
        exact ⟨_, rfl⟩
      · obtain ⟨xs, e', rfl⟩ := Option.map_eq_some_iff.mp e
        obtain ⟨a, items, k, rfl, g, rr⟩ := seq_view R e' r
        have hsz := len_items rr
        rcases g with g | g
        · refine .ok rfl (call_len_list (isList_of g) (by omega) ⟨φ, .toks R, ?_⟩)
          simp only [QV, VR, hsz]; exact ⟨_, rfl⟩
        · refine .ok rfl (len_tuple ⟨_, g, rfl, k, rfl⟩ (by omega) ⟨φ, .toks R, ?_⟩)
          simp only [QV, VR, hsz]; exact ⟨_, rfl⟩
    · exact .fail

theorem digits_ok {sg : List Nat} (h : (sg.all isDigit && decide (1 ≤ sg.length) && decide (sg.length ≤ 18)) = true) : PySem.intText? ⟨sg.toArray⟩ = some ((readNat sg : Nat) : Int) ∧ (⟨sg.toArray⟩ : Str).length ≤ 640 := by
  rw [Bool.and_eq_true, Bool.and_eq_true, decide_eq_true_eq, decide_eq_true_eq] at h
  obtain ⟨⟨h1, h2⟩, h3⟩ := h
  have hd : NumText.AllDigits (⟨sg.toArray⟩ : Str).cps.toList := by
    intro c hc
    have := List.all_eq_true.mp h1 c (by simpa using hc)
    unfold isDigit at this
    rw [Bool.and_eq_true, decide_eq_true_eq, decide_eq_true_eq] at this
    exact this
  have hv : NumText.digitsVal sg = readNat sg := by
    unfold NumText.digitsVal readNat
    congr 1
    funext a c
    rw [Nat.mul_comm]
  refine ⟨?_, by rw [str_len]; omega⟩
  have := PySem.intText_digits hd (by intro q; rw [show (⟨sg.toArray⟩ : Str).cps.toList = sg by simp] at q; subst q; simp at h2) (by rw [str_len]; omega)
  rw [this]
  simp only [hv]

/-- int of a flag or of figures, str of a number, tuple of a list -/
theorem sim_int {v : V} {x : Value} (R : Rel T φ η s.heap) (r : QV T φ η s.heap v x) : Sim T A L φ η s (PySem.call (.type "int") [x]) (biV q .int η [v]) (QV T) := by
  cases v with
  | bool b =>
    simp only [QV, VR] at r; subst r
    exact .ok rfl (call_int_bool ⟨φ, .toks R, by simp [QV, VR]⟩)
  | str sg =>
    show Sim T A L φ η s _ (if sg.all isDigit && decide (1 ≤ sg.length) && decide (sg.length ≤ 18) then Mine.R.ok (V.int (readNat sg)) η else .fail) _
    split
    · rename_i hd
      simp only [QV, VR] at r
      obtain ⟨t, rfl⟩ := r
      obtain ⟨h1, h2⟩ := digits_ok hd
      exact .ok rfl (KIN.call_text h1 h2 ⟨φ, .toks R, by simp [QV, VR]⟩)
    · exact .fail
  | _ => exact .fail

/-- list of a list or a tuple -/
theorem sim_toList (mu : Bool) {v : V} {x : Value} (R : Rel T φ η s.heap) (r : QV T φ η s.heap v x) :
    Sim T A L φ η s (PySem.call (.type "list") [x]) (match seqOf η v with | some xs => if xs.length ≤ 100000 then mkList mu xs η else .fail | none => .fail) (QV T) := by
  cases e : seqOf η v with
  | none => exact .fail
  | some xs =>
    dsimp only
    split
    · rename_i hn
      obtain ⟨a, items, k, rfl, g, rr⟩ := seq_view R e r
      have hsz := len_items rr
      have fin : ∀ h' c', (∀ b o', s.heap.get? b = some o' → h'.get? b = some o') → h'.get? s.heap.objs.size = some { cls := .type "list", dict := none, data := .seq items c', slots := #[] } → ∃ v η' φ', mkList mu xs η = .ok v η' ∧ Post T φ η s φ' η' { s with heap := h' } ∧ VR T φ' (own φ' η') h' v (.ref s.heap.objs.size) :=
        fun h' c' hk hg => mk_listG mu R rr hk (Nat.le_refl _) hg s.toks
      refine .inr ?_
      rcases g with g | g
      · exact call_list_seq a (.inl rfl) g rfl rfl (fun h' c' hk hg => let ⟨v, η', φ', e1, p, rv⟩ := fin h' c' hk hg; ⟨v, η', φ', e1, p, rv⟩) (by rw [hsz]; exact line_le hn)
      · exact call_list_seq a (.inr rfl) g rfl rfl (fun h' c' hk hg => let ⟨v, η', φ', e1, p, rv⟩ := fin h' c' hk hg; ⟨v, η', φ', e1, p, rv⟩) (by rw [hsz]; exact line_le hn)
    · exact .fail
end
end Mine
end
section
namespace Mine
open PySem PySem.W PySem.Calls PyProof.Rows

section
variable {T : St} {N : Nm} {A : Around} {L : Addr} {q : Bool} {d : Nat} {φ φ' : Phi} {η η' : H} {s s' : Shared} {env : Env} {sc : Scope} {Γ : Gam} {ρ : Rho} {α β : Type} {call' : Nat → List V → H → R V}

/-- a list grows -/
theorem sim_append {n : Nat} {v : V} {x : Value} {xs : List V} {p : Addr × Addr} (R : Rel T φ η s.heap) (hn : η[n]? = some (.list xs)) (hp : φ[n]? = some p) (hsz : xs.length ≤ 100000) (r : QV T φ η s.heap v x) :
    Sim T A L φ η s (PySem.call (.builtin "list.append") [.ref p.1, x]) (.ok .none (η.set n (.list (xs ++ [v])))) (QV T) := by
  obtain ⟨_, items, k, g, rr⟩ := R.obj n _ p hn hp
  have hl := len_items rr
  refine .ok rfl (call_meets F.slot_list_append ⟨_, g, rfl⟩ F.entry_list_append (F.args_list_append_2 _ _) (list_append p.1 items k x (by rw [hl]; exact line_le hsz)) ⟨g, φ, upd_list R hn hp g (fun a => a.push x) ?_ s.toks, by simp [QV, VR]⟩)
  simp only [Array.toList_push]
  refine rr.append ?_
  simp only [VRs]; exact ⟨x, [], rfl, r, rfl⟩
theorem app_sim {n : Nat} {v : V} {x : Value} {p : Addr × Addr} (R : Rel T φ η s.heap) (hp : φ[n]? = some p) (r : QV T φ η s.heap v x) : Sim T A L φ η s (PySem.call (.builtin "list.append") [.ref p.1, x]) (appN η n v) (QV T) :=
  Sim.getL fun _ hn => Sim.ifF fun hsz => sim_append R hn hp hsz r

/-- a list loses its first -/
theorem sim_pop0 {n : Nat} {t : Tok} {v : V} {xs : List V} {p : Addr × Addr} (R : Rel T φ η s.heap) (hn : η[n]? = some (.list (v :: xs))) (hp : φ[n]? = some p) (hsz : xs.length ≤ 99999) :
    Sim T A L φ η s (PySem.call (.builtin "list.pop") [.ref p.1, .int 0 t]) (.ok v (η.set n (.list xs))) (QV T) := by
  obtain ⟨_, items, k, g, rr⟩ := R.obj n _ p hn hp
  have hl := len_items rr
  have rr' := rr
  simp only [VRs] at rr'
  obtain ⟨y, ys, hy, r1, r2⟩ := rr'
  have h0 : items[0]? = some y := by rw [← Array.getElem?_toList, hy]; rfl
  have hz : items.size = xs.length + 1 := by rw [hl]; rfl
  have U := upd_list (s := s) R hn hp g (xs' := xs) (fun a => a.eraseIdxIfInBounds 0) (by
    have : (items.eraseIdxIfInBounds 0).toList = ys := by
      rw [Array.toList_eraseIdxIfInBounds, hy]; rfl
    rw [this]; exact r2) s.toks
  refine .ok rfl (call_meets F.slot_list_pop ⟨_, g, rfl⟩ F.entry_list_pop (F.args_list_pop_2 _ _) (MeetsSeq.list_pop_at p.1 items k 0 t 0 y (by decide) (by rw [hz]; unfold seqIndex?; simp) h0 (by rw [hz]; exact line_le (by omega))) ⟨g, φ, U, VR.step U.step _ _ r1⟩)
end
end Mine
end
section
namespace Mine
open PySem PySem.W PySem.Calls PyProof.Rows

section
variable {T : St} {N : Nm} {A : Around} {L : Addr} {q : Bool} {d : Nat} {φ φ' : Phi} {η η' : H} {s s' : Shared} {env : Env} {sc : Scope} {Γ : Gam} {ρ : Rho} {α β : Type} {call' : Nat → List V → H → R V}

/-- the type and the method's own name -/
noncomputable def kindT (k : Nat) : String := if k == 1 then "str" else if k == 2 then "list" else "dict"
noncomputable def bmId (m : Bm) (k : Nat) : String × String := (kindT k, match m with
  | .append => "list.append"
  | .pop => if k == 3 then "dict.pop" else "list.pop"
  | .remove => "list.remove"
  | .index => if k == 1 then "str.index" else "list.index"
  | .count => "list.count"
  | .join => "str.join"
  | .split => "str.split")

theorem or_kind {a b k : Nat} (h : (k == a || k == b) = true) : k = a ∨ k = b := (Bool.or_eq_true_iff.mp h).imp (fun h => beq_iff_eq.mp h) fun h => beq_iff_eq.mp h
theorem bm_slot {m : Bm} {k : Nat} (h : okM m k = true) : PlainAttrs (bmId m k).1 ∧ Slot (bmId m k).1 (bmName m) (bmId m k).2 ∧ typeOf (.builtin (bmId m k).2) = pure (.type "method_descriptor") := by
  cases m with
  | append => have : k = 2 := beq_iff_eq.mp h; subst this; exact ⟨F.plainAttrs_list, F.slot_list_append, F.type_list_append⟩
  | pop => exact (or_kind h).elim (fun e => e ▸ ⟨F.plainAttrs_list, F.slot_list_pop, F.type_list_pop⟩) fun e => e ▸ ⟨F.plainAttrs_dict, F.slot_dict_pop, F.type_dict_pop⟩
  | remove => have : k = 2 := beq_iff_eq.mp h; subst this; exact ⟨F.plainAttrs_list, F.slot_list_remove, F.type_list_remove⟩
  | index => exact (or_kind h).elim (fun e => e ▸ ⟨F.plainAttrs_str, F.slot_str_index, F.type_str_index⟩) fun e => e ▸ ⟨F.plainAttrs_list, F.slot_list_index, F.type_list_index⟩
  | count => have : k = 2 := beq_iff_eq.mp h; subst this; exact ⟨F.plainAttrs_list, F.slot_list_count, F.type_list_count⟩
  | join => have : k = 1 := beq_iff_eq.mp h; subst this; exact ⟨F.plainAttrs_str, F.slot_str_join, F.type_str_join⟩
  | split => have : k = 1 := beq_iff_eq.mp h; subst this; exact ⟨F.plainAttrs_str, F.slot_str_split, F.type_str_split⟩
theorem kindM_ref {n : Nat} {m : Option M} (h : η[n]? = m) : kindM η (.ref n) = match (generalizing := false) m with | some (.list _) => 2 | some (.dict _) => 3 | _ => 0 := by subst h; rfl
theorem okM_pos {m : Bm} (h : okM m 0 = true) : False := by cases m <;> cases h

/-- what has a kind has its type -/
theorem kind_type {m : Bm} {v : V} {x : Value} (R : Rel T φ η s.heap) (h : okM m (kindM η v) = true) (r : QV T φ η s.heap v x) : s.TypeIs x (bmId m (kindM η v)).1 ∧ ∀ a, x = .ref a → ∃ o, s.heap.get? a = some o ∧ o.dict = none := by
  have h0 : kindM η v ≠ 0 := fun e => okM_pos (by rw [e] at h; exact h)
  show s.TypeIs x (kindT (kindM η v)) ∧ _
  clear h
  cases v with
  | str sg =>
    simp only [QV, VR] at r
    obtain ⟨t, rfl⟩ := r
    exact ⟨typeIs_str _ _ _, nofun⟩
  | lst xs =>
    simp only [QV, VR] at r
    obtain ⟨a, items, k, rfl, _, g, _⟩ := r
    exact ⟨⟨_, g, rfl⟩, fun b e => by cases e; exact ⟨_, g, rfl⟩⟩
  | ref n =>
    simp only [QV, VR] at r
    obtain ⟨p, hp, rfl⟩ := r
    cases hn : η[n]? with
    | none => exact absurd (kindM_ref hn) h0
    | some mm =>
      cases mm with
      | list xs =>
        obtain ⟨_, items, k, g, _⟩ := R.obj n _ p hn hp
        rw [kindM_ref hn]
        exact ⟨⟨_, g, rfl⟩, fun b e => by cases e; exact ⟨_, g, rfl⟩⟩
      | dict es =>
        obtain ⟨_, kvs, ⟨o, es', ep, g, hx, _⟩, _⟩ := R.obj n _ p hn hp
        rw [kindM_ref hn]
        exact ⟨⟨_, g, hx.1⟩, fun b e => by cases e; exact ⟨_, g, hx.2.1⟩⟩
      | _ => exact absurd (kindM_ref hn) h0
  | _ => exact absurd rfl h0

theorem int_items {M : Addr → Prop} {h : Heap} : ∀ {xs : List V} {is : List Int} {vs : List Value}, intsV xs = some is → VRs T φ M h xs vs → ∃ ts : List (Int × Tok), vs = ts.map (fun p => Value.int p.1 p.2) ∧ ts.map (·.1) = is ∧ xs = is.map .int
  | [], is, vs, e, r => by
    cases e
    simp only [VRs] at r
    exact ⟨[], r, rfl, rfl⟩
  | x :: xs, is, vs, e, r => by
    simp only [VRs] at r
    obtain ⟨v, vs', rfl, r1, r2⟩ := r
    unfold intsV at e
    split at e
    · rename_i heq; cases heq
    · rename_i i r' heq
      cases heq
      obtain ⟨is', e', rfl⟩ := Option.map_eq_some_iff.mp e
      obtain ⟨l, rfl, hl, hx⟩ := int_items e' r2
      simp only [VR] at r1
      obtain ⟨t, rfl⟩ := r1
      exact ⟨(i, t) :: l, rfl, by simp [hl], by rw [hx]; rfl⟩
    · cases e
theorem vrs_ints {M : Addr → Prop} {h : Heap} : ∀ (ts : List (Int × Tok)), VRs T φ M h ((ts.map (·.1)).map .int) (ts.map fun p => Value.int p.1 p.2)
  | [] => by simp [VRs]
  | p :: ts => by
    simp only [List.map_cons, VRs, VR]
    exact ⟨_, _, rfl, ⟨p.2, rfl⟩, vrs_ints ts⟩

theorem map_erase {α β : Type} (f : α → β) : ∀ (l : List α) (j : Nat), (l.eraseIdx j).map f = (l.map f).eraseIdx j
  | [], j => by simp
  | x :: l, 0 => rfl
  | x :: l, j + 1 => by simp [map_erase f l j]
theorem erase_idx {k : Int} : ∀ (l : List Int) (j : Nat), l[j]? = some k → (∀ m, m < j → l[m]? ≠ some k) → l.erase k = l.eraseIdx j
  | [], j, h, _ => by simp at h
  | x :: l, 0, h, _ => by simp at h; subst h; simp
  | x :: l, j + 1, h, hn => by
    have hx : x ≠ k := fun e => hn 0 (by omega) (by simp [e])
    have := erase_idx l j (by simpa using h) fun m hm => by have := hn (m + 1) (by omega); simpa using this
    rw [List.erase_cons_tail (by simpa using hx), this]; rfl

theorem first_at {α : Type} {p : α → Bool} : ∀ (l : List α), l.any p = true → ∃ (j : Nat) (a : α), l[j]? = some a ∧ p a = true ∧ ∀ (m : Nat) (b : α), m < j → l[m]? = some b → p b = false
  | [], h => by simp at h
  | x :: l, h => by
    cases hx : p x with
    | true => exact ⟨0, x, rfl, hx, fun m b hm => by omega⟩
    | false =>
      obtain ⟨j, a, h1, h2, h3⟩ := first_at l (by simpa [hx] using h)
      refine ⟨j + 1, a, by simpa using h1, h2, fun m b hm hb => ?_⟩
      cases m with
      | zero => simp at hb; subst hb; exact hx
      | succ m => exact h3 m b (by omega) (by simpa using hb)

theorem sim_remove {n : Nat} {k : Int} {t : Tok} {xs : List V} {is : List Int} {p : Addr × Addr} (R : Rel T φ η s.heap) (hn : η[n]? = some (.list xs)) (hp : φ[n]? = some p) (hi : intsV xs = some is) (hc : is.contains k = true) (hsz : is.length ≤ 100000) :
    Sim T A L φ η s (PySem.call (.builtin "list.remove") [.ref p.1, .int k t]) (.ok .none (η.set n (.list ((is.erase k).map .int)))) (QV T) := by
  obtain ⟨_, items, c, g, rr⟩ := R.obj n _ p hn hp
  obtain ⟨ts, hv, ht, hx⟩ := int_items hi rr
  have hl : items.size = ts.length := by have := congrArg List.length hv; simpa using this
  obtain ⟨j, a, h1, h2, h3⟩ := first_at (p := fun p : Int × Tok => p.1 == k) ts (by
    have : k ∈ is := by simpa using hc
    rw [← ht] at this
    obtain ⟨b, hb, e⟩ := List.mem_map.mp this
    exact List.any_eq_true.mpr ⟨b, hb, by simp [e]⟩)
  let e : Value → Bool := fun v => match v with | .int i _ => i == k | _ => false
  have get : ∀ (m : Nat) (hm : m < items.size), ∃ b, ts[m]? = some b ∧ items[m] = .int b.1 b.2 := fun m hm => by
    have hm' : m < ts.length := by omega
    refine ⟨ts[m], by simp [hm'], ?_⟩
    have : items.toList[m]? = some (.int ts[m].1 ts[m].2) := by rw [hv]; simp [hm']
    rw [Array.getElem?_toList, Array.getElem?_eq_getElem hm] at this
    exact Option.some.inj this
  have hj : j < items.size := by rw [hl]; exact (List.getElem?_eq_some_iff.mp h1).1
  have he : ∀ y, y ∈ items → MeetsSeq.EqGives y (.int k t) (e y) := fun y hy => by
    obtain ⟨m, hm, rfl⟩ := Array.mem_iff_getElem.mp hy
    obtain ⟨b, _, hb⟩ := get m hm
    rw [hb]
    exact MeetsSeq.EqGives.int b.1 k b.2 t
  have er : is.erase k = is.eraseIdx j := by
    refine erase_idx is j ?_ fun m hm hq => ?_
    · rw [← ht, List.getElem?_map, h1]; simpa using h2
    · rw [← ht, List.getElem?_map] at hq
      obtain ⟨b, hb, e⟩ := Option.map_eq_some_iff.mp hq
      have := h3 m b hm hb
      simp [e] at this
  have U := upd_list (s := s) R hn hp g (xs' := (is.erase k).map .int) (fun a => a.eraseIdxIfInBounds j) (by
    rw [Array.toList_eraseIdxIfInBounds, hv, er, ← ht]
    have := vrs_ints (T := T) (φ := φ) (M := own φ η) (h := s.heap) (ts.eraseIdx j)
    rw [map_erase, map_erase, map_erase] at this
    rw [map_erase]
    exact this) s.toks
  refine .ok rfl (call_meets F.slot_list_remove ⟨_, g, rfl⟩ F.entry_list_remove (F.args_list_remove_2 _ _) (MeetsSeq.list_remove p.1 items c (.int k t) e he j hj ?_ (fun m hm hlt => ?_) ?_) ⟨g, φ, U, by simp [QV, VR]⟩)
  · obtain ⟨b, hb, hb'⟩ := get j hj
    rw [hb'] ; rw [h1] at hb; cases hb; exact h2
  · obtain ⟨b, hb, hb'⟩ := get m hm
    rw [hb']; exact h3 m b hlt hb
  · rw [hl]
    have : ts.length = is.length := by rw [← ht]; simp
    exact line_le (by omega)

theorem sim_popd {n : Nat} {k : Int} {t : Tok} {es : List (Int × V)} {w : Int × V} {p : Addr × Addr} (R : Rel T φ η s.heap) (hn : η[n]? = some (.dict es)) (hp : φ[n]? = some p) (hf : es.find? (fun p => p.1 == k) = some w) (hsz : es.length ≤ 100000) :
    Sim T A L φ η s (PySem.call (.builtin "dict.pop") [.ref p.1, .int k t]) (.ok w.2 (η.set n (.dict (es.filter fun p => p.1 != k)))) (QV T) := by
  obtain ⟨e2, kvs, hd, hk, hv⟩ := R.obj n _ p hn hp
  have hlen : kvs.length = es.length := by have := congrArg List.length hk; simpa using this
  have both : ∀ (es : List (Int × V)) (kvs : List (Int × Value)), kvs.map (·.1) = es.map (·.1) → VRs T φ (own φ η) s.heap (es.map (·.2)) (kvs.map (·.2)) →
      (∀ w, es.find? (fun p => p.1 == k) = some w → ∃ v, valueAt kvs k = some v ∧ VR T φ (own φ η) s.heap w.2 v) ∧
      ((without kvs k).map (·.1) = (es.filter fun p => p.1 != k).map (·.1) ∧ VRs T φ (own φ η) s.heap ((es.filter fun p => p.1 != k).map (·.2)) ((without kvs k).map (·.2))) := by
    intro es
    induction es with
    | nil =>
      intro kvs hk hv
      cases kvs with
      | nil => exact ⟨fun w h => by simp at h, rfl, by simpa [without] using hv⟩
      | cons _ _ => simp at hk
    | cons z zs ih =>
      intro kvs hk hv
      cases kvs with
      | nil => simp at hk
      | cons y ys =>
        simp only [List.map_cons, List.cons.injEq] at hk
        simp only [List.map_cons, VRs] at hv
        obtain ⟨w', rr, e1, r1, r2⟩ := hv
        cases e1
        obtain ⟨i1, i2, i3⟩ := ih ys hk.2 r2
        by_cases hz : z.1 = k
        · have hy : y.1 = k := hk.1.trans hz
          refine ⟨fun w h => ?_, ?_, ?_⟩
          · simp only [List.find?_cons, hz, beq_self_eq_true] at h
            cases h
            exact ⟨y.2, by simp [valueAt, hy], r1⟩
          · simpa [without, hz, hy] using i2
          · simpa [without, hz, hy] using i3
        · have hy : ¬ y.1 = k := fun q => hz (hk.1.symm.trans q)
          refine ⟨fun w h => ?_, ?_, ?_⟩
          · have hz' : (z.1 == k) = false := by simpa using hz
            simp only [List.find?_cons, hz'] at h
            obtain ⟨v, hv, rv⟩ := i1 w h
            exact ⟨v, by simpa [valueAt, hy] using hv, rv⟩
          · simpa [without, hz, hy, hk.1] using i2
          · have : VRs T φ (own φ η) s.heap (z.2 :: (zs.filter fun p => p.1 != k).map (·.2)) (y.2 :: (without ys k).map (·.2)) := by
              simp only [VRs]; exact ⟨_, _, rfl, r1, i3⟩
            simpa [without, hz, hy] using this
  obtain ⟨b1, b2, b3⟩ := both es kvs hk hv
  obtain ⟨v, hv1, rv⟩ := b1 w hf
  refine .ok rfl (call_meetsIn F.slot_dict_pop hd.typeIs F.entry_dict_pop (F.args_dict_pop_2 _ _) (meets_dict_pop_there (intKind T.prog T.w) (k := k) (key := .int k t) (d := p.1) (by simp [intKind, Value.isInt]) [] (.inl rfl) rfl) ⟨kvs, v, hd, by rw [hlen]; exact line_le hsz, hv1, fun h' hm hs => ?_⟩)
  have S := R.set (m' := .dict (es.filter fun p => p.1 != k)) hn hp (by simp) (by simp) (fun b o h1 _ e => (hs.2 b h1).trans e) (by obtain ⟨o, _, _, e, _⟩ := hm; rw [e]; rfl) (by obtain ⟨o, _, _, e, _⟩ := hm; rw [e2, e]; rfl)
    (fun st' => ⟨e2, _, hm, b2, VRs.step st' _ _ b3⟩)
  exact ⟨φ, .mk' S, VR.step S.2 _ _ rv⟩

theorem itemBy_at {xs : List V} {items : Array Value} (r : VRs T φ (own φ η) s.heap xs items.toList) (p : ∀ x ∈ xs, x.plain = true) {j : Nat} (hj : j < items.size) : ∃ z, xs[j]? = some z ∧ itemBy xs items.toList items[j] = z := by
  have hg : items.toList[j]? = some items[j] := by simp [hj]
  obtain ⟨z, hz, _⟩ := r.get' hg
  exact ⟨z, hz, itemBy_get r p hg hz⟩

theorem sim_count {v w : V} {x y : Value} {xs : List V} (R : Rel T φ η s.heap) (hu : A.units + 7 < cLine) (e : listOf η v = some xs) (r : QV T φ η s.heap v x) (rw' : QV T φ η s.heap w y) (hp : (w.plain && xs.all V.plain) = true) :
    Sim T A L φ η s (PySem.call (.builtin "list.count") [x, y]) (.ok (.int (xs.countP fun z => eqV z w)) η) (QV T) := by
  obtain ⟨a, items, k, rfl, g, rr⟩ := list_view R e r
  rw [Bool.and_eq_true] at hp
  have pp : ∀ x ∈ xs, x.plain = true := by simpa using hp.2
  have cnt : items.toList.countP (fun z => eqV (itemBy xs items.toList z) w) = xs.countP fun z => eqV z w := by
    have key : items.toList.map (itemBy xs items.toList) = xs := by
      apply List.ext_getElem?
      intro j
      rw [List.getElem?_map]
      by_cases hj : j < items.size
      · obtain ⟨z, hz, e⟩ := itemBy_at rr pp hj
        simp [hj, e, hz]
      · have := len_items rr
        rw [List.getElem?_eq_none (by simp; omega), List.getElem?_eq_none (by omega)]; rfl
    conv => rhs; rw [← key]
    rw [List.countP_map]; rfl
  refine .ok rfl (call_meets F.slot_list_count ⟨_, g, rfl⟩ F.entry_list_count (F.args_list_count_2 _ _) (SeqAt.list_countAt a items k none #[] y (fun z => eqV (itemBy xs items.toList z) w)) ⟨g, eqAt_items R hu rr pp hp.1 rw', φ, .toks R, ?_⟩)
  simp only [QV, VR, cnt]
  exact ⟨_, rfl⟩

theorem onRef_sim {t : Sem Value} {o : V} {f : Nat → Mine.R V} (h : ∀ n, o = .ref n → Sim T A L φ η s t (f n) (QV T)) : Sim T A L φ η s t (onRef o f) (QV T) := by
  cases o <;> first | exact h _ rfl | exact .fail
theorem onInt_sim {t : Sem Value} {o : V} {f : Int → Mine.R V} (h : ∀ n, o = .int n → Sim T A L φ η s t (f n) (QV T)) : Sim T A L φ η s t (onInt o f) (QV T) := by
  cases o <;> first | exact h _ rfl | exact .fail
theorem ref_of {n : Nat} {x : Value} (r : QV T φ η s.heap (.ref n) x) : ∃ p, φ[n]? = some p ∧ x = .ref p.1 := by simpa only [QV, VR] using r
theorem int_of {n : Int} {x : Value} (r : QV T φ η s.heap (.int n) x) : ∃ t, x = .int n t := by simpa only [QV, VR] using r
theorem str_of {n : List Nat} {x : Value} (r : QV T φ η s.heap (.str n) x) : ∃ t, x = .str ⟨n.toArray⟩ t := by simpa only [QV, VR] using r

theorem bm_append {n : Nat} {x y : Value} {w : V} (R : Rel T φ η s.heap) (r : QV T φ η s.heap (.ref n) x) (r1 : QV T φ η s.heap w y) : Sim T A L φ η s (PySem.call (.builtin "list.append") [x, y]) (appN η n w) (QV T) := by
  obtain ⟨p, hp, rfl⟩ := ref_of r
  exact app_sim R hp r1
theorem popN_eq {n : Nat} {k : Int} {m : Option M} (h : η[n]? = m) : popN η n k = match (generalizing := false) m with
  | some (.list xs) => popL η n xs k
  | some (.dict es) => popD η n es k
  | _ => .fail := by subst h; rfl
theorem bm_pop {n : Nat} {x : Value} {k : Int} {t : Tok} (R : Rel T φ η s.heap) (r : QV T φ η s.heap (.ref n) x) : Sim T A L φ η s (PySem.call (.builtin (bmId .pop (kindM η (.ref n))).2) [x, .int k t]) (popN η n k) (QV T) := by
  obtain ⟨p, hp, rfl⟩ := ref_of r
  cases hn : η[n]? with
  | none => exact .inl (popN_eq hn)
  | some m =>
    rw [popN_eq hn, kindM_ref hn]
    cases m with
    | list xs =>
      cases xs with
      | nil => exact .fail
      | cons w xs => exact Sim.ifF fun h0 => by obtain ⟨rfl, hsz⟩ := h0; exact sim_pop0 R hn hp hsz
    | dict es => exact Sim.get fun w hf => Sim.ifF fun hsz => sim_popd R hn hp hf hsz
    | _ => exact .fail
theorem bm_remove {n : Nat} {x : Value} {k : Int} {t : Tok} (R : Rel T φ η s.heap) (r : QV T φ η s.heap (.ref n) x) : Sim T A L φ η s (PySem.call (.builtin "list.remove") [x, .int k t]) (remN η n k) (QV T) := by
  obtain ⟨p, hp, rfl⟩ := ref_of r
  exact Sim.getL fun xs hn => Sim.get fun is hi => Sim.ifF fun hc => sim_remove R hn hp hi hc.1 hc.2
/-- a method of a builtin type -/
theorem sim_bm (m : Bm) {v : V} {x : Value} {vs : List V} {ys : List Value} (R : Rel T φ η s.heap) (hu : A.units + 7 < cLine) (r : QV T φ η s.heap v x) (rs : QVs T φ η s.heap vs ys) (hk : okM m (kindM η v) = true) :
    Sim T A L φ η s (PySem.call (.builtin (bmId m (kindM η v)).2) (x :: ys)) (bmV m η v vs) (QV T) := by
  match vs, rs with
  | [], _ => exact .fail
  | _ :: _ :: _, _ => exact .fail
  | [w], rs =>
    simp only [QVs, VRs] at rs
    obtain ⟨y, _, rfl, r1, rfl⟩ := rs
    show Sim T A L φ η s _ (bmV1 m η v w) (QV T)
    cases m with
    | append => exact onRef_sim fun n e => by subst e; exact bm_append R r r1
    | pop => exact onRef_sim fun n e => onInt_sim fun k e' => by subst e; subst e'; obtain ⟨t, rfl⟩ := int_of r1; exact bm_pop R r
    | remove => exact onRef_sim fun n e => onInt_sim fun k e' => by subst e; subst e'; obtain ⟨t, rfl⟩ := int_of r1; exact bm_remove R r
    | index => exact .fail
    | count => exact Sim.get fun xs e => Sim.ifF fun hp => sim_count R hu e r r1 hp
    | join => exact .fail
    | split => exact .fail
end
end Mine
end
section
namespace Mine
open PySem PySem.W PySem.Calls PyProof.Rows

section
variable {T : St} {N : Nm} {A : Around} {L : Addr} {q : Bool} {d : Nat} {φ φ' : Phi} {η η' : H} {s s' : Shared} {env : Env} {sc : Scope} {Γ : Gam} {ρ : Rho} {α β : Type} {call' : Nat → List V → H → R V}

/-- isinstance, for the builtin types -/
theorem isi_ok {x c : Value} {b : Bool} (R : Rel T φ η s.heap) (h : ∀ {Q : Value → Shared → Prop} {E : Value → Shared → Prop}, (∀ k, Q (.bool b) { s with toks := k }) → Q (.bool b) s → wpAny T.M A (PySem.call (.builtin "isinstance") [x, c]) Q E s) :
    Sim T A L φ η s (PySem.call (.builtin "isinstance") [x, c]) (.ok (.bool b) η) (QV T) :=
  .ok rfl (h (fun k => ⟨φ, .toks R, by simp [QV, VR]⟩) ⟨φ, .refl R, by simp [QV, VR]⟩)
theorem tyOf_ref {n : Nat} {m : Option M} (h : η[n]? = m) : tyOf η (.ref n) = match (generalizing := false) m with | some (.list _) => some 5 | some (.dict _) => some 6 | _ => none := by subst h; rfl
theorem inst_ref {P : Prog} {t : Ty} {f : Nat → Bool} {v : V} {o : Option Nat} (hi : isInst P η v t = (tyOf η v).map f) (e : tyOf η v = o) : instV P η v t = onSome (o.map f) fun b => .ok (.bool b) η := by unfold instV; rw [hi, e]
theorem isi_int {v : V} {x : Value} (R : Rel T φ η s.heap) (r : QV T φ η s.heap v x) : Sim T A L φ η s (PySem.call (.builtin "isinstance") [x, .type "int"]) (instV T.P η v .int) (QV T) := by
  cases v with
  | none => simp only [QV, VR] at r; subst r; exact isi_ok R fun h1 h0 => IsiPair.NoneType_int (h1 _)
  | bool b => simp only [QV, VR] at r; subst r; exact isi_ok R fun h1 h0 => IsiPair.bool_int h0
  | int i => obtain ⟨u, rfl⟩ := int_of r; exact isi_ok R fun h1 h0 => IsiPair.int_int h0
  | str i => obtain ⟨u, rfl⟩ := str_of r; exact isi_ok R fun h1 h0 => IsiPair.str_int (h1 _)
  | tup xs => simp only [QV, VR] at r; obtain ⟨a, items, n, rfl, _, g, _⟩ := r; exact isi_ok R fun h1 h0 => IsiPair.tuple_int g rfl (h1 _)
  | lst xs => simp only [QV, VR] at r; obtain ⟨a, items, n, rfl, _, g, _⟩ := r; exact isi_ok R fun h1 h0 => IsiPair.list_int g rfl (h1 _)
  | ref n =>
    obtain ⟨p, hp, rfl⟩ := ref_of r
    cases hn : η[n]? with
    | none => rw [inst_ref (t := .int) (f := fun k => k == 1 || k == 2) rfl (tyOf_ref hn)]; exact .fail
    | some m =>
      rw [inst_ref (t := .int) (f := fun k => k == 1 || k == 2) rfl (tyOf_ref hn)]
      cases m with
      | list xs =>
        obtain ⟨_, items, k, g, _⟩ := R.obj n _ p hn hp
        exact isi_ok R fun h1 h0 => IsiPair.list_int g rfl (h1 _)
      | dict es =>
        obtain ⟨_, kvs, ⟨o, es', ep, g, hx, _⟩, _⟩ := R.obj n _ p hn hp
        exact isi_ok R fun h1 h0 => IsiPair.dict_int g hx.1 (h1 _)
      | _ => exact .fail
  | _ => exact .fail
theorem isi_bool {v : V} {x : Value} (R : Rel T φ η s.heap) (r : QV T φ η s.heap v x) : Sim T A L φ η s (PySem.call (.builtin "isinstance") [x, .type "bool"]) (instV T.P η v .bool) (QV T) := by
  cases v with
  | none => simp only [QV, VR] at r; subst r; exact isi_ok R fun h1 h0 => IsiPair.NoneType_bool (h1 _)
  | bool b => simp only [QV, VR] at r; subst r; exact isi_ok R fun h1 h0 => IsiPair.bool_bool h0
  | int i => obtain ⟨u, rfl⟩ := int_of r; exact isi_ok R fun h1 h0 => IsiPair.int_bool (h1 _)
  | str i => obtain ⟨u, rfl⟩ := str_of r; exact isi_ok R fun h1 h0 => IsiPair.str_bool (h1 _)
  | tup xs => simp only [QV, VR] at r; obtain ⟨a, items, n, rfl, _, g, _⟩ := r; exact isi_ok R fun h1 h0 => IsiPair.tuple_bool g rfl (h1 _)
  | lst xs => simp only [QV, VR] at r; obtain ⟨a, items, n, rfl, _, g, _⟩ := r; exact isi_ok R fun h1 h0 => IsiPair.list_bool g rfl (h1 _)
  | ref n =>
    obtain ⟨p, hp, rfl⟩ := ref_of r
    cases hn : η[n]? with
    | none => rw [inst_ref (t := .bool) (f := fun k => k == 1) rfl (tyOf_ref hn)]; exact .fail
    | some m =>
      rw [inst_ref (t := .bool) (f := fun k => k == 1) rfl (tyOf_ref hn)]
      cases m with
      | list xs =>
        obtain ⟨_, items, k, g, _⟩ := R.obj n _ p hn hp
        exact isi_ok R fun h1 h0 => IsiPair.list_bool g rfl (h1 _)
      | dict es =>
        obtain ⟨_, kvs, ⟨o, es', ep, g, hx, _⟩, _⟩ := R.obj n _ p hn hp
        exact isi_ok R fun h1 h0 => IsiPair.dict_bool g hx.1 (h1 _)
      | _ => exact .fail
  | _ => exact .fail
theorem isi_str {v : V} {x : Value} (R : Rel T φ η s.heap) (r : QV T φ η s.heap v x) : Sim T A L φ η s (PySem.call (.builtin "isinstance") [x, .type "str"]) (instV T.P η v .str) (QV T) := by
  cases v with
  | none => simp only [QV, VR] at r; subst r; exact isi_ok R fun h1 h0 => IsiPair.NoneType_str (h1 _)
  | bool b => simp only [QV, VR] at r; subst r; exact isi_ok R fun h1 h0 => IsiPair.bool_str (h1 _)
  | int i => obtain ⟨u, rfl⟩ := int_of r; exact isi_ok R fun h1 h0 => IsiPair.int_str (h1 _)
  | str i => obtain ⟨u, rfl⟩ := str_of r; exact isi_ok R fun h1 h0 => IsiPair.str_str h0
  | tup xs => simp only [QV, VR] at r; obtain ⟨a, items, n, rfl, _, g, _⟩ := r; exact isi_ok R fun h1 h0 => IsiPair.tuple_str g rfl (h1 _)
  | lst xs => simp only [QV, VR] at r; obtain ⟨a, items, n, rfl, _, g, _⟩ := r; exact isi_ok R fun h1 h0 => IsiPair.list_str g rfl (h1 _)
  | ref n =>
    obtain ⟨p, hp, rfl⟩ := ref_of r
    cases hn : η[n]? with
    | none => rw [inst_ref (t := .str) (f := fun k => k == 3) rfl (tyOf_ref hn)]; exact .fail
    | some m =>
      rw [inst_ref (t := .str) (f := fun k => k == 3) rfl (tyOf_ref hn)]
      cases m with
      | list xs =>
        obtain ⟨_, items, k, g, _⟩ := R.obj n _ p hn hp
        exact isi_ok R fun h1 h0 => IsiPair.list_str g rfl (h1 _)
      | dict es =>
        obtain ⟨_, kvs, ⟨o, es', ep, g, hx, _⟩, _⟩ := R.obj n _ p hn hp
        exact isi_ok R fun h1 h0 => IsiPair.dict_str g hx.1 (h1 _)
      | _ => exact .fail
  | _ => exact .fail
theorem isi_tuple {v : V} {x : Value} (R : Rel T φ η s.heap) (r : QV T φ η s.heap v x) : Sim T A L φ η s (PySem.call (.builtin "isinstance") [x, .type "tuple"]) (instV T.P η v .tuple) (QV T) := by
  cases v with
  | none => simp only [QV, VR] at r; subst r; exact isi_ok R fun h1 h0 => IsiPair.NoneType_tuple (h1 _)
  | bool b => simp only [QV, VR] at r; subst r; exact isi_ok R fun h1 h0 => IsiPair.bool_tuple (h1 _)
  | int i => obtain ⟨u, rfl⟩ := int_of r; exact isi_ok R fun h1 h0 => IsiPair.int_tuple (h1 _)
  | str i => obtain ⟨u, rfl⟩ := str_of r; exact isi_ok R fun h1 h0 => IsiPair.str_tuple (h1 _)
  | tup xs => simp only [QV, VR] at r; obtain ⟨a, items, n, rfl, _, g, _⟩ := r; exact isi_ok R fun h1 h0 => IsiPair.tuple_tuple g rfl h0
  | lst xs => simp only [QV, VR] at r; obtain ⟨a, items, n, rfl, _, g, _⟩ := r; exact isi_ok R fun h1 h0 => IsiPair.list_tuple g rfl (h1 _)
  | ref n =>
    obtain ⟨p, hp, rfl⟩ := ref_of r
    cases hn : η[n]? with
    | none => rw [inst_ref (t := .tuple) (f := fun k => k == 4) rfl (tyOf_ref hn)]; exact .fail
    | some m =>
      rw [inst_ref (t := .tuple) (f := fun k => k == 4) rfl (tyOf_ref hn)]
      cases m with
      | list xs =>
        obtain ⟨_, items, k, g, _⟩ := R.obj n _ p hn hp
        exact isi_ok R fun h1 h0 => IsiPair.list_tuple g rfl (h1 _)
      | dict es =>
        obtain ⟨_, kvs, ⟨o, es', ep, g, hx, _⟩, _⟩ := R.obj n _ p hn hp
        exact isi_ok R fun h1 h0 => IsiPair.dict_tuple g hx.1 (h1 _)
      | _ => exact .fail
  | _ => exact .fail
theorem isi_list {v : V} {x : Value} (R : Rel T φ η s.heap) (r : QV T φ η s.heap v x) : Sim T A L φ η s (PySem.call (.builtin "isinstance") [x, .type "list"]) (instV T.P η v .list) (QV T) := by
  cases v with
  | none => simp only [QV, VR] at r; subst r; exact isi_ok R fun h1 h0 => IsiPair.NoneType_list (h1 _)
  | bool b => simp only [QV, VR] at r; subst r; exact isi_ok R fun h1 h0 => IsiPair.bool_list (h1 _)
  | int i => obtain ⟨u, rfl⟩ := int_of r; exact isi_ok R fun h1 h0 => IsiPair.int_list (h1 _)
  | str i => obtain ⟨u, rfl⟩ := str_of r; exact isi_ok R fun h1 h0 => IsiPair.str_list (h1 _)
  | tup xs => simp only [QV, VR] at r; obtain ⟨a, items, n, rfl, _, g, _⟩ := r; exact isi_ok R fun h1 h0 => IsiPair.tuple_list g rfl (h1 _)
  | lst xs => simp only [QV, VR] at r; obtain ⟨a, items, n, rfl, _, g, _⟩ := r; exact isi_ok R fun h1 h0 => IsiPair.list_list g rfl h0
  | ref n =>
    obtain ⟨p, hp, rfl⟩ := ref_of r
    cases hn : η[n]? with
    | none => rw [inst_ref (t := .list) (f := fun k => k == 5) rfl (tyOf_ref hn)]; exact .fail
    | some m =>
      rw [inst_ref (t := .list) (f := fun k => k == 5) rfl (tyOf_ref hn)]
      cases m with
      | list xs =>
        obtain ⟨_, items, k, g, _⟩ := R.obj n _ p hn hp
        exact isi_ok R fun h1 h0 => IsiPair.list_list g rfl h0
      | dict es =>
        obtain ⟨_, kvs, ⟨o, es', ep, g, hx, _⟩, _⟩ := R.obj n _ p hn hp
        exact isi_ok R fun h1 h0 => IsiPair.dict_list g hx.1 (h1 _)
      | _ => exact .fail
  | _ => exact .fail
end
end Mine
end
section
set_option maxRecDepth 100000
namespace Mine
open PySem PySem.W PySem.Calls PyProof.Rows Builtin Builtin.ObjectAttr Builtin.Getset_descriptor

/-- what the class of an exception answers -/
noncomputable def askIn (K : Frag) (C : Addr) : Bool :=
  findIn K (.ref C) "__getattribute__" == some (some (.builtin "BaseException.__getattribute__")) && findIn K (.ref C) "__getattr__" == some none && findIn K (.ref C) "__class__" == some (some (.builtin "object.__class__"))
    && mroIn K C (.type "object") == some true && mroIn K C (.type "BaseException") == some true && mroIn K C (.type "ValueError") == some true && (clsIn K C).isSome && typeIn K (.ref C) == some (.type "type") && instIn K (.ref C) (.type "type") == some true

section
variable {prog : Program} {w : World} {A : Around} {E : Value → Shared → Prop} {s : Shared} {K : Frag} {a C C' : Addr} {o : Obj} {R : Result → Shared → Prop}

theorem ty_own {M : Model} {h : Heap} (hx : h.get? a = some o) (hc : o.cls = .ref C) : Looks M h (typeOf (.ref a)) (.ref C) := hc ▸ (Looks.ld hx).andThen .now

theorem own_class_get {tp : Value} (X : K.In s.heap) (hx : s.heap.get? a = some o) (hc : o.cls = .ref C) (hm : mroIn K C (.type "object") = some true)
    (h : R (.ok (.ret (.ref C))) s) : codeAny (model prog w) A (.call (.builtin "getset_descriptor.__get__") ⟨[.builtin "object.__class__", .ref a, tp], []⟩) R s := by
  obtain ⟨hh, g, dr, t, os⟩ := s
  have L0 := ty_own (M := model prog w) hx hc
  have L1 := looks_mroIn (M := model prog w) X hm
  refine codeAny_call_builtin KF.slot_gs.plain KF.entry_gs (KF.slot_gs.check _ _ _ _ _ _ _ _ KF.type_class (KF.args_gs _ _ _) ?_)
  unfold Builtin.«getset_descriptor.__get__» descrGet
  rw [dga_obj]
  refine wpAny_bind (wpAny_pure ?_)
  unfold descrGetter descrCheckInstance descrNameAndClass isInstance
  simp only [KF.owner_class]
  repeat lk
  refine ⟨Code.quiet_builtin _ (by decide +kernel), codeAny_builtin KF.entry_class ?_⟩
  unfold Builtin.«object.__class__» shownTypeOf
  repeat lk
  exact h

theorem own_find {M : Model} {h : Heap} {x : Value} (X : K.In h) (ha : findIn K (.ref C) "__class__" = some (some (.builtin "object.__class__"))) (hs : specialIn K (.builtin "object.__class__") "__get__" = some (some (.builtin "getset_descriptor.__get__"))) (ht : takesIn K (.builtin "object.__class__") = some true) :
    Looks M h (find x (.ref C) "__class__") (.bind (.builtin "getset_descriptor.__get__") (.builtin "object.__class__")) :=
  (looks_findIn X ha).andThen ((show Looks M h (getOf (some (.builtin "object.__class__"))) (some (.builtin "getset_descriptor.__get__")) from looks_specialIn X hs).andThen
    ((show Looks M h (dataDescriptor? (some (.builtin "object.__class__")) (some (.builtin "getset_descriptor.__get__"))) (some (.builtin "getset_descriptor.__get__", .builtin "object.__class__")) from (looks_takesIn X ht).andThen .now).andThen (Looks.tag .now)))

theorem own_entry {tk : Tok} {Q : Fin → Shared → Prop} (X : K.In s.heap) (hx : s.heap.get? a = some o) (hc : o.cls = .ref C) (hm : mroIn K C (.type "object") = some true)
    (ha : findIn K (.ref C) "__class__" = some (some (.builtin "object.__class__"))) (hs : specialIn K (.builtin "object.__class__") "__get__" = some (some (.builtin "getset_descriptor.__get__"))) (ht : takesIn K (.builtin "object.__class__") = some true)
    (hq : Q (.done (.ret (.ref C))) s) : wpAny (model prog w) A (Builtin.«object.__getattribute__» ⟨[.ref a, .str "__class__" tk], []⟩) Q E s := by
  obtain ⟨hh, g, dr, t, os⟩ := s
  have L0 := ty_own (M := model prog w) hx hc
  have L1 := own_find (M := model prog w) (x := .ref a) X ha hs ht
  refine wpAny_bind (wpAny_pure ?_)
  refine wpAny_bind (wpAny_pure ?_)
  refine wpAny_bind (L0.at ?_)
  refine wpAny_bind (L1.at ?_)
  show wpAny _ _ (holding [_] (PySem.call (.builtin "getset_descriptor.__get__") [.builtin "object.__class__", .ref a, .ref C]) >>= ret) _ _ _
  exact wpAny_bind (wpAny_holding (wpAny_call (own_class_get (s := ⟨hh, g, dr, t, os⟩) X hx hc hm (wpAny_pure hq))))

theorem own_check {M : Model} {v : Value} {Q : Unit → Shared → Prop} (X : K.In s.heap) (hx : s.heap.get? a = some o) (hc : o.cls = .ref C) (hm : mroIn K C (.type "BaseException") = some true) (hq : Q () s) :
    wpAny M A (checkBuiltinCall "BaseException.__getattribute__" ⟨[.ref a, v], []⟩) Q E s := by
  have hk : builtinKind "BaseException.__getattribute__" = some .slot := by decide +kernel
  have hsplit : splitId "BaseException.__getattribute__" = some ("BaseException", "__getattribute__") := by decide +kernel
  have ha := F.args_bexc_ga (.ref a) v
  obtain ⟨hh, g, dr, t, os⟩ := s
  have L0 := ty_own (M := M) hx hc
  have L1 := looks_mroIn (M := M) X hm
  simp only [checkBuiltinCall, hk, hsplit]
  refine wpAny_bind ?_
  unfold isInstance
  refine wpAny_bind (L0.at (L1.at ?_))
  repeat (any_goals (first | assumption | wp_step))

theorem own_attr {Q : Option Value → Shared → Prop} (X : K.In s.heap) (hx : s.heap.get? a = some o) (hc : o.cls = .ref C) (hm : mroIn K C (.type "object") = some true) (hb : mroIn K C (.type "BaseException") = some true)
    (hga : findIn K (.ref C) "__getattribute__" = some (some (.builtin "BaseException.__getattribute__"))) (hgh : findIn K (.ref C) "__getattr__" = some none)
    (ha : findIn K (.ref C) "__class__" = some (some (.builtin "object.__class__"))) (hs : specialIn K (.builtin "object.__class__") "__get__" = some (some (.builtin "getset_descriptor.__get__"))) (ht : takesIn K (.builtin "object.__class__") = some true)
    (hq : Q (some (.ref C)) { s with toks := s.toks + 1 }) : wpAny (model prog w) A (getAttr? (.ref a) "__class__") Q E s := by
  obtain ⟨hh, g, d, t, os⟩ := s
  have L0 := ty_own (M := model prog w) hx hc
  have L1 := looks_findIn (M := model prog w) X hga
  have L2 := looks_findIn (M := model prog w) X hgh
  unfold getAttr? getAttrBy? getAttrBy
  refine wpAny_bind (wpAny_mkText (wpAny_bind (wpAny_attempt (wpAny_holding (wpAny_bind (L0.at (wpAny_bind (L1.at ?_))))))))
  have hx2 : (Value.builtin "BaseException.__getattribute__" == Value.builtin "object.__getattribute__") = false := by decide +kernel
  have hx1 : (onTheHeap (Value.ref C) && Value.builtin "BaseException.__getattribute__" == Value.builtin "object.__getattribute__") = false := by rw [hx2]; rfl
  dsimp only
  rw [if_neg (by rw [hx1]; decide)]
  unfold getAttrByItsOwn hookBefore
  refine wpAny_bind ?_
  rw [if_pos (show onTheHeap (Value.ref C) = true from rfl)]
  refine L2.at ?_
  refine wpAny_bind (wpAny_attempt (wpAny_holding ?_))
  unfold callGetattribute
  rw [if_neg (by decide)]
  unfold boundAndCalled
  rw [F.attr_ValueError.ga.bind (.ref a)]
  refine wpAny_bind (wpAny_pure (wpAny_call ?_))
  refine codeAny_call_builtin F.attr_ValueError.ga.plain F.entry_bexc_ga (own_check (s := ⟨hh, g, d, t + 1, os⟩) X hx hc hb (own_entry (s := ⟨hh, g, d, t + 1, os⟩) X hx hc hm ha hs ht ?_))
  exact wpAny_pure (wpAny_pure hq)

structure Asks (K : Frag) (C : Addr) : Prop where
  ga : findIn K (.ref C) "__getattribute__" = some (some (.builtin "BaseException.__getattribute__"))
  gh : findIn K (.ref C) "__getattr__" = some none
  cl : findIn K (.ref C) "__class__" = some (some (.builtin "object.__class__"))
  ob : mroIn K C (.type "object") = some true
  be : mroIn K C (.type "BaseException") = some true
  ve : mroIn K C (.type "ValueError") = some true
  is : (clsIn K C).isSome = true
  ty : typeIn K (.ref C) = some (.type "type")
  it : instIn K (.ref C) (.type "type") = some true
theorem asks_of (h : askIn K C = true) : Asks K C := by
  unfold askIn at h
  simp only [Bool.and_eq_true, beq_iff_eq] at h
  obtain ⟨⟨⟨⟨⟨⟨⟨⟨h1, h2⟩, h3⟩, h4⟩, h5⟩, h6⟩, h7⟩, h8⟩, h9⟩ := h
  exact ⟨h1, h2, h3, h4, h5, h6, h7, h8, h9⟩
theorem Asks.isType {M : Model} {h : Heap} (x : Asks K C) (X : K.In h) : Looks M h (isType (.ref C)) true := by
  have e1 := x.is
  unfold clsIn at e1
  split at e1
  · rename_i c' d' cd' sl' ho
    intro A' Q' E' s' k q
    unfold PySem.isType loadHead
    exact wpAny_bind (wpAny_loadPart (k _ _ (X _ _ ho)) (wpAny_pure q))
  · cases e1

theorem own_nested {c : Value} {dep : Int} {tk : Tok} {b : Bool} {Q : PySem.Fin → Shared → Prop} (x : Asks K C) (hs : specialIn K (.builtin "object.__class__") "__get__" = some (some (.builtin "getset_descriptor.__get__"))) (ht : takesIn K (.builtin "object.__class__") = some true)
    (X : K.In s.heap) (hx : s.heap.get? a = some o) (hc : o.cls = .ref C) (hty : Looks (model prog w) s.heap (typeOf c) (.type "type")) (his : Looks (model prog w) s.heap (PySem.isType c) true)
    (hne : (Value.ref C == c) = true → b = true) (hsub : Looks (model prog w) s.heap (isSubtype (.ref C) c) b) (h : ∀ k, Q (.done (.ret (.bool b))) { s with toks := k }) :
    wpAny (model prog w) A (Builtin.«isinstance.nested» ⟨[.ref a, c, .int dep tk], []⟩) Q E s := by
  have hisD := x.isType (M := model prog w) X
  obtain ⟨h0, g, d, tt, os⟩ := s
  have L0 := ty_own (M := model prog w) hx hc
  have LI : Looks (model prog w) h0 (isInstance (.ref a) c) b := L0.andThen hsub
  unfold Builtin.«isinstance.nested»
  refine wpAny_bind (L0.at ?_)
  by_cases q : (Value.ref C == c) = true
  · rw [if_pos q]
    cases hne q
    exact wpAny_bind (wpAny_rule (wpAny_bind (wpAny_pure (wpAny_pure (h tt)))))
  rw [if_neg q]
  refine wpAny_bind (hty.at ?_)
  rw [if_pos (by decide)]
  k_delta "plainIsInstance"
  refine wpAny_bind (wpAny_bind (his.at ?_))
  simp only [Bool.not_true, Bool.false_eq_true, if_false]
  refine wpAny_bind (LI.at ?_)
  cases b with
  | true =>
    simp only [if_true]
    exact wpAny_pure (wpAny_pure (h tt))
  | false =>
    simp only [Bool.false_eq_true, if_false]
    refine wpAny_bind (own_attr (s := ⟨h0, g, d, tt, os⟩) X hx hc x.ob x.be x.ga x.gh x.cl hs ht ?_)
    refine wpAny_bind (hisD.at ?_)
    simp only [Bool.not_true, Bool.false_eq_true, if_false]
    refine wpAny_bind (wpAny_rule ?_)
    refine hsub.at ?_
    first
      | exact wpAny_pure (h _)
      | exact wpAny_pure (wpAny_pure (h _))
      | exact wpAny_bind (wpAny_pure (wpAny_pure (h _)))

theorem own_isi {c : Value} {b : Bool} {Q : Value → Shared → Prop} (x : Asks K C) (hs : specialIn K (.builtin "object.__class__") "__get__" = some (some (.builtin "getset_descriptor.__get__"))) (ht : takesIn K (.builtin "object.__class__") = some true)
    (X : K.In s.heap) (hx : s.heap.get? a = some o) (hc : o.cls = .ref C) (hty : ∀ M, Looks M s.heap (typeOf c) (.type "type")) (his : ∀ M, Looks M s.heap (PySem.isType c) true)
    (hne : (Value.ref C == c) = true → b = true) (hsub : ∀ M, Looks M s.heap (isSubtype (.ref C) c) b) (h : ∀ k, Q (.bool b) { s with toks := k }) :
    wpAny (model prog w) A (PySem.call (.builtin "isinstance") [.ref a, c]) Q E s :=
  call_isinstance_of (own_nested x hs ht X hx hc (hty _) (his _) hne (hsub _) h) (by intro q; cases q)
end
/-- the line of built-in classes above the program's own exceptions -/
noncomputable abbrev veB : List Value := [.type "ValueError", .type "Exception", .type "BaseException", .type "object"]
/-- an own exception class -/
noncomputable def ExcAt (h : Heap) (C : Addr) (bm : List Value) : Prop := ∃ N nm q bs hdct sn sub ab col dd k0 k1 k2 k3 k5 mN,
  h.get? C = some (excClassObj nm q C N bs bm hdct sn sub ab col dd k0 k1 k2 k3 k5 "ValueError.__new__") ∧ h.Ns N mN ∧ mN "__init__" = none ∧ OwnTail h veB bm
theorem ExcAt.keeps {h h' : Heap} {C : Addr} {bm : List Value} (x : ExcAt h C bm) (k : ∀ b o, h.get? b = some o → h'.get? b = some o) : ExcAt h' C bm := by
  obtain ⟨N, nm, q, bs, hdct, sn, sub, ab, col, dd, k0, k1, k2, k3, k5, mN, h1, h2, h3, h4⟩ := x
  exact ⟨N, nm, q, bs, hdct, sn, sub, ab, col, dd, k0, k1, k2, k3, k5, mN, k _ _ h1, h2.keeps k, h3, h4.keeps k⟩
theorem ExcAt.base {h : Heap} {C : Addr} {bm : List Value} (x : ExcAt h C bm) : bm.contains (.type "BaseException") = true := by
  obtain ⟨N, nm, q, bs, hdct, sn, sub, ab, col, dd, k0, k1, k2, k3, k5, mN, h1, h2, h3, h4⟩ := x
  exact h4.hasType (by decide)

/-- the program's exceptions -/
structure Exs (T : St) (N : Nm) (G : Gd T N) where
  bm : Nat → List Value
  at' : ∀ (c : Nat) (n : Str), N.exm[c]? = some n → n ≠ ("" : Str) → nsIn G.K mainGlobals n = some (some (.ref (T.exc c))) ∧ ExcAt T.base (T.exc c) (bm c)
  ask : ∀ (c : Nat) (n : Str), N.exm[c]? = some n → n ≠ ("" : Str) → Asks G.K (T.exc c)
  sub : ∀ (c c' : Nat) (n n' : Str), N.exm[c]? = some n → N.exm[c']? = some n' → n ≠ ("" : Str) → n' ≠ ("" : Str) → mroIn G.K (T.exc c) (.ref (T.exc c')) = some (((T.P.excs[c]?).getD []).contains c')
  named : ∀ c, T.P.rz.contains c = true → ∃ n, N.exm[c]? = some n ∧ n ≠ ("" : Str)
  gs : specialIn G.K (.builtin "object.__class__") "__get__" = some (some (.builtin "getset_descriptor.__get__"))
  tk : takesIn G.K (.builtin "object.__class__") = some true

theorem Exs.mro {T : St} {N : Nm} {G : Gd T N} (Ex : Exs T N G) (c c' : Nat) (n n' : Str) (h1 : N.exm[c]? = some n) (h2 : N.exm[c']? = some n') (h3 : n ≠ ("" : Str)) (h4 : n' ≠ ("" : Str)) :
    (Value.ref (T.exc c) :: Ex.bm c).contains (.ref (T.exc c')) = ((T.P.excs[c]?).getD []).contains c' := by
  have hs := Ex.sub c c' n n' h1 h2 h3 h4
  obtain ⟨_, Nn, nm, q, bs, hdct, sn, sub, ab, col, dd, k0, k1, k2, k3, k5, mN, hC, _⟩ := Ex.at' c n h1 h3
  obtain ⟨cd, a, b⟩ := Option.bind_eq_some_iff.mp hs
  have e := a
  unfold clsIn at e
  split at e
  · rename_i ho
    cases e
    have h5 := G.kin _ _ ho
    rw [hC] at h5
    cases h5
    split at b
    · cases b
    · exact Option.some.inj b
  · cases e
end Mine
end
section
namespace Mine
open PySem PySem.W PySem.Calls PyProof.Rows

section
variable {T : St} {N : Nm} {A : Around} {L : Addr} {q : Bool} {d : Nat} {φ φ' : Phi} {η η' : H} {s s' : Shared} {env : Env} {sc : Scope} {Γ : Gam} {ρ : Rho} {α β : Type} {call' : Nat → List V → H → R V}

noncomputable def biVal : Bi → Value
  | .len => .builtin "len" | .int => .type "int" | .str => .type "str" | .tuple => .type "tuple" | .sorted => .builtin "sorted" | .min => .builtin "min" | .max => .builtin "max"

theorem one_arg {v : V} {ys : List Value} {vs : List V} {h : Heap} (r : VRs T φ (own φ η) h vs ys) (e : vs = [v]) : ∃ y, ys = [y] ∧ VR T φ (own φ η) h v y := by
  subst e
  simp only [VRs] at r
  obtain ⟨y, _, rfl, r1, rfl⟩ := r
  exact ⟨y, rfl, r1⟩

theorem sim_bi (b : Bi) {vs : List V} {ys : List Value} (R : Rel T φ η s.heap) (hq : q = true → A.handled = none) (rs : QVs T φ η s.heap vs ys) : Sim T A L φ η s (PySem.call (biVal b) ys) (biV q b η vs) (QV T) := by
  match b, vs, rs with
  | b, [], _ => cases b <;> exact .fail
  | .len, [v], rs =>
    obtain ⟨y, rfl, r⟩ := one_arg rs rfl
    exact sim_len R r
  | .int, [v], rs =>
    obtain ⟨y, rfl, r⟩ := one_arg rs rfl
    exact sim_int R r
  | .str, [v], rs => exact .fail
  | .tuple, [v], rs => exact .fail
  | .sorted, [v], rs => exact .fail
  | .min, [v], rs => exact .fail
  | .max, [v], _ => exact .fail
  | .max, v :: w :: [], rs => exact .fail
  | b, v :: w :: z :: r, _ => cases b <;> cases v <;> first | exact .fail | (cases w <;> exact .fail)
  | .len, _ :: _ :: [], _ => exact .fail
  | .int, v :: _ :: [], _ => cases v <;> exact .fail
  | .str, v :: _ :: [], _ => cases v <;> exact .fail
  | .tuple, _ :: _ :: [], _ => exact .fail
  | .sorted, _ :: _ :: [], _ => exact .fail
  | .min, _ :: _ :: [], _ => exact .fail

theorem keep_builtin {id : String} : ∀ h : Heap, (∀ b o, T.base.get? b = some o → h.get? b = some o) → ∃ k, (k = Keeper.frame ∨ k = Keeper.machine ∨ k = Keeper.boundFrame) ∧ Looks T.M h (keeperOf (.builtin id)) k := fun _ _ => ⟨.machine, .inr (.inl rfl), Looks.of_pure rfl⟩
theorem keep_type {t : String} : ∀ h : Heap, (∀ b o, T.base.get? b = some o → h.get? b = some o) → ∃ k, (k = Keeper.frame ∨ k = Keeper.machine ∨ k = Keeper.boundFrame) ∧ Looks T.M h (keeperOf (.type t)) k := fun _ _ => ⟨.machine, .inr (.inl rfl), Looks.of_pure rfl⟩
theorem keep_ref (G : Gd T N) {a : Addr} (hk : keepIn G.K (.ref a) = true) : ∀ h : Heap, (∀ b o, T.base.get? b = some o → h.get? b = some o) → ∃ k, (k = Keeper.frame ∨ k = Keeper.machine ∨ k = Keeper.boundFrame) ∧ Looks T.M h (keeperOf (.ref a)) k :=
  fun h hb => keeps_K hk h (G.kin.keeps hb)

/-- a call of a name -/
theorem sim_named {n : Str} {p pos : Pos} {xs : List Expr} {f : Value} {r : R V} (hf : ∀ (Q : Value → Shared → Prop) (E : Value → Shared → Prop), Q f s → wpAny T.M A (eval (.Name n p) env) Q E s)
    (h : Sim T A L φ η s (callWith pos f [] (backTo pos (starEach xs env)) []) r (QV T)) : Sim T A L φ η s (eval (.Call (.Name n p) xs [] pos) env) r (QV T) := by
  rw [arm_eval_Call_Name']
  exact h.imp id fun h => wpAny_bind (hf _ _ h)

theorem e_bi (G : Gd T N) {b : Bi} {args : List E} {n : Str} {p pos : Pos} {xs : List Expr} (hb : (biName b == n) = true) (hn : isGlo sc n = true) (hp : plainArgs xs) (h : SimEs T q d call' sc Γ args xs) : SimE T q d call' sc Γ (.bi b args) (.Call (.Name n p) xs [] pos) := by
  intro A L φ η s env ρ X F
  rw [beq_iff_eq] at hb; subst hb
  have hB := boot_bi b
  have hv : bootBuiltins (biName b) = some (biVal b) := by rw [hB.2]; cases b <;> rfl
  refine sim_named (f := biVal b) (fun Q E hQ => name_boot G X.rel F hn hB.1 hv hQ) ?_
  refine sim_callWith (by cases b <;> first | exact keep_builtin | exact keep_type) hp h X F fun vs η' φ' ys s' _ p hv => ?_
  exact sim_bi b p.rel X.hand hv

/-- what a function's call does -/
noncomputable def CallOK (T : St) (fn : Nat → Addr) (q : Bool) (d : Nat) (call : Nat → List V → H → R V) : Prop :=
  ∀ f A L l φ η s vs ys, (q = true → A.handled = none) → A.depth + 4 * d + 1 ≤ recursionLimit → A.units + 20 * d + 3 < cLine → A.frames = some l → Stk T φ η l s.heap → Rel T φ η s.heap → VRs T φ (own φ η) s.heap vs ys →
    call f vs η = .fail ∨ codeAny T.M A (.call (.ref (fn f)) ⟨ys, []⟩) (fun res s' => match res with
      | .ok (.ret x) => SOk T φ η s (call f vs η) (QV T) x s'
      | .ok _ => False
      | .error e => SEx T L φ η s (call f vs η) e s') s
theorem CallOK.sim {fn : Nat → Addr} (hc : CallOK T fn q d call') {f : Nat} {vs : List V} {ys : List Value} (X : Cxt T A L q d φ η s) (hv : VRs T φ (own φ η) s.heap vs ys) : Sim T A L φ η s (PySem.call (.ref (fn f)) ys) (call' f vs η) (QV T) := by
  obtain ⟨top, outer, hfr, htop, hst⟩ := X.stk
  exact (hc f A L _ φ η s vs ys X.hand (by have := X.depth; omega) (by have := X.units; omega) hfr hst X.rel hv).imp id fun h => wpAny_call h

theorem e_call (G : Gd T N) (hc : CallOK T G.fn q d call') {f : Nat} {args : List E} {n : Str} {p pos : Pos} {xs : List Expr} (hf : atName N.fnm f n = true) (hn : isGlo sc n = true) (hp : plainArgs xs) (h : SimEs T q d call' sc Γ args xs) : SimE T q d call' sc Γ (.call f args) (.Call (.Name n p) xs [] pos) := by
  intro A L φ η s env ρ X F
  obtain ⟨h1, h2⟩ := at_name hf
  obtain ⟨e, hk⟩ := G.fns f n h1 h2
  refine sim_named (f := .ref (G.fn f)) (fun Q E hQ => name_glob G X.rel F hn e hQ) ?_
  refine sim_callWith (keep_ref G hk) hp h X F fun vs η' φ' ys s' _ p hv => ?_
  exact hc.sim (X.step p) hv

theorem e_toList (G : Gd T N) {mu : Bool} {a : E} {n : Str} {p pos : Pos} {x : Expr} (hl : (n == ("list" : Str)) = true) (hn : isGlo sc n = true) (hp : plainArg x = true) (h : SimE T q d call' sc Γ a x) : SimE T q d call' sc Γ (.toList mu a) (.Call (.Name n p) [x] [] pos) := by
  intro A L φ η s env ρ X F
  rw [beq_iff_eq] at hl; subst hl
  refine sim_named (f := .type "list") (fun Q E hQ => name_boot G X.rel F hn (by decide +kernel) (by decide +kernel) hQ) ?_
  have hs : plainArgs [x] := by unfold plainArgs; simp [hp]
  have hes := es_cons hp h (es_nil (T := T) (q := q) (d := d) (call := call') (sc := sc) (Γ := Γ))
  refine (sim_callWith (g := fun vs h => match vs with | [v] => (match seqOf h v with | some xs => if xs.length ≤ 100000 then mkList mu xs h else .fail | none => .fail) | _ => .fail) keep_type hs hes X F fun vs η' φ' ys s' e p hv => ?_).cast ?_
  · have hl := evEs_len T.P _ _ _ _ _ e
    match vs, hl, hv with
    | [v], _, hv =>
      obtain ⟨y, rfl, r⟩ := one_arg hv rfl
      exact sim_toList mu p.rel r
  · show (evE T.P q call' a ρ η).bind _ = ((evE T.P q call' a ρ η).bind fun v h => (evEs T.P q call' [] ρ h).bind fun vs h => .ok (v :: vs) h).bind _
    cases evE T.P q call' a ρ η <;> rfl

theorem isi_sim (G : Gd T N) {a : E} {t : Ty} {tn : Str} {n : Str} {p p' pos : Pos} {x : Expr} {cv : Value} (hl : n = ("isinstance" : Str)) (hn : isGlo sc n = true) (hp : plainArg x = true) (h : SimE T q d call' sc Γ a x) (X : Cxt T A L q d φ η s) (F : FR T φ η s.heap L env sc Γ ρ) (hT : okT T.P t = true)
    (hname : ∀ {Q : Value → Shared → Prop} {E : Value → Shared → Prop} {φ₁ η₁ s₁}, Rel T φ₁ η₁ s₁.heap → FR T φ₁ η₁ s₁.heap L env sc Γ ρ → Q cv s₁ → wpAny T.M A (eval (.Name tn p') env) Q E s₁)
    (hcall : ∀ v η' φ' y s', Rel T φ' η' s'.heap → QV T φ' η' s'.heap v y → Sim T A L φ' η' s' (PySem.call (.builtin "isinstance") [y, cv]) (instV T.P η' v t) (QV T)) :
    Sim T A L φ η s (eval (.Call (.Name n p) [x, .Name tn p'] [] pos) env) (evE T.P q call' (.isinst a t) ρ η) (QV T) := by
  subst hl
  refine sim_named (f := .builtin "isinstance") (fun Q E hQ => name_boot G X.rel F hn (by decide +kernel) (by decide +kernel) hQ) ?_
  have hs : plainArgs [x, .Name tn p'] := by unfold plainArgs; rw [List.all_cons, hp]; rfl
  have hsp : Sim T A L φ η s (spliced (backTo pos (starEach [x, .Name tn p'] env))) (evE T.P q call' a ρ η) (fun φ η h v ys => ∃ y, ys = [y, cv] ∧ VR T φ (own φ η) h v y) := by
    rw [starEach_plain hp, starEach_plain (x := .Name tn p') rfl]
    refine (h A L φ η s env ρ X F).imp id fun w => spliced_cons (wpAny_mono w (fun y s₁ ⟨v, η', φ', e, p, r⟩ => ?_) fun _ _ z => z)
    exact spliced_cons (hname p.rel (F.step p.step) (spliced_nil ⟨v, η', φ', e, p, y, rfl, r⟩))
  have ee : evE T.P q call' (.isinst a t) ρ η = (evE T.P q call' a ρ η).bind fun x h => instV T.P h x t := by
    show (if okT T.P t = true then (evE T.P q call' a ρ η).bind _ else R.fail) = _
    rw [if_pos hT]
  rw [ee]
  refine sim_callWithG (g := fun x h => instV T.P h x t) keep_builtin hs hsp fun v η' φ' ys s' _ p hq => ?_
  obtain ⟨y, rfl, r⟩ := hq
  exact hcall v η' φ' y s' p.rel r
/-- an own exception's class -/
theorem isi_exc (G : Gd T N) (Ex : Exs T N G) {e : Nat} {cv : Value} {b : Bool} {n : Str} {y : Value} (R : Rel T φ η s.heap) (r : QV T φ η s.heap (.exc e) y) (h1 : N.exm[e]? = some n) (h2 : n ≠ ("" : Str)) (h3 : (Value.ref (T.exc e) == cv) = true → b = true)
    (h4 : ∀ h M, G.K.In h → Looks M h (typeOf cv) (.type "type") ∧ Looks M h (PySem.isType cv) true ∧ Looks M h (isSubtype (.ref (T.exc e)) cv) b) : Sim T A L φ η s (PySem.call (.builtin "isinstance") [y, cv]) (.ok (.bool b) η) (QV T) := by
  simp only [VR] at r
  obtain ⟨a', o', rfl, _, g1, g2, _⟩ := r
  have KX := G.here R
  exact .ok rfl (own_isi (Ex.ask e n h1 h2) Ex.gs Ex.tk KX g1 g2 (fun M => (h4 _ M KX).1) (fun M => (h4 _ M KX).2.1) h3 (fun M => (h4 _ M KX).2.2) fun k => ⟨φ, .toks R, by simp [QV, VR]⟩)
theorem e_isinst (G : Gd T N) {a : E} {t : Ty} {n tn : Str} {p p' pos : Pos} {x : Expr} (hl : (n == ("isinstance" : Str)) = true) (hn : isGlo sc n = true) (ht : (tyName N t == some tn) = true) (htn : isGlo sc tn = true) (hp : plainArg x = true)
    (h : SimE T q d call' sc Γ a x) (Ex : T.P.rz.isEmpty = false → Exs T N G) : SimE T q d call' sc Γ (.isinst a t) (.Call (.Name n p) [x, .Name tn p'] [] pos) := by
  intro A L φ η s env ρ X F
  have hl := beq_iff_eq.mp hl
  have ht := beq_iff_eq.mp ht
  by_cases hT : okT T.P t = true
  case neg => exact .inl (if_neg hT)
  cases t with
  | int => cases ht; exact isi_sim G hl hn hp h X F hT (fun R F' hQ => name_boot G R F' htn (by decide +kernel) (by decide +kernel) hQ) fun v η' φ' y s' R r => isi_int R r
  | bool => cases ht; exact isi_sim G hl hn hp h X F hT (fun R F' hQ => name_boot G R F' htn (by decide +kernel) (by decide +kernel) hQ) fun v η' φ' y s' R r => isi_bool R r
  | str => cases ht; exact isi_sim G hl hn hp h X F hT (fun R F' hQ => name_boot G R F' htn (by decide +kernel) (by decide +kernel) hQ) fun v η' φ' y s' R r => isi_str R r
  | tuple => cases ht; exact isi_sim G hl hn hp h X F hT (fun R F' hQ => name_boot G R F' htn (by decide +kernel) (by decide +kernel) hQ) fun v η' φ' y s' R r => isi_tuple R r
  | list => cases ht; exact isi_sim G hl hn hp h X F hT (fun R F' hQ => name_boot G R F' htn (by decide +kernel) (by decide +kernel) hQ) fun v η' φ' y s' R r => isi_list R r
  | valueError =>
    cases ht
    have Ex := Ex (by simpa [okT] using hT)
    refine isi_sim (cv := .type "ValueError") G hl hn hp h X F hT (fun R F' hQ => name_boot G R F' htn (by decide +kernel) (by decide +kernel) hQ) fun v η' φ' y s' R r => Sim.get fun b e => ?_
    cases v with
    | exc e' =>
      obtain ⟨hr, e⟩ : T.P.rz.contains e' = true ∧ b = true := by
        by_cases hr : T.P.rz.contains e' = true
        · have := (if_pos hr).symm.trans e; cases this; exact ⟨hr, rfl⟩
        · exact absurd ((if_neg hr).symm.trans e) (by simp)
      subst e
      obtain ⟨n, h1, h2⟩ := Ex.named e' hr
      exact isi_exc G Ex R r h1 h2 (fun _ => rfl) fun h M X => ⟨.of_pure rfl, .of_pure rfl, looks_mroIn X (Ex.ask e' n h1 h2).ve⟩
    | _ => cases e
  | cls c =>
    have Ex := Ex (by simpa [okT] using hT)
    simp only [tyName, Option.filter_eq_some_iff, Bool.not_eq_true', beq_eq_false_iff_ne, ne_eq] at ht
    refine isi_sim G hl hn hp h X F hT (fun R F' hQ => name_glob G R F' htn (Ex.at' c tn ht.1 ht.2).1 hQ) fun v η' φ' y s' R r => Sim.get fun b e => ?_
    cases v with
    | exc e' =>
      by_cases hr : T.P.rz.contains e' = true
      · have e1 := (if_pos hr).symm.trans e
        obtain ⟨ln, h3, h4⟩ := Option.map_eq_some_iff.mp e1
        obtain ⟨n, h1, h2⟩ := Ex.named e' hr
        have h5 := Ex.sub e' c n tn h1 ht.1 h2 ht.2
        have h6 := Ex.mro e' c n tn h1 ht.1 h2 ht.2
        rw [h3, Option.getD_some, h4] at h5 h6
        have ak := Ex.ask c tn ht.1 ht.2
        refine isi_exc G Ex R r h1 h2 (fun q => ?_) fun h M X => ⟨looks_typeIn X ak.ty, ak.isType X, looks_mroIn X h5⟩
        rw [← h6, List.contains_cons, beq_iff_eq.mp q]; simp
      · exact absurd ((if_neg hr).symm.trans e) (by simp)
    | _ => cases e
end
end Mine
end
section
namespace Mine
open PySem PyProof.Rows

section
variable {cw : Bool} {T : St} {A : Around} {L : Addr} {q : Bool} {d : Nat} {φ₀ φ φ' φ₁ : Phi} {η₀ η η' η₁ : H} {s₀ s s' s₁ : Shared} {h h' : Heap} {env : Env} {sc csc : Scope} {Γ : Gam} {ρ : Rho} {α β : Type} {I Cc : Addr} {xs : List V} {live : Option (Nat × List V)} {call : Nat → List V → H → R V} {n : Str} {x : Nat}

structure CompOk (csc sc : Scope) (n : Str) (Γ : Gam) (x : Nat) : Prop where
  kind : csc.kind = .function
  nocell : ∀ p ∈ csc.names, p.2 ≠ .cell
  locals : ∀ p ∈ csc.names, p.2 = .local → csc.names.lookup p.1 = some .local
  name : csc.names.lookup n = some .local
  free : ∀ p ∈ csc.names, p.2 = .free → sc.names.lookup p.1 = some .cell ∧ csc.names.lookup p.1 = some .free ∧ (Γ.lookup p.1).isSome = true
  slot : ∀ p ∈ Γ, p.2 ≠ x
  only : ∀ p ∈ csc.names, p.2 = .local → p.1 = n ∨ Γ.lookup p.1 = none
theorem comp_ok (e : compOk csc sc n Γ x = true) : CompOk csc sc n Γ x := by
  unfold compOk at e
  simp only [Bool.and_eq_true, List.all_eq_true, beq_iff_eq, Bool.or_eq_true, Bool.not_eq_true', beq_eq_false_iff_ne, Option.isNone_iff_eq_none] at e
  obtain ⟨⟨⟨⟨⟨⟨h1, h2⟩, h3⟩, h4⟩, h5⟩, h6⟩, h7⟩ := e
  refine ⟨h1, fun p hp => h2 p hp, fun p hp hl => (h3 p hp).resolve_left fun q => q hl, h4, fun p hp hf => ?_, fun p hp => h6 p hp, fun p hp hl => ?_⟩
  · obtain ⟨⟨⟨_, a⟩, b⟩, c⟩ := (h5 p hp).resolve_left fun q => q hf
    exact ⟨a, b, c⟩
  · rcases h7 p hp with (h | h) | h
    · exact absurd hl h
    · exact .inl h
    · exact .inr h

theorem mem_lookup {α : Type} : ∀ {l : List (Str × α)} {n : Str} {c : α}, l.lookup n = some c → (n, c) ∈ l
  | (k, v) :: r, n, c, h => by
    rw [List.lookup_cons] at h
    cases hb : n == k with
    | true => rw [hb] at h; cases h; rw [beq_iff_eq.mp hb]; exact List.mem_cons_self
    | false => rw [hb] at h; exact List.mem_cons_of_mem _ (mem_lookup h)

/-- the frame of a comprehension -/
theorem comp_fr (K : CompOk csc sc n Γ x) (F : FR T φ η h L env sc Γ ρ) (hc : NsAt h Cc "dict" m) (hm : ∀ k, m k = none) (ho : ¬ own φ η Cc) (hb : T.base.get? Cc = none) : FR T φ η h L (compEnvC csc (closL env csc.names []) Cc env) (relabelS csc sc) ((n, x) :: Γ) (ρ.set x none) := by
  have hfree : ∀ p ∈ csc.names, p.2 = .free → (env.cells.lookup p.1).isSome = true := fun p hp hf => by
    obtain ⟨a, _, b⟩ := K.free p hp hf
    obtain ⟨i, hi⟩ := Option.isSome_iff_exists.mp b
    obtain ⟨c, ov, e, _⟩ := F.cell p.1 i hi (by unfold Env.kindOf; rw [F.sc]; exact a)
    rw [e]; rfl
  have hsub := closL_sub csc.names [] hfree (fun n c e => by cases e)
  have hsc : relabel csc env = relabelS csc sc := by rw [← F.sc]; rfl
  have hkd : ∀ k, (compEnvC csc (closL env csc.names []) Cc env).kindOf k = (csc.names.lookup k).map fun kd => if (kd == .free && sc.kind == .function && sc.names.lookup k == some .cell) then NameKind.cell else kd := fun k => by
    show (relabel csc env).names.lookup k = _
    rw [hsc]; exact lookup_relabelS csc sc k
  refine ⟨hsc, K.kind, F.glob, F.bi, F.frame, ⟨"dict", m, hc, .inr rfl, fun k i v h1 h2 h3 => ?_⟩, fun k i h1 h2 => ?_, ⟨ho, hb⟩, fun k c e => F.cthere k c (hsub k c e), fun k c e => F.cfresh k c (hsub k c e), fun k k' c e e' => F.apart k k' c (hsub k c e) (hsub k' c e'), fun k k' i h1 h2 => ?_⟩
  · exfalso
    rw [hkd, Option.map_eq_some_iff] at h2
    obtain ⟨kd, hl, hkd'⟩ := h2
    have hloc : kd = .local := by
      split at hkd'
      · cases hkd'
      · exact hkd'
    subst hloc
    have hmem := mem_lookup hl
    rw [List.lookup_cons] at h1
    cases hb : k == n with
    | true =>
      rw [hb] at h1; cases h1
      rcases getElem?_set_some h3 with ⟨_, e⟩ | ⟨e, _⟩
      · cases e
      · exact e rfl
    | false =>
      rw [hb] at h1
      rcases K.only _ hmem rfl with e | e
      · dsimp only at e; rw [e, beq_self_eq_true] at hb; cases hb
      · dsimp only at e h1; rw [e] at h1; cases h1
  · rw [hkd, Option.map_eq_some_iff] at h2
    obtain ⟨kd, hl, hkd'⟩ := h2
    have hmem := mem_lookup hl
    have hf : kd = .free := by
      split at hkd'
      · rename_i hcond
        simp only [Bool.and_eq_true, beq_iff_eq] at hcond
        exact hcond.1.1
      · exact absurd hkd' (K.nocell _ hmem)
    subst hf
    obtain ⟨a, _, b⟩ := K.free _ hmem rfl
    have hne : (k == n) = false := by
      cases hb : k == n with
      | true => rw [beq_iff_eq.mp hb, K.name] at hl; cases hl
      | false => rfl
    rw [List.lookup_cons, hne] at h1
    obtain ⟨c, ov, e, hcell, hv⟩ := F.cell k i h1 (by unfold Env.kindOf; rw [F.sc]; exact a)
    have hi : i ≠ x := K.slot _ (mem_lookup h1)
    obtain ⟨c', hc'⟩ := Option.isSome_iff_exists.mp (closL_has (env := env) csc.names [] k hmem)
    have := hsub k c' hc'
    rw [e] at this; cases this
    refine ⟨c, ov, hc', hcell, fun v hr => ?_⟩
    rcases getElem?_set_some hr with ⟨e, _⟩ | ⟨_, e⟩
    · exact absurd e hi
    · exact hv v e
  · rw [List.lookup_cons] at h1 h2
    cases hb : k == n with
    | true =>
      rw [hb] at h1; cases h1
      cases hb' : k' == n with
      | true => rw [beq_iff_eq.mp hb, beq_iff_eq.mp hb']
      | false => rw [hb'] at h2; exact absurd rfl (K.slot _ (mem_lookup h2))
    | false =>
      rw [hb] at h1
      cases hb' : k' == n with
      | true => rw [hb'] at h2; cases h2; exact absurd rfl (K.slot _ (mem_lookup h1))
      | false => rw [hb'] at h2; exact F.inj k k' i h1 h2

/-- the tests -/
theorem sim_tests_no {E : Value → Shared → Prop} {Q : Bool → Shared → Prop} : ∀ (ts : List Expr), Q false s → wpAny T.M A (forIn ts false fun c r => if r = true then do let ok ← isTrue c env (eval c env); pure (ForInStep.yield ok) else pure (ForInStep.yield r)) Q E s
  | [], h => wpAny_pure h
  | t :: ts, h => by
    rw [List.forIn_cons]
    exact wpAny_bind (wpAny_pure (sim_tests_no ts h))
theorem sim_tests : ∀ (cs : List C) (ts : List Expr), SimCL T q d call sc Γ cs ts → ∀ φ η s, Cxt T A L q d φ η s → FR T φ η s.heap L env sc Γ ρ →
    Sim T A L φ η s (forIn ts true fun c r => if r = true then do let ok ← isTrue c env (eval c env); pure (ForInStep.yield ok) else pure (ForInStep.yield r)) (evIfs T.P q call cs ρ η) QB
  | [], [], _, φ, η, s, X, F => .pure X.rel rfl
  | c :: cs, t :: ts, hh, φ, η, s, X, F => by
    rw [List.forIn_cons, if_pos rfl]
    refine Sim.assoc (Sim.bind (hh.1 A L φ η s env ρ X F) fun v η' φ' y s' _ p hq => ?_)
    cases hq
    refine .pureBind ?_
    cases v with
    | true => exact sim_tests cs ts hh.2 φ' η' s' (X.step p) (F.step p.step)
    | false => exact .ok rfl (sim_tests_no ts ⟨φ', .refl p.rel, rfl⟩)
  | [], _ :: _, hh, _, _, _, _, _ => hh.elim
  | _ :: _, [], hh, _, _, _, _, _ => hh.elim

theorem FS.cxt' (F : FS cw T A L φ₀ η₀ s₀ φ η s env sc Γ ρ) (X : Cxt T A L q d φ₁ η₁ s₁) : Cxt T A L q d φ η s := ⟨X.hand, X.depth, X.units, F.stk, F.post.rel⟩

/-- an exception inside -/
theorem noted {e : Value} {c : Nat} {E : Value → Shared → Prop} (F : FS cw T A L φ₀ η₀ s₀ φ η s env sc Γ ρ) (x : XR T s.heap e c L)
    (h : ∀ a s', e = .ref a → Post T φ η s φ η s' → RN T s'.heap a c (rawInt L) → E e s') : notedBy T.M A env E e s := by
  obtain ⟨a, rfl, r⟩ := x
  obtain ⟨top, outer, h1, h2, h3⟩ := F.stk
  exact wpAny_mono (note h1 h2 h3 F.fr.frame F.post.rel r) (fun _ s' ⟨p, rn⟩ => h a s' rfl p rn) fun _ _ y => y

/-- between the turns -/
inductive CmpI (T : St) (A : Around) (L : Addr) (φ₁ : Phi) (η₁ : H) (s₁ : Shared) (cenv : Env) (csc' : Scope) (Γ' : Gam) (ρ : Rho) (x : Nat) (I : Addr) (live : Option (Nat × List V)) (N : Nat) (D : Addr) (stp : V → H → R Unit) (tot : R Unit) (m : Nat) (s : Shared) : Prop where
  | mk (φ : Phi) (η : H) (o : Option V) (xs : List V) (hm : m = xs.length) (F : FS false T A L φ₁ η₁ s₁ φ η s cenv csc' Γ' (ρ.set x o)) (it : Iter T φ η s.heap I xs live) (ow : Own T s₁ φ η I) (hD : φ[N]? = some (D, D)) (e : compLoop (still · live) stp xs η = tot)
/-- the loop of a comprehension -/
theorem comp_loop {ey iter : Expr} {tests : List Expr} {pos px : Pos} {cenv : Env} {csc' : Scope} {Γ' : Gam} {D : Addr} {N : Nat} {RR : Result → Shared → Prop} {tot : R Unit} {o : Option V} {fi : Rho → H → R Bool} {fe : Rho → H → R V}
    (hq : A.handled = none) (X : Cxt T A L q d φ₁ η₁ s₁) (hΓ : Γ'.lookup n = some x) (hn : csc'.names.lookup n = some .local)
    (he : ∀ φ η s ρ, Cxt T A L q d φ η s → FR T φ η s.heap L cenv csc' Γ' ρ → Sim T A L φ η s (eval ey cenv) (fe ρ η) (QV T))
    (ht : ∀ φ η s ρ, Cxt T A L q d φ η s → FR T φ η s.heap L cenv csc' Γ' ρ → Sim T A L φ η s (forIn tests true fun c r => if r = true then do let ok ← isTrue c cenv (eval c cenv); pure (ForInStep.yield ok) else pure (ForInStep.yield r)) (fi ρ η) QB) (hf : tot ≠ .fail)
    (hQ : ∀ s' φ' η' o, tot = .ok () η' → φ'[N]? = some (D, D) → FS false T A L φ₁ η₁ s₁ φ' η' s' cenv csc' Γ' (ρ.set x o) → RR (.ok .next) s')
    (hE : ∀ a s' c φ' η' o, tot = .exc c η' → FS false T A L φ₁ η₁ s₁ φ' η' s' cenv csc' Γ' (ρ.set x o) → RN T s'.heap a c (rawInt L) → RR (.error (.ref a)) s')
    (F : FS false T A L φ₁ η₁ s₁ φ η s cenv csc' Γ' (ρ.set x o)) (it : Iter T φ η s.heap I xs live) (ow : Own T s₁ φ η I) (hD : φ[N]? = some (D, D))
    (e : compLoop (still · live) (compStep fi fe x N ρ) xs η = tot) :
    codeAny T.M A (.compLoop (.ListComp ey [⟨.Name n px, iter, tests, 0⟩] csc pos) 0 (.ref I) (.ref D) cenv) RR s := by
  refine codeAny_compLoop_tests (CmpI T A L φ₁ η₁ s₁ cenv csc' Γ' ρ x I live N D (compStep fi fe x N ρ) tot) (fun m s hI => ?_) xs.length ⟨φ, η, o, xs, rfl, F, it, ow, hD, e⟩
  clear e hD ow it F
  have ex : ∀ {c η' φ' e' s₃ o}, tot = .exc c η' → FS false T A L φ₁ η₁ s₁ φ' η' s₃ cenv csc' Γ' (ρ.set x o) → XR T s₃.heap e' c L → notedBy T.M A cenv (fun e s => RR (.error e) s) e' s₃ := fun et F hx =>
    noted F hx fun a s₄ ea p₄ rn => by subst ea; exact hE a s₄ _ _ _ _ et (F.step p₄) rn
  cases hI with
  | mk φ η o xs hm F it ow hD e =>
    subst hm
    obtain ⟨oI, gI, pI, cI⟩ := it.priv
    cases xs with
    | nil =>
      obtain ⟨hs, e⟩ := ifR_nf e hf
      exact it.fin hq F.post.rel hs fun h' hx => hQ _ φ η o e.symm hD (F.but (t := s.toks) gI pI cI ow.z ow.o ow.b hx)
    | cons v vs =>
      obtain ⟨hs, e⟩ := ifR_nf e hf
      have e := bind_bind e
      refine it.next F.post.rel hs fun y h' t ry it' hsame => ?_
      have F' := F.but (t := t) gI pI cI ow.z ow.o ow.b (sameBut_keep hsame)
      refine wpAny_assign_Name (F'.store hΓ (.inl hn) ry fun s₂ F₂ k₂ a₂ v₂ => ?_)
      have it₂ : Iter T φ η s₂.heap I vs live := it'.stepL (F'.stepL_store k₂ a₂) F'.fr ow.o
      rw [List.set_set] at F₂
      refine (ht φ η s₂ _ (F₂.cxt' X) F₂.fr).elim (bind_nf e hf) (fun b η₃ φ₃ _ s₃ er hp hbq => ?_) fun c η' φ' e' s₃ er hp hx => ex (bind_exc' e er) (F₂.step hp) hx
      cases hbq
      have e := bind_ok' e er
      have F₃ := F₂.step hp
      have it₃ := it₂.step hp.step ow.o
      have ow₃ : Own T s₁ φ₃ η₃ I := ow.step (env := cenv) hp.step.toL (iter_there it₂)
      have hD₃ := get_prefix hp.step.ext hD
      cases b with
      | false => exact ⟨vs.length, Nat.lt_succ_self _, φ₃, η₃, _, vs, rfl, F₃, it₃, ow₃, hD₃, e⟩
      | true =>
        have e := bind_bind e
        refine (he φ₃ η₃ s₃ _ (F₃.cxt' X) F₃.fr).elim (bind_nf e hf) (fun w η₄ φ₄ yv s₄ er hp₄ rw' => ?_) fun c η' φ' e' s₃ er hp hx => ex (bind_exc' e er) (F₃.step hp) hx
        have e := bind_bind (bind_ok' e er)
        have F₄ := F₃.step hp₄
        have it₄ := it₃.step hp₄.step ow₃.o
        have ow₄ : Own T s₁ φ₄ η₄ I := ow₃.step (env := cenv) hp₄.step.toL (iter_there it₃)
        have hD₄ := get_prefix hp₄.step.ext hD₃
        exact (app_sim (L := L) F₄.post.rel hD₄ rw').elim (bind_nf e hf) (fun _ η₅ φ₅ _ s₅ er hp₅ _ => have e := bind_ok' e er; ⟨vs.length, Nat.lt_succ_self _, φ₅, η₅, _, vs, rfl, F₄.step hp₅, it₄.step hp₅.step ow₄.o, ow₄.step (env := cenv) hp₅.step.toL (iter_there it₄), get_prefix hp₅.step.ext hD₄, e⟩)
          fun c η' φ' e' s₅ er hp₅ hx => ex (bind_exc' e er) (F₄.step hp₅) hx
end
end Mine
end
section
namespace Mine
open PySem PyProof.Rows

section
variable {cw : Bool} {T : St} {A : Around} {L : Addr} {q : Bool} {d : Nat} {φ₀ φ φ' φ₁ : Phi} {η₀ η η' η₁ : H} {s₀ s s' s₁ : Shared} {h h' : Heap} {env : Env} {sc csc : Scope} {Γ : Gam} {ρ : Rho} {I Cc : Addr} {xs : List V} {live : Option (Nat × List V)} {call : Nat → List V → H → R V} {n : Str} {x : Nat}

theorem new_comp_env {M : Model} {E : Value → Shared → Prop} {g : Addr} {cl : List (Str × Addr)} {qual : Str} {Q : Env → Shared → Prop} (hc : ∀ p ∈ csc.names, p.2 ≠ .cell)
    (hQ : Q (newEnv csc s.heap.objs.size g cl qual none .none (some env) builtinsNs) { s with heap := s.heap.push { cls := .type "dict", data := .dict #[] } }) : wpAny M A (newFunctionEnv csc g cl [] qual none .none (some env)) Q E s := by
  simp only [newFunctionEnv, Option.isSome_some, if_true]
  refine wpAny_bind (wpAny_alloc ?_)
  rw [forIn_yield_id cl (fun x hx c => by
    obtain ⟨name, kind⟩ := x
    have : (kind == NameKind.cell) = false := by simpa using hc _ hx
    simp only [this, Bool.false_eq_true, if_false])]
  refine wpAny_bind (wpAny_pure (wpAny_bind ?_))
  rw [List.forIn_nil]
  exact wpAny_pure (wpAny_pure hQ)

theorem own_none (R : Rel T φ η h) (e : h.get? I = none) : ¬ own φ η I := fun o => by
  obtain ⟨ob, e', _⟩ := R.there o
  rw [e] at e'; cases e'
theorem base_none (R : Rel T φ η h) (e : h.get? I = none) : T.base.get? I = none := by
  cases q : T.base.get? I with
  | none => rfl
  | some o => have := R.base I o q; rw [e] at this; cases this
theorem Step.was_none (st : Step φ η h φ' η' h') (e : h'.get? I = none) : h.get? I = none := by
  cases q : h.get? I with
  | none => rfl
  | some o => have := st.alive I o q; rw [e] at this; cases this

/-- what a comprehension's names are at its end -/
structure Gone (T : St) (s : Shared) (φ' : Phi) (η' : H) (s' : Shared) (cenv : Env) : Prop where
  ns : ∃ c m, NsAt s'.heap cenv.locals c m ∧ (c = "frame" ∨ c = "dict")
  z : s.heap.get? cenv.locals = none
  o : ¬ own φ' η' cenv.locals
  b : T.base.get? cenv.locals = none

theorem comp_core {mu : Bool} {elt : E} {it : It} {ifs : List C} {px pos : Pos} {iter ey : Expr} {tests : List Expr} {RR : Value → Env → Result → Shared → Prop} {E : Value → Shared → Prop} {r : R V} (er : evE T.P q call (.comp mu x elt it ifs) ρ η = r)
    (K : CompOk csc sc n Γ x) (hi : SimIt T q d call sc Γ it iter) (he : SimE T q d call (relabelS csc sc) ((n, x) :: Γ) elt ey) (ht : SimCL T q d call (relabelS csc sc) ((n, x) :: Γ) ifs tests)
    (X : Cxt T A L q d φ η s) (F : FR T φ η s.heap L env sc Γ ρ)
    (hok : ∀ D cenv s' v η' φ', r = .ok v η' → Post T φ η s φ' η' s' → VR T φ' (own φ' η') s'.heap v (.ref D) → Gone T s φ' η' s' cenv → RR (.ref D) cenv (.ok .next) s')
    (herr : ∀ D cenv s' a c η' φ', r = .exc c η' → Post T φ η s φ' η' s' → RN T s'.heap a c (rawInt L) → Gone T s φ' η' s' cenv → cenv.frame = some L → RR (.ref D) cenv (.error (.ref a)) s')
    (hE : ∀ e s' c η' φ', r = .exc c η' → Post T φ η s φ' η' s' → XR T s'.heap e c L → E e s') :
    r = .fail ∨ wpAny T.M A (eval iter env) (fun xv s₁ => wpAny T.M A (pyIter xv) (fun it s₂ => wpAny T.M A (newList []) (fun acc s₃ => wpAny T.M A (newFunctionEnv csc env.globals (closL env csc.names []) [] env.qual none .none (some env)) (fun cenv s₄ =>
      codeAny T.M A (.compStart (.ListComp ey [⟨.Name n px, iter, tests, 0⟩] csc pos) 0 it acc { cenv with scope := relabel csc env }) (RR acc { cenv with scope := relabel csc env }) s₄) E s₃) E s₂) E s₁) E s := by
  by_cases hrf : r = .fail
  · exact .inl hrf
  right
  refine (hi A L φ η s env ρ X F).elim (bind_nf er hrf) (fun v η₁ φ₁ y s₁ ei p₁ hy => ?_) fun c η' φ' e s' ei hp hx => hE e s' c η' φ' (bind_exc' er ei) hp hx
  have er := bind_ok' er ei
  clear ei
  cases e2 : itemsOf η₁ v with
  | none => rw [e2] at er; exact absurd er.symm hrf
  | some pr =>
      obtain ⟨xs, live⟩ := pr
      rw [e2] at er
      obtain ⟨hql, er⟩ := ifR_nf er hrf
      generalize etot : compLoop (still · live) (compStep (evIfs T.P q call ifs) (evE T.P q call elt) x η₁.length ρ) xs (η₁ ++ [.list []]) = tot at er
      have er' : tot.bind (fun _ h' => endComp mu η₁ h') = r := er
      clear er
      have hf : tot ≠ .fail := bind_nf er' hrf
      refine iter_start p₁.rel e2 hy fun I hI' hI hk it' => ?_
      have p₂ : Post T φ₁ η₁ s₁ φ₁ η₁ { s₁ with heap := hI' } := Post.grown (k := s₁.toks) p₁.rel hk
      have oI := own_none p₁.rel hI
      have bI := base_none p₁.rel hI
      obtain ⟨vD, ηD, φD, eD, pD, rD⟩ := mk_list (s := { s₁ with heap := hI' }) true p₂.rel (items := #[]) (xs := []) (by simp [VRs]) s₁.toks
      cases eD
      simp only [VR] at rD
      obtain ⟨pp, hpp, ep⟩ := rD
      obtain ⟨e21, itemsD, kD, gD, _⟩ := pD.rel.obj η₁.length (.list []) pp (by rw [List.getElem?_append_right (Nat.le_refl _)]; simp) hpp
      have hDD : φD[η₁.length]? = some (hI'.objs.size, hI'.objs.size) := by
        rw [hpp]
        obtain ⟨p1, p2⟩ := pp
        cases ep
        dsimp only at e21; subst e21; rfl
      refine wpAny_newList (s := { s₁ with heap := hI' }) ?_ (by simp)
      refine new_comp_env K.nocell ?_
      generalize hH : (hI'.push (listO ([] : List Value).toArray 0)) = HD at *
      have pC : Post T φD (η₁ ++ [.list []]) { s₁ with heap := HD } φD (η₁ ++ [.list []]) { s₁ with heap := HD.push { cls := .type "dict", data := .dict #[] } } := Post.grown (s := { s₁ with heap := HD }) (k := s₁.toks) pD.rel (push_keeps _)
      have pAll : Post T φ₁ η₁ s₁ φD (η₁ ++ [.list []]) { s₁ with heap := HD.push { cls := .type "dict", data := .dict #[] } } := (p₂.trans pD).trans pC
      have zC : HD.get? HD.objs.size = none := Heap.get?_none_of_le (Nat.le_refl _)
      have oC := own_none pD.rel zC
      have bC := base_none pD.rel zC
      have z₁ : s₁.heap.get? HD.objs.size = none := (p₂.trans pD).step.was_none zC
      have nsC : NsAt (HD.push { cls := .type "dict", data := .dict #[] }) HD.objs.size "dict" (fun _ => none) := ⟨Heap.Ns.new HD (.type "dict"), _, Heap.get?_push_size _ rfl, rfl⟩
      have fr := comp_fr (m := fun _ => none) K (F.step (p₁.trans pAll).step) nsC (fun _ => rfl) oC bC
      have FSc : FS false T A L φ₁ η₁ s₁ φD (η₁ ++ [.list []]) { s₁ with heap := HD.push { cls := .type "dict", data := .dict #[] } } (compEnvC csc (closL env csc.names []) HD.objs.size env) (relabelS csc sc) ((n, x) :: Γ) (ρ.set x none) :=
        ⟨pAll, fr, let ⟨t, o, h1, h2, h3⟩ := X.stk; ⟨t, o, h1, h2, h3.step (p₁.trans pAll).step⟩, z₁, fun q => by cases q⟩
      have gone : ∀ s' φ' η' o, FS false T A L φ₁ η₁ s₁ φ' η' s' (compEnvC csc (closL env csc.names []) HD.objs.size env) (relabelS csc sc) ((n, x) :: Γ) (ρ.set x o) → Gone T s φ' η' s' (compEnvC csc (closL env csc.names []) HD.objs.size env) := fun s' φ' η' o F' => by
        obtain ⟨c, m, h1, h2, _⟩ := F'.fr.ns
        exact ⟨⟨c, m, h1, h2⟩, p₁.step.was_none z₁, F'.fr.lfresh.1, F'.fr.lfresh.2⟩
      have hI₄ := it'.step (pD.trans pC).step oI
      have loop : codeAny T.M A (.compLoop (.ListComp ey [⟨.Name n px, iter, tests, 0⟩] csc pos) 0 (.ref I) (.ref hI'.objs.size) (compEnvC csc (closL env csc.names []) HD.objs.size env))
          (RR (.ref hI'.objs.size) (compEnvC csc (closL env csc.names []) HD.objs.size env)) { s₁ with heap := HD.push { cls := .type "dict", data := .dict #[] } } := by
        refine comp_loop (s₁ := s₁) (φ₁ := φ₁) (η₁ := η₁) (N := η₁.length) (D := hI'.objs.size) (X.hand hql.1) (X.step p₁) (by rw [List.lookup_cons, beq_self_eq_true]) ?_ (fun φ η s ρ X F => he A L φ η s _ ρ X F) (fun φ η s ρ X F => sim_tests ifs tests ht φ η s X F) hf (fun s' φ' η' o eo hD F' => ?_) (fun a s' c φ' η' o eo F' rn => ?_) FSc hI₄
          ⟨hI, fun q => ?_, bI⟩ hDD etot
        · rw [lookup_relabelS, K.name]; rfl
        · have er' := bind_ok' er' eo
          unfold endComp at er'
          cases hN : η'[η₁.length]? with
          | none => rw [hN] at er'; exact absurd er'.symm hrf
          | some mo =>
            rw [hN] at er'
            cases mo with
            | list ys =>
              obtain ⟨_, items, k, g, rr⟩ := F'.post.rel.obj _ _ _ hN hD
              have gn := gone s' φ' η' o F'
              cases mu with
              | true =>
                simp only [if_true] at er'
                exact hok _ _ s' _ _ φ' er'.symm (p₁.trans F'.post) (by simp only [VR]; exact ⟨_, hD, rfl⟩) gn
              | false =>
                simp only [Bool.false_eq_true, if_false] at er'
                split at er'
                · rename_i hc
                  refine hok _ _ s' _ _ φ₁ er'.symm (p₁.trans (F'.post.cut p₁.rel hc.1)) ?_ ⟨gn.ns, gn.z, fun q => gn.o (own_cut F'.post.step.ext hc.1 q), gn.b⟩
                  simp only [VR]
                  have zD : s₁.heap.get? hI'.objs.size = none := p₂.step.was_none (Heap.get?_none_of_le (Nat.le_refl _))
                  exact ⟨_, items, k, rfl, own_none p₁.rel zD, g, F'.post.cutVs p₁.rel hc.1 rr hc.2⟩
                · have fre := F'.post.rel.free (n := η₁.length)
                  have pF : Post T φ' η' s' φ' (η'.set η₁.length .gone) s' := ⟨fre.2, fre.1, rfl, rfl, rfl⟩
                  obtain ⟨c, m, ⟨_, oc, goc, _⟩, _⟩ := gn.ns
                  refine hok _ _ s' _ _ φ' er'.symm ((p₁.trans F'.post).trans pF) ?_ ⟨gn.ns, gn.z, fre.2.off gn.o goc, gn.b⟩
                  simp only [VR]
                  exact ⟨_, items, k, rfl, own_free F'.post.rel hN hD, g, VRs.step fre.2 _ _ rr⟩
            | dict es => exact absurd er'.symm hrf
            | inst c fs => exact absurd er'.symm hrf
            | gone => exact absurd er'.symm hrf
        · exact herr _ _ s' a c η' φ' (bind_exc' er' eo) (p₁.trans F'.post) rn (gone s' φ' η' o F') F'.fr.frame
        · have gI := iter_there it'
          obtain ⟨o, go⟩ := Option.isSome_iff_exists.mp gI
          exact pD.step.off oI go q
      refine codeAny_compStart_list loop (hI₄.self loop)
end
end Mine
end
section
namespace Mine
open PySem PyProof.Rows

section
variable {cw : Bool} {T : St} {A : Around} {L : Addr} {q : Bool} {d : Nat} {φ₀ φ φ' φ₁ : Phi} {η₀ η η' η₁ : H} {s₀ s s' s₁ : Shared} {h h' : Heap} {env : Env} {sc csc : Scope} {Γ : Gam} {ρ : Rho} {I Cc : Addr} {xs : List V} {live : Option (Nat × List V)} {n : Str} {x : Nat}

theorem Gone.priv {cenv : Env} (g : Gone T s φ' η' s' cenv) : ∃ o, s'.heap.get? cenv.locals = some o ∧ Priv o ∧ (∃ es ep, o.data = .dict es ep) ∧ ∃ m, s'.heap.Ns cenv.locals m := by
  obtain ⟨c, m, ⟨hn, o, go, hc⟩, hcc⟩ := g.ns
  obtain ⟨o', es, ep, go', hd, _⟩ := id hn
  rw [go] at go'; cases go'
  exact ⟨o, go, ⟨c, hc, by rcases hcc with rfl | rfl <;> decide, by rcases hcc with rfl | rfl <;> decide⟩, ⟨es, ep, hd⟩, m, hn⟩
theorem Gone.post {cenv : Env} (g : Gone T s φ' η' s' cenv) (p : Post T φ η s φ' η' s') (hs : Heap.SameBut cenv.locals s'.heap h') : Post T φ η s φ' η' { s' with heap := h' } := by
  obtain ⟨o, go, pv, _⟩ := g.priv
  exact p.but (t := s'.toks) g.z go pv g.o g.b (sameBut_keep hs)
theorem RN.but {a : Addr} {c : Nat} {fl : Value} {o : Obj} {es : Array DictEntry} {ep : Nat} (x : RN T h a c fl) (go : h.get? Cc = some o) (hd : o.data = .dict es ep) (k : ∀ b o, b ≠ Cc → h.get? b = some o → h'.get? b = some o) : RN T h' a c fl := by
  obtain ⟨oe, vs, a0, Tb, oT, ts, h1, h2, h3, h4, h5, h6, h7, h8, h9, h10, h11, h12⟩ := x
  have n1 : a ≠ Cc := fun q => by rw [q, go] at h1; cases h1; rw [hd] at h3; cases h3
  have n2 : Tb ≠ Cc := fun q => by rw [q, go] at h9; cases h9; rw [hd] at h11; cases h11
  exact ⟨oe, vs, a0, Tb, oT, ts, k _ _ n1 h1, h2, h3, h4, h5, h6, h7, h8, k _ _ n2 h9, h10, h11, h12⟩

theorem comp_pass {cenv : Env} {a : Addr} {c : Nat} {E : Value → Shared → Prop} (g : Gone T s φ' η' s' cenv) (p : Post T φ η s φ' η' s') (rn : RN T s'.heap a c (rawInt L)) (hf : cenv.frame = some L) (hE : ∀ s'', Post T φ η s φ' η' s'' → XR T s''.heap (.ref a) c L → E (.ref a) s'') :
    ∃ m, s'.heap.Ns cenv.locals m ∧ ∀ h', Heap.SameBut cenv.locals s'.heap h' → wpAny T.M A (passOn "comprehension.variables-let-go" (.ref a) cenv : Sem Value) (fun _ _ => False) E { s' with heap := h' } := by
  obtain ⟨o, go, pv, ⟨es, ep, hd⟩, m, hn⟩ := g.priv
  refine ⟨m, hn, fun h' hs => ?_⟩
  have p' := g.post p hs
  exact passes hf p'.rel (rn.but go hd (sameBut_keep hs)) fun s'' p'' r => hE s'' (p'.trans p'') ⟨a, rfl, r⟩

theorem cells_some (K : CompOk csc sc n Γ x) (F : FR T φ η h L env sc Γ ρ) : ∀ p ∈ csc.names, p.2 = .free → (env.cells.lookup p.1).isSome = true := fun p hp hf => by
  obtain ⟨a, _, b⟩ := K.free p hp hf
  obtain ⟨i, hi⟩ := Option.isSome_iff_exists.mp b
  obtain ⟨c, ov, e, _⟩ := F.cell p.1 i hi (by unfold Env.kindOf; rw [F.sc]; exact a)
  rw [e]; rfl

theorem e_comp {call : Nat → List V → H → R V} {mu : Bool} {elt : E} {it : It} {ifs : List C} {px pos : Pos} {iter ey : Expr} {tests : List Expr} (hset : ∀ env y, foldedSetIterable iter env y = pure y)
    (K : CompOk csc sc n Γ x) (hi : SimIt T q d call sc Γ it iter) (he : SimE T q d call (relabelS csc sc) ((n, x) :: Γ) elt ey) (ht : SimCL T q d call (relabelS csc sc) ((n, x) :: Γ) ifs tests) :
    SimE T q d call sc Γ (.comp mu x elt it ifs) (.ListComp ey [⟨.Name n px, iter, tests, 0⟩] csc pos) := by
  intro A L φ η s env ρ X F
  rw [eval_ListComp]
  refine Or.elim (comp_core (A := A) (L := L) (mu := mu) (pos := pos) (px := px) (RR := fun acc cenv => CompEnd T.M A (SEx T L φ η s (evE T.P q call (.comp mu x elt it ifs) ρ η)) none
      (SOk T φ η s (evE T.P q call (.comp mu x elt it ifs) ρ η) (QV T)) acc cenv)
      (E := SEx T L φ η s (evE T.P q call (.comp mu x elt it ifs) ρ η)) rfl K hi he ht X F
      (fun D cenv s' v η' φ' e p r g => ?_) (fun D cenv s' a c η' φ' e p rn g hf => ?_) (fun e s' c η' φ' h1 h2 h3 => ⟨c, η', φ', h1, h2, h3⟩)) (fun hh => .inl hh) fun hh => .inr (comp_rule (use := none) rfl (hset env) (closure_eq csc env (cells_some K F)) K.kind K.locals hh)
  · obtain ⟨o, go, pv, _, m, hn⟩ := g.priv
    exact ⟨m, hn, fun h' hs => ⟨v, η', φ', e, g.post p hs, VR.but go pv (sameBut_keep hs) _ _ r⟩⟩
  · exact comp_pass g p rn hf fun s'' p' xr => ⟨c, η', φ', e, p', xr⟩

variable {call : Bool → Nat → List V → H → R V}

theorem s_assign_comp {y : Nat} {t : Str} {mu : Bool} {elt : E} {it : It} {ifs : List C} {px pos p spos : Pos} {iter ey : Expr} {tests : List Expr} (hset : ∀ env y, foldedSetIterable iter env y = pure y) (hΓ : Γ.lookup t = some y) (hn : isLoc sc t = true)
    (K : CompOk csc sc n Γ x) (hi : SimIt T q d (call q) sc Γ it iter) (he : SimE T q d (call q) (relabelS csc sc) ((n, x) :: Γ) elt ey) (ht : SimCL T q d (call q) (relabelS csc sc) ((n, x) :: Γ) ifs tests) :
    SimS T q d call sc Γ (.assign y (.comp mu x elt it ifs)) (.Assign [.Name t p] (.ListComp ey [⟨.Name n px, iter, tests, 0⟩] csc pos) spos) := by
  intro A L φ₀ η₀ s₀ φ η s env ρ X F
  have hsw : ∃ b, swapsWith (.ListComp ey [⟨.Name n px, iter, tests, 0⟩] csc pos) (some (.Name t p)) spos.line env = pure b := ⟨_, rfl⟩
  obtain ⟨b, hsw⟩ := hsw
  cases b with
  | false =>
    rw [exec_Assign_Name env t p _ spos hsw]
    refine SimR.standAt ?_
    exact SimR.expr F (e_comp hset K hi he ht A L φ η s env ρ (F.cxt X) F.fr) fun w η' φ' y s' _ F' hq => sim_store F' hΓ hn hq
  | true =>
    rw [exec_Assign_Name_used _ _ _ _ hsw]
    refine SimR.standAt ?_
    change SimR T A L φ₀ η₀ s₀ env sc Γ φ η s _ (RS.of ρ (evE T.P q (call q) (.comp mu x elt it ifs) ρ η) fun v h => .next (ρ.set y (some v)) h)
    generalize er : evE T.P q (call q) (.comp mu x elt it ifs) ρ η = r
    refine Or.elim (comp_core (A := A) (L := L) (mu := mu) (pos := pos) (px := px) (RR := fun acc cenv => CompEnd T.M A (SEx T L φ η s r) (some (assign (.Name t p) env))
      (fun _ s' => ∃ v η' φ', r = .ok v η' ∧ FS true T A L φ₀ η₀ s₀ φ' η' s' env sc Γ (ρ.set y (some v)) ∧ StepL env φ η s.heap φ' η' s'.heap) acc cenv)
      (E := SEx T L φ η s r) er K hi he ht (F.cxt X) F.fr
      (fun D cenv s' v η' φ' e pp rr g => ?_) (fun D cenv s' a c η' φ' e pp rn g hf => ?_) (fun e s' c η' φ' h1 h2 h3 => ⟨c, η', φ', h1, h2, h3⟩)) (fun hh => .inl (by rw [hh]; rfl)) fun hh => .inr ?_
    · have F' := F.step pp
      refine wpAny_assign_Name (F'.store hΓ (loc_store hn) rr fun s'' F'' k a _ => ?_)
      obtain ⟨o, go, pv, ⟨es, ep, hd⟩, m, hns⟩ := g.priv
      have offC : Off env cenv.locals := by
        refine ⟨fun qq => ?_, fun k c e qq => ?_⟩
        · obtain ⟨c, m, ⟨_, o', g', _⟩, _⟩ := F.fr.ns
          rw [← qq, g.z] at g'; cases g'
        · obtain ⟨ov, o', g', _⟩ := F.fr.cthere k c e
          rw [← qq, g.z] at g'; cases g'
      have go'' : s''.heap.get? cenv.locals = some o := k _ _ offC.1 offC.2 go
      refine ⟨m, ?_, fun h' hs => ⟨v, η', φ', e, ?_, ?_⟩⟩
      · obtain ⟨o₁, es₁, ep₁, g₁, r₁⟩ := hns
        rw [go] at g₁; cases g₁
        exact ⟨o, es₁, ep₁, go'', r₁⟩
      · have kk := sameBut_keep hs
        obtain ⟨t, u, h1, h2, h3⟩ := F''.stk
        obtain ⟨t', u', h1', h2', h3'⟩ := F.stk
        rw [h1] at h1'; cases h1'
        refine ⟨F''.post.but (t := s''.toks) (F.fresh g.z).1 go'' pv g.o g.b kk, F''.fr.but go'' pv offC kk, ⟨t, u, h1, h2, fun env' he' => ?_⟩, F''.l0, F''.c0⟩
        obtain ⟨hk, L', o₁, hf₁, hb₁, ho₁, hg₁, r₁⟩ := h3 env' he'
        obtain ⟨_, L'', o₂, hf₂, _, _, hg₂, _⟩ := h3' env' he'
        rw [hf₁] at hf₂; cases hf₂
        have hne : L' ≠ cenv.locals := fun qq => by rw [qq, g.z] at hg₂; cases hg₂
        exact ⟨hk, L', o₁, hf₁, hb₁, ho₁, kk _ _ hne hg₁, r₁⟩
      · have st₂ : StepL env φ η s.heap φ' η' s''.heap := pp.step.toL.trans (F'.stepL_store k a)
        refine ⟨st₂.ext, fun b ob hb ho e => ?_, st₂.osub, fun b ob e => ?_⟩
        · have hne : b ≠ cenv.locals := fun qq => by rw [qq, g.z] at e; cases e
          exact (st₂.keep b ob hb ho e).trans fun o' e' => .inl (sameBut_keep hs b o' hne e')
        · have hne : b ≠ cenv.locals := fun qq => by rw [qq, g.z] at e; cases e
          obtain ⟨o', e'⟩ := Option.isSome_iff_exists.mp (st₂.alive b ob e)
          show (h'.get? b).isSome = true
          rw [sameBut_keep hs b o' hne e']; rfl
    · exact comp_pass g pp rn hf fun s'' p' xr => ⟨c, η', φ', e, p', xr⟩
    · refine wpAny_bind ?_
      show wpAny _ A (do let _ ← comprehension (.ListComp ey [⟨.Name n px, iter, tests, 0⟩] csc pos) csc env _ (newList []) false (eval iter env) (some (assign (.Name t p) env))) _ _ s
      refine wpAny_bind (wpAny_mono (comp_rule (use := some (assign (.Name t p) env)) rfl (hset env) (closure_eq csc env (cells_some K F.fr)) K.kind K.locals hh)
        (fun _ s' ⟨v, η', φ', e, F', st⟩ => wpAny_pure (wpAny_pure ⟨φ', η', _, .inl ⟨by rw [e]; rfl, rfl⟩, F', st⟩)) fun e s' ⟨c, η', φ', h1, h2, h3⟩ => ⟨c, φ', η', ρ, by rw [h1]; rfl, F.step h2, h2.step.toL, h3⟩)
end
end Mine
end
section
namespace Mine
open PySem PySem.W PyProof.Rows

theorem zip_lookup {β : Type} : ∀ (ns : List Str) (ys : List β) (i : Nat) (n : Str) (y : β), ns.Nodup → ns[i]? = some n → ys[i]? = some y → (ns.zip ys).lookup n = some y
  | m :: ns, z :: ys, 0, n, y, _, h1, h2 => by
    simp at h1 h2; subst h1; subst h2
    rw [List.zip_cons_cons, List.lookup_cons, beq_self_eq_true]
  | m :: ns, z :: ys, i + 1, n, y, hd, h1, h2 => by
    simp only [List.getElem?_cons_succ] at h1 h2
    rw [List.zip_cons_cons, List.lookup_cons]
    have hne : (n == m) = false := by
      rw [beq_eq_false_iff_ne]
      rintro rfl
      exact (List.nodup_cons.mp hd).1 (List.mem_of_getElem? h1)
    rw [hne]
    exact zip_lookup ns ys i n y (List.nodup_cons.mp hd).2 h1 h2
  | [], _, _, _, _, _, h1, _ => by simp at h1
  | _ :: _, [], _, _, _, _, _, h2 => by simp at h2

theorem filterMap_zip {β : Type} (l : List (Str × β)) : ∀ (ns : List Str) (ys : List β), ns.length = ys.length → (∀ (i : Nat) n y, ns[i]? = some n → ys[i]? = some y → l.lookup n = some y) → (ns.filterMap fun n => (l.lookup n).map (n, ·)) = ns.zip ys
  | [], [], _, _ => rfl
  | n :: ns, y :: ys, hl, h => by
    rw [List.filterMap_cons, h 0 n y rfl rfl]
    simp only [Option.map_some, List.zip_cons_cons]
    rw [filterMap_zip l ns ys (by simpa using hl) fun i n y h1 h2 => h (i + 1) n y (by simpa using h1) (by simpa using h2)]
  | [], _ :: _, hl, _ => by simp at hl
  | _ :: _, [], hl, _ => by simp at hl

theorem bind_eq {fd : FuncData} {ys : List Value} (h1 : fd.params.posonlyargs = []) (h2 : fd.params.kwonlyargs = []) (h3 : fd.params.vararg = none) (h4 : fd.params.kwarg = none) (h5 : fd.defaults = .none) (hn : (parNames fd.params).Nodup) (hl : (parNames fd.params).length = ys.length) :
    bindArgs fd ⟨ys, []⟩ = pure ((parNames fd.params).zip ys) := by
  have hs : ∀ n ∈ parNames fd.params, (((parNames fd.params).zip ys).lookup n).isNone = false := fun n hm => by
    obtain ⟨i, hi, rfl⟩ := List.mem_iff_getElem.mp hm
    rw [zip_lookup _ ys i _ (ys[i]'(by omega)) hn (List.getElem?_eq_getElem hi) (List.getElem?_eq_getElem (by omega))]; rfl
  have hm : ((parNames fd.params).filter fun n => (((parNames fd.params).zip ys).lookup n).isNone) = [] := by
    rw [List.filter_eq_nil_iff]
    intro n hn'; rw [hs n hn']; decide
  have hf := filterMap_zip ((parNames fd.params).zip ys) (parNames fd.params) ys hl fun i n y a b => zip_lookup _ _ i n y hn a b
  have hg : ¬ (ys.length > (parNames fd.params).length) := by omega
  unfold parNames at *
  unfold bindArgs
  have pb : ∀ {α β : Type} (a : α) (f : α → Sem β), ((pure a : Sem α) >>= f) = f a := fun _ _ => rfl
  have ns : notAStandIn Value.none = pure () := rfl
  simp only [h1, h2, h3, h4, h5, List.map_nil, List.nil_append, List.append_nil, List.forIn_nil, seqItems?, ns, pb, Option.getD_none, List.drop_nil, List.length_nil, Nat.sub_zero, List.take_length, List.drop_length, List.zip_nil_left, List.zip_nil_right, hm, hf,
    List.isEmpty_nil, Bool.not_true, Bool.false_eq_true, if_false, hg, decide_false, Bool.false_and]
end Mine
end
section
namespace Mine
open PySem PySem.W PyProof.Rows

section
variable {T : St} {N : Nm} {A A₂ : Around} {L : Addr} {q : Bool} {d : Nat} {φ φ' : Phi} {η η' : H} {s s' : Shared} {h : Heap} {env : Env} {sc : Scope} {Γ : Gam} {ρ : Rho}

theorem cells_at : ∀ (names : List (Str × NameKind)) (h : Heap) (lo : Nat) (acc : List (Str × Addr)), (∀ n c, (n, c) ∈ acc → h.get? c = some { cls := .type "cell", data := .cell none } ∧ lo ≤ c) → lo ≤ h.objs.size →
    ∀ n c, (n, c) ∈ cellsFrom h.objs.size names acc → (pushCells h names).get? c = some { cls := .type "cell", data := .cell none } ∧ lo ≤ c
  | [], _, _, _, x, _ => x
  | (name, kind) :: r, h, lo, acc, x, hlo => by
    unfold pushCells cellsFrom
    split
    · have := cells_at r (h.push { cls := .type "cell", data := .cell none }) lo ((name, h.objs.size) :: acc) (fun n c hm => by
          rcases List.mem_cons.mp hm with e | hm
          · cases e; exact ⟨Heap.get?_push_size _ rfl, hlo⟩
          · exact ⟨Heap.get?_push_of_some _ (x n c hm).1, (x n c hm).2⟩) (by rw [Heap.size_push]; omega)
      rwa [Heap.size_push] at this
    · exact cells_at r h lo acc x hlo
theorem cells_acc : ∀ (names : List (Str × NameKind)) (k : Nat) (acc : List (Str × Addr)) (n : Str), (acc.lookup n).isSome = true → ((cellsFrom k names acc).lookup n).isSome = true
  | [], _, _, _, h => h
  | (m, kind) :: r, k, acc, n, h => by
    unfold cellsFrom
    split
    · refine cells_acc r _ _ n ?_
      rw [List.lookup_cons]
      cases n == m
      · exact h
      · rfl
    · exact cells_acc r k acc n h
theorem cells_has : ∀ (names : List (Str × NameKind)) (k : Nat) (acc : List (Str × Addr)) (n : Str), (n, NameKind.cell) ∈ names → ((cellsFrom k names acc).lookup n).isSome = true
  | (m, kind) :: r, k, acc, n, h => by
    unfold cellsFrom
    rcases List.mem_cons.mp h with e | h
    · cases e
      rw [if_pos (by decide)]
      refine cells_acc r _ _ _ ?_
      rw [List.lookup_cons, beq_self_eq_true]; rfl
    · split
      · exact cells_has r _ _ n h
      · exact cells_has r _ _ n h

theorem nodup_inj : ∀ {Γ : Gam}, nodupN (Γ.map (·.2)) = true → ∀ n n' i, Γ.lookup n = some i → Γ.lookup n' = some i → n = n'
  | [], _, _, _, _, h, _ => by cases h
  | (m, j) :: r, hd, n, n', i, h1, h2 => by
    rw [List.map_cons, nodupN, Bool.and_eq_true, Bool.not_eq_true'] at hd
    have notin : ∀ k, r.lookup k = some j → False := fun k hk => by
      have := List.mem_map_of_mem (f := (·.2)) (mem_lookup hk)
      have h3 : (r.map (·.2)).contains j = true := by rw [List.contains_iff_mem]; exact this
      rw [h3] at hd; cases hd.1
    rw [List.lookup_cons] at h1 h2
    cases hb : n == m with
    | true =>
      rw [hb] at h1; cases h1
      cases hb' : n' == m with
      | true => rw [beq_iff_eq.mp hb, beq_iff_eq.mp hb']
      | false => rw [hb'] at h2; exact (notin n' h2).elim
    | false =>
      rw [hb] at h1
      cases hb' : n' == m with
      | true => rw [hb'] at h2; cases h2; exact (notin n h1).elim
      | false => rw [hb'] at h2; exact nodup_inj hd.2 n n' i h1 h2

theorem par_nodup : ∀ (ns : List Str) (k : Nat), parOk sc Γ k ns = true → ns.Nodup
  | [], _, _ => List.nodup_nil
  | n :: r, k, h => by
    unfold parOk at h
    simp only [Bool.and_eq_true, Bool.not_eq_true'] at h
    refine List.nodup_cons.mpr ⟨fun hm => ?_, par_nodup r (k + 1) h.2⟩
    rw [← List.contains_iff_mem, h.1.2] at hm; cases hm

/-- the parameters get their values -/
theorem store_pars {A' : Around} {E : Value → Shared → Prop} {Q : PUnit → Shared → Prop} {s₀ : Shared} {φ₀ : Phi} {η₀ : H} (f : Str × Value → PUnit → Sem (ForInStep PUnit)) (hf : ∀ n v u, f (n, v) u = (do storeName env n v; pure (.yield ⟨⟩))) :
    ∀ (ns : List Str) (vs : List V) (ys : List Value) (dn : Rho) (m : Nat) (s₁ : Shared), parOk sc Γ dn.length ns = true → ns.length = vs.length → VRs T φ (own φ η) s₁.heap vs ys → ns.length ≤ m →
      FS true T A' L φ₀ η₀ s₀ φ η s₁ env sc Γ (dn ++ List.replicate m none) →
      (∀ s₂, FS true T A' L φ₀ η₀ s₀ φ η s₂ env sc Γ (dn ++ vs.map some ++ List.replicate (m - ns.length) none) → Q ⟨⟩ s₂) → wpAny T.M A₂ (forIn (ns.zip ys) ⟨⟩ f) Q E s₁
  | [], [], ys, dn, m, s₁, _, _, r, _, F, h => by
    rw [List.zip_nil_left, List.forIn_nil]
    refine wpAny_pure (h s₁ ?_)
    simpa using F
  | n :: ns, v :: vs, ys, dn, m, s₁, hp, hl, r, hm, F, h => by
    simp only [VRs] at r
    obtain ⟨y, yr, rfl, r1, r2⟩ := r
    unfold parOk at hp
    simp only [Bool.and_eq_true, beq_iff_eq] at hp
    rw [List.zip_cons_cons, List.forIn_cons, hf]
    refine wpAny_bind (wpAny_bind (F.store hp.1.1.1 (loc_store hp.1.1.2) r1 fun s₂ F₂ _ _ hv => wpAny_pure ?_))
    have e : (dn ++ List.replicate m none).set dn.length (some v) = (dn ++ [some v]) ++ List.replicate (m - 1) none := by
      obtain ⟨k, rfl⟩ : ∃ k, m = k + 1 := ⟨m - 1, by simp at hm; omega⟩
      rw [List.set_append_right _ _ (Nat.le_refl _), Nat.sub_self, List.replicate_succ, List.set_cons_zero, Nat.add_sub_cancel, List.append_assoc]; rfl
    rw [e] at F₂
    refine store_pars f hf ns vs yr (dn ++ [some v]) (m - 1) s₂ (by rw [List.length_append]; exact hp.2) (by simpa using hl) (hv _ _ r2) (by simp at hm; omega) F₂ fun s₃ F₃ => h s₃ ?_
    have e2 : m - 1 - ns.length = m - (n :: ns).length := by simp; omega
    rw [e2] at F₃
    simpa using F₃
  | [], _ :: _, _, _, _, _, _, hl, _, _, _, _ => by simp at hl
  | _ :: _, [], _, _, _, _, _, hl, _, _, _, _ => by simp at hl

/-- what a function's text is known to be -/
structure FnOk (N : Nm) (F : Fn) (Γ : Gam) (fd : FuncData) : Prop where
  body : ∃ b, fd.body = .stmts b ∧ chkSs N fd.scope Γ F.body b = true
  kind : fd.scope.kind = .function
  gen : fd.scope.isGenerator = false
  cor : fd.scope.isCoroutine = false
  clo : fd.closure = []
  glob : fd.globals = mainGlobals
  bi : fd.builtins = builtinsNs
  pos : fd.params.posonlyargs = []
  var : fd.params.vararg = none
  kwo : fd.params.kwonlyargs = []
  kwa : fd.params.kwarg = none
  npar : (parNames fd.params).length = F.npar
  par : parOk fd.scope Γ 0 (parNames fd.params) = true
  dup : nodupN (Γ.map (·.2)) = true
  nloc : F.npar ≤ F.nloc
  dfl : fd.defaults = .none
theorem fn_ok {F : Fn} {fd : FuncData} (h : chkF N F Γ fd = true) : FnOk N F Γ fd := by
  unfold chkF at h
  simp only [Bool.and_eq_true, beq_iff_eq, Bool.not_eq_true', List.isEmpty_iff, Option.isNone_iff_eq_none, decide_eq_true_eq] at h
  obtain ⟨⟨⟨⟨⟨⟨⟨⟨⟨⟨⟨⟨⟨⟨⟨h1, h2⟩, h3⟩, h4⟩, h5⟩, h6⟩, h7⟩, h8⟩, h9⟩, h10⟩, h11⟩, h12⟩, h13⟩, h14⟩, h15⟩, h16⟩ := h
  refine ⟨?_, h2, h3, h4, h5, h6, h7, h8, h9, h10, h11, h12, h13, h14, h15, ?_⟩
  · split at h1
    · rename_i b hb; exact ⟨b, hb, h1⟩
    · cases h1
  · unfold isNoneV at h16
    split at h16
    · assumption
    · cases h16

/-- a function's frame -/
theorem new_env {F : Fn} {fd : FuncData} {vs : List V} {ys : List Value} {qual : Str} {a : Addr} {Q : Env → Shared → Prop} {E : Value → Shared → Prop} {l : List Env} (O : FnOk N F Γ fd) (R : Rel T φ η s.heap) (hv : VRs T φ (own φ η) s.heap vs ys) (hl : vs.length = F.npar)
    (hfr : A.frames = some l) (hst : Stk T φ η l s.heap)
    (h : ∀ env L s₁, FS true T (A.deeper env) L φ η s φ η s₁ env fd.scope Γ (vs.map some ++ List.replicate (F.nloc - F.npar) none) → Q env s₁) :
    wpAny T.M A₂ (newFunctionEnv fd.scope fd.globals fd.closure ((parNames fd.params).zip ys) qual (some a) fd.code none fd.builtins) Q E s := by
  rw [O.clo]
  simp only [newFunctionEnv, Option.isSome_none, Bool.false_eq_true, if_false]
  refine wpAny_bind (wpAny_alloc ?_)
  refine wpAny_bind (wpAny_layCells _ (fun name kind cells => by cases hkc : kind == NameKind.cell <;> simp [hkc]) _ _ _ _ ?_)
  generalize hH : s.heap.push { cls := .type "frame", data := .dict #[] } = HF
  have hsz : HF.objs.size = s.heap.objs.size + 1 := by rw [← hH, Heap.size_push]
  have ats := cells_at fd.scope.names HF (s.heap.objs.size + 1) [] (fun _ _ hm => (nomatch hm)) (by omega)
  have oks := (cellsFrom_ok fd.scope.names HF (s.heap.objs.size + 1) [] ⟨fun _ _ hm => (nomatch hm), List.Pairwise.nil⟩ (by omega)).apart
  have kp : ∀ b o, s.heap.get? b = some o → (pushCells HF fd.scope.names).get? b = some o := fun b o e => pushCells_keeps _ _ b o (hH ▸ Heap.get?_push_of_some _ e)
  have gL : (pushCells HF fd.scope.names).get? s.heap.objs.size = some { cls := .type "frame", data := .dict #[] } := pushCells_keeps _ _ _ _ (hH ▸ Heap.get?_push_size _ rfl)
  have zL : s.heap.get? s.heap.objs.size = none := Heap.get?_none_of_le (Nat.le_refl _)
  have zc : ∀ n c, (cellsFrom HF.objs.size fd.scope.names []).lookup n = some c → s.heap.get? c = none := fun n c e => Heap.get?_none_of_le (by have := (ats n c (mem_lookup e)).2; omega)
  have P₁ : Post T φ η s φ η { s with heap := pushCells HF fd.scope.names } := Post.grown (k := s.toks) R kp
  have nsL : NsAt (pushCells HF fd.scope.names) s.heap.objs.size "frame" (fun _ => none) := ⟨(hH ▸ Heap.Ns.new s.heap (.type "frame")).keeps (pushCells_keeps _ _), _, gL, rfl⟩
  have FS₁ : FS true T (A.deeper { scope := fd.scope, locals := s.heap.objs.size, globals := fd.globals, cells := cellsFrom HF.objs.size fd.scope.names [], qual := qual, func := some a, code := fd.code, frame := some s.heap.objs.size, builtins := fd.builtins }) s.heap.objs.size φ η s φ η { s with heap := pushCells HF fd.scope.names }
      { scope := fd.scope, locals := s.heap.objs.size, globals := fd.globals, cells := cellsFrom HF.objs.size fd.scope.names [], qual := qual, func := some a, code := fd.code, frame := some s.heap.objs.size, builtins := fd.builtins } fd.scope Γ ([] ++ List.replicate F.nloc none) := by
    refine ⟨P₁, ⟨rfl, O.kind, O.glob, O.bi, rfl, ⟨"frame", _, nsL, .inl rfl, fun n i v _ _ hr => ?_⟩, fun n i _ hk => ?_, ⟨own_none R zL, base_none R zL⟩, fun n c e => ⟨none, _, (ats n c (mem_lookup e)).1, rfl, rfl⟩, fun n c e => ⟨own_none R (zc n c e), base_none R (zc n c e)⟩, fun n n' c e e' => name_of_addr oks (mem_lookup e) (mem_lookup e'), nodup_inj O.dup⟩,
      ⟨_, l, by show A.frames.map _ = _; rw [hfr]; rfl, rfl, ?_⟩, zL, fun _ n c e => zc n c e⟩
    · rw [List.nil_append, List.getElem?_replicate] at hr
      split at hr <;> cases hr
    · obtain ⟨c, hc⟩ := Option.isSome_iff_exists.mp (cells_has fd.scope.names HF.objs.size [] n (mem_lookup hk))
      refine ⟨c, none, hc, ⟨_, (ats n c (mem_lookup hc)).1, rfl, rfl⟩, fun v hr => ?_⟩
      rw [List.nil_append, List.getElem?_replicate] at hr
      split at hr <;> cases hr
    · intro e he
      rcases List.mem_cons.mp he with rfl | he
      · exact ⟨by rw [show ({ scope := fd.scope, locals := s.heap.objs.size, globals := fd.globals, cells := cellsFrom HF.objs.size fd.scope.names [], qual := qual, func := some a, code := fd.code, frame := some s.heap.objs.size, builtins := fd.builtins } : Env).scope.kind = .function from O.kind]; decide, s.heap.objs.size, _, rfl, base_none R zL, own_none R zL, gL, rfl, #[], _, rfl⟩
      · exact (hst.step P₁.step) e he
  refine wpAny_bind (store_pars _ (fun _ _ _ => rfl) (parNames fd.params) vs ys [] F.nloc _ O.par (by rw [O.npar, hl]) (VRs.step P₁.step _ _ hv) (by rw [O.npar]; exact O.nloc) FS₁ fun s₂ F₂ => wpAny_pure (h _ s.heap.objs.size s₂ ?_))
  rw [O.npar, List.nil_append] at F₂
  exact F₂

/-- the program's functions -/
structure Cod (T : St) (N : Nm) (G : Gd T N) where
  gam : Nat → Gam
  fd : Nat → FuncData
  fns : ∀ f F, T.P.fn f = some F → (∃ o, G.K.lookup (G.fn f) = some o ∧ o.data = .func (fd f)) ∧ chkF N F (gam f) (fd f) = true ∧ codeIn G.K (fd f).code (fd f).qualname = true

theorem R.fin_fail {p : Bool} : fin p η R.fail = .fail := by cases p <;> rfl

/-- a function's call -/
theorem sim_fn0 (G : Gd T N) (Cd : Cod T N G) {f : Nat} {F : Fn} (hF : T.P.fn f = some F) (hb : ∀ b, chkSs N (Cd.fd f).scope (Cd.gam f) F.body b = true → SimSs T q d (callN T.P d) (Cd.fd f).scope (Cd.gam f) F.body b) {vs : List V} {ys : List Value}
    {l : List Env} (Xh : q = true → A.handled = none) (Xd : A.depth + 4 * (d + 1) + 1 ≤ recursionLimit) (Xu : A.units + 20 * (d + 1) + 3 < cLine) (hfr : A.frames = some l) (hst : Stk T φ η l s.heap) (XR' : Rel T φ η s.heap) (hv : VRs T φ (own φ η) s.heap vs ys) :
    callN T.P (d + 1) q f vs η = .fail ∨ codeAny T.M A (.call (.ref (G.fn f)) ⟨ys, []⟩) (fun res s' => match res with
      | .ok (.ret x) => SOk T φ η s (callN T.P (d + 1) q f vs η) (QV T) x s'
      | .ok _ => False
      | .error e => SEx T L φ η s (callN T.P (d + 1) q f vs η) e s') s := by
  obtain ⟨⟨o, ho, hd⟩, hck, hcode⟩ := Cd.fns f F hF
  have O := fn_ok hck
  obtain ⟨b, hbody, hchk⟩ := O.body
  by_cases hl : vs.length = F.npar
  case neg => left; rw [callN, hF]; exact if_neg hl
  have ec : callN T.P (d + 1) q f vs η = fin F.pure η (ofRS (evSs T.P (callN T.P d) q F.body (vs.map some ++ List.replicate (F.nloc - F.npar) none) η)) := by rw [callN, hF]; exact if_pos hl
  rw [ec]
  have KI := G.here XR'
  have hys : ys.length = vs.length := VRs.length hv
  by_cases hfail : fin F.pure η (ofRS (evSs T.P (callN T.P d) q F.body (vs.map some ++ List.replicate (F.nloc - F.npar) none) η)) = .fail
  · exact .inl hfail
  right
  refine codeAny_call_function (by omega) (KI _ _ ho) hd O.cor O.gen hbody (codeRec_of KI hcode) ?_
  rw [bind_eq O.pos O.kwo O.var O.kwa O.dfl (par_nodup _ _ O.par) (by rw [O.npar, hys, hl])]
  refine wpAny_pure (new_env O XR' hv hl hfr hst fun env L' s₁ F₁ => ⟨T.nolim.keeps F₁.post.rel.base, codeAny_func ?_⟩)
  have X' : Sta (A.deeper env) q d := ⟨Xh, by show A.depth + 1 + 4 * d + 4 ≤ _; omega, by show A.units + 3 + 20 * d + 20 < _; omega⟩
  rcases hb b hchk (A.deeper env) L' φ η s φ η s₁ env _ X' F₁ with hh | hh
  · rw [hh] at hfail
    exact absurd R.fin_fail hfail
  have ends : ∀ v φ' η' s' (y : Value), Post T φ η s φ' η' s' → VR T φ' (own φ' η') s'.heap v y → evSs T.P (callN T.P d) q F.body (vs.map some ++ List.replicate (F.nloc - F.npar) none) η = .next (vs.map some) η' ∨ True → ofRS (evSs T.P (callN T.P d) q F.body (vs.map some ++ List.replicate (F.nloc - F.npar) none) η) = .ok v η' →
      SOk T φ η s (fin F.pure η (ofRS (evSs T.P (callN T.P d) q F.body (vs.map some ++ List.replicate (F.nloc - F.npar) none) η))) (QV T) y s' := by
    intro v φ' η' s' y p r _ e
    rw [e] at hfail ⊢
    unfold fin at hfail ⊢
    split
    · rename_i hp
      rw [if_pos hp] at hfail
      dsimp only at hfail ⊢
      split
      · rename_i hc
        exact ⟨v, η, φ, rfl, p.cut XR' hc.1, p.cutV XR' hc.1 r hc.2⟩
      · rename_i hc
        rw [if_neg hc] at hfail
        exact absurd rfl hfail
    · exact ⟨v, η', φ', rfl, p, r⟩
  refine wpAny_mono hh (fun fl s' ⟨φ', η', ρ', h4, F', _⟩ => ?_) fun e s' ⟨c, φ', η', ρ', h4, F', _, xr⟩ => ?_
  · rcases h4 with ⟨h4, rfl⟩ | ⟨v, y, h4, rfl, r⟩
    · exact ends .none φ' η' s' .none F'.post (by simp [VR]) (.inr trivial) (by rw [h4]; rfl)
    · exact ends v φ' η' s' y F'.post r (.inr trivial) (by rw [h4]; rfl)
  · obtain ⟨a, rfl, rz⟩ := xr
    obtain ⟨top', outer', hfr', htop', hst'⟩ := F'.stk
    refine leaves hfr' htop' hst' F'.fr.frame F'.post.rel rz fun s'' p'' rz'' => ?_
    have p := F'.post.trans p''
    rw [h4] at hfail ⊢
    show SEx T L φ η s (fin F.pure η (.exc c η')) (.ref a) s''
    change fin F.pure η (.exc c η') ≠ .fail at hfail
    unfold fin at hfail ⊢
    split
    · rename_i hp
      rw [if_pos hp] at hfail
      dsimp only at hfail ⊢
      split
      · rename_i hc
        exact ⟨c, η, φ, rfl, p.cut XR' hc, a, rfl, rz'' L⟩
      · rename_i hc
        rw [if_neg hc] at hfail
        exact absurd rfl hfail
    · exact ⟨c, η', φ', rfl, p, a, rfl, rz'' L⟩

end
end Mine
end
section
namespace Mine
open PySem PySem.W PySem.Calls PyProof.Rows

section
variable {T : St} {N : Nm} {A : Around} {L : Addr} {q : Bool} {d : Nat} {φ φ' : Phi} {η η' : H} {s s' : Shared} {env : Env} {sc : Scope} {Γ : Gam} {ρ : Rho} {α β : Type} {call : Nat → List V → H → R V}

theorem Sim.base {o : Expr} {name : Str} {t : Sem Value} {r : R β} {Q : QR Value β} (ho : notSuper o = true) (h : Sim T A L φ η s t r Q) : Sim T A L φ η s (attributeBase o name env t) r Q := h.imp id fun h => by
  cases o with
  | Call f as ks pos => cases f with
    | Name id p => cases as with
      | nil => cases ks with
        | nil =>
          show wpAny _ _ (if (id != ("super" : Str) || name == ("__class__" : Str) || env.kindOf "super" != some .globalImplicit || env.kindOf "__class__" != some .free) = true then _ else _) _ _ _
          rw [show (id != ("super" : Str)) = true from ho, Bool.true_or, Bool.true_or, Bool.true_or, if_pos rfl]
          exact h
        | cons _ _ => exact h
      | cons _ _ => exact h
    | _ => exact h
  | _ => exact h

theorem args_form {xs : List Expr} {pos : Pos} (hp : plainArgs xs) (hl : xs.length < 30) : methodCallForm (xs.length + 0) (backTo pos (starEach xs env)) [] = true := by
  unfold methodCallForm
  have : (backTo pos (starEach xs env)).all (!·.1) = true := by
    have := (args_plain (env := env) (pos := pos) hp).1
    rw [List.all_eq_not_any_not]
    simp only [Bool.not_not]
    rw [this]; rfl
  rw [this]
  simp; omega

theorem e_bm {m : Bm} {o : E} {args : List E} {x : Expr} {name : Str} {apos pos : Pos} {xs : List Expr} (hm : (bmName m == name) = true) (hpos : (apos.endLine == pos.line) = true) (hl : xs.length < 30) (ho : notSuper x = true) (hp : plainArgs xs)
    (h1 : SimE T q d call sc Γ o x) (h2 : SimEs T q d call sc Γ args xs) : SimE T q d call sc Γ (.bm m o args) (.Call (.Attribute x name apos) xs [] pos) := by
  intro A L φ η s env ρ X F
  rw [beq_iff_eq] at hm; subst hm
  rw [arm_eval_Call]
  refine Sim.bind (Sim.base ho (h1 A L φ η s env ρ X F)) fun v η' φ' y s' _ p hq => .standAt ?_
  split
  case isFalse => exact .fail
  rename_i hok
  obtain ⟨pa, slot, hty⟩ := bm_slot hok
  obtain ⟨hT, hd⟩ := kind_type p.rel hok hq
  have form : methodCallForm (xs.length + ([] : List Keyword).length) (backTo pos (starEach xs env)) (backToKw pos (keywordEach [] env)) = true := args_form hp hl
  have X' := X.step p
  have main : Sim T A L φ' η' s' (callWith pos (.builtin (bmId m (kindM η' v)).2) [y] (backTo pos (starEach xs env)) []) ((evEs T.P q call args ρ η').bind fun vs h' => if kindM h' v = kindM η' v then bmV m h' v vs else .fail) (QV T) := by
    refine sim_callWith keep_builtin hp h2 X' (F.step p.step) fun vs η'' φ'' ys s'' _ p' hv => ?_
    split
    case isFalse => exact .fail
    rename_i hk
    have := sim_bm (A := A) (L := L) m p'.rel (by have := X.units; omega) (VR.step p'.step _ _ hq) hv (by rw [hk]; exact hok)
    rw [hk] at this
    exact this
  refine main.imp id fun w => ?_
  unfold methodCall
  rw [form]
  refine wpAny_bind (wpAny_holding ?_)
  unfold calleeOf
  rw [if_pos rfl]
  refine getMethod_builtin hT pa slot hty hd ?_
  refine wpAny_bind ?_
  unfold methodCallPos
  rw [hpos]
  exact wpAny_pure w

theorem e_neg {v : V} {j : Int} {k : Nat} {p pos : Pos} (h : constEq v (.int (-j)) = true) : SimE T q d call sc Γ (.const v) (.UnaryOp .USub (.Constant (.int j) k p) pos) := by
  intro A L φ η s env ρ X F
  have h := constEq_eq h
  subst h
  rw [eval_UnaryOp]
  refine .ok rfl (wpAny_bind (wpAny_Constant_int (wpAny_bind (wpAny_standAt (wpAny_holding (P.neg_int ⟨φ, .toks X.rel, by simp [QV, VR]⟩))))))

/-- a table's entries -/
noncomputable def TabR : List (List Nat × List Nat) → List DictEntry → Prop
  | [], es => es = []
  | (k, v) :: r, es => ∃ e es' t u, es = e :: es' ∧ e.key = .str ⟨k.toArray⟩ t ∧ e.val = .str ⟨v.toArray⟩ u ∧ TabR r es'
structure Tbs (T : St) (N : Nm) (G : Gd T N) : Prop where
  tab : ∀ (t : Nat) (n : Str) (tb : List (List Nat × List Nat)), N.tbm[t]? = some n → T.P.tabs[t]? = some tb → ∃ a es k, nsIn G.K mainGlobals n = some (some (.ref a)) ∧ G.K.lookup a = some ⟨.type "dict", none, .dict es k, #[]⟩ ∧ KeysLit T.w.params es.toList ∧ TabR tb es.toList ∧ (a == sysModules) = false

/-- ranges -/
theorem it_of' {e : E} {x : Expr} (h : SimE T q d call sc Γ e x) : SimIt T q d call sc Γ (.of e) x := by
  intro A L φ η s env ρ X F
  exact (h A L φ η s env ρ X F).mono fun φ' η' s' v y _ _ r => .inl r

theorem it_range1 (G : Gd T N) {a : E} {n : Str} {p pos : Pos} {x : Expr} (hl : (n == ("range" : Str)) = true) (hn : isGlo sc n = true) (hp : plainArg x = true) (h : SimE T q d call sc Γ a x) : SimIt T q d call sc Γ (.range1 a) (.Call (.Name n p) [x] [] pos) := by
  intro A L φ η s env ρ X F
  rw [beq_iff_eq] at hl; subst hl
  have hs : plainArgs [x] := by unfold plainArgs; simp [hp]
  have hsp : Sim T A L φ η s (spliced (backTo pos (starEach [x] env))) (evE T.P q call a ρ η) (fun φ η h v ys => ∃ y, ys = [y] ∧ VR T φ (own φ η) h v y) := by
    rw [starEach_plain hp]
    exact (h A L φ η s env ρ X F).imp id fun w => spliced_cons (wpAny_mono w (fun y s₁ ⟨v, η', φ', e, p, r⟩ => spliced_nil ⟨v, η', φ', e, p, y, rfl, r⟩) fun _ _ z => z)
  have main := Sim.nest (Q₂ := QIt T) (k := fun a : Args => PySem.call (.type "range") ([] ++ a.pos) a.kw) (g := fun x h => match x with
      | .int n => if okR n && decide (n.toNat ≤ 100000) then R.ok (.lst ((List.range n.toNat).map fun (i : Nat) => .int i)) h else .fail
      | _ => .fail) (sim_evalArgs (f := .type "range") (pos := pos) hs hsp) fun v η' φ' a s' e p hq => ?_
  · refine main.imp id fun w => ?_
    rw [arm_eval_Call_Name']
    exact wpAny_bind (name_boot G X.rel F hn (by decide +kernel) (by decide +kernel) (callWith_of (P := fun h => ∀ b o, T.base.get? b = some o → h.get? b = some o) (by rw [(args_plain hs).1]; rfl) keep_type (wpAny_mono w (fun a s₁ ⟨⟨v, η', φ', e, p, hq⟩, w⟩ => ⟨p.rel.base, w⟩) fun _ _ y => y)))
  · obtain ⟨⟨y, hy, r⟩, hkw⟩ := hq
    rw [hkw, hy]
    cases v with
    | int i =>
      dsimp only
      split
      case isFalse => exact .fail
      rename_i hc
      rw [Bool.and_eq_true] at hc
      simp only [VR] at r
      obtain ⟨t, rfl⟩ := r
      refine .ok rfl (call_range_1 ⟨φ', Post.grown (s := s') p.rel (push_keeps _), .inr ⟨_, 0, i, _, _, _, rfl, IsRange.new _ _ _ _ _ _ _, rfl, hc.1, ?_⟩⟩)
      simp
    | _ => exact .fail

end
end Mine
end
section
namespace Mine
open PySem PySem.W PySem.Calls PyProof.Rows

section
variable {T : St} {N : Nm} {A : Around} {L : Addr} {q : Bool} {d : Nat} {φ₀ φ φ' : Phi} {η₀ η η' : H} {s₀ s s' : Shared} {h h' : Heap} {env : Env} {sc : Scope} {Γ : Gam} {ρ : Rho} {I l e : Addr} {i : Nat} {xs : List V} {live : Option (Nat × List V)} {call : Bool → Nat → List V → H → R V}

/-- a list's iterator, at its place -/
inductive LIter (T : St) (φ : Phi) (η : H) (h : Heap) (I l : Addr) (i : Nat) (xs : List V) (live : Option (Nat × List V)) : Prop
  | lst (items : Array Value) (k : Nat) (all : List V) (e : xs = all.drop i) (hl : live = none) (g : h.get? l = some (listO items k)) (n : ¬ own φ η l) (r : VRs T φ (own φ η) h all items.toList) (it : h.IsListIter I l i) : LIter T φ η h I l i xs live
  | live (n : Nat) (all : List V) (p : Addr × Addr) (e : xs = all.drop i) (hl : live = some (n, all)) (hp : φ[n]? = some p) (hq : p.1 = l) (it : h.IsListIter I l i) : LIter T φ η h I l i xs live
theorem LIter.iter (x : LIter T φ η h I l i xs live) : h.IsListIter I l i := by
  cases x with
  | lst items k all e hl g n r it => exact it
  | live n all p e hl hp hq it => exact it
/-- the list behind it, as it stands -/
theorem LIter.view (R : Rel T φ η h) (x : LIter T φ η h I l i xs live) (hs : still η live = true) : ∃ (items : Array Value) (k : Nat) (all : List V), h.get? l = some (listO items k) ∧ xs = all.drop i ∧ VRs T φ (own φ η) h all items.toList := by
  cases x with
  | lst items k all e hl g n r it => exact ⟨items, k, all, g, e, r⟩
  | live n all p e hl hp hq it =>
    subst hl; subst hq
    obtain ⟨_, items, k, g, r⟩ := R.obj n _ p (still_some hs) hp
    exact ⟨items, k, all, g, e, r⟩
theorem kept_exact {o : Obj} {c : String} (st : StepL env φ η h φ' η' h') (F : FR T φ η h L env sc Γ ρ) (hN : ¬ own φ η I) (g : h.get? I = some o) (hc : o.cls = .type c) (h1 : c ≠ "frame" ∧ c ≠ "dict" ∧ c ≠ "cell") (h2 : c ≠ "traceback") : h'.get? I = some o :=
  (st.keep I o hN (F.offOf g (by intro c' q; rw [hc] at q; cases q; exact h1)) g).exact (by rw [hc]; simp [h1.1]) (not_loose hc h2)
theorem LIter.stepL (st : StepL env φ η h φ' η' h') (F : FR T φ η h L env sc Γ ρ) (hI : ¬ own φ η I) (x : LIter T φ η h I l i xs live) : LIter T φ' η' h' I l i xs live := by
  have ex : ∀ o, h.get? I = some o → h'.get? I = some o := fun o g => by
    obtain ⟨o', g', hc, _⟩ := x.iter
    rw [g] at g'; cases g'
    exact kept_exact st F hI g hc (by decide) (by decide)
  cases x with
  | lst items k all e hl g n r it => exact .lst items k all e hl (kept_exact st F n g rfl (by decide) (by decide)) (st.off n g) (VRs.stepL st F _ _ r) (it.at ex)
  | live n all p e hl hp hq it => exact .live n all p e hl (get_prefix st.ext hp) hq (it.at ex)
theorem enum_priv {j : Int} {old : Value} (g : IsEnum h e I j old) : ∃ o, h.get? e = some o ∧ o.cls = .type "enumerate" ∧ o.isFreed = false := ⟨_, g, rfl, (Heap.get?_some_iff.mp g).2⟩
theorem priv_of {o : Obj} {c : String} (hc : o.cls = .type c) (h1 : c ≠ "tuple" ∧ c ≠ "list" ∧ c ≠ "frame" ∧ c ≠ "dict" ∧ c ≠ "cell") : Priv o ∧ ∀ c', o.cls = .type c' → c' ≠ "frame" ∧ c' ≠ "dict" ∧ c' ≠ "cell" :=
  ⟨⟨c, hc, h1.1, h1.2.1⟩, fun c' q => by rw [hc] at q; cases q; exact h1.2.2⟩
/-- two objects turn: first the one, then the other -/
theorem mid {o o' : Obj} (g : h.get? e = some o) (g' : h'.get? e = some o') (k : ∀ b o, b ≠ e → b ≠ I → h.get? b = some o → h'.get? b = some o) :
    ∃ m : Heap, (∀ b o, b ≠ I → h.get? b = some o → m.get? b = some o) ∧ (∀ b, b ≠ e → m.get? b = h'.get? b) ∧ m.get? e = some o := by
  have hs : (h'.update e fun _ => o).get? e = some o := Heap.get?_update_self (fun _ => o) g' (Heap.get?_some_iff.mp g).2
  refine ⟨h'.update e fun _ => o, fun b ob hb hg => ?_, fun b hb => Heap.get?_update_other _ _ (Ne.symm hb), hs⟩
  by_cases q : b = e
  · subst q; rw [hs]; rw [g] at hg; exact hg
  · rw [Heap.get?_update_other _ _ (Ne.symm q)]; exact k b ob q hb hg

/-- between the turns -/
inductive ForI2 (T : St) (A : Around) (L : Addr) (φ₀ : Phi) (η₀ : H) (s₀ : Shared) (env : Env) (sc : Scope) (Γ : Gam) (φ₁ : Phi) (η₁ : H) (h₁ : Heap) (e I l : Addr) (live : Option (Nat × List V)) (stp : Nat × V → Rho → H → RS) (tot : RS) (m : Nat) (s : Shared) : Prop where
  | mk (φ : Phi) (η : H) (ρ : Rho) (xs : List V) (i : Nat) (old : Value) (hm : m = xs.length) (F : FS true T A L φ₀ η₀ s₀ φ η s env sc Γ ρ) (it : LIter T φ η s.heap I l i xs live) (en : IsEnum s.heap e I i old) (owI : Own T s₀ φ η I) (owe : Own T s₀ φ η e) (st : StepL env φ₁ η₁ h₁ φ η s.heap) (eq : forLoop2 (still · live) stp (numbered i xs) ρ η = tot)
theorem for_loop2 {x y : Nat} {n1 n2 : Str} {p1 p2 pt : Pos} {kk : Nat} {b : List Stmt} {tot : RS} {stp : Nat × V → Rho → H → RS} {φ₁ : Phi} {η₁ : H} {h₁ : Heap} {old : Value} (hq : A.handled = none) (hΓ1 : Γ.lookup n1 = some x) (hn1 : isLoc sc n1 = true) (hΓ2 : Γ.lookup n2 = some y) (hn2 : isLoc sc n2 = true)
    (hb : ∀ (i : Nat) v φ η s ρ, FS true T A L φ₀ η₀ s₀ φ η s env sc Γ ((ρ.set x (some (.int i))).set y (some v)) → SimR T A L φ₀ η₀ s₀ env sc Γ φ η s (execs b env) (stp (i, v) ρ η)) (hf : tot ≠ .fail)
    (F : FS true T A L φ₀ η₀ s₀ φ η s env sc Γ ρ) (it : LIter T φ η s.heap I l i xs live) (en : IsEnum s.heap e I i old) (owI : Own T s₀ φ η I) (owe : Own T s₀ φ η e) (hI₁ : h₁.get? I = none) (he₁ : h₁.get? e = none) (st : StepL env φ₁ η₁ h₁ φ η s.heap)
    (eq : forLoop2 (still · live) stp (numbered i xs) ρ η = tot) :
    codeAny T.M A (.forLoop (.Tuple [.Name n1 p1, .Name n2 p2] kk pt) (.ref e) b [] env) (fun r s' => match r with | .ok f => ROk T A L φ₀ η₀ s₀ env sc Γ φ₁ η₁ h₁ tot f s' | .error e => cameBackBy T.M A env (REx T A L φ₀ η₀ s₀ env sc Γ φ₁ η₁ h₁ tot) e s') s := by
  refine codeAny_forLoop_any (ForI2 T A L φ₀ η₀ s₀ env sc Γ φ₁ η₁ h₁ e I l live stp tot) (fun m s hI => ?_) xs.length ⟨φ, η, ρ, xs, i, old, rfl, F, it, en, owI, owe, st, eq⟩
  clear eq st owI owe en it F
  cases hI with
  | mk φ η ρ xs i old hm F it en owI owe st eq =>
    subst hm
    obtain ⟨oI, gI, cI, _⟩ := it.iter
    obtain ⟨oe, ge, ce, _⟩ := enum_priv en
    obtain ⟨pI, qI⟩ := priv_of cI (by decide)
    obtain ⟨pe, qe⟩ := priv_of ce (by decide)
    have hne : e ≠ I := fun q => by rw [← q, ge] at gI; cases gI; rw [ce] at cI; exact absurd (Value.type.inj cI) (by decide)
    cases xs with
    | nil =>
      obtain ⟨hs, eq⟩ := if_nf eq hf
      obtain ⟨items, k, all, gl, ed, r⟩ := it.view F.post.rel hs
      refine wpAny_pyNext_enum_end hq en it.iter ⟨_, gl, rfl, k, rfl⟩ (Array.getElem?_eq_none (by rw [len_items r]; exact List.getElem?_eq_none_iff.mp (drop_nil ed))) fun h' k => wpAny_execs_nil (.next eq.symm (F.but (t := s.toks) gI pI qI owI.z owI.o owI.b k) ⟨st.ext, fun b ob hb ho e => ?_, st.osub, fun b ob e => ?_⟩)
      · exact (st.keep b ob hb ho e).trans fun o' e' => .inl (k b o' (fun q => by rw [q, hI₁] at e; cases e) e')
      · obtain ⟨o', e'⟩ := Option.isSome_iff_exists.mp (st.alive b ob e)
        exact Option.isSome_iff_exists.mpr ⟨o', k b o' (fun q => by rw [q, hI₁] at e; cases e) e'⟩
    | cons v vs =>
      obtain ⟨hs, eq⟩ := if_nf eq hf
      obtain ⟨items, k, all, gl, ed, r⟩ := it.view F.post.rel hs
      obtain ⟨hv, hvs⟩ := drop_head ed
      obtain ⟨w, hw, rw'⟩ := r.get hv
      refine wpAny_pyNext_enum_item en it.iter ⟨_, gl, rfl, k, rfl⟩ (by rw [← Array.getElem?_toList]; exact hw) hne fun h₂ heo hit₂ ht₂ hz₂ hk₂ => ?_
      refine wpAny_letOwnedTupleGo_enum heo fun h₃ he₃ hs₃ => ?_
      replace hs₃ : Heap.SameBut e h₂ h₃ := hs₃
      have heH : e < s.heap.objs.size := Heap.lt_size en
      have ht₃ : h₃.IsTuple s.heap.objs.size #[.int i s.toks, w] := ⟨_, (hs₃.2 _ (Nat.ne_of_gt heH)).trans ht₂, rfl, _, rfl⟩
      have hz₃ : h₃.objs.size = s.heap.objs.size + 1 := hs₃.1.trans hz₂
      refine wpAny_assign_Tuple hq ht₃ rfl rfl fun h₄ hx₄ => ?_
      replace hx₄ : Heap.ExtBut h₃.objs.size h₃ h₄ := hx₄
      have old₄ : ∀ b o, b < s.heap.objs.size → h₃.get? b = some o → h₄.get? b = some o := fun b o hb x => hx₄ b o (by rw [hz₃]; exact Nat.ne_of_lt (Nat.lt_succ_of_lt hb)) x
      have en₄ : IsEnum h₄ e I ((i : Int) + 1) w := old₄ e _ heH he₃
      have it₄ : h₄.IsListIter I l (i + 1) := (hit₂.extBut hs₃.extBut (Ne.symm hne)).at fun o x => old₄ I o (Heap.lt_size gI) x
      have K : ∀ b o, b ≠ e → b ≠ I → s.heap.get? b = some o → h₄.get? b = some o := fun b o h1 h2 x => old₄ b o (Heap.lt_size x) (hs₃.extBut b o h1 (hk₂ b o h1 h2 x))
      obtain ⟨m, k₁, ko, gm⟩ := mid ge en₄ K
      have k₂ : ∀ b o, b ≠ e → m.get? b = some o → h₄.get? b = some o := fun b o hb x => (ko b hb).symm.trans x
      have F₄ := (F.but (t := s.toks + 1) gI pI qI owI.z owI.o owI.b k₁).but (t := s.toks + 1) gm pe qe owe.z owe.o owe.b k₂
      have iI : (m.get? I).isSome = true := by
        obtain ⟨o, g, _⟩ := it₄
        rw [ko I (Ne.symm hne), g]; rfl
      have st₄ : StepL env φ₁ η₁ h₁ φ η h₄ := (st.but gI k₁ iI hI₁).but gm k₂ (by rw [show h₄.get? e = some _ from en₄]; rfl) he₁
      have lit₄ : LIter T φ η h₄ I l (i + 1) vs live := by
        cases it with
        | lst items k all e hl g n r it =>
          obtain ⟨_, hvs⟩ := drop_head e
          have ll : l ≠ I := fun q => by rw [q, gI] at g; cases g; exact absurd (Value.type.inj (show Value.type "list" = .type _ from cI)) (by decide)
          exact .lst items k all hvs hl (k₂ l _ (fun q => by rw [q, ge] at g; cases g; exact absurd (Value.type.inj (show Value.type "list" = .type _ from ce)) (by decide)) (k₁ l _ ll g)) n (VRs.but gm pe k₂ _ _ (VRs.but gI pI k₁ _ _ r)) it₄
        | live n all p e hl hp hq it => exact .live n all p (drop_head e).2 hl hp hq it₄
      have rw₄ : VR T φ (own φ η) h₄ v w := VR.but gm pe k₂ _ _ (VR.but gI pI k₁ _ _ rw')
      show wpAny _ A (do holding [w] (assign (.Name n1 p1) env (.int i s.toks)); do holding [] (assign (.Name n2 p2) env w); pure ()) _ _ _
      refine wpAny_bind (wpAny_holding (wpAny_assign_Name (F₄.store hΓ1 (loc_store hn1) (v := .int i) (by simp [VR]) fun s₅ F₅ k₅ a₅ v₅ => ?_)))
      have st₅ := F₄.stepL_store k₅ a₅
      refine wpAny_bind (wpAny_holding (wpAny_assign_Name (F₅.store hΓ2 (loc_store hn2) (VR.stepL st₅ F₄.fr _ _ rw₄) fun s₆ F₆ k₆ a₆ v₆ => wpAny_pure ?_)))
      have st₆ := F₅.stepL_store k₆ a₆
      have stS := (st₄.trans st₅).trans st₆
      have it₆ : LIter T φ η s₆.heap I l (i + 1) vs live := (lit₄.stepL st₅ F₄.fr owI.o).stepL st₆ F₅.fr owI.o
      have en₆ : IsEnum s₆.heap e I ((i : Int) + 1) w := kept_exact st₆ F₅.fr owe.o (kept_exact st₅ F₄.fr owe.o en₄ rfl (by decide) (by decide)) rfl (by decide) (by decide)
      exact (hb i v φ η s₆ ρ F₆).elim (then_nf eq hf) (fun φ₃ η₃ ρ₃ s₃ er F₃ st₃ => ⟨vs.length, Nat.lt_succ_self _, φ₃, η₃, ρ₃, vs, i + 1, w, rfl, F₃, it₆.stepL st₃ F₆.fr owI.o, kept_exact st₃ F₆.fr owe.o en₆ rfl (by decide) (by decide), owI.step st₃ (by obtain ⟨o, g, _⟩ := it₆.iter; rw [g]; rfl), owe.step st₃ (by rw [show s₆.heap.get? e = some _ from en₆]; rfl), stS.trans st₃, (then_next eq er).symm⟩)
        (fun w y' φ₃ η' ρ' s₃ er r F₃ st₃ => .ret (then_ret eq er) r F₃ (stS.trans st₃))
        fun c φ₃ η' ρ' e' s₃ er F₃ st₃ xr => noted_back F₃ xr fun s₄ p₄ xr₄ => ⟨c, φ₃, η', ρ', then_exc eq er, F₃.step p₄, (stS.trans st₃).trans p₄.step.toL, xr₄⟩

/-- enumerate( ) of one thing -/
theorem eval_enum {call : Nat → List V → H → R V} (G : Gd T N) {a : E} {n : Str} {p pos : Pos} {x : Expr} {W : Value → Shared → Prop} {Ec : Value → Shared → Prop} (hl : n = ("enumerate" : Str)) (hn : isGlo sc n = true) (hp : plainArg x = true) (h : SimE T q d call sc Γ a x) (X : Cxt T A L q d φ η s) (F : FR T φ η s.heap L env sc Γ ρ) (hf : evE T.P q call a ρ η ≠ .fail)
    (h1 : ∀ v η' φ' y s', evE T.P q call a ρ η = .ok v η' → Post T φ η s φ' η' s' → VR T φ' (own φ' η') s'.heap v y → wpAny T.M A (PySem.call (.type "enumerate") [y]) W Ec s') (h2 : ∀ c η' φ' e s', evE T.P q call a ρ η = .exc c η' → Post T φ η s φ' η' s' → XR T s'.heap e c L → Ec e s') :
    wpAny T.M A (eval (.Call (.Name n p) [x] [] pos) env) W Ec s := by
  subst hl
  have hs : plainArgs [x] := by unfold plainArgs; simp [hp]
  have hsp : Sim T A L φ η s (spliced (backTo pos (starEach [x] env))) (evE T.P q call a ρ η) (fun φ η h v ys => ∃ y, ys = [y] ∧ VR T φ (own φ η) h v y) := by
    rw [starEach_plain hp]
    exact (h A L φ η s env ρ X F).imp id fun w => spliced_cons (wpAny_mono w (fun y s₁ ⟨v, η', φ', e, p, r⟩ => spliced_nil ⟨v, η', φ', e, p, y, rfl, r⟩) fun _ _ z => z)
  have w := (sim_evalArgs (f := .type "enumerate") (pos := pos) hs hsp).elim (W := fun a s₁ => (∀ b o, T.base.get? b = some o → s₁.heap.get? b = some o) ∧ wpAny T.M A (PySem.call (.type "enumerate") ([] ++ a.pos) a.kw) W Ec s₁) (E := Ec) hf (fun v η' φ' a s' e p hq => by
    obtain ⟨⟨y, hy, r⟩, hkw⟩ := hq
    rw [hkw, hy]
    exact ⟨p.rel.base, h1 v η' φ' y s' e p r⟩) h2
  rw [arm_eval_Call_Name']
  exact wpAny_bind (name_boot G X.rel F hn (by decide +kernel) (by decide +kernel) (callWith_of (P := fun h => ∀ b o, T.base.get? b = some o → h.get? b = some o) (by rw [(args_plain hs).1]; rfl) keep_type w))

theorem s_for2 (G : Gd T N) {x y : Nat} {n1 n2 n : Str} {p1 p2 pt np cp pos : Pos} {k : Nat} {it : E} {z : Expr} {body : List S} {b : List Stmt} (hΓ1 : Γ.lookup n1 = some x) (hn1 : isLoc sc n1 = true) (hΓ2 : Γ.lookup n2 = some y) (hn2 : isLoc sc n2 = true) (hl : n = ("enumerate" : Str)) (hn : isGlo sc n = true) (hp : plainArg z = true) (hi : SimE T q d (call q) sc Γ it z) (hb : SimSs T q d call sc Γ body b) :
    SimS T q d call sc Γ (.for2 x y it body) (.For (.Tuple [.Name n1 p1, .Name n2 p2] k pt) (.Call (.Name n np) [z] [] cp) b [] pos) := by
  intro A L φ₀ η₀ s₀ φ η s env ρ X F
  refine .intro fun hf => wpAny_For (eval_enum G hl hn hp hi (F.cxt X) F.fr (of_nf rfl hf) (fun v η' φ₁ w s' e p hy => ?_) fun c η' φ' e s' he p x => ⟨c, φ', η', ρ, of_exc rfl he, F.step p, p.step.toL, x⟩) fun _ => rfl
  have ee := of_ok' (tot := evS T.P call q (.for2 x y it body) ρ η) (ρ := ρ) rfl e
  generalize evS T.P call q (.for2 x y it body) ρ η = tot at ee hf
  have F₁ := F.step p
  have old : ∀ {I : Addr}, s'.heap.get? I = none → s.heap.get? I = none := fun {I} hI => by
    cases e : s.heap.get? I with
    | none => rfl
    | some o => have := p.step.alive I o e; rw [hI] at this; cases this
  have sz : s'.heap.get? s'.heap.objs.size = none := Heap.get?_none_of_le (Nat.le_refl _)
  have sz1 : s'.heap.get? (s'.heap.objs.size + 1) = none := Heap.get?_none_of_le (Nat.le_succ _)
  obtain ⟨z1, o1, b1⟩ := F₁.fresh sz
  obtain ⟨z2, o2, b2⟩ := F₁.fresh sz1
  have main : ∀ {l : Addr} {items : Array Value} {kl : Nat} {xs : List V} {live : Option (Nat × List V)}, s'.heap.get? l = some (listO items kl) → (∀ h', (∀ b o, s'.heap.get? b = some o → h'.get? b = some o) → h'.IsListIter s'.heap.objs.size l 0 → LIter T φ₁ η' h' s'.heap.objs.size l 0 xs live) → listIt η' v = some (xs, live) →
      wpAny T.M A (PySem.call (.type "enumerate") [.ref l]) (fun xv s₁ => wpAny T.M A (pyIter xv) (fun it s₂ => codeAny T.M A (.forLoop (.Tuple [.Name n1 p1, .Name n2 p2] k pt) it b [] env) (fun r s' => match r with | .ok f => ROk T A L φ₀ η₀ s₀ env sc Γ φ η s.heap tot f s' | .error e => cameBackBy T.M A env (REx T A L φ₀ η₀ s₀ env sc Γ φ η s.heap tot) e s') s₂) (REx T A L φ₀ η₀ s₀ env sc Γ φ η s.heap tot) s₁) (REx T A L φ₀ η₀ s₀ env sc Γ φ η s.heap tot) s' := by
    intro l items kl xs live gl mk e2
    rw [e2] at ee
    obtain ⟨hql, ee⟩ := if_nf ee.symm hf
    refine call_enumerate_list ⟨_, gl, rfl, kl, rfl⟩ fun h' hE hI hsz hk => wpAny_pyIter_enum hE ?_
    have p2 : Post T φ₁ η' s' φ₁ η' { s' with heap := h' } := Post.grown (k := s'.toks) p.rel hk
    exact for_loop2 (X.hand hql.1) hΓ1 hn1 hΓ2 hn2 (fun i v φ η s ρ F => hb A L φ₀ η₀ s₀ φ η s env _ X F) hf (F₁.step p2) (mk h' hk hI) hE ⟨z1, o1, b1⟩ ⟨z2, o2, b2⟩ (old sz) (old sz1) (p.trans p2).step.toL ee
  cases v with
  | lst xs =>
    simp only [VR] at hy
    obtain ⟨a, items, kl, rfl, hN, g, r⟩ := hy
    exact main g (fun h' hk it => .lst items kl xs rfl rfl (hk _ _ g) hN (VRs.step (Step.keeps hk) _ _ r) it) rfl
  | ref m =>
    simp only [VR] at hy
    obtain ⟨pr, hpr, rfl⟩ := hy
    have e2 : listIt η' (.ref m) = (match η'[m]? with | some (.list xs) => some (xs, some (m, xs)) | _ => none) := rfl
    cases hm : η'[m]? with
    | none => rw [show listIt η' (.ref m) = none by rw [e2, hm]] at ee; exact absurd ee hf
    | some mm =>
      cases mm with
      | list ys =>
        obtain ⟨_, items, kl, g, r⟩ := p.rel.obj m _ pr hm hpr
        exact main g (fun h' hk it => .live m ys pr rfl rfl hpr rfl it) (by rw [e2, hm]; rfl)
      | _ => rw [show listIt η' (.ref m) = none by rw [e2, hm]] at ee; exact absurd ee hf
  | _ => exact absurd ee hf
end
end Mine
end
section
namespace Mine
open PySem PySem.W PySem.Calls PyProof.Rows Builtin.ObjectAttr

/-- what is asked of an own class -/
structure ClsOk (T : St) (N : Nm) (G : Gd T N) (c : Nat) (cl : Cls) : Prop where
  name : ∀ n, N.clm[c]? = some n → nsIn G.K mainGlobals n = some (some (.ref (T.cls c))) ∧ keepIn G.K (.ref (T.cls c)) = true
  makes : makesIn G.K (T.cls c) = true
  init : findIn G.K (.ref (T.cls c)) "__init__" = some (some (.ref (G.fn cl.init))) ∧ typeIn G.K (.ref (G.fn cl.init)) = some (.type "function")
  ga : findIn G.K (.ref (T.cls c)) "__getattribute__" = some (some (.builtin "object.__getattribute__"))
  gh : findIn G.K (.ref (T.cls c)) "__getattr__" = some none
  sa : findIn G.K (.ref (T.cls c)) "__setattr__" = some (some (.builtin "object.__setattr__"))
  over : plainOver G.K (T.cls c) = true
  hd : (clsIn G.K (T.cls c)).any (·.hasDict) = true
  attrs : T.attrs c = cl.attrs.map fun k => (N.atm[k]?).getD ("" : Str)
  few : (T.attrs c).length ≤ 1000
  an : ∀ x ∈ T.attrs c, findIn G.K (.ref (T.cls c)) x = some none
  nd : (T.attrs c).Nodup
  meth : ∀ m f mn, cl.meths.lookup m = some f → N.mtm.lookup m = some mn → findIn G.K (.ref (T.cls c)) mn = some (some (.ref (G.fn f))) ∧ typeIn G.K (.ref (G.fn f)) = some (.type "function") ∧ keepIn G.K (.ref (G.fn f)) = true ∧ mn ∉ T.attrs c
/-- the classes -/
structure Cgs (T : St) (N : Nm) (G : Gd T N) : Prop where
  all : ∀ (c : Nat) (n : Str), N.clm[c]? = some n → n ≠ ("" : Str) → ∃ cl, T.P.clss[c]? = some cl
  cls : ∀ c cl, T.P.clss[c]? = some cl → (N.clm[c]? = some ("" : Str) ∧ cl.attrs = [] ∧ cl.meths = []) ∨ ClsOk T N G c cl

theorem attrM_get : ∀ {names : List Str} {ys : List Value} {i : Nat} {x : Str} {y : Value}, names.Nodup → names[i]? = some x → ys[i]? = some y → attrM names ys x = some y
  | [], _, _, _, _, _, h, _ => by simp at h
  | _ :: _, [], _, _, _, _, _, h => by simp at h
  | a :: names, b :: ys, 0, x, y, _, h1, h2 => by
    simp at h1 h2; subst h1; subst h2
    simp [attrM]
  | a :: names, b :: ys, i + 1, x, y, hn, h1, h2 => by
    simp only [List.getElem?_cons_succ] at h1 h2
    have : x ≠ a := fun e => (List.nodup_cons.mp hn).1 (e ▸ List.mem_of_getElem? h1)
    have ih := attrM_get (List.nodup_cons.mp hn).2 h1 h2
    unfold attrM at ih ⊢
    rw [List.zip_cons_cons, List.lookup_cons, beq_eq_false_iff_ne.mpr this]; exact ih
theorem attrM_out : ∀ {names : List Str} {ys : List Value} {x : Str}, x ∉ names → attrM names ys x = none
  | [], _, _, _ => rfl
  | _ :: _, [], _, _ => by simp [attrM]
  | a :: names, b :: ys, x, h => by
    have h1 : x ≠ a := fun e => h (e ▸ List.mem_cons_self)
    have ih := attrM_out (names := names) (ys := ys) (x := x) fun q => h (List.mem_cons_of_mem _ q)
    unfold attrM at ih ⊢
    rw [List.zip_cons_cons, List.lookup_cons, beq_eq_false_iff_ne.mpr h1]; exact ih
theorem attrM_set : ∀ {names : List Str} {ys : List Value} {i : Nat} {x : Str} {v : Value}, names.Nodup → names[i]? = some x → i < ys.length → (fun z => if z = x then some v else attrM names ys z) = attrM names (ys.set i v)
  | [], _, _, _, _, _, h, _ => by simp at h
  | _ :: _, [], _, _, _, _, _, h => by simp at h
  | a :: names, b :: ys, 0, x, v, hn, h1, _ => by
    simp at h1; subst h1
    funext z
    by_cases hz : z = a
    · subst hz; simp [attrM]
    · unfold attrM
      rw [if_neg hz, List.set_cons_zero, List.zip_cons_cons, List.zip_cons_cons, List.lookup_cons, List.lookup_cons, beq_eq_false_iff_ne.mpr hz]
  | a :: names, b :: ys, i + 1, x, v, hn, h1, h2 => by
    simp only [List.getElem?_cons_succ] at h1
    have hxa : x ≠ a := fun e => (List.nodup_cons.mp hn).1 (e ▸ List.mem_of_getElem? h1)
    have ih := attrM_set (ys := ys) (v := v) (List.nodup_cons.mp hn).2 h1 (by simpa using h2)
    funext z
    have ih := congrFun ih z
    unfold attrM at ih ⊢
    rw [List.set_cons_succ, List.zip_cons_cons, List.zip_cons_cons, List.lookup_cons, List.lookup_cons]
    by_cases hz : z = a
    · subst hz; rw [if_neg (Ne.symm hxa), beq_self_eq_true]
    · rw [beq_eq_false_iff_ne.mpr hz]; exact ih
theorem attrM_app : ∀ {names : List Str} {ys : List Value} {x : Str} {v : Value}, names.Nodup → names[ys.length]? = some x → (fun z => if z = x then some v else attrM names ys z) = attrM names (ys ++ [v])
  | [], _, _, _, _, h => by simp at h
  | a :: names, [], x, v, hn, h1 => by
    simp at h1; subst h1
    funext z
    by_cases hz : z = a
    · subst hz; simp [attrM]
    · simp [attrM, hz, List.lookup_cons, beq_eq_false_iff_ne.mpr hz]
  | a :: names, b :: ys, x, v, hn, h1 => by
    simp only [List.length_cons, List.getElem?_cons_succ] at h1
    have hxa : x ≠ a := fun e => (List.nodup_cons.mp hn).1 (e ▸ List.mem_of_getElem? h1)
    have ih := attrM_app (ys := ys) (v := v) (List.nodup_cons.mp hn).2 h1
    funext z
    have ih := congrFun ih z
    unfold attrM at ih ⊢
    rw [List.cons_append, List.zip_cons_cons, List.zip_cons_cons, List.lookup_cons, List.lookup_cons]
    by_cases hz : z = a
    · subst hz; rw [if_neg (Ne.symm hxa), beq_self_eq_true]
    · rw [beq_eq_false_iff_ne.mpr hz]; exact ih

section
variable {T : St} {N : Nm} {A : Around} {L : Addr} {q : Bool} {d : Nat} {φ φ' : Phi} {η η' : H} {s s' : Shared} {h : Heap} {env : Env} {sc : Scope} {Γ : Gam} {ρ : Rho} {call : Nat → List V → H → R V}

/-- an instance, seen on both sides -/
structure InstV (T : St) (N : Nm) (G : Gd T N) (φ : Phi) (η : H) (h : Heap) (n c : Nat) (cl : Cls) (fs : List V) (p : Addr × Addr) (o : Obj) (ys : List Value) : Prop where
  at' : η[n]? = some (.inst c fs)
  ph : φ[n]? = some p
  ok : ClsOk T N G c cl
  ne : p.1 ≠ p.2
  inst : InstAt h p.1 (instO (T.cls c) p.2) (T.cls c) (some o)
  ns : DAt h p.2 (attrM (T.attrs c) ys) ys.length
  le : ys.length ≤ (T.attrs c).length
  get : h.get? p.2 = some o
  vs : VRs T φ (own φ η) h fs ys
  look : ∀ x, lookIn x o = some (attrM (T.attrs c) ys x)
theorem look_of {o : Obj} {es : Array DictEntry} {n : Nat} {m : Str → Option Value} (hd : o.data = .dict es n) (hk : StrKeys es) (hm : ∀ x, nsFind es x = m x) (x : Str) : lookIn x o = some (m x) := by
  unfold lookIn
  rw [hd]
  dsimp only
  rw [← hm]
  have hany : es.toList.any (·.refKey) = false := by
    rw [List.any_eq_false]; intro e he; obtain ⟨n, t, h⟩ := hk e (Array.mem_def.mpr he); simp [DictEntry.refKey, h]
  unfold nsFind findBy
  obtain ⟨l⟩ := es
  simp only [List.find?_toArray] at *
  cases e : l.find? (·.key.isStr x) with
  | none => rw [if_neg (by rw [hany]; exact Bool.false_ne_true)]; rfl
  | some e => rfl
theorem inst_view (G : Gd T N) (Cg : Cgs T N G) (R : Rel T φ η h) {v : V} {y : Value} {n c : Nat} {cl : Cls} {fs : List V} (hv : v = .ref n) (hn : η[n]? = some (.inst c fs)) (hc : T.P.clss[c]? = some cl) (hne : cl.attrs ≠ [] ∨ cl.meths ≠ []) (r : VR T φ (own φ η) h v y) :
    ∃ p o ys, y = .ref p.1 ∧ InstV T N G φ η h n c cl fs p o ys := by
  subst hv
  simp only [VR] at r
  obtain ⟨p, hp, rfl⟩ := r
  obtain ⟨h1, h2, ys, hns, hle, h3⟩ := R.obj n _ p hn hp
  rcases Cg.cls c cl hc with ⟨_, e1, e2⟩ | ok
  · exact absurd hne (by rw [e1, e2]; simp)
  obtain ⟨o, es, k, g, hcl, hd, hk, hm, _⟩ := id hns
  exact ⟨p, o, ys, rfl, hn, hp, ok, h1, ⟨h2, rfl, rfl, g⟩, hns, hle, g, h3, look_of hd hk hm⟩
theorem getA_view {P : Prog} {x : V} {k : Nat} {v : V} (e : getA P η x k = some v) : ∃ (n c : Nat) (fs : List V) (cl : Cls) (i : Nat), x = .ref n ∧ η[n]? = some (.inst c fs) ∧ P.clss[c]? = some cl ∧ cl.attrs[i]? = some k ∧ fs[i]? = some v := by
  unfold getA at e
  split at e
  · split at e
    · split at e
      · split at e
        · rename_i i hi
          obtain ⟨hlt, h1, _⟩ := List.findIdx?_eq_some_iff_getElem.mp hi
          exact ⟨_, _, _, _, i, rfl, by assumption, by assumption, by rw [List.getElem?_eq_getElem hlt, beq_iff_eq.mp h1], e⟩
        · cases e
      · cases e
    · cases e
  · cases e
theorem setA_view {P : Prog} {x : V} {k : Nat} {v : V} {η' : H} (e : setA P η x k v = some η') : ∃ (n c : Nat) (fs : List V) (cl : Cls) (i : Nat) (fs' : List V), x = .ref n ∧ η[n]? = some (.inst c fs) ∧ P.clss[c]? = some cl ∧ cl.attrs[i]? = some k ∧ η' = η.set n (.inst c fs') ∧ ((i < fs.length ∧ fs' = fs.set i v) ∨ (i = fs.length ∧ fs' = fs ++ [v])) := by
  unfold setA at e
  split at e
  · split at e
    · split at e
      · split at e
        · rename_i i hi
          obtain ⟨hlt, h1, _⟩ := List.findIdx?_eq_some_iff_getElem.mp hi
          split at e
          · cases e; exact ⟨_, _, _, _, i, _, rfl, by assumption, by assumption, by rw [List.getElem?_eq_getElem hlt, beq_iff_eq.mp h1], rfl, .inl ⟨by assumption, rfl⟩⟩
          · split at e
            · cases e; exact ⟨_, _, _, _, i, _, rfl, by assumption, by assumption, by rw [List.getElem?_eq_getElem hlt, beq_iff_eq.mp h1], rfl, .inr ⟨by assumption, rfl⟩⟩
            · cases e
        · cases e
      · cases e
    · cases e
  · cases e
theorem attr_at {G : Gd T N} {c : Nat} {cl : Cls} {i k : Nat} {name : Str} (ok : ClsOk T N G c cl) (hi : cl.attrs[i]? = some k) (hn : atName N.atm k name = true) : (T.attrs c)[i]? = some name ∧ name ∈ T.attrs c := by
  have h1 : (T.attrs c)[i]? = some name := by rw [ok.attrs, List.getElem?_map, hi, Option.map_some, (at_name hn).1]; rfl
  exact ⟨h1, List.mem_of_getElem? h1⟩
theorem ne_nil {α : Type} {l : List α} {i : Nat} {x : α} (h : l[i]? = some x) : l ≠ [] := fun e => by rw [e] at h; simp at h

theorem VR.handed {N' : Addr → Prop} {v : V} {y : Value} (r : VR T φ N' h v y) : handedIn y = true := by
  cases v with
  | none => cases r; rfl
  | bool b => cases r; rfl
  | int i => obtain ⟨t, rfl⟩ := r; rfl
  | str i => obtain ⟨t, rfl⟩ := r; rfl
  | tup xs => obtain ⟨a, _, _, rfl, _⟩ := r; rfl
  | lst xs => obtain ⟨a, _, _, rfl, _⟩ := r; rfl
  | dct => exact r.elim
  | ref n => obtain ⟨p, _, rfl⟩ := r; rfl
  | exc c => obtain ⟨a, o, rfl, _⟩ := r; rfl
theorem e_attr (G : Gd T N) (Cg : Cgs T N G) {a : E} {k : Nat} {x : Expr} {name : Str} {pos : Pos} (hn : atName N.atm k name = true) (ho : notSuper x = true) (h : SimE T q d call sc Γ a x) : SimE T q d call sc Γ (.attr a k) (.Attribute x name pos) := by
  intro A L φ η s env ρ X F
  rw [arm_eval_Attribute]
  refine Sim.bind (Sim.base ho (h A L φ η s env ρ X F)) fun v η' φ' y s' _ p hq => .standAt ?_
  cases e : getA T.P η' v k with
  | none => exact .fail
  | some w =>
    obtain ⟨n, c, fs, cl, i, hv, h1, h2, h3, h4⟩ := getA_view e
    obtain ⟨pp, o, ys, rfl, I⟩ := inst_view G Cg p.rel hv h1 h2 (.inl (ne_nil h3)) hq
    obtain ⟨h5, h6⟩ := attr_at I.ok h3 hn
    obtain ⟨z, hz, rz⟩ := I.vs.get h4
    have hf : findObj G.K (T.cls c) (some o) name = some (.value z) := by
      obtain ⟨cd, hcd, hdd⟩ := PySem.W.any_some I.ok.hd
      unfold findObj W.ownOf
      rw [hcd, Option.bind_some, I.ok.an name h6, Option.bind_some]
      simp only [Option.bind_some, hdd, if_true, I.look, attrM_get I.ok.nd h5 hz]
    have hh : handedIn z = true := VR.handed rz
    refine .ok rfl (wpAny_bind (wpAny_holding (get_value (G.here p.rel) I.inst I.ok.ga hf hh (wpAny_bind (wpAny_letTemporaryGo (wpAny_pure ⟨φ', .toks p.rel, rz⟩))))))
theorem meth_view {P : Prog} {x : V} {m f : Nat} (e : methOf P η x m = some f) : ∃ (n c : Nat) (fs : List V) (cl : Cls), x = .ref n ∧ η[n]? = some (.inst c fs) ∧ P.clss[c]? = some cl ∧ cl.meths.lookup m = some f := by
  unfold methOf at e
  split at e
  · split at e
    · split at e
      · exact ⟨_, _, _, _, rfl, by assumption, by assumption, e⟩
      · cases e
    · cases e
  · cases e
theorem e_meth (G : Gd T N) (Cg : Cgs T N G) (hc : CallOK T G.fn q d call) {o : E} {m : Nat} {args : List E} {x : Expr} {name : Str} {apos pos : Pos} {xs : List Expr} (hm : N.mtm.lookup m = some name) (hpos : (apos.endLine == pos.line) = true) (hl : xs.length < 30) (ho : notSuper x = true) (hp : plainArgs xs)
    (h1 : SimE T q d call sc Γ o x) (h2 : SimEs T q d call sc Γ args xs) : SimE T q d call sc Γ (.meth o m args) (.Call (.Attribute x name apos) xs [] pos) := by
  intro A L φ η s env ρ X F
  rw [arm_eval_Call]
  refine Sim.bind (Sim.base ho (h1 A L φ η s env ρ X F)) fun v η' φ' y s' _ p hq => .standAt ?_
  cases e : methOf T.P η' v m with
  | none => exact .fail
  | some f =>
    obtain ⟨n, c, fs, cl, hv, g1, g2, g3⟩ := meth_view e
    obtain ⟨pp, ob, ys, rfl, I⟩ := inst_view G Cg p.rel hv g1 g2 (.inr fun q => by rw [q] at g3; cases g3) hq
    obtain ⟨hf, ht, hk, hout⟩ := I.ok.meth m f name g3 hm
    have form : methodCallForm (xs.length + ([] : List Keyword).length) (backTo pos (starEach xs env)) (backToKw pos (keywordEach [] env)) = true := args_form hp hl
    have X' := X.step p
    have main : Sim T A L φ' η' s' (callWith pos (.ref (G.fn f)) [.ref pp.1] (backTo pos (starEach xs env)) []) ((evEs T.P q call args ρ η').bind fun vs h' => call f (v :: vs) h') (QV T) :=
      sim_callWith (keep_ref G hk) hp h2 X' (F.step p.step) fun vs η'' φ'' ys s'' _ p' hvs => hc.sim (X'.step p') ⟨_, _, rfl, VR.step p'.step _ _ hq, hvs⟩
    refine main.imp id fun w => ?_
    unfold methodCall
    rw [form]
    refine wpAny_bind (wpAny_holding ?_)
    unfold calleeOf
    rw [if_pos rfl]
    refine method_fn (G.here p.rel) I.inst I.ok.ga I.ok.gh hf ht (by show (lookIn name ob).map _ = _; rw [I.look, attrM_out hout]; rfl) ?_
    refine wpAny_bind ?_
    unfold methodCallPos
    rw [hpos]
    exact wpAny_pure w

theorem sim_new (G : Gd T N) (hc : CallOK T G.fn q d call) {c : Nat} {cl : Cls} (ok : ClsOk T N G c cl) {vs : List V} {ys : List Value} (X : Cxt T A L q d φ η s) (hv : VRs T φ (own φ η) s.heap vs ys) :
    Sim T A L φ η s (PySem.call (.ref (T.cls c)) ys) ((call cl.init (.ref η.length :: vs) (η ++ [.inst c []])).bind fun v h' => match v with | .none => .ok (.ref η.length) h' | _ => .fail) (QV T) := by
  refine .intro fun hf => wpAny_call ?_
  obtain ⟨hp, g, dr, t, os⟩ := s
  have sz : hp.get? hp.objs.size = none := Heap.get?_none_of_le (Nat.le_refl _)
  have sz1 : hp.get? (hp.objs.size + 1) = none := Heap.get?_none_of_le (Nat.le_succ _)
  have k : ∀ b o, hp.get? b = some o → ((hp.push emptyDict).push (instObj (T.cls c) hp.objs.size)).get? b = some o := fun b o e => Heap.get?_push_of_some _ (Heap.get?_push_of_some _ e)
  have hx : ((hp.push emptyDict).push (instObj (T.cls c) hp.objs.size)).get? (hp.objs.size + 1) = some (instObj (T.cls c) hp.objs.size) := by
    have := Heap.get?_push_size (hp.push emptyDict) (o := instObj (T.cls c) hp.objs.size) rfl
    rwa [Heap.size_push] at this
  have hd : ((hp.push emptyDict).push (instObj (T.cls c) hp.objs.size)).get? hp.objs.size = some emptyDict := Heap.get?_push_of_some _ (Heap.get?_push_size _ rfl)
  have KI := G.here X.rel
  refine make_core (makes_of KI ok.makes) (looks_findIn KI ok.init.1) (fun self => bind_fn KI self ok.init.2) (.inl rfl) ?_
  have x := X.rel.add (m := .inst c []) (p := (hp.objs.size + 1, hp.objs.size)) k sz1 sz (Nat.lt_succ_of_lt X.rel.high) X.rel.high (fun st => ⟨Nat.succ_ne_self _, hx, [], ⟨_, _, _, hd, rfl, rfl, (fun e he => by simp at he), (fun x => by simp [attrM, nsFind, findBy]), by simp⟩, Nat.zero_le _, rfl⟩)
  have P2 : Post T φ η ⟨hp, g, dr, t, os⟩ (φ ++ [(hp.objs.size + 1, hp.objs.size)]) (η ++ [.inst c []]) ⟨(hp.push emptyDict).push (instObj (T.cls c) hp.objs.size), g, dr, t, os⟩ := ⟨x.2, x.1, rfl, rfl, rfl⟩
  have X2 := X.step P2
  obtain ⟨top, outer, hfr, htop, hst⟩ := X2.stk
  have hn : (φ ++ [(hp.objs.size + 1, hp.objs.size)])[η.length]? = some (hp.objs.size + 1, hp.objs.size) := by
    rw [← X.rel.len, List.getElem?_append_right (Nat.le_refl _), Nat.sub_self]; rfl
  have main := hc cl.init (A.under (.builtin "type.__call__" ⟨.ref (T.cls c) :: ys, []⟩)) L (top :: outer) (φ ++ [(hp.objs.size + 1, hp.objs.size)]) (η ++ [.inst c []]) ⟨(hp.push emptyDict).push (instObj (T.cls c) hp.objs.size), g, dr, t, os⟩ (.ref η.length :: vs) (.ref (hp.objs.size + 1) :: ys) X.hand
    (by have := X.depth; show A.depth + 1 + 4 * d + 1 ≤ _; omega) (by have := X.units; show A.units + 1 + 20 * d + 3 < _; omega) (by show pushEnvs [] A.frames = _; rw [hfr]; rfl) hst x.1 ⟨_, _, rfl, ⟨_, hn, rfl⟩, VRs.step P2.step _ _ hv⟩
  generalize call cl.init (.ref η.length :: vs) (η ++ [.inst c []]) = r at main hf
  have main := main.resolve_left (bind_nf rfl hf)
  refine codeAny_mono main fun res s' z => ?_
  match res, z with
  | .error e, z =>
    cases z with
    | mk c' η' φ' he p' xr => exact ⟨c', η', φ', by rw [he]; rfl, P2.trans p', xr⟩
  | .ok (.ret v), z =>
    cases z with
    | mk w η' φ' he p' rv =>
      subst he
      cases w with
      | none => cases rv; exact ⟨rfl, _, η', φ', rfl, P2.trans p', _, get_prefix p'.step.ext hn, rfl⟩
      | _ => exact absurd rfl hf
  | .ok .next, z => exact z.elim
  | .ok .brk, z => exact z.elim
  | .ok .cont, z => exact z.elim
theorem e_new (G : Gd T N) (Cg : Cgs T N G) (hc : CallOK T G.fn q d call) {c : Nat} {args : List E} {n : Str} {p pos : Pos} {xs : List Expr} (hf : atName N.clm c n = true) (hn : isGlo sc n = true) (hp : plainArgs xs) (h : SimEs T q d call sc Γ args xs) : SimE T q d call sc Γ (.new c args) (.Call (.Name n p) xs [] pos) := by
  intro A L φ η s env ρ X F
  obtain ⟨h1, h2⟩ := at_name hf
  obtain ⟨cl, e⟩ := Cg.all c n h1 h2
  rcases Cg.cls c cl e with ⟨e1, _⟩ | ok
  · rw [h1] at e1; exact absurd (Option.some.inj e1) h2
  · obtain ⟨e2, hk⟩ := ok.name n h1
    refine sim_named (f := .ref (T.cls c)) (fun Q E hQ => name_glob G X.rel F hn e2 hQ) ?_
    show Sim T A L φ η s _ ((evEs T.P q call args ρ η).bind fun vs h => match T.P.clss[c]? with | some cl => (call cl.init (.ref h.length :: vs) (h ++ [.inst c []])).bind fun v h' => (match v with | .none => .ok (.ref h.length) h' | _ => .fail) | none => .fail) (QV T)
    rw [e]
    exact sim_callWith (keep_ref G hk) hp h X F fun vs η' φ' ys s' _ p hv => sim_new G hc ok (X.step p) hv
/-- an attribute is set -/
theorem sim_setA (G : Gd T N) (Cg : Cgs T N G) {v w : V} {y z : Value} {k : Nat} {name : Str} (R : Rel T φ η s.heap) (hn : atName N.atm k name = true) (hq : VR T φ (own φ η) s.heap v y) (hw : VR T φ (own φ η) s.heap w z) {η' : H} (e : setA T.P η v k w = some η') {E : Value → Shared → Prop} {Q : Unit → Shared → Prop}
    (hQ : ∀ s', Post T φ η s φ η' s' → Q () s') : wpAny T.M A (setAttr y name z) Q E s := by
  obtain ⟨n, c, fs, cl, i, fs', hv, h1, h2, h3, rfl, h4⟩ := setA_view e
  obtain ⟨pp, o, ys, rfl, I⟩ := inst_view G Cg R hv h1 h2 (.inl (ne_nil h3)) hq
  obtain ⟨h5, h6⟩ := attr_at I.ok h3 hn
  obtain ⟨hp, gg, dr, tk, os⟩ := s
  have KI : G.K.In hp := G.here R
  obtain ⟨o', es, ep, g, hc, hd, hk, hm, hsz⟩ := id I.ns
  rw [I.get] at g; cases g
  have hly : ys.length = fs.length := VRs.length I.vs
  have hia : i < (T.attrs c).length := (List.getElem?_eq_some_iff.mp h5).1
  have few := I.ok.few
  have hle := I.le
  refine set_plain KI I.inst I.ok.sa (osa_open (s := ⟨hp, gg, dr, tk + 1, os⟩) KI I.inst I.ok.over (r := none) (by unfold takerIn; rw [I.ok.an name h6]; rfl) fun b => ?_)
  obtain ⟨cd, hcd, hdd⟩ := PySem.W.any_some I.ok.hd
  obtain ⟨hx, _, _, _⟩ := I.inst
  refine wpAny_bind (wpAny_pure (wpAny_bind (wpAny_bind (wpAny_loadPart hx (wpAny_bind ((looks_clsIn KI hcd).here ?_))))))
  rw [hdd]
  refine wpAny_pure (a := some pp.2) (wpAny_bind (wpAny_pure (wpAny_bind ?_)))
  refine nsSet_k (s := ⟨hp, gg, dr, tk + 1, os⟩) I.get hc hd hk hm fun h' o' es' ep' g' hc' hd' hk' hm' hsz' sb => ?_
  have main : ∃ ys', (fun x => if x = name then some z else attrM (T.attrs c) ys x) = attrM (T.attrs c) ys' ∧ es'.size ≤ ys'.length ∧ ys'.length ≤ (T.attrs c).length ∧ ∀ {φ' η' h'}, VRs T φ' (own φ' η') h' fs ys → VR T φ' (own φ' η') h' w z → VRs T φ' (own φ' η') h' fs' ys' := by
    rcases h4 with ⟨hi, rfl⟩ | ⟨hi, rfl⟩
    · refine ⟨ys.set i z, attrM_set I.ok.nd h5 (by omega), ?_, by rw [List.length_set]; exact hle, fun r1 r2 => VRs.set r1 r2⟩
      obtain ⟨y0, hy0⟩ : ∃ y0, ys[i]? = some y0 := ⟨_, List.getElem?_eq_getElem (by omega)⟩
      rw [hsz', attrM_get I.ok.nd h5 hy0, List.length_set]; simpa using hsz
    · refine ⟨ys ++ [z], attrM_app I.ok.nd (by rw [hly, ← hi]; exact h5), ?_, by rw [List.length_append, List.length_singleton]; omega, fun r1 r2 => r1.append ⟨_, _, rfl, r2, rfl⟩⟩
      rw [hsz', List.length_append, List.length_singleton]
      split <;> omega
  obtain ⟨ys', m1, m2, m3, m4⟩ := main
  have K : ∀ b o, b ≠ pp.2 → hp.get? b = some o → h'.get? b = some o := fun b o hb x => (sb.2 b hb).trans x
  have x := R.set (m' := .inst c fs') (h' := h') I.at' I.ph (by simp) (by simp) (fun b o h1 h2 x => K b o h2 x) (by rw [K _ _ I.ne hx]; rfl) (by rw [g']; rfl) fun st =>
    ⟨I.ne, K _ _ I.ne hx, ys', ⟨o', es', ep', g', hc', hd', hk', fun x => (hm' x).trans (congrFun m1 x), m2⟩, m3, m4 (VRs.step st _ _ I.vs) (VR.step st _ _ hw)⟩
  refine wpAny_bind (wpAny_lookBehind (s := ⟨h', gg, dr, tk + 1 + 1, os⟩) g' (by rw [hd']; exact pastItsLine_dict (by rw [sizeLine_eq]; omega)) ?_)
  exact wpAny_pure (hQ _ ⟨x.2, x.1, rfl, rfl, rfl⟩)
end
end Mine
end
section
namespace Mine
open PySem PySem.W PySem.Calls PyProof.Rows

section
variable {T : St} {N : Nm} {A : Around} {L : Addr} {q : Bool} {d : Nat} {call : Nat → List V → H → R V}

theorem star_no {sc : Scope} {Γ : Gam} {v : Expr} {p : Pos} : ∀ e : E, chkE N sc Γ e (.Starred v p) = false :=
  fun e => E.rec (motive_1 := fun e => ∀ sc Γ, chkE N sc Γ e (.Starred v p) = false) (motive_2 := fun _ => True) (motive_3 := fun _ => True) (motive_4 := fun _ => True) (motive_5 := fun _ => True)
    (fun _ _ _ => rfl) (fun _ _ _ => rfl) (fun _ _ _ _ => rfl) (fun _ _ _ _ _ _ _ => rfl) (fun _ _ _ _ _ _ => rfl) (fun _ _ _ _ => rfl) (fun _ _ _ _ => rfl) (fun _ _ _ _ => rfl) (fun _ _ _ _ _ _ _ => rfl) (fun _ _ _ _ _ _ _ _ _ _ => rfl) (fun _ _ _ _ _ _ _ _ => rfl)
    (fun _ _ _ _ _ => rfl) (fun _ _ _ _ _ => rfl) (fun _ _ _ _ _ _ _ => rfl) (fun _ _ _ _ _ => rfl) (fun _ _ _ _ _ _ _ => rfl) (fun _ _ _ _ _ => rfl) (fun _ _ _ _ _ => rfl) (fun _ _ _ _ _ => rfl) (fun _ _ _ _ _ _ => rfl) (fun _ _ _ _ _ _ _ _ _ => rfl) (fun _ _ _ _ _ => rfl) (fun _ _ _ _ => rfl) (fun _ _ _ _ _ _ _ _ _ _ => rfl)
    (fun _ _ _ => rfl) (fun _ ih sc Γ => ih sc Γ) (fun _ _ _ _ _ _ => rfl) (fun _ _ _ _ _ => rfl) (fun _ _ => trivial) (fun _ _ => trivial) (fun _ _ _ _ => trivial) (fun _ _ => trivial) (fun _ _ => trivial) (fun _ _ => trivial) (fun _ _ => trivial) trivial (fun _ _ _ _ => trivial) trivial (fun _ _ _ _ => trivial) e sc Γ
theorem chk_plain {sc : Scope} {Γ : Gam} {e : E} {x : Expr} (h : chkE N sc Γ e x = true) : plainArg x = true := by
  cases x with
  | Starred v p => rw [star_no] at h; cases h
  | _ => rfl
theorem chkEs_cons {sc : Scope} {Γ : Gam} {e : E} {es : List E} {xs : List Expr} (h : chkEs N sc Γ (e :: es) xs = true) : ∃ y ys, xs = y :: ys ∧ chkE N sc Γ e y = true ∧ chkEs N sc Γ es ys = true := by
  cases xs with
  | nil => exact absurd h Bool.false_ne_true
  | cons y ys => exact ⟨y, ys, rfl, Bool.and_eq_true_iff.mp h⟩
theorem chkEs_nil {sc : Scope} {Γ : Gam} {xs : List Expr} (h : chkEs N sc Γ [] xs = true) : xs = [] := List.isEmpty_iff.mp h
theorem chkCs_cons {sc : Scope} {Γ : Gam} {e : C} {es : List C} {xs : List Expr} (h : chkCs N sc Γ (e :: es) xs = true) : ∃ y ys, xs = y :: ys ∧ chkC N sc Γ e y = true ∧ chkCs N sc Γ es ys = true := by
  cases xs with
  | nil => exact absurd h Bool.false_ne_true
  | cons y ys => exact ⟨y, ys, rfl, Bool.and_eq_true_iff.mp h⟩
theorem chks_plain {sc : Scope} {Γ : Gam} : ∀ {es : List E} {xs : List Expr}, chkEs N sc Γ es xs = true → plainArgs xs ∧ es.length = xs.length
  | [], xs, h => by have := chkEs_nil h; subst this; exact ⟨rfl, rfl⟩
  | e :: es, xs, h => by
    obtain ⟨y, ys, rfl, h1, h2⟩ := chkEs_cons h
    obtain ⟨h3, h4⟩ := chks_plain h2
    refine ⟨?_, by simp [h4]⟩
    unfold plainArgs at h3 ⊢
    rw [List.all_cons, chk_plain h1, h3]; rfl
theorem it_set {sc : Scope} {Γ : Gam} {it : It} {x : Expr} (h : chkIt N sc Γ it x = true) : ∀ env y, foldedSetIterable x env y = pure y := by
  have hn : notSet x = true := by cases it <;> exact (Bool.and_eq_true_iff.mp h).1
  intro env y
  cases x <;> first | rfl | exact absurd hn Bool.false_ne_true

/-- what is shown of the parts -/
noncomputable def PE (T : St) (N : Nm) (q : Bool) (d : Nat) (call : Nat → List V → H → R V) (e : E) : Prop := (∀ sc Γ x, chkE N sc Γ e x = true → SimE T q d call sc Γ e x) ∧ (∀ sc Γ x, chkE N sc Γ e x = true → plainTest e x = true → SimC T q d call sc Γ (.t e) x)
noncomputable def PI (T : St) (N : Nm) (q : Bool) (d : Nat) (call : Nat → List V → H → R V) (e : It) : Prop := ∀ sc Γ x, chkIt N sc Γ e x = true → SimIt T q d call sc Γ e x
noncomputable def PC (T : St) (N : Nm) (q : Bool) (d : Nat) (call : Nat → List V → H → R V) (e : C) : Prop := ∀ sc Γ x, chkC N sc Γ e x = true → SimC T q d call sc Γ e x
noncomputable def PEs (T : St) (N : Nm) (q : Bool) (d : Nat) (call : Nat → List V → H → R V) (e : List E) : Prop := ∀ sc Γ x, chkEs N sc Γ e x = true → SimEs T q d call sc Γ e x ∧ SimL T q d call sc Γ e x
noncomputable def PCs (T : St) (N : Nm) (q : Bool) (d : Nat) (call : Nat → List V → H → R V) (e : List C) : Prop := ∀ sc Γ x, chkCs N sc Γ e x = true → SimCL T q d call sc Γ e x
theorem pe_of {e : E} (hn : ∀ l os rs p, plainTest e (.Compare l os rs p) = false) (h : ∀ sc Γ x, chkE N sc Γ e x = true → SimE T q d call sc Γ e x) : PE T N q d call e :=
  ⟨h, fun sc Γ x hc hp => c_plain hp (fun l os rs p e' => by subst e'; rw [hn] at hp; cases hp) (h sc Γ x hc)⟩

variable (G : Gd T N) (Tb : Tbs T N G) (Cg : Cgs T N G) (Ex : T.P.rz.isEmpty = false → Exs T N G) (hc : CallOK T G.fn q d call)

theorem m_var (i : Nat) : PE T N q d call (.var i) := pe_of (fun _ _ _ _ => rfl) fun sc Γ x h0 => by
  obtain ⟨n, hn, h⟩ := any_some (o := asName x) h0
  obtain ⟨p, rfl⟩ := asName_eq hn
  rw [Bool.and_eq_true, beq_iff_eq] at h
  exact fun A L φ η s env ρ X F => sim_var F X.rel h.1 (loc_kind h.2) (loc_debug h.2)
theorem m_const (v : V) : PE T N q d call (.const v) := pe_of (fun _ _ _ _ => rfl) fun sc Γ x h0 => by
  rcases Bool.or_eq_true_iff.mp (show ((asConst x).any (constOk v) || (asNeg x).any fun j => constEq v (.int (-j))) = true from h0) with h | h
  · obtain ⟨n, hn, h⟩ := any_some h
    obtain ⟨k, p, rfl⟩ := asConst_eq hn
    exact e_const h
  · obtain ⟨n, hn, h⟩ := any_some h
    obtain ⟨k, p, p', rfl⟩ := asNeg_eq hn
    exact e_neg h
include G in
theorem m_glob (g : Nat) (v : V) : PE T N q d call (.glob g v) := pe_of (fun _ _ _ _ => rfl) fun sc Γ x h0 => by
  obtain ⟨n, hn, h⟩ := any_some (o := asName x) h0
  obtain ⟨p, rfl⟩ := asName_eq hn
  simp only [Bool.and_eq_true] at h
  exact e_glob G h.1.1 h.1.2 h.2
theorem m_bin (op : Op) (a b : E) (p_a : PE T N q d call a) (p_b : PE T N q d call b) : PE T N q d call (.bin op a b) := pe_of (fun _ _ _ _ => rfl) fun sc Γ x h0 => by
  obtain ⟨⟨l, o, r⟩, hn, h⟩ := any_some (o := asBin x) h0
  obtain ⟨p, rfl⟩ := asBin_eq hn
  simp only [Bool.and_eq_true, beq_iff_eq] at h
  rw [← h.1.1]
  exact e_bin (p_a.1 _ _ _ h.1.2) (p_b.1 _ _ _ h.2)
theorem m_rep (a b : E) (p_a : PE T N q d call a) (p_b : PE T N q d call b) : PE T N q d call (.rep a b) := pe_of (fun _ _ _ _ => rfl) fun _ _ _ _ _ _ _ _ _ _ _ _ _ => .fail
theorem m_not (a : E) (p_a : PE T N q d call a) : PE T N q d call (.not a) := pe_of (fun _ _ _ _ => rfl) fun sc Γ x h0 => by
  obtain ⟨n, hn, h⟩ := any_some (o := asNot x) h0
  obtain ⟨p, rfl⟩ := asNot_eq hn
  exact e_not (p_a.1 _ _ _ h)
theorem m_and (es : List E) (p_es : PEs T N q d call es) : PE T N q d call (.and es) := pe_of (fun _ _ _ _ => rfl) fun sc Γ x h0 => by
  obtain ⟨n, hn, h⟩ := any_some (o := asAnd x) h0
  obtain ⟨p, rfl⟩ := asAnd_eq hn
  exact e_and (p_es _ _ _ h).2
theorem m_or (es : List E) (p_es : PEs T N q d call es) : PE T N q d call (.or es) := pe_of (fun _ _ _ _ => rfl) fun sc Γ x h0 => by
  obtain ⟨n, hn, h⟩ := any_some (o := asOr x) h0
  obtain ⟨p, rfl⟩ := asOr_eq hn
  exact e_or (p_es _ _ _ h).2
theorem m_cmp (op : COp) (a b : E) (p_a : PE T N q d call a) (p_b : PE T N q d call b) : PE T N q d call (.cmp op a b) := And.intro (fun sc Γ x h0 => by
  obtain ⟨⟨l, os, rs⟩, hn, h⟩ := any_some (o := asCmp x) h0
  obtain ⟨p, rfl⟩ := asCmp_eq hn
  obtain ⟨o, ho, h⟩ := any_some h
  obtain ⟨r, hr, h⟩ := any_some h
  dsimp only at ho hr
  rw [one_eq ho, one_eq hr]
  simp only [Bool.and_eq_true, beq_iff_eq] at h
  rw [← h.1.1.1]
  exact e_cmp h.1.1.2 (p_a.1 _ _ _ h.1.2) (p_b.1 _ _ _ h.2)) (fun sc Γ x h0 _ => by
  obtain ⟨⟨l, os, rs⟩, hn, h⟩ := any_some (o := asCmp x) h0
  obtain ⟨p, rfl⟩ := asCmp_eq hn
  obtain ⟨o, ho, h⟩ := any_some h
  obtain ⟨r, hr, h⟩ := any_some h
  dsimp only at ho hr
  rw [one_eq ho, one_eq hr]
  simp only [Bool.and_eq_true, beq_iff_eq] at h
  rw [← h.1.1.1]
  exact c_cmp h.1.1.2 (p_a.1 _ _ _ h.1.2) (p_b.1 _ _ _ h.2))
theorem m_cmp2 (o1 o2 : COp) (a b c : E) (p_a : PE T N q d call a) (p_b : PE T N q d call b) (p_c : PE T N q d call c) : PE T N q d call (.cmp2 o1 o2 a b c) := And.intro (fun sc Γ x h0 => by
  obtain ⟨⟨l, os, rs⟩, hn, h⟩ := any_some (o := asCmp x) h0
  obtain ⟨p, rfl⟩ := asCmp_eq hn
  obtain ⟨o, ho, h⟩ := any_some h
  obtain ⟨r, hr, h⟩ := any_some h
  dsimp only at ho hr
  rw [two_eq ho, two_eq hr]
  simp only [Bool.and_eq_true, beq_iff_eq] at h
  obtain ⟨⟨⟨⟨⟨h1, h2⟩, h3⟩, h4⟩, h5⟩, h6⟩ := h
  rw [← h1, ← h2]
  exact e_cmp2 h3 (p_a.1 _ _ _ h4) (p_b.1 _ _ _ h5) (p_c.1 _ _ _ h6)) (fun sc Γ x h0 _ => by
  obtain ⟨⟨l, os, rs⟩, hn, h⟩ := any_some (o := asCmp x) h0
  obtain ⟨p, rfl⟩ := asCmp_eq hn
  obtain ⟨o, ho, h⟩ := any_some h
  obtain ⟨r, hr, h⟩ := any_some h
  dsimp only at ho hr
  rw [two_eq ho, two_eq hr]
  simp only [Bool.and_eq_true, beq_iff_eq] at h
  obtain ⟨⟨⟨⟨⟨h1, h2⟩, h3⟩, h4⟩, h5⟩, h6⟩ := h
  rw [← h1, ← h2]
  exact c_cmp2 h3 (p_a.1 _ _ _ h4) (p_b.1 _ _ _ h5) (p_c.1 _ _ _ h6))
theorem m_ite (c : C) (a b : E) (p_c : PC T N q d call c) (p_a : PE T N q d call a) (p_b : PE T N q d call b) : PE T N q d call (.ite c a b) := pe_of (fun _ _ _ _ => rfl) fun sc Γ x h0 => by
  obtain ⟨q, hn, h⟩ := any_some (o := asIf x) h0
  obtain ⟨p, rfl⟩ := asIf_eq hn
  simp only [Bool.and_eq_true] at h
  exact e_ite (p_c _ _ _ h.1.1) (p_a.1 _ _ _ h.1.2) (p_b.1 _ _ _ h.2)
include G hc in
theorem m_call (f : Nat) (args : List E) (p_args : PEs T N q d call args) : PE T N q d call (.call f args) := pe_of (fun _ _ _ _ => rfl) fun sc Γ x h0 => by
  obtain ⟨q, hn, h⟩ := any_some (o := asCall x) h0
  obtain ⟨p, p', rfl⟩ := asCall_eq hn
  simp only [Bool.and_eq_true] at h
  exact e_call G hc h.1.1 h.1.2 (chks_plain h.2).1 (p_args _ _ _ h.2).1
include Cg hc in
theorem m_new (c : Nat) (args : List E) (p_args : PEs T N q d call args) : PE T N q d call (.new c args) := pe_of (fun _ _ _ _ => rfl) fun sc Γ x h0 => by
  obtain ⟨q, hn, h⟩ := any_some (o := asCall x) h0
  obtain ⟨p, p', rfl⟩ := asCall_eq hn
  simp only [Bool.and_eq_true] at h
  exact e_new G Cg hc h.1.1 h.1.2 (chks_plain h.2).1 (p_args _ _ _ h.2).1
include Cg hc in
theorem m_meth (o : E) (m : Nat) (args : List E) (p_o : PE T N q d call o) (p_args : PEs T N q d call args) : PE T N q d call (.meth o m args) := pe_of (fun _ _ _ _ => rfl) fun sc Γ x h0 => by
  obtain ⟨q, hn, h⟩ := any_some (o := asMeth x) h0
  obtain ⟨p, p', rfl, hq⟩ := asMeth_eq hn
  simp only [Bool.and_eq_true, decide_eq_true_eq, beq_iff_eq] at h
  obtain ⟨⟨⟨⟨⟨h1, h2⟩, h3⟩, h5⟩, h6⟩, h7⟩ := h
  exact e_meth G Cg hc h1 (hq.symm.trans h2) h3 h5 (chks_plain h7).1 (p_o.1 _ _ _ h6) (p_args _ _ _ h7).1
include G in
theorem m_bi (b : Bi) (args : List E) (p_args : PEs T N q d call args) : PE T N q d call (.bi b args) := pe_of (fun _ _ _ _ => rfl) fun sc Γ x h0 => by
  obtain ⟨q, hn, h⟩ := any_some (o := asCall x) h0
  obtain ⟨p, p', rfl⟩ := asCall_eq hn
  simp only [Bool.and_eq_true] at h
  exact e_bi G h.1.1 h.1.2 (chks_plain h.2).1 (p_args _ _ _ h.2).1
theorem m_bm (m : Bm) (o : E) (args : List E) (p_o : PE T N q d call o) (p_args : PEs T N q d call args) : PE T N q d call (.bm m o args) := pe_of (fun _ _ _ _ => rfl) fun sc Γ x h0 => by
  obtain ⟨q, hn, h⟩ := any_some (o := asMeth x) h0
  obtain ⟨p, p', rfl, hq⟩ := asMeth_eq hn
  simp only [Bool.and_eq_true, decide_eq_true_eq] at h
  obtain ⟨⟨⟨⟨⟨h1, h2⟩, h3⟩, h5⟩, h6⟩, h7⟩ := h
  exact e_bm h1 (hq.symm.trans h2) h3 h5 (chks_plain h7).1 (p_o.1 _ _ _ h6) (p_args _ _ _ h7).1
include G Ex in
theorem m_isinst (a : E) (t : Ty) (p_a : PE T N q d call a) : PE T N q d call (.isinst a t) := pe_of (fun _ _ _ _ => rfl) fun sc Γ x h0 => by
  obtain ⟨⟨n, as⟩, hn, h⟩ := any_some (o := asCall x) h0
  obtain ⟨p, p', rfl⟩ := asCall_eq hn
  simp only [Bool.and_eq_true] at h
  obtain ⟨⟨h1, h2⟩, h⟩ := h
  obtain ⟨r, hr, h⟩ := any_some h
  obtain ⟨tn, ht, h⟩ := any_some h
  obtain ⟨pp, ep⟩ := asName_eq ht
  rw [two_eq hr, ep]
  simp only [Bool.and_eq_true] at h
  exact e_isinst G h1 h2 h.1.1 h.1.2 (chk_plain h.2) (p_a.1 _ _ _ h.2) Ex
include G in
theorem m_toList (mu : Bool) (a : E) (p_a : PE T N q d call a) : PE T N q d call (.toList mu a) := pe_of (fun _ _ _ _ => rfl) fun sc Γ x h0 => by
  obtain ⟨⟨n, as⟩, hn, h⟩ := any_some (o := asCall x) h0
  obtain ⟨p, p', rfl⟩ := asCall_eq hn
  simp only [Bool.and_eq_true] at h
  obtain ⟨r, hr, h3⟩ := any_some h.2
  rw [one_eq hr]
  exact e_toList G h.1.1 h.1.2 (chk_plain h3) (p_a.1 _ _ _ h3)
include Cg in
theorem m_attr (a : E) (k : Nat) (p_a : PE T N q d call a) : PE T N q d call (.attr a k) := pe_of (fun _ _ _ _ => rfl) fun sc Γ x h0 => by
  obtain ⟨q, hn, h⟩ := any_some (o := asAttr x) h0
  obtain ⟨p, rfl⟩ := asAttr_eq hn
  simp only [Bool.and_eq_true] at h
  exact e_attr G Cg h.1.1 h.1.2 (p_a.1 _ _ _ h.2)
theorem m_sub (a b : E) (p_a : PE T N q d call a) (p_b : PE T N q d call b) : PE T N q d call (.sub a b) := pe_of (fun _ _ _ _ => rfl) fun sc Γ x h0 => by
  obtain ⟨q, hn, h⟩ := any_some (o := asSub x) h0
  obtain ⟨p, rfl⟩ := asSub_eq hn
  simp only [Bool.and_eq_true] at h
  exact e_sub h.1.1 (p_a.1 _ _ _ h.1.2) (p_b.1 _ _ _ h.2)
theorem m_slice (mu : Bool) (a lo hi : E) (p_a : PE T N q d call a) (p_lo : PE T N q d call lo) (p_hi : PE T N q d call hi) : PE T N q d call (.slice mu a lo hi) := pe_of (fun _ _ _ _ => rfl) fun sc Γ x h0 => by
  obtain ⟨⟨y, i⟩, hn, h⟩ := any_some (o := asSub x) h0
  obtain ⟨p, rfl⟩ := asSub_eq hn
  simp only [Bool.and_eq_true] at h
  obtain ⟨h1, h⟩ := h
  obtain ⟨⟨l, u⟩, hr, hh⟩ := any_some h
  obtain ⟨pp, rfl⟩ := asSlice_eq hr
  simp only [Bool.and_eq_true] at hh
  refine e_slice (p_a.1 _ _ _ h1) ?_ ?_
  · cases l with
    | none => exact hh.1
    | some e => exact p_lo.1 _ _ _ hh.1
  · cases u with
    | none => exact hh.2
    | some e => exact p_hi.1 _ _ _ hh.2
theorem m_list (mu : Bool) (es : List E) (p_es : PEs T N q d call es) : PE T N q d call (.list mu es) := pe_of (fun _ _ _ _ => rfl) fun sc Γ x h0 => by
  obtain ⟨q, hn, h⟩ := any_some (o := asList x) h0
  obtain ⟨p, rfl⟩ := asList_eq hn
  simp only [Bool.and_eq_true, decide_eq_true_eq] at h
  exact e_list (by rw [(chks_plain h.2).2]; exact h.1) (p_es _ _ _ h.2).1
theorem m_tuple (es : List E) (p_es : PEs T N q d call es) : PE T N q d call (.tuple es) := pe_of (fun _ _ _ _ => rfl) fun sc Γ x h0 => by
  obtain ⟨q, hn, h⟩ := any_some (o := asTuple x) h0
  obtain ⟨k, p, rfl⟩ := asTuple_eq hn
  simp only [Bool.and_eq_true, decide_eq_true_eq] at h
  exact e_tuple (by rw [(chks_plain h.2).2]; exact h.1) (p_es _ _ _ h.2).1
theorem m_comp (mu : Bool) (x : Nat) (elt : E) (it : It) (ifs : List C) (p_elt : PE T N q d call elt) (p_it : PI T N q d call it) (p_ifs : PCs T N q d call ifs) : PE T N q d call (.comp mu x elt it ifs) := pe_of (fun _ _ _ _ => rfl) fun sc Γ y h0 => by
  obtain ⟨q, hn, h⟩ := any_some (o := asComp y) h0
  obtain ⟨p, p', rfl⟩ := asComp_eq hn
  simp only [Bool.and_eq_true] at h
  exact e_comp (it_set h.1.1.2) (comp_ok h.1.1.1) (p_it _ _ _ h.1.1.2) (p_elt.1 _ _ _ h.1.2) (p_ifs _ _ _ h.2)
theorem m_dict0 (mu : Bool) : PE T N q d call (.dict0 mu) := pe_of (fun _ _ _ _ => rfl) fun sc Γ x h0 => by
  obtain ⟨q, hn, h⟩ := any_some (o := asDict0 x) h0
  obtain ⟨p, rfl⟩ := asDict0_eq hn
  exact e_dict0
theorem m_freeze (a : E) (p_a : PE T N q d call a) : PE T N q d call (.freeze a) := pe_of (fun _ _ _ _ => rfl) fun _ _ _ _ _ _ _ _ _ _ _ _ _ => .fail
include G Tb in
theorem m_inTab (neg : Bool) (t : Nat) (a : E) (p_a : PE T N q d call a) : PE T N q d call (.inTab neg t a) := And.intro (fun _ _ _ _ _ _ _ _ _ _ _ _ _ => .fail) (fun _ _ _ _ _ _ _ _ _ _ _ _ _ _ => .inl rfl)
include G Tb in
theorem m_subTab (t : Nat) (a : E) (p_a : PE T N q d call a) : PE T N q d call (.subTab t a) := pe_of (fun _ _ _ _ => rfl) fun _ _ _ _ _ _ _ _ _ _ _ _ _ => .fail
theorem m_of (e : E) (p_e : PE T N q d call e) : PI T N q d call (.of e) := fun sc Γ x h => it_of' (p_e.1 _ _ _ (Bool.and_eq_true_iff.mp h).2)
include G in
theorem m_range1 (a : E) (p_a : PE T N q d call a) : PI T N q d call (.range1 a) := fun sc Γ x h0 => by
  obtain ⟨⟨n, as⟩, hn, h⟩ := any_some (o := asCall x) (Bool.and_eq_true_iff.mp h0).2
  obtain ⟨p, p', rfl⟩ := asCall_eq hn
  simp only [Bool.and_eq_true] at h
  obtain ⟨r, hr, h3⟩ := any_some h.2
  rw [one_eq hr]
  exact it_range1 G h.1.1 h.1.2 (chk_plain h3) (p_a.1 _ _ _ h3)
include G in
theorem m_range2 (a b : E) (p_a : PE T N q d call a) (p_b : PE T N q d call b) : PI T N q d call (.range2 a b) := fun _ _ _ _ _ _ _ _ _ _ _ _ _ => .fail
theorem m_t (e : E) (p_e : PE T N q d call e) : PC T N q d call (.t e) := fun sc Γ x h => p_e.2 _ _ _ (Bool.and_eq_true_iff.mp h).2 (Bool.and_eq_true_iff.mp h).1
theorem m_cnot (c : C) (p_c : PC T N q d call c) : PC T N q d call (.not c) := fun sc Γ x h0 => by
  obtain ⟨n, hn, h⟩ := any_some (o := asNot x) h0
  obtain ⟨p, rfl⟩ := asNot_eq hn
  exact c_not (p_c _ _ _ h)
theorem m_cand (cs : List C) (p_cs : PCs T N q d call cs) : PC T N q d call (.and cs) := fun sc Γ x h0 => by
  obtain ⟨n, hn, h⟩ := any_some (o := asAnd x) h0
  obtain ⟨p, rfl⟩ := asAnd_eq hn
  exact c_and (p_cs _ _ _ h)
theorem m_cor (cs : List C) (p_cs : PCs T N q d call cs) : PC T N q d call (.or cs) := fun sc Γ x h0 => by
  obtain ⟨n, hn, h⟩ := any_some (o := asOr x) h0
  obtain ⟨p, rfl⟩ := asOr_eq hn
  exact c_or (p_cs _ _ _ h)
theorem m_enil : PEs T N q d call [] := fun sc Γ x h0 => by
  have := chkEs_nil h0; subst this; exact ⟨es_nil, trivial⟩
theorem m_econs (e : E) (es : List E) (p_e : PE T N q d call e) (p_es : PEs T N q d call es) : PEs T N q d call (e :: es) := fun sc Γ x h0 => by
  obtain ⟨y, ys, rfl, h1, h2⟩ := chkEs_cons h0
  exact ⟨es_cons (chk_plain h1) (p_e.1 _ _ _ h1) (p_es _ _ _ h2).1, p_e.1 _ _ _ h1, (p_es _ _ _ h2).2⟩
theorem m_cnil : PCs T N q d call [] := fun sc Γ x h0 => by
  have : x = [] := List.isEmpty_iff.mp h0
  subst this; trivial
theorem m_ccons (e : C) (es : List C) (p_e : PC T N q d call e) (p_es : PCs T N q d call es) : PCs T N q d call (e :: es) := fun sc Γ x h0 => by
  obtain ⟨y, ys, rfl, h1, h2⟩ := chkCs_cons h0
  exact ⟨p_e _ _ _ h1, p_es _ _ _ h2⟩

include G Tb Cg Ex hc in
theorem pE (e : E) : PE T N q d call e :=
  E.rec (motive_1 := fun e => PE T N q d call e) (motive_2 := fun e => PI T N q d call e) (motive_3 := fun e => PC T N q d call e) (motive_4 := fun e => PEs T N q d call e) (motive_5 := fun e => PCs T N q d call e)
    m_var
    m_const
    (m_glob G)
    m_bin
    m_rep
    m_not
    m_and
    m_or
    m_cmp
    m_cmp2
    m_ite
    (m_call G hc)
    (m_new G Cg hc)
    (m_meth G Cg hc)
    (m_bi G)
    m_bm
    (m_isinst G Ex)
    (m_toList G)
    (m_attr G Cg)
    m_sub
    m_slice
    m_list
    m_tuple
    m_comp
    m_dict0
    m_freeze
    (m_inTab G Tb)
    (m_subTab G Tb)
    m_of
    (m_range1 G)
    (m_range2 G)
    m_t
    m_cnot
    m_cand
    m_cor
    m_enil
    m_econs
    m_cnil
    m_ccons e
include G Tb Cg Ex hc in
theorem pI (e : It) : PI T N q d call e :=
  It.rec (motive_1 := fun e => PE T N q d call e) (motive_2 := fun e => PI T N q d call e) (motive_3 := fun e => PC T N q d call e) (motive_4 := fun e => PEs T N q d call e) (motive_5 := fun e => PCs T N q d call e)
    m_var
    m_const
    (m_glob G)
    m_bin
    m_rep
    m_not
    m_and
    m_or
    m_cmp
    m_cmp2
    m_ite
    (m_call G hc)
    (m_new G Cg hc)
    (m_meth G Cg hc)
    (m_bi G)
    m_bm
    (m_isinst G Ex)
    (m_toList G)
    (m_attr G Cg)
    m_sub
    m_slice
    m_list
    m_tuple
    m_comp
    m_dict0
    m_freeze
    (m_inTab G Tb)
    (m_subTab G Tb)
    m_of
    (m_range1 G)
    (m_range2 G)
    m_t
    m_cnot
    m_cand
    m_cor
    m_enil
    m_econs
    m_cnil
    m_ccons e
include G Tb Cg Ex hc in
theorem pC (e : C) : PC T N q d call e :=
  C.rec (motive_1 := fun e => PE T N q d call e) (motive_2 := fun e => PI T N q d call e) (motive_3 := fun e => PC T N q d call e) (motive_4 := fun e => PEs T N q d call e) (motive_5 := fun e => PCs T N q d call e)
    m_var
    m_const
    (m_glob G)
    m_bin
    m_rep
    m_not
    m_and
    m_or
    m_cmp
    m_cmp2
    m_ite
    (m_call G hc)
    (m_new G Cg hc)
    (m_meth G Cg hc)
    (m_bi G)
    m_bm
    (m_isinst G Ex)
    (m_toList G)
    (m_attr G Cg)
    m_sub
    m_slice
    m_list
    m_tuple
    m_comp
    m_dict0
    m_freeze
    (m_inTab G Tb)
    (m_subTab G Tb)
    m_of
    (m_range1 G)
    (m_range2 G)
    m_t
    m_cnot
    m_cand
    m_cor
    m_enil
    m_econs
    m_cnil
    m_ccons e
include G Tb Cg Ex hc in
theorem pCs : ∀ e : List C, PCs T N q d call e
  | [] => m_cnil
  | e :: es => m_ccons e es (pC G Tb Cg Ex hc e) (pCs es)
include G Tb Cg Ex hc in
theorem sndE (sc : Scope) (Γ : Gam) (e : E) (x : Expr) (h : chkE N sc Γ e x = true) : SimE T q d call sc Γ e x := (pE G Tb Cg Ex hc e).1 sc Γ x h
include G Tb Cg Ex hc in
theorem sndIt (sc : Scope) (Γ : Gam) (e : It) (x : Expr) (h : chkIt N sc Γ e x = true) : SimIt T q d call sc Γ e x := pI G Tb Cg Ex hc e sc Γ x h
include G Tb Cg Ex hc in
theorem sndC (sc : Scope) (Γ : Gam) (e : C) (x : Expr) (h : chkC N sc Γ e x = true) : SimC T q d call sc Γ e x := pC G Tb Cg Ex hc e sc Γ x h
include G Tb Cg Ex hc in
theorem sndCL (sc : Scope) (Γ : Gam) (e : List C) (x : List Expr) (h : chkCs N sc Γ e x = true) : SimCL T q d call sc Γ e x := pCs G Tb Cg Ex hc e sc Γ x h
end
end Mine
end
section
namespace Mine
open PySem PySem.W PySem.Calls PyProof.Rows

section
variable {T : St} {N : Nm} {A : Around} {L : Addr} {q : Bool} {d : Nat} {φ₀ φ : Phi} {η₀ η : H} {s₀ s : Shared} {env : Env} {sc : Scope} {Γ : Gam} {ρ : Rho} {call : Bool → Nat → List V → H → R V}

theorem s_raise (G : Gd T N) (Ex : T.P.rz.isEmpty = false → Exs T N G) {c : Nat} {msg : List Nat} {n : Str} {m : Str} {k : Nat} {np mp cpos pos : Pos} (hn : atName N.exm c n = true) (hg : isGlo sc n = true) :
    SimS T q d call sc Γ (.raise c msg) (.Raise (some (.Call (.Name n np) [.Constant (.str m) k mp] [] cpos)) none pos) := by
  intro A L φ₀ η₀ s₀ φ η s env ρ X F
  refine .intro fun hf => ?_
  obtain ⟨hq, et⟩ := if_nf (tot := evS T.P call q (.raise c msg) ρ η) rfl hf
  rw [← et]
  clear et hf
  have Ex := Ex (by cases e : T.P.rz with | nil => rw [e] at hq; cases hq.2 | cons a l => rfl)
  obtain ⟨h1, h2⟩ := at_name hn
  obtain ⟨hns, hx⟩ := Ex.at' c n h1 h2
  have hx' := hx
  obtain ⟨Nn, nm, qn, bs, hdct, sn, sub, ab, col, dd, k0, k1, k2, k3, k5, mN, g1, g2, g3, g4⟩ := hx'
  refine wpAny_Raise_call_subT (C := T.exc c) (N := Nn) (nm := nm) (q := qn) (bs := bs) (bm := Ex.bm c) (hdct := hdct) (sn := sn) (sub := sub) (ab := ab) (col := col) (dd := dd) (k0 := k0) (k1 := k1) (k2 := k2) (k3 := k3) (k5 := k5) PySem.F.excBase_ValueError hx.base (X.hand hq.1) rfl g3 (name_glob G F.post.rel F.fr hg hns ⟨rfl, ?_⟩)
  refine evalArgs_plain (spliced_cons (wpAny_mkText (spliced_nil ?_)))
  have F' := F.step (Post.toks (k := s.toks + 1) F.post.rel)
  have kb := F'.post.rel.base
  refine ⟨rfl, by show 1 ≤ sizeLine; decide, kb _ _ g1, g2.keeps kb, g4.keeps kb, fun h' e hm => ?_⟩
  obtain ⟨t, ht, _, _⟩ := hm.there
  have p : Post T φ η { s with toks := s.toks + 1 } φ η { s with toks := s.toks + 1, heap := h' } := Post.grown (s := { s with toks := s.toks + 1 }) (k := s.toks + 1) F'.post.rel hm.keeps
  refine ⟨c, φ, η, ρ, rfl, F'.step p, p.step.toL, e, rfl, _, _, .ref t, ht, rfl, rfl, rfl, ?_, .inl rfl⟩
  cases qb : T.base.get? e with
  | none => rfl
  | some o => have := F'.post.rel.base e o qb; have h0 := hm.new; rw [this] at h0; cases h0
end
end Mine
end
section
namespace Mine
open PySem PySem.W PySem.Calls PyProof.Rows

section
variable {M : Model} {T : St} {N : Nm} {A A₂ : Around} {L : Addr} {q : Bool} {d : Nat} {φ₀ φ : Phi} {η₀ η : H} {s₀ s : Shared} {env : Env} {sc : Scope} {Γ : Gam} {ρ : Rho} {call : Bool → Nat → List V → H → R V} {E : Value → Shared → Prop}

theorem nsDel_at {a : Addr} {cl : String} {m : Str → Option Value} {name : Str} {Q : Bool → Shared → Prop} (hn : NsAt s.heap a cl m)
    (hQ : ∀ h' v, NsAt h' a cl (fun x => if x = name then v else m x) → Heap.SameBut a s.heap h' → Q (m name).isSome { s with heap := h' }) : wpAny M A (nsDel a name) Q E s := by
  obtain ⟨⟨o, es, ep, ho, hd, hk, hm⟩, o₂, ho₂, hc⟩ := hn
  rw [ho] at ho₂; cases ho₂
  have hany : es.any (·.refKey) = false := by
    rw [Array.any_eq_false']; intro e he; obtain ⟨n, t, h⟩ := hk e he; simp [DictEntry.refKey, h]
  have hsome : (m name).isSome = es.any (·.key.isStr name) := by
    rw [← hm name]; simp only [nsFind, findBy, Option.isSome_map]
    rw [Bool.eq_iff_iff]; simp only [Array.find?_isSome, Array.any_eq_true]
    constructor
    · rintro ⟨x, hx, hp⟩; obtain ⟨i, hi, rfl⟩ := Array.mem_iff_getElem.mp hx; exact ⟨i, hi, hp⟩
    · rintro ⟨i, hi, hp⟩; exact ⟨_, Array.getElem_mem hi, hp⟩
  have hhas : nsHas name o = pure (es.any (·.key.isStr name)) := by
    rw [nsHas_eq]; unfold nsHasByArray; rw [hd]
    show (if (es.any fun x => x.key.isStr name) = true then _ else _) = _
    generalize (es.any fun x => x.key.isStr name) = b
    cases b <;> simp [hany]
  unfold nsDel
  refine wpAny_bind (wpAny_loadPart ho ?_)
  rw [hhas]
  refine wpAny_bind (wpAny_pure ?_)
  rw [← hsome]
  cases hmn : (m name).isSome
  · have := hQ s.heap (m name) ⟨⟨o, es, ep, ho, hd, hk, fun x => by by_cases hx : x = name <;> simp [hx, hm]⟩, o, ho, hc⟩ (.refl ..)
    rw [hmn] at this
    exact wpAny_pure this
  · refine wpAny_bind (wpAny_updatePart ho (wpAny_pure ?_))
    have key : ∃ v, NsAt (s.heap.update a (Obj.dropName name)) a cl (fun x => if x = name then v else m x) := by
      obtain ⟨c, dd, dt, sl⟩ := o
      subst hd
      cases hi : es.findIdx? (·.key.isStr name) with
      | some i =>
        have e1 : (s.heap.update a (Obj.dropName name)).get? a = some ⟨c, dd, .dict (es.eraseIdxIfInBounds i) (ep + 1), sl⟩ := by
          rw [Heap.get?_update_self _ ho (by simp only [Obj.dropName_eq, Obj.dropNameByArray, hi] <;> rfl)]
          simp only [Obj.dropName_eq, Obj.dropNameByArray, hi]
        exact ⟨nsFind (es.eraseIdxIfInBounds i) name, ⟨_, _, ep + 1, e1, rfl, hk.erase i, fun x => by
            show nsFind (es.eraseIdxIfInBounds i) x = if x = name then nsFind (es.eraseIdxIfInBounds i) name else m x
            by_cases hx : x = name
            · rw [if_pos hx, hx]
            · rw [if_neg hx, nsFind_erase_other hi hx, hm]⟩, _, e1, hc⟩
      | none =>
        have e1 : (s.heap.update a (Obj.dropName name)).get? a = some ⟨c, dd, .dict es ep, sl⟩ := by
          rw [Heap.get?_update_self _ ho (by simp only [Obj.dropName_eq, Obj.dropNameByArray, hi] <;> rfl)]
          simp only [Obj.dropName_eq, Obj.dropNameByArray, hi]
        exact ⟨m name, ⟨_, _, ep, e1, rfl, hk, fun x => by by_cases hx : x = name <;> simp [hx, hm]⟩, _, e1, hc⟩
    obtain ⟨v, hv⟩ := key
    have := hQ _ v hv (Heap.SameBut.update ..)
    rw [hmn] at this
    exact this

/-- the frame's names turn -/
theorem FS.turn {cw : Bool} {c : String} {m' : Str → Option Value} {h' : Heap} {t : Nat} {ρ' : Rho} (F : FS cw T A L φ₀ η₀ s₀ φ η s env sc Γ ρ) (hn' : NsAt h' env.locals c m') (hc : c = "frame" ∨ c = "dict") (hcc : ∃ o, s.heap.get? env.locals = some o ∧ o.cls = .type c) (hs : Heap.SameBut env.locals s.heap h')
    (hv : ∀ n i v, Γ.lookup n = some i → env.kindOf n = some .local → ρ'[i]? = some (some v) → ∃ x, m' n = some x ∧ VR T φ (own φ η) s.heap v x)
    (hcell : ∀ n i v, Γ.lookup n = some i → env.kindOf n = some .cell → ρ'[i]? = some (some v) → ρ[i]? = some (some v)) : FS cw T A L φ₀ η₀ s₀ φ η { s with heap := h', toks := t } env sc Γ ρ' := by
  obtain ⟨o, g, ho⟩ := hcc
  have pv : Priv o := ⟨c, ho, by rcases hc with rfl | rfl <;> decide, by rcases hc with rfl | rfl <;> decide⟩
  have k : ∀ b o, b ≠ env.locals → s.heap.get? b = some o → h'.get? b = some o := fun b o hb e => (hs.2 b hb).trans e
  have notc : ∀ n c, env.cells.lookup n = some c → c ≠ env.locals := fun n c' e q => by
    obtain ⟨ov, o', e', hc', _⟩ := F.fr.cthere n c' e
    rw [q, g] at e'; cases e'
    rw [ho] at hc'
    rcases hc with rfl | rfl <;> simp at hc'
  refine ⟨F.post.but F.l0 g pv F.fr.lfresh.1 F.fr.lfresh.2 k, ⟨F.fr.sc, F.fr.kind, F.fr.glob, F.fr.bi, F.fr.frame, ⟨c, m', hn', hc, fun n i v h1 h2 h3 => ?_⟩, fun n' j h1 h2 => ?_, F.fr.lfresh, fun n' c' e => ?_, F.fr.cfresh, F.fr.apart, F.fr.inj⟩, ?_, F.l0, F.c0⟩
  · obtain ⟨x, e, r⟩ := hv n i v h1 h2 h3
    exact ⟨x, e, VR.but g pv k _ _ r⟩
  · obtain ⟨c', ov, e, ⟨o', e', hc'', hd'⟩, hv'⟩ := F.fr.cell n' j h1 h2
    refine ⟨c', ov, e, ⟨o', k c' o' (notc n' c' e) e', hc'', hd'⟩, fun w hw => ?_⟩
    obtain ⟨y, hy, ry⟩ := hv' w (hcell n' j w h1 h2 hw)
    exact ⟨y, hy, VR.but g pv k _ _ ry⟩
  · obtain ⟨ov, o', e', hc'', hd'⟩ := F.fr.cthere n' c' e
    exact ⟨ov, o', k c' o' (notc n' c' e) e', hc'', hd'⟩
  · obtain ⟨t, u, h1, h2, h3⟩ := F.stk
    refine ⟨t, u, h1, h2, h3.but g k fun q => ?_⟩
    obtain ⟨⟨o₁, es, ep, e₁, hd₁, _⟩, o₂, e₂, hc₂⟩ := hn'
    rw [e₁] at e₂; cases e₂
    exact ⟨o₁, e₁, by rw [hc₂, ← ho, q], es, ep, hd₁⟩

/-- a name of the frame goes -/
theorem FS.gone {n : Str} {i : Nat} {pos : Pos} {Q : Unit → Shared → Prop} (F : FS true T A L φ₀ η₀ s₀ φ η s env sc Γ ρ) (hΓ : Γ.lookup n = some i) (hk : sc.names.lookup n = some .local)
    (h : ∀ s', FS true T A L φ₀ η₀ s₀ φ η s' env sc Γ (ρ.set i none) → StepL env φ η s.heap φ η s'.heap → (∀ e c fl, RN T s.heap e c fl → RN T s'.heap e c fl) → Q () s') :
    wpAny T.M A₂ (do bindName env n .none; unbindBehindTheSuite env n pos) Q E s := by
  have hk' : env.kindOf n = some .local := by unfold Env.kindOf; rw [F.fr.sc]; exact hk
  have hp : (env.scope.kind == .class || (env.scope.kind == .module && env.locals != env.globals)) = false := by rw [F.fr.kind]; rfl
  obtain ⟨c, m, hn, hc, hv⟩ := F.fr.ns
  obtain ⟨hns, o, g, ho⟩ := id hn
  obtain ⟨o₁, es, ep, g₁, hd₁, _⟩ := id hns
  rw [g] at g₁; cases g₁
  refine wpAny_bind (wpAny_bindName ?_)
  rw [storeName_local hk' hp]
  refine nsSet_at hn fun h₁ hn₁ hs₁ => ?_
  unfold unbindBehindTheSuite
  refine wpAny_onRaise ?_
  unfold unbindName
  refine wpAny_bind (wpAny_point (wpAny_bind ?_))
  unfold deleteName
  simp only [hk', hp]
  rw [if_neg (by decide)]
  refine wpAny_bind (nsDel_at (s := { s with heap := h₁, toks := s.toks + 1 }) hn₁ fun h₂ u hn₂ hs₂ => ?_)
  simp only [if_true, Option.isSome_some, Bool.not_true, Bool.false_eq_true, if_false]
  have hs := hs₁.trans hs₂
  refine wpAny_pure (wpAny_point (h _ (F.turn (t := s.toks + 1) hn₂ hc ⟨o, g, ho⟩ hs (fun n' j w h1 h2 h3 => ?_) fun n' j w h1 h2 h3 => ?_) ⟨List.prefix_refl _, fun b o' _ hb e => .inl ((hs.2 b hb.1).trans e), fun _ o => .inl o, fun b o' e => ?_⟩ fun e c' fl rn => ?_))
  · rcases getElem?_set_some h3 with ⟨_, hw⟩ | ⟨hj, hw⟩
    · cases hw
    · obtain ⟨y, hy, ry⟩ := hv n' j w h1 h2 hw
      have hne : n' ≠ n := fun q => by rw [q, hΓ] at h1; cases h1; exact hj rfl
      exact ⟨y, by simp [hne, hy], ry⟩
  · rcases getElem?_set_some h3 with ⟨_, hw⟩ | ⟨hj, hw⟩
    · cases hw
    · exact hw
  · by_cases hb : b = env.locals
    · obtain ⟨_, o', e', _⟩ := hn₂
      show (h₂.get? b).isSome = true
      rw [hb, e']; rfl
    · show (h₂.get? b).isSome = true
      rw [hs.2 b hb, e]; rfl
  · exact rn.but g hd₁ (sameBut_keep hs)
end
end Mine
end
section
namespace Mine
open PySem PySem.W PySem.Calls PyProof.Rows

section
variable {M : Model} {A : Around} {E : Value → Shared → Prop} {h : Heap} {g : Array GenState} {d : Drawn} {t : Nat} {os : OsState}
/-- a clause of an own class -/
theorem matches_own {C C' e : Addr} {bm bm' : List Value} {oe : Obj} {Q : Bool → Shared → Prop} (x : ExcAt h C bm) (x' : ExcAt h C' bm') (he : h.get? e = some oe) (hcls : oe.cls = .ref C)
    (hq : Q ((Value.ref C :: bm).contains (.ref C')) ⟨h, g, d, t, os⟩) : wpAny M A (excMatches (.ref e) (.ref C')) Q E ⟨h, g, d, t, os⟩ := by
  have hb' := x'.base
  obtain ⟨N, nm, q, bs, hdct, sn, sub, ab, col, dd, k0, k1, k2, k3, k5, mN, hC, _⟩ := x
  obtain ⟨N', nm', q', bs', hdct', sn', sub', ab', col', dd', l0, l1, l2, l3, l5, mN', hC', _⟩ := x'
  have hcB : (Value.ref C' :: bm').contains (.type "BaseException") = true := by rw [List.contains_cons, hb', Bool.or_true]
  have f := tc_notTuple
  generalize hr : (Value.ref C :: bm).contains (.ref C') = r at hq
  unfold excMatches
  repeat (first | (with_reducible refine wpAny_loadPart_at he ?_; rw [hcls]) | with_reducible refine wpAny_loadPart_at hC' ?_ | (with_reducible refine wpAny_isSubtype_exc hC' ?_; rw [hcB]) | (with_reducible refine wpAny_isSubtype_exc hC ?_; rw [hr]) | wp_step)
  cases r with
  | false => simp only [Bool.false_eq_true, if_false]; exact wpAny_pure (wpAny_pure (wpAny_pure hq))
  | true => simp only [if_true]; exact wpAny_pure (wpAny_pure (wpAny_pure hq))
end

section
variable {T : St} {N : Nm} {A : Around} {L : Addr} {q : Bool} {d : Nat} {φ₀ φ φ' : Phi} {η₀ η η' : H} {s₀ s s' : Shared} {env : Env} {sc : Scope} {Γ : Gam} {ρ : Rho} {call : Bool → Nat → List V → H → R V}

/-- the clauses -/
noncomputable def HOk (T : St) (N : Nm) (d : Nat) (call : Bool → Nat → List V → H → R V) (sc : Scope) (Γ : Gam) : List (Nat × Option Nat × List S) → List ExceptHandler → Prop
  | [], hs => hs = []
  | (k, x, b) :: r, hs => ∃ n p nm b₀ bs pos rest, hs = .ExceptHandler (some (.Name n p)) nm (b₀ :: bs) pos :: rest ∧ atName N.exm k n = true ∧ isGlo sc n = true ∧
      ((x = none ∧ nm = none) ∨ ∃ i y, x = some i ∧ nm = some y ∧ Γ.lookup y = some i ∧ sc.names.lookup y = some .local) ∧ SimSs T false d call sc Γ b (b₀ :: bs) ∧ HOk T N d call sc Γ r rest

theorem FS.mark {e : Option Value} (F : FS true T A L φ₀ η₀ s₀ φ η s env sc Γ ρ) : FS true T (A.mark e) L φ₀ η₀ s₀ φ η s env sc Γ ρ := ⟨F.post, F.fr, F.stk, F.l0, F.c0⟩
theorem FS.unmark {e : Option Value} (F : FS true T (A.mark e) L φ₀ η₀ s₀ φ η s env sc Γ ρ) : FS true T A L φ₀ η₀ s₀ φ η s env sc Γ ρ := ⟨F.post, F.fr, F.stk, F.l0, F.c0⟩

theorem RN.vr {e : Addr} {c : Nat} {fl : Value} (R : Rel T φ η s.heap) (x : RN T s.heap e c fl) : VR T φ (own φ η) s.heap (.exc c) (.ref e) := by
  obtain ⟨oe, vs, a0, Tb, oT, ts, h1, h2, h3, h4, _⟩ := x
  simp only [VR]
  exact ⟨e, oe, rfl, R.notFields h1 h3, h1, h2, vs, h3⟩

noncomputable def setX (x : Option Nat) (c : Nat) (ρ : Rho) : Rho := match x with | some i => ρ.set i (some (.exc c)) | none => ρ
theorem evHs_cons (P : Prog) (call : Bool → Nat → List V → H → R V) (c k : Nat) (x : Option Nat) (b : List S) (r : List (Nat × Option Nat × List S)) (ρ : Rho) (η : H) :
    evHs P call c ((k, x, b) :: r) ρ η = if ((P.excs[c]?).getD []).contains k = true then clr x (evSs P call false b (setX x c ρ) η) else evHs P call c r ρ η := rfl

/-- an exception out of a clause -/
theorem out_of_clause {m : Option Value} {x : Value} {c : Nat} {E : Value → Shared → Prop} (F : FS true T A L φ₀ η₀ s₀ φ η s env sc Γ ρ) (xr : XR T s.heap x c L)
    (h : ∀ s', Post T φ η s φ η s' → XR T s'.heap x c L → E x s') : notedBy T.M (A.mark m) env (cameBackBy T.M A env E) x s := by
  obtain ⟨a, rfl, r⟩ := xr
  obtain ⟨top, outer, h1, h2, h3⟩ := F.stk
  refine wpAny_mono (note (A := A.mark m) h1 h2 h3 F.fr.frame F.post.rel r) (fun _ s' ⟨p, rn⟩ => ?_) fun _ _ y => y
  exact came_back F.fr.frame p.rel rn fun s'' p' r' => h s'' (p.trans p') ⟨a, rfl, r'⟩

section
variable {x : Option Nat} {rb tot : RS} {ρ' : Rho} {hh : H}
noncomputable def clrR (x : Option Nat) (ρ : Rho) : Rho := match x with | some i => ρ.set i none | none => ρ
theorem clr_nf (e : clr x rb = tot) (hf : tot ≠ .fail) : rb ≠ .fail := fun h => by subst h; exact hf e.symm
theorem clr_next (e : clr x rb = tot) (er : rb = .next ρ' hh) : tot = .next (clrR x ρ') hh := by subst er; exact e.symm
theorem clr_ret {v : V} (e : clr x rb = tot) (er : rb = .ret v ρ' hh) : tot = .ret v (clrR x ρ') hh := by subst er; exact e.symm
theorem clr_exc {c : Nat} (e : clr x rb = tot) (er : rb = .exc c ρ' hh) : tot = .exc c (clrR x ρ') hh := by subst er; exact e.symm
end
theorem handle (G : Gd T N) (Ex : Exs T N G) {c : Nat} {nc : Str} (hc : N.exm[c]? = some nc) (hcn : nc ≠ ("" : Str)) (X : Sta A q d) {e : Addr} {φ₁ : Phi} {η₁ : H} {h₁ : Heap} {tot : RS} (hf : tot ≠ .fail) : ∀ (hs : List (Nat × Option Nat × List S)) (xs : List ExceptHandler), HOk T N d call sc Γ hs xs →
    ∀ φ η s ρ, FS true T A L φ₀ η₀ s₀ φ η s env sc Γ ρ → RN T s.heap e c .none → StepL env φ₁ η₁ h₁ φ η s.heap → evHs T.P call c hs ρ η = tot →
    wpAny T.M A (handleBy (.ref e) env xs) (ROk T A L φ₀ η₀ s₀ env sc Γ φ₁ η₁ h₁ tot) (REx T A L φ₀ η₀ s₀ env sc Γ φ₁ η₁ h₁ tot) s
  | [], xs, hk, φ, η, s, ρ, F, rn, st, et => by
    have : xs = [] := hk
    subst this
    exact wpAny_handleBy_nil (passes F.fr.frame F.post.rel rn fun s' p rz => ⟨c, φ, η, ρ, et.symm, F.step p, st.trans p.step.toL, e, rfl, rz⟩)
  | (k, x, b) :: r, xs, hk, φ, η, s, ρ, F, rn, st, et => by
    obtain ⟨n, p, nm, b₀, bs, pos, rest, rfl, hn, hg, hx, hb, hr⟩ := hk
    obtain ⟨hk1, hk2⟩ := at_name hn
    obtain ⟨hns, xk⟩ := Ex.at' k n hk1 hk2
    obtain ⟨_, xc⟩ := Ex.at' c nc hc hcn
    have kb := F.post.rel.base
    refine wpAny_handleBy_cons (codeAny_handlers_test (name_glob (A := A.mark (some (.ref e))) G F.post.rel F.fr hg hns ?_)) (by intro q; cases q)
    obtain ⟨oe, vs, a0, Tb, oT, ts, g1, g2, g3, g4⟩ := id rn
    refine matches_own (xc.keeps kb) (xk.keeps kb) g1 g2 ?_
    rw [Ex.mro c k nc n hc hk1 hcn hk2]
    rw [evHs_cons] at et
    by_cases hm : ((T.P.excs[c]?).getD []).contains k = true
    case neg =>
      rw [if_neg hm] at et
      rw [if_neg (by simpa using hm)]
      exact handle G Ex hc hcn X hf r rest hr φ η s ρ F rn st et
    rw [if_pos hm] at et
    rw [if_pos (by simpa using hm)]
    have X' : Sta (A.mark (some (.ref e))) false d := ⟨(fun q => nomatch q), X.depth, X.units⟩
    clear hr hn hk1 hk2 hns xk xc hm g1 g2 g3 g4
    rcases hx with ⟨rfl, rfl⟩ | ⟨i, y, rfl, rfl, hΓ, hl⟩
    · -- no name
      refine codeAny_handlers_suite (wpAny_mono (set_flight (A := A.mark (some (.ref e))) (fr := none) (E := fun _ _ => False) F.post.rel rn) (fun _ s₂ ⟨p₂, rn₂⟩ => ?_) fun _ _ z => z.elim)
      have st₂ := st.trans p₂.step.toL
      exact (hb (A.mark (some (.ref e))) L φ₀ η₀ s₀ φ η s₂ env ρ X' (F.step p₂).mark).elim (clr_nf et hf) (fun φ₃ η₃ ρ₃ s₃ er F₃ st₃ => .next (clr_next et er) F₃.unmark (st₂.trans st₃))
        (fun v y φ₃ η₃ ρ₃ s₃ er rv F₃ st₃ => .ret (clr_ret et er) rv F₃.unmark (st₂.trans st₃))
        fun c₃ φ₃ η₃ ρ₃ e' s₃ er F₃ st₃ xr => out_of_clause F₃.unmark xr fun s₄ p₄ xr₄ => ⟨c₃, φ₃, η₃, ρ₃, clr_exc et er, F₃.unmark.step p₄, (st₂.trans st₃).trans p₄.step.toL, xr₄⟩
    · -- with a name
      refine codeAny_handlers_suite_as (wpAny_mono (set_flight (A := A.mark (some (.ref e))) (fr := none) (E := fun _ _ => False) F.post.rel rn) (fun _ s₂ ⟨p₂, rn₂⟩ => ?_) fun _ _ z => z.elim)
      have F₂ := F.step p₂
      refine F₂.store hΓ (.inl hl) (rn₂.vr p₂.rel) fun s₃ F₃ k₃ a₃ _ => ?_
      have st₃ := (st.trans p₂.step.toL).trans (F₂.stepL_store k₃ a₃)
      refine (hb (A.mark (some (.ref e))) L φ₀ η₀ s₀ φ η s₃ env _ X' F₃.mark).elim (clr_nf et hf) (fun φ₄ η₄ ρ₄ s₄ er F₄ st₄ => F₄.unmark.gone (pos := pos) hΓ hl fun s₅ F₅ st₅ _ => .next (clr_next et er) F₅ ((st₃.trans st₄).trans st₅))
        (fun v y φ₄ η₄ ρ₄ s₄ er rv F₄ st₄ => F₄.unmark.gone (pos := pos) hΓ hl fun s₅ F₅ st₅ _ => .ret (clr_ret et er) (VR.stepL st₅ F₄.fr _ _ rv) F₅ ((st₃.trans st₄).trans st₅)) fun c₄ φ₄ η₄ ρ₄ e' s₄ er F₄ st₄ xr => ?_
      obtain ⟨a, rfl, rz⟩ := xr
      obtain ⟨top, outer, hf1, hf2, hf3⟩ := F₄.stk
      refine wpAny_mono (note hf1 hf2 hf3 F₄.fr.frame F₄.post.rel rz) (fun _ s₅ ⟨p₅, rn₅⟩ => ?_) fun _ _ z => z
      refine (F₄.step p₅).unmark.gone (pos := pos) hΓ hl fun s₆ F₆ st₆ krn => ?_
      refine passes F₆.fr.frame F₆.post.rel (krn _ _ _ rn₅) fun s₇ p₇ rz₇ => ?_
      exact out_of_clause (F₆.step p₇) ⟨a, rfl, rz₇⟩ fun s₈ p₈ xr₈ => ⟨c₄, φ₄, η₄, _, clr_exc et er, (F₆.step p₇).step p₈, ((((st₃.trans st₄).trans p₅.step.toL).trans st₆).trans p₇.step.toL).trans p₈.step.toL, xr₈⟩

noncomputable def tryRS (P : Prog) (call : Bool → Nat → List V → H → R V) (hs : List (Nat × Option Nat × List S)) (r : RS) : RS := match r with
  | .exc c r' h' => if P.rz.contains c = true then evHs P call c hs r' h' else .fail
  | x => x
theorem rz_some {P : Prog} {c : Nat} (h : P.rz.contains c = true) : P.rz.isEmpty = false := by
  cases e : P.rz with
  | nil => rw [e] at h; cases h
  | cons a l => rfl
/-- try -/
theorem s_try (G : Gd T N) (Ex : T.P.rz.isEmpty = false → Exs T N G) {body : List S} {hs : List (Nat × Option Nat × List S)} {b : List Stmt} {x₀ : ExceptHandler} {xs : List ExceptHandler} {pos : Pos}
    (hb : SimSs T q d call sc Γ body b) (hh : HOk T N d call sc Γ hs (x₀ :: xs)) : SimS T q d call sc Γ (.try body hs) (.Try b (x₀ :: xs) [] [] pos) := by
  intro A L φ₀ η₀ s₀ φ η s env ρ X F
  refine .intro (r := tryRS T.P call hs (evSs T.P call q body ρ η)) fun hf => ?_
  have hbb := hb A L φ₀ η₀ s₀ φ η s env ρ X F
  generalize evSs T.P call q body ρ η = rb at hbb hf
  refine wpAny_Try_except (hbb.elim (fun h => hf (by rw [h]; rfl)) (fun φ' η' ρ' s' er F' st' => wpAny_execs_nil (.next (by rw [er]; rfl) F' st')) (fun v x φ' η' ρ' s' er r F' st' => .ret (by rw [er]; rfl) r F' st') fun c φ₁ η' ρ' e' s' er F₁ st₁ xr => ?_)
  subst er
  obtain ⟨hc, et⟩ := if_nf (tot := tryRS T.P call hs (.exc c ρ' η')) rfl hf
  have Ex := Ex (rz_some hc)
  obtain ⟨nc, hn1, hn2⟩ := Ex.named c hc
  obtain ⟨a, rfl, rz⟩ := xr
  obtain ⟨top, outer, hf1, hf2, hf3⟩ := F₁.stk
  refine wpAny_mono (note hf1 hf2 hf3 F₁.fr.frame F₁.post.rel rz) (fun _ s₂ ⟨p₂, rn₂⟩ => ?_) fun _ _ z => z
  refine wpAny_mono (set_flight (fr := none) p₂.rel rn₂) (fun _ s₃ ⟨p₃, rn₃⟩ => ?_) fun _ _ z => z
  exact handle G Ex hn1 hn2 X hf hs (x₀ :: xs) hh φ₁ η' s₃ ρ' ((F₁.step p₂).step p₃) rn₃ (st₁.trans (p₂.trans p₃).step.toL) et
end
end Mine
end
section
namespace Mine
open PySem PySem.W PySem.Calls PyProof.Rows

section
variable {T : St} {N : Nm} {A : Around} {L : Addr} {q : Bool} {d : Nat} {φ₀ φ : Phi} {η₀ η : H} {s₀ s : Shared} {env : Env} {sc : Scope} {Γ : Gam} {ρ : Rho} {call : Bool → Nat → List V → H → R V} {α β : Type}

theorem SimR.assoc {γ : Type} {a : Sem α} {f : α → Sem γ} {k : γ → Sem Flow} {r : RS} (h : SimR T A L φ₀ η₀ s₀ env sc Γ φ η s (a >>= fun x => f x >>= k) r) : SimR T A L φ₀ η₀ s₀ env sc Γ φ η s ((a >>= f) >>= k) r :=
  h.imp id fun h Γ' p hΓ => by have := h Γ' p hΓ; simpa only [Sem.wp_bind'] using this

theorem SimR.exprP {t : Sem α} {k : α → Sem Flow} {r : R β} {g : β → H → RS} {Q : QR α β} (F : FS true T A L φ₀ η₀ s₀ φ η s env sc Γ ρ) (h1 : Sim T A L φ η s t r Q)
    (h2 : ∀ v η' φ' x s', r = .ok v η' → Post T φ η s φ' η' s' → FS true T A L φ₀ η₀ s₀ φ' η' s' env sc Γ ρ → Q φ' η' s'.heap v x → SimR T A L φ₀ η₀ s₀ env sc Γ φ' η' s' (k x) (g v η')) : SimR T A L φ₀ η₀ s₀ env sc Γ φ η s (t >>= k) (RS.of ρ r g) :=
  SimR.expr (Q := fun φ' η' h v x => ∃ s', s'.heap = h ∧ Post T φ η s φ' η' s' ∧ Q φ' η' h v x) F (h1.mono fun φ' η' s' v x _ p q => ⟨s', rfl, p, q⟩) fun v η' φ' x s' e F' ⟨s'', es, p, hq⟩ =>
    h2 v η' φ' x s' e ⟨es ▸ p.step, F'.post.rel, F'.post.gens.trans F.post.gens.symm, F'.post.os.trans F.post.os.symm, F'.post.drawn.trans F.post.drawn.symm⟩ F' hq

theorem s_setsub {o i e : E} {y j v : Expr} {p pos : Pos} (hv : notComp v = true) (ho : SimE T q d (call q) sc Γ o y) (hi : SimE T q d (call q) sc Γ i j) (he : SimE T q d (call q) sc Γ e v) : SimS T q d call sc Γ (.setsub o i e) (.Assign [.Subscript y j p] v pos) := by
  intro A L φ₀ η₀ s₀ φ η s env ρ X F
  rw [exec_Assign_Subscript _ _ _ _ _ (by cases v <;> first | rfl | cases hv)]
  refine SimR.standAt (SimR.expr F (he A L φ η s env ρ (F.cxt X) F.fr) fun w η' φ' yv s' _ F' hq => ?_)
  rw [assign_Subscript]
  refine SimR.assoc (SimR.exprP F' (Sim.holding (ho A L φ' η' s' env ρ (F'.cxt X) F'.fr)) fun w₂ η₂ φ₂ y₂ s₂ _ p₂ F₂ hq₂ => ?_)
  refine SimR.assoc (SimR.exprP F₂ (Sim.holding (hi A L φ₂ η₂ s₂ env ρ (F₂.cxt X) F₂.fr)) fun w₃ η₃ φ₃ y₃ s₃ _ p₃ F₃ hq₃ => ?_)
  refine SimR.assoc (SimR.standAt ?_)
  have hset := sim_setItem (A := A) (L := L) F₃.post.rel (VR.step p₃.step _ _ hq₂) hq₃ (VR.step (p₂.trans p₃).step _ _ hq)
  cases es : setItem η₃ w₂ w₃ w with
  | none => exact .inl rfl
  | some η₄ =>
    rw [es] at hset
    rcases hset with hset | hset
    · cases hset
    right
    refine wpAny_bind (wpAny_bind (wpAny_holding (wpAny_mono hset (fun _ s₄ ⟨_, η', φ', e', p₄, _⟩ => ?_) fun _ _ ⟨_, _, _, e', _, _⟩ => by cases e')))
    cases e'
    exact wpAny_release (wpAny_pure ⟨φ', _, ρ, .inl ⟨rfl, rfl⟩, F₃.step p₄, p₄.step.toL⟩)

theorem s_setattr (G : Gd T N) (Cg : Cgs T N G) {o e : E} {y v : Expr} {k : Nat} {name : Str} {p pos : Pos} (hn : atName N.atm k name = true) (hv : notComp v = true) (ho : SimE T q d (call q) sc Γ o y) (he : SimE T q d (call q) sc Γ e v) : SimS T q d call sc Γ (.setattr o k e) (.Assign [.Attribute y name p] v pos) := by
  intro A L φ₀ η₀ s₀ φ η s env ρ X F
  rw [plainObj_exec_Assign_Attribute _ _ _ _ _ (by cases v <;> first | rfl | cases hv)]
  refine SimR.standAt (SimR.expr F (he A L φ η s env ρ (F.cxt X) F.fr) fun w η' φ' yv s' _ F' hq => ?_)
  rw [assign_Attribute]
  refine SimR.assoc (SimR.exprP F' (Sim.holding (ho A L φ' η' s' env ρ (F'.cxt X) F'.fr)) fun w₂ η₂ φ₂ y₂ s₂ _ p₂ F₂ hq₂ => ?_)
  refine SimR.assoc (SimR.standAt ?_)
  cases es : setA T.P η₂ w₂ k w with
  | none => exact .inl rfl
  | some η₄ =>
    right
    exact wpAny_bind (wpAny_bind (wpAny_holding (sim_setA G Cg F₂.post.rel hn hq₂ (VR.step p₂.step _ _ hq) es fun s₄ p₄ => wpAny_release (wpAny_pure ⟨φ₂, _, ρ, .inl ⟨rfl, rfl⟩, F₂.step p₄, p₄.step.toL⟩))))

theorem not_interactive {env : Env} (h : env.scope.kind = .function) : interactive env = false := by
  unfold interactive; rw [h]; rfl

section
variable (G : Gd T N) (Tb : Tbs T N G) (Cg : Cgs T N G) (Ex : T.P.rz.isEmpty = false → Exs T N G) (hc : CallOK T G.fn q d (call q))
include G Tb Cg Ex hc
theorem a_assign {y : Nat} {e : E} {x : Stmt} (h0 : chkS N sc Γ (.assign y e) x = true) : SimS T q d call sc Γ (.assign y e) x := by
  obtain ⟨⟨t, v⟩, hp, h⟩ := any_some (o := asAssign x) h0
  obtain ⟨pos, rfl⟩ := asAssign_eq hp
  obtain ⟨n, hn, hh⟩ := any_some h
  obtain ⟨pn, en⟩ := asName_eq hn
  rw [en]
  simp only [Bool.and_eq_true, beq_iff_eq, Bool.or_eq_true] at hh
  obtain ⟨⟨⟨h1, h2⟩, h3⟩, h4⟩ := hh
  by_cases hcomp : notComp v = true
  · exact s_assign' hcomp h1 h2 (sndE G Tb Cg Ex hc sc Γ e v h3)
  · have h5 := h4.resolve_left hcomp
    cases e with
    | comp mu z elt it ifs =>
      obtain ⟨r, hr, hh⟩ := any_some (o := asComp v) h3
      obtain ⟨p1, p2, ev⟩ := asComp_eq hr
      subst ev
      simp only [Bool.and_eq_true] at hh
      exact s_assign_comp (it_set hh.1.1.2) h1 h2 (comp_ok hh.1.1.1) (sndIt G Tb Cg Ex hc sc Γ it _ hh.1.1.2) (sndE G Tb Cg Ex hc _ _ elt _ hh.1.2) (sndCL G Tb Cg Ex hc _ _ ifs _ hh.2)
    | _ => exact absurd h5 Bool.false_ne_true
theorem a_setattr {o e : E} {k : Nat} {x : Stmt} (h0 : chkS N sc Γ (.setattr o k e) x = true) : SimS T q d call sc Γ (.setattr o k e) x := by
  obtain ⟨⟨t, v⟩, hp, h⟩ := any_some (o := asAssign x) h0
  obtain ⟨pos, rfl⟩ := asAssign_eq hp
  obtain ⟨r, hr, hh⟩ := any_some h
  obtain ⟨pn, en⟩ := asAttr_eq hr
  rw [en]
  simp only [Bool.and_eq_true] at hh
  obtain ⟨⟨⟨h1, h2⟩, h3⟩, h4⟩ := hh
  exact s_setattr G Cg h1 h2 (sndE G Tb Cg Ex hc sc Γ o _ h3) (sndE G Tb Cg Ex hc sc Γ e _ h4)
theorem a_setsub {o i e : E} {x : Stmt} (h0 : chkS N sc Γ (.setsub o i e) x = true) : SimS T q d call sc Γ (.setsub o i e) x := by
  obtain ⟨⟨t, v⟩, hp, h⟩ := any_some (o := asAssign x) h0
  obtain ⟨pos, rfl⟩ := asAssign_eq hp
  obtain ⟨r, hr, hh⟩ := any_some h
  obtain ⟨pn, en⟩ := asSub_eq hr
  rw [en]
  simp only [Bool.and_eq_true] at hh
  obtain ⟨⟨⟨⟨h1, h2⟩, h3⟩, h4⟩, h5⟩ := hh
  exact s_setsub h2 (sndE G Tb Cg Ex hc sc Γ o _ h3) (sndE G Tb Cg Ex hc sc Γ i _ h4) (sndE G Tb Cg Ex hc sc Γ e _ h5)
theorem a_expr {e : E} {x : Stmt} (h0 : chkS N sc Γ (.expr e) x = true) : SimS T q d call sc Γ (.expr e) x := by
  obtain ⟨v, hp, h⟩ := any_some (o := asExprS x) h0
  obtain ⟨pos, rfl⟩ := asExprS_eq hp
  simp only [Bool.and_eq_true] at h
  exact s_expr h.1 (fun _ => not_interactive) (sndE G Tb Cg Ex hc sc Γ e _ h.2)
theorem a_ret {e : E} {x : Stmt} (h0 : chkS N sc Γ (.ret e) x = true) : SimS T q d call sc Γ (.ret e) x := by
  obtain ⟨v, hp, h⟩ := any_some (o := asRet x) h0
  obtain ⟨pos, rfl⟩ := asRet_eq hp
  exact s_ret' (sndE G Tb Cg Ex hc sc Γ e _ h)
end
variable (G : Gd T N) (Tb : Tbs T N G) (Cg : Cgs T N G) (Ex : T.P.rz.isEmpty = false → Exs T N G) (hc : ∀ q, CallOK T G.fn q d (call q))
include G Tb Cg Ex hc

mutual
theorem sndS (q : Bool) (sc : Scope) (Γ : Gam) : ∀ (st : S) (x : Stmt), chkS N sc Γ st x = true → SimS T q d call sc Γ st x
  | .assign y e, x, h0 => a_assign G Tb Cg Ex (hc q) h0
  | .setattr o k e, x, h0 => a_setattr G Tb Cg Ex (hc q) h0
  | .setsub o i e, x, h0 => a_setsub G Tb Cg Ex (hc q) h0
  | .expr e, x, h0 => a_expr G Tb Cg Ex (hc q) h0
  | .ite c a b, x, h0 => by
    obtain ⟨p, hp, h⟩ := any_some (o := asIfS x) h0
    obtain ⟨pos, rfl⟩ := asIfS_eq hp
    simp only [Bool.and_eq_true] at h
    exact s_ite' (sndC G Tb Cg Ex (hc q) sc Γ c _ h.1.1) (sndSs q sc Γ a _ h.1.2) (sndSs q sc Γ b _ h.2)
  | .for1 y it body, x, h0 => by
    obtain ⟨p, hp, h⟩ := any_some (o := asFor x) h0
    obtain ⟨pos, rfl⟩ := asFor_eq hp
    obtain ⟨n, hn, hh⟩ := any_some h
    obtain ⟨pn, en⟩ := asName_eq hn
    rw [en]
    simp only [Bool.and_eq_true, beq_iff_eq] at hh
    obtain ⟨⟨⟨h1, h2⟩, h3⟩, h4⟩ := hh
    exact s_for1' (it_set h3) h1 h2 (sndIt G Tb Cg Ex (hc q) sc Γ it _ h3) (sndSs q sc Γ body _ h4)
  | .for2 y z it body, x, h0 => by
    obtain ⟨p, hp, h⟩ := any_some (o := asFor x) h0
    obtain ⟨pos, rfl⟩ := asFor_eq hp
    obtain ⟨n, hn, hh⟩ := any_some h
    obtain ⟨pa, pb, k, pt, en⟩ := asPair_eq hn
    obtain ⟨c, hc', hh⟩ := any_some hh
    obtain ⟨pc, pc', ec⟩ := asCall_eq hc'
    rw [en, ec]
    simp only [Bool.and_eq_true, beq_iff_eq] at hh
    obtain ⟨⟨⟨⟨⟨⟨⟨h1, h2⟩, h3⟩, h4⟩, h5⟩, h6⟩, h7⟩, h8⟩ := hh
    obtain ⟨w, hw, h7⟩ := any_some h7
    rw [one_eq hw]
    exact s_for2 G h1 h2 h3 h4 h5 h6 (chk_plain h7) (sndE G Tb Cg Ex (hc q) sc Γ it _ h7) (sndSs q sc Γ body _ h8)
  | .while c body, x, h0 => fun _ _ _ _ _ _ _ _ _ _ _ _ => .inl rfl
  | .ret e, x, h0 => a_ret G Tb Cg Ex (hc q) h0
  | .raise c m, x, h0 => by
    obtain ⟨n, hp, h⟩ := any_some (o := asRaise x) h0
    obtain ⟨np, v, k, mp, cp, pos, rfl⟩ := asRaise_eq hp
    simp only [Bool.and_eq_true] at h
    exact s_raise G Ex h.1 h.2
  | .try body hs, x, h0 => by
    obtain ⟨p, hp, h⟩ := any_some (o := asTry x) h0
    obtain ⟨pos, rfl⟩ := asTry_eq hp
    simp only [Bool.and_eq_true, Bool.not_eq_true', List.isEmpty_eq_false_iff] at h
    obtain ⟨⟨h1, h2⟩, h3⟩ := h
    obtain ⟨b, l⟩ := p
    match l, h2, h3 with
    | x₀ :: xs, _, h3 => exact s_try G Ex (sndSs q sc Γ body _ h1) (sndHs sc Γ hs _ h3)
theorem sndHs (sc : Scope) (Γ : Gam) : ∀ (hs : List (Nat × Option Nat × List S)) (x : List ExceptHandler), chkHs N sc Γ hs x = true → HOk T N d call sc Γ hs x
  | [], x, h => List.isEmpty_iff.mp h
  | (k, y, b) :: r, [], h => absurd h Bool.false_ne_true
  | (k, y, b) :: r, x :: xs, h => by
    obtain ⟨p, hp, hh⟩ := any_some (o := asHandler x) (Bool.and_eq_true_iff.mp h).1
    obtain ⟨np, pos, rfl⟩ := asHandler_eq hp
    simp only [Bool.and_eq_true, Bool.not_eq_true', List.isEmpty_eq_false_iff] at hh
    obtain ⟨⟨⟨⟨h1, h2⟩, h3⟩, h4⟩, h5⟩ := hh
    obtain ⟨n, nm, bs⟩ := p
    match bs, h4, h5 with
    | b₀ :: bs, _, h5 => exact ⟨n, np, nm, b₀, bs, pos, xs, rfl, h1, h2, hName h3, sndSs false sc Γ b _ h5, sndHs sc Γ r xs (Bool.and_eq_true_iff.mp h).2⟩
theorem sndSs (q : Bool) (sc : Scope) (Γ : Gam) : ∀ (st : List S) (x : List Stmt), chkSs N sc Γ st x = true → SimSs T q d call sc Γ st x
  | [], x, h => by
    have : x = [] := List.isEmpty_iff.mp h
    subst this; exact ss_nil
  | st :: ss, [], h => absurd h Bool.false_ne_true
  | st :: ss, x :: xs, h => ss_cons (sndS q sc Γ st x (Bool.and_eq_true_iff.mp h).1) (sndSs q sc Γ ss xs (Bool.and_eq_true_iff.mp h).2)
end
end
end Mine
end
section
namespace Mine
open PySem PySem.W PySem.Calls PyProof.Rows

theorem call_ok {T : St} {N : Nm} (G : Gd T N) (Cd : Cod T N G) (Tb : Tbs T N G) (Cg : Cgs T N G) (Ex : T.P.rz.isEmpty = false → Exs T N G) : ∀ d q, CallOK T G.fn q d (callN T.P d q)
  | 0, _ => fun _ _ _ _ _ _ _ _ _ _ _ _ _ _ _ _ => .inl rfl
  | d + 1, q => fun f A L l φ η s vs ys Xh Xd Xu hfr hst XR' hv => by
    cases hF : T.P.fn f with
    | none => left; rw [callN, hF]
    | some F => exact sim_fn0 G Cd hF (fun b hb => sndSs G Tb Cg Ex (fun q => call_ok G Cd Tb Cg Ex d q) q _ _ F.body b hb) Xh Xd Xu hfr hst XR' hv

theorem Rel.start {T : St} : Rel T [] [] T.base where
  len := rfl
  base := fun _ _ e => e
  obj := fun n m p hm _ => by simp at hm
  fresh := fun b o => by obtain ⟨n, p, m, hp, _⟩ := o; simp at hp
  disj := fun n n' p p' m m' hp => by simp at hp
theorem own_nil {b : Addr} : ¬ own [] [] b := fun o => by obtain ⟨n, p, m, hp, _⟩ := o; simp at hp

theorem wells {P : Params} {h : Heap} : ∀ {vs : List Value} {xs : List Int}, WellAll P h vs (xs.map WData.int) → ∀ T, VRs T [] (own [] []) h (xs.map V.int) vs
  | _, [], w, T => by cases w; simp [VRs]
  | _, x :: xs, w, T => by
    rw [List.map_cons] at w
    cases w with
    | cons a b =>
      cases a
      rw [List.map_cons]
      simp only [VRs]
      exact ⟨_, _, rfl, by simp [VR], wells b T⟩

/-- the law's call -/
theorem law_good {T : St} {N : Nm} (G : Gd T N) (Cd : Cod T N G) (Tb : Tbs T N G) (Cg : Cgs T N G) (Ex : T.P.rz.isEmpty = false → Exs T N G) {s : Shared} (hs : s.heap = T.base) {P : Params} {f d : Nat} {l : Addr} {xs : List Int} (hd : d ≤ 20) (hw : Well P s.heap (.ref l) (.list (xs.map WData.int)))
    (hp : callN T.P (d + 1) true f [.lst (xs.map .int)] [] = .ok (.bool true) []) :
    codeAny T.M callerA (.call (.ref (G.fn f)) ⟨[.ref l], []⟩) (fun r s' => r = .ok (.ret (.bool true)) ∧ (∀ b o, s.heap.get? b = some o → s'.heap.get? b = some o) ∧ s'.os = s.os ∧ s'.gens = s.gens) s := by
  obtain ⟨F, hF⟩ : ∃ F, T.P.fn f = some F := by
    cases e : T.P.fn f with
    | none => rw [callN, e] at hp; cases hp
    | some F => exact ⟨F, rfl⟩
  have hv : VRs T [] (own [] []) s.heap [.lst (xs.map .int)] [.ref l] := by
    cases hw with
    | list g w =>
      simp only [VRs, VR]
      exact ⟨_, _, rfl, ⟨l, _, _, rfl, own_nil, g, wells w T⟩, rfl⟩
  have R : Rel T [] [] s.heap := hs ▸ Rel.start
  have h1 : callerA.depth + 4 * (d + 1) + 4 ≤ recursionLimit := by
    have : callerA.depth + 100 ≤ recursionLimit := by decide +kernel
    omega
  have h2 : callerA.units + 20 * (d + 1) + 20 < cLine := by
    have : callerA.units + 500 < cLine := by decide +kernel
    omega
  rcases sim_fn0 (A := callerA) (L := 0) (q := true) (d := d) G Cd hF (fun b hb => sndSs G Tb Cg Ex (fun q => call_ok G Cd Tb Cg Ex d q) true _ _ F.body b hb) (l := []) (fun _ => rfl) (by omega) (by omega) rfl (fun _ he => by cases he) R hv with h | h
  · rw [hp] at h; cases h
  · refine codeAny_mono h fun r s' hr => ?_
    cases r with
    | ok fl =>
      cases fl with
      | ret x =>
        obtain ⟨v, η', φ', e, p, q⟩ := hr
        rw [hp] at e; cases e
        simp only [QV, VR] at q; subst q
        exact ⟨rfl, fun b o e => p.rel.base b o (hs ▸ e), p.os, p.gens⟩
      | _ => exact hr.elim
    | error e =>
      obtain ⟨c, η', φ', e, _⟩ := hr
      rw [hp] at e; cases e
end Mine
end
section
namespace Mine
section
open PySem PySem.W PySem.Calls PyProof.Rows

noncomputable def atIn (K : Frag) (n : Str) : Addr := match nsIn K mainGlobals n with | some (some (.ref a)) => a | _ => 0
noncomputable def clsA (K : Frag) (N : Nm) (c : Nat) : Addr := atIn K ((N.clm[c]?).getD ("" : Str))
noncomputable def methA (K : Frag) (C : Addr) (n : Str) : Addr := match findIn K (.ref C) n with | some (some (.ref a)) => a | _ => 0
/-- where a function lies -/
noncomputable def fnA (K : Frag) (N : Nm) (f : Nat) : Addr := match (N.fnm[f]?).filter fun n => !(n == ("" : Str)) with
  | some n => atIn K n
  | none => (match N.cfm.lookup f with | some q => methA K (clsA K N q.1) q.2 | none => 0)
noncomputable def fnO (K : Frag) (N : Nm) (f : Nat) : Option FuncData := match K.lookup (fnA K N f) with
  | some ⟨_, _, .func fd, _⟩ => some fd
  | _ => none
noncomputable def okFn (K : Frag) (N : Nm) (g : Gam) (F : Fn) (f : Nat) : Bool := match fnO K N f with
  | some fd => chkF N F g fd && codeIn K fd.code fd.qualname
  | none => false
noncomputable def okFns (K : Frag) (N : Nm) (gams : List (Nat × Gam)) (l : List (Nat × Fn)) : Bool := l.all fun p => okFn K N ((gams.lookup p.1).getD []) p.2 p.1
noncomputable def okName (K : Frag) (n : Str) : Bool := n == ("" : Str) || (match nsIn K mainGlobals n with | some (some (.ref a)) => keepIn K (.ref a) | _ => false)
noncomputable def valOk : V → Value → Bool
  | .none, .none => true
  | .bool a, .bool b => a == b
  | .int a, .int b _ => a == b
  | .str a, .str b _ => b.cps.toList == a
  | _, _ => false
noncomputable def okVal (K : Frag) (n : Str) (v : V) : Bool := match nsIn K mainGlobals n with | some (some val) => valOk v val | _ => false
noncomputable def okVals (K : Frag) : List Str → List V → Bool
  | n :: ns, v :: vs => okVal K n v && okVals K ns vs
  | _, [] => true
  | [], _ => false
noncomputable def okBoot (K : Frag) (n : Str) : Bool := match nsIn K mainGlobals n with | some none => true | _ => false

section
variable {T : St} {N : Nm} {K : Frag}
theorem valOk_VR {φ : Phi} {M : Addr → Prop} {h : Heap} {v : V} {val : Value} (e : valOk v val = true) : VR T φ M h v val := by
  cases v with
  | none => cases val <;> first | rfl | exact absurd e Bool.false_ne_true
  | bool a =>
    cases val with
    | bool b => exact congrArg Value.bool (beq_iff_eq.mp e).symm
    | _ => exact absurd e Bool.false_ne_true
  | int a =>
    cases val with
    | int b t => exact ⟨t, by rw [beq_iff_eq.mp (show (a == b) = true from e)]⟩
    | _ => exact absurd e Bool.false_ne_true
  | str a =>
    cases val with
    | str b t => exact ⟨t, by cases b; rw [← beq_iff_eq.mp (show (_ == a) = true from e)]⟩
    | _ => exact absurd e Bool.false_ne_true
  | _ => exact absurd e Bool.false_ne_true
theorem okVals_get : ∀ {ns : List Str} {vs : List V}, okVals K ns vs = true → ∀ (g : Nat) n v, ns[g]? = some n → vs[g]? = some v → okVal K n v = true
  | n :: ns, v :: vs, h, 0, _, _, h1, h2 => by
    rw [okVals, Bool.and_eq_true] at h
    simp at h1 h2; subst h1; subst h2; exact h.1
  | n :: ns, v :: vs, h, g + 1, _, _, h1, h2 => by
    rw [okVals, Bool.and_eq_true] at h
    exact okVals_get h.2 g _ _ (by simpa using h1) (by simpa using h2)
  | _, [], _, _, _, _, _, h2 => by simp at h2
  | [], _ :: _, _, _, _, _, h1, _ => by simp at h1

noncomputable def gdOf (T : St) (N : Nm) (K : Frag) (kin : K.In T.base) (bns : ∃ mb, T.base.Ns builtinsNs mb ∧ ∀ x : Str, x ≠ "__name__" → mb x = bootBuiltins x) (h1 : N.fnm.all (okName K) = true) (h2 : bnames.all (okBoot K) = true) (h3 : okVals K N.glm N.glv = true) : Gd T N where
  K := K
  kin := kin
  fn := fnA K N
  bns := bns
  nob := fun x hx => by
    have := List.all_eq_true.mp h2 x hx
    unfold okBoot at this
    split at this
    · assumption
    · cases this
  fns := fun f n hf hn => by
    have := List.all_eq_true.mp h1 n (List.mem_of_getElem? hf)
    unfold okName at this
    rw [beq_eq_false_iff_ne.mpr hn, Bool.false_or] at this
    have e1 : fnA K N f = atIn K n := by unfold fnA; rw [hf, Option.filter_some, beq_eq_false_iff_ne.mpr hn]; rfl
    rw [e1, atIn]
    split at this
    · rename_i a e
      rw [e]; exact ⟨rfl, this⟩
    · cases this
  vals := fun g n v hg hv => by
    have := okVals_get h3 g n v hg hv
    unfold okVal at this
    split at this
    · rename_i val e
      exact ⟨val, e, fun φ M h => valOk_VR this⟩
    · cases this

theorem lookup_mem {α β : Type} [BEq α] [LawfulBEq α] {a : α} {b : β} : ∀ {l : List (α × β)}, l.lookup a = some b → (a, b) ∈ l
  | (k, v) :: l, h => by
    rw [List.lookup_cons] at h
    split at h
    · rename_i e
      cases h
      rw [beq_iff_eq.mp e]
      exact List.mem_cons_self
    · exact List.mem_cons_of_mem _ (lookup_mem h)
noncomputable def codOf (G : Gd T N) (hfn : G.fn = fnA G.K N) (gams : List (Nat × Gam)) (h : okFns G.K N gams T.P.fns = true) : Cod T N G where
  gam := fun f => (gams.lookup f).getD []
  fd := fun f => (fnO G.K N f).getD default
  fns := fun f F hF => by
    have := List.all_eq_true.mp h _ (lookup_mem hF)
    dsimp only at this
    unfold okFn at this
    split at this
    · rename_i fd e
      rw [Bool.and_eq_true] at this
      rw [e]
      refine ⟨?_, this⟩
      rw [hfn]
      unfold fnO at e
      split at e
      · rename_i o hl
        cases e
        exact ⟨_, hl, rfl⟩
      · cases e
    · cases this

/-- the globals' name means what the fragment says -/
theorem ns_agrees {h : Heap} {a : Addr} {m : Str → Option Value} {n : Str} {r : Option Value} (X : K.In h) (hn : h.Ns a m) (e : nsIn K a n = some r) : m n = r := by
  obtain ⟨o, es, ep, ho, hd, hk, hm⟩ := hn
  unfold nsIn at e
  split at e
  · rename_i c dd es' ep' sl hl
    have := X _ _ hl
    rw [ho] at this; cases this
    cases hd
    rw [← hm]
    unfold nsFind findBy
    split at e
    · rename_i en he
      cases e
      obtain ⟨l⟩ := es
      simp only [List.find?_toArray] at *
      rw [he]; rfl
    · rename_i he
      split at e
      · cases e
      · cases e
        obtain ⟨l⟩ := es
        simp only [List.find?_toArray] at *
        rw [he]; rfl
  · cases e
end
end
end Mine
end
section
namespace Mine
section
open PySem PySem.W PySem.Calls PyProof.Rows

noncomputable def keepO (o : Obj) : Bool := !o.isFreed && (match o.data with | .seq .. => false | _ => true)
/-- the heap as a fragment, but for tuples and lists -/
noncomputable def fragAll (h : Heap) : Frag := (h.objs.toList.zipIdx.filter fun q => keepO q.1).map fun q => (q.2, q.1)
theorem fragAll_in (h : Heap) : (fragAll h).In h := fun a o e => by
  obtain ⟨q, hq, e⟩ := List.mem_map.mp (lookup_mem e)
  obtain ⟨hm, hk⟩ := List.mem_filter.mp hq
  cases e
  have h2 := Array.getElem?_toList.symm.trans (List.mk_mem_zipIdx_iff_getElem?.mp hm)
  exact Heap.get?_some_iff.mpr ⟨h2, (Bool.not_eq_true' _).mp (Bool.and_eq_true_iff.mp hk).1⟩

noncomputable def excA (K : Frag) (N : Nm) (c : Nat) : Addr := atIn K ((N.exm[c]?).getD "")
noncomputable def isText : Value → Bool | .str _ _ => true | _ => false
noncomputable def noInit (K : Frag) (a : Addr) : Bool := match K.lookup a with
  | some o => (match o.data with
    | .dict es _ => es.toList.all (fun e => isText e.key) && (es.toList.find? (fun e => e.key.isStr "__init__")).isNone
    | _ => false)
  | none => false
noncomputable def clsOk (K : Frag) (a : Addr) : Bool := match K.lookup a with
  | some o => (match o.data with | .cls cd => noInit K cd.ns | _ => false)
  | none => false
noncomputable def onA (v : Value) (b : Bool) (f : Addr → Bool) : Bool := match v with | .ref a => f a && b | _ => false
theorem onA_of {v : Value} {b : Bool} {f : Addr → Bool} (e : onA v b f = true) : ∃ a, v = .ref a ∧ f a = true ∧ b = true := by
  unfold onA at e
  split at e
  · rename_i a
    rw [Bool.and_eq_true] at e
    exact ⟨a, rfl, e⟩
  · cases e
noncomputable def tailOk (K : Frag) : List Value → Bool
  | [] => false
  | v :: r => (v :: r == veB) || onA v (tailOk K r) (clsOk K)
noncomputable def slotsOk : List (Option Value) → Bool
  | [_, _, _, _, some v, _] => v == .builtin "ValueError.__new__"
  | _ => false
noncomputable def mroOk (K : Frag) (C : Addr) : List Value → Bool
  | .ref C' :: bm => C' == C && tailOk K bm
  | _ => false
noncomputable def excOk (K : Frag) (C : Addr) : Bool := match K.lookup C with
  | some o => (match o.data with
    | .cls cd => o.cls == .type "type" && !cd.hasDel && mroOk K C cd.mro && noInit K cd.ns && slotsOk o.slots.toList
    | _ => false)
  | none => false
noncomputable def bmOf (K : Frag) (C : Addr) : List Value := match clsIn K C with | some cd => cd.mro.tail | none => []

variable {K : Frag} {h : Heap}
theorem noInit_ns {a : Addr} (X : K.In h) (e : noInit K a = true) : ∃ m, h.Ns a m ∧ m "__init__" = none := by
  unfold noInit at e
  split at e
  · rename_i o ho
    split at e
    · rename_i es k hd
      rw [Bool.and_eq_true] at e
      refine ⟨_, ⟨o, es, k, X _ _ ho, hd, fun x hx => ?_, fun _ => rfl⟩, ?_⟩
      · have := List.all_eq_true.mp e.1 x (Array.mem_def.mp hx)
        unfold isText at this
        split at this
        · rename_i n t hk; exact ⟨n, t, hk⟩
        · cases this
      · unfold nsFind findBy
        obtain ⟨l⟩ := es
        simp only [List.find?_toArray] at *
        rw [Option.isNone_iff_eq_none.mp e.2]; rfl
    · cases e
  · cases e
theorem tail_of (X : K.In h) : ∀ {l : List Value}, tailOk K l = true → OwnTail h veB l
  | [], e => by cases e
  | v :: r, e => by
    rw [tailOk, Bool.or_eq_true] at e
    rcases e with e | e
    · rw [beq_iff_eq.mp e]; exact .base
    · obtain ⟨a, rfl, e1, e2⟩ := onA_of e
      unfold clsOk at e1
      split at e1
      · rename_i o ho
        split at e1
        · rename_i cd hd
          obtain ⟨m, h1, h2⟩ := noInit_ns X e1
          obtain ⟨c0, dd, d, sl⟩ := o
          cases hd
          exact .own (X _ _ ho) h1 h2 (tail_of X e2)
        · cases e1
      · cases e1
theorem exc_of {C : Addr} (X : K.In h) (e : excOk K C = true) : ExcAt h C (bmOf K C) := by
  unfold excOk at e
  split at e
  · rename_i o ho
    split at e
    · rename_i cd hd
      obtain ⟨c0, dd, d, sl⟩ := o
      cases hd
      simp only [Bool.and_eq_true, Bool.not_eq_true', beq_iff_eq] at e
      obtain ⟨⟨⟨⟨e1, e2⟩, e3⟩, e4⟩, e5⟩ := e
      cases e1
      have hb : bmOf K C = cd.mro.tail := by unfold bmOf clsIn; rw [ho]
      rw [hb]
      obtain ⟨nm, bs, mro, ns, q, hdct, sn, sub, ab, col, del⟩ := cd
      dsimp only at e2 e3 e4 hb ⊢
      subst e2
      unfold mroOk at e3
      split at e3
      · rename_i C' bm
        rw [Bool.and_eq_true, beq_iff_eq] at e3
        obtain ⟨rfl, e3⟩ := e3
        obtain ⟨m, h1, h2⟩ := noInit_ns X e4
        obtain ⟨sl⟩ := sl
        have hs : ∃ k0 k1 k2 k3 k5, sl = [k0, k1, k2, k3, some (.builtin "ValueError.__new__"), k5] := by
          replace e5 : slotsOk sl = true := e5
          cases sl with
          | nil => cases e5
          | cons k0 sl => cases sl with
            | nil => cases e5
            | cons k1 sl => cases sl with
              | nil => cases e5
              | cons k2 sl => cases sl with
                | nil => cases e5
                | cons k3 sl => cases sl with
                  | nil => cases e5
                  | cons k4 sl => cases sl with
                    | nil => cases k4 <;> cases e5
                    | cons k5 sl => cases sl with
                      | nil => cases k4 with
                        | none => cases e5
                        | some v => rw [eq_of_beq (show (v == .builtin "ValueError.__new__") = true from e5)]; exact ⟨k0, k1, k2, k3, k5, rfl⟩
                      | cons _ _ => cases k4 <;> cases e5
        obtain ⟨k0, k1, k2, k3, k5, rfl⟩ := hs
        exact ⟨ns, nm, q, bs, hdct, sn, sub, ab, col, dd, k0, k1, k2, k3, k5, m, X _ _ ho, h1, h2, tail_of X e3⟩
      · cases e3
    · cases e
  · cases e

noncomputable def okExc (N : Nm) (P : Prog) (K : Frag) (c : Nat) (n : Str) : Bool := n == ("" : Str) || (nsIn K mainGlobals n == some (some (.ref (atIn K n))) && excOk K (atIn K n) && askIn K (atIn K n)
  && N.exm.zipIdx.all fun q => q.1 == ("" : Str) || mroIn K (atIn K n) (.ref (atIn K q.1)) == some (((P.excs[c]?).getD []).contains q.2))
noncomputable def okExs (N : Nm) (P : Prog) (K : Frag) : Bool := N.exm.zipIdx.all (fun q => okExc N P K q.2 q.1) && P.rz.all (fun c => match N.exm[c]? with | some n => !(n == ("" : Str)) | none => false)

theorem gs_any (K : Frag) : specialIn K (.builtin "object.__class__") "__get__" = some (some (.builtin "getset_descriptor.__get__")) := by kernel_rfl
theorem tk_any (K : Frag) : takesIn K (.builtin "object.__class__") = some true := by kernel_rfl
theorem zip_mem {α : Type} {l : List α} {c : Nat} {n : α} (h : l[c]? = some n) : (n, c) ∈ l.zipIdx := List.mk_mem_zipIdx_iff_getElem?.mpr h
noncomputable def exsOf {T : St} {N : Nm} (G : Gd T N) (hx : T.exc = excA G.K N) (e : okExs N T.P G.K = true) : Exs T N G := by
  unfold okExs at e
  rw [Bool.and_eq_true] at e
  have key : ∀ (c : Nat) (n : Str), N.exm[c]? = some n → n ≠ ("" : Str) → T.exc c = atIn G.K n ∧ nsIn G.K mainGlobals n = some (some (.ref (atIn G.K n))) ∧ excOk G.K (atIn G.K n) = true ∧ askIn G.K (atIn G.K n) = true ∧ ∀ c' n', N.exm[c']? = some n' → n' ≠ ("" : Str) → mroIn G.K (atIn G.K n) (.ref (atIn G.K n')) = some (((T.P.excs[c]?).getD []).contains c') := fun c n h1 h2 => by
    have := List.all_eq_true.mp e.1 _ (zip_mem h1)
    dsimp only at this
    unfold okExc at this
    rw [beq_eq_false_iff_ne.mpr h2, Bool.false_or] at this
    simp only [Bool.and_eq_true, beq_iff_eq] at this
    obtain ⟨⟨⟨e1, e2⟩, e3⟩, e4⟩ := this
    refine ⟨by rw [hx, excA, h1]; rfl, e1, e2, e3, fun c' n' h3 h4 => ?_⟩
    have := List.all_eq_true.mp e4 _ (zip_mem h3)
    dsimp only at this
    rw [beq_eq_false_iff_ne.mpr h4, Bool.false_or] at this
    exact beq_iff_eq.mp this
  exact {
    bm := fun c => bmOf G.K (T.exc c)
    at' := fun c n h1 h2 => by
      obtain ⟨k1, k2, k3, _⟩ := key c n h1 h2
      rw [k1]; exact ⟨k2, exc_of G.kin k3⟩
    ask := fun c n h1 h2 => by
      obtain ⟨k1, _, _, k4, _⟩ := key c n h1 h2
      rw [k1]; exact asks_of k4
    sub := fun c c' n n' h1 h2 h3 h4 => by
      obtain ⟨k1, _, _, _, k5⟩ := key c n h1 h3
      obtain ⟨k1', _⟩ := key c' n' h2 h4
      rw [k1, k1']; exact k5 c' n' h2 h4
    named := fun c hc => by
      have := List.all_eq_true.mp e.2 c (by simpa using hc)
      split at this
      · rename_i n hn
        exact ⟨n, hn, fun q => by rw [q] at this; cases this⟩
      · cases this
    gs := gs_any _
    tk := tk_any _ }

-- tables
noncomputable def tabEs (K : Frag) (n : Str) : List DictEntry := match K.lookup (atIn K n) with
  | some o => (match o.data with | .dict es _ => es.toList | _ => [])
  | none => []
noncomputable def isTx (l : List Nat) : Value → Bool | .str s _ => s.cps.toList == l | _ => false
noncomputable def rowsOk : List (List Nat × List Nat) → List DictEntry → Bool
  | [], [] => true
  | p :: r, e :: es => isTx p.1 e.key && isTx p.2 e.val && rowsOk r es
  | _, _ => false
noncomputable def tabOk (K : Frag) (n : Str) (tb : List (List Nat × List Nat)) : Bool := nsIn K mainGlobals n == some (some (.ref (atIn K n))) && !(atIn K n == sysModules) && (match K.lookup (atIn K n) with
  | some o => (match o.data with | .dict es _ => o.cls == .type "dict" && o.dict.isNone && o.slots.toList.isEmpty && rowsOk tb es.toList | _ => false)
  | none => false)
noncomputable def tabsOk (K : Frag) : List Str → List (List (List Nat × List Nat)) → Bool
  | n :: ns, tb :: ts => tabOk K n tb && tabsOk K ns ts
  | _, [] => true
  | [], _ => false
noncomputable def hashes (p : Params) (tb : List (List Nat × List Nat)) : List Int := tb.map fun x => PyData.keyHash p ⟨x.1.toArray⟩
theorem isTx_eq {l : List Nat} {v : Value} (e : isTx l v = true) : ∃ t, v = .str ⟨l.toArray⟩ t := by
  unfold isTx at e
  split at e
  · rename_i s t
    obtain ⟨⟨s⟩⟩ := s
    exact ⟨t, by rw [← beq_iff_eq.mp e]⟩
  · cases e
theorem rows_of {p : Params} : ∀ {tb : List (List Nat × List Nat)} {es : List DictEntry}, rowsOk tb es = true → es.map (·.hash) = hashes p tb → KeysLit p es ∧ TabR tb es
  | [], [], _, _ => ⟨trivial, rfl⟩
  | x :: tb, e :: es, h, hh => by
    rw [rowsOk, Bool.and_eq_true, Bool.and_eq_true] at h
    obtain ⟨⟨h1, h2⟩, h3⟩ := h
    obtain ⟨t, h1⟩ := isTx_eq h1
    obtain ⟨u, h2⟩ := isTx_eq h2
    obtain ⟨e1, e2⟩ := List.cons.inj hh
    obtain ⟨r1, r2⟩ := rows_of h3 e2
    exact ⟨⟨⟨_, t, h1, e1⟩, r1⟩, e, es, t, u, rfl, h1, h2, r2⟩
  | [], _ :: _, h, _ => by cases h
  | _ :: _, [], h, _ => by cases h
theorem tab_of {p : Params} {n : Str} {tb : List (List Nat × List Nat)} (e : tabOk K n tb = true) (hh : (tabEs K n).map (·.hash) = hashes p tb) : ∃ a es k, nsIn K mainGlobals n = some (some (.ref a)) ∧ K.lookup a = some ⟨.type "dict", none, .dict es k, #[]⟩ ∧ KeysLit p es.toList ∧ TabR tb es.toList ∧ (a == sysModules) = false := by
  unfold tabOk at e
  rw [Bool.and_eq_true, Bool.and_eq_true, beq_iff_eq, Bool.not_eq_true'] at e
  obtain ⟨⟨e1, e2⟩, e3⟩ := e
  unfold tabEs at hh
  split at e3
  · rename_i o ho
    split at e3
    · rename_i es k hd
      obtain ⟨c0, dd, d, sl⟩ := o
      cases hd
      rw [ho] at hh
      simp only [Bool.and_eq_true, beq_iff_eq, Option.isNone_iff_eq_none, List.isEmpty_iff] at e3
      obtain ⟨⟨⟨q1, q2⟩, q3⟩, q4⟩ := e3
      cases q1; cases q2
      obtain ⟨sl⟩ := sl
      have q3 : sl = [] := q3
      subst q3
      obtain ⟨r1, r2⟩ := rows_of q4 hh
      exact ⟨_, es, k, e1, ho, r1, r2, e2⟩
    · cases e3
  · cases e3
theorem tabs_get : ∀ {ns : List Str} {ts : List (List (List Nat × List Nat))}, tabsOk K ns ts = true → ∀ (t : Nat) n tb, ns[t]? = some n → ts[t]? = some tb → tabOk K n tb = true
  | n :: ns, tb :: ts, h, 0, _, _, h1, h2 => by
    rw [tabsOk, Bool.and_eq_true] at h
    cases h1; cases h2; exact h.1
  | n :: ns, tb :: ts, h, g + 1, _, _, h1, h2 => by
    rw [tabsOk, Bool.and_eq_true] at h
    exact tabs_get h.2 g _ _ h1 h2
  | _, [], _, _, _, _, _, h2 => by cases h2
  | [], _ :: _, _, _, _, _, h1, _ => by cases h1
noncomputable def hashObs (K : Frag) (ns : List Str) : List (List Int) := ns.map fun n => (tabEs K n).map (·.hash)
theorem hash_get {p : Params} : ∀ {ns : List Str} {ts : List (List (List Nat × List Nat))}, hashObs K ns = ts.map (hashes p) → ∀ (t : Nat) n tb, ns[t]? = some n → ts[t]? = some tb → (tabEs K n).map (·.hash) = hashes p tb := by
  intro ns ts e t n tb h1 h2
  have := congrArg (fun l => l[t]?) e
  simp only [hashObs, List.getElem?_map, h1, h2, Option.map_some] at this
  exact Option.some.inj this

-- the classes
noncomputable def attrsA (N : Nm) (P : Prog) (c : Nat) : List Str := ((P.clss[c]?).map fun cl => cl.attrs.map fun k => (N.atm[k]?).getD ("" : Str)).getD []
noncomputable def okMeth (N : Nm) (P : Prog) (K : Frag) (c : Nat) (q : Nat × Nat) : Bool := match N.mtm.lookup q.1 with
  | some mn => findIn K (.ref (clsA K N c)) mn == some (some (.ref (fnA K N q.2))) && typeIn K (.ref (fnA K N q.2)) == some (.type "function") && keepIn K (.ref (fnA K N q.2)) && !(attrsA N P c).contains mn
  | none => true
noncomputable def okCls (N : Nm) (P : Prog) (K : Frag) (c : Nat) (cl : Cls) : Bool :=
  (N.clm[c]? == some ("" : Str) && cl.attrs.isEmpty && cl.meths.isEmpty) ||
  (nsIn K mainGlobals ((N.clm[c]?).getD ("" : Str)) == some (some (.ref (clsA K N c))) && keepIn K (.ref (clsA K N c)) && makesIn K (clsA K N c) && findIn K (.ref (clsA K N c)) "__init__" == some (some (.ref (fnA K N cl.init))) && typeIn K (.ref (fnA K N cl.init)) == some (.type "function")
    && findIn K (.ref (clsA K N c)) "__getattribute__" == some (some (.builtin "object.__getattribute__")) && findIn K (.ref (clsA K N c)) "__getattr__" == some none && findIn K (.ref (clsA K N c)) "__setattr__" == some (some (.builtin "object.__setattr__"))
    && plainOver K (clsA K N c) && (clsIn K (clsA K N c)).any (·.hasDict) && decide ((attrsA N P c).length ≤ 1000) && (attrsA N P c).all (fun x => findIn K (.ref (clsA K N c)) x == some none) && decide (attrsA N P c).Nodup && cl.meths.all (okMeth N P K c))
noncomputable def okClss (N : Nm) (P : Prog) (K : Frag) : Bool := decide (N.clm.length ≤ P.clss.length) && P.clss.zipIdx.all fun q => okCls N P K q.2 q.1
theorem cgsOf {T : St} {N : Nm} (G : Gd T N) (hfn : G.fn = fnA G.K N) (hcl : T.cls = clsA G.K N) (hat : T.attrs = attrsA N T.P) (e : okClss N T.P G.K = true) : Cgs T N G := by
  unfold okClss at e
  rw [Bool.and_eq_true, decide_eq_true_iff] at e
  refine ⟨fun c n h1 _ => ?_, fun c cl hc => ?_⟩
  · have := (List.getElem?_eq_some_iff.mp h1).1
    exact ⟨_, List.getElem?_eq_getElem (Nat.lt_of_lt_of_le this e.1)⟩
  · have := List.all_eq_true.mp e.2 _ (zip_mem hc)
    dsimp only at this
    unfold okCls at this
    rw [Bool.or_eq_true] at this
    rcases this with h | h
    · simp only [Bool.and_eq_true, beq_iff_eq, List.isEmpty_iff] at h
      exact .inl ⟨h.1.1, h.1.2, h.2⟩
    · right
      simp only [Bool.and_eq_true, beq_iff_eq, decide_eq_true_iff] at h
      obtain ⟨⟨⟨⟨⟨⟨⟨⟨⟨⟨⟨⟨⟨h1, h2⟩, h3⟩, h4⟩, h5⟩, h6⟩, h7⟩, h8⟩, h9⟩, h10⟩, h11⟩, h12⟩, h13⟩, h14⟩ := h
      have ha : attrsA N T.P c = cl.attrs.map fun k => (N.atm[k]?).getD ("" : Str) := by unfold attrsA; rw [hc]; rfl
      refine ⟨fun n hn => ?_, ?_, ?_, ?_, ?_, ?_, ?_, ?_, ?_, ?_, fun x hx => ?_, ?_, fun m f mn hm hn => ?_⟩
      · rw [hcl]; rw [hn] at h1; exact ⟨h1, h2⟩
      · rw [hcl]; exact h3
      · rw [hcl, hfn]; exact ⟨h4, h5⟩
      · rw [hcl]; exact h6
      · rw [hcl]; exact h7
      · rw [hcl]; exact h8
      · rw [hcl]; exact h9
      · rw [hcl]; exact h10
      · rw [hat]; exact ha
      · rw [hat]; exact h11
      · rw [hat] at hx; rw [hcl]; exact beq_iff_eq.mp (List.all_eq_true.mp h12 x hx)
      · rw [hat]; exact h13
      · have := List.all_eq_true.mp h14 _ (lookup_mem hm)
        unfold okMeth at this
        rw [hn] at this
        simp only [Bool.and_eq_true, beq_iff_eq, Bool.not_eq_true', List.contains_eq_mem, decide_eq_false_iff_not] at this
        rw [hcl, hfn, hat]
        exact ⟨this.1.1.1, this.1.1.2, this.1.2, this.2⟩

-- all checks
noncomputable def chkAll (N : Nm) (P : Prog) (gams : List (Nat × Gam)) (K : Frag) : Bool :=
  N.fnm.all (okName K) && bnames.all (okBoot K) && okVals K N.glm N.glv && okFns K N gams P.fns && (P.rz.isEmpty || okExs N P K) && tabsOk K N.tbm P.tabs && okClss N P K
noncomputable def hookOf (N : Nm) (P : Prog) (gams : List (Nat × Gam)) : Hook where
  α := Bool × List (List Int)
  obs := fun s => (chkAll N P gams (fragAll s.heap), hashObs (fragAll s.heap) N.tbm)
  val := fun w => (true, P.tabs.map (hashes w.params))
  says := fun w h => ∃ K : Frag, K.In h ∧ chkAll N P gams K = true ∧ hashObs K N.tbm = P.tabs.map (hashes w.params)
  of := fun w s e => ⟨_, fragAll_in _, congrArg Prod.fst e, congrArg Prod.snd e⟩
  keeps := fun w h h' ⟨K, x, r⟩ k => ⟨K, x.keeps k, r⟩

/-- the law's call, from the checks -/
theorem good_of {N : Nm} {P : Prog} {gams : List (Nat × Gam)} {prog : Program} {w : World} {s : Shared} {mg mb : Str → Option Value} {fa l : Addr} {f d : Nat} {xs : List Int} (Y : (hookOf N P gams).says w s.heap) (hf : N.fnm[f]? = some "law") (nl : s.heap.NoLimit)
    (hg : s.heap.Ns mainGlobals mg) (hmg : mg "law" = some (.ref fa)) (hb : s.heap.Ns builtinsNs mb) (hmb : ∀ x : Str, x ≠ "__name__" → mb x = bootBuiltins x) (hd : d ≤ 20) (hw : Well w.params s.heap (.ref l) (.list (xs.map WData.int)))
    (hp : callN P (d + 1) true f [.lst (xs.map .int)] [] = .ok (.bool true) []) :
    codeAny (model prog w) callerA (.call (.ref fa) ⟨[.ref l], []⟩) (fun r s' => r = .ok (.ret (.bool true)) ∧ (∀ b o, s.heap.get? b = some o → s'.heap.get? b = some o) ∧ s'.os = s.os ∧ s'.gens = s.gens) s := by
  obtain ⟨K, kin, hc, hh⟩ := Y
  unfold chkAll at hc
  simp only [Bool.and_eq_true, Bool.or_eq_true] at hc
  obtain ⟨⟨⟨⟨⟨⟨c1, c2⟩, c3⟩, c4⟩, c5⟩, c6⟩, c7⟩ := hc
  let T : St := { prog := prog, w := w, P := P, base := s.heap, nolim := nl, cls := clsA K N, attrs := attrsA N P, exc := excA K N }
  let G : Gd T N := gdOf T N K kin ⟨mb, hb, hmb⟩ c1 c2 c3
  have hfn : fa = G.fn f := by
    have h1 := (G.fns f "law" hf (by decide)).1
    have h2 := ns_agrees kin hg h1
    rw [hmg] at h2; cases h2; rfl
  subst hfn
  exact law_good (T := T) G (codOf G rfl gams c4) ⟨fun t n tb hn ht => tab_of (tabs_get c6 t n tb hn ht) (hash_get hh t n tb hn ht)⟩ (cgsOf G rfl rfl rfl c7) (fun e => exsOf G rfl (c5.resolve_left fun q => by rw [show P.rz.isEmpty = false from e] at q; cases q)) rfl hd hw hp
end
end Mine
end
section
set_option genSizeOf false
namespace Mine.Law
noncomputable section
/-- _law_cell_at(_law_script, _law_k): 0 _law_script, 1 _law_k -/
/- no. 2; laws 02 03 04 05 06 07 08 09 10 13 14 -/
noncomputable def fn_cell_at : Fn := { npar := 2, nloc := 2, pure := true, body := [.ite (.t (.cmp .lt (.var 1) (.bi .len [(.var 0)]))) [.ret (.sub (.var 0) (.var 1))] [],
      .ret (.const (.int 0))] }
/-- _law_whole(_law_found): 0 _law_found -/
/- no. 3; laws 02 03 04 06 07 08 09 10 13 14 -/
noncomputable def fn_whole : Fn := { npar := 1, nloc := 1, pure := true, body := [.ret (.and [(.isinst (.var 0) .int), (.not (.isinst (.var 0) .bool))])] }
/-- _law_mixed(_law_cell): 0 _law_cell -/
/- no. 4; laws 02 03 04 05 06 07 08 09 10 13 14 -/
noncomputable def fn_mixed : Fn := { npar := 1, nloc := 1, pure := true, body := [.ret (.bin .mod (.bin .mul (.var 0) (.const (.int 48271))) (.const (.int 2147483647)))] }
/-- _law_alone(_law_e, _law_own): 0 _law_e, 1 _law_own, 2 _law_some -/
/- no. 10; laws 02 03 06 07 13 -/
noncomputable def fn_alone : Fn := { npar := 2, nloc := 3, pure := true, body := [.assign 2 (.list true [(.isinst (.var 0) (.cls 1)), (.isinst (.var 0) (.cls 2)), (.isinst (.var 0) (.cls 3)), (.isinst (.var 0) (.cls 4))]),
      .expr (.bm .append (.var 2) [(.isinst (.var 0) (.cls 5))]),
      .ret (.and [(.cmp .eq (.bm .count (.var 2) [(.const (.bool true))]) (.const (.int 1))), (.sub (.var 2) (.var 1)), (.isinst (.var 0) (.cls 0)), (.isinst (.var 0) .valueError)])] }
/-- is_whole(thing, least, most): 0 thing, 1 least, 2 most -/
/- no. 12; laws 03 04 05 06 07 08 09 10 -/
noncomputable def fn_is_whole : Fn := { npar := 3, nloc := 3, pure := true, body := [.ret (.and [(.isinst (.var 0) .int), (.not (.isinst (.var 0) .bool)), (.cmp2 .le .le (.var 1) (.var 0) (.var 2))])] }
/-- _law_size_by(_law_cell): 0 _law_cell -/
/- no. 16; laws 03 04 05 07 10 -/
noncomputable def fn_size_by : Fn := { npar := 1, nloc := 1, pure := true, body := [.ret (.sub (.list false [(.bin .add (.const (.int 1)) (.bin .mod (.bin .div (.var 0) (.const (.int 8))) (.const (.int 9)))), (.bin .add (.const (.int 1)) (.bin .mod (.bin .div (.var 0) (.const (.int 8))) (.const (.int 3)))), (.bin .add (.const (.int 10)) (.bin .mod (.bin .div (.var 0) (.const (.int 8))) (.const (.int 190)))), (.const (.int 200))]) (.sub (.list false [(.const (.int 0)), (.const (.int 0)), (.const (.int 0)), (.const (.int 0)), (.const (.int 1)), (.const (.int 2)), (.const (.int 2)), (.const (.int 3))]) (.bin .mod (.var 0) (.const (.int 8)))))] }
/-- need_boxes(boxes): 0 boxes, 1 number -/
/- no. 23; laws 04 05 06 07 08 09 10 -/
noncomputable def fn_need_boxes : Fn := { npar := 1, nloc := 2, pure := true, body := [.ite (.not (.t (.cmp2 .le .le (.const (.int 1)) (.bi .len [(.var 0)]) (.glob 2 (.int 200))))) [.raise 2 [110, 111, 32, 98, 111, 120, 101, 115, 44, 32, 111, 114, 32, 116, 111, 111, 32, 109, 97, 110, 121]] [],
      .for1 1 (.of (.var 0)) [.ite (.not (.t (.call 12 [(.var 1), (.const (.int 0)), (.glob 3 (.int 999999))]))) [.raise 2 [110, 111, 32, 110, 117, 109, 98, 101, 114, 32, 111, 102, 32, 97, 32, 98, 111, 120]] []]] }
/-- _law_wholes(_law_found, _law_due): 0 _law_found, 1 _law_due, 2 _law_k -/
/- no. 32; laws 04 07 08 09 10 -/
noncomputable def fn_wholes : Fn := { npar := 2, nloc := 3, pure := true, body := [.ite (.or [(.not (.t (.isinst (.var 0) .list))), (.t (.cmp .ne (.bi .len [(.var 0)]) (.bi .len [(.var 1)])))]) [.ret (.const (.bool false))] [],
      .for1 2 (.range1 (.bi .len [(.var 1)])) [.ite (.or [(.not (.t (.call 3 [(.sub (.var 0) (.var 2))]))), (.t (.cmp .ne (.sub (.var 0) (.var 2)) (.sub (.var 1) (.var 2))))]) [.ret (.const (.bool false))] []],
      .ret (.const (.bool true))] }
/-- Near.__init__(self, boxes, room, width, rule): 0 self, 1 boxes, 2 room, 3 width, 4 rule -/
/- no. 41; laws 06 07 08 09 10 -/
noncomputable def fn_Near_init : Fn := { npar := 5, nloc := 5, pure := false, body := [.expr (.call 23 [(.var 1)]),
      .ite (.or [(.not (.t (.call 12 [(.var 2), (.const (.int 1)), (.glob 5 (.int 200))]))), (.not (.t (.call 12 [(.var 3), (.const (.int 1)), (.glob 5 (.int 200))])))]) [.raise 3 [110, 111, 32, 115, 117, 99, 104, 32, 114, 111, 111, 109, 32, 111, 114, 32, 119, 105, 100, 116, 104]] [],
      .ite (.and [(.t (.cmp .ne (.var 4) (.const (.str [108, 101, 97, 115, 116])))), (.t (.cmp .ne (.var 4) (.const (.str [102, 105, 114, 115, 116]))))]) [.raise 3 [110, 111, 32, 115, 117, 99, 104, 32, 114, 117, 108, 101]] [],
      .setattr (.var 0) 2 (.toList true (.var 1)),
      .setattr (.var 0) 3 (.var 2),
      .setattr (.var 0) 4 (.var 3),
      .setattr (.var 0) 5 (.var 4),
      .setattr (.var 0) 6 (.const (.int 0)),
      .setattr (.var 0) 7 (.const (.int 0)),
      .setattr (.var 0) 8 (.const (.int 0)),
      .setattr (.var 0) 9 (.dict0 true),
      .setattr (.var 0) 10 (.list true []),
      .setattr (.var 0) 11 (.dict0 true)] }
/-- Near.write_back(self, line): 0 self, 1 line, 2 at, 3 number -/
/- no. 42; laws 06 07 08 09 10 -/
noncomputable def fn_Near_write_back : Fn := { npar := 2, nloc := 4, pure := false, body := [.ite (.t (.cmp .isIn (.var 1) (.attr (.var 0) 11))) [.for2 2 3 (.sub (.attr (.var 0) 9) (.var 1)) [.setsub (.attr (.var 0) 2) (.bin .add (.bin .mul (.var 1) (.attr (.var 0) 4)) (.var 2)) (.var 3)],
      .expr (.bm .pop (.attr (.var 0) 11) [(.var 1)]),
      .setattr (.var 0) 8 (.bin .add (.attr (.var 0) 8) (.const (.int 1)))] []] }
/-- Near.go_first(self): 0 self, 1 line -/
/- no. 43; laws 06 07 08 09 10 -/
noncomputable def fn_Near_go_first : Fn := { npar := 1, nloc := 2, pure := false, body := [.assign 1 (.bm .pop (.attr (.var 0) 10) [(.const (.int 0))]),
      .expr (.meth (.var 0) 3 [(.var 1)]),
      .expr (.bm .pop (.attr (.var 0) 9) [(.var 1)])] }
/-- Near.touch(self, box): 0 self, 1 box, 2 line -/
/- no. 44; laws 06 07 08 09 10 -/
noncomputable def fn_Near_touch : Fn := { npar := 2, nloc := 3, pure := false, body := [.ite (.not (.t (.call 12 [(.var 1), (.const (.int 0)), (.bin .sub (.bi .len [(.attr (.var 0) 2)]) (.const (.int 1)))]))) [.raise 4 [110, 111, 32, 115, 117, 99, 104, 32, 98, 111, 120]] [],
      .assign 2 (.bin .div (.var 1) (.attr (.var 0) 4)),
      .ite (.t (.cmp .isIn (.var 2) (.attr (.var 0) 9))) [.setattr (.var 0) 6 (.bin .add (.attr (.var 0) 6) (.const (.int 1))),
      .ite (.t (.cmp .eq (.attr (.var 0) 5) (.const (.str [108, 101, 97, 115, 116])))) [.expr (.bm .remove (.attr (.var 0) 10) [(.var 2)]),
      .expr (.bm .append (.attr (.var 0) 10) [(.var 2)])] [],
      .ret (.var 2)] [],
      .setattr (.var 0) 7 (.bin .add (.attr (.var 0) 7) (.const (.int 1))),
      .ite (.t (.cmp .eq (.bi .len [(.attr (.var 0) 10)]) (.attr (.var 0) 3))) [.expr (.meth (.var 0) 4 [])] [],
      .setsub (.attr (.var 0) 9) (.var 2) (.slice true (.attr (.var 0) 2) (.bin .mul (.var 2) (.attr (.var 0) 4)) (.bin .mul (.bin .add (.var 2) (.const (.int 1))) (.attr (.var 0) 4))),
      .expr (.bm .append (.attr (.var 0) 10) [(.var 2)]),
      .ret (.var 2)] }
/-- Near.look(self, box): 0 self, 1 box, 2 line -/
/- no. 45; laws 06 07 08 09 10 -/
noncomputable def fn_Near_look : Fn := { npar := 2, nloc := 3, pure := false, body := [.assign 2 (.meth (.var 0) 5 [(.var 1)]),
      .ret (.sub (.sub (.attr (.var 0) 9) (.var 2)) (.bin .sub (.var 1) (.bin .mul (.var 2) (.attr (.var 0) 4))))] }
/-- Near.put(self, box, number): 0 self, 1 box, 2 number, 3 line -/
/- no. 46; laws 06 07 08 09 10 -/
noncomputable def fn_Near_put : Fn := { npar := 3, nloc := 4, pure := false, body := [.assign 3 (.meth (.var 0) 5 [(.var 1)]),
      .setsub (.sub (.attr (.var 0) 9) (.var 3)) (.bin .sub (.var 1) (.bin .mul (.var 3) (.attr (.var 0) 4))) (.var 2),
      .setsub (.attr (.var 0) 11) (.var 3) (.const (.bool true))] }
/-- Near.held(self): 0 self -/
/- no. 57; laws 07 08 -/
noncomputable def fn_Near_held : Fn := { npar := 1, nloc := 1, pure := true, body := [.ret (.toList false (.attr (.var 0) 10))] }
/-- Near.heldM(self): 0 self -/
/- no. 58; laws 07 -/
noncomputable def fn_Near_heldM : Fn := { npar := 1, nloc := 1, pure := false, body := [.ret (.toList true (.attr (.var 0) 10))] }
/-- _law_near_behind(_law_near, _law_line, _law_room, _law_rule): 0 _law_near, 1 _law_line, 2 _law_room, 3 _law_rule, 4 *_law_one -/
/- no. 59; laws 07 -/
noncomputable def fn_near_behind : Fn := { npar := 4, nloc := 5, pure := true, body := [.ite (.t (.cmp .isIn (.var 1) (.var 0))) [.ite (.t (.cmp .eq (.var 3) (.const (.str [102, 105, 114, 115, 116])))) [.ret (.var 0)] [],
      .ret (.bin .add (.comp false 4 (.var 4) (.of (.var 0)) [(.t (.cmp .ne (.var 4) (.var 1)))]) (.list false [(.var 1)]))] [],
      .ite (.t (.cmp .eq (.bi .len [(.var 0)]) (.var 2))) [.assign 0 (.slice false (.var 0) (.const (.int 1)) (.const .none))] [],
      .ret (.bin .add (.var 0) (.list false [(.var 1)]))] }
/-- _law_touched(_law_holder, _law_box, _law_cell): 0 _law_holder, 1 _law_box, 2 _law_cell, 3 _law_e -/
/- no. 60; laws 07 -/
noncomputable def fn_touched : Fn := { npar := 3, nloc := 4, pure := false, body := [.try [.ite (.t (.cmp .eq (.bin .mod (.bin .div (.var 2) (.const (.int 3))) (.const (.int 2))) (.const (.int 0)))) [.expr (.meth (.var 0) 1 [(.var 1)])] [.expr (.meth (.var 0) 2 [(.var 1), (.bin .mod (.var 2) (.const (.int 1000)))])]] [(4, some 3, [.ret (.ite (.t (.call 10 [(.var 3), (.const (.int 3))])) (.const (.str [110, 111])) (.const (.str [63])))])],
      .ret (.const (.str [121, 101, 115]))] }
/-- law(_law_script): 0 _law_script, 1 _law_size, 2 _law_first, 3 _law_room, 4 _law_width, 5 _law_rule, 6 _law_holder, 7 _law_near, 8 _law_counts, 9 _law_box, 10 _law_cell, 11 _law_ahead, 12 _law_kept, 13 _law_wrong, 14 _law_at -/
/- no. 61; laws 07 -/
noncomputable def fn_law07 : Fn := { npar := 1, nloc := 15, pure := true, body := [.assign 1 (.call 16 [(.call 2 [(.var 0), (.const (.int 0))])]),
      .assign 2 (.call 2 [(.var 0), (.const (.int 1))]),
      .assign 3 (.sub (.list false [(.bin .add (.const (.int 1)) (.bin .mod (.bin .div (.var 2) (.const (.int 4))) (.const (.int 5)))), (.bin .add (.const (.int 1)) (.bin .mod (.bin .div (.var 2) (.const (.int 4))) (.const (.int 2)))), (.const (.int 3)), (.bin .add (.const (.int 1)) (.bin .mod (.bin .div (.var 2) (.const (.int 4))) (.const (.int 200))))]) (.bin .mod (.var 2) (.const (.int 4)))),
      .assign 4 (.sub (.list false [(.const (.int 1)), (.const (.int 2)), (.bin .add (.const (.int 1)) (.bin .mod (.bin .div (.var 2) (.const (.int 20))) (.const (.int 4)))), (.bin .add (.const (.int 1)) (.bin .mod (.bin .div (.var 2) (.const (.int 20))) (.const (.int 200))))]) (.bin .mod (.bin .div (.call 2 [(.var 0), (.const (.int 2))]) (.const (.int 2))) (.const (.int 4)))),
      .assign 5 (.sub (.list false [(.const (.str [108, 101, 97, 115, 116])), (.const (.str [102, 105, 114, 115, 116]))]) (.bin .mod (.call 2 [(.var 0), (.const (.int 2))]) (.const (.int 2)))),
      .assign 6 (.new 1 [(.bin .mul (.list false [(.const (.int 0))]) (.var 1)), (.var 3), (.var 4), (.var 5)]),
      .assign 7 (.list false []),
      .assign 8 (.list true [(.const (.int 0)), (.const (.int 0))]),
      .assign 9 (.const (.int 0)),
      .for1 10 (.of (.slice false (.var 0) (.const (.int 3)) (.const .none))) [.assign 11 (.meth (.var 6) 6 []),
      .assign 12 (.toList false (.var 7)),
      .assign 9 (.ite (.t (.cmp .eq (.bin .mod (.var 10) (.const (.int 5))) (.const (.int 2)))) (.var 9) (.bin .mod (.call 4 [(.var 10)]) (.var 1))),
      .ite (.t (.cmp .eq (.bin .mod (.var 10) (.const (.int 9))) (.const (.int 4)))) [.assign 13 (.sub (.list false [(.bin .sub (.const (.int 0)) (.const (.int 1))), (.var 1), (.const (.bool true)), (.const .none), (.const (.str [48])), (.const (.bool false)), (.list false [(.const (.int 0))]), (.tuple [(.const (.int 0)), (.const (.int 0))]), (.dict0 true)]) (.bin .mod (.bin .div (.var 10) (.const (.int 9))) (.const (.int 9)))),
      .ite (.t (.cmp .ne (.call 60 [(.var 6), (.var 13), (.var 10)]) (.const (.str [110, 111])))) [.ret (.const (.bool false))] []] [.assign 14 (.bi .int [(.cmp .notIn (.bin .div (.var 9) (.var 4)) (.var 7))]),
      .setsub (.var 8) (.var 14) (.bin .add (.sub (.var 8) (.var 14)) (.const (.int 1))),
      .assign 7 (.call 59 [(.var 7), (.bin .div (.var 9) (.var 4)), (.var 3), (.var 5)]),
      .ite (.t (.cmp .ne (.call 60 [(.var 6), (.var 9), (.var 10)]) (.const (.str [121, 101, 115])))) [.ret (.const (.bool false))] []],
      .ite (.or [(.not (.t (.call 32 [(.list false [(.attr (.var 6) 6), (.attr (.var 6) 7)]), (.var 8)]))), (.not (.t (.call 32 [(.meth (.var 6) 6 []), (.var 7)])))]) [.ret (.const (.bool false))] [],
      .ite (.t (.cmp .ne (.var 11) (.var 12))) [.ret (.const (.bool false))] []],
      .expr (.bm .append (.meth (.var 6) 106 []) [(.const (.int 0))]),
      .ret (.cmp .eq (.meth (.var 6) 6 []) (.var 7))] }
end
end Mine.Law
end
section
namespace Mine.Law
noncomputable section
noncomputable def prog07 : Prog := { fns := [(2, fn_cell_at), (3, fn_whole), (4, fn_mixed), (10, fn_alone), (12, fn_is_whole), (16, fn_size_by), (23, fn_need_boxes), (32, fn_wholes), (41, fn_Near_init), (42, fn_Near_write_back), (43, fn_Near_go_first), (44, fn_Near_touch), (45, fn_Near_look), (46, fn_Near_put), (57, fn_Near_held), (58, fn_Near_heldM), (59, fn_near_behind), (60, fn_touched), (61, fn_law07)], clss := [{ init := 999, meths := [], attrs := [] }, { init := 41, meths := [(3, 42), (4, 43), (5, 44), (1, 45), (2, 46), (6, 57), (106, 58)], attrs := [2, 3, 4, 5, 6, 7, 8, 9, 10, 11] }], excs := [[0], [1, 0], [2, 0], [3, 0], [4, 0], [5, 0]], tabs := [], rz := [0, 1, 2, 3, 4, 5] }
end
end Mine.Law
end
section
set_option linter.all false
namespace Mine
section
variable {P : Prog} {q : Bool} {cf : Nat → List V → H → R V} {cl : Bool → Nat → List V → H → R V}

/-- an end of a computation -/
inductive OKX {α : Type} (Q : α → H → Prop) (X : Nat → H → Prop) : R α → Prop where
  | ok {v : α} {h : H} (k : Q v h) : OKX Q X (.ok v h)
  | exc {c : Nat} {h : H} (k : X c h) : OKX Q X (.exc c h)
noncomputable def EV (P : Prog) (q : Bool) (call : Nat → List V → H → R V) (e : E) (ρ : Rho) (h : H) (Q : V → H → Prop) (X : Nat → H → Prop) : Prop := OKX Q X (evE P q call e ρ h)
noncomputable def EVs (P : Prog) (q : Bool) (call : Nat → List V → H → R V) (e : List E) (ρ : Rho) (h : H) (Q : List V → H → Prop) (X : Nat → H → Prop) : Prop := OKX Q X (evEs P q call e ρ h)
noncomputable def IT (P : Prog) (q : Bool) (call : Nat → List V → H → R V) (e : It) (ρ : Rho) (h : H) (Q : V → H → Prop) (X : Nat → H → Prop) : Prop := OKX Q X (evIt P q call e ρ h)
noncomputable def CC (P : Prog) (q : Bool) (call : Nat → List V → H → R V) (e : C) (ρ : Rho) (h : H) (Q : Bool → H → Prop) (X : Nat → H → Prop) : Prop := OKX Q X (evC P q call e ρ h)
noncomputable def CCo (P : Prog) (q : Bool) (call : Nat → List V → H → R V) (e : List C) (ρ : Rho) (h : H) (Q : Bool → H → Prop) (X : Nat → H → Prop) : Prop := OKX Q X (evCor P q call e ρ h)
noncomputable def CCi (P : Prog) (q : Bool) (call : Nat → List V → H → R V) (e : List C) (ρ : Rho) (h : H) (Q : Bool → H → Prop) (X : Nat → H → Prop) : Prop := OKX Q X (evIfs P q call e ρ h)
noncomputable def EVa (P : Prog) (q : Bool) (call : Nat → List V → H → R V) (e : List E) (ρ : Rho) (h : H) (Q : V → H → Prop) (X : Nat → H → Prop) : Prop := OKX Q X (evAnd P q call e ρ h)
/-- a value's computation -/
noncomputable def RV {α : Type} (r : R α) (Q : α → H → Prop) (X : Nat → H → Prop) : Prop := OKX Q X r
noncomputable def OV {α : Type} (r : Option α) (Q : α → Prop) : Prop := ∃ v, r = some v ∧ Q v
noncomputable def SP (b : Bool) (A B : Prop) : Prop := (b = true → A) ∧ (b = false → B)
noncomputable def TV (v : V) (Q : Bool → Prop) : Prop := ∃ b, v = .bool b ∧ Q b

noncomputable def IsI (v : V) (Q : Int → Prop) : Prop := ∃ s, v = .int s ∧ Q s
theorem IsI.of {s : Int} {Q : Int → Prop} (k : Q s) : IsI (.int s) Q := ⟨s, rfl, k⟩
/-- a method that the thing has -/
noncomputable def KM (m : Bm) (h : H) (x : V) (A : Prop) : Prop := okM m (kindM h x) = true ∧ A
noncomputable def KE (h h' : H) (x : V) (A : Prop) : Prop := kindM h' x = kindM h x ∧ A
theorem KE.of {h : H} {x : V} {A : Prop} (k : A) : KE h h x A := ⟨rfl, k⟩
theorem kind_l {h : H} {n : Nat} {xs : List V} (e : h[n]? = some (.list xs)) : kindM h (.ref n) = 2 := by
  have h0 : ∀ o : Option M, o = some (.list xs) → (match o with | some (.list _) => 2 | some (.dict _) => 3 | _ => 0) = 2 := by rintro _ rfl; rfl
  exact h0 _ e
theorem kind_d {h : H} {n : Nat} {xs : List (Int × V)} (e : h[n]? = some (.dict xs)) : kindM h (.ref n) = 3 := by
  have h0 : ∀ o : Option M, o = some (.dict xs) → (match o with | some (.list _) => 2 | some (.dict _) => 3 | _ => 0) = 3 := by rintro _ rfl; rfl
  exact h0 _ e
theorem KM.lst {m : Bm} {h : H} {n : Nat} {xs : List V} {A : Prop} (e : h[n]? = some (.list xs)) (hm : okM m 2 = true) (k : A) : KM m h (.ref n) A := ⟨by rw [kind_l e]; exact hm, k⟩
theorem KM.dct {m : Bm} {h : H} {n : Nat} {xs : List (Int × V)} {A : Prop} (e : h[n]? = some (.dict xs)) (hm : okM m 3 = true) (k : A) : KM m h (.ref n) A := ⟨by rw [kind_d e]; exact hm, k⟩

theorem OKX_bind {α β : Type} {r : R α} {f : α → H → R β} {Q : β → H → Prop} {X : Nat → H → Prop} (h : OKX (fun v h => OKX Q X (f v h)) X r) : OKX Q X (r.bind f) := by
  cases h with
  | ok k => exact k
  | exc k => exact .exc k
theorem OKX.mono {α : Type} {r : R α} {Q Q' : α → H → Prop} {X X' : Nat → H → Prop} (h : OKX Q X r) (hq : ∀ v h, Q v h → Q' v h) (hx : ∀ c h, X c h → X' c h) : OKX Q' X' r := by
  cases h with
  | ok k => exact .ok (hq _ _ k)
  | exc k => exact .exc (hx _ _ k)

section
variable {ρ : Rho} {h : H} {Q : V → H → Prop} {Qb : Bool → H → Prop} {Qs : List V → H → Prop} {X : Nat → H → Prop} {a b c : E} {es : List E}
theorem OV.of {α : Type} {o : Option α} {v : α} {Q : α → Prop} (e : o = some v) (k : Q v) : OV o Q := ⟨v, e, k⟩
theorem RV.ok {α : Type} {r : R α} {v : α} {h' : H} {Q : α → H → Prop} (e : r = .ok v h') (k : Q v h') : RV r Q X := by rw [e]; exact OKX.ok k
theorem RV.exc {α : Type} {r : R α} {c : Nat} {h' : H} {Q : α → H → Prop} (e : r = .exc c h') (k : X c h') : RV r Q X := by rw [e]; exact OKX.exc k
theorem SP.dec {p : Prop} {_ : Decidable p} {A B : Prop} (h1 : p → A) (h2 : ¬ p → B) : SP (decide p) A B := ⟨fun e => h1 (of_decide_eq_true e), fun e => h2 (of_decide_eq_false e)⟩
theorem SP.dt {p : Prop} {_ : Decidable p} {A B : Prop} (hp : p) (k : A) : SP (decide p) A B := ⟨fun _ => k, fun e => absurd hp (of_decide_eq_false e)⟩
theorem SP.not {b : Bool} {A B : Prop} (k : SP b B A) : SP (!b) A B := by
  cases b with
  | true => exact ⟨(fun e => by cases e), fun _ => k.1 rfl⟩
  | false => exact ⟨fun _ => k.2 rfl, (fun e => by cases e)⟩
theorem SP.tt {A B : Prop} (k : A) : SP true A B := ⟨fun _ => k, fun e => by cases e⟩
theorem SP.ff {A B : Prop} (k : B) : SP false A B := ⟨(fun e => by cases e), fun _ => k⟩
theorem SP.t {b : Bool} {A B : Prop} (e : b = true) (k : A) : SP b A B := ⟨fun _ => k, fun e' => by rw [e] at e'; cases e'⟩
theorem SP.f {b : Bool} {A B : Prop} (e : b = false) (k : B) : SP b A B := ⟨(fun e' => by rw [e] at e'; cases e'), fun _ => k⟩
theorem TV.of {b : Bool} {Q : Bool → Prop} (k : Q b) : TV (.bool b) Q := ⟨b, rfl, k⟩

theorem EV.var {i : Nat} {v : V} (e : ρ[i]? = some (some v)) (k : Q v h) : EV P q cf (.var i) ρ h Q X := by
  have h1 : ∀ o : Option (Option V), o = some (some v) → OKX Q X (match o with | some (some v) => R.ok v h | _ => R.fail) := by rintro _ rfl; exact .ok k
  exact h1 _ e
theorem EV.const {v : V} (k : Q v h) : EV P q cf (.const v) ρ h Q X := (.ok k)
theorem EV.glob {g : Nat} {v : V} (k : Q v h) : EV P q cf (.glob g v) ρ h Q X := (.ok k)
theorem EV.bin {op : Op} (k : EV P q cf a ρ h (fun x h => EV P q cf b ρ h (fun y h => RV (binV op h x y) Q X) X) X) : EV P q cf (.bin op a b) ρ h Q X :=
  OKX_bind (OKX.mono k (fun _ _ k => OKX_bind k) fun _ _ k => k)
theorem EV.not (k : EV P q cf a ρ h (fun x h => TV x fun b => Q (.bool (!b)) h) X) : EV P q cf (.not a) ρ h Q X :=
  OKX_bind (OKX.mono k (fun _ _ ⟨b, e, k⟩ => by subst e; exact .ok k) fun _ _ k => k)
theorem EV.and (k : EVa P q cf es ρ h Q X) : EV P q cf (.and es) ρ h Q X := k
theorem EV.cmp {op : COp} (k : EV P q cf a ρ h (fun x h => EV P q cf b ρ h (fun y h => OV (cmpV op h x y) fun t => Q (.bool t) h) X) X) : EV P q cf (.cmp op a b) ρ h Q X :=
  OKX_bind (OKX.mono k (fun _ _ k => OKX_bind (OKX.mono k (fun _ _ ⟨v, e, k⟩ => by rw [e]; exact .ok k) fun _ _ k => k)) fun _ _ k => k)
theorem EV.cmp2 {op1 op2 : COp} (k : EV P q cf a ρ h (fun x h => EV P q cf b ρ h (fun y h => OV (cmpV op1 h x y) fun t => SP t (EV P q cf c ρ h (fun z h => OV (cmpV op2 h y z) fun t => Q (.bool t) h) X) (Q (.bool false) h)) X) X) : EV P q cf (.cmp2 op1 op2 a b c) ρ h Q X :=
  OKX_bind (OKX.mono k (fun _ _ k => OKX_bind (OKX.mono k (fun _ _ ⟨v, e, k⟩ => by
    rw [e]
    cases v with
    | true => exact OKX_bind (OKX.mono (k.1 rfl) (fun _ _ ⟨v, e, k⟩ => by rw [e]; exact .ok k) fun _ _ k => k)
    | false => exact .ok (k.2 rfl)) fun _ _ k => k)) fun _ _ k => k)
theorem EV.ite {t : C} (k : CC P q cf t ρ h (fun x h => SP x (EV P q cf a ρ h Q X) (EV P q cf b ρ h Q X)) X) : EV P q cf (.ite t a b) ρ h Q X :=
  OKX_bind (OKX.mono k (fun x _ k => by cases x with | true => exact k.1 rfl | false => exact k.2 rfl) fun _ _ k => k)
theorem EV.call {f : Nat} (k : EVs P q cf es ρ h (fun vs h => RV (cf f vs h) Q X) X) : EV P q cf (.call f es) ρ h Q X := OKX_bind k
theorem EV.bi {f : Bi} (k : EVs P q cf es ρ h (fun vs h => RV (biV q f h vs) Q X) X) : EV P q cf (.bi f es) ρ h Q X := OKX_bind k
theorem EV.bm {m : Bm} (k : EV P q cf a ρ h (fun x h => KM m h x (EVs P q cf es ρ h (fun vs h' => KE h h' x (RV (bmV m h' x vs) Q X)) X)) X) : EV P q cf (.bm m a es) ρ h Q X :=
  OKX_bind (OKX.mono k (fun x h ⟨e, k⟩ => by
    rw [if_pos e]
    exact OKX_bind (OKX.mono k (fun vs h' ⟨e, k⟩ => by rw [if_pos e]; exact k) fun _ _ k => k)) fun _ _ k => k)
theorem EV.isinst {t : Ty} (e : okT P t = true) (k : EV P q cf a ρ h (fun x h => OV (isInst P h x t) fun b => Q (.bool b) h) X) : EV P q cf (.isinst a t) ρ h Q X := by
  have h1 : ∀ o : R V, OKX Q X o → OKX Q X (if okT P t then o else .fail) := fun o k => by rw [if_pos e]; exact k
  exact h1 _ (OKX_bind (OKX.mono k (fun _ _ ⟨v, e, k⟩ => by unfold instV; rw [e]; exact .ok k) fun _ _ k => k))
theorem EV.toList0 (k : EV P q cf a ρ h (fun x h => OV (seqOf h x) fun xs => xs.length ≤ 100000 ∧ Q (.lst xs) h) X) : EV P q cf (.toList false a) ρ h Q X :=
  OKX_bind (OKX.mono k (fun _ _ ⟨v, e, l, k⟩ => by rw [e]; dsimp only; rw [if_pos l]; exact .ok k) fun _ _ k => k)
theorem EV.toList1 (k : EV P q cf a ρ h (fun x h => OV (seqOf h x) fun xs => xs.length ≤ 100000 ∧ Q (.ref h.length) (h ++ [.list xs])) X) : EV P q cf (.toList true a) ρ h Q X :=
  OKX_bind (OKX.mono k (fun _ _ ⟨v, e, l, k⟩ => by rw [e]; dsimp only; rw [if_pos l]; exact .ok k) fun _ _ k => k)
theorem EV.attr {i : Nat} (k : EV P q cf a ρ h (fun x h => OV (getA P h x i) fun v => Q v h) X) : EV P q cf (.attr a i) ρ h Q X :=
  OKX_bind (OKX.mono k (fun _ _ ⟨v, e, k⟩ => by rw [e]; exact .ok k) fun _ _ k => k)
theorem EV.sub (k : EV P q cf a ρ h (fun x h => EV P q cf b ρ h (fun y h => OV (getItem h x y) fun v => Q v h) X) X) : EV P q cf (.sub a b) ρ h Q X :=
  OKX_bind (OKX.mono k (fun _ _ k => OKX_bind (OKX.mono k (fun _ _ ⟨v, e, k⟩ => by rw [e]; exact .ok k) fun _ _ k => k)) fun _ _ k => k)
theorem EV.slice {mu : Bool} (k : EV P q cf a ρ h (fun x h => EV P q cf b ρ h (fun y h => EV P q cf c ρ h (fun z h => RV (sliceV mu h x y z) Q X) X) X) X) : EV P q cf (.slice mu a b c) ρ h Q X :=
  OKX_bind (OKX.mono k (fun _ _ k => OKX_bind (OKX.mono k (fun _ _ k => OKX_bind k) fun _ _ k => k)) fun _ _ k => k)
theorem EV.list0 (k : EVs P q cf es ρ h (fun vs h => Q (.lst vs) h) X) : EV P q cf (.list false es) ρ h Q X := OKX_bind (OKX.mono k (fun _ _ k => .ok k) fun _ _ k => k)
theorem EV.list1 (k : EVs P q cf es ρ h (fun vs h => Q (.ref h.length) (h ++ [.list vs])) X) : EV P q cf (.list true es) ρ h Q X := OKX_bind (OKX.mono k (fun _ _ k => .ok k) fun _ _ k => k)
theorem EV.tuple (k : EVs P q cf es ρ h (fun vs h => Q (.tup vs) h) X) : EV P q cf (.tuple es) ρ h Q X := OKX_bind (OKX.mono k (fun _ _ k => .ok k) fun _ _ k => k)
theorem EV.dict0 (k : Q (.ref h.length) (h ++ [.dict []])) : EV P q cf (.dict0 true) ρ h Q X := (.ok k)
theorem EV.new {c : Nat} {cl : Cls} (hc : P.clss[c]? = some cl) (k : EVs P q cf es ρ h (fun vs h => RV (cf cl.init (.ref h.length :: vs) (h ++ [.inst c []])) (fun v h' => v = .none ∧ Q (.ref h.length) h') X) X) : EV P q cf (.new c es) ρ h Q X :=
  OKX_bind (OKX.mono k (fun vs h k => by
    rw [hc]
    exact OKX_bind (OKX.mono k (fun v h' ⟨e, k⟩ => by subst e; exact .ok k) fun _ _ k => k)) fun _ _ k => k)
theorem EV.meth {m : Nat} (k : EV P q cf a ρ h (fun x h => OV (methOf P h x m) fun f => EVs P q cf es ρ h (fun vs h => RV (cf f (x :: vs) h) Q X) X) X) : EV P q cf (.meth a m es) ρ h Q X :=
  OKX_bind (OKX.mono k (fun x h ⟨f, e, k⟩ => by rw [e]; exact OKX_bind k) fun _ _ k => k)

theorem EVs.nil (k : Qs [] h) : EVs P q cf [] ρ h Qs X := (.ok k)
theorem EVs.cons (k : EV P q cf a ρ h (fun v h => EVs P q cf es ρ h (fun vs h => Qs (v :: vs) h) X) X) : EVs P q cf (a :: es) ρ h Qs X :=
  OKX_bind (OKX.mono k (fun _ _ k => OKX_bind (OKX.mono k (fun _ _ k => .ok k) fun _ _ k => k)) fun _ _ k => k)
theorem EVa.one (k : EV P q cf a ρ h Q X) : EVa P q cf [a] ρ h Q X := k
theorem EVa.cons (k : EV P q cf a ρ h (fun v h => TV v fun t => SP t (EVa P q cf (b :: es) ρ h Q X) (Q v h)) X) : EVa P q cf (a :: b :: es) ρ h Q X :=
  OKX_bind (OKX.mono k (fun _ _ ⟨t, e, k⟩ => by subst e; cases t with | true => exact k.1 rfl | false => exact .ok (k.2 rfl)) fun _ _ k => k)
theorem IT.of (k : EV P q cf a ρ h Q X) : IT P q cf (.of a) ρ h Q X := k
theorem okR_of {n : Int} (h1 : -1000000000000 ≤ n) (h2 : n < 1000000000000) : okR n = true := by simp [okR, h1, h2]
theorem IT.range1 (k : EV P q cf a ρ h (fun x h => IsI x fun n => (-1000 ≤ n ∧ n ≤ 100000) ∧ Q (.lst ((List.range n.toNat).map fun (i : Nat) => .int i)) h) X) : IT P q cf (.range1 a) ρ h Q X :=
  OKX_bind (OKX.mono k (fun x h ⟨n, e, ⟨h1, h2⟩, k⟩ => by
    subst e; dsimp only
    rw [okR_of (by omega) (by omega), if_pos (by simp; omega)]
    exact .ok k) fun _ _ k => k)
theorem CC.t (k : EV P q cf a ρ h (fun v h => TV v fun t => Qb t h) X) : CC P q cf (.t a) ρ h Qb X :=
  OKX_bind (OKX.mono k (fun _ _ ⟨t, e, k⟩ => by subst e; exact .ok k) fun _ _ k => k)
theorem CC.not {t : C} (k : CC P q cf t ρ h (fun b h => Qb (!b) h) X) : CC P q cf (.not t) ρ h Qb X := OKX_bind (OKX.mono k (fun _ _ k => .ok k) fun _ _ k => k)
theorem CC.or {ts : List C} (k : CCo P q cf ts ρ h Qb X) : CC P q cf (.or ts) ρ h Qb X := k
theorem CCo.nil (k : Qb false h) : CCo P q cf [] ρ h Qb X := (.ok k)
theorem CCo.cons {t : C} {ts : List C} (k : CC P q cf t ρ h (fun b h => SP b (Qb true h) (CCo P q cf ts ρ h Qb X)) X) : CCo P q cf (t :: ts) ρ h Qb X :=
  OKX_bind (OKX.mono k (fun b _ k => by cases b with | true => exact .ok (k.1 rfl) | false => exact k.2 rfl) fun _ _ k => k)
theorem CCi.nil (k : Qb true h) : CCi P q cf [] ρ h Qb X := (.ok k)
theorem CCi.cons {t : C} {ts : List C} (k : CC P q cf t ρ h (fun b h => SP b (CCi P q cf ts ρ h Qb X) (Qb false h)) X) : CCi P q cf (t :: ts) ρ h Qb X :=
  OKX_bind (OKX.mono k (fun b _ k => by cases b with | true => exact k.1 rfl | false => exact .ok (k.2 rfl)) fun _ _ k => k)
end

-- values
section
variable {h : H} {Q : V → H → Prop} {X : Nat → H → Prop} {Qb : Bool → Prop} {Qo : V → Prop}
theorem bv_add {x y : Int} (k : Q (.int (x + y)) h) : RV (binV .add h (.int x) (.int y)) Q X := OKX.ok k
theorem bv_sub {x y : Int} (k : Q (.int (x - y)) h) : RV (binV .sub h (.int x) (.int y)) Q X := OKX.ok k
theorem okInt_of {n : Int} (h1 : -9000000000000000000 ≤ n) (h2 : n < 9000000000000000000) : okInt n = true := by
  rw [okInt, Bool.and_eq_true, decide_eq_true_iff, decide_eq_true_iff]; omega
theorem bv_mul {x y : Int} (k : Q (.int (x * y)) h) (h1 : -9000000000000000000 ≤ y) (h2 : y < 9000000000000000000) : RV (binV .mul h (.int x) (.int y)) Q X := by
  show OKX Q X (if okInt x || okInt y then .ok (.int (x * y)) h else .fail)
  rw [okInt_of h1 h2, Bool.or_true, if_pos rfl]; exact .ok k
theorem bv_div {x y : Int} (k : Q (.int (x / y)) h) (h1 : 0 < y) (h2 : y < 1073741824) : RV (binV .div h (.int x) (.int y)) Q X := by
  show OKX Q X (if y ≠ 0 ∧ y.natAbs < 1073741824 then .ok (.int (x.fdiv y)) h else .fail)
  rw [if_pos (by omega), Int.fdiv_eq_ediv_of_nonneg _ (by omega)]; exact .ok k
theorem bv_mod {x y : Int} (k : Q (.int (x % y)) h) (h1 : 0 < y) : RV (binV .mod h (.int x) (.int y)) Q X := by
  show OKX Q X (if y ≠ 0 then .ok (.int (x.fmod y)) h else .fail)
  rw [if_pos (by omega), Int.fmod_eq_emod_of_nonneg _ (by omega)]; exact .ok k
theorem bv_addl {x y : List V} (k : Q (.lst (x ++ y)) h) (hl : x.length + y.length ≤ 100000) : RV (binV .add h (.lst x) (.lst y)) Q X := by
  show OKX Q X (if x.length + y.length ≤ 100000 then _ else .fail)
  rw [if_pos hl]; exact .ok k
theorem cv_lt {x y : Int} (k : Qb (decide (x < y))) : OV (cmpV .lt h (.int x) (.int y)) Qb := ⟨_, rfl, k⟩
theorem cv_le {x y : Int} (k : Qb (decide (x ≤ y))) : OV (cmpV .le h (.int x) (.int y)) Qb := ⟨_, rfl, k⟩
theorem cv_eq {x y : Int} (k : Qb (decide (x = y))) : OV (cmpV .eq h (.int x) (.int y)) Qb := ⟨_, rfl, k⟩
theorem cv_ne {x y : Int} (k : Qb (!decide (x = y))) : OV (cmpV .ne h (.int x) (.int y)) Qb := ⟨_, rfl, k⟩
theorem beqS {x y : List Nat} : (x == y) = decide (x = y) := by
  by_cases e : x = y
  · subst e; simp
  · simp [e]
theorem cv_eqs {x y : List Nat} (k : Qb (decide (x = y))) : OV (cmpV .eq h (.str x) (.str y)) Qb := ⟨_, rfl, by show Qb (x == y); rw [beqS]; exact k⟩
theorem cv_nes {x y : List Nat} (k : Qb (!decide (x = y))) : OV (cmpV .ne h (.str x) (.str y)) Qb := ⟨_, rfl, by show Qb (!(x == y)); rw [beqS]; exact k⟩
theorem cv_eqV {x y x' y' : V} (e1 : deref h x = x') (e2 : deref h y = y') (h1 : x'.plain = true) (h2 : y'.plain = true) (k : Qb (eqV x' y')) : OV (cmpV .eq h x y) Qb :=
  ⟨_, (show (if (deref h x).plain && (deref h y).plain then some (eqV (deref h x) (deref h y)) else none) = some (eqV x' y') by rw [e1, e2, h1, h2]; rfl), k⟩
theorem cv_neV {x y x' y' : V} (e1 : deref h x = x') (e2 : deref h y = y') (h1 : x'.plain = true) (h2 : y'.plain = true) (k : Qb (!eqV x' y')) : OV (cmpV .ne h x y) Qb :=
  ⟨_, (show (if (deref h x).plain && (deref h y).plain then some (!eqV (deref h x) (deref h y)) else none) = some (!eqV x' y') by rw [e1, e2, h1, h2]; rfl), k⟩
theorem eqVs_refl : ∀ {xs : List V}, (∀ x ∈ xs, eqV x x = true) → eqVs xs xs = true
  | [], _ => rfl
  | x :: xs, h => (Bool.and_eq_true _ _).mpr ⟨h x List.mem_cons_self, eqVs_refl fun y hy => h y (List.mem_cons_of_mem _ hy)⟩
theorem eqV_refl : ∀ (n : Nat) {v : V}, v.plainN n = true → eqV v v = true
  | _, .none, _ => rfl
  | _, .bool b, _ => beq_self_eq_true b
  | _, .int b, _ => beq_self_eq_true b
  | _, .str b, _ => beq_self_eq_true b
  | 0, .tup _, h => absurd h Bool.false_ne_true
  | 0, .lst _, h => absurd h Bool.false_ne_true
  | n + 1, .tup xs, h => eqVs_refl fun x hx => eqV_refl n (List.all_eq_true.mp h x hx)
  | n + 1, .lst xs, h => eqVs_refl fun x hx => eqV_refl n (List.all_eq_true.mp h x hx)
  | 0, .dct, h | n + 1, .dct, h | 0, .ref _, h | n + 1, .ref _, h | 0, .exc _, h | n + 1, .exc _, h => absurd h Bool.false_ne_true
theorem ii_t {P : Prog} {x : V} {t : Ty} (e : isInst P h x t = some true) (k : Qb true) : OV (isInst P h x t) Qb := ⟨_, e, k⟩
theorem ii_f {P : Prog} {x : V} {t : Ty} (e : isInst P h x t = some false) (k : Qb false) : OV (isInst P h x t) Qb := ⟨_, e, k⟩
theorem gi_lst {xs : List V} {i : Int} {v : V} (h1 : 0 ≤ i) (h2 : i < 1000000) (e : xs[i.toNat]? = some v) (k : Qo v) : OV (getItem h (.lst xs) (.int i)) Qo :=
  ⟨v, by show (if okIdx i then xs[i.toNat]? else none) = _; rw [if_pos (by simp [okIdx, h1, h2]), e], k⟩
theorem gi_ref {n : Nat} {xs : List V} {i : Int} {v : V} (hn : h[n]? = some (.list xs)) (h1 : 0 ≤ i) (h2 : i < 1000000) (e : xs[i.toNat]? = some v) (k : Qo v) : OV (getItem h (.ref n) (.int i)) Qo :=
  ⟨v, by
    have h0 : ∀ (o : Option M) (f : List (Int × V) → Option V), o = some (.list xs) → (match o with | some (.list xs) => if okIdx i then xs[i.toNat]? else none | some (.dict es) => f es | _ => none) = some v := by
      rintro _ f rfl; dsimp only; rw [if_pos (by simp [okIdx, h1, h2]), e]
    exact h0 _ _ hn, k⟩
theorem ni_ints {xs : List Int} {i : Int} (h1 : 0 ≤ i) (h2 : i < xs.length) : (xs.map V.int)[i.toNat]? = some (.int (xs.getD i.toNat 0)) := by
  have : i.toNat < xs.length := by omega
  simp [List.getD, this]
theorem len_l {xs : List V} (hl : xs.length ≤ 100000) (k : Q (.int xs.length) h) : RV (biV q .len h [.lst xs]) Q X := by
  show OKX Q X (if xs.length ≤ 100000 then .ok (.int xs.length) h else .fail)
  rw [if_pos hl]; exact .ok k
theorem len_m {α : Type} {f : α → V} {xs : List α} (hl : xs.length ≤ 100000) (k : Q (.int xs.length) h) : RV (biV q .len h [.lst (xs.map f)]) Q X :=
  len_l (by rw [List.length_map]; exact hl) (by rw [List.length_map]; exact k)
/-- any item -/
theorem gi_any {xs : List V} {i : Int} (A : V → Prop) (h1 : 0 ≤ i) (h2 : i < xs.length) (h3 : xs.length ≤ 1000000) (ha : ∀ v ∈ xs, A v) (k : ∀ v, A v → Qo v) : OV (getItem h (.lst xs) (.int i)) Qo := by
  have : i.toNat < xs.length := by omega
  exact gi_lst h1 (by omega) (List.getElem?_eq_getElem this) (k _ (ha _ (List.getElem_mem this)))
noncomputable def intIn (lo hi : Int) : V → Bool
  | .int i => decide (lo ≤ i) && decide (i ≤ hi)
  | _ => false
theorem gi_anyI {xs : List V} {i : Int} (lo hi : Int) (h1 : 0 ≤ i) (h2 : i < xs.length) (h3 : xs.length ≤ 1000000) (ha : xs.all (intIn lo hi) = true) (k : ∀ n : Int, lo ≤ n → n ≤ hi → Qo (.int n)) : OV (getItem h (.lst xs) (.int i)) Qo :=
  gi_any (intIn lo hi · = true) h1 h2 h3 (List.all_eq_true.mp ha) fun v e => by
    cases v <;> first | exact k _ (of_decide_eq_true (Bool.and_eq_true_iff.mp e).1) (of_decide_eq_true (Bool.and_eq_true_iff.mp e).2) | cases e
theorem gi_ints {xs : List Int} {i : Int} (h1 : 0 ≤ i) (h2 : i < 1000000) (h3 : i < xs.length) (k : Qo (.int (xs.getD i.toNat 0))) : OV (getItem h (.lst (xs.map .int)) (.int i)) Qo :=
  gi_lst h1 h2 (ni_ints h1 h3) k
theorem len_r {n : Nat} {xs : List V} (e : h[n]? = some (.list xs)) (hl : xs.length ≤ 100000) (k : Q (.int xs.length) h) : RV (biV q .len h [.ref n]) Q X := by
  show OKX Q X (match (seqOf h (.ref n)).map List.length with | some n => if n ≤ 100000 then .ok (.int n) h else .fail | none => .fail)
  rw [show seqOf h (.ref n) = some xs by simp [seqOf, listOf, e]]
  dsimp only [Option.map]
  rw [if_pos hl]; exact .ok k
theorem len_q {v : V} {xs : List V} (e : seqOf h v = some xs) (hl : xs.length ≤ 100000) (k : Q (.int xs.length) h) : RV (biV q .len h [v]) Q X := by
  have h0 : ∀ o : Option Nat, o = some xs.length → OKX Q X (match o with | some n => if n ≤ 100000 then .ok (.int n) h else .fail | none => .fail) := by
    rintro _ rfl; dsimp only; rw [if_pos hl]; exact .ok k
  have h1 : lenV h v = some xs.length := by
    cases v <;> first | (cases e; done) | exact congrArg (Option.map List.length) e
  exact h0 _ h1
theorem int_b {b : Bool} (k : Q (.int (if b then 1 else 0)) h) : RV (biV q .int h [.bool b]) Q X := OKX.ok k
theorem in_lst {xs : List V} {x : V} {Qb : Bool → Prop} (hx : x.plain = true) (hs : xs.all V.plain = true) (k : Qb (xs.any fun y => eqV y x)) : OV (cmpV .isIn h x (.lst xs)) Qb := ⟨_, (show (if x.plain && xs.all V.plain then some (xs.any fun y => eqV y x) else none) = _ by rw [hx, hs]; rfl), k⟩
theorem ni_lst {xs : List V} {x : V} {Qb : Bool → Prop} (hx : x.plain = true) (hs : xs.all V.plain = true) (k : Qb (!xs.any fun y => eqV y x)) : OV (cmpV .notIn h x (.lst xs)) Qb := ⟨_, (show (if x.plain && xs.all V.plain then some (xs.any fun y => eqV y x) else none).map (!·) = _ by rw [hx, hs]; rfl), k⟩
theorem any_int {xs : List Int} {i : Int} : ((xs.map V.int).any fun y => eqV y (.int i)) = decide (i ∈ xs) := by
  rw [Bool.eq_iff_iff]
  simp [eqV]
theorem plain_map {α : Type} {f : α → V} (hf : ∀ a, (f a).plain = true) (xs : List α) : (xs.map f).all V.plain = true := by
  rw [List.all_map, List.all_eq_true]; intro a _; exact hf a
theorem in_ints {xs : List Int} {i : Int} {Qb : Bool → Prop} (k : Qb (decide (i ∈ xs))) : OV (cmpV .isIn h (.int i) (.lst (xs.map .int))) Qb := in_lst rfl (plain_map (fun _ => rfl) xs) (by rw [any_int]; exact k)
theorem ni_ints' {xs : List Int} {i : Int} {Qb : Bool → Prop} (k : Qb (!decide (i ∈ xs))) : OV (cmpV .notIn h (.int i) (.lst (xs.map .int))) Qb := ni_lst rfl (plain_map (fun _ => rfl) xs) (by rw [any_int]; exact k)
theorem onSome_ok {α : Type} {o : Option α} {v : α} {f : α → R V} (e : o = some v) (k : OKX Q X (f v)) : OKX Q X (onSome o f) := by subst e; exact k
theorem sl_lst {xs : List V} {lo hi : V} {a b : Nat} (h1 : bound xs.length 0 lo = some a) (h2 : bound xs.length xs.length hi = some b) (hl : xs.length ≤ 100000) (k : Q (.lst (sliceL xs a b)) h) : RV (sliceV false h (.lst xs) lo hi) Q X :=
  onSome_ok h1 (onSome_ok h2 (by rw [if_pos hl]; exact .ok k))
theorem bd_n {n m : Nat} : bound n m .none = some m := rfl
theorem bd_i {n m : Nat} {i : Int} : bound n m (.int i) = some (if i < 0 then (i + n).toNat else min i.toNat n) := rfl
theorem bd_p {n m : Nat} {i : Int} (h1 : 0 ≤ i) : bound n m (.int i) = some (min i.toNat n) := by rw [bd_i, if_neg (by omega)]
theorem sliceL_tail {α : Type} {xs : List α} {a : Nat} : sliceL xs (min a xs.length) xs.length = xs.drop a := by
  rw [sliceL]
  by_cases h : a ≤ xs.length
  · rw [Nat.min_eq_left h, List.take_of_length_le (by simp)]
  · rw [Nat.min_eq_right (by omega), List.drop_of_length_le (Nat.le_refl _), List.drop_of_length_le (by omega), List.take_nil]
theorem sl_drop {xs : List V} {i : Int} (h1 : 0 ≤ i) (hl : xs.length ≤ 100000) (k : Q (.lst (xs.drop i.toNat)) h) : RV (sliceV false h (.lst xs) (.int i) .none) Q X :=
  sl_lst (bd_p h1) bd_n hl (by rw [sliceL_tail]; exact k)
theorem count_q {o v : V} {xs : List V} (e : listOf h o = some xs) (h1 : v.plain = true) (h2 : xs.all V.plain = true) (k : Q (.int (xs.countP fun x => eqV x v : Nat)) h) : RV (bmV .count h o [v]) Q X := by
  show OKX Q X (onSome (listOf h o) fun xs => if (v.plain && xs.all V.plain) = true then _ else _)
  rw [e]
  show OKX Q X (if (v.plain && xs.all V.plain) = true then _ else _)
  rw [h1, h2]; exact .ok k
theorem listOf_r {n : Nat} {xs : List V} (e : h[n]? = some (.list xs)) : listOf h (.ref n) = some xs := by
  have h0 : ∀ o : Option M, o = some (.list xs) → (match o with | some (.list xs) => some xs | _ => none) = some xs := by rintro _ rfl; rfl
  exact h0 _ e
theorem seqOf_r {n : Nat} {xs : List V} (e : h[n]? = some (.list xs)) : seqOf h (.ref n) = some xs := listOf_r e
theorem app_r {n : Nat} {xs : List V} {v : V} (e : h[n]? = some (.list xs)) (hl : xs.length ≤ 100000) (k : Q .none (h.set n (.list (xs ++ [v])))) : RV (bmV .append h (.ref n) [v]) Q X := by
  have h0 : ∀ o : Option M, o = some (.list xs) → OKX Q X (match o with | some (.list xs) => if xs.length ≤ 100000 then R.ok .none (h.set n (.list (xs ++ [v]))) else .fail | _ => .fail) := by
    rintro _ rfl; dsimp only; rw [if_pos hl]; exact .ok k
  exact h0 _ e
theorem intsV_map : ∀ xs : List Int, intsV (xs.map .int) = some xs
  | [] => rfl
  | x :: xs => by show (intsV (xs.map .int)).map (x :: ·) = _; rw [intsV_map xs]; rfl
theorem rem_r {n : Nat} {xs : List Int} {i : Int} (e : h[n]? = some (.list (xs.map .int))) (hi : i ∈ xs) (hl : xs.length ≤ 100000) (k : Q .none (h.set n (.list ((xs.erase i).map .int)))) : RV (bmV .remove h (.ref n) [.int i]) Q X := by
  have h0 : ∀ o : Option M, o = some (.list (xs.map .int)) → OKX Q X (onList o fun xs => onSome (intsV xs) fun is => if is.contains i = true ∧ is.length ≤ 100000 then .ok .none (h.set n (.list ((is.erase i).map .int))) else .fail) := by
    rintro _ rfl
    show OKX Q X (onSome (intsV (xs.map .int)) _)
    rw [intsV_map]
    show OKX Q X (if xs.contains i = true ∧ xs.length ≤ 100000 then _ else _)
    rw [if_pos ⟨by simpa using hi, hl⟩]; exact .ok k
  exact h0 _ e
theorem sl_ref {mu : Bool} {n : Nat} {xs : List V} {lo hi : V} {a b : Nat} (e : h[n]? = some (.list xs)) (h1 : bound xs.length 0 lo = some a) (h2 : bound xs.length xs.length hi = some b) (hl : xs.length ≤ 100000) (k : OKX Q X (mkList mu (sliceL xs a b) h)) : RV (sliceV mu h (.ref n) lo hi) Q X := by
  show OKX Q X (onSome (listOf h (.ref n)) fun xs => slL mu h xs lo hi)
  rw [listOf_r e]
  exact onSome_ok rfl (onSome_ok h1 (onSome_ok h2 (by rw [if_pos hl]; exact k)))
end

-- statements
section
variable {ρ : Rho} {h : H} {Q : RS → Prop} {a b c : E} {ss : List S}
inductive WS (P : Prog) (cl : Bool → Nat → List V → H → R V) (q : Bool) (ss : List S) (ρ : Rho) (h : H) (Q : RS → Prop) : Prop where
  | mk (k : Q (evSs P cl q ss ρ h)) : WS P cl q ss ρ h Q
theorem WS.un {P : Prog} {cl : Bool → Nat → List V → H → R V} {q : Bool} {ss : List S} {ρ : Rho} {h : H} {Q : RS → Prop} (k : WS P cl q ss ρ h Q) : Q (evSs P cl q ss ρ h) := match k with | .mk k => k
/-- on to the statements behind -/
noncomputable def Thn (P : Prog) (cl : Bool → Nat → List V → H → R V) (q : Bool) (ss : List S) (Q : RS → Prop) : RS → Prop
  | .next ρ h => WS P cl q ss ρ h Q
  | r => Q r
/-- a turn's end -/
noncomputable def Lp (J : Rho → H → Prop) (Q : RS → Prop) : RS → Prop
  | .next ρ h => J ρ h
  | r => Q r
theorem Thn.next (k : WS P cl q ss ρ h Q) : Thn P cl q ss Q (.next ρ h) := k
theorem Thn.ret {v : V} (k : Q (.ret v ρ h)) : Thn P cl q ss Q (.ret v ρ h) := k
theorem Thn.exc {v : Nat} (k : Q (.exc v ρ h)) : Thn P cl q ss Q (.exc v ρ h) := k
theorem Lp.next {J : Rho → H → Prop} (k : J ρ h) : Lp J Q (.next ρ h) := k
theorem WS.mono {Q' : RS → Prop} (k : WS P cl q ss ρ h Q) (hq : ∀ r, Q r → Q' r) : WS P cl q ss ρ h Q' := .mk (hq _ k.un)
theorem WS.nil (k : Q (.next ρ h)) : WS P cl q [] ρ h Q := .mk k
theorem evSs_cons {s : S} : evSs P cl q (s :: ss) ρ h = match evS P cl q s ρ h with
      | .next r' h' => evSs P cl q ss r' h'
      | x => x := (rfl)
theorem WS.cons {s : S} (k : Thn P cl q ss Q (evS P cl q s ρ h)) : WS P cl q (s :: ss) ρ h Q := by
  refine .mk ?_
  rw [evSs_cons]
  cases e : evS P cl q s ρ h <;> (rw [e] at k; first | exact k.un | exact k)
theorem RSof {α : Type} {r : R α} {f : α → H → RS} {Q : RS → Prop} (k : OKX (fun v h => Q (f v h)) (fun c h => Q (.exc c ρ h)) r) : Q (RS.of ρ r f) := by
  cases k with
  | ok k => exact k
  | exc k => exact k
theorem WS.assign {x : Nat} (k : EV P q (cl q) a ρ h (fun v h => WS P cl q ss (ρ.set x (some v)) h Q) (fun c h => Q (.exc c ρ h))) : WS P cl q (.assign x a :: ss) ρ h Q :=
  WS.cons (RSof k)
theorem WS.expr (k : EV P q (cl q) a ρ h (fun _ h => WS P cl q ss ρ h Q) (fun c h => Q (.exc c ρ h))) : WS P cl q (.expr a :: ss) ρ h Q :=
  WS.cons (RSof k)
theorem WS.ret (k : EV P q (cl q) a ρ h (fun v h => Q (.ret v ρ h)) (fun c h => Q (.exc c ρ h))) : WS P cl q (.ret a :: ss) ρ h Q :=
  WS.cons (RSof k)
theorem WS.ite {t : C} {x y : List S} (k : CC P q (cl q) t ρ h (fun b h => SP b (WS P cl q x ρ h (Thn P cl q ss Q)) (WS P cl q y ρ h (Thn P cl q ss Q))) (fun c h => Q (.exc c ρ h))) : WS P cl q (.ite t x y :: ss) ρ h Q :=
  WS.cons (RSof (OKX.mono k (fun b _ k => by cases b with | true => exact (k.1 rfl).un | false => exact (k.2 rfl).un) fun _ _ k => k))
/-- the two ways meet -/
theorem WS.iteJ (J : Rho → H → Prop) {t : C} {x y : List S} (k : CC P q (cl q) t ρ h (fun b h => SP b (WS P cl q x ρ h (Lp J Q)) (WS P cl q y ρ h (Lp J Q))) (fun c h => Q (.exc c ρ h))) (k2 : ∀ ρ h, J ρ h → WS P cl q ss ρ h Q) : WS P cl q (.ite t x y :: ss) ρ h Q := by
  have h0 : ∀ r, Lp J Q r → Thn P cl q ss Q r := fun r => by cases r with | next ρ h => exact k2 ρ h | _ => exact id
  exact WS.ite (OKX.mono k (fun b _ k => ⟨fun e => WS.mono (k.1 e) h0, fun e => WS.mono (k.2 e) h0⟩) fun _ _ k => k)
theorem WS.raise {c : Nat} {m : List Nat} (hr : P.rz.contains c = true) (k : Q (.exc c ρ h)) : WS P cl true (.raise c m :: ss) ρ h Q :=
  WS.cons (by
    have h0 : ∀ {p : Prop} {_ : Decidable p}, p → Thn P cl true ss Q (if p then .exc c ρ h else .fail) := by intro p _ hp; rw [if_pos hp]; exact k
    exact h0 ⟨rfl, hr⟩)
theorem WS.setsub (k : EV P q (cl q) c ρ h (fun v h => EV P q (cl q) a ρ h (fun x h => EV P q (cl q) b ρ h (fun y h => OV (setItem h x y v) fun h' => WS P cl q ss ρ h' Q) (fun c h => Q (.exc c ρ h))) (fun c h => Q (.exc c ρ h))) (fun c h => Q (.exc c ρ h))) : WS P cl q (.setsub a b c :: ss) ρ h Q :=
  WS.cons (RSof (OKX.mono k (fun v _ k => RSof (OKX.mono k (fun x _ k => RSof (OKX.mono k (fun y _ ⟨h', e, k⟩ => by rw [e]; exact k) fun _ _ k => k)) fun _ _ k => k)) fun _ _ k => k))
theorem WS.setattr {i : Nat} (k : EV P q (cl q) c ρ h (fun v h => EV P q (cl q) a ρ h (fun x h => OV (setA P h x i v) fun h' => WS P cl q ss ρ h' Q) (fun c h => Q (.exc c ρ h))) (fun c h => Q (.exc c ρ h))) : WS P cl q (.setattr a i c :: ss) ρ h Q :=
  WS.cons (RSof (OKX.mono k (fun v _ k => RSof (OKX.mono k (fun x _ ⟨h', e, k⟩ => by rw [e]; exact k) fun _ _ k => k)) fun _ _ k => k))
/-- what a try's body comes to -/
noncomputable def Try (P : Prog) (cl : Bool → Nat → List V → H → R V) (q : Bool) (hs : List (Nat × Option Nat × List S)) (ss : List S) (Q : RS → Prop) : RS → Prop
  | .exc c ρ h => P.rz.contains c = true ∧ Thn P cl q ss Q (evHs P cl c hs ρ h)
  | r => Thn P cl q ss Q r
theorem WS.try {body : List S} {hs : List (Nat × Option Nat × List S)} (k : WS P cl q body ρ h (Try P cl q hs ss Q)) : WS P cl q (.try body hs :: ss) ρ h Q := by
  have h0 : ∀ r : RS, Try P cl q hs ss Q r → Thn P cl q ss Q (match r with
      | .exc c r' h' => if P.rz.contains c = true then evHs P cl c hs r' h' else .fail
      | x => x) := by
    intro r
    cases r with
    | exc c ρ' h' => intro k; dsimp only; rw [if_pos k.1]; exact k.2
    | next => exact id
    | ret => exact id
    | fail => exact id
  exact WS.cons (h0 _ k.un)
theorem Try.next {hs : List (Nat × Option Nat × List S)} (k : WS P cl q ss ρ h Q) : Try P cl q hs ss Q (.next ρ h) := k
theorem wHs_cons {hs : List (Nat × Option Nat × List S)} {c k : Nat} {x : Option Nat} {b : List S} : evHs P cl c ((k, x, b) :: hs) ρ h = if ((P.excs[c]?).getD []).contains k then clr x (evSs P cl false b (match x with | some i => ρ.set i (some (.exc c)) | none => ρ) h) else evHs P cl c hs ρ h := (rfl)
/-- the first clause takes it -/
theorem Try.here {hs : List (Nat × Option Nat × List S)} {c k : Nat} {i : Nat} {b : List S} (hr : P.rz.contains c = true) (he : ((P.excs[c]?).getD []).contains k = true)
    (kk : WS P cl false b (ρ.set i (some (.exc c))) h fun r => Thn P cl q ss Q (clr (some i) r)) : Try P cl q ((k, some i, b) :: hs) ss Q (.exc c ρ h) := by
  refine ⟨hr, ?_⟩
  rw [wHs_cons, if_pos he]; exact kk.un
theorem forLoop_nil {st : H → Bool} {step : V → Rho → H → RS} : forLoop st step [] ρ h = if st h then .next ρ h else .fail := (rfl)
theorem forLoop_cons {st : H → Bool} {step : V → Rho → H → RS} {v : V} {vs : List V} : forLoop st step (v :: vs) ρ h = if st h then (match step v ρ h with
      | .next r' h' => forLoop st step vs r' h'
      | x => x) else .fail := (rfl)
theorem forLoop_inv {α : Type} {f : α → V} {st : H → Bool} {step : V → Rho → H → RS} {I : List α → Rho → H → Prop} {Q : RS → Prop} (L : List α) (hst : ∀ pre ρ h, I pre ρ h → st h = true)
    (hs : ∀ pre y post ρ h, L = pre ++ y :: post → I pre ρ h → Lp (I (pre ++ [y])) Q (step (f y) ρ h)) (he : ∀ ρ h, I L ρ h → Q (.next ρ h)) : ∀ (rest pre : List α) (ρ : Rho) (h : H), L = pre ++ rest → I pre ρ h → Q (forLoop st step (rest.map f) ρ h)
  | [], pre, ρ, h, e, i => by
    rw [List.map_nil, forLoop_nil, if_pos (hst _ _ _ i)]
    exact he _ _ (by rw [e, List.append_nil]; exact i)
  | y :: rest, pre, ρ, h, e, i => by
    rw [List.map_cons, forLoop_cons, if_pos (hst _ _ _ i)]
    have := hs pre y rest ρ h e i
    revert this
    cases step (f y) ρ h with
    | next ρ' h' => intro j; exact forLoop_inv L hst hs he rest (pre ++ [y]) ρ' h' (by rw [e]; simp) j
    | ret => exact id
    | exc => exact id
    | fail => exact id
/-- a loop with an invariant over what it has taken -/
theorem WS.for1 {α : Type} (I : List α → Rho → H → Prop) {x : Nat} {it : It} {body : List S}
    (k : IT P true (cl true) it ρ h (fun s h₁ => ∃ (f : α → V) (L : List α) (live : Option (Nat × List V)), itemsOf h₁ s = some (L.map f, live) ∧ L.length ≤ 100000 ∧ I [] ρ h₁ ∧ (∀ pre ρ h, I pre ρ h → still h live = true)
      ∧ (∀ pre y post ρ h, L = pre ++ y :: post → I pre ρ h → WS P cl true body (ρ.set x (some (f y))) h (Lp (I (pre ++ [y])) Q)) ∧ (∀ ρ h, I L ρ h → WS P cl true ss ρ h Q)) (fun c h => Q (.exc c ρ h))) : WS P cl true (.for1 x it body :: ss) ρ h Q := by
  refine WS.cons (RSof (OKX.mono k (fun s h₁ ⟨f, L, live, e, hl, i, hst, hb, he⟩ => ?_) fun _ _ k => k))
  rw [e]
  dsimp only
  rw [if_pos ⟨rfl, by rw [List.length_map]; exact hl⟩]
  refine forLoop_inv (Q := Thn P cl true ss Q) L hst (fun pre y post ρ h e i => ?_) (fun ρ h i => he ρ h i) L [] ρ h₁ rfl i
  have := (hb pre y post ρ h e i).un
  revert this
  cases evSs P cl true body (ρ.set x (some (f y))) h <;> exact id
theorem WS.forN (I : Nat → Rho → H → Prop) {x : Nat} {it : It} {body : List S}
    (k : IT P true (cl true) it ρ h (fun s h₁ => ∃ (n : Nat) (f : Nat → V), itemsOf h₁ s = some ((List.range n).map f, none) ∧ n ≤ 100000 ∧ I 0 ρ h₁
      ∧ (∀ i ρ h, i < n → I i ρ h → WS P cl true body (ρ.set x (some (f i))) h (Lp (I (i + 1)) Q)) ∧ (∀ ρ h, I n ρ h → WS P cl true ss ρ h Q)) (fun c h => Q (.exc c ρ h))) : WS P cl true (.for1 x it body :: ss) ρ h Q := by
  refine WS.for1 (α := Nat) (fun pre => I pre.length) (OKX.mono k (fun s h₁ ⟨n, f, e, hl, i, hb, he⟩ => ⟨f, List.range n, none, e, by simpa using hl, i, fun _ _ _ _ => rfl, fun pre y post ρ h e' i => ?_, fun ρ h i => he ρ h (by simpa using i)⟩) fun _ _ k => k)
  have hy : y = pre.length := by
    have h1 : (List.range n)[pre.length]? = some y := by rw [e']; simp
    rw [List.getElem?_range] at h1
    · cases h1; rfl
    · have := congrArg List.length e'; simp at this; omega
  have hn : pre.length < n := by have := congrArg List.length e'; simp at this; omega
  subst hy
  simpa using hb pre.length ρ h hn i
theorem forLoop2_inv {α : Type} {f : α → V} {st : H → Bool} {step : Nat × V → Rho → H → RS} {I : List α → Rho → H → Prop} {Q : RS → Prop} (L : List α) (hst : ∀ pre ρ h, I pre ρ h → st h = true)
    (hs : ∀ pre y post ρ h, L = pre ++ y :: post → I pre ρ h → Lp (I (pre ++ [y])) Q (step (pre.length, f y) ρ h)) (he : ∀ ρ h, I L ρ h → Q (.next ρ h)) : ∀ (rest pre : List α) (ρ : Rho) (h : H), L = pre ++ rest → I pre ρ h → Q (forLoop2 st step (numbered pre.length (rest.map f)) ρ h)
  | [], pre, ρ, h, e, i => by
    show Q (if st h then .next ρ h else .fail)
    rw [if_pos (hst _ _ _ i)]
    exact he _ _ (by rw [e, List.append_nil]; exact i)
  | y :: rest, pre, ρ, h, e, i => by
    show Q (if st h then (step (pre.length, f y) ρ h).andThen (forLoop2 st step (numbered (pre.length + 1) (rest.map f))) else .fail)
    rw [if_pos (hst _ _ _ i)]
    have := hs pre y rest ρ h e i
    revert this
    cases step (pre.length, f y) ρ h with
    | next ρ' h' =>
      intro j
      have := forLoop2_inv L hst hs he rest (pre ++ [y]) ρ' h' (by rw [e]; simp) j
      rw [List.length_append] at this; exact this
    | ret => exact id
    | exc => exact id
    | fail => exact id
/-- a loop with numbers -/
theorem WS.for2 {α : Type} (I : List α → Rho → H → Prop) {x z : Nat} {it : E} {body : List S}
    (k : EV P true (cl true) it ρ h (fun s h₁ => ∃ (f : α → V) (L : List α) (live : Option (Nat × List V)), listIt h₁ s = some (L.map f, live) ∧ L.length ≤ 100000 ∧ I [] ρ h₁ ∧ (∀ pre ρ h, I pre ρ h → still h live = true)
      ∧ (∀ pre y post ρ h, L = pre ++ y :: post → I pre ρ h → WS P cl true body ((ρ.set x (some (.int pre.length))).set z (some (f y))) h (Lp (I (pre ++ [y])) Q)) ∧ (∀ ρ h, I L ρ h → WS P cl true ss ρ h Q)) (fun c h => Q (.exc c ρ h))) : WS P cl true (.for2 x z it body :: ss) ρ h Q := by
  refine WS.cons (RSof (OKX.mono k (fun s h₁ ⟨f, L, live, e, hl, i, hst, hb, he⟩ => ?_) fun _ _ k => k))
  rw [e]
  dsimp only
  rw [if_pos ⟨rfl, by rw [List.length_map]; exact hl⟩]
  refine forLoop2_inv (Q := Thn P cl true ss Q) L hst (fun pre y post ρ h e i => ?_) (fun ρ h i => he ρ h i) L [] ρ h₁ rfl i
  have := (hb pre y post ρ h e i).un
  revert this
  cases evSs P cl true body ((ρ.set x (some (.int pre.length))).set z (some (f y))) h <;> exact id
end

-- comprehensions
section
variable {ρ : Rho} {h : H} {Q : V → H → Prop} {X : Nat → H → Prop}
theorem at_end {h : H} {m : M} : (h ++ [m])[h.length]? = some m := by
  rw [List.getElem?_append_right (Nat.le_refl _), Nat.sub_self]; rfl
theorem set_end {h : H} {m m' : M} : (h ++ [m]).set h.length m' = h ++ [m'] := by
  rw [List.set_append_right _ _ (Nat.le_refl _), Nat.sub_self]; rfl
theorem endComp_cut {h : H} {ys : List V} (hu : V.refsUnder h.length ys = true) : endComp false h (h ++ [.list ys]) = .ok (.lst ys) h := by
  unfold endComp
  rw [at_end]
  dsimp only
  rw [if_neg Bool.false_ne_true, if_pos ⟨List.take_left, hu⟩]
theorem compLoop_nil {st : H → Bool} {step : V → H → R Unit} : compLoop st step [] h = if st h then .ok () h else .fail := (rfl)
theorem compLoop_cons {st : H → Bool} {step : V → H → R Unit} {v : V} {vs : List V} : compLoop st step (v :: vs) h = if st h then (step v h).bind fun _ h' => compLoop st step vs h' else .fail := (rfl)
theorem compLoop_fm {α : Type} {f : α → V} {g : α → Option V} {st : H → Bool} {step : V → H → R Unit} (hs : ∀ ys, st (h ++ [.list ys]) = true) : ∀ (L : List α) (acc : List V), (∀ y ∈ L, ∀ ys, ys.length < acc.length + L.length → step (f y) (h ++ [.list ys]) = .ok () (h ++ [.list (ys ++ (g y).toList)])) → compLoop st step (L.map f) (h ++ [.list acc]) = .ok () (h ++ [.list (acc ++ L.filterMap g)])
  | [], acc, _ => by rw [List.map_nil, compLoop_nil, if_pos (hs acc), List.filterMap_nil, List.append_nil]
  | y :: L, acc, e => by
    rw [List.map_cons, compLoop_cons, if_pos (hs acc), e y List.mem_cons_self acc (by simp)]
    show compLoop st step (L.map f) (h ++ [.list (acc ++ (g y).toList)]) = _
    rw [compLoop_fm hs L (acc ++ (g y).toList) fun w hw ys hl => e w (List.mem_cons_of_mem _ hw) ys (by
      have : (g y).toList.length ≤ 1 := by cases g y <;> simp
      rw [List.length_append] at hl; rw [List.length_cons]; omega)]
    rw [List.filterMap_cons, List.append_assoc]
    cases g y <;> rfl
/-- a turn of a comprehension -/
noncomputable def Turn (P : Prog) (cf : Nat → List V → H → R V) (x : Nat) (elt : E) (ifs : List C) (ρ : Rho) (h : H) (v : V) (o : Option V) : Prop :=
  ∀ ys, CCi P true cf ifs (ρ.set x (some v)) (h ++ [.list ys]) (fun t h' => SP t (EV P true cf elt (ρ.set x (some v)) h' (fun w h'' => o = some w ∧ h'' = h ++ [.list ys]) (fun _ _ => False)) (o = none ∧ h' = h ++ [.list ys])) (fun _ _ => False)
theorem OKX.inv {α : Type} {r : R α} {Q : α → H → Prop} {X : Nat → H → Prop} (k : OKX Q X r) : (∃ v h, r = .ok v h ∧ Q v h) ∨ (∃ c h, r = .exc c h ∧ X c h) := by
  cases k with
  | ok k => exact .inl ⟨_, _, rfl, k⟩
  | exc k => exact .inr ⟨_, _, rfl, k⟩
theorem Turn.step {x : Nat} {elt : E} {ifs : List C} {v : V} {o : Option V} (k : Turn P cf x elt ifs ρ h v o) {ys : List V} (hl : ys.length < 100000) :
    ((evIfs P true cf ifs (ρ.set x (some v)) (h ++ [.list ys])).bind fun t h' => if t then (evE P true cf elt (ρ.set x (some v)) h').bind fun y h' => (bmV .append h' (.ref h.length) [y]).bind fun _ h' => .ok () h' else .ok () h') = .ok () (h ++ [.list (ys ++ o.toList)]) := by
  rcases OKX.inv (k ys) with ⟨t, h₁, e, k⟩ | ⟨_, _, _, k⟩
  · rw [e]
    show (if t = true then _ else _) = _
    cases t with
    | false =>
      obtain ⟨ho, hh⟩ := k.2 rfl
      rw [ho, hh]; simp
    | true =>
      rw [if_pos rfl]
      rcases OKX.inv (k.1 rfl) with ⟨w, h₂, e, ho, hh⟩ | ⟨_, _, _, k⟩
      · rw [e, ho, hh]
        have : RV (bmV .append (h ++ [.list ys]) (.ref h.length) [w]) (fun _ h' => h' = h ++ [.list (ys ++ [w])]) (fun _ _ => False) := app_r at_end (by omega) set_end
        rcases OKX.inv this with ⟨u, h₃, e, hh⟩ | ⟨_, _, _, k⟩
        · show (bmV .append (h ++ [.list ys]) (.ref h.length) [w]).bind _ = _
          rw [e, hh]; rfl
        · exact k.elim
      · exact k.elim
  · exact k.elim
theorem EV.comp {α : Type} {x : Nat} {elt : E} {it : It} {ifs : List C} (k : IT P true cf it ρ h (fun s h₁ => ∃ (f : α → V) (L : List α) (live : Option (Nat × List V)) (g : α → Option V), itemsOf h₁ s = some (L.map f, live) ∧ L.length ≤ 100000 ∧ (∀ ys, still (h₁ ++ [.list ys]) live = true)
      ∧ (∀ y ∈ L, Turn P cf x elt ifs ρ h₁ (f y) (g y)) ∧ V.refsUnder h₁.length (L.filterMap g) = true ∧ Q (.lst (L.filterMap g)) h₁) X) : EV P true cf (.comp false x elt it ifs) ρ h Q X := by
  refine OKX_bind (OKX.mono k (fun s h₁ ⟨f, L, live, g, e, hl, hst, ht, hu, k⟩ => ?_) fun _ _ k => k)
  rw [e]
  dsimp only
  rw [if_pos ⟨rfl, by rw [List.length_map]; exact hl⟩, show h₁ ++ [M.list []] = h₁ ++ [.list []] from rfl, compLoop_fm (g := g) hst L [] fun y hy ys hys => (ht y hy).step (by simp at hys; omega)]
  show OKX Q X (endComp false h₁ (h₁ ++ [.list ([] ++ L.filterMap g)]))
  rw [List.nil_append, endComp_cut hu]; exact .ok k
theorem fm_filter {α : Type} {g : α → V} {p : α → Bool} {L : List α} : L.filterMap (fun a => if p a then some (g a) else none) = (L.filter p).map g := by
  induction L with
  | nil => rfl
  | cons a L ih =>
    rw [List.filterMap_cons, List.filter_cons]
    cases p a <;> simp [ih]
theorem refsUnder_map {α : Type} {f : α → V} {n : Nat} (hf : ∀ a, (f a).refUnder n = true) : ∀ xs : List α, V.refsUnder n (xs.map f) = true
  | [] => rfl
  | x :: xs => by rw [List.map_cons]; exact (Bool.and_eq_true _ _).mpr ⟨hf x, refsUnder_map hf xs⟩
end

-- calls
section
variable {h : H}
/-- a pure function's end -/
inductive Ret (h : H) : V → RS → Prop where
  | ret {v : V} {ρ : Rho} {h' : H} (e : h'.take h.length = h) : Ret h v (.ret v ρ h')
  | next {ρ : Rho} {h' : H} (e : h'.take h.length = h) : Ret h .none (.next ρ h')
theorem Ret.eq0 {v v' : V} {ρ : Rho} (e : v' = v) : Ret h v (.ret v' ρ h) := e ▸ .ret List.take_length
theorem Ret.eq {v v' : V} {ρ : Rho} {l : H} (e : v' = v) : Ret h v (.ret v' ρ (h ++ l)) := e ▸ .ret List.take_left
theorem Ret.nx0 {ρ : Rho} : Ret h .none (.next ρ h) := .next List.take_length
theorem callN_eq {d f : Nat} {vs : List V} {F : Fn} (hf : P.fn f = some F) (hn : vs.length = F.npar) : callN P (d + 1) q f vs h = fin F.pure h (ofRS (evSs P (callN P d) q F.body (vs.map some ++ List.replicate (F.nloc - F.npar) none) h)) := by
  have h0 : ∀ o : Option Fn, o = some F → (match o with
    | none => .fail
    | some F => if vs.length = F.npar then fin F.pure h (ofRS (evSs P (callN P d) q F.body (vs.map some ++ List.replicate (F.nloc - F.npar) none) h)) else .fail) = fin F.pure h (ofRS (evSs P (callN P d) q F.body (vs.map some ++ List.replicate (F.nloc - F.npar) none) h)) := by
    rintro _ rfl; dsimp only; rw [if_pos hn]
  exact h0 _ hf
theorem call_pure {d f : Nat} {vs : List V} {F : Fn} {ρ : Rho} {v : V} (hf : P.fn f = some F) (hn : vs.length = F.npar) (hρ : vs.map some ++ List.replicate (F.nloc - F.npar) none = ρ) (hp : F.pure = true) (hr : v.refUnder h.length = true)
    (k : WS P (callN P d) q F.body ρ h (Ret h v)) : callN P (d + 1) q f vs h = .ok v h := by
  subst hρ
  rw [callN_eq hf hn, hp]
  have k := k.un
  revert k
  cases evSs P (callN P d) q F.body (vs.map some ++ List.replicate (F.nloc - F.npar) none) h with
  | ret v' ρ' h' => rintro ⟨e⟩; rw [ofRS, fin, if_pos rfl, if_pos ⟨e, hr⟩]
  | next ρ' h' => intro k; cases k; rename_i e; rw [ofRS, fin, if_pos rfl, if_pos ⟨e, hr⟩]
  | exc => intro k; cases k
  | fail => intro k; cases k
/-- some value -/
inductive RetP (h : H) (A : V → Prop) : RS → Prop where
  | ret {v : V} {ρ : Rho} {h' : H} (e : h'.take h.length = h) (a : A v) (r : v.refUnder h.length = true) : RetP h A (.ret v ρ h')
theorem RetP.of0 {A : V → Prop} {v : V} {ρ : Rho} (a : A v) (r : v.refUnder h.length = true) : RetP h A (.ret v ρ h) := .ret List.take_length a r
theorem call_some {d f : Nat} {vs : List V} {F : Fn} {ρ : Rho} {A : V → Prop} (hf : P.fn f = some F) (hn : vs.length = F.npar) (hρ : vs.map some ++ List.replicate (F.nloc - F.npar) none = ρ) (hp : F.pure = true)
    (k : WS P (callN P d) q F.body ρ h (RetP h A)) : ∃ v, callN P (d + 1) q f vs h = .ok v h ∧ A v := by
  subst hρ
  rw [callN_eq hf hn, hp]
  have k := k.un
  revert k
  cases evSs P (callN P d) q F.body (vs.map some ++ List.replicate (F.nloc - F.npar) none) h with
  | ret v' ρ' h' => rintro ⟨e, a, r⟩; exact ⟨v', by rw [ofRS, fin, if_pos rfl, if_pos ⟨e, r⟩], a⟩
  | next => intro k; cases k
  | exc => intro k; cases k
  | fail => intro k; cases k
/-- a function that changes the heap -/
theorem call_imp {d f : Nat} {vs : List V} {F : Fn} {ρ : Rho} {A : R V → Prop} (hf : P.fn f = some F) (hn : vs.length = F.npar) (hρ : vs.map some ++ List.replicate (F.nloc - F.npar) none = ρ) (hp : F.pure = false)
    (k : WS P (callN P d) q F.body ρ h fun r => A (ofRS r)) : A (callN P (d + 1) q f vs h) := by
  subst hρ
  rw [callN_eq hf hn, hp]; exact k.un
end
end
-- several rules at once
section
variable {P : Prog} {q : Bool} {cf : Nat → List V → H → R V} {cl : Bool → Nat → List V → H → R V}
variable {ρ : Rho} {h : H} {X : Nat → H → Prop} {i j k m : Nat} {c x y z u : V}
section
variable {Q : V → H → Prop} {Qb : Bool → H → Prop} {Qs : List V → H → Prop} {op : Op} {co : COp}
theorem EV.binvc (e : ρ[i]? = some (some x)) (k : RV (binV op h x c) Q X) : EV P q cf (.bin op (.var i) (.const c)) ρ h Q X := EV.bin (EV.var e (EV.const k))
theorem EV.binvv (e : ρ[i]? = some (some x)) (e' : ρ[j]? = some (some y)) (k : RV (binV op h x y) Q X) : EV P q cf (.bin op (.var i) (.var j)) ρ h Q X := EV.bin (EV.var e (EV.var e' k))
theorem EV.cmpvc (e : ρ[i]? = some (some x)) (k : OV (cmpV co h x c) fun t => Q (.bool t) h) : EV P q cf (.cmp co (.var i) (.const c)) ρ h Q X := EV.cmp (EV.var e (EV.const k))
theorem EV.cmpvv (e : ρ[i]? = some (some x)) (e' : ρ[j]? = some (some y)) (k : OV (cmpV co h x y) fun t => Q (.bool t) h) : EV P q cf (.cmp co (.var i) (.var j)) ρ h Q X := EV.cmp (EV.var e (EV.var e' k))
theorem CC.cmpvc (e : ρ[i]? = some (some x)) (k : OV (cmpV co h x c) fun t => Qb t h) : CC P q cf (.t (.cmp co (.var i) (.const c))) ρ h Qb X := by
  obtain ⟨t, e', k⟩ := k; exact CC.t (EV.cmpvc e ⟨t, e', TV.of k⟩)
theorem CC.cmpvv (e : ρ[i]? = some (some x)) (e' : ρ[j]? = some (some y)) (k : OV (cmpV co h x y) fun t => Qb t h) : CC P q cf (.t (.cmp co (.var i) (.var j))) ρ h Qb X := by
  obtain ⟨t, e'', k⟩ := k; exact CC.t (EV.cmpvv e e' ⟨t, e'', TV.of k⟩)
theorem EV.subvv (e : ρ[i]? = some (some x)) (e' : ρ[j]? = some (some y)) (k : OV (getItem h x y) fun v => Q v h) : EV P q cf (.sub (.var i) (.var j)) ρ h Q X := EV.sub (EV.var e (EV.var e' k))
theorem EVs.v1 (e : ρ[i]? = some (some x)) (k : Qs [x] h) : EVs P q cf [.var i] ρ h Qs X := EVs.cons (EV.var e (EVs.nil k))
theorem EVs.v2 (e : ρ[i]? = some (some x)) (e' : ρ[j]? = some (some y)) (k : Qs [x, y] h) : EVs P q cf [.var i, .var j] ρ h Qs X := EVs.cons (EV.var e (EVs.v1 e' k))
theorem EVs.v3 (e : ρ[i]? = some (some x)) (e' : ρ[j]? = some (some y)) (e'' : ρ[k]? = some (some z)) (kk : Qs [x, y, z] h) : EVs P q cf [.var i, .var j, .var k] ρ h Qs X := EVs.cons (EV.var e (EVs.v2 e' e'' kk))
theorem EVs.vc (e : ρ[i]? = some (some x)) (k : Qs [x, c] h) : EVs P q cf [.var i, .const c] ρ h Qs X := EVs.cons (EV.var e (EVs.cons (EV.const (EVs.nil k))))
end
section
variable {Q : RS → Prop} {ss : List S}
theorem WS.retv (e : ρ[i]? = some (some x)) (k : Q (.ret x ρ h)) : WS P cl q (.ret (.var i) :: ss) ρ h Q := WS.ret (EV.var e k)
theorem WS.retc (k : Q (.ret c ρ h)) : WS P cl q (.ret (.const c) :: ss) ρ h Q := WS.ret (EV.const k)
theorem WS.asgc (k : WS P cl q ss (ρ.set j (some c)) h Q) : WS P cl q (.assign j (.const c) :: ss) ρ h Q := WS.assign (EV.const k)
theorem CC.rf {t : C} {b : Bool} {cf : Nat → List V → H → R V} {Qb : Bool → H → Prop} (e : evC P q cf t ρ h = .ok b h) (k : Qb b h) : CC P q cf t ρ h Qb X := by
  show OKX Qb X (evC P q cf t ρ h); rw [e]; exact .ok k
end
end
end Mine
end
section
set_option linter.all false
namespace Mine.Law
end Mine.Law
end
section
set_option linter.all false
set_option maxHeartbeats 4000000
namespace Mine.Law



section
variable {P : Prog} {q : Bool} {h : H} {d : Nat}
noncomputable def cellAt (xs : List Int) (k : Nat) : Int := xs.getD k 0
theorem c_cell_at (hP : P.fn 2 = some fn_cell_at) {xs : List Int} (hx : xs.length ≤ 100000) {k : Int} (hk : 0 ≤ k) (hk' : k < 1000000) : callN P (d + 1) q 2 [.lst (xs.map .int), .int k] h = .ok (.int (cellAt xs k.toNat)) h := by
  refine call_pure (ρ := [_, _]) hP rfl rfl rfl rfl ?_
  dsimp only [fn_cell_at]
  repeat' (first | ((with_reducible apply EV.subvv); exact rfl; exact rfl) | ((with_reducible apply EVs.v1); exact rfl) | with_reducible apply WS.retc | ((with_reducible apply EV.var); exact rfl) | with_reducible apply EV.cmp | with_reducible apply EV.bi | with_reducible apply CC.t | with_reducible apply TV.of | with_reducible refine SP.dec (fun _ => ?_) (fun _ => ?_) | with_reducible apply WS.ret | with_reducible apply WS.nil | with_reducible apply Thn.next | with_reducible apply cv_lt | ((with_reducible apply len_m); (first | assumption | omega)) | with_reducible apply WS.ite)
  · refine gi_ints hk hk' (by omega) ?_
    exact Ret.eq0 rfl
  · have : xs.getD k.toNat 0 = 0 := by rw [List.getD_eq_getElem?_getD, List.getElem?_eq_none (by omega)]; rfl
    rw [cellAt, this]; exact Ret.eq0 rfl
theorem c_whole (hP : P.fn 3 = some fn_whole) {i : Int} : callN P (d + 1) q 3 [.int i] h = .ok (.bool true) h := by
  refine call_pure (ρ := [_]) hP rfl rfl rfl rfl ?_
  dsimp only [fn_whole]
  repeat' (first | ((with_reducible apply EV.var); exact rfl) | with_reducible apply EV.and | with_reducible apply EVa.cons | with_reducible apply EVa.one | with_reducible apply EV.not | ((with_reducible apply EV.isinst); exact rfl) | with_reducible apply TV.of | with_reducible apply SP.tt | with_reducible apply WS.ret | ((with_reducible apply ii_t); exact rfl) | ((with_reducible apply ii_f); exact rfl) | ((with_reducible apply Ret.eq0); exact rfl))
noncomputable def mixed (i : Int) : Int := i * 48271 % 2147483647
theorem c_mixed (hP : P.fn 4 = some fn_mixed) {i : Int} : callN P (d + 1) q 4 [.int i] h = .ok (.int (mixed i)) h := by
  refine call_pure (ρ := [_]) hP rfl rfl rfl rfl ?_
  dsimp only [fn_mixed]
  repeat' (first | ((with_reducible apply EV.binvc); exact rfl) | with_reducible apply EV.const | with_reducible apply EV.bin | with_reducible apply WS.ret | ((with_reducible apply bv_mul); rotate_left; (first | decide | omega); (first | decide | omega)) | ((with_reducible apply bv_mod); rotate_left; (first | decide | omega)) | ((with_reducible apply Ret.eq0); exact rfl))
/-- all exceptions of the project -/
structure Errs (P : Prog) : Prop where
  excs : P.excs = [[0], [1, 0], [2, 0], [3, 0], [4, 0], [5, 0]]
  rz : P.rz = [0, 1, 2, 3, 4, 5]
theorem Errs.okT (Er : Errs P) {t : Ty} : Mine.okT P t = true := by
  cases t <;> first | rfl | (show (!P.rz.isEmpty) = true; rw [Er.rz]; rfl)
theorem five : ∀ {c : Nat}, 1 ≤ c → c ≤ 5 → c = 1 ∨ c = 2 ∨ c = 3 ∨ c = 4 ∨ c = 5
  | 0, h, _ => absurd h (by decide)
  | 1, _, _ => .inl rfl
  | 2, _, _ => .inr (.inl rfl)
  | 3, _, _ => .inr (.inr (.inl rfl))
  | 4, _, _ => .inr (.inr (.inr (.inl rfl)))
  | 5, _, _ => .inr (.inr (.inr (.inr rfl)))
  | n + 6, _, h => absurd h (Nat.not_le_of_lt (Nat.lt_of_lt_of_le (by decide) (Nat.le_add_left 6 n)))
theorem Errs.isC (Er : Errs P) {c k : Nat} (h1 : 1 ≤ c) (h2 : c ≤ 5) : isInst P h (.exc c) (.cls k) = some ([c, 0].contains k) := by
  show (if P.rz.contains c then (P.excs[c]?).map (fun l => l.contains k) else none) = _
  rw [Er.rz, Er.excs]
  have := five h1 h2
  rcases this with rfl | rfl | rfl | rfl | rfl <;> rfl
theorem Errs.isV (Er : Errs P) {c : Nat} (h1 : 1 ≤ c) (h2 : c ≤ 5) : isInst P h (.exc c) .valueError = some true := by
  show (if P.rz.contains c then some true else none) = _
  rw [Er.rz]
  have := five h1 h2
  rcases this with rfl | rfl | rfl | rfl | rfl <;> rfl
theorem c_alone (hP : P.fn 10 = some fn_alone) (Er : Errs P) {c : Nat} (h1 : 1 ≤ c) (h2 : c ≤ 5) {i : Int} (hi : i = c - 1) : callN P (d + 1) q 10 [.exc c, .int i] h = .ok (.bool true) h := by
  refine call_pure (ρ := [_, _, _]) hP rfl rfl rfl rfl ?_
  dsimp only [fn_alone]
  have is : ∀ {e : E} {k : Nat} {ρ : Rho} {h : H} {Q : V → H → Prop} {X : Nat → H → Prop}, EV P q (callN P d q) e ρ h (fun v h => v = .exc c ∧ Q (.bool ([c, 0].contains k)) h) X → EV P q (callN P d q) (.isinst e (.cls k)) ρ h Q X := fun k =>
    EV.isinst Er.okT (OKX.mono k (fun v h ⟨e, k⟩ => by rw [e]; exact ⟨_, Er.isC h1 h2, k⟩) fun _ _ k => k)
  have is' : ∀ {e : E} {ρ : Rho} {h : H} {Q : V → H → Prop} {X : Nat → H → Prop}, EV P q (callN P d q) e ρ h (fun v h => v = .exc c ∧ Q (.bool true) h) X → EV P q (callN P d q) (.isinst e .valueError) ρ h Q X := fun k =>
    EV.isinst Er.okT (OKX.mono k (fun v h ⟨e, k⟩ => by rw [e]; exact ⟨_, Er.isV h1 h2, k⟩) fun _ _ k => k)
  repeat' (first | (first | ((with_reducible apply EV.var); exact rfl) | with_reducible apply EVs.cons | with_reducible apply EVs.nil | with_reducible apply EV.list1 | with_reducible apply EV.bm | ((with_reducible apply KM.lst at_end); exact rfl) | with_reducible apply KE.of | with_reducible apply WS.assign | with_reducible apply WS.expr) | apply is | apply And.intro rfl)
  refine app_r at_end (by simp) ?_
  rw [set_end]
  have hc := five h1 h2
  have hcount : ((List.countP (fun x => eqV x (.bool true)) ([V.bool ([c, 0].contains 1), V.bool ([c, 0].contains 2), V.bool ([c, 0].contains 3), V.bool ([c, 0].contains 4)] ++ [V.bool ([c, 0].contains 5)]) : Nat) : Int) = 1 := by
    rcases hc with rfl | rfl | rfl | rfl | rfl <;> rfl
  repeat' (first | ((with_reducible apply EV.var); exact rfl) | with_reducible apply EV.const | with_reducible apply EVs.cons | with_reducible apply EVs.nil | with_reducible apply EV.cmp | with_reducible apply EV.and | with_reducible apply EVa.cons | with_reducible apply EV.bm | ((with_reducible apply KM.lst at_end); exact rfl) | with_reducible apply KE.of | with_reducible apply WS.ret)
  refine count_q (listOf_r at_end) rfl rfl ?_
  repeat' (first | ((with_reducible apply EV.subvv); exact rfl; exact rfl) | with_reducible apply EV.const | with_reducible apply EVa.cons | with_reducible apply TV.of | ((with_reducible apply SP.dt); (first | assumption | exact rfl | omega)) | with_reducible apply cv_eq)
  refine gi_ref (v := .bool true) at_end (by omega) (by omega) (by rw [hi]; rcases hc with rfl | rfl | rfl | rfl | rfl <;> rfl) ?_
  repeat' (first | (first | ((with_reducible apply EV.var); exact rfl) | with_reducible apply EVa.cons | with_reducible apply TV.of | with_reducible apply SP.tt) | apply is | apply is' | apply And.intro rfl)
  refine SP.t (by rcases hc with rfl | rfl | rfl | rfl | rfl <;> rfl) ?_
  repeat' (first | (first | ((with_reducible apply EV.var); exact rfl) | with_reducible apply EVa.one | ((with_reducible apply Ret.eq); exact rfl)) | apply is | apply is' | apply And.intro rfl)
end


section
variable {P : Prog} {q : Bool} {h : H} {d : Nat}
noncomputable def wholeV (lo hi : Int) (v : V) : Bool := match v with
  | .int k => decide (lo ≤ k) && decide (k ≤ hi)
  | _ => false
/-- what may stand behind the word -/
inductive Elt : V → Prop where
  | int {i : Int} : Elt (.int i)
  | bool {i : Bool} : Elt (.bool i)
  | str {i : List Nat} : Elt (.str i)
  | none : Elt .none
  | lst : Elt (.lst [.int 0])
theorem c_is_whole (hP : P.fn 12 = some fn_is_whole) {v : V} (hv : Elt v) {lo hi : Int} : callN P (d + 1) q 12 [v, .int lo, .int hi] h = .ok (.bool (wholeV lo hi v)) h := by
  cases hv with
  | int =>
    refine call_pure (ρ := [_, _, _]) hP rfl rfl rfl rfl ?_
    dsimp only [fn_is_whole]
    repeat' (first | ((with_reducible apply EV.var); exact rfl) | with_reducible apply EV.and | with_reducible apply EVa.cons | with_reducible apply EVa.one | with_reducible apply EV.not | ((with_reducible apply EV.isinst); exact rfl) | with_reducible apply EV.cmp2 | with_reducible apply TV.of | with_reducible apply SP.not | with_reducible apply SP.tt | with_reducible apply SP.ff | with_reducible refine SP.dec (fun _ => ?_) (fun _ => ?_) | with_reducible apply WS.ret | with_reducible apply cv_le | ((with_reducible apply ii_t); exact rfl) | ((with_reducible apply ii_f); exact rfl))
    all_goals exact Ret.eq0 (by simp only [wholeV]; simp [*])
  | _ =>
    refine call_pure (ρ := [_, _, _]) hP rfl rfl rfl rfl ?_
    dsimp only [fn_is_whole]
    repeat' (first | ((with_reducible apply EV.var); exact rfl) | with_reducible apply EV.and | with_reducible apply EVa.cons | with_reducible apply EV.not | ((with_reducible apply EV.isinst); exact rfl) | with_reducible apply TV.of | with_reducible apply SP.not | with_reducible apply SP.tt | with_reducible apply SP.ff | with_reducible apply WS.ret | ((with_reducible apply ii_t); exact rfl) | ((with_reducible apply ii_f); exact rfl) | ((with_reducible apply Ret.eq0); exact rfl))
end


section
variable {P : Prog} {q : Bool} {h : H} {d : Nat}
theorem atL {l : H} {i : Nat} : (h ++ l)[h.length + i]? = l[i]? := by
  rw [List.getElem?_append_right (Nat.le_add_right _ _), Nat.add_sub_cancel_left]
theorem setL {l : H} {i : Nat} {m : M} : (h ++ l).set (h.length + i) m = h ++ l.set i m := by
  rw [List.set_append_right _ _ (Nat.le_add_right _ _), Nat.add_sub_cancel_left]
theorem atL0 {l : H} : (h ++ l)[h.length]? = l[0]? := atL (i := 0)
theorem setL0 {l : H} {m : M} : (h ++ l).set h.length m = h ++ l.set 0 m := setL (i := 0)
theorem getA_in {x : V} {n c k i : Nat} {fs : List V} {cl : Cls} {v : V} {Q : V → Prop} (hx : x = .ref n) (h1 : h[n]? = some (.inst c fs)) (h2 : P.clss[c]? = some cl) (h3 : cl.attrs.findIdx? (· == k) = some i) (h4 : fs[i]? = some v) (kk : Q v) : OV (getA P h x k) Q := by
  refine ⟨v, ?_, kk⟩
  subst hx
  unfold getA
  dsimp only
  rw [h1]; dsimp only
  rw [h2]; dsimp only
  rw [h3]; exact h4
theorem setA_in {n c k i : Nat} {fs : List V} {cl : Cls} {v : V} {Q : H → Prop} (h1 : h[n]? = some (.inst c fs)) (h2 : P.clss[c]? = some cl) (h3 : cl.attrs.findIdx? (· == k) = some i) (h4 : i = fs.length) (kk : Q (h.set n (.inst c (fs ++ [v])))) : OV (setA P h (.ref n) k v) Q := by
  refine ⟨_, ?_, kk⟩
  unfold setA
  dsimp only
  rw [h1]; dsimp only
  rw [h2]; dsimp only
  rw [h3]; dsimp only
  rw [if_neg (by omega), if_pos h4]
theorem methOf_in {n c m f : Nat} {fs : List V} {cl : Cls} (h1 : h[n]? = some (.inst c fs)) (h2 : P.clss[c]? = some cl) (h3 : cl.meths.lookup m = some f) : methOf P h (.ref n) m = some f := by
  unfold methOf
  dsimp only
  rw [h1]; dsimp only
  rw [h2]; exact h3
end


section
variable {P : Prog} {q : Bool} {h : H} {d : Nat}
theorem c_size_by (hP : P.fn 16 = some fn_size_by) {i : Int} : ∃ v, callN P (d + 1) q 16 [.int i] h = .ok v h ∧ ∃ n : Int, v = .int n ∧ 1 ≤ n ∧ n ≤ 200 := by
  refine call_some (ρ := [_]) hP rfl rfl rfl ?_
  dsimp only [fn_size_by]
  repeat' (first | ((with_reducible apply EV.binvc); exact rfl) | with_reducible apply EV.const | with_reducible apply EVs.cons | with_reducible apply EVs.nil | with_reducible apply EV.bin | with_reducible apply EV.sub | with_reducible apply EV.list0 | with_reducible apply WS.ret | with_reducible apply bv_add | ((with_reducible apply bv_div); rotate_left; (first | decide | omega); (first | decide | omega)) | ((with_reducible apply bv_mod); rotate_left; (first | decide | omega)))
  refine gi_anyI 0 3 (by omega) (by simp; omega) (by decide) rfl fun n h1 h2 => ?_
  refine gi_anyI 1 200 h1 (by simp; omega) (by simp) ?_ fun n h1 h2 => ?_
  · simp [intIn]; omega
  exact RetP.of0 ⟨_, rfl, h1, h2⟩ rfl
end


section
/-- the holder's shape, and what it holds: the lines near, those that were changed, the boxes far off, the boxes as they are, the counts -/
structure Shape where
  room : Nat
  width : Nat
  least : Bool
structure NS where
  order : List Int
  dirty : List Int
  far : List Int
  plain : List Int
  found : Nat
  missed : Nat
  back : Nat
noncomputable def lineOf (w : Nat) (xs : List Int) (l : Int) : List Int := (xs.drop (l * w).toNat).take w
noncomputable def farP (far plain : List Int) (a j : Nat) : List Int := (List.range far.length).map fun k => if a ≤ k ∧ k < a + j then plain.getD k 0 else far.getD k 0
noncomputable def wback (w : Nat) (s : NS) (l : Int) : NS :=
  if l ∈ s.dirty then { s with far := farP s.far s.plain (l * w).toNat w, dirty := s.dirty.filter (· != l), back := s.back + 1 } else s
noncomputable def firstN (sh : Shape) (s : NS) : NS :=
  if s.order.length = sh.room then wback sh.width { s with order := s.order.tail } (s.order.headD 0) else s
noncomputable def touchN (sh : Shape) (s : NS) (l : Int) : NS :=
  if l ∈ s.order then { s with found := s.found + 1, order := if sh.least then s.order.filter (· != l) ++ [l] else s.order }
  else { firstN sh { s with missed := s.missed + 1 } with order := (firstN sh { s with missed := s.missed + 1 }).order ++ [l] }
noncomputable def markN (l : Int) (dirty : List Int) : List Int := if l ∈ dirty then dirty else dirty ++ [l]
noncomputable def rdN (sh : Shape) (s : NS) (b : Nat) : NS := touchN sh s ((b : Int) / sh.width)
noncomputable def wrN (sh : Shape) (s : NS) (b : Nat) (v : Int) : NS :=
  { rdN sh s b with plain := (rdN sh s b).plain.set b v, dirty := markN ((b : Int) / sh.width) (rdN sh s b).dirty }
structure NInv (sh : Shape) (s : NS) : Prop where
  w1 : 1 ≤ sh.width
  w2 : sh.width ≤ 200
  r1 : 1 ≤ sh.room
  r2 : sh.room ≤ 200
  len : s.far.length = s.plain.length
  sz : s.plain.length ≤ 200
  nd : s.order.Nodup
  rm : s.order.length ≤ sh.room
  rg : ∀ l ∈ s.order, 0 ≤ l ∧ l * sh.width < s.plain.length
  ds : ∀ l ∈ s.dirty, l ∈ s.order
  dn : s.dirty.Nodup
  sm : ∀ k : Nat, ((k : Int) / sh.width) ∉ s.dirty → s.far[k]? = s.plain[k]?
variable {sh : Shape} {s : NS} {w : Nat} {far plain xs : List Int} {a j k : Nat} {l : Int}
theorem div_is (hw : 1 ≤ w) (hl : 0 ≤ l) : (k : Int) / w = l ↔ ((l * w).toNat ≤ k ∧ k < (l * w).toNat + w) := by
  have h1 : 0 ≤ l * (w : Int) := Int.mul_nonneg hl (by omega)
  constructor
  · rintro rfl
    have e := Int.emod_add_mul_ediv (k : Int) w
    have e1 := Int.emod_nonneg (k : Int) (show (w : Int) ≠ 0 by omega)
    have e2 := Int.emod_lt_of_pos (k : Int) (show 0 < (w : Int) by omega)
    rw [Int.mul_comm] at e
    omega
  · rintro ⟨h2, h3⟩
    have e : (k : Int) = (k - l * w) + l * w := by omega
    rw [e, Int.add_mul_ediv_right _ _ (by omega), Int.ediv_eq_zero_of_lt (by omega) (by omega), Int.zero_add]
theorem line_raw : (lineOf w xs l)[j]? = if j < w then xs[(l * w).toNat + j]? else none := by
  rw [lineOf, List.getElem?_take, List.getElem?_drop]
theorem line_get (h : (lineOf w xs l)[j]? = some k') : (l * w).toNat + j < xs.length ∧ k' = xs.getD ((l * w).toNat + j) 0 := by
  rw [line_raw] at h
  split at h
  · exact ⟨(List.getElem?_eq_some_iff.mp h).1, by rw [List.getD_eq_getElem?_getD, h]; rfl⟩
  · cases h
theorem line_len : (lineOf w xs l).length = min w (xs.length - (l * w).toNat) := by
  rw [lineOf, List.length_take, List.length_drop]
theorem line_at (hj : j < w) : (lineOf w xs l)[j]? = xs[(l * w).toNat + j]? := by
  rw [line_raw, if_pos hj]
theorem slice_line (hl : 0 ≤ l) (hx : (l * w).toNat ≤ xs.length) : sliceL xs (min (l * w).toNat xs.length) (min ((l + 1) * w).toNat xs.length) = lineOf w xs l := by
  have h1 : 0 ≤ l * (w : Int) := Int.mul_nonneg hl (Int.natCast_nonneg _)
  have h2 : ((l + 1) * (w : Int)).toNat = (l * w).toNat + w := by rw [Int.add_mul, Int.one_mul, Int.toNat_add h1 (Int.natCast_nonneg _), Int.toNat_natCast]
  rw [sliceL, lineOf, h2, Nat.min_eq_left hx]
  generalize (l * (w : Int)).toNat = a at hx
  by_cases h3 : a + w ≤ xs.length
  · rw [Nat.min_eq_left h3, Nat.add_sub_cancel_left]
  · rw [Nat.min_eq_right (Nat.le_of_lt (Nat.lt_of_not_le h3)), List.take_of_length_le (by rw [List.length_drop]; exact Nat.le_refl _), List.take_of_length_le (by rw [List.length_drop]; omega)]
theorem farP_get : (farP far plain a j)[k]? = if k < far.length then some (if a ≤ k ∧ k < a + j then plain.getD k 0 else far.getD k 0) else none := by
  rw [farP, List.getElem?_map]
  by_cases hk : k < far.length
  · rw [List.getElem?_range hk, if_pos hk]; rfl
  · rw [List.getElem?_eq_none (by simpa using hk), if_neg hk]; rfl
theorem farP_len : (farP far plain a j).length = far.length := by rw [farP, List.length_map, List.length_range]
theorem farP_zero : farP far plain a 0 = far := by
  apply List.ext_getElem?
  intro k
  rw [farP_get]
  split
  · rename_i hk
    rw [if_neg (by omega), List.getD_eq_getElem?_getD, List.getElem?_eq_getElem hk]; rfl
  · rw [List.getElem?_eq_none (by omega)]
theorem farP_succ (hj : a + j < far.length) : (farP far plain a j).set (a + j) (plain.getD (a + j) 0) = farP far plain a (j + 1) := by
  apply List.ext_getElem?
  intro k
  by_cases e : a + j = k
  · subst e
    rw [List.getElem?_set_self (by rw [farP_len]; exact hj), farP_get, if_pos hj, if_pos (by omega)]
  · rw [List.getElem?_set_ne e, farP_get, farP_get]
    have : (a ≤ k ∧ k < a + j) ↔ (a ≤ k ∧ k < a + (j + 1)) := by omega
    simp only [this]
theorem farP_all {j' : Nat} (h1 : far.length ≤ a + j) (h2 : far.length ≤ a + j') : farP far plain a j = farP far plain a j' := by
  apply List.ext_getElem?
  intro k
  rw [farP_get, farP_get]
  split
  · have : (a ≤ k ∧ k < a + j) ↔ (a ≤ k ∧ k < a + j') := by omega
    simp only [this]
  · rfl
theorem NInv.line_same (I : NInv sh s) (hl : 0 ≤ l) (hd : l ∉ s.dirty) : lineOf sh.width s.far l = lineOf sh.width s.plain l := by
  apply List.ext_getElem?
  intro j
  rw [line_raw, line_raw]
  split
  · rename_i hj
    refine I.sm _ ?_
    rw [(div_is I.w1 hl).mpr ⟨Nat.le_add_right _ _, Nat.add_lt_add_left hj _⟩]; exact hd
  · rfl
theorem NInv.wb (I : NInv sh s) (hl : 0 ≤ l) : NInv sh (wback sh.width s l) ∧ (wback sh.width s l).order = s.order ∧ (wback sh.width s l).plain = s.plain ∧ l ∉ (wback sh.width s l).dirty ∧ (∀ x ∈ (wback sh.width s l).dirty, x ∈ s.dirty) := by
  unfold wback
  split
  · rename_i hd
    refine ⟨{ I with len := by dsimp only; rw [farP_len]; exact I.len, ds := fun x hx => I.ds x (List.mem_filter.mp hx).1, dn := I.dn.filter _, sm := fun k hk => ?_ }, rfl, rfl, fun hx => ?_, fun x hx => (List.mem_filter.mp hx).1⟩
    · dsimp only at hk ⊢
      rw [farP_get, I.len]
      by_cases e : (k : Int) / sh.width = l
      · have := (div_is I.w1 hl).mp e
        rw [if_pos this]
        by_cases hk : k < s.plain.length
        · rw [if_pos hk, List.getD_eq_getElem?_getD, List.getElem?_eq_getElem hk]; rfl
        · rw [if_neg hk, List.getElem?_eq_none (by omega)]
      · have h1 := I.sm k (fun hx => hk (List.mem_filter.mpr ⟨hx, by simpa using e⟩))
        rw [if_neg (fun x => e ((div_is I.w1 hl).mpr x))]
        by_cases hk : k < s.plain.length
        · rw [if_pos hk, List.getD_eq_getElem?_getD, h1, List.getElem?_eq_getElem hk]; rfl
        · rw [if_neg hk, List.getElem?_eq_none (by omega)]
    · have := (List.mem_filter.mp hx).2
      simp at this
  · rename_i hd
    exact ⟨I, rfl, rfl, hd, fun x hx => hx⟩
theorem NInv.first (I : NInv sh s) : NInv sh (firstN sh s) ∧ (firstN sh s).order = (if s.order.length = sh.room then s.order.tail else s.order) ∧ (firstN sh s).order.length < sh.room ∧ (firstN sh s).plain = s.plain := by
  have := I.r1; have := I.rm
  unfold firstN
  split
  · rename_i hr
    cases ho : s.order with
    | nil => rw [ho, List.length_nil] at hr; omega
    | cons l0 rest =>
      rw [List.tail_cons, List.headD_cons]
      have hl := I.rg l0 (by rw [ho]; exact List.mem_cons_self)
      obtain ⟨I2, e2, e3, h4, h5⟩ := I.wb hl.1
      have hnd := I.nd
      rw [ho, List.nodup_cons] at hnd
      have e : wback sh.width { s with order := rest } l0 = { wback sh.width s l0 with order := rest } := by
        unfold wback; dsimp only; split <;> rfl
      rw [e]
      rw [ho, List.length_cons] at hr
      refine ⟨{ I2 with nd := hnd.2, rm := by dsimp only; omega, rg := fun l hl => by dsimp only; rw [e3]; exact I.rg l (by rw [ho]; exact List.mem_cons_of_mem _ hl), ds := fun l hl => ?_ }, rfl, by dsimp only; omega, e3⟩
      have h6 := I2.ds l hl
      rw [e2, ho] at h6
      exact (List.mem_cons.mp h6).resolve_left fun e => h4 (e ▸ hl)
  · exact ⟨I, rfl, by omega, rfl⟩
theorem NInv.touch (I : NInv sh s) (hl : 0 ≤ l) (hl2 : l * sh.width < s.plain.length) : NInv sh (touchN sh s l) ∧ l ∈ (touchN sh s l).order ∧ (touchN sh s l).plain = s.plain ∧ (touchN sh s l).found + (touchN sh s l).missed = s.found + s.missed + 1 := by
  unfold touchN
  split
  · rename_i ho
    refine ⟨?_, ?_, rfl, by dsimp only; omega⟩
    · cases sh.least with
      | false => exact { I with }
      | true =>
        have hm : ∀ x, x ∈ s.order.filter (· != l) ++ [l] ↔ x ∈ s.order := fun x => by
          rw [List.mem_append, List.mem_filter, List.mem_singleton]
          constructor
          · rintro (h | rfl)
            · exact h.1
            · exact ho
          · intro h
            by_cases e : x = l
            · exact .inr e
            · exact .inl ⟨h, by simpa using e⟩
        have hn : (s.order.filter (· != l) ++ [l]).Nodup := by
          rw [List.nodup_append]
          refine ⟨I.nd.filter _, by simp, fun x hx y hy e => ?_⟩
          rw [List.mem_singleton] at hy
          have := (List.mem_filter.mp hx).2
          simp [e, hy] at this
        have hp : (s.order.filter (· != l) ++ [l]).Perm s.order := (List.perm_ext_iff_of_nodup hn I.nd).mpr hm
        exact { I with nd := hn, rm := by dsimp only; rw [if_pos rfl, hp.length_eq]; exact I.rm, rg := fun x hx => I.rg x ((hm x).mp hx), ds := fun x hx => (hm x).mpr (I.ds x hx) }
    · dsimp only
      split
      · simp
      · exact ho
  · rename_i ho
    have I1 : NInv sh { s with missed := s.missed + 1 } := { I with }
    obtain ⟨I2, e2, e3, e4⟩ := I1.first
    have hno : l ∉ (firstN sh { s with missed := s.missed + 1 }).order := by
      rw [e2]; dsimp only
      split
      · exact fun h => ho (List.mem_of_mem_tail h)
      · exact ho
    have hc : (firstN sh { s with missed := s.missed + 1 }).found + (firstN sh { s with missed := s.missed + 1 }).missed = s.found + (s.missed + 1) := by
      unfold firstN wback; dsimp only; split
      · split <;> rfl
      · rfl
    generalize firstN sh { s with missed := s.missed + 1 } = t at *
    refine ⟨{ I2 with nd := ?_, rm := by dsimp only; rw [List.length_append, List.length_singleton]; omega, rg := fun x hx => ?_, ds := fun x hx => List.mem_append_left _ (I2.ds x hx) }, by simp, e4, by dsimp only; omega⟩
    · rw [List.nodup_append]
      refine ⟨I2.nd, by simp, fun x hx y hy e => ?_⟩
      rw [List.mem_singleton] at hy
      exact hno (hy ▸ e ▸ hx)
    · dsimp only
      rcases List.mem_append.mp hx with h | h
      · exact I2.rg x h
      · rw [List.mem_singleton.mp h, e4]; exact ⟨hl, hl2⟩
theorem box_line (hw : 1 ≤ w) {b : Nat} (hb : b < k) : 0 ≤ (b : Int) / w ∧ (b : Int) / w * w < k ∧ ((b : Int) / w * w).toNat ≤ b ∧ b - ((b : Int) / w * w).toNat < w := by
  have h0 : 0 ≤ (b : Int) / w := Int.ediv_nonneg (by omega) (by omega)
  have := (div_is (k := b) hw h0).mp rfl
  have h1 : 0 ≤ (b : Int) / w * (w : Int) := Int.mul_nonneg h0 (by omega)
  omega
theorem NInv.rd (I : NInv sh s) {b : Nat} (hb : b < s.plain.length) : NInv sh (rdN sh s b) ∧ ((b : Int) / sh.width) ∈ (rdN sh s b).order ∧ (rdN sh s b).plain = s.plain ∧ (rdN sh s b).found + (rdN sh s b).missed = s.found + s.missed + 1 :=
  have := box_line I.w1 hb
  I.touch this.1 this.2.1
theorem NInv.wr (I : NInv sh s) {b : Nat} {v : Int} (hb : b < s.plain.length) : NInv sh (wrN sh s b v) := by
  obtain ⟨I2, ho, e, _⟩ := I.rd hb
  unfold wrN
  generalize rdN sh s b = t at *
  have hm : ∀ x, x ∈ markN ((b : Int) / sh.width) t.dirty ↔ (x ∈ t.dirty ∨ x = (b : Int) / sh.width) := fun x => by
    unfold markN
    split
    · rename_i h; exact ⟨.inl, fun h' => h'.elim id fun e => e ▸ h⟩
    · simp
  refine { I2 with len := by dsimp only; rw [List.length_set]; exact I2.len, sz := by dsimp only; rw [List.length_set]; exact I2.sz, rg := fun x hx => by dsimp only; rw [List.length_set]; exact I2.rg x hx, ds := fun x hx => ((hm x).mp hx).elim (I2.ds x) fun e => e ▸ ho, dn := ?_, sm := fun k hk => ?_ }
  · dsimp only
    unfold markN
    split
    · exact I2.dn
    · rename_i h
      rw [List.nodup_append]
      refine ⟨I2.dn, by simp, fun x hx y hy e => ?_⟩
      rw [List.mem_singleton] at hy
      exact h (hy ▸ e ▸ hx)
  · dsimp only at hk ⊢
    rw [hm, not_or] at hk
    rw [List.getElem?_set_ne (fun e => hk.2 (by rw [e]))]
    exact I2.sm k hk.1
end


section
variable {P : Prog} {q : Bool} {h : H} {d : Nat}
/-- a call's end -/
noncomputable def Out (v : V) (B : Mine.H → Prop) (r : R V) : Prop := ∃ H', r = .ok v H' ∧ B H'
theorem Out.mk {v : V} {B : Mine.H → Prop} {H' : Mine.H} (k : B H') : Out v B (.ok v H') := ⟨H', rfl, k⟩
/-- cells of a heap -/
noncomputable def Hp (H : H) (L : List (Nat × M)) : Prop := (∀ p ∈ L, H[p.1]? = some p.2) ∧ (L.map Prod.fst).Nodup
section
variable {H : Mine.H} {L L' A B : List (Nat × M)} {k : Nat} {m m' : M}
theorem Hp.lt (hp : Hp H L) {p : Nat × M} (hm : p ∈ L) : p.1 < H.length := (List.getElem?_eq_some_iff.mp (hp.1 p hm)).1
theorem Hp.perm (hp : Hp H L) (e : L.Perm L') : Hp H L' := ⟨fun p hp' => hp.1 p (e.mem_iff.mpr hp'), (e.map _).nodup_iff.mp hp.2⟩
theorem Hp.sub (hp : Hp H L) (e : L'.Sublist L) : Hp H L' := ⟨fun p hp' => hp.1 p (e.subset hp'), List.Pairwise.sublist (e.map _) hp.2⟩
theorem Hp.set0 (hp : Hp H ((k, m) :: B)) : Hp (H.set k m') ((k, m') :: B) := by
  have hn := hp.2
  rw [List.map_cons, List.nodup_cons] at hn
  refine ⟨fun p hp' => ?_, hp.2⟩
  rcases List.mem_cons.mp hp' with rfl | hb
  · exact List.getElem?_set_self (hp.lt (p := (k, m)) List.mem_cons_self)
  · rw [List.getElem?_set_ne (fun e => hn.1 (by rw [e]; exact List.mem_map.mpr ⟨p, hb, rfl⟩))]
    exact hp.1 p (List.mem_cons_of_mem _ hb)
theorem Hp.set (hp : Hp H (A ++ (k, m) :: B)) : Hp (H.set k m') (A ++ (k, m') :: B) :=
  (Hp.set0 (hp.perm List.perm_middle)).perm List.perm_middle.symm
theorem Hp.app {l : Mine.H} (hp : Hp H L) : Hp (H ++ l) L :=
  ⟨fun p hp' => by rw [List.getElem?_append_left (hp.lt hp')]; exact hp.1 p hp', hp.2⟩
theorem Hp.new (hp : Hp H L) : Hp (H ++ [m]) ((H.length, m) :: L) := by
  refine ⟨fun p hp' => ?_, ?_⟩
  · rcases List.mem_cons.mp hp' with rfl | hb
    · exact at_end
    · exact hp.app.1 p hb
  · rw [List.map_cons, List.nodup_cons]
    refine ⟨fun hm => ?_, hp.2⟩
    obtain ⟨p, hb, e⟩ := List.mem_map.mp hm
    have := hp.lt hb
    dsimp only at e
    omega
end
/-- a dict by its keys -/
noncomputable def dk (f : Int → V) (ls : List Int) : List (Int × V) := ls.map fun l => (l, f l)
section
variable {f : Int → V} {ls : List Int} {l : Int} {v : V} {n : Nat} {Q : V → H → Prop} {X : Nat → H → Prop} {Qb : Bool → Prop} {Qo : V → Prop} {Qh : H → Prop}
theorem dk_any : ((dk f ls).any fun p => p.1 == l) = decide (l ∈ ls) := by
  rw [dk, List.any_map, Bool.eq_iff_iff]; simp
theorem dk_find : ∀ {ls : List Int}, l ∈ ls → (dk f ls).find? (fun p => p.1 == l) = some (l, f l)
  | x :: ls, hl => by
    show ((x, f x) :: dk f ls).find? _ = _
    rw [List.find?_cons]
    by_cases e : x = l
    · subst e; simp
    · rw [show ((x, f x).1 == l) = false by simpa using e]
      exact dk_find ((List.mem_cons.mp hl).resolve_left fun x => e x.symm)
theorem dk_filter : (dk f ls).filter (fun p => p.1 != l) = dk f (ls.filter (· != l)) := by rw [dk, List.filter_map]; rfl
theorem dk_new (hl : l ∉ ls) : dictSet (dk f ls) l v = dk f ls ++ [(l, v)] := by rw [dictSet, dk_any, if_neg (by simpa using hl)]
theorem dk_old (hl : l ∈ ls) (hf : f l = v) : dictSet (dk f ls) l v = dk f ls := by
  rw [dictSet, dk_any, if_pos (by simpa using hl), dk, List.map_map]
  refine List.map_congr_left fun x _ => ?_
  show (if (x == l) = true then (l, v) else (x, f x)) = _
  by_cases e : x = l
  · subst e; rw [if_pos (by simp), hf]
  · rw [if_neg (by simpa using e)]
theorem in_dict (e : h[n]? = some (.dict (dk f ls))) (k : Qb (decide (l ∈ ls))) : OV (cmpV .isIn h (.int l) (.ref n)) Qb := by
  have h0 : ∀ (o : Option M) (g : List V → Option Bool), o = some (.dict (dk f ls)) → (match o with | some (.list xs) => g xs | some (.dict es) => some (es.any fun p => p.1 == l) | _ => none) = some (decide (l ∈ ls)) := by
    rintro _ g rfl; dsimp only; rw [dk_any]
  exact ⟨_, h0 _ _ e, k⟩
theorem gi_dict (e : h[n]? = some (.dict (dk f ls))) (hl : l ∈ ls) (k : Qo (f l)) : OV (getItem h (.ref n) (.int l)) Qo := by
  have h0 : ∀ (o : Option M) (g : List V → Option V), o = some (.dict (dk f ls)) → (match o with | some (.list xs) => g xs | some (.dict es) => (es.find? fun p => p.1 == l).map (·.2) | _ => none) = some (f l) := by
    rintro _ g rfl; dsimp only; rw [dk_find hl]; rfl
  exact ⟨_, h0 _ _ e, k⟩
theorem si_dict (e : h[n]? = some (.dict (dk f ls))) (hl : ls.length ≤ 1000) (k : Qh (h.set n (.dict (dictSet (dk f ls) l v)))) : OV (setItem h (.ref n) (.int l) v) Qh := by
  have h0 : ∀ (o : Option M) (g : List V → Option Mine.H), o = some (.dict (dk f ls)) → (match o with | some (.list xs) => g xs | some (.dict es) => if es.length ≤ 100000 then some (h.set n (.dict (dictSet es l v))) else none | _ => none) = some (h.set n (.dict (dictSet (dk f ls) l v))) := by
    rintro _ g rfl; dsimp only; rw [if_pos (by rw [dk, List.length_map]; omega)]
  exact ⟨_, h0 _ _ e, k⟩
theorem si_list {xs : List V} {i : Int} (e : h[n]? = some (.list xs)) (h1 : 0 ≤ i) (h2 : i < 1000000) (h3 : i.toNat < xs.length) (k : Qh (h.set n (.list (xs.set i.toNat v)))) : OV (setItem h (.ref n) (.int i) v) Qh := by
  have h0 : ∀ (o : Option M) (g : List (Int × V) → Option Mine.H), o = some (.list xs) → (match o with | some (.list xs) => if okIdx i ∧ i.toNat < xs.length then some (h.set n (.list (xs.set i.toNat v))) else none | some (.dict es) => g es | _ => none) = some (h.set n (.list (xs.set i.toNat v))) := by
    rintro _ g rfl; dsimp only; rw [if_pos ⟨by simp [okIdx, h1, h2], h3⟩]
  exact ⟨_, h0 _ _ e, k⟩
theorem pop_d (e : h[n]? = some (.dict (dk f ls))) (hl : l ∈ ls) (hn : ls.length ≤ 1000) (k : Q (f l) (h.set n (.dict (dk f (ls.filter (· != l)))))) : RV (bmV .pop h (.ref n) [.int l]) Q X := by
  have h0 : ∀ (o : Option M) (g : List V → R V), o = some (.dict (dk f ls)) → OKX Q X (match o with | some (.list xs) => g xs | some (.dict es) => popD h n es l | _ => .fail) := by
    rintro _ g rfl
    dsimp only
    rw [popD, dk_find hl, onSome]
    dsimp only
    rw [if_pos (by rw [dk, List.length_map]; omega), dk_filter]
    exact .ok k
  exact h0 _ _ e
theorem pop_l {x : V} {xs : List V} (e : h[n]? = some (.list (x :: xs))) (hn : xs.length ≤ 1000) (k : Q x (h.set n (.list xs))) : RV (bmV .pop h (.ref n) [.int 0]) Q X := by
  have h0 : ∀ (o : Option M) (g : List (Int × V) → R V), o = some (.list (x :: xs)) → OKX Q X (match o with | some (.list xs) => popL h n xs 0 | some (.dict es) => g es | _ => .fail) := by
    rintro _ g rfl
    show OKX Q X (if (0 : Int) = 0 ∧ xs.length ≤ 99999 then .ok x (h.set n (.list xs)) else .fail)
    rw [if_pos ⟨rfl, by omega⟩]
    exact .ok k
  exact h0 _ _ e
theorem setA_up {c k i : Nat} {fs : List V} {cl : Cls} (h1 : h[n]? = some (.inst c fs)) (h2 : P.clss[c]? = some cl) (h3 : cl.attrs.findIdx? (· == k) = some i) (h4 : i < fs.length) (kk : Qh (h.set n (.inst c (fs.set i v)))) : OV (setA P h (.ref n) k v) Qh := by
  refine ⟨_, ?_, kk⟩
  unfold setA
  dsimp only
  rw [h1]; dsimp only
  rw [h2]; dsimp only
  rw [h3]; dsimp only
  rw [if_pos h4]
end
noncomputable def ruleS (b : Bool) : List Nat := if b then [108, 101, 97, 115, 116] else [102, 105, 114, 115, 116]
noncomputable def attrsN : List Nat := [2, 3, 4, 5, 6, 7, 8, 9, 10, 11]
structure NearF (P : Prog) (c : Cls) : Prop where
  cls : P.clss[1]? = some c
  attrs : c.attrs = attrsN
  m1 : c.meths.lookup 1 = some 45
  m2 : c.meths.lookup 2 = some 46
  m3 : c.meths.lookup 3 = some 42
  m4 : c.meths.lookup 4 = some 43
  m5 : c.meths.lookup 5 = some 44
  f12 : P.fn 12 = some fn_is_whole
  f23 : P.fn 23 = some fn_need_boxes
  f41 : P.fn 41 = some fn_Near_init
  f42 : P.fn 42 = some fn_Near_write_back
  f43 : P.fn 43 = some fn_Near_go_first
  f44 : P.fn 44 = some fn_Near_touch
  f45 : P.fn 45 = some fn_Near_look
  f46 : P.fn 46 = some fn_Near_put
section
variable {cl : Cls} {cf : Nat → List V → H → R V} {clf : Bool → Nat → List V → H → R V} {ρ : Rho} {n k i : Nat} {fs : List V} {v : V} {Q : V → H → Prop} {X : Nat → H → Prop}
theorem EV.self (U : NearF P cl) (e : ρ[0]? = some (some (.ref n))) (h1 : h[n]? = some (.inst 1 fs)) (h3 : attrsN.findIdx? (· == k) = some i) (h4 : fs[i]? = some v) (kk : Q v h) : EV P q cf (.attr (.var 0) k) ρ h Q X :=
  EV.attr (EV.var e (getA_in rfl h1 U.cls (by rw [U.attrs]; exact h3) h4 kk))
theorem WS.selfs (U : NearF P cl) {Q : RS → Prop} {ss : List S} {a : E} (e : ρ[0]? = some (some (.ref n))) (h3 : attrsN.findIdx? (· == k) = some i)
    (kk : EV P q (clf q) a ρ h (fun v h' => ∃ fs, h'[n]? = some (.inst 1 fs) ∧ i < fs.length ∧ WS P clf q ss ρ (h'.set n (.inst 1 (fs.set i v))) Q) (fun c h => Q (.exc c ρ h))) : WS P clf q (.setattr (.var 0) k a :: ss) ρ h Q :=
  WS.setattr (OKX.mono kk (fun v h' ⟨fs, h1, h4, k⟩ => EV.var e (setA_up h1 U.cls (by rw [U.attrs]; exact h3) h4 k)) fun _ _ k => k)
end
noncomputable def instN (n : Nat) (sh : Shape) (a b c : Nat) : M := .inst 1 [.ref (n + 1), .int sh.room, .int sh.width, .str (ruleS sh.least), .int a, .int b, .int c, .ref (n + 2), .ref (n + 3), .ref (n + 4)]
noncomputable def lineM (w : Nat) (plain : List Int) (ad : Int → Nat) (l : Int) : Nat × M := (ad l, .list ((lineOf w plain l).map .int))
/-- the holder in the heap, and cells of others -/
noncomputable def NearC (n : Nat) (sh : Shape) (s : NS) (fo : List (Nat × M)) (ls : List Int) (ad : Int → Nat) (H : H) : Prop :=
  Hp H ((n, instN n sh s.found s.missed s.back) :: (n + 1, .list (s.far.map .int)) :: (n + 2, .dict (dk (fun l => .ref (ad l)) ls)) :: (n + 3, .list (s.order.map .int)) :: (n + 4, .dict (dk (fun _ => .bool true) s.dirty)) :: (ls.map (lineM sh.width s.plain ad) ++ fo))
section
variable {n : Nat} {sh : Shape} {s : NS} {fo : List (Nat × M)} {ls : List Int} {ad : Int → Nat} {H : Mine.H} {l : Int}
theorem NearC.g0 (c : NearC n sh s fo ls ad H) : H[n]? = some (instN n sh s.found s.missed s.back) := c.1 (n, _) (List.mem_cons_self)
theorem NearC.g1 (c : NearC n sh s fo ls ad H) : H[n + 1]? = some (.list (s.far.map .int)) := c.1 (n + 1, _) (.tail _ (.head _))
theorem NearC.g2 (c : NearC n sh s fo ls ad H) : H[n + 2]? = some (.dict (dk (fun l => .ref (ad l)) ls)) := c.1 (n + 2, _) (.tail _ (.tail _ (.head _)))
theorem NearC.g3 (c : NearC n sh s fo ls ad H) : H[n + 3]? = some (.list (s.order.map .int)) := c.1 (n + 3, _) (.tail _ (.tail _ (.tail _ (.head _))))
theorem NearC.g4 (c : NearC n sh s fo ls ad H) : H[n + 4]? = some (.dict (dk (fun _ => .bool true) s.dirty)) := c.1 (n + 4, _) (.tail _ (.tail _ (.tail _ (.tail _ (.head _)))))
theorem NearC.gl (c : NearC n sh s fo ls ad H) (hl : l ∈ ls) : H[ad l]? = some (.list ((lineOf sh.width s.plain l).map .int)) :=
  c.1 (lineM sh.width s.plain ad l) (by simp only [List.mem_cons, List.mem_append]; exact .inr (.inr (.inr (.inr (.inr (.inl (List.mem_map_of_mem hl)))))))
theorem NearC.gf (c : NearC n sh s fo ls ad H) {p : Nat × M} (hp : p ∈ fo) : H[p.1]? = some p.2 :=
  c.1 p (by simp only [List.mem_cons, List.mem_append]; exact .inr (.inr (.inr (.inr (.inr (.inr hp))))))
theorem NearC.s0 (c : NearC n sh s fo ls ad H) (a b e : Nat) : NearC n sh { s with found := a, missed := b, back := e } fo ls ad (H.set n (instN n sh a b e)) := Hp.set0 c
theorem NearC.s1 (c : NearC n sh s fo ls ad H) (far : List Int) : NearC n sh { s with far := far } fo ls ad (H.set (n + 1) (.list (far.map .int))) := Hp.set (A := [_]) c
theorem NearC.s3 (c : NearC n sh s fo ls ad H) (o : List Int) : NearC n sh { s with order := o } fo ls ad (H.set (n + 3) (.list (o.map .int))) := Hp.set (A := [_, _, _]) c
theorem NearC.s4 (c : NearC n sh s fo ls ad H) (o : List Int) : NearC n sh { s with dirty := o } fo ls ad (H.set (n + 4) (.dict (dk (fun _ => .bool true) o))) := Hp.set (A := [_, _, _, _]) c
theorem NearC.del (c : NearC n sh s fo ls ad H) : NearC n sh s fo (ls.filter (· != l)) ad (H.set (n + 2) (.dict (dk (fun l => .ref (ad l)) (ls.filter (· != l))))) :=
  Hp.sub (Hp.set (A := [_, _]) c) (by
    simp only [List.cons_append, List.nil_append]
    refine ((((List.Sublist.append ?_ (List.Sublist.refl fo)).cons₂ _).cons₂ _).cons₂ _).cons₂ _ |>.cons₂ _
    exact (List.filter_sublist).map _)
theorem NearC.add (c : NearC n sh s fo ls ad H) (hl : l ∉ ls) : NearC n sh s fo (ls ++ [l]) (fun x => if x = l then H.length else ad x) ((H ++ [M.list ((lineOf sh.width s.plain l).map .int)]).set (n + 2) (M.dict (dk (fun x => .ref (ad x)) ls ++ [(l, V.ref H.length)]))) := by
  have e1 : dk (fun x => .ref (if x = l then H.length else ad x)) (ls ++ [l]) = dk (fun x => .ref (ad x)) ls ++ [(l, .ref H.length)] := by
    show (ls ++ [l]).map _ = _
    rw [List.map_append, List.map_singleton]
    dsimp only
    rw [if_pos rfl]
    refine congrArg (· ++ _) (List.map_congr_left fun x hx => ?_)
    rw [if_neg fun e => hl (by rw [← e]; exact hx)]
  have e2 : (ls ++ [l]).map (lineM sh.width s.plain fun x => if x = l then H.length else ad x) = ls.map (lineM sh.width s.plain ad) ++ [(H.length, .list ((lineOf sh.width s.plain l).map .int))] := by
    rw [List.map_append, List.map_singleton]
    refine congr (congrArg _ (List.map_congr_left fun x hx => ?_)) ?_
    · unfold lineM; dsimp only; rw [if_neg fun e => hl (by rw [← e]; exact hx)]
    · unfold lineM; dsimp only; rw [if_pos rfl]
  unfold NearC
  rw [e1, e2]
  refine Hp.perm (Hp.set (A := [_, _, _]) (Hp.new (m := .list ((lineOf sh.width s.plain l).map .int)) c)) ?_
  simp only [List.cons_append, List.nil_append, List.append_assoc]
  refine (List.perm_middle (l₁ := [_, _, _, _, _])).symm.trans ?_
  simp only [List.cons_append, List.nil_append]
  exact ((((List.perm_middle.symm.cons _).cons _).cons _).cons _).cons _
theorem line_set {w : Nat} {xs : List Int} {b : Nat} {v : Int} (hw : 1 ≤ w) (hl : 0 ≤ l) (hb : (b : Int) / w ≠ l) : lineOf w (xs.set b v) l = lineOf w xs l := by
  apply List.ext_getElem?
  intro j
  rw [line_raw, line_raw]
  split
  · rename_i hj
    rw [List.getElem?_set_ne fun e => hb ((div_is hw hl).mpr ?_)]
    rw [e]; exact ⟨Nat.le_add_right _ _, Nat.add_lt_add_left hj _⟩
  · rfl
theorem line_put {w : Nat} {xs : List Int} {b : Nat} {v : Int} (hw : 1 ≤ w) (hb : b < xs.length) : (lineOf w xs ((b : Int) / w)).set (b - ((b : Int) / w * w).toNat) v = lineOf w (xs.set b v) ((b : Int) / w) := by
  obtain ⟨_, _, h3, h4⟩ := box_line hw hb
  generalize hl : (b : Int) / w = l at *
  obtain ⟨c, e⟩ := Nat.le.dest h3
  rw [show b - (l * (w : Int)).toNat = c by rw [← e, Nat.add_sub_cancel_left]] at h4 ⊢
  apply List.ext_getElem?
  intro j
  rw [line_raw]
  by_cases ej : c = j
  · subst ej
    rw [List.getElem?_set_self (by rw [line_len]; generalize (l * (w : Int)).toNat = a at e; omega), if_pos h4, e, List.getElem?_set_self hb]
  · rw [List.getElem?_set_ne ej, line_raw, List.getElem?_set_ne (by generalize (l * (w : Int)).toNat = a at e; omega)]
theorem NearC.put (c : NearC n sh s fo ls ad H) (hn : ls.Nodup) {b : Nat} {v : Int} (hw : 1 ≤ sh.width) (hb : b < s.plain.length) (hr : ∀ x ∈ ls, 0 ≤ x) (hl : (b : Int) / sh.width ∈ ls) :
    NearC n sh { s with plain := s.plain.set b v } fo ls ad (H.set (ad ((b : Int) / sh.width)) (.list (((lineOf sh.width s.plain ((b : Int) / sh.width)).set (b - ((b : Int) / sh.width * sh.width).toNat) v).map .int))) := by
  obtain ⟨l1, l2, rfl⟩ := List.append_of_mem hl
  rw [line_put hw hb]
  rw [List.nodup_append, List.nodup_cons] at hn
  unfold NearC at c ⊢
  dsimp only
  rw [List.map_append, List.map_cons] at c ⊢
  have e1 : ∀ x ∈ l1, lineM sh.width (s.plain.set b v) ad x = lineM sh.width s.plain ad x := fun x hx => by
    unfold lineM; rw [line_set hw (hr x (List.mem_append_left _ hx))]
    intro e; exact hn.2.2 x hx _ List.mem_cons_self e.symm
  have e2 : ∀ x ∈ l2, lineM sh.width (s.plain.set b v) ad x = lineM sh.width s.plain ad x := fun x hx => by
    unfold lineM; rw [line_set hw (hr x (List.mem_append_right _ (List.mem_cons_of_mem _ hx)))]
    intro e; exact hn.2.1.1 (e ▸ hx)
  rw [List.map_congr_left e1, List.map_congr_left e2]
  rw [List.append_assoc, List.cons_append] at c ⊢
  exact Hp.set (A := [_, _, _, _, _] ++ l1.map (lineM sh.width s.plain ad)) c
end
end


section
variable {P : Prog} {q : Bool} {h : H} {d : Nat}
variable {cl : Cls} {n : Nat} {sh : Shape} {s : NS} {fo : List (Nat × M)} {ls : List Int} {ad : Int → Nat} {H : Mine.H} {l : Int}
theorem NearC.app (c : NearC n sh s fo ls ad H) {e : Mine.H} : NearC n sh s fo ls ad (H ++ e) := Hp.app c
theorem items_ref {k : Nat} {xs : List V} (e : H[k]? = some (.list xs)) : itemsOf H (.ref k) = some (xs, some (k, xs)) := by
  have h0 : ∀ o : Option M, o = some (.list xs) → (match o with | some (.list xs) => some (xs, some (k, xs)) | _ => none) = some (xs, some (k, xs)) := by rintro _ rfl; rfl
  exact h0 _ e
theorem slice_map {α β : Type} {f : α → β} {xs : List α} {a b : Nat} : sliceL (xs.map f) a b = (sliceL xs a b).map f := by
  rw [sliceL, sliceL, List.map_take, List.map_drop]
theorem farP_line {w : Nat} {far plain : List Int} (hlen : far.length = plain.length) (hl : 0 ≤ l) (hx : (l * w).toNat ≤ plain.length) : farP far plain (l * w).toNat (lineOf w plain l).length = farP far plain (l * w).toNat w := by
  rw [line_len]
  by_cases h1 : w ≤ plain.length - (l * w).toNat
  · rw [Nat.min_eq_left h1]
  · exact farP_all (by omega) (by omega)
theorem c_wback (U : NearF P cl) (c : NearC n sh s fo ls ad H) (hw1 : 1 ≤ sh.width) (hw2 : sh.width ≤ 200) (hlen : s.far.length = s.plain.length) (hsz : s.plain.length ≤ 200) (hd : s.dirty.length ≤ 1000) (hl0 : 0 ≤ l) (hl1 : l * sh.width < s.plain.length) (hm : l ∈ s.dirty → l ∈ ls) :
    ∃ H', callN P (d + 1) true 42 [.ref n, .int l] H = .ok .none H' ∧ NearC n sh (wback sh.width s l) fo ls ad H' := by
  refine call_imp (d := d) (vs := [.ref n, .int l]) (A := Out .none (NearC n sh (wback sh.width s l) fo ls ad)) (ρ := [_, _, _, _]) U.f42 rfl rfl rfl ?_
  dsimp only [fn_Near_write_back]
  have hp0 : 0 ≤ l * (sh.width : Int) := Int.mul_nonneg hl0 (by omega)
  unfold wback
  refine WS.ite ?_
  repeat' (first | ((with_reducible apply EV.var); exact rfl) | with_reducible apply EV.cmp | with_reducible apply CC.t)
  refine EV.self U rfl c.g0 rfl rfl ?_
  refine in_dict c.g4 ?_
  refine TV.of (SP.dec (fun hdi => ?_) (fun hdi => ?_))
  · rw [if_pos hdi]
    have hm := hm hdi
    refine WS.for2 (α := Int) (fun pre ρ H' => NearC n sh { s with far := farP s.far s.plain (l * sh.width).toNat pre.length } fo ls ad H' ∧ ∃ x y, ρ = [some (.ref n), some (.int l), x, y]) ?_
    refine EV.sub (EV.self U rfl c.g0 rfl rfl ?_)
    repeat' (((with_reducible apply EV.var); exact rfl))
    refine gi_dict c.g2 hm ?_
    refine ⟨.int, lineOf sh.width s.plain l, _, items_ref (c.gl hm), by rw [line_len]; omega, ⟨by rw [List.length_nil, farP_zero]; exact c, _, _, rfl⟩, ?_, ?_, ?_⟩
    · rintro pre ρ H' ⟨c', _⟩
      unfold still; simp only [decide_eq_true_eq]; exact c'.gl hm
    · rintro pre y post _ H' e ⟨c', x0, y0, rfl⟩
      have hg : (lineOf sh.width s.plain l)[pre.length]? = some y := by rw [e]; simp
      obtain ⟨h1, h2⟩ := line_get hg
      refine WS.setsub ?_
      repeat' (((with_reducible apply EV.var); exact rfl))
      refine EV.self U rfl c'.g0 rfl rfl ?_
      repeat' (first | ((with_reducible apply EV.var); exact rfl) | with_reducible apply EV.bin)
      refine EV.self U rfl c'.g0 rfl rfl ?_
      repeat' (first | ((with_reducible apply EV.var); exact rfl) | with_reducible apply bv_add | ((with_reducible apply bv_mul); rotate_left; (first | decide | omega); (first | decide | omega)))
      have e3 : (l * (sh.width : Int) + (pre.length : Int)).toNat = (l * sh.width).toNat + pre.length := by omega
      refine si_list c'.g1 (by omega) (by omega) (by rw [e3, List.length_map, farP_len]; omega) ?_
      rw [e3]
      repeat' (first | with_reducible apply WS.nil | with_reducible apply Lp.next)
      refine ⟨?_, _, _, rfl⟩
      have c2 := c'.s1 ((farP s.far s.plain (l * sh.width).toNat pre.length).set ((l * sh.width).toNat + pre.length) y)
      rw [List.map_set] at c2
      rw [List.length_append, List.length_singleton, ← farP_succ (by omega), ← h2]
      exact c2
    · rintro _ H' ⟨c', x0, y0, rfl⟩
      rw [farP_line hlen hl0 (by omega)] at c'
      repeat' (first | with_reducible apply EV.bm | with_reducible apply WS.expr)
      refine EV.self U rfl c'.g0 rfl rfl ?_
      refine KM.dct c'.g4 rfl ?_
      repeat' (first | ((with_reducible apply EVs.v1); exact rfl) | with_reducible apply KE.of)
      refine pop_d c'.g4 hdi hd ?_
      have c2 := c'.s4 (s.dirty.filter (· != l))
      refine WS.selfs U rfl rfl ?_
      refine EV.bin (EV.self U rfl c2.g0 rfl rfl ?_)
      repeat' (first | with_reducible apply EV.const | with_reducible apply bv_add)
      refine ⟨_, c2.g0, by show 6 < 10; omega, ?_⟩
      repeat' (first | with_reducible apply WS.nil | with_reducible apply Thn.next)
      exact Out.mk (c2.s0 s.found s.missed (s.back + 1))
  · rw [if_neg hdi]
    repeat' (first | with_reducible apply WS.nil | with_reducible apply Thn.next)
    exact Out.mk c
theorem nodup_le : ∀ {xs ys : List Int}, xs.Nodup → (∀ x ∈ xs, x ∈ ys) → xs.length ≤ ys.length
  | [], _, _, _ => Nat.zero_le _
  | x :: xs, ys, hn, hs => by
    rw [List.nodup_cons] at hn
    have hx := hs x List.mem_cons_self
    have := nodup_le (xs := xs) (ys := ys.erase x) hn.2 fun y hy => (List.mem_erase_of_ne (fun e : y = x => hn.1 (e ▸ hy))).mpr (hs y (List.mem_cons_of_mem _ hy))
    rw [List.length_erase_of_mem hx] at this
    have := List.length_pos_of_mem hx
    rw [List.length_cons]; omega
theorem dirty_len (I : NInv sh s) : s.dirty.length ≤ 200 := by
  have h1 : s.dirty.length ≤ s.order.length := nodup_le I.dn I.ds
  have := I.rm; have := I.r2
  omega
theorem c_first (U : NearF P cl) (I : NInv sh s) (c : NearC n sh s fo ls ad H) (hp : ls.Perm s.order) {l0 : Int} {rest : List Int} (ho : s.order = l0 :: rest) :
    ∃ H', callN P (d + 2) true 43 [.ref n] H = .ok .none H' ∧ NearC n sh (wback sh.width { s with order := rest } l0) fo (ls.filter (· != l0)) ad H' := by
  refine call_imp (d := d + 1) (vs := [.ref n]) (A := Out .none (NearC n sh (wback sh.width { s with order := rest } l0) fo (ls.filter (· != l0)) ad)) (ρ := [_, _]) U.f43 rfl rfl rfl ?_
  dsimp only [fn_Near_go_first]
  have g3 : H[n + 3]? = some (.list (.int l0 :: rest.map .int)) := by have := c.g3; rw [ho] at this; exact this
  have hr := I.rm; have hr2 := I.r2
  rw [ho, List.length_cons] at hr
  have hl := I.rg l0 (by rw [ho]; exact List.mem_cons_self)
  have hls : l0 ∈ ls := hp.mem_iff.mpr (by rw [ho]; exact List.mem_cons_self)
  have hll : ls.length ≤ 1000 := by rw [hp.length_eq, ho, List.length_cons]; omega
  repeat' (first | with_reducible apply EV.bm | with_reducible apply WS.assign)
  refine EV.self U rfl c.g0 rfl rfl ?_
  refine KM.lst g3 rfl ?_
  repeat' (first | with_reducible apply EV.const | with_reducible apply EVs.cons | with_reducible apply EVs.nil | with_reducible apply KE.of)
  refine pop_l g3 (by rw [List.length_map]; omega) ?_
  have c1 := c.s3 rest
  obtain ⟨H', e, c2⟩ := c_wback (d := d) U c1 I.w1 I.w2 I.len I.sz (by have := dirty_len I; dsimp only; omega) hl.1 hl.2 (fun _ => hls)
  repeat' (with_reducible apply WS.expr)
  refine EV.meth ?_
  repeat' (((with_reducible apply EV.var); exact rfl))
  refine OV.of (methOf_in c1.g0 U.cls U.m3) ?_
  repeat' (((with_reducible apply EVs.v1); exact rfl))
  refine RV.ok e ?_
  repeat' (first | with_reducible apply EV.bm | with_reducible apply WS.expr)
  refine EV.self U rfl c2.g0 rfl rfl ?_
  refine KM.dct c2.g2 rfl ?_
  repeat' (first | ((with_reducible apply EVs.v1); exact rfl) | with_reducible apply KE.of)
  refine pop_d c2.g2 hls hll ?_
  repeat' (with_reducible apply WS.nil)
  exact Out.mk c2.del
noncomputable def Nr (n : Nat) (sh : Shape) (s : NS) (fo : List (Nat × M)) (H : Mine.H) : Prop := NInv sh s ∧ ∃ ls ad, NearC n sh s fo ls ad H ∧ ls.Perm s.order
inductive NrC (n : Nat) (sh : Shape) (s : NS) (fo : List (Nat × M)) (H : Mine.H) : Prop where
  | mk (ls : List Int) (ad : Int → Nat) (c : NearC n sh s fo ls ad H) (hp : ls.Perm s.order)
inductive NrD (n : Nat) (sh : Shape) (s : NS) (fo : List (Nat × M)) (ad : Int → Nat) (l : Int) (b : Nat) : Rho → Mine.H → Prop where
  | mk {H : Mine.H} (ls : List Int) (c : NearC n sh s fo ls ad H) (hp : ls.Perm s.order) (hl : l ∉ ls) : NrD n sh s fo ad l b [some (.ref n), some (.int b), some (.int l)] H
theorem touch_start (U : NearF P cl) (c : NearC n sh s fo ls ad H) (hsz : s.far.length ≤ 200) {v : V} {wb : Bool} (hv : callN P (d + 1) true 12 [v, .int 0, .int (s.far.length - 1)] H = .ok (.bool wb) H) {Q : Bool → Mine.H → Prop} {X : Nat → Mine.H → Prop} (k : Q wb H) :
    CC P true (callN P (d + 1) true) (.t (.call 12 [(.var 1), (.const (.int 0)), (.bin .sub (.bi .len [(.attr (.var 0) 2)]) (.const (.int 1)))])) [some (.ref n), some v, none] H Q X := by
  repeat' (first | ((with_reducible apply EV.var); exact rfl) | with_reducible apply EV.const | with_reducible apply EVs.cons | with_reducible apply EV.bin | with_reducible apply EV.call | with_reducible apply EV.bi | with_reducible apply CC.t)
  refine EV.self U rfl c.g0 rfl rfl ?_
  repeat' (with_reducible apply EVs.nil)
  refine len_r c.g1 (by rw [List.length_map]; omega) ?_
  rw [List.length_map]
  repeat' (first | with_reducible apply EV.const | with_reducible apply EVs.nil | with_reducible apply bv_sub)
  refine RV.ok hv ?_
  exact TV.of k
theorem c_touch (U : NearF P cl) (N : Nr n sh s fo H) {b : Nat} (hb : b < s.plain.length) :
    ∃ H', callN P (d + 3) true 44 [.ref n, .int b] H = .ok (.int ((b : Int) / sh.width)) H' ∧ Nr n sh (rdN sh s b) fo H' := by
  obtain ⟨I, ls, ad, c, hp⟩ := N
  have hx := box_line I.w1 hb
  obtain ⟨I2, hin, hpl, _⟩ := I.rd hb
  suffices hh : Out (.int ((b : Int) / sh.width)) (NrC n sh (rdN sh s b) fo) (callN P (d + 3) true 44 [.ref n, .int b] H) by
    obtain ⟨H', e, ⟨ls, ad, c, hp⟩⟩ := hh; exact ⟨H', e, I2, ls, ad, c, hp⟩
  clear I2 hin hpl
  unfold rdN
  refine call_imp (d := d + 2) (vs := [.ref n, .int b]) (A := Out (.int ((b : Int) / sh.width)) (NrC n sh (touchN sh s ((b : Int) / sh.width)) fo)) (ρ := [_, _, _]) U.f44 rfl rfl rfl ?_
  dsimp only [fn_Near_touch]
  have hw1 := I.w1; have hw2 := I.w2; have hsz := I.sz; have hlen := I.len; have hr2 := I.r2; have hrm := I.rm
  have hll : ls.length ≤ 200 := by rw [hp.length_eq]; omega
  refine WS.ite (CC.not (touch_start U c (by omega) (c_is_whole U.f12 .int) ?_))
  refine SP.not (SP.t (by rw [wholeV, decide_eq_true (by omega), decide_eq_true (by omega)]; rfl) ?_)
  repeat' (first | ((with_reducible apply EV.var); exact rfl) | with_reducible apply EV.bin | with_reducible apply WS.assign | with_reducible apply WS.nil | with_reducible apply Thn.next)
  refine EV.self U rfl c.g0 rfl rfl ?_
  repeat' (((with_reducible apply bv_div); rotate_left; (first | decide | omega); (first | decide | omega)))
  generalize (b : Int) / sh.width = l at hx
  refine WS.ite ?_
  repeat' (first | ((with_reducible apply EV.var); exact rfl) | with_reducible apply EV.cmp | with_reducible apply CC.t)
  refine EV.self U rfl c.g0 rfl rfl ?_
  refine in_dict c.g2 ?_
  refine TV.of (SP.dec (fun hl => ?_) (fun hl => ?_))
  · have ho := hp.mem_iff.mp hl
    unfold touchN
    rw [if_pos ho]
    refine WS.selfs U rfl rfl ?_
    refine EV.bin (EV.self U rfl c.g0 rfl rfl ?_)
    repeat' (first | with_reducible apply EV.const | with_reducible apply bv_add)
    refine ⟨_, c.g0, by show 4 < 10; omega, ?_⟩
    have c1 := c.s0 (s.found + 1) s.missed s.back
    refine WS.ite ?_
    repeat' (first | with_reducible apply EV.cmp | with_reducible apply CC.t)
    refine EV.self U rfl c1.g0 rfl rfl ?_
    repeat' (first | ((with_reducible apply WS.retv); exact rfl) | with_reducible apply EV.const | with_reducible apply EV.bm | with_reducible apply TV.of | with_reducible refine SP.dec (fun _ => ?_) (fun _ => ?_) | with_reducible apply WS.expr | with_reducible apply WS.nil | with_reducible apply Thn.next | with_reducible apply Thn.ret | with_reducible apply cv_eqs)
    · rename_i hle
      have hle : sh.least = true := by cases h : sh.least with | true => rfl | false => rw [h] at hle; cases hle
      rw [if_pos hle]
      refine EV.self U rfl c1.g0 rfl rfl ?_
      refine KM.lst c1.g3 rfl ?_
      repeat' (first | ((with_reducible apply EVs.v1); exact rfl) | with_reducible apply KE.of)
      refine rem_r c1.g3 ho (by dsimp only; omega) ?_
      dsimp only
      rw [I.nd.erase_eq_filter]
      have c2 := c1.s3 (s.order.filter (· != l))
      repeat' (first | with_reducible apply EV.bm | with_reducible apply WS.expr)
      refine EV.self U rfl c2.g0 rfl rfl ?_
      refine KM.lst c2.g3 rfl ?_
      repeat' (first | ((with_reducible apply EVs.v1); exact rfl) | with_reducible apply KE.of)
      refine app_r c2.g3 (by rw [List.length_map]; have := List.length_filter_le (· != l) s.order; dsimp only; omega) ?_
      have c3 := c2.s3 (s.order.filter (· != l) ++ [l])
      rw [List.map_append] at c3
      repeat' (first | ((with_reducible apply WS.retv); exact rfl) | with_reducible apply WS.nil | with_reducible apply Thn.next | with_reducible apply Thn.ret)
      refine Out.mk ⟨ls, ad, c3, hp.trans ?_⟩
      have h1 : (s.order.filter (· != l) ++ [l]).Perm s.order := by
        refine List.perm_append_comm.trans ?_
        rw [← I.nd.erase_eq_filter]
        exact (List.perm_cons_erase ho).symm
      exact h1.symm
    · rename_i hle
      have hle : sh.least = false := by cases h : sh.least with | false => rfl | true => rw [h] at hle; exact absurd rfl hle
      rw [if_neg (by rw [hle]; exact Bool.false_ne_true)]
      exact Out.mk ⟨ls, ad, c1, hp⟩
  · have ho : l ∉ s.order := fun h => hl (hp.mem_iff.mpr h)
    unfold touchN
    rw [if_neg ho]
    repeat' (first | with_reducible apply WS.nil | with_reducible apply Thn.next)
    refine WS.selfs U rfl rfl ?_
    refine EV.bin (EV.self U rfl c.g0 rfl rfl ?_)
    repeat' (first | with_reducible apply EV.const | with_reducible apply bv_add)
    refine ⟨_, c.g0, by show 5 < 10; omega, ?_⟩
    have c1 : NearC n sh { s with missed := s.missed + 1 } fo ls ad _ := c.s0 s.found (s.missed + 1) s.back
    have I1 : NInv sh { s with missed := s.missed + 1 } := { I with }
    obtain ⟨I2, e2, e3, e4⟩ := I1.first
    refine WS.iteJ (NrD n sh (firstN sh { s with missed := s.missed + 1 }) fo ad l b) ?_ ?_
    · repeat' (first | with_reducible apply EVs.cons | with_reducible apply EV.cmp | with_reducible apply EV.bi | with_reducible apply CC.t)
      refine EV.self U rfl c1.g0 rfl rfl ?_
      repeat' (with_reducible apply EVs.nil)
      refine len_r c1.g3 (by rw [List.length_map]; dsimp only; omega) ?_
      rw [List.length_map]
      refine EV.self U rfl c1.g0 rfl rfl ?_
      repeat' (first | with_reducible apply TV.of | with_reducible refine SP.dec (fun _ => ?_) (fun _ => ?_) | with_reducible apply WS.expr | with_reducible apply WS.nil | with_reducible apply Lp.next | with_reducible apply cv_eq)
      · rename_i hfull
        have hfull : s.order.length = sh.room := by dsimp only at hfull; omega
        unfold firstN
        rw [if_pos hfull]
        have hr1 := I.r1
        obtain ⟨l0, rest, hor⟩ : ∃ l0 rest, s.order = l0 :: rest := by cases ho : s.order with | nil => rw [ho, List.length_nil] at hfull; omega | cons a b => exact ⟨a, b, rfl⟩
        obtain ⟨H', e, c2⟩ := c_first (d := d) U I1 c1 hp hor
        refine EV.meth ?_
        repeat' (((with_reducible apply EV.var); exact rfl))
        refine OV.of (methOf_in c1.g0 U.cls U.m4) ?_
        repeat' (with_reducible apply EVs.nil)
        refine RV.ok e ?_
        repeat' (first | with_reducible apply WS.nil | with_reducible apply Lp.next)
        refine .mk (ls.filter (· != l0)) (by dsimp only; rw [hor]; exact c2) ?_ fun hx => hl (List.mem_filter.mp hx).1
        have e5 : (wback sh.width { s with missed := s.missed + 1, order := s.order.tail } (s.order.headD 0)).order = rest := by
          unfold wback; dsimp only; split <;> (dsimp only; rw [hor]; rfl)
        rw [e5]
        have h1 := hp.filter (· != l0)
        rw [hor] at h1
        refine h1.trans ?_
        have hnd := I.nd
        rw [hor, List.nodup_cons] at hnd
        rw [List.filter_cons, if_neg (by simp), List.filter_eq_self.mpr fun x hx => by
          simp only [bne_iff_ne, ne_eq]; intro e; exact hnd.1 (e ▸ hx)]
      · rename_i hfull
        have hfull : ¬ s.order.length = sh.room := by dsimp only at hfull; omega
        unfold firstN
        rw [if_neg hfull]
        exact .mk ls c1 hp hl
    · clear hp hl hll c1 c
      rintro _ H' ⟨ls, c, hp, hl⟩
      generalize firstN sh { s with missed := s.missed + 1 } = t at *
      have hlen := I2.len
      have hsz := I2.sz
      dsimp only at e4
      have hll : ls.length ≤ 200 := by rw [hp.length_eq]; omega
      have h2 : (l + 1) * (sh.width : Int) = l * sh.width + sh.width := by rw [Int.add_mul, Int.one_mul]
      have hp0 : 0 ≤ l * (sh.width : Int) := Int.mul_nonneg hx.1 (by omega)
      refine WS.setsub ?_
      repeat' (with_reducible apply EV.slice)
      refine EV.self U rfl c.g0 rfl rfl ?_
      repeat' (first | ((with_reducible apply EV.var); exact rfl) | with_reducible apply EV.bin)
      refine EV.self U rfl c.g0 rfl rfl ?_
      repeat' (first | ((with_reducible apply EV.binvc); exact rfl) | with_reducible apply EV.bin | with_reducible apply bv_add | ((with_reducible apply bv_mul); rotate_left; (first | decide | omega); (first | decide | omega)))
      refine EV.self U rfl c.g0 rfl rfl ?_
      repeat' (((with_reducible apply bv_mul); rotate_left; (first | decide | omega); (first | decide | omega)))
      refine sl_ref c.g1 (bd_p hp0) (bd_p (by omega)) (by rw [List.length_map]; omega) ?_
      rw [slice_map, List.length_map, slice_line hx.1 (by rw [hlen, e4]; omega)]
      refine OKX.ok ?_
      refine EV.self U rfl c.app.g0 rfl rfl ?_
      repeat' (((with_reducible apply EV.var); exact rfl))
      refine si_dict c.app.g2 (by omega) ?_
      rw [dk_new hl]
      have hnd : l ∉ t.dirty := fun hd => hl (hp.mem_iff.mpr (I2.ds l hd))
      have c2 := c.add hl
      rw [← I2.line_same hx.1 hnd] at c2
      repeat' (first | with_reducible apply EV.bm | with_reducible apply WS.expr)
      refine EV.self U rfl c2.g0 rfl rfl ?_
      refine KM.lst c2.g3 rfl ?_
      repeat' (first | ((with_reducible apply EVs.v1); exact rfl) | with_reducible apply KE.of)
      refine app_r c2.g3 (by rw [List.length_map]; omega) ?_
      have c3 := c2.s3 (t.order ++ [l])
      rw [List.map_append] at c3
      repeat' (((with_reducible apply WS.retv); exact rfl))
      exact Out.mk ⟨_, _, c3, hp.append_right _⟩
end


section
variable {P : Prog} {q : Bool} {h : H} {d : Nat}
variable {cl : Cls} {n : Nat} {sh : Shape} {s : NS} {fo : List (Nat × M)} {ls : List Int} {ad : Int → Nat} {H : Mine.H} {l : Int}
/-- a list of numbers, frozen or not -/
inductive LL (h : Mine.H) (xs : List Int) : V → Prop where
  | lst : LL h xs (.lst (xs.map .int))
  | ref {n : Nat} (e : h[n]? = some (.list (xs.map .int))) : LL h xs (.ref n)
theorem LL.seq {xs : List Int} {v : V} (a : LL h xs v) : seqOf h v = some (xs.map .int) := by
  cases a with
  | lst => rfl
  | ref e => exact seqOf_r e
theorem LL.isl {xs : List Int} {v : V} (a : LL h xs v) : isInst P h v .list = some true := by
  cases a with
  | lst => rfl
  | @ref n e =>
    have h0 : ∀ o : Option M, o = some (.list (xs.map .int)) → ((match o with | some (.list _) => some 5 | some (.dict _) => some 6 | _ => none : Option Nat).map fun k => k == 5) = some true := by rintro _ rfl; rfl
    exact h0 _ e
theorem LL.get {xs : List Int} {v : V} {k : Nat} {Q : V → Prop} (a : LL h xs v) (hk : k < xs.length) (hx : xs.length ≤ 10000) (kk : Q (.int (xs.getD k 0))) : OV (getItem h v (.int k)) Q := by
  have e : (xs.map V.int)[(k : Int).toNat]? = some (.int (xs.getD k 0)) := by have := ni_ints (xs := xs) (i := k) (by omega) (by omega); rw [Int.toNat_natCast] at this ⊢; exact this
  cases a with
  | lst => exact gi_lst (by omega) (by omega) e kk
  | ref e' => exact gi_ref e' (by omega) (by omega) e kk
theorem LL.items {xs : List Int} {v : V} (a : LL h xs v) : ∃ live, itemsOf h v = some (xs.map .int, live) ∧ still h live = true := by
  cases a with
  | lst => exact ⟨none, rfl, rfl⟩
  | ref e => exact ⟨_, items_ref e, by unfold still; simp only [decide_eq_true_eq]; exact e⟩
theorem c_need_boxes2 (hP : P.fn 23 = some fn_need_boxes) (hP12 : P.fn 12 = some fn_is_whole) {boxes : List Int} {v : V} (a : LL h boxes v) (h1 : 1 ≤ boxes.length) (h2 : boxes.length ≤ 200) (hv : ∀ x ∈ boxes, 0 ≤ x ∧ x ≤ 999999) : callN P (d + 2) true 23 [v] h = .ok .none h := by
  refine call_pure (ρ := [_, _]) hP rfl rfl rfl rfl ?_
  dsimp only [fn_need_boxes]
  refine WS.ite ?_
  repeat' (first | ((with_reducible apply EVs.v1); exact rfl) | with_reducible apply EV.const | with_reducible apply EV.bi | with_reducible apply EV.cmp2 | with_reducible apply CC.t | with_reducible apply CC.not)
  refine len_q a.seq (by rw [List.length_map]; omega) ?_
  rw [List.length_map]
  repeat' (first | with_reducible apply EV.glob | with_reducible apply TV.of | with_reducible apply SP.not | ((with_reducible apply SP.dt); (first | assumption | exact rfl | omega)) | with_reducible apply WS.nil | with_reducible apply Thn.next | with_reducible apply cv_le)
  obtain ⟨live, i1, i2⟩ := a.items
  apply WS.for1 (α := Int) (fun pre ρ h' => h = h' ∧ ∃ x, ρ = [some v, x])
  repeat' (first | ((with_reducible apply EV.var); exact rfl) | with_reducible apply IT.of)
  refine ⟨_, boxes, live, i1, by omega, ⟨rfl, _, rfl⟩, (by rintro _ _ _ ⟨rfl, _⟩; exact i2), ?_, ?_⟩
  · rintro pre y post _ _ e ⟨rfl, x, rfl⟩
    have hy := hv y (by rw [e]; simp)
    refine WS.ite ?_
    repeat' (first | ((with_reducible apply EV.var); exact rfl) | with_reducible apply EV.const | with_reducible apply EV.glob | with_reducible apply EVs.cons | with_reducible apply EVs.nil | with_reducible apply EV.call | with_reducible apply CC.t | with_reducible apply CC.not)
    refine RV.ok (c_is_whole hP12 .int) ?_
    repeat' (first | with_reducible apply TV.of | with_reducible apply SP.not)
    refine SP.t (by rw [wholeV, decide_eq_true hy.1, decide_eq_true hy.2]; rfl) ?_
    repeat' (first | with_reducible apply WS.nil | with_reducible apply Thn.next | with_reducible apply Lp.next)
    exact ⟨rfl, _, rfl⟩
  · rintro _ _ ⟨rfl, x, rfl⟩
    repeat' (first | with_reducible apply WS.nil | with_reducible exact Ret.nx0)
theorem c_nlook (U : NearF P cl) (N : Nr n sh s fo H) {b : Nat} (hb : b < s.plain.length) :
    ∃ H', callN P (d + 4) true 45 [.ref n, .int b] H = .ok (.int (s.plain.getD b 0)) H' ∧ Nr n sh (rdN sh s b) fo H' := by
  obtain ⟨H', e, N2⟩ := c_touch (d := d) U N hb
  obtain ⟨I, ls, ad, c, hp⟩ := N
  have hx := box_line I.w1 hb
  have hw1 := I.w1; have hw2 := I.w2; have hsz := I.sz
  have hp0 : 0 ≤ (b : Int) / sh.width * (sh.width : Int) := Int.mul_nonneg hx.1 (by omega)
  obtain ⟨_, hin, hpl, _⟩ := I.rd hb
  refine call_imp (d := d + 3) (vs := [.ref n, .int b]) (A := Out (.int (s.plain.getD b 0)) (Nr n sh (rdN sh s b) fo)) (ρ := [_, _, _]) U.f45 rfl rfl rfl ?_
  dsimp only [fn_Near_look]
  repeat' (with_reducible apply WS.assign)
  refine EV.meth ?_
  repeat' (((with_reducible apply EV.var); exact rfl))
  refine OV.of (methOf_in c.g0 U.cls U.m5) ?_
  repeat' (((with_reducible apply EVs.v1); exact rfl))
  refine RV.ok e ?_
  have N3 := N2
  obtain ⟨I2, ls2, ad2, c2, hp2⟩ := N2
  repeat' (first | with_reducible apply EV.sub | with_reducible apply WS.ret)
  refine EV.self U rfl c2.g0 rfl rfl ?_
  repeat' (((with_reducible apply EV.var); exact rfl))
  refine gi_dict c2.g2 (hp2.mem_iff.mpr hin) ?_
  repeat' (first | ((with_reducible apply EV.var); exact rfl) | with_reducible apply EV.bin)
  refine EV.self U rfl c2.g0 rfl rfl ?_
  repeat' (first | with_reducible apply bv_sub | ((with_reducible apply bv_mul); rotate_left; (first | decide | omega); (first | decide | omega)))
  refine gi_ref (v := .int (s.plain.getD b 0)) (c2.gl (hp2.mem_iff.mpr hin)) (by omega) (by omega) ?_ ?_
  · rw [hpl, List.getElem?_map, show ((b : Int) - (b : Int) / sh.width * sh.width).toNat = b - ((b : Int) / sh.width * sh.width).toNat by omega, line_at (by omega), show ((b : Int) / sh.width * sh.width).toNat + (b - ((b : Int) / sh.width * sh.width).toNat) = b by omega, List.getD_eq_getElem?_getD, List.getElem?_eq_getElem hb]; rfl
  · exact Out.mk N3
theorem c_nput (U : NearF P cl) (N : Nr n sh s fo H) {b : Nat} {v : Int} (hb : b < s.plain.length) :
    ∃ H', callN P (d + 4) true 46 [.ref n, .int b, .int v] H = .ok .none H' ∧ Nr n sh (wrN sh s b v) fo H' := by
  obtain ⟨H', e, N2⟩ := c_touch (d := d) U N hb
  obtain ⟨I, ls, ad, c, hp⟩ := N
  have hx := box_line I.w1 hb
  have hw1 := I.w1; have hw2 := I.w2; have hsz := I.sz
  have hp0 : 0 ≤ (b : Int) / sh.width * (sh.width : Int) := Int.mul_nonneg hx.1 (by omega)
  obtain ⟨_, hin, hpl, _⟩ := I.rd hb
  have I3 := I.wr (v := v) hb
  refine call_imp (d := d + 3) (vs := [.ref n, .int b, .int v]) (A := Out .none (Nr n sh (wrN sh s b v) fo)) (ρ := [_, _, _, _]) U.f46 rfl rfl rfl ?_
  dsimp only [fn_Near_put]
  repeat' (with_reducible apply WS.assign)
  refine EV.meth ?_
  repeat' (((with_reducible apply EV.var); exact rfl))
  refine OV.of (methOf_in c.g0 U.cls U.m5) ?_
  repeat' (((with_reducible apply EVs.v1); exact rfl))
  refine RV.ok e ?_
  obtain ⟨I2, ls2, ad2, c2, hp2⟩ := N2
  have hl := hp2.mem_iff.mpr hin
  refine WS.setsub ?_
  repeat' (first | ((with_reducible apply EV.var); exact rfl) | with_reducible apply EV.sub)
  refine EV.self U rfl c2.g0 rfl rfl ?_
  repeat' (((with_reducible apply EV.var); exact rfl))
  refine gi_dict c2.g2 hl ?_
  repeat' (first | ((with_reducible apply EV.var); exact rfl) | with_reducible apply EV.bin)
  refine EV.self U rfl c2.g0 rfl rfl ?_
  repeat' (first | with_reducible apply bv_sub | ((with_reducible apply bv_mul); rotate_left; (first | decide | omega); (first | decide | omega)))
  have e3 : ((b : Int) - (b : Int) / sh.width * sh.width).toNat = b - ((b : Int) / sh.width * sh.width).toNat := by omega
  refine si_list (c2.gl hl) (by omega) (by omega) (by rw [e3, List.length_map, line_len, hpl]; omega) ?_
  rw [e3, ← List.map_set]
  have c3 := c2.put (v := v) (hp2.nodup_iff.mpr I2.nd) hw1 (by rw [hpl]; exact hb) (fun x hx => (I2.rg x (hp2.mem_iff.mp hx)).1) hl
  refine WS.setsub ?_
  repeat' (with_reducible apply EV.const)
  refine EV.self U rfl c3.g0 rfl rfl ?_
  repeat' (((with_reducible apply EV.var); exact rfl))
  have hdl := dirty_len I2
  refine si_dict c3.g4 (by dsimp only; omega) ?_
  dsimp only
  have e4 : dictSet (dk (fun _ => V.bool true) (rdN sh s b).dirty) ((b : Int) / sh.width) (.bool true) = dk (fun _ => .bool true) (markN ((b : Int) / sh.width) (rdN sh s b).dirty) := by
    unfold markN
    split
    · rename_i hd; exact dk_old hd rfl
    · rename_i hd; rw [dk_new hd]; unfold dk; rw [List.map_append]; rfl
  rw [e4]
  repeat' (with_reducible apply WS.nil)
  exact Out.mk ⟨I3, ls2, ad2, c3.s4 _, hp2⟩
/-- what is no box -/
theorem c_touch_x (U : NearF P cl) (hz : P.rz.contains 4 = true) (N : Nr n sh s fo H) {v : V} (hv : callN P (d + 1) true 12 [v, .int 0, .int (s.far.length - 1)] H = .ok (.bool false) H) : callN P (d + 2) true 44 [.ref n, v] H = .exc 4 H := by
  obtain ⟨I, ls, ad, c, hp⟩ := N
  have hsz := I.sz; have hlen := I.len
  refine call_imp (d := d + 1) (vs := [.ref n, v]) (A := fun r => r = .exc 4 H) (ρ := [_, _, _]) U.f44 rfl rfl rfl ?_
  dsimp only [fn_Near_touch]
  refine WS.ite (CC.not (touch_start U c (by omega) hv ?_))
  refine SP.not (SP.ff ?_)
  repeat' (first | ((with_reducible apply WS.raise); (first | assumption | exact rfl)) | with_reducible apply Thn.exc)
  rfl
theorem c_nlook_x (U : NearF P cl) (hz : P.rz.contains 4 = true) (N : Nr n sh s fo H) {v : V} (hv : callN P (d + 1) true 12 [v, .int 0, .int (s.far.length - 1)] H = .ok (.bool false) H) : callN P (d + 3) true 45 [.ref n, v] H = .exc 4 H := by
  have e := c_touch_x (d := d) U hz N hv
  obtain ⟨I, ls, ad, c, hp⟩ := N
  refine call_imp (d := d + 2) (vs := [.ref n, v]) (A := fun r => r = .exc 4 H) (ρ := [_, _, _]) U.f45 rfl rfl rfl ?_
  dsimp only [fn_Near_look]
  repeat' (with_reducible apply WS.assign)
  refine EV.meth ?_
  repeat' (((with_reducible apply EV.var); exact rfl))
  refine OV.of (methOf_in c.g0 U.cls U.m5) ?_
  repeat' (((with_reducible apply EVs.v1); exact rfl))
  exact RV.exc e rfl
theorem c_nput_x (U : NearF P cl) (hz : P.rz.contains 4 = true) (N : Nr n sh s fo H) {v w : V} (hv : callN P (d + 1) true 12 [v, .int 0, .int (s.far.length - 1)] H = .ok (.bool false) H) : callN P (d + 3) true 46 [.ref n, v, w] H = .exc 4 H := by
  have e := c_touch_x (d := d) U hz N hv
  obtain ⟨I, ls, ad, c, hp⟩ := N
  refine call_imp (d := d + 2) (vs := [.ref n, v, w]) (A := fun r => r = .exc 4 H) (ρ := [_, _, _, _]) U.f46 rfl rfl rfl ?_
  dsimp only [fn_Near_put]
  repeat' (with_reducible apply WS.assign)
  refine EV.meth ?_
  repeat' (((with_reducible apply EV.var); exact rfl))
  refine OV.of (methOf_in c.g0 U.cls U.m5) ?_
  repeat' (((with_reducible apply EVs.v1); exact rfl))
  exact RV.exc e rfl
noncomputable def ns0 (boxes : List Int) : NS := ⟨[], [], boxes, boxes, 0, 0, 0⟩
theorem c_ninit (U : NearF P cl) {boxes : List Int} {bv : V} (hbv : LL (h ++ [.inst 1 []]) boxes bv) (h1 : 1 ≤ boxes.length) (h2 : boxes.length ≤ 200) (hv : ∀ x ∈ boxes, 0 ≤ x ∧ x ≤ 999999) (r1 : 1 ≤ sh.room) (r2 : sh.room ≤ 200) (w1 : 1 ≤ sh.width) (w2 : sh.width ≤ 200) :
    callN P (d + 3) true 41 [.ref h.length, bv, .int sh.room, .int sh.width, .str (ruleS sh.least)] (h ++ [.inst 1 []]) = .ok .none (h ++ [instN h.length sh 0 0 0, .list (boxes.map .int), .dict [], .list [], .dict []]) := by
  refine call_imp (d := d + 2) (vs := [.ref h.length, bv, .int sh.room, .int sh.width, .str (ruleS sh.least)]) (A := fun r => r = .ok .none (h ++ [instN h.length sh 0 0 0, .list (boxes.map .int), .dict [], .list [], .dict []])) (ρ := [_, _, _, _, _]) U.f41 rfl rfl rfl ?_
  dsimp only [fn_Near_init]
  have hat : ∀ i k, attrsN.findIdx? (· == k) = some i → cl.attrs.findIdx? (· == k) = some i := fun i k e => by rw [U.attrs]; exact e
  repeat' (first | ((with_reducible apply EVs.v1); exact rfl) | with_reducible apply EV.call | with_reducible apply WS.expr)
  refine RV.ok (c_need_boxes2 U.f23 U.f12 hbv h1 h2 hv) ?_
  refine WS.ite ?_
  repeat' (first | ((with_reducible apply EV.var); exact rfl) | with_reducible apply EV.const | with_reducible apply EV.glob | with_reducible apply EVs.cons | with_reducible apply EVs.nil | with_reducible apply EV.call | with_reducible apply CC.t | with_reducible apply CC.not | with_reducible apply CC.or | with_reducible apply CCo.cons)
  refine RV.ok (c_is_whole U.f12 .int) ?_
  repeat' (first | with_reducible apply TV.of | with_reducible apply SP.not)
  refine SP.t (by rw [wholeV, decide_eq_true (by omega), decide_eq_true (by omega)]; rfl) ?_
  repeat' (first | ((with_reducible apply EV.var); exact rfl) | with_reducible apply EV.const | with_reducible apply EV.glob | with_reducible apply EVs.cons | with_reducible apply EVs.nil | with_reducible apply EV.call | with_reducible apply CC.t | with_reducible apply CC.not | with_reducible apply CCo.cons)
  refine RV.ok (c_is_whole U.f12 .int) ?_
  repeat' (first | with_reducible apply TV.of | with_reducible apply SP.not)
  refine SP.t (by rw [wholeV, decide_eq_true (by omega), decide_eq_true (by omega)]; rfl) ?_
  repeat' (first | with_reducible apply CCo.nil | with_reducible apply SP.ff | with_reducible apply WS.nil | with_reducible apply Thn.next)
  refine WS.ite ?_
  refine CC.rf (b := false) ?_ (SP.ff ?_)
  · cases sh.least <;> rfl
  repeat' (first | with_reducible apply WS.nil | with_reducible apply Thn.next)
  refine WS.setattr ?_
  refine EV.toList1 ?_
  repeat' (((with_reducible apply EV.var); exact rfl))
  refine OV.of hbv.seq ⟨by simp; omega, ?_⟩
  repeat' (((with_reducible apply EV.var); exact rfl))
  rw [List.append_assoc, List.length_append, List.length_singleton]
  refine setA_in atL0 U.cls (hat _ _ rfl) rfl ?_
  rw [setL0]
  refine WS.setattr ?_
  repeat' (((with_reducible apply EV.var); exact rfl))
  refine setA_in atL0 U.cls (hat _ _ rfl) rfl ?_
  rw [setL0]
  refine WS.setattr ?_
  repeat' (((with_reducible apply EV.var); exact rfl))
  refine setA_in atL0 U.cls (hat _ _ rfl) rfl ?_
  rw [setL0]
  refine WS.setattr ?_
  repeat' (((with_reducible apply EV.var); exact rfl))
  refine setA_in atL0 U.cls (hat _ _ rfl) rfl ?_
  rw [setL0]
  refine WS.setattr ?_
  repeat' (first | ((with_reducible apply EV.var); exact rfl) | with_reducible apply EV.const)
  refine setA_in atL0 U.cls (hat _ _ rfl) rfl ?_
  rw [setL0]
  refine WS.setattr ?_
  repeat' (first | ((with_reducible apply EV.var); exact rfl) | with_reducible apply EV.const)
  refine setA_in atL0 U.cls (hat _ _ rfl) rfl ?_
  rw [setL0]
  refine WS.setattr ?_
  repeat' (first | ((with_reducible apply EV.var); exact rfl) | with_reducible apply EV.const)
  refine setA_in atL0 U.cls (hat _ _ rfl) rfl ?_
  rw [setL0]
  refine WS.setattr (EV.dict0 ?_)
  repeat' (((with_reducible apply EV.var); exact rfl))
  rw [List.append_assoc, List.length_append]
  refine setA_in atL0 U.cls (hat _ _ rfl) rfl ?_
  rw [setL0]
  refine WS.setattr ?_
  repeat' (first | ((with_reducible apply EV.var); exact rfl) | with_reducible apply EVs.nil | with_reducible apply EV.list1)
  rw [List.append_assoc, List.length_append]
  refine setA_in atL0 U.cls (hat _ _ rfl) rfl ?_
  rw [setL0]
  refine WS.setattr (EV.dict0 ?_)
  repeat' (((with_reducible apply EV.var); exact rfl))
  rw [List.append_assoc, List.length_append]
  refine setA_in atL0 U.cls (hat _ _ rfl) rfl ?_
  rw [setL0]
  repeat' (with_reducible apply WS.nil)
  rfl
theorem nr_init {boxes : List Int} (h2 : boxes.length ≤ 200) (r1 : 1 ≤ sh.room) (r2 : sh.room ≤ 200) (w1 : 1 ≤ sh.width) (w2 : sh.width ≤ 200) (hf : Hp h fo) : Nr h.length sh (ns0 boxes) fo (h ++ [instN h.length sh 0 0 0, .list (boxes.map .int), .dict [], .list [], .dict []]) := by
  refine ⟨⟨w1, w2, r1, r2, rfl, h2, .nil, Nat.zero_le _, (fun _ h => by cases h), (fun _ h => by cases h), .nil, fun _ _ => rfl⟩, [], fun _ => 0, ?_, .refl _⟩
  have a := hf.new (m := instN h.length sh 0 0 0)
  have a := a.new (m := .list (boxes.map .int))
  have a := a.new (m := .dict [])
  have a := a.new (m := .list [])
  have a := a.new (m := .dict [])
  simp only [List.append_assoc, List.length_append, List.length_singleton, List.cons_append, List.nil_append, List.length_cons, List.length_nil] at a
  refine a.perm ?_
  show ([_, _, _, _, _] ++ fo).Perm ([_, _, _, _, _] ++ fo)
  refine List.Perm.append_right _ (List.reverse_perm _).symm
theorem c_held (U : NearF P cl) (f57 : P.fn 57 = some fn_Near_held) (N : Nr n sh s fo H) : callN P (d + 1) q 57 [.ref n] H = .ok (.lst (s.order.map .int)) H := by
  obtain ⟨I, ls, ad, c, hp⟩ := N
  have := I.rm; have := I.r2
  refine call_pure (ρ := [_]) f57 rfl rfl rfl (refsUnder_map (fun _ => rfl) _) ?_
  dsimp only [fn_Near_held]
  repeat' (with_reducible apply WS.ret)
  refine EV.toList0 ?_
  refine EV.self U rfl c.g0 rfl rfl ?_
  refine OV.of (seqOf_r c.g3) ⟨by rw [List.length_map]; omega, ?_⟩
  repeat' (((with_reducible apply Ret.eq0); exact rfl))
end


section
variable {P : Prog} {q : Bool} {h : H} {d : Nat}
variable {cl : Cls} {n : Nat} {sh : Shape} {s : NS} {fo : List (Nat × M)} {ls : List Int} {ad : Int → Nat} {H : Mine.H} {l : Int}
theorem c_wholes2 (hP : P.fn 32 = some fn_wholes) (hP3 : P.fn 3 = some fn_whole) {xs : List Int} (hl : xs.length ≤ 10000) {v w : V} (a : LL h xs v) (b : LL h xs w) : callN P (d + 2) true 32 [v, w] h = .ok (.bool true) h := by
  refine call_pure (ρ := [_, _, _]) hP rfl rfl rfl rfl ?_
  dsimp only [fn_wholes]
  refine WS.ite ?_
  repeat' (first | ((with_reducible apply EV.var); exact rfl) | ((with_reducible apply EV.isinst); exact rfl) | with_reducible apply CC.t | with_reducible apply CC.not | with_reducible apply CC.or | with_reducible apply CCo.cons)
  refine ii_t a.isl ?_
  repeat' (first | ((with_reducible apply EVs.v1); exact rfl) | with_reducible apply EV.cmp | with_reducible apply EV.bi | with_reducible apply CC.t | with_reducible apply CCo.cons | with_reducible apply TV.of | with_reducible apply SP.not | with_reducible apply SP.tt)
  refine len_q a.seq (by rw [List.length_map]; omega) ?_
  repeat' (first | ((with_reducible apply EVs.v1); exact rfl) | with_reducible apply EV.bi)
  refine len_q b.seq (by rw [List.length_map]; omega) ?_
  repeat' (first | with_reducible apply CCo.nil | with_reducible apply TV.of | with_reducible apply SP.not | with_reducible apply SP.ff | ((with_reducible apply SP.dt); (first | assumption | exact rfl | omega)) | with_reducible apply WS.nil | with_reducible apply Thn.next | with_reducible apply cv_ne)
  refine WS.forN (fun k ρ h' => h' = h ∧ ∃ x, ρ = [some v, some w, x]) ?_
  repeat' (first | ((with_reducible apply EVs.v1); exact rfl) | with_reducible apply EV.bi | with_reducible apply IT.range1)
  refine len_q b.seq (by rw [List.length_map]; omega) ?_
  rw [List.length_map]
  repeat' (with_reducible apply IsI.of)
  refine ⟨by omega, xs.length, fun i => .int i, by rw [Int.toNat_natCast]; rfl, by omega, ⟨rfl, _, rfl⟩, ?_, ?_⟩
  · rintro k _ _ hk ⟨rfl, x, rfl⟩
    refine WS.ite ?_
    repeat' (first | ((with_reducible apply EV.subvv); exact rfl; exact rfl) | with_reducible apply EVs.cons | with_reducible apply EV.call | with_reducible apply CC.t | with_reducible apply CC.not | with_reducible apply CC.or | with_reducible apply CCo.cons)
    refine a.get hk hl ?_
    repeat' (with_reducible apply EVs.nil)
    refine RV.ok (c_whole hP3) ?_
    repeat' (first | ((with_reducible apply EV.subvv); exact rfl; exact rfl) | with_reducible apply EV.cmp | with_reducible apply CC.t | with_reducible apply CCo.cons | with_reducible apply TV.of | with_reducible apply SP.not | with_reducible apply SP.tt)
    refine a.get hk hl ?_
    repeat' (((with_reducible apply EV.subvv); exact rfl; exact rfl))
    refine b.get hk hl ?_
    repeat' (first | with_reducible apply CCo.nil | with_reducible apply TV.of | with_reducible apply SP.not | with_reducible apply SP.ff | ((with_reducible apply SP.dt); (first | assumption | exact rfl | omega)) | with_reducible apply WS.nil | with_reducible apply Thn.next | with_reducible apply Lp.next | with_reducible apply cv_ne)
    exact ⟨rfl, _, rfl⟩
  · rintro _ _ ⟨rfl, x, rfl⟩
    repeat' (first | with_reducible apply WS.retc | ((with_reducible apply Ret.eq0); exact rfl))
theorem whole_not (hP : P.fn 12 = some fn_is_whole) {v : V} {a b : Int} (hv : isInst P h v .int = some false) : callN P (d + 1) q 12 [v, .int a, .int b] h = .ok (.bool false) h := by
  refine call_pure (ρ := [_, _, _]) hP rfl rfl rfl rfl ?_
  dsimp only [fn_is_whole]
  repeat' (first | ((with_reducible apply EV.var); exact rfl) | with_reducible apply EV.and | with_reducible apply EVa.cons | ((with_reducible apply EV.isinst); exact rfl) | with_reducible apply WS.ret)
  refine ii_f hv ?_
  repeat' (first | with_reducible apply TV.of | with_reducible apply SP.ff | ((with_reducible apply Ret.eq0); exact rfl))
theorem Nr.app (N : Nr n sh s fo H) {e : Mine.H} : Nr n sh s fo (H ++ e) := by
  obtain ⟨I, ls, ad, c, hp⟩ := N; exact ⟨I, ls, ad, c.app, hp⟩
theorem Nr.setf {k : Nat} {m m' : M} (N : Nr n sh s ((k, m) :: fo) H) : Nr n sh s ((k, m') :: fo) (H.set k m') := by
  obtain ⟨I, ls, ad, c, hp⟩ := N
  refine ⟨I, ls, ad, ?_, hp⟩
  unfold NearC at c ⊢
  exact Hp.set (A := [_, _, _, _, _] ++ ls.map (lineM sh.width s.plain ad)) c
theorem Nr.newf {m : M} (N : Nr n sh s fo H) : Nr n sh s ((H.length, m) :: fo) (H ++ [m]) := by
  obtain ⟨I, ls, ad, c, hp⟩ := N
  refine ⟨I, ls, ad, (Hp.new (m := m) c).perm ?_, hp⟩
  exact (List.perm_middle (l₁ := [_, _, _, _, _] ++ ls.map (lineM sh.width s.plain ad))).symm
noncomputable def ordN (sh : Shape) (o : List Int) (l : Int) : List Int :=
  if l ∈ o then (if sh.least then o.filter (· != l) ++ [l] else o) else (if o.length = sh.room then o.tail else o) ++ [l]
theorem first_ord : (firstN sh s).order = if s.order.length = sh.room then s.order.tail else s.order := by
  unfold firstN
  split
  · unfold wback; split <;> rfl
  · rfl
theorem first_cnt : (firstN sh s).found = s.found ∧ (firstN sh s).missed = s.missed := by
  unfold firstN
  split
  · unfold wback; split <;> exact ⟨rfl, rfl⟩
  · exact ⟨rfl, rfl⟩
theorem touch_ord : (touchN sh s l).order = ordN sh s.order l := by
  unfold touchN ordN
  split
  · rfl
  · dsimp only; rw [first_ord]
theorem touch_cnt : (touchN sh s l).found = (if l ∈ s.order then s.found + 1 else s.found) ∧ (touchN sh s l).missed = (if l ∈ s.order then s.missed else s.missed + 1) := by
  unfold touchN
  split
  · exact ⟨rfl, rfl⟩
  · dsimp only; rw [first_cnt.1, first_cnt.2]; exact ⟨rfl, rfl⟩
theorem c_near_behind (hP : P.fn 59 = some fn_near_behind) {o : List Int} (ho : o.length ≤ 1000) : callN P (d + 1) true 59 [.lst (o.map .int), .int l, .int sh.room, .str (ruleS sh.least)] h = .ok (.lst ((ordN sh o l).map .int)) h := by
  refine call_pure (ρ := [_, _, _, _, _]) hP rfl rfl rfl (refsUnder_map (fun _ => rfl) _) ?_
  dsimp only [fn_near_behind]
  unfold ordN
  refine WS.ite ?_
  repeat' (first | ((with_reducible apply CC.cmpvv); exact rfl; exact rfl) | with_reducible refine SP.dec (fun _ => ?_) (fun _ => ?_) | with_reducible apply WS.nil | with_reducible apply Thn.next | with_reducible apply in_ints)
  · rename_i hl
    rw [if_pos hl]
    refine WS.ite ?_
    repeat' (first | ((with_reducible apply CC.cmpvc); exact rfl) | ((with_reducible apply WS.retv); exact rfl) | with_reducible apply EV.bin | with_reducible refine SP.dec (fun _ => ?_) (fun _ => ?_) | with_reducible apply WS.ret | with_reducible apply WS.nil | with_reducible apply Thn.next | with_reducible apply Thn.ret | with_reducible apply cv_eqs)
    · rename_i hle
      have hle : sh.least = false := by cases h : sh.least with | false => rfl | true => rw [h] at hle; cases hle
      rw [if_neg (by rw [hle]; exact Bool.false_ne_true)]
      exact Ret.eq0 rfl
    · rename_i hle
      have hle : sh.least = true := by cases h : sh.least with | true => rfl | false => rw [h] at hle; exact absurd rfl hle
      rw [if_pos hle]
      refine EV.comp (α := Int) ?_
      repeat' (first | ((with_reducible apply EV.var); exact rfl) | with_reducible apply IT.of)
      refine ⟨.int, o, none, fun x => if x != l then some (.int x) else none, rfl, by omega, fun _ => rfl, fun y hy ys => ?_, ?_, ?_⟩
      · refine CCi.cons (CC.cmpvv rfl rfl (cv_ne ?_))
        by_cases e : y = l
        · subst e
          refine SP.f (by simp) (SP.ff ⟨by simp, rfl⟩)
        · refine SP.t (by simpa using e) ?_
          refine CCi.nil (SP.tt (EV.var rfl ⟨?_, rfl⟩))
          dsimp only
          rw [if_pos (by simpa using e)]
      · rw [fm_filter (p := fun x => x != l)]; exact refsUnder_map (fun _ => rfl) _
      rw [fm_filter (p := fun x => x != l)]
      repeat' (first | ((with_reducible apply EVs.v1); exact rfl) | with_reducible apply EV.list0)
      refine bv_addl ?_ (by have := List.length_filter_le (· != l) o; rw [List.length_map]; simp; omega)
      exact Ret.eq0 (by rw [List.map_append]; rfl)
  · rename_i hl
    rw [if_neg hl]
    refine WS.iteJ (fun ρ h' => h' = h ∧ ∃ a b c, ρ = [some (.lst ((if o.length = sh.room then o.tail else o).map .int)), some (.int l), a, b, c]) ?_ ?_
    · repeat' (first | ((with_reducible apply EVs.v1); exact rfl) | ((with_reducible apply EV.var); exact rfl) | with_reducible apply EV.const | with_reducible apply EV.cmp | with_reducible apply EV.bi | with_reducible apply EV.slice | with_reducible apply CC.t | with_reducible apply TV.of | with_reducible refine SP.dec (fun _ => ?_) (fun _ => ?_) | with_reducible apply WS.assign | with_reducible apply WS.nil | with_reducible apply Lp.next | with_reducible apply cv_eq | ((with_reducible apply len_m); (first | assumption | omega)))
      · rename_i hr
        have hr : o.length = sh.room := by omega
        refine sl_drop (by decide) (by rw [List.length_map]; omega) ?_
        repeat' (first | with_reducible apply WS.nil | with_reducible apply Lp.next)
        rw [if_pos hr]
        refine ⟨rfl, some (.int sh.room), some (.str (ruleS sh.least)), none, ?_⟩
        cases o <;> rfl
      · rename_i hr
        have hr : ¬ o.length = sh.room := by omega
        rw [if_neg hr]
        exact ⟨rfl, _, _, _, rfl⟩
    · rintro _ _ ⟨rfl, a, b, c, rfl⟩
      repeat' (first | ((with_reducible apply EVs.v1); exact rfl) | ((with_reducible apply EV.var); exact rfl) | with_reducible apply EV.bin | with_reducible apply EV.list0 | with_reducible apply WS.ret)
      refine bv_addl ?_ (by rw [List.length_map, List.length_singleton]; split <;> (try rw [List.length_tail]) <;> omega)
      exact Ret.eq0 (by rw [List.map_append]; rfl)
theorem c_touched (U : NearF P cl) (hP : P.fn 60 = some fn_touched) (N : Nr n sh s fo H) {b : Nat} (hb : b < s.plain.length) {i : Int} :
    ∃ H' s', callN P (d + 5) true 60 [.ref n, .int b, .int i] H = .ok (.str [121, 101, 115]) H' ∧ Nr n sh s' fo H' ∧ s'.order = (rdN sh s b).order ∧ s'.found = (rdN sh s b).found ∧ s'.missed = (rdN sh s b).missed ∧ s'.plain.length = s.plain.length := by
  obtain ⟨H1, e1, N1⟩ := c_nlook (d := d) U N hb
  obtain ⟨H2, e2, N2⟩ := c_nput (d := d) U N (v := i % 1000) hb
  obtain ⟨I, ls, ad, c, hp⟩ := N
  obtain ⟨_, _, hpl, _⟩ := I.rd hb
  refine call_imp (d := d + 4) (vs := [.ref n, .int b, .int i]) (A := fun r => ∃ H' s', r = .ok (.str [121, 101, 115]) H' ∧ Nr n sh s' fo H' ∧ s'.order = (rdN sh s b).order ∧ s'.found = (rdN sh s b).found ∧ s'.missed = (rdN sh s b).missed ∧ s'.plain.length = s.plain.length) (ρ := [_, _, _, _]) hP rfl rfl rfl ?_
  dsimp only [fn_touched]
  refine WS.try ?_
  refine WS.ite ?_
  repeat' (first | ((with_reducible apply EV.binvc); exact rfl) | with_reducible apply EV.const | with_reducible apply EV.bin | with_reducible apply EV.cmp | with_reducible apply CC.t | with_reducible apply TV.of | with_reducible refine SP.dec (fun _ => ?_) (fun _ => ?_) | with_reducible apply WS.expr | ((with_reducible apply bv_div); rotate_left; (first | decide | omega); (first | decide | omega)) | ((with_reducible apply bv_mod); rotate_left; (first | decide | omega)) | with_reducible apply cv_eq)
  · refine EV.meth ?_
    repeat' (((with_reducible apply EV.var); exact rfl))
    refine OV.of (methOf_in c.g0 U.cls U.m1) ?_
    repeat' (((with_reducible apply EVs.v1); exact rfl))
    refine RV.ok e1 ?_
    repeat' (first | with_reducible apply WS.nil | with_reducible apply Thn.next)
    refine Try.next ?_
    repeat' (with_reducible apply WS.retc)
    exact ⟨_, _, rfl, N1, rfl, rfl, rfl, by rw [hpl]⟩
  · refine EV.meth ?_
    repeat' (((with_reducible apply EV.var); exact rfl))
    refine OV.of (methOf_in c.g0 U.cls U.m2) ?_
    repeat' (first | ((with_reducible apply EV.binvc); exact rfl) | ((with_reducible apply EV.var); exact rfl) | with_reducible apply EVs.cons | with_reducible apply EVs.nil | ((with_reducible apply bv_mod); rotate_left; (first | decide | omega)))
    refine RV.ok e2 ?_
    repeat' (first | with_reducible apply WS.nil | with_reducible apply Thn.next)
    refine Try.next ?_
    repeat' (with_reducible apply WS.retc)
    exact ⟨_, _, rfl, N2, rfl, rfl, rfl, by unfold wrN; dsimp only; rw [List.length_set, hpl]⟩
theorem c_touched_x (U : NearF P cl) (hP : P.fn 60 = some fn_touched) (hP10 : P.fn 10 = some fn_alone) (Er : Errs P) (N : Nr n sh s fo H) {v : V} (hv : callN P (d + 1) true 12 [v, .int 0, .int (s.far.length - 1)] H = .ok (.bool false) H) {i : Int} :
    callN P (d + 4) true 60 [.ref n, v, .int i] H = .ok (.str [110, 111]) H := by
  have hz : P.rz.contains 4 = true := by rw [Er.rz]; rfl
  have hz2 : ((P.excs[4]?).getD []).contains 4 = true := by rw [Er.excs]; rfl
  have e1 := c_nlook_x (d := d) U hz N hv
  have e2 := c_nput_x (d := d) (w := .int (i % 1000)) U hz N hv
  obtain ⟨I, ls, ad, c, hp⟩ := N
  refine call_imp (d := d + 3) (vs := [.ref n, v, .int i]) (A := fun r => r = .ok (.str [110, 111]) H) (ρ := [_, _, _, _]) hP rfl rfl rfl ?_
  dsimp only [fn_touched]
  refine WS.try ?_
  refine WS.ite ?_
  have fin : ∀ {ρ : Rho} {Q : RS → Prop}, (∀ ρ, Q (.ret (.str [110, 111]) ρ H)) → Try P (callN P (d + 3)) true [(4, some 3, [.ret (.ite (.t (.call 10 [(.var 3), (.const (.int 3))])) (.const (.str [110, 111])) (.const (.str [63])))])] [.ret (.const (.str [121, 101, 115]))] Q (.exc 4 [some (.ref n), some v, some (.int i), none] H) := fun {ρ Q} k => by
    refine Try.here hz hz2 ?_
    repeat' (first | ((with_reducible apply EVs.vc); exact rfl) | with_reducible apply EV.call | with_reducible apply EV.ite | with_reducible apply CC.t | with_reducible apply WS.ret)
    refine RV.ok (c_alone hP10 Er (by decide) (by decide) rfl) ?_
    repeat' (first | with_reducible apply EV.const | with_reducible apply TV.of | with_reducible apply SP.tt)
    exact k _
  repeat' (first | ((with_reducible apply EV.binvc); exact rfl) | with_reducible apply EV.const | with_reducible apply EV.bin | with_reducible apply EV.cmp | with_reducible apply CC.t | with_reducible apply TV.of | with_reducible refine SP.dec (fun _ => ?_) (fun _ => ?_) | with_reducible apply WS.expr | ((with_reducible apply bv_div); rotate_left; (first | decide | omega); (first | decide | omega)) | ((with_reducible apply bv_mod); rotate_left; (first | decide | omega)) | with_reducible apply cv_eq)
  · refine EV.meth ?_
    repeat' (((with_reducible apply EV.var); exact rfl))
    refine OV.of (methOf_in c.g0 U.cls U.m1) ?_
    repeat' (((with_reducible apply EVs.v1); exact rfl))
    refine RV.exc e1 ?_
    exact fin (ρ := []) fun _ => rfl
  · refine EV.meth ?_
    repeat' (((with_reducible apply EV.var); exact rfl))
    refine OV.of (methOf_in c.g0 U.cls U.m2) ?_
    repeat' (first | ((with_reducible apply EV.binvc); exact rfl) | ((with_reducible apply EV.var); exact rfl) | with_reducible apply EVs.cons | with_reducible apply EVs.nil | ((with_reducible apply bv_mod); rotate_left; (first | decide | omega)))
    refine RV.exc e2 ?_
    exact fin (ρ := []) fun _ => rfl
end


section
variable {P : Prog} {q : Bool} {h : H} {d : Nat}
theorem EV.J {cf : Nat → List V → H → R V} {e : E} {ρ : Rho} {Q : V → H → Prop} {X : Nat → H → Prop} (A : V → H → Prop) (k1 : EV P q cf e ρ h A X) (k2 : ∀ v h, A v h → Q v h) : EV P q cf e ρ h Q X := OKX.mono k1 k2 fun _ _ k => k
theorem bv_zeros {n : Nat} {Q : V → H → Prop} {X : Nat → H → Prop} (hn : n ≤ 10000) (k : Q (.lst ((List.replicate n (0 : Int)).map .int)) h) : RV (binV .mul h (.lst [.int 0]) (.int n)) Q X := by
  have h0 : ∀ (c : Bool) (v : V), c = true → Q v h → OKX Q X (if c = true then .ok v h else .fail) := fun c v e k => by rw [if_pos e]; exact .ok k
  have e : (List.replicate n [V.int 0]).flatten = (List.replicate n (0 : Int)).map .int := by
    clear hn k
    induction n with
    | zero => rfl
    | succ n ih => rw [List.replicate_succ, List.flatten_cons, ih]; rfl
  refine h0 (okInt n && decide ([V.int 0].length * (n : Int).toNat ≤ 100000)) (.lst (List.replicate (n : Int).toNat [V.int 0]).flatten) ?_ ?_
  · rw [okInt_of (by omega) (by omega), Bool.true_and, decide_eq_true_iff, List.length_singleton]; omega
  · rw [Int.toNat_natCast, e]; exact k
theorem rule_get {i : Int} {Q : V → Prop} (k : ∀ b, Q (.str (ruleS b))) : OV (getItem h (.lst [.str [108, 101, 97, 115, 116], .str [102, 105, 114, 115, 116]]) (.int (i % 2))) Q := by
  rcases (by omega : i % 2 = 0 ∨ i % 2 = 1) with e | e <;> rw [e]
  · exact gi_lst (by decide) (by decide) rfl (k true)
  · exact gi_lst (by decide) (by decide) rfl (k false)
/-- what is no box -/
noncomputable def noBox (P : Prog) (size : Nat) (H : Mine.H) (v : V) : Prop := ∀ d, callN P (d + 1) true 12 [v, .int 0, .int (size - 1)] H = .ok (.bool false) H
theorem wrong_get (hP : P.fn 12 = some fn_is_whole) {size : Nat} {n : Nat} {H : Mine.H} (hn : H[n]? = some (.dict [])) {i : Int} {Q : V → Prop} (k : ∀ v, noBox P size H v → Q v) :
    OV (getItem H (.lst [.int (0 - 1), .int size, .bool true, .none, .str [48], .bool false, .lst [.int 0], .tup [.int 0, .int 0], .ref n]) (.int (i / 9 % 9))) Q := by
  refine gi_any (noBox P size H) (by omega) (by simp; omega) (by simp) ?_ k
  intro v hv d
  simp only [List.mem_cons, List.not_mem_nil, or_false] at hv
  rcases hv with rfl | rfl | rfl | rfl | rfl | rfl | rfl | rfl | rfl
  · rw [c_is_whole hP .int]; rfl
  · rw [c_is_whole hP .int, wholeV, decide_eq_false (p := (size : Int) ≤ size - 1) (by omega), Bool.and_false]
  · rw [c_is_whole hP .bool]; rfl
  · exact whole_not hP rfl
  · exact whole_not hP rfl
  · rw [c_is_whole hP .bool]; rfl
  · exact whole_not hP rfl
  · exact whole_not hP rfl
  · refine whole_not hP ?_
    have h0 : ∀ o : Option M, o = some (.dict []) → ((match o with | some (.list _) => some 5 | some (.dict _) => some 6 | _ => none : Option Nat).map fun k => k == 1 || k == 2) = some false := by rintro _ rfl; rfl
    exact h0 _ hn
theorem ints_eq {l : List Int} : eqV (.lst (l.map .int)) (.lst (l.map .int)) = true := eqV_refl 6 (by
  show (l.map V.int).all (V.plainN 5) = true
  rw [List.all_map, List.all_eq_true]; intro i _; rfl)
theorem ints_pl {l : List Int} : (V.lst (l.map .int)).plain = true := by
  show (l.map V.int).all (V.plainN 5) = true
  rw [List.all_map, List.all_eq_true]; intro i _; rfl
theorem c_heldM {cl : Cls} {n : Nat} {sh : Shape} {s : NS} {fo : List (Nat × M)} {H : Mine.H} (U : NearF P cl) (f58 : P.fn 58 = some fn_Near_heldM) (N : Nr n sh s fo H) : callN P (d + 1) q 58 [.ref n] H = .ok (.ref H.length) (H ++ [.list (s.order.map .int)]) := by
  obtain ⟨I, ls, ad, c, hp⟩ := N
  have := I.rm; have := I.r2
  refine call_imp (d := d) (vs := [.ref n]) (A := fun r => r = .ok (.ref H.length) (H ++ [.list (s.order.map .int)])) (ρ := [_]) f58 rfl rfl rfl ?_
  dsimp only [fn_Near_heldM]
  repeat' (with_reducible apply WS.ret)
  refine EV.toList1 ?_
  refine EV.self U rfl c.g0 rfl rfl ?_
  refine OV.of (seqOf_r c.g3) ⟨by rw [List.length_map]; omega, ?_⟩
  rfl
noncomputable def cntM (s : NS) : M := .list [.int s.found, .int s.missed]
inductive Inv07 (xs : List Int) (size : Nat) (first : Int) (sh : Shape) : Rho → Mine.H → Prop where
  | mk (s : NS) (b : Nat) {x10 x11 x12 x13 x14 : Option V} {H : Mine.H} (hb : b < size) (hpl : s.plain.length = size) (N : Nr 0 sh s [(5, cntM s)] H) :
      Inv07 xs size first sh [some (.lst (xs.map .int)), some (.int size), some (.int first), some (.int sh.room), some (.int sh.width), some (.str (ruleS sh.least)), some (.ref 0), some (.lst (s.order.map .int)), some (.ref 5), some (.int b), x10, x11, x12, x13, x14] H
inductive Mid07 (xs : List Int) (size : Nat) (first : Int) (sh : Shape) (b : Nat) (y : Int) (o : List Int) : Rho → Mine.H → Prop where
  | mk (s : NS) {x13 x14 : Option V} {H : Mine.H} (hpl : s.plain.length = size) (N : Nr 0 sh s [(5, cntM s)] H) :
      Mid07 xs size first sh b y o [some (.lst (xs.map .int)), some (.int size), some (.int first), some (.int sh.room), some (.int sh.width), some (.str (ruleS sh.least)), some (.ref 0), some (.lst (s.order.map .int)), some (.ref 5), some (.int b), some (.int y), some (.lst (o.map .int)), some (.lst (o.map .int)), x13, x14] H
theorem law07_true {xs : List Int} (hx : xs.length ≤ 63) : callN prog07 8 true 61 [.lst (xs.map .int)] [] = .ok (.bool true) [] := by
  have U : NearF prog07 _ := ⟨rfl, rfl, rfl, rfl, rfl, rfl, rfl, rfl, rfl, rfl, rfl, rfl, rfl, rfl, rfl⟩
  have Er : Errs prog07 := ⟨rfl, rfl⟩
  refine call_pure (ρ := [_, _, _, _, _, _, _, _, _, _, _, _, _, _, _]) (F := fn_law07) rfl rfl rfl rfl rfl ?_
  dsimp only [fn_law07]
  repeat' (first | ((with_reducible apply EVs.vc); exact rfl) | with_reducible apply EVs.cons | with_reducible apply EV.call | with_reducible apply WS.assign)
  refine RV.ok (c_cell_at rfl (by omega) (by decide) (by decide)) ?_
  repeat' (with_reducible apply EVs.nil)
  obtain ⟨_, e1, size', rfl, hs1, hs2⟩ := c_size_by (P := prog07) (q := true) (h := []) (d := 6) rfl (i := cellAt xs (Int.toNat 0))
  refine RV.ok e1 ?_
  obtain ⟨size, rfl⟩ : ∃ n : Nat, size' = n := ⟨size'.toNat, by omega⟩
  repeat' (first | ((with_reducible apply EVs.vc); exact rfl) | with_reducible apply EV.call | with_reducible apply WS.assign)
  refine RV.ok (c_cell_at rfl (by omega) (by decide) (by decide)) ?_
  generalize cellAt xs (Int.toNat 1) = first
  repeat' (first | ((with_reducible apply EV.binvc); exact rfl) | with_reducible apply EV.const | with_reducible apply EVs.cons | with_reducible apply EVs.nil | with_reducible apply EV.bin | with_reducible apply EV.sub | with_reducible apply EV.list0 | with_reducible apply WS.assign | with_reducible apply bv_add | ((with_reducible apply bv_div); rotate_left; (first | decide | omega); (first | decide | omega)) | ((with_reducible apply bv_mod); rotate_left; (first | decide | omega)))
  refine gi_anyI 1 200 (by omega) (by simp; omega) (by simp) (by simp [intIn]; omega) fun room' hr1 hr2 => ?_
  repeat' (first | ((with_reducible apply EV.binvc); exact rfl) | ((with_reducible apply EVs.vc); exact rfl) | with_reducible apply EV.const | with_reducible apply EVs.cons | with_reducible apply EVs.nil | with_reducible apply EV.bin | with_reducible apply EV.sub | with_reducible apply EV.call | with_reducible apply EV.list0 | with_reducible apply WS.assign | with_reducible apply bv_add | ((with_reducible apply bv_div); rotate_left; (first | decide | omega); (first | decide | omega)) | ((with_reducible apply bv_mod); rotate_left; (first | decide | omega)))
  refine RV.ok (c_cell_at rfl (by omega) (by decide) (by decide)) ?_
  repeat' (first | with_reducible apply EV.const | ((with_reducible apply bv_div); rotate_left; (first | decide | omega); (first | decide | omega)) | ((with_reducible apply bv_mod); rotate_left; (first | decide | omega)))
  refine gi_anyI 1 200 (by omega) (by simp; omega) (by simp) (by simp [intIn]; omega) fun width' hw1 hw2 => ?_
  repeat' (first | ((with_reducible apply EVs.vc); exact rfl) | with_reducible apply EV.const | with_reducible apply EVs.cons | with_reducible apply EVs.nil | with_reducible apply EV.bin | with_reducible apply EV.sub | with_reducible apply EV.call | with_reducible apply EV.list0 | with_reducible apply WS.assign)
  refine RV.ok (c_cell_at rfl (by omega) (by decide) (by decide)) ?_
  repeat' (first | with_reducible apply EV.const | ((with_reducible apply bv_mod); rotate_left; (first | decide | omega)))
  refine rule_get fun least => ?_
  obtain ⟨sh, rfl, rfl, rfl⟩ : ∃ sh : Shape, room' = sh.room ∧ width' = sh.width ∧ least = sh.least := ⟨⟨room'.toNat, width'.toNat, least⟩, by dsimp only; omega, by dsimp only; omega, rfl⟩
  repeat' (with_reducible apply WS.assign)
  refine EV.new rfl ?_
  repeat' (first | ((with_reducible apply EV.var); exact rfl) | with_reducible apply EV.const | with_reducible apply EVs.cons | with_reducible apply EVs.nil | with_reducible apply EV.bin | with_reducible apply EV.list0)
  refine bv_zeros (by omega) ?_
  repeat' (((with_reducible apply EVs.v3); exact rfl; exact rfl; exact rfl))
  have hbl : (List.replicate size (0 : Int)).length = size := List.length_replicate
  have hbv : ∀ x ∈ List.replicate size (0 : Int), 0 ≤ x ∧ x ≤ 999999 := fun x hx => by rw [(List.mem_replicate.mp hx).2]; decide
  generalize List.replicate size (0 : Int) = boxes at hbl hbv
  have N0 := nr_init (h := []) (fo := []) (boxes := boxes) (sh := sh) (by omega) (by omega) (by omega) (by omega) (by omega) ⟨(fun _ h => by cases h), .nil⟩
  refine RV.ok (c_ninit (h := []) (d := 4) (sh := sh) U .lst (by omega) (by omega) hbv (by omega) (by omega) (by omega) (by omega)) ?_
  refine ⟨rfl, ?_⟩
  have N1 : Nr 0 sh (ns0 boxes) [(5, cntM (ns0 boxes))] _ := Nr.newf N0
  repeat' (first | with_reducible apply WS.asgc | with_reducible apply EV.const | with_reducible apply EVs.cons | with_reducible apply EVs.nil | with_reducible apply EV.list0 | with_reducible apply EV.list1 | with_reducible apply WS.assign)
  refine WS.for1 (α := Int) (fun pre ρ H => Inv07 xs size first sh ρ H) ?_
  repeat' (first | ((with_reducible apply EV.var); exact rfl) | with_reducible apply EV.const | with_reducible apply EV.slice | with_reducible apply IT.of)
  refine sl_drop (by decide) (by simp; omega) ?_
  rw [← List.map_drop]
  refine ⟨.int, xs.drop 3, none, rfl, by rw [List.length_drop]; omega, .mk (ns0 boxes) 0 (by omega) hbl N1, fun _ _ _ _ => rfl, ?_, ?_⟩
  · clear N0 N1 hbv hbl e1 boxes
    rintro pre y post _ H epp ⟨s, b, hb, hpl, N⟩
    clear epp pre post
    have hc : H[5]? = some (cntM s) := by obtain ⟨I, ls, ad, c, hp⟩ := N; exact c.gf (p := (5, cntM s)) (by simp)
    have g0 : H[0]? = some (instN 0 sh s.found s.missed s.back) := by obtain ⟨I, ls, ad, c, hp⟩ := N; exact c.g0
    have hol : s.order.length ≤ 200 := by obtain ⟨I, _⟩ := N; have := I.rm; have := I.r2; omega
    have hfl : s.far.length = size := by obtain ⟨I, _⟩ := N; rw [I.len, hpl]
    repeat' (with_reducible apply WS.assign)
    refine EV.meth ?_
    repeat' (((with_reducible apply EV.var); exact rfl))
    refine OV.of (methOf_in g0 U.cls rfl) ?_
    repeat' (with_reducible apply EVs.nil)
    refine RV.ok (c_held U rfl N) ?_
    repeat' (with_reducible apply WS.assign)
    refine EV.toList0 ?_
    repeat' (((with_reducible apply EV.var); exact rfl))
    refine OV.of rfl ⟨by rw [List.length_map]; omega, ?_⟩
    refine WS.assign (EV.J (fun v h' => h' = H ∧ ∃ b : Nat, v = .int b ∧ b < size) ?_ ?_)
    · repeat' (first | ((with_reducible apply EV.binvc); exact rfl) | ((with_reducible apply EVs.v1); exact rfl) | ((with_reducible apply EV.var); exact rfl) | with_reducible apply EV.const | with_reducible apply EV.bin | with_reducible apply EV.cmp | with_reducible apply EV.call | with_reducible apply EV.ite | with_reducible apply CC.t | with_reducible apply TV.of | with_reducible refine SP.dec (fun _ => ?_) (fun _ => ?_) | ((with_reducible apply bv_mod); rotate_left; (first | decide | omega)) | with_reducible apply cv_eq)
      · exact ⟨rfl, b, rfl, hb⟩
      · refine RV.ok (c_mixed rfl) ?_
        repeat' (first | ((with_reducible apply EV.var); exact rfl) | ((with_reducible apply bv_mod); rotate_left; (first | decide | omega)))
        have h1 := Int.emod_nonneg (mixed y) (show (size : Int) ≠ 0 by omega)
        have h2 := Int.emod_lt_of_pos (mixed y) (show 0 < (size : Int) by omega)
        exact ⟨rfl, (mixed y % (size : Int)).toNat, by rw [Int.toNat_of_nonneg h1], by omega⟩
    clear hb
    rintro _ _ ⟨rfl, b1, rfl, hb⟩
    refine WS.iteJ (Mid07 xs size first sh b1 y s.order) ?_ ?_
    · repeat' (first | ((with_reducible apply EV.binvc); exact rfl) | ((with_reducible apply EV.binvv); exact rfl; exact rfl) | ((with_reducible apply EV.var); exact rfl) | with_reducible apply EV.const | with_reducible apply EVs.cons | with_reducible apply EVs.nil | with_reducible apply EV.bin | with_reducible apply EV.sub | with_reducible apply EV.cmp | with_reducible apply EV.bi | with_reducible apply EV.list0 | with_reducible apply EV.tuple | with_reducible apply CC.t | with_reducible apply TV.of | with_reducible refine SP.dec (fun _ => ?_) (fun _ => ?_) | with_reducible apply WS.assign | with_reducible apply bv_sub | ((with_reducible apply bv_div); rotate_left; (first | decide | omega); (first | decide | omega)) | ((with_reducible apply bv_mod); rotate_left; (first | decide | omega)) | with_reducible apply cv_eq | with_reducible apply int_b | with_reducible apply ni_ints')
      · refine EV.dict0 ?_
        repeat' (first | ((with_reducible apply EV.binvc); exact rfl) | with_reducible apply EV.const | with_reducible apply EVs.nil | with_reducible apply EV.bin | ((with_reducible apply bv_div); rotate_left; (first | decide | omega); (first | decide | omega)) | ((with_reducible apply bv_mod); rotate_left; (first | decide | omega)))
        refine wrong_get (P := prog07) rfl at_end fun v hv => ?_
        refine WS.ite ?_
        repeat' (first | ((with_reducible apply EVs.v3); exact rfl; exact rfl; exact rfl) | with_reducible apply EV.cmp | with_reducible apply EV.call | with_reducible apply CC.t)
        refine RV.ok (c_touched_x (d := 3) U rfl rfl Er N.app (by rw [hfl]; exact hv 3)) ?_
        repeat' (first | with_reducible apply EV.const | with_reducible apply TV.of | with_reducible apply SP.not | ((with_reducible apply SP.dt); (first | assumption | exact rfl | omega)) | with_reducible apply WS.nil | with_reducible apply Thn.next | with_reducible apply Lp.next | with_reducible apply cv_nes)
        exact .mk s hpl N.app
      · generalize hl : (b1 : Int) / (sh.width : Int) = l
        have hl' : touchN sh s l = rdN sh s b1 := by rw [← hl]; rfl
        have hto := touch_ord (sh := sh) (s := s) (l := l)
        have htc := touch_cnt (sh := sh) (s := s) (l := l)
        rw [hl'] at hto htc
        have tail : ∀ (H1 : Mine.H) (x13 x14 : Option V) (Q : RS → Prop), Nr 0 sh s [(5, cntM (rdN sh s b1))] H1 → (∀ (H' : Mine.H) (s' : NS), s'.plain.length = size → Nr 0 sh s' [(5, cntM s')] H' → Q (.next [some (.lst (xs.map .int)), some (.int size), some (.int first), some (.int sh.room), some (.int sh.width), some (.str (ruleS sh.least)), some (.ref 0), some (.lst (s'.order.map .int)), some (.ref 5), some (.int b1), some (.int y), some (.lst (s.order.map .int)), some (.lst (s.order.map .int)), x13, x14] H')) →
            WS prog07 (callN prog07 7) true [.assign 7 (.call 59 [(.var 7), (.bin .div (.var 9) (.var 4)), (.var 3), (.var 5)]), .ite (.t (.cmp .ne (.call 60 [(.var 6), (.var 9), (.var 10)]) (.const (.str [121, 101, 115])))) [.ret (.const (.bool false))] []] [some (.lst (xs.map .int)), some (.int size), some (.int first), some (.int sh.room), some (.int sh.width), some (.str (ruleS sh.least)), some (.ref 0), some (.lst (s.order.map .int)), some (.ref 5), some (.int b1), some (.int y), some (.lst (s.order.map .int)), some (.lst (s.order.map .int)), x13, x14] H1 Q := by
          intro H1 x13 x14 Q N1 k
          repeat' (first | ((with_reducible apply EV.binvv); exact rfl; exact rfl) | ((with_reducible apply EVs.v2); exact rfl; exact rfl) | ((with_reducible apply EV.var); exact rfl) | with_reducible apply EVs.cons | with_reducible apply EV.call | with_reducible apply WS.assign | ((with_reducible apply bv_div); rotate_left; (first | decide | omega); (first | decide | omega)))
          rw [hl]
          refine RV.ok (c_near_behind (sh := sh) rfl (by omega)) ?_
          obtain ⟨H', s', e, N2, o1, f1, m1, p1⟩ := c_touched (d := 2) U rfl N1 (b := b1) (by omega) (i := y)
          refine WS.ite ?_
          repeat' (first | ((with_reducible apply EVs.v3); exact rfl; exact rfl; exact rfl) | with_reducible apply EV.cmp | with_reducible apply EV.call | with_reducible apply CC.t)
          refine RV.ok e ?_
          repeat' (first | with_reducible apply EV.const | with_reducible apply TV.of | with_reducible apply SP.not | ((with_reducible apply SP.dt); (first | assumption | exact rfl | omega)) | with_reducible apply WS.nil | with_reducible apply Thn.next | with_reducible apply cv_nes)
          have := k H' s' (by rw [p1, hpl]) (by unfold cntM at N2 ⊢; rw [f1, m1]; exact N2)
          rw [o1, hto] at this
          exact this
        by_cases hin : l ∈ s.order
        · rw [if_pos hin] at htc
          rw [decide_eq_true hin]
          refine WS.setsub ?_
          repeat' (first | ((with_reducible apply EV.subvv); exact rfl; exact rfl) | with_reducible apply EV.bin)
          refine gi_ref hc (by decide) (by decide) rfl ?_
          repeat' (first | ((with_reducible apply EV.var); exact rfl) | with_reducible apply EV.const | with_reducible apply bv_add)
          refine si_list hc (by decide) (by decide) (show 0 < 2 by omega) ?_
          refine tail _ _ _ _ ?_ ?_
          · have := N.setf (m' := cntM (rdN sh s b1))
            unfold cntM at this ⊢
            rw [htc.1, htc.2, if_pos hin] at this ⊢
            exact this
          · intro H' s' h1 h2
            exact .mk s' h1 h2
        · rw [if_neg hin] at htc
          rw [decide_eq_false hin]
          refine WS.setsub ?_
          repeat' (first | ((with_reducible apply EV.subvv); exact rfl; exact rfl) | with_reducible apply EV.bin)
          refine gi_ref hc (by decide) (by decide) rfl ?_
          repeat' (first | ((with_reducible apply EV.var); exact rfl) | with_reducible apply EV.const | with_reducible apply bv_add)
          refine si_list hc (by decide) (by decide) (show 1 < 2 by omega) ?_
          refine tail _ _ _ _ ?_ ?_
          · have := N.setf (m' := cntM (rdN sh s b1))
            unfold cntM at this ⊢
            rw [htc.1, htc.2, if_neg hin] at this ⊢
            exact this
          · intro H' s' h1 h2
            exact .mk s' h1 h2
    · clear hc g0 hol hfl N hpl
      rintro _ H' ⟨s', hpl, N⟩
      have hc : H'[5]? = some (cntM s') := by obtain ⟨I, ls, ad, c, hp⟩ := N; exact c.gf (p := (5, cntM s')) (by simp)
      have g0 : H'[0]? = some (instN 0 sh s'.found s'.missed s'.back) := by obtain ⟨I, ls, ad, c, hp⟩ := N; exact c.g0
      have hol : s'.order.length ≤ 200 := by obtain ⟨I, _⟩ := N; have := I.rm; have := I.r2; omega
      refine WS.ite ?_
      repeat' (first | with_reducible apply EVs.cons | with_reducible apply EV.call | with_reducible apply EV.list0 | with_reducible apply CC.t | with_reducible apply CC.not | with_reducible apply CC.or | with_reducible apply CCo.cons)
      refine EV.attr ?_
      repeat' (((with_reducible apply EV.var); exact rfl))
      refine getA_in rfl g0 U.cls rfl rfl ?_
      repeat' (with_reducible apply EVs.cons)
      refine EV.attr ?_
      repeat' (((with_reducible apply EV.var); exact rfl))
      refine getA_in rfl g0 U.cls rfl rfl ?_
      repeat' (first | ((with_reducible apply EVs.v1); exact rfl) | with_reducible apply EVs.nil)
      refine RV.ok (c_wholes2 (xs := [(s'.found : Int), (s'.missed : Int)]) rfl rfl (by simp) .lst (.ref hc)) ?_
      repeat' (first | with_reducible apply EVs.cons | with_reducible apply EV.call | with_reducible apply CC.t | with_reducible apply CC.not | with_reducible apply CCo.cons | with_reducible apply TV.of | with_reducible apply SP.not | with_reducible apply SP.tt)
      refine EV.meth ?_
      repeat' (((with_reducible apply EV.var); exact rfl))
      refine OV.of (methOf_in g0 U.cls rfl) ?_
      repeat' (with_reducible apply EVs.nil)
      refine RV.ok (c_held U rfl N) ?_
      repeat' (((with_reducible apply EVs.v1); exact rfl))
      refine RV.ok (c_wholes2 (xs := s'.order) rfl rfl (by omega) .lst .lst) ?_
      repeat' (first | with_reducible apply CCo.nil | with_reducible apply TV.of | with_reducible apply SP.not | with_reducible apply SP.tt | with_reducible apply SP.ff | with_reducible apply WS.nil | with_reducible apply Thn.next)
      refine WS.ite ?_
      repeat' (((with_reducible apply CC.cmpvv); exact rfl; exact rfl))
      refine cv_neV (x' := .lst (s.order.map .int)) (y' := .lst (s.order.map .int)) rfl rfl ints_pl ints_pl ?_
      refine SP.not (SP.t ints_eq ?_)
      repeat' (first | with_reducible apply WS.nil | with_reducible apply Thn.next | with_reducible apply Lp.next)
      exact .mk s' b1 hb hpl N
  · rintro _ H ⟨s, b, hb, hpl, N⟩
    have g0 : H[0]? = some (instN 0 sh s.found s.missed s.back) := by obtain ⟨I, ls, ad, c, hp⟩ := N; exact c.g0
    have hol : s.order.length ≤ 200 := by obtain ⟨I, _⟩ := N; have := I.rm; have := I.r2; omega
    repeat' (first | with_reducible apply EV.bm | with_reducible apply WS.expr)
    refine EV.meth ?_
    repeat' (((with_reducible apply EV.var); exact rfl))
    refine OV.of (methOf_in g0 U.cls rfl) ?_
    repeat' (with_reducible apply EVs.nil)
    refine RV.ok (c_heldM U rfl N) ?_
    repeat' (first | with_reducible apply EV.const | with_reducible apply EVs.cons | with_reducible apply EVs.nil | ((with_reducible apply KM.lst at_end); exact rfl) | with_reducible apply KE.of)
    refine app_r at_end (by rw [List.length_map]; omega) ?_
    rw [set_end]
    repeat' (first | with_reducible apply EV.cmp | with_reducible apply WS.ret)
    refine EV.meth ?_
    repeat' (((with_reducible apply EV.var); exact rfl))
    refine OV.of (methOf_in (n := 0) (by have N2 := N.app (e := [M.list (s.order.map V.int ++ [V.int 0])]); obtain ⟨I, ls, ad, c, hp⟩ := N2; exact c.g0) U.cls rfl) ?_
    repeat' (with_reducible apply EVs.nil)
    refine RV.ok (c_held U rfl N.app) ?_
    repeat' (((with_reducible apply EV.var); exact rfl))
    refine cv_eqV (x' := .lst (s.order.map .int)) (y' := .lst (s.order.map .int)) rfl rfl ints_pl ints_pl ?_
    rw [ints_eq]
    exact .ret rfl
end

end Mine.Law
end
section
open PySem PySem.W PyProof.Rows
namespace Mine
noncomputable abbrev treeF := PySem.W.Fast.tw14364793385576792824
noncomputable abbrev openSeenF := PySem.W.Fast.tw4187177175401517315
noncomputable abbrev stepTF := PySem.W.Fast.tw10156331382660048174
noncomputable abbrev denoteF := PySem.W.Fast.tw11892475500146522536
noncomputable abbrev stepOkF := PySem.W.Fast.tw6613529449190102663
noncomputable abbrev s0 (w : World) (os : OsState) : Shared := ⟨boot_heap w.params, Array.mk [], boot_drawn, boot_toks, os⟩
theorem okF_eq (n : Nat) (a : Option Value) : stepOkF n a = stepOk n a := congrFun (congrFun PySem.W.Fast.te6613529449190102663.symm n) a
theorem denF_eq : denoteF treeF = denote treeTable := (congrFun PySem.W.Fast.te11892475500146522536.symm treeF).trans (congrArg denote PySem.W.Fast.te14364793385576792824.symm)
theorem stF_eq (p : Program) (w : World) : stepTF (denoteF treeF) p w = stepT (denote treeTable) p w := denF_eq ▸ congrFun (congrFun (congrFun PySem.W.Fast.te10156331382660048174.symm (denoteF treeF)) p) w
/-- the top's run over a tree of objects -/
noncomputable def runG (ok : Thread → Bool) (st : SharedT → Thread → Option (SharedT × Thread)) (n : Nat) : SharedT → Thread → Option SharedT :=
  Nat.rec (fun _ _ => none) (fun _ ih s t => cond (through t) (some s) (cond (ok t) (Option.rec none (fun q => Prod.rec (fun s t => ih s t) q) (st s t)) none)) n
inductive Ran (ok : Thread → Bool) (st : SharedT → Thread → Option (SharedT × Thread)) (r : SharedT → Thread → Option SharedT) (s : SharedT) (t : Thread) (s' : SharedT) : Prop
  | done (h : through t = true) (e : s = s') : Ran ok st r s t s'
  | more (q : SharedT × Thread) (h : through t = false) (k : ok t = true) (e : st s t = some q) (h' : r q.1 q.2 = some s') : Ran ok st r s t s'
theorem ran_of {ok : Thread → Bool} {st : SharedT → Thread → Option (SharedT × Thread)} {r : SharedT → Thread → Option SharedT} {s s' : SharedT} {t : Thread} {a b : Bool} {o : Option (SharedT × Thread)} (ha : through t = a) (hb : ok t = b) (ho : st s t = o) (h : cond a (some s) (cond b (Option.rec none (fun q => Prod.rec (fun s t => r s t) q) o) none) = some s') : Ran ok st r s t s' := by
  cases a with
  | true => exact .done ha (Option.some.inj h)
  | false => cases b with
    | false => cases h
    | true => cases o with
      | none => cases h
      | some q => exact .more q ha hb ho h
theorem run_done {tb : String → Option Builtin} {p : Program} {w : World} {n₀ n : Nat} {ann : Option Value} {s : Shared} {t : Thread} (h : through t = true) : topRun tb p w n₀ ann (n + 1) s t = some s := by
  unfold topRun
  rw [h]
theorem run_more {tb : String → Option Builtin} {p : Program} {w : World} {n₀ n : Nat} {ann : Option Value} {s s' : Shared} {t t' : Thread} (h : through t = false) (k : stepOk n₀ ann t = true) (e : step (denote tb) p w s t = .go s' t') : topRun tb p w n₀ ann (n + 1) s t = topRun tb p w n₀ ann n s' t' := by
  rw [topRun.eq_2, h, k, e]
theorem runG_spec {p : Program} {w : World} {n₀ : Nat} {ann : Option Value} {s' : SharedT} (n : Nat) : ∀ (s : SharedT) (t : Thread), runG (stepOk n₀ ann) (stepT (denote treeTable) p w) n s t = some s' → topRun treeTable p w n₀ ann n s.abs t = some s'.abs := by
  induction n with
  | zero => intro _ _ h; cases h
  | succ n ih =>
    intro s t h
    cases ran_of rfl rfl rfl h with
    | done h e => exact e ▸ run_done h
    | more q h k e h' => exact (run_more h k (stepT_spec e)).trans (ih _ _ h')
noncomputable def treeOf : Nat → List Obj → BT → BT
  | _, [], t => t
  | i, o :: r, t => treeOf (i + 1) r (t.ins i o)
noncomputable abbrev sT (w : World) (os : OsState) : SharedT := ⟨treeOf 0 (boot_heap w.params).objs.toList .nil, 11, (boot_heap w.params).life, Array.mk [], boot_drawn, boot_toks, os⟩
theorem sT_abs (w : World) (os : OsState) : (sT w os).abs = s0 w os := by kernel_rfl
theorem boot_ns (w : World) : ((boot_heap w.params).isNs mainGlobals && (Array.mk [] : Array GenState).size == 0) = true := by kernel_rfl
theorem boot_size (w : World) : (boot_heap w.params).objs.size = 11 := by kernel_rfl
theorem boot_ann (w : World) : (boot_heap w.params).nsMap mainGlobals "__annotations__" = some (.ref 6) := by kernel_rfl
theorem from_of {tb : String → Option Builtin} {p : Program} {w : World} {N : Nat} {s₀ s₁ : Shared} (h1 : (s₀.heap.isNs mainGlobals && s₀.gens.size == 0) = true) (h2 : topRun tb p w s₀.heap.objs.size (s₀.heap.nsMap mainGlobals "__annotations__") N s₀ (topStub p) = some s₁)
    (h3 : (staticsOk (importedModules p.main.body) s₀.heap s₁.heap && namesBound p s₁.heap && gensDone s₁ && laidKept s₀.heap s₁.heap) = true) : topFrom tb p w N s₀ = some s₁ := by
  unfold topFrom
  rw [h1, h2]
  show (match _ with | true => some s₁ | false => none) = some s₁
  rw [h3]
theorem top_of {p : Program} {w : World} {N : Nat} {os : OsState} {s₁ : SharedT} (hr : runG (stepOkF 11 (some (.ref 6))) (stepTF (denoteF treeF) p w) N (sT w os) (topStub p) = some s₁) : topRun treeTable p w (s0 w os).heap.objs.size ((s0 w os).heap.nsMap mainGlobals "__annotations__") N (s0 w os) (topStub p) = some s₁.abs := by
  rw [okF_eq, stF_eq] at hr
  rw [show (s0 w os).heap.objs.size = 11 from boot_size w, show (s0 w os).heap.nsMap mainGlobals "__annotations__" = some (.ref 6) from boot_ann w, ← sT_abs]
  exact runG_spec _ _ _ hr
inductive Saw {α β : Type} (o : Option SharedT) (c : SharedT → Bool) (g : Shared → β) (y : Shared → α) (v : β) (u : α) : Prop
  | mk (s : SharedT) (h : o = some s) (e : c s = true) (e' : (g s.abs, y s.abs) = (v, u)) : Saw o c g y v u
theorem saw_of {α β : Type} {o : Option SharedT} {c : SharedT → Bool} {g g' : Shared → β} {y : Shared → α} {v : β} {u : α} (hg : g' = g) (h : o.map (fun s => (c s, g s.abs, y s.abs)) = some (true, v, u)) : Saw o c g' y v u :=
  (Option.map_eq_some_iff.mp h).elim fun s q => ⟨s, q.1, congrArg Prod.fst q.2, (congrArg (fun f => (f s.abs, y s.abs)) hg).trans (congrArg Prod.snd q.2)⟩
theorem shared_at {s : Shared} {h : Heap} {g : Array GenState} {d : Drawn} {k : Nat} (hv : (s.heap, s.gens, s.drawn, s.toks) = (h, g, d, k)) : s = ⟨h, g, d, k, s.os⟩ := congrArg (fun x => (⟨x.1, x.2.1, x.2.2.1, x.2.2.2, s.os⟩ : Shared)) hv
theorem boot_at {p : Program} {N : Nat} (e : opening p = plainProg p.main.scope.names) (hN : Nat.ble 600 N = true) (f : ∀ s, fenceModules? p s = some s) (w : World) : ∃ os, fencedOpening treeTable p w N = some (s0 w os) :=
  (Option.map_eq_some_iff.mp (boot_open e hN f w)).elim fun s q => ⟨s.os, q.1.trans (congrArg some (shared_at q.2))⟩
theorem ends_of {p : Program} {w : World} {N : Nat} {s₀ s₁ : Shared} (hs : fencedOpening treeTable p w N = some s₀) (h : topFrom treeTable p w N s₀ = some s₁) : openEnds treeTable p w N = some s₁ := (congrArg (fun o => Option.bind o (topFrom treeTable p w N)) hs).trans h
theorem map_at {α β : Type} {o : Option Shared} {s : Shared} {g : Shared → β} {y : Shared → α} {v : β} {u : α} (h : o = some s) (e : (g s, y s) = (v, u)) : o.map (fun s => (g s, y s)) = some (v, u) := by
  subst h
  exact congrArg some e
theorem left_of0 {β α : Type} {p : Program} {w : World} {N : Nat} {v : β} {u : α} {g g' : Shared → β} {y : Shared → α} (hg : g' = g) (e : opening p = plainProg p.main.scope.names) (hN : Nat.ble 600 N = true) (f : ∀ s, fenceModules? p s = some s)
    (h : ∀ os, (runG (stepOkF 11 (some (.ref 6))) (stepTF (denoteF treeF) p w) N (sT w os) (topStub p)).map (fun s₁ => ((staticsOk (importedModules p.main.body) (s0 w os).heap s₁.abs.heap && namesBound p s₁.abs.heap && gensDone s₁.abs && laidKept (s0 w os).heap s₁.abs.heap), g s₁.abs, y s₁.abs)) = some (true, v, u)) :
    (openEnds treeTable p w N).map (fun s => (g' s, y s)) = some (v, u) := by
  obtain ⟨os, hs⟩ := boot_at e hN f w
  obtain ⟨s₁, hr, e1, e2⟩ := saw_of hg (h os)
  exact map_at (ends_of hs (from_of (boot_ns w) (top_of hr) e1)) e2
theorem left_of {p q : Program} {loose : List Str} {Xt : Shared → Bool} {α : Type} {Yf : Shared → α} {Ya : World → α} {N : Nat} (e : opening p = plainProg p.main.scope.names) (hN : Nat.ble 600 N = true) (f : ∀ s, fenceModules? p s = some s)
    (h : ∀ w os, (runG (stepOkF 11 (some (.ref 6))) (stepTF (denoteF treeF) p w) N (sT w os) (topStub p)).map (fun s₁ => ((staticsOk (importedModules p.main.body) (s0 w os).heap s₁.abs.heap && namesBound p s₁.abs.heap && gensDone s₁.abs && laidKept (s0 w os).heap s₁.abs.heap), openSeenF q loose (importedModules p.main.body) Xt true s₁.abs, Yf s₁.abs)) = some (true, openGood q loose, Ya w)) :
    LeftO p q loose Xt Yf Ya N := fun w => left_of0 (congrFun (congrFun (congrFun (congrFun (congrFun PySem.W.Fast.te4187177175401517315 q) loose) (importedModules p.main.body)) Xt) true) e hN f (h w)
end Mine
end
section
open PySem PySem.W PyProof.Rows
set_option maxRecDepth 100000
set_option maxHeartbeats 8000000
set_option Elab.async false
namespace Mine.Law
noncomputable def nms : Nm := { fnm := (["", "", "_law_cell_at", "_law_whole", "_law_mixed", "", "", "", "", "", "_law_alone", "", "is_whole", "", "", "", "_law_size_by", "", "", ""] : List PySem.Str) ++ (["", "", "", "need_boxes", "", "", "", "", "", "", "", "", "_law_wholes", "", "", "", "", "", "", ""] : List PySem.Str) ++ (["", "", "", "", "", "", "", "", "", "", "", "", "", "", "", "", "", "", "", "_law_near_behind"] : List PySem.Str) ++ (["_law_touched", "law"] : List PySem.Str), clm := ["", "Near"], exm := ["LineError", "BadRow", "BadBoxes", "BadShape", "NoBox", "BadPlan"], glm := ["MOST_SHAPE", "MOST_SHAPE", "MOST", "GREATEST", "MOST_SHAPE", "MOST_SHAPE"], glv := [(.int 200), (.int 200), (.int 200), (.int 999999), (.int 200), (.int 200)], tbm := [], atm := ["there", "touches", "far", "room", "width", "rule", "found", "missed", "back", "lines", "order", "changed"], mtm := [(3, "write_back"), (4, "go_first"), (5, "touch"), (1, "look"), (2, "put"), (6, "held"), (106, "held")], cfm := [(41, 1, "__init__"), (42, 1, "write_back"), (43, 1, "go_first"), (44, 1, "touch"), (45, 1, "look"), (46, 1, "put"), (57, 1, "held"), (58, 1, "held")], ext := true }
noncomputable def gam2 : Gam := [("_law_script", 0), ("_law_k", 1)]
noncomputable def gam3 : Gam := [("_law_found", 0)]
noncomputable def gam4 : Gam := [("_law_cell", 0)]
noncomputable def gam10 : Gam := [("_law_e", 0), ("_law_own", 1), ("_law_some", 2)]
noncomputable def gam12 : Gam := [("thing", 0), ("least", 1), ("most", 2)]
noncomputable def gam16 : Gam := [("_law_cell", 0)]
noncomputable def gam23 : Gam := [("boxes", 0), ("number", 1)]
noncomputable def gam32 : Gam := [("_law_found", 0), ("_law_due", 1), ("_law_k", 2)]
noncomputable def gam41 : Gam := [("self", 0), ("boxes", 1), ("room", 2), ("width", 3), ("rule", 4)]
noncomputable def gam42 : Gam := [("self", 0), ("line", 1), ("at", 2), ("number", 3)]
noncomputable def gam43 : Gam := [("self", 0), ("line", 1)]
noncomputable def gam44 : Gam := [("self", 0), ("box", 1), ("line", 2)]
noncomputable def gam45 : Gam := [("self", 0), ("box", 1), ("line", 2)]
noncomputable def gam46 : Gam := [("self", 0), ("box", 1), ("number", 2), ("line", 3)]
noncomputable def gam57 : Gam := [("self", 0)]
noncomputable def gam58 : Gam := [("self", 0)]
noncomputable def gam59 : Gam := [("_law_near", 0), ("_law_line", 1), ("_law_room", 2), ("_law_rule", 3)]
noncomputable def gam60 : Gam := [("_law_holder", 0), ("_law_box", 1), ("_law_cell", 2), ("_law_e", 3)]
noncomputable def gam61 : Gam := [("_law_script", 0), ("_law_size", 1), ("_law_first", 2), ("_law_room", 3), ("_law_width", 4), ("_law_rule", 5), ("_law_holder", 6), ("_law_near", 7), ("_law_counts", 8), ("_law_box", 9), ("_law_cell", 10), ("_law_ahead", 11), ("_law_kept", 12), ("_law_wrong", 13), ("_law_at", 14)]
noncomputable def gams : List (Nat × Gam) := [(2, gam2), (3, gam3), (4, gam4), (10, gam10), (12, gam12), (16, gam16), (23, gam23), (32, gam32), (41, gam41), (42, gam42), (43, gam43), (44, gam44), (45, gam45), (46, gam46), (57, gam57), (58, gam58), (59, gam59), (60, gam60), (61, gam61)]

noncomputable abbrev pp : Program := PySem.Challenge.pw_uf030028_07
noncomputable def qq : Program := { pp with main := { pp.main with body := pp.main.body.drop (pp.main.body.length - 1) } }
noncomputable def ls : List Str := (pp.main.scope.names.map (·.1)).filter fun n => !(n == ("law" : Str))
noncomputable abbrev hk : Hook := hookOf nms prog07 gams
noncomputable abbrev Xt (s : Shared) : Bool := xlAt qq [] s && recOk [] s
theorem left : LeftO pp qq ls Xt hk.obs hk.val 4000 := left_of (by kernel_rfl) (by kernel_rfl) (fun s => by kernel_rfl) fun w os => by kernel_rfl
theorem said0 : PySem.W.Fast.tw9446332074065402090 PySem.Challenge.rw_uf030028_07 = true := by kernel_rfl
theorem said : PySem.Challenge.rw_uf030028_07.wellSaid = true := (congrFun PySem.W.Fast.te9446332074065402090 _).trans said0
end Mine.Law
end
open PySem PySem.W PyProof.Rows
set_option Elab.async false
set_option maxRecDepth 100000
set_option maxHeartbeats 8000000
namespace Mine.Law
theorem ofPy_ints (xs : List Int) : ofPy (PyData.list (xs.map PyData.int)) = .list (xs.map WData.int) := by
  rw [ofPy, ofPys_eq, List.map_map]; rfl
theorem post_true (args : List WData) : PySem.Challenge.rw_uf030028_07.row.claim.post args (.bool true) args = true := by
  refine postW_of (X := true) ?_ ?_ rfl
  · first | rfl | decide | (simp [WShape.has]; done)
  · show WTm.value [] (WTm.eq .res (.lit (.bool true))) _ = some (.bool true)
    simp only [WTm.value]
    have e : same (WData.bool true) (WData.bool true) = true := by first | decide +kernel | (unfold same; rfl) | (simp [same]; done)
    simp [e]
end Mine.Law

set_option maxRecDepth 100000 in
set_option maxHeartbeats 8000000 in
theorem PySem.Challenge.cw_uf030028_07_holds : PySem.Challenge.rw_uf030028_07.Holds := by
  refine holds_law Mine.Law.said fun said => ?_
  refine holds_open (q := Mine.Law.qq) (loose := Mine.Law.ls) (Xt := Mine.Law.Xt) (XP := XL Mine.Law.qq []) (Yf := Mine.Law.hk.obs) (Ya := Mine.Law.hk.val) (YP := Mine.Law.hk.says) (N := 4000) Mine.Law.left Mine.Law.hk.of Mine.Law.hk.keeps (fun s e => xl_of s (Bool.and_eq_true_iff.mp e).1) XL.keeps (by rfl) (by rfl) (by rfl) (fun s e => recFacts_of (Bool.and_eq_true_iff.mp e).2) (by rfl) said (by decide +kernel) ⟨rfl, rfl, rfl, rfl, rfl, by decide +kernel⟩ ?hw ?_
  case hw => w_witness2
  intro w s₀ s₁ mg mb G Y fa o pm cd doc dV kV ho hd hcd hD hmg hg args vals as hpre hlay hrd hwl hlo
  refine Ground.open G ?_
  intro T B D TE TW
  wrow_args hpre hlay hrd hwl hlo
  refine enter_call ?_
  w_top on
  refine codeAny_mono ?_ (fun _ _ g => GoodW.toG g)
  rename_i xs hs1 hs2 hs3 hs4 hs5 la1 la2 l vs la3 hL ra w1 r0 hI hr hlen htr
  have hlen' : xs.length ≤ 63 := by omega
  have main := Mine.good_of (prog := PySem.Challenge.rw_uf030028_07.row.prog) (w := w) (s := s₁) (fa := fa) (l := l) (f := 61) (d := 7) (xs := xs) Y rfl T.nolimit T.g hmg T.b T.builtins (by decide) (by rw [← Mine.Law.ofPy_ints]; exact w1) (Mine.Law.law07_true hlen')
  refine codeAny_mono main fun r s' hr => ?_
  obtain ⟨rfl, hk, hos, hgens⟩ := hr
  refine ⟨.inl ⟨_, .bool true, [], rfl, fun _ => ?_, .bool true, ?_, fun _ => ⟨List.nodup_nil, fun a ha => by cases ha⟩⟩, hk, hos, hgens.trans hg⟩
  · rfl
  · exact Mine.Law.post_true _


