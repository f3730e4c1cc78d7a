import PyProof.Rows.All
import Wide.All
import OpenK.AllK
import Wide.FinOn
import PyProof.StationsW
import PyProof.CompFree
import PyProof.DictStraight
import PyProof.WalksMore
import PyProof.NeKinds
import PyProof.TupleOps
import PyProof.StrBlock2
import PyProof.Rows.IntRules
import PyProof.Rows.RuleB_mul
import PyProof.Rows.RuleB_sub
import PyProof.Rows.RuleB_floordiv
import PyProof.Rows.RuleB_mod
import PyProof.Rows.ListMul
import PyProof.Rows.RuleC_int
import PyProof.StrLawsIn
import PyProof.PureInt
import PyProof.Rows.StrTemp
import PyProof.Rows.TupMore
import PyProof.SliceMore
import PyProof.SliceStr2
import PyProof.DictRoads
import PyProof.ListCopy
import PyProof.TupleOfSeq
import PyProof.TupleCall
import PyProof.Rows.DictMethods
import PyProof.Cells
import PyProof.RulesDelMore
import PyProof.RulesAssignMore
import PyProof.Rows.Nodes
import PyProof.StrWalks
import PyProof.RangeFor
import PyProof.CompUse
import KE.KIntText
import PyProof.Rows.SortShell
import PyProof.Rows.SortWalk
import PyProof.MinMaxWalk
import PyProof.StrLawsTight
import PyProof.MeetsStr2
import PyProof.MeetsStr
import PyProof.MeetsSeq
import PyProof.MeetsDictList
import PyProof.WalkInts
import PyProof.IsiHeapPairs
import PyProof.IsiPairs
import PyProof.IsiNone
import KE.KIsNot
import PyProof.ExcAttrAll.ValueError
import PyProof.ExcClass2
import PyProof.ExcBaseAll.ValueError
import OpenK.KMore
import OpenK.KTop
import PyProof.RulesTry
import PyProof.NsDelKeeps
import PyProof.RulesAs
import Wide.Well
import PyProof.Ends
import PySem.Challenge.RW_uf030028_03
set_option Elab.async false
set_option bootstrap.genMatcherCode false
section
set_option bootstrap.genMatcherCode false
/- the mini language: values, expressions, statements, their interpreter -/
set_option genSizeOf false
set_option genInjectivity false
namespace Mine
section
open Classical

inductive V where
  | none | bool (b : Bool) | int (i : Int) | str (s : List Nat) | tup (xs : List V) | lst (xs : List V) | dct | ref (n : Nat) | exc (c : Nat)

/-- a mutable object -/
inductive M where
  | list (xs : List V) | dict (es : List (Int × V)) | inst (c : Nat) (fs : List V) | gone

noncomputable abbrev H := List M
noncomputable abbrev Rho := List (Option V)

inductive R (α : Type) where
  | ok (a : α) (h : H) | exc (c : Nat) (h : H) | fail
noncomputable def R.bind {α β : Type} : R α → (α → H → R β) → R β
  | .ok a h, f => f a h
  | .exc c h, _ => .exc c h
  | .fail, _ => .fail
/-- a statement's end -/
inductive RS where
  | next (r : Rho) (h : H) | ret (v : V) (r : Rho) (h : H) | exc (c : Nat) (r : Rho) (h : H) | fail

noncomputable def RS.andThen (r : RS) (k : Rho → H → RS) : RS := match r with
  | .next ρ h => k ρ h
  | x => x
noncomputable def RS.of {α : Type} (r : Rho) (x : R α) (f : α → H → RS) : RS :=
  match x with
  | .ok a h => f a h
  | .exc c h => .exc c r h
  | .fail => .fail

inductive Op where | add | sub | mul | div | mod
inductive COp where | eq | ne | lt | le | gt | ge | isIn | notIn | is | isNot
inductive Ty where | int | bool | str | tuple | list | valueError | cls (c : Nat)
/-- built-in functions -/
inductive Bi where | len | int | str | tuple | sorted | min | max
/-- methods of built-in types -/
inductive Bm where | append | pop | remove | index | count | join | split

mutual
inductive E where
  | var (i : Nat) | const (v : V) | glob (g : Nat) (v : V)
  | bin (op : Op) (a b : E) | rep (a b : E)
  | not (a : E) | and (es : List E) | or (es : List E)
  | cmp (op : COp) (a b : E) | cmp2 (op1 op2 : COp) (a b c : E)
  | ite (c : C) (a b : E)
  | call (f : Nat) (args : List E) | new (c : Nat) (args : List E) | meth (o : E) (m : Nat) (args : List E)
  | bi (b : Bi) (args : List E) | bm (m : Bm) (o : E) (args : List E)
  | isinst (a : E) (t : Ty)
  | toList (mu : Bool) (a : E)
  | attr (a : E) (k : Nat)
  | sub (a b : E) | slice (mu : Bool) (a lo hi : E)
  | list (mu : Bool) (es : List E) | tuple (es : List E) | comp (mu : Bool) (x : Nat) (elt : E) (it : It) (ifs : List C)
  | dict0 (mu : Bool)
  | freeze (a : E)
  | inTab (neg : Bool) (t : Nat) (a : E) | subTab (t : Nat) (a : E)
inductive It where
  | of (e : E) | range1 (a : E) | range2 (a b : E)
inductive C where
  | t (e : E) | not (c : C) | and (cs : List C) | or (cs : List C)
end

inductive S where
  | assign (x : Nat) (e : E) | setattr (o : E) (k : Nat) (e : E) | setsub (o i e : E) | expr (e : E)
  | ite (c : C) (a b : List S)
  | for1 (x : Nat) (it : It) (body : List S) | for2 (x y : Nat) (it : E) (body : List S)
  | while (c : C) (body : List S)
  | ret (e : E) | raise (c : Nat) (msg : List Nat)
  | try (body : List S) (hs : List (Nat × Option Nat × List S))

structure Fn where
  npar : Nat
  nloc : Nat
  body : List S
  pure : Bool
structure Cls where
  init : Nat
  meths : List (Nat × Nat)
  /-- the attributes, in their order -/
  attrs : List Nat
structure Prog where
  fns : List (Nat × Fn)
  clss : List Cls
  /-- an exception class's line: itself and those above it -/
  excs : List (List Nat)
  tabs : List (List (List Nat × List Nat))
  /-- the exceptions that may be raised -/
  rz : List Nat
noncomputable def Prog.fn (P : Prog) (f : Nat) : Option Fn := P.fns.lookup f

/-- values without references, of small depth -/
noncomputable def V.plainN : Nat → V → Bool
  | 0, .tup _ | 0, .lst _ => false
  | n + 1, .tup xs => xs.all (V.plainN n)
  | n + 1, .lst xs => xs.all (V.plainN n)
  | _, .ref _ | _, .exc _ | _, .dct => false
  | _, .none | _, .bool _ | _, .int _ | _, .str _ => true
noncomputable def V.plain (v : V) : Bool := V.plainN 6 v
-- all references lie below n
mutual
noncomputable def V.refUnder (n : Nat) : V → Bool
  | .tup xs | .lst xs => V.refsUnder n xs
  | .ref m => decide (m < n)
  | _ => true
noncomputable def V.refsUnder (n : Nat) : List V → Bool
  | [] => true
  | x :: xs => x.refUnder n && V.refsUnder n xs
end
-- Python's ==
mutual
noncomputable def eqV : V → V → Bool
  | .none, .none => true
  | .bool a, .bool b => a == b
  | .bool a, .int b => (if a then 1 else 0) == b
  | .int a, .bool b => a == (if b then 1 else 0)
  | .int a, .int b => a == b
  | .str a, .str b => a == b
  | .tup a, .tup b => eqVs a b
  | .lst a, .lst b => eqVs a b
  | .dct, .dct => true
  | _, _ => false
noncomputable def eqVs : List V → List V → Bool
  | [], [] => true
  | x :: xs, y :: ys => eqV x y && eqVs xs ys
  | _, _ => false
end

noncomputable def listOf (h : H) : V → Option (List V)
  | .lst xs => some xs
  | .ref n => match h[n]? with | some (.list xs) => some xs | _ => none
  | _ => none
noncomputable def seqOf (h : H) : V → Option (List V)
  | .tup xs => some xs
  | v => listOf h v
/-- a mutable list seen as a frozen one -/
noncomputable def deref (h : H) (v : V) : V := match v with
  | .ref n => match h[n]? with | some (.list xs) => .lst xs | _ => v
  | v => v
noncomputable def mkList (mu : Bool) (xs : List V) (h : H) : R V :=
  if mu then .ok (.ref h.length) (h ++ [.list xs]) else .ok (.lst xs) h
noncomputable def truth (_h : H) : V → Option Bool
  | .bool b => some b
  | _ => none

noncomputable def okInt (i : Int) : Bool := decide (-(2 ^ 63) ≤ i) && decide (i < 2 ^ 63)
/-- a range's bound -/
noncomputable def okR (i : Int) : Bool := decide (-1000000000000 ≤ i) && decide (i < 1000000000000)
noncomputable def charOf (s : List Nat) (k : Nat) : Option V := (s[k]?).map fun c => .str [c]

noncomputable def addV (h : H) (a b : V) : R V := match a with
  | .int a => (match b with | .int b => .ok (.int (a + b)) h | _ => .fail)
  | .str a => (match b with | .str b => if a.length + b.length ≤ 100000 then .ok (.str (a ++ b)) h else .fail | _ => .fail)
  | .lst a => (match b with | .lst b => if a.length + b.length ≤ 100000 then .ok (.lst (a ++ b)) h else .fail | _ => .fail)
  | .tup a => (match b with | .tup b => if a.length + b.length ≤ 100000 then .ok (.tup (a ++ b)) h else .fail | _ => .fail)
  | _ => .fail
noncomputable def subV (h : H) (a b : V) : R V := match a with
  | .int a => (match b with | .int b => .ok (.int (a - b)) h | _ => .fail)
  | _ => .fail
noncomputable def mulV (h : H) (a b : V) : R V := match b with
  | .int b => (match a with
    | .int a => if okInt a || okInt b then .ok (.int (a * b)) h else .fail
    | .str a => if b = 0 then .ok (.str []) h else if b = 1 then .ok (.str a) h else .fail
    | .lst a => if okInt b && decide (a.length * b.toNat ≤ 100000) then .ok (.lst (List.replicate b.toNat a).flatten) h else .fail
    | _ => .fail)
  | _ => .fail
noncomputable def divV (h : H) (a b : V) : R V := match a with
  | .int a => (match b with | .int b => if b ≠ 0 ∧ b.natAbs < 1073741824 then .ok (.int (a.fdiv b)) h else .fail | _ => .fail)
  | _ => .fail
noncomputable def modV (h : H) (a b : V) : R V := match a with
  | .int a => (match b with | .int b => if b ≠ 0 then .ok (.int (a.fmod b)) h else .fail | _ => .fail)
  | _ => .fail
noncomputable def binV (op : Op) (h : H) (a b : V) : R V := match op with
  | .add => addV h (deref h a) (deref h b)
  | .sub => subV h (deref h a) (deref h b)
  | .mul => mulV h (deref h a) (deref h b)
  | .div => divV h (deref h a) (deref h b)
  | .mod => modV h (deref h a) (deref h b)

noncomputable def memV (h : H) (a b : V) : Option Bool :=
  match b with
  | .str s => match a with | .str [c] => some (s.contains c) | _ => none
  | .ref n => match h[n]? with
    | some (.list xs) => if a.plain && xs.all V.plain then some (xs.any fun x => eqV x a) else none
    | some (.dict es) => match a with | .int k => some (es.any fun p => p.1 == k) | _ => none
    | _ => none
  | .lst xs | .tup xs => if a.plain && xs.all V.plain then some (xs.any fun x => eqV x a) else none
  | _ => none

noncomputable def isN : V → Bool
  | .none => true
  | _ => false
noncomputable def cmpV (op : COp) (h : H) (a b : V) : Option Bool :=
  match op with
  | .eq => if (deref h a).plain && (deref h b).plain then some (eqV (deref h a) (deref h b)) else none
  | .ne => if (deref h a).plain && (deref h b).plain then some (!eqV (deref h a) (deref h b)) else none
  | .lt => match a, b with | .int a, .int b => some (decide (a < b)) | _, _ => none
  | .le => match a, b with | .int a, .int b => some (decide (a ≤ b)) | _, _ => none
  | .gt => match a, b with | .int a, .int b => some (decide (b < a)) | _, _ => none
  | .ge => match a, b with | .int a, .int b => some (decide (b ≤ a)) | _, _ => none
  | .isIn => memV h a b
  | .notIn => (memV h a b).map (!·)
  | .is => match b with | .none => some (isN a) | _ => none
  | .isNot => match b with | .none => some (!isN a) | _ => none

/-- the type of a value, by number -/
noncomputable def tyOf (h : H) : V → Option Nat
  | .none => some 0
  | .bool _ => some 1
  | .int _ => some 2
  | .str _ => some 3
  | .tup _ => some 4
  | .lst _ => some 5
  | .ref n => match h[n]? with | some (.list _) => some 5 | some (.dict _) => some 6 | _ => none
  | _ => none
noncomputable def isInst (P : Prog) (h : H) (v : V) (t : Ty) : Option Bool :=
  match t with
  | .int => (tyOf h v).map fun k => k == 1 || k == 2
  | .bool => (tyOf h v).map fun k => k == 1
  | .str => (tyOf h v).map fun k => k == 3
  | .tuple => (tyOf h v).map fun k => k == 4
  | .list => (tyOf h v).map fun k => k == 5
  | .valueError => match v with | .exc e => if P.rz.contains e then some true else none | _ => none
  | .cls c => match v with | .exc e => if P.rz.contains e then (P.excs[e]?).map fun l => l.contains c else none | _ => none

noncomputable def onSome {α : Type} (o : Option α) (f : α → R V) : R V := match o with
  | some x => f x
  | none => .fail
noncomputable def instV (P : Prog) (h : H) (x : V) (t : Ty) : R V := onSome (isInst P h x t) fun b => .ok (.bool b) h
/-- exceptions are asked for where they may be raised alone -/
noncomputable def okT (P : Prog) : Ty → Bool
  | .valueError | .cls _ => !P.rz.isEmpty
  | _ => true
noncomputable def okIdx (k : Int) : Bool := decide (0 ≤ k) && decide (k < 1000000)
noncomputable def getItem (h : H) (v i : V) : Option V :=
  match i with
  | .int k => match v with
    | .str s => if okIdx k then charOf s k.toNat else none
    | .ref n => match h[n]? with
      | some (.list xs) => if okIdx k then xs[k.toNat]? else none
      | some (.dict es) => (es.find? fun p => p.1 == k).map (·.2)
      | _ => none
    | .lst xs | .tup xs => if okIdx k then xs[k.toNat]? else none
    | _ => none
  | _ => none

noncomputable def dictSet (es : List (Int × V)) (k : Int) (v : V) : List (Int × V) :=
  if es.any (fun p => p.1 == k) then es.map (fun p => if p.1 == k then (k, v) else p) else es ++ [(k, v)]
noncomputable def setItem (h : H) (o i v : V) : Option H :=
  match o, i with
  | .ref n, .int k => match h[n]? with
    | some (.list xs) => if okIdx k ∧ k.toNat < xs.length then some (h.set n (.list (xs.set k.toNat v))) else none
    | some (.dict es) => if es.length ≤ 100000 then some (h.set n (.dict (dictSet es k v))) else none
    | _ => none
  | _, _ => none

/-- a slice's bound: none, a number from 0 on, or one from the end -/
noncomputable def bound (len : Nat) (dflt : Nat) : V → Option Nat
  | .none => some dflt
  | .int k => some (if k < 0 then (k + len).toNat else min k.toNat len)
  | _ => none
noncomputable def sliceL {α : Type} (xs : List α) (a b : Nat) : List α := (xs.drop a).take (b - a)
noncomputable def onRef (o : V) (f : Nat → R V) : R V := match o with | .ref n => f n | _ => .fail
noncomputable def onStr (o : V) (f : List Nat → R V) : R V := match o with | .str s => f s | _ => .fail
noncomputable def onInt (o : V) (f : Int → R V) : R V := match o with | .int s => f s | _ => .fail
noncomputable def slS (h : H) (s : List Nat) (lo hi : V) : R V := onSome (bound s.length 0 lo) fun a => onSome (bound s.length s.length hi) fun b => if s.length ≤ 100000 then .ok (.str (sliceL s a b)) h else .fail
noncomputable def slT (h : H) (xs : List V) (lo hi : V) : R V := onInt lo fun k => if isN hi = true ∧ 1 ≤ k ∧ k.toNat ≤ xs.length ∧ xs.length ≤ 100000 then .ok (.tup (xs.drop k.toNat)) h else .fail
noncomputable def slL (mu : Bool) (h : H) (xs : List V) (lo hi : V) : R V := onSome (bound xs.length 0 lo) fun a => onSome (bound xs.length xs.length hi) fun b => if xs.length ≤ 100000 then mkList mu (sliceL xs a b) h else .fail
noncomputable def sliceV (mu : Bool) (h : H) (v lo hi : V) : R V := match v with
  | .str s => slS h s lo hi
  | .tup xs => slT h xs lo hi
  | .lst xs => slL mu h xs lo hi
  | .ref n => onSome (listOf h (.ref n)) fun xs => slL mu h xs lo hi
  | _ => .fail

noncomputable def digitsOf (n : Nat) : List Nat := (Nat.toDigits 10 n).map Char.toNat
noncomputable def isDigit (c : Nat) : Bool := decide (48 ≤ c) && decide (c ≤ 57)
noncomputable def readNat (s : List Nat) : Nat := s.foldl (fun a c => 10 * a + (c - 48)) 0
noncomputable def joinL (sep : List Nat) : List (List Nat) → List Nat
  | [] => []
  | [x] => x
  | x :: y :: r => x ++ sep ++ joinL sep (y :: r)
noncomputable def splitL (c : Nat) : List Nat → List (List Nat)
  | [] => [[]]
  | x :: r => if x = c then [] :: splitL c r else match splitL c r with
    | [] => [[x]]
    | w :: ws => (x :: w) :: ws

noncomputable def lenV (h : H) (v : V) : Option Nat :=
  match v with
  | .str s => some s.length
  | v => (seqOf h v).map List.length
noncomputable def biV (q : Bool) (b : Bi) (h : H) (vs : List V) : R V :=
  match b, vs with
  | .len, [v] => match lenV h v with | some n => if n ≤ 100000 then .ok (.int n) h else .fail | none => .fail
  | .int, [.bool b] => .ok (.int (if b then 1 else 0)) h
  | .int, [.str s] => if s.all isDigit && decide (1 ≤ s.length) && decide (s.length ≤ 18) then .ok (.int (readNat s)) h else .fail
  | .str, [.int i] => if decide (0 ≤ i) && decide (i < 10 ^ 9) then .ok (.str (digitsOf i.toNat)) h else .fail
  | .tuple, [v] => match seqOf h v with | some xs => if xs.length ≤ 100000 then .ok (.tup xs) h else .fail | none => .fail



  | _, _ => .fail

/-- what kind of thing a method is asked of -/
noncomputable def kindM (h : H) : V → Nat
  | .str _ => 1
  | .lst _ => 2
  | .ref n => match h[n]? with | some (.list _) => 2 | some (.dict _) => 3 | _ => 0
  | _ => 0
noncomputable def okM (m : Bm) (k : Nat) : Bool := match m with
  | .append => k == 2
  | .pop => k == 2 || k == 3
  | .remove => k == 2
  | .index => k == 1 || k == 2
  | .count => k == 2
  | .join => k == 1
  | .split => k == 1
noncomputable def one? (vs : List V) : Option V := match vs with
  | [] => none
  | v :: r => (match r with | [] => some v | _ => none)
noncomputable def onList (o : Option M) (f : List V → R V) : R V := match o with
  | some (.list xs) => f xs
  | _ => .fail
noncomputable def appN (h : H) (n : Nat) (v : V) : R V := onList h[n]? fun xs => if xs.length ≤ 100000 then .ok .none (h.set n (.list (xs ++ [v]))) else .fail
noncomputable def sign? (v : V) : Option Nat := match v with
  | .str s => (match s with | [] => none | c :: r => (match r with | [] => some c | _ => none))
  | _ => none
noncomputable def idxS (h : H) (s : List Nat) (v : V) : R V := onSome (sign? v) fun c => onSome (s.idxOf? c) fun i => .ok (.int i) h
noncomputable def idxL (h : H) (o v : V) : R V := onSome (listOf h o) fun xs => if v.plain && xs.all V.plain && decide (xs.length ≤ 100000) then onSome (xs.findIdx? fun x => eqV x v) fun i => .ok (.int i) h else .fail
noncomputable def cntL (h : H) (o v : V) : R V := onSome (listOf h o) fun xs => if v.plain && xs.all V.plain then .ok (.int (xs.countP fun x => eqV x v)) h else .fail
noncomputable def splS (h : H) (s : List Nat) (v : V) : R V := onSome (sign? v) fun c => if s.length ≤ 100000 then .ok (.lst ((splitL c s).map .str)) h else .fail
noncomputable def isStr (o : V) : Option (List Nat) := match o with | .str s => some s | _ => none
noncomputable def idxV (h : H) (o v : V) : R V := match isStr o with
  | some s => idxS h s v
  | none => idxL h o v
noncomputable def bmV1 (m : Bm) (h : H) (o v : V) : R V := match m with
  | .append => onRef o fun n => appN h n v
  | .pop => .fail
  | .remove => .fail
  | .index => idxV h o v
  | .count => cntL h o v
  | .join => .fail
  | .split => onStr o fun s => splS h s v
noncomputable def bmV (m : Bm) (h : H) (o : V) (vs : List V) : R V := match one? vs with
  | some v => bmV1 m h o v
  | none => .fail

/-- what a loop takes, and the list that must not turn while it runs -/
noncomputable def itemsOf (h : H) : V → Option (List V × Option (Nat × List V))
  | .lst xs | .tup xs => some (xs, none)
  | .str s => some (s.map fun c => .str [c], none)
  | .ref n => match h[n]? with | some (.list xs) => some (xs, some (n, xs)) | _ => none
  | _ => none
noncomputable def still (h : H) : Option (Nat × List V) → Bool
  | none => true
  | some (n, xs) => decide (h[n]? = some (.list xs))

noncomputable def forLoop (still : H → Bool) (step : V → Rho → H → RS) : List V → Rho → H → RS
  | [], r, h => if still h then .next r h else .fail
  | v :: vs, r, h => if still h then (step v r h).andThen (forLoop still step vs) else .fail
noncomputable def compLoop (still : H → Bool) (step : V → H → R Unit) : List V → H → R Unit
  | [], h => if still h then .ok () h else .fail
  | v :: vs, h => if still h then (step v h).bind fun _ h' => compLoop still step vs h' else .fail
/-- a comprehension's end: its list is the object with the number of the first heap's length -/
noncomputable def endComp (mu : Bool) (h h' : H) : R V :=
  match h'[h.length]? with
  | some (.list ys) => if mu then .ok (.ref h.length) h' else if h'.take h.length = h ∧ V.refsUnder h.length ys = true then .ok (.lst ys) h else .ok (.lst ys) (h'.set h.length .gone)
  | _ => .fail
noncomputable def numbered : Nat → List V → List (Nat × V)
  | _, [] => []
  | i, x :: xs => (i, x) :: numbered (i + 1) xs
noncomputable def forLoop2 (still : H → Bool) (step : Nat × V → Rho → H → RS) : List (Nat × V) → Rho → H → RS
  | [], r, h => if still h then .next r h else .fail
  | v :: vs, r, h => if still h then (step v r h).andThen (forLoop2 still step vs) else .fail
/-- a turn of a comprehension: its tests, its element, the list's object -/
noncomputable def compStep (tests : Rho → H → R Bool) (elt : Rho → H → R V) (x N : Nat) (r : Rho) (v : V) (h : H) : R Unit :=
  (tests (r.set x (some v)) h).bind fun t h' => if t then (elt (r.set x (some v)) h').bind fun y h' => (appN h' N y).bind fun _ h' => .ok () h' else .ok () h'

noncomputable def methOf (P : Prog) (h : H) (x : V) (m : Nat) : Option Nat :=
  match x with
  | .ref n => match h[n]? with
    | some (.inst c _) => match P.clss[c]? with
      | some cl => cl.meths.lookup m
      | none => none
    | _ => none
  | _ => none

/-- an attribute -/
noncomputable def getA (P : Prog) (h : H) (x : V) (k : Nat) : Option V :=
  match x with
  | .ref n => match h[n]? with
    | some (.inst c fs) => match P.clss[c]? with
      | some cl => match cl.attrs.findIdx? (· == k) with
        | some i => fs[i]?
        | none => none
      | none => none
    | _ => none
  | _ => none
noncomputable def setA (P : Prog) (h : H) (x : V) (k : Nat) (v : V) : Option H :=
  match x with
  | .ref n => match h[n]? with
    | some (.inst c fs) => match P.clss[c]? with
      | some cl => match cl.attrs.findIdx? (· == k) with
        | some i => if i < fs.length then some (h.set n (.inst c (fs.set i v))) else if i = fs.length then some (h.set n (.inst c (fs ++ [v]))) else none
        | none => none
      | none => none
    | _ => none
  | _ => none

section
variable (P : Prog) (q : Bool) (call : Nat → List V → H → R V)
mutual
noncomputable def evE : E → Rho → H → R V
  | .var i, r, h => match r[i]? with | some (some v) => .ok v h | _ => .fail
  | .const v, _, h => .ok v h
  | .glob _ v, _, h => .ok v h
  | .bin op a b, r, h => (evE a r h).bind fun x h => (evE b r h).bind fun y h => binV op h x y
  | .rep _ _, _, _ => .fail
  | .not a, r, h => (evE a r h).bind fun x h => match truth h x with | some b => .ok (.bool (!b)) h | none => .fail
  | .and es, r, h => evAnd es r h
  | .or es, r, h => evOr es r h
  | .cmp op a b, r, h => (evE a r h).bind fun x h => (evE b r h).bind fun y h => match cmpV op h x y with | some b => .ok (.bool b) h | none => .fail
  | .cmp2 op1 op2 a b c, r, h => (evE a r h).bind fun x h => (evE b r h).bind fun y h => match cmpV op1 h x y with
      | some true => (evE c r h).bind fun z h => match cmpV op2 h y z with | some b => .ok (.bool b) h | none => .fail
      | some false => .ok (.bool false) h
      | none => .fail
  | .ite c a b, r, h => (evC c r h).bind fun t h => if t then evE a r h else evE b r h
  | .call f args, r, h => (evEs args r h).bind fun vs h => call f vs h
  | .new c args, r, h => (evEs args r h).bind fun vs h => match P.clss[c]? with
      | some cl => (call cl.init (.ref h.length :: vs) (h ++ [.inst c []])).bind fun v h' => match v with
        | .none => .ok (.ref h.length) h'
        | _ => .fail
      | none => .fail
  | .meth o m args, r, h => (evE o r h).bind fun x h => match methOf P h x m with
      | some f => (evEs args r h).bind fun vs h => call f (x :: vs) h
      | none => .fail
  | .bi b args, r, h => (evEs args r h).bind fun vs h => biV q b h vs
  | .bm m o args, r, h => (evE o r h).bind fun x h => if okM m (kindM h x) then (evEs args r h).bind fun vs h' => if kindM h' x = kindM h x then bmV m h' x vs else .fail else .fail
  | .isinst a t, r, h => if okT P t then (evE a r h).bind fun x h => instV P h x t else .fail
  | .toList mu a, r, h => (evE a r h).bind fun x h => match seqOf h x with | some xs => if xs.length ≤ 100000 then mkList mu xs h else .fail | none => .fail
  | .attr a k, r, h => (evE a r h).bind fun x h => match getA P h x k with | some v => .ok v h | none => .fail
  | .sub a b, r, h => (evE a r h).bind fun x h => (evE b r h).bind fun y h => match getItem h x y with | some v => .ok v h | none => .fail
  | .slice mu a lo hi, r, h => (evE a r h).bind fun x h => (evE lo r h).bind fun y h => (evE hi r h).bind fun z h => sliceV mu h x y z
  | .list mu es, r, h => (evEs es r h).bind fun vs h => mkList mu vs h
  | .tuple es, r, h => (evEs es r h).bind fun vs h => .ok (.tup vs) h
  | .comp mu x elt it ifs, r, h => (evIt it r h).bind fun s h => match itemsOf h s with
      | some (xs, live) => if q = true ∧ xs.length ≤ 100000 then (compLoop (still · live) (compStep (evIfs ifs) (evE elt) x h.length r) xs (h ++ [.list []])).bind fun _ h' => endComp mu h h' else .fail
      | none => .fail
  | .dict0 _, _, _ => .fail
  | .freeze a, r, h => (evE a r h).bind fun x h => match x with
      | .ref n => (match h[n]? with | some (.list xs) => .ok (.lst xs) (h.set n .gone) | _ => .fail)
      | v => .ok v h
  | .inTab neg t a, r, h => (evE a r h).bind fun x h => match x, P.tabs[t]? with
      | .str s, some tb => .ok (.bool ((tb.any fun p => p.1 == s) != neg)) h
      | _, _ => .fail
  | .subTab t a, r, h => match P.tabs[t]? with
      | some tb => (evE a r h).bind fun x h => match x with
        | .str s => (match tb.find? fun p => p.1 == s with | some p => .ok (.str p.2) h | none => .fail)
        | _ => .fail
      | none => .fail
noncomputable def evIt : It → Rho → H → R V
  | .of e, r, h => evE e r h
  | .range1 a, r, h => (evE a r h).bind fun x h => match x with
      | .int n => if okR n && decide (n.toNat ≤ 100000) then .ok (.lst ((List.range n.toNat).map fun (i : Nat) => .int i)) h else .fail
      | _ => .fail
  | .range2 _ _, _, _ => .fail
noncomputable def evEs : List E → Rho → H → R (List V)
  | [], _, h => .ok [] h
  | e :: es, r, h => (evE e r h).bind fun v h => (evEs es r h).bind fun vs h => .ok (v :: vs) h
noncomputable def evAnd : List E → Rho → H → R V
  | [], _, _ => .fail
  | [e], r, h => evE e r h
  | e :: e' :: es, r, h => (evE e r h).bind fun v h => match truth h v with
      | some true => evAnd (e' :: es) r h
      | some false => .ok v h
      | none => .fail
noncomputable def evOr : List E → Rho → H → R V
  | [], _, _ => .fail
  | [e], r, h => evE e r h
  | e :: e' :: es, r, h => (evE e r h).bind fun v h => match truth h v with
      | some false => evOr (e' :: es) r h
      | some true => .ok v h
      | none => .fail
noncomputable def evC : C → Rho → H → R Bool
  | .t e, r, h => (evE e r h).bind fun v h => match truth h v with | some b => .ok b h | none => .fail
  | .not c, r, h => (evC c r h).bind fun b h => .ok (!b) h
  | .and cs, r, h => evCand cs r h
  | .or cs, r, h => evCor cs r h
noncomputable def evCand : List C → Rho → H → R Bool
  | [], _, h => .ok true h
  | c :: cs, r, h => (evC c r h).bind fun b h => if b then evCand cs r h else .ok false h
noncomputable def evCor : List C → Rho → H → R Bool
  | [], _, h => .ok false h
  | c :: cs, r, h => (evC c r h).bind fun b h => if b then .ok true h else evCor cs r h
noncomputable def evIfs : List C → Rho → H → R Bool
  | [], _, h => .ok true h
  | c :: cs, r, h => (evC c r h).bind fun b h => if b then evIfs cs r h else .ok false h
end
end

section
variable (P : Prog) (call : Bool → Nat → List V → H → R V)
/-- the exception's name goes behind its clause -/
noncomputable def clr (x : Option Nat) : RS → RS
  | .next r h => .next (match x with | some i => r.set i none | none => r) h
  | .ret v r h => .ret v (match x with | some i => r.set i none | none => r) h
  | .exc c r h => .exc c (match x with | some i => r.set i none | none => r) h
  | .fail => .fail
mutual
noncomputable def evS (q : Bool) : S → Rho → H → RS
  | .assign x e, r, h => RS.of r (evE P q (call q) e r h) fun v h => .next (r.set x (some v)) h
  | .setattr o k e, r, h => RS.of r (evE P q (call q) e r h) fun v h => RS.of r (evE P q (call q) o r h) fun x h => match setA P h x k v with
      | some h' => .next r h'
      | none => .fail
  | .setsub o i e, r, h => RS.of r (evE P q (call q) e r h) fun v h => RS.of r (evE P q (call q) o r h) fun x h => RS.of r (evE P q (call q) i r h) fun y h => match setItem h x y v with
      | some h' => .next r h'
      | none => .fail
  | .expr e, r, h => RS.of r (evE P q (call q) e r h) fun _ h => .next r h
  | .ite c a b, r, h => RS.of r (evC P q (call q) c r h) fun t h => if t then evSs q a r h else evSs q b r h
  | .for1 x it body, r, h => RS.of r (evIt P q (call q) it r h) fun s h => match itemsOf h s with
      | some (xs, live) => if q = true ∧ xs.length ≤ 100000 then forLoop (still · live) (fun v r h => evSs q body (r.set x (some v)) h) xs r h else .fail
      | none => .fail
  | .for2 x y it body, r, h => RS.of r (evE P q (call q) it r h) fun s h => match itemsOf h s with
      | some (xs, live) => if q = true ∧ xs.length ≤ 100000 then forLoop2 (still · live) (fun p r h => evSs q body ((r.set x (some (.int p.1))).set y (some p.2)) h) (numbered 0 xs) r h else .fail
      | none => .fail
  | .while _ _, _, _ => .fail
  | .ret e, r, h => RS.of r (evE P q (call q) e r h) fun v h => .ret v r h
  | .raise c _, r, h => if q = true ∧ P.rz.contains c = true then .exc c r h else .fail
  | .try body hs, r, h => match evSs q body r h with
      | .exc c r' h' => if P.rz.contains c = true then evHs c hs r' h' else .fail
      | x => x
noncomputable def evSs (q : Bool) : List S → Rho → H → RS
  | [], r, h => .next r h
  | s :: ss, r, h => (evS q s r h).andThen (evSs q ss)
/-- the clauses in order -/
noncomputable def evHs (c : Nat) : List (Nat × Option Nat × List S) → Rho → H → RS
  | [], r, h => .exc c r h
  | (k, x, b) :: rest, r, h => if ((P.excs[c]?).getD []).contains k then clr x (evSs false b (match x with | some i => r.set i (some (.exc c)) | none => r) h) else evHs c rest r h
end
end

noncomputable def fin (pure : Bool) (h : H) (r : R V) : R V :=
  if pure then match r with
    | .ok v h' => if h'.take h.length = h ∧ v.refUnder h.length = true then .ok v h else .fail
    | .exc c h' => if h'.take h.length = h then .exc c h else .fail
    | .fail => .fail
  else r
noncomputable def ofRS : RS → R V
  | .next _ h => .ok .none h
  | .ret v _ h => .ok v h
  | .exc c _ h => .exc c h
  | .fail => .fail
noncomputable def callN (P : Prog) : Nat → Bool → Nat → List V → H → R V
  | 0, _, _, _, _ => .fail
  | d + 1, q, f, vs, h => match P.fn f with
    | none => .fail
    | some F => if vs.length = F.npar then fin F.pure h (ofRS (evSs P (callN P d) q F.body (vs.map some ++ List.replicate (F.nloc - F.npar) none) h)) else .fail

end
end Mine
end
section
namespace Mine
open PySem

/-- object's address, its dict's address -/
noncomputable abbrev Phi := List (Addr × Addr)

structure St where
  prog : Program
  w : World
  P : Prog
  base : Heap
  nolim : base.NoLimit
  cls : Nat → Addr
  attrs : Nat → List Str
  exc : Nat → Addr

noncomputable abbrev St.M (T : St) : Model := model T.prog T.w

inductive own (φ : Phi) (η : H) (b : Addr) : Prop where
  | mk (n : Nat) (p : Addr × Addr) (m : M) (hp : φ[n]? = some p) (hm : η[n]? = some m) (hg : m ≠ M.gone) (hb : b = p.1 ∨ b = p.2)

noncomputable abbrev listO (items : Array Value) (n : Nat) : Obj := { cls := .type "list", dict := none, data := .seq items n, slots := #[] }
noncomputable abbrev tupO (items : Array Value) (n : Nat) : Obj := { cls := .type "tuple", dict := none, data := .seq items n, slots := #[] }
noncomputable abbrev dictO (es : Array DictEntry) (n : Nat) : Obj := { cls := .type "dict", dict := none, data := .dict es n, slots := #[] }
noncomputable abbrev instO (C d : Addr) : Obj := { cls := .ref C, dict := some d, data := .plain, slots := #[] }

mutual
noncomputable def VR (T : St) (φ : Phi) (N : Addr → Prop) (h : Heap) : V → Value → Prop
  | .none, v => v = .none
  | .bool b, v => v = .bool b
  | .int i, v => ∃ t, v = .int i t
  | .str s, v => ∃ t, v = .str ⟨s.toArray⟩ t
  | .tup xs, v => ∃ a items n, v = .ref a ∧ ¬ N a ∧ h.get? a = some (tupO items n) ∧ VRs T φ N h xs items.toList
  | .lst xs, v => ∃ a items n, v = .ref a ∧ ¬ N a ∧ h.get? a = some (listO items n) ∧ VRs T φ N h xs items.toList
  | .dct, _ => False
  | .ref n, v => ∃ p, φ[n]? = some p ∧ v = .ref p.1
  | .exc c, v => ∃ a o, v = .ref a ∧ ¬ N a ∧ h.get? a = some o ∧ o.cls = .ref (T.exc c) ∧ ∃ vs, o.data = .fields vs
noncomputable def VRs (T : St) (φ : Phi) (N : Addr → Prop) (h : Heap) : List V → List Value → Prop
  | [], vs => vs = []
  | x :: xs, vs => ∃ v r, vs = v :: r ∧ VR T φ N h x v ∧ VRs T φ N h xs r
end

/-- an exception, or an entry of its way: its fields may turn -/
noncomputable def Loose (o : Obj) : Prop := (∃ vs, o.data = .fields vs) ∧ (o.cls = .type "traceback" ∨ ∃ C, o.cls = .ref C)
/-- an object stays; a frame's slots may turn, and an exception's fields -/
noncomputable def StayO (o : Obj) (h : Heap) (b : Addr) : Prop :=
  h.get? b = some o ∨ (o.cls = .type "frame" ∧ ∃ sl, h.get? b = some { o with slots := sl }) ∨ (Loose o ∧ ∃ o', h.get? b = some o' ∧ o'.cls = o.cls ∧ Loose o')
theorem StayO.exact {o : Obj} {h : Heap} {b : Addr} (x : StayO o h b) (hc : o.cls ≠ .type "frame") (hl : ¬ Loose o) : h.get? b = some o := by
  rcases x with x | ⟨x, _⟩ | ⟨x, _⟩
  · exact x
  · exact absurd x hc
  · exact absurd x hl
theorem StayO.refl {o : Obj} {h : Heap} {b : Addr} (e : h.get? b = some o) : StayO o h b := .inl e
theorem Loose.notFrame {o : Obj} (x : Loose o) : o.cls ≠ .type "frame" := by
  obtain ⟨_, e | ⟨C, e⟩⟩ := x <;> (rw [e]; simp)
theorem not_loose {o : Obj} {c : String} (e : o.cls = .type c) (hc : c ≠ "traceback") : ¬ Loose o := by
  rintro ⟨_, x | ⟨C, x⟩⟩
  · rw [e] at x; cases x; exact hc rfl
  · rw [e] at x; cases x
theorem StayO.trans {o : Obj} {h h' : Heap} {b : Addr} (x : StayO o h b) (y : ∀ o', h.get? b = some o' → StayO o' h' b) : StayO o h' b := by
  rcases x with x | ⟨c, sl, x⟩ | ⟨l, o', x, ec, l'⟩
  · exact y o x
  · rcases y _ x with y | ⟨_, sl', y⟩ | ⟨l, _⟩
    · exact .inr (.inl ⟨c, sl, y⟩)
    · exact .inr (.inl ⟨c, sl', y⟩)
    · exact absurd c l.notFrame
  · rcases y _ x with y | ⟨c, _⟩ | ⟨_, o'', y, ec', l''⟩
    · exact .inr (.inr ⟨l, o', y, ec, l'⟩)
    · exact absurd c l'.notFrame
    · exact .inr (.inr ⟨l, o'', y, ec'.trans ec, l''⟩)
theorem StayO.there {o : Obj} {h : Heap} {b : Addr} (x : StayO o h b) : ∃ o', h.get? b = some o' ∧ o'.cls = o.cls := by
  rcases x with x | ⟨_, sl, x⟩ | ⟨_, o', x, e, _⟩
  · exact ⟨_, x, rfl⟩
  · exact ⟨_, x, rfl⟩
  · exact ⟨_, x, e⟩

structure Step (φ : Phi) (η : H) (h : Heap) (φ' : Phi) (η' : H) (h' : Heap) : Prop where
  ext : φ <+: φ'
  keep : ∀ b o, ¬ own φ η b → h.get? b = some o → StayO o h' b
  osub : ∀ b, own φ' η' b → own φ η b ∨ h.get? b = none
  alive : ∀ b o, h.get? b = some o → (h'.get? b).isSome = true

theorem Step.refl (φ : Phi) (η : H) (h : Heap) : Step φ η h φ η h :=
  ⟨List.prefix_refl _, fun _ _ _ e => .refl e, fun _ o => .inl o, fun _ _ e => by rw [e]; rfl⟩

theorem Step.trans {φ₁ φ₂ φ₃ : Phi} {η₁ η₂ η₃ : H} {h₁ h₂ h₃ : Heap} (x : Step φ₁ η₁ h₁ φ₂ η₂ h₂) (y : Step φ₂ η₂ h₂ φ₃ η₃ h₃) : Step φ₁ η₁ h₁ φ₃ η₃ h₃ where
  ext := x.ext.trans y.ext
  keep := fun b o hb e => by
    have hb₂ : ¬ own φ₂ η₂ b := fun q => (x.osub b q).elim hb fun q => by rw [q] at e; cases e
    exact (x.keep b o hb e).trans fun o' e' => y.keep b o' hb₂ e'
  osub := fun b q => by
    rcases y.osub b q with q | q
    · exact x.osub b q
    · right
      cases e : h₁.get? b with
      | none => rfl
      | some o => have := x.alive b o e; rw [q] at this; cases this
  alive := fun b o e => by
    obtain ⟨o', e'⟩ := Option.isSome_iff_exists.mp (x.alive b o e)
    exact y.alive b o' e'

theorem Step.off {φ φ' : Phi} {η η' : H} {h h' : Heap} (st : Step φ η h φ' η' h') {a : Addr} {o : Obj} (hN : ¬ own φ η a) (hg : h.get? a = some o) : ¬ own φ' η' a :=
  fun q => (st.osub a q).elim hN fun q => by rw [q] at hg; cases hg

theorem get_prefix {α : Type} {l l' : List α} (x : l <+: l') {n : Nat} {a : α} (e : l[n]? = some a) : l'[n]? = some a := by
  obtain ⟨t, rfl⟩ := x
  rw [List.getElem?_append_left (List.getElem?_eq_some_iff.mp e).1]
  exact e

mutual
theorem VR.step {T : St} {φ φ' : Phi} {η η' : H} {h h' : Heap} (st : Step φ η h φ' η' h') : ∀ (v : V) (x : Value), VR T φ (own φ η) h v x → VR T φ' (own φ' η') h' v x
  | .none, _, e => e
  | .bool _, _, e => e
  | .int _, _, e => e
  | .str _, _, e => e
  | .tup xs, x, e => by
    simp only [VR] at e ⊢
    obtain ⟨a, items, n, rfl, hN, hg, hr⟩ := e
    exact ⟨a, items, n, rfl, st.off hN hg, (st.keep a _ hN hg).exact (by simp) (not_loose rfl (by decide)), VRs.step st xs _ hr⟩
  | .lst xs, x, e => by
    simp only [VR] at e ⊢
    obtain ⟨a, items, n, rfl, hN, hg, hr⟩ := e
    exact ⟨a, items, n, rfl, st.off hN hg, (st.keep a _ hN hg).exact (by simp) (not_loose rfl (by decide)), VRs.step st xs _ hr⟩
  | .dct, x, e => by
    simp only [VR] at e
  | .ref n, x, e => by
    simp only [VR] at e ⊢
    obtain ⟨p, hp, rfl⟩ := e
    exact ⟨p, get_prefix st.ext hp, rfl⟩
  | .exc c, x, e => by
    simp only [VR] at e ⊢
    obtain ⟨a, o, rfl, hN, hg, hc, hd⟩ := e
    rcases st.keep a _ hN hg with x | ⟨x, _⟩ | ⟨_, o', x, ec, hl⟩
    · exact ⟨a, o, rfl, st.off hN hg, x, hc, hd⟩
    · rw [hc] at x; cases x
    · exact ⟨a, o', rfl, st.off hN hg, x, ec.trans hc, hl.1⟩
theorem VRs.step {T : St} {φ φ' : Phi} {η η' : H} {h h' : Heap} (st : Step φ η h φ' η' h') : ∀ (v : List V) (x : List Value), VRs T φ (own φ η) h v x → VRs T φ' (own φ' η') h' v x
  | [], _, e => e
  | y :: ys, x, e => by
    simp only [VRs] at e ⊢
    obtain ⟨v, r, rfl, h1, h2⟩ := e
    exact ⟨v, r, rfl, VR.step st y v h1, VRs.step st ys r h2⟩
end

/-- entries of an instance's dict -/
noncomputable def EntR (T : St) (φ : Phi) (N : Addr → Prop) (h : Heap) : List Str → List V → List DictEntry → Prop
  | _, [], es => es = []
  | x :: xs, v :: vs, es => ∃ e r t, es = e :: r ∧ e.key = .str x t ∧ VR T φ N h v e.val ∧ EntR T φ N h xs vs r
  | [], _ :: _, _ => False

theorem EntR.step {T : St} {φ φ' : Phi} {η η' : H} {h h' : Heap} (st : Step φ η h φ' η' h') : ∀ (xs : List Str) (vs : List V) (es : List DictEntry), EntR T φ (own φ η) h xs vs es → EntR T φ' (own φ' η') h' xs vs es
  | [], [], _, e => e
  | _ :: _, [], _, e => e
  | x :: xs, v :: vs, es, e => by
    simp only [EntR] at e ⊢
    obtain ⟨en, r, t, rfl, hk, hv, hr⟩ := e
    exact ⟨en, r, t, rfl, hk, VR.step st v _ hv, EntR.step st xs vs r hr⟩
  | [], _ :: _, _, e => e.elim

noncomputable def OR (T : St) (φ : Phi) (N : Addr → Prop) (h : Heap) (m : M) (p : Addr × Addr) : Prop :=
  match m with
  | .list xs => p.2 = p.1 ∧ ∃ items n, h.get? p.1 = some (listO items n) ∧ VRs T φ N h xs items.toList
  | .dict es => p.2 = p.1 ∧ ∃ kvs, h.DictOf (intKind T.prog T.w) p.1 kvs ∧ kvs.map (·.1) = es.map (·.1) ∧ VRs T φ N h (es.map (·.2)) (kvs.map (·.2))
  | .inst c fs => p.1 ≠ p.2 ∧ h.get? p.1 = some (instO (T.cls c) p.2) ∧ ∃ es n, h.get? p.2 = some (dictO es n) ∧ EntR T φ N h (T.attrs c) fs es.toList
  | .gone => True

structure Rel (T : St) (φ : Phi) (η : H) (h : Heap) : Prop where
  len : φ.length = η.length
  base : ∀ b o, T.base.get? b = some o → h.get? b = some o
  obj : ∀ (n : Nat) (m : M) (p : Addr × Addr), η[n]? = some m → φ[n]? = some p → OR T φ (own φ η) h m p
  fresh : ∀ b, own φ η b → T.base.get? b = none ∧ cStatics < b
  disj : ∀ (n n' : Nat) (p p' : Addr × Addr) (m m' : M), φ[n]? = some p → φ[n']? = some p' → η[n]? = some m → η[n']? = some m' → m ≠ .gone → m' ≠ .gone → n ≠ n' → p.1 ≠ p'.1 ∧ p.1 ≠ p'.2 ∧ p.2 ≠ p'.1 ∧ p.2 ≠ p'.2

/-- what is owned is there, and no frame -/
theorem Rel.there {T : St} {φ : Phi} {η : H} {h : Heap} (R : Rel T φ η h) {b : Addr} (o : own φ η b) : ∃ ob, h.get? b = some ob ∧ ob.cls ≠ .type "frame" := by
  obtain ⟨n, p, m, hp, hm, hg, hb⟩ := o
  have := R.obj n m p hm hp
  unfold OR at this
  split at this
  · obtain ⟨e, items, k, hg, _⟩ := this
    rcases hb with rfl | rfl
    · exact ⟨_, hg, by simp⟩
    · rw [e]; exact ⟨_, hg, by simp⟩
  · obtain ⟨e, kvs, hd, _⟩ := this
    obtain ⟨o, es, ep, hg, hx, _⟩ := hd
    rcases hb with rfl | rfl
    · exact ⟨_, hg, by rw [hx.1]; simp⟩
    · rw [e]; exact ⟨_, hg, by rw [hx.1]; simp⟩
  · obtain ⟨_, h1, es, k, h2, _⟩ := this
    rcases hb with rfl | rfl
    · exact ⟨_, h1, by simp⟩
    · exact ⟨_, h2, by simp⟩
  · exact absurd rfl hg

/-- an object with fields is not owned -/
theorem Rel.notFields {T : St} {φ : Phi} {η : H} {h : Heap} (R : Rel T φ η h) {b : Addr} {o : Obj} {vs : Array Value} (hg : h.get? b = some o) (hd : o.data = .fields vs) : ¬ own φ η b := by
  rintro ⟨n, p, m, hp, hm, hgn, hb⟩
  have := R.obj n m p hm hp
  unfold OR at this
  split at this
  · obtain ⟨e, items, k, h1, _⟩ := this
    rcases hb with rfl | rfl <;> (try rw [e] at hg) <;> (rw [h1] at hg; cases hg; cases hd)
  · obtain ⟨e, kvs, hdd, _⟩ := this
    obtain ⟨o', es, ep, h1, hx, h2, _⟩ := hdd
    rcases hb with rfl | rfl <;> (try rw [e] at hg) <;> (rw [h1] at hg; cases hg; rw [h2] at hd; cases hd)
  · obtain ⟨_, h1, es, k, h2, _⟩ := this
    rcases hb with rfl | rfl
    · rw [h1] at hg; cases hg; cases hd
    · rw [h2] at hg; cases hg; cases hd
  · exact hgn rfl

/-- the heap has grown alone -/
theorem Step.keeps {φ : Phi} {η : H} {h h' : Heap} (k : ∀ b o, h.get? b = some o → h'.get? b = some o) : Step φ η h φ η h' :=
  ⟨List.prefix_refl _, fun b o _ e => .refl (k b o e), fun _ o => .inl o, fun b o e => by rw [k b o e]; rfl⟩

theorem OR.step {T : St} {φ φ' : Phi} {η η' : H} {h h' : Heap} (st : Step φ η h φ' η' h') {m : M} {p : Addr × Addr} (k : ∀ o, ∀ b, b = p.1 ∨ b = p.2 → h.get? b = some o → h'.get? b = some o)
    (x : OR T φ (own φ η) h m p) : OR T φ' (own φ' η') h' m p := by
  unfold OR at x ⊢
  split at x
  · obtain ⟨e, items, n, h1, h2⟩ := x
    exact ⟨e, items, n, k _ _ (.inl rfl) h1, VRs.step st _ _ h2⟩
  · obtain ⟨e, kvs, ⟨o, es, ep, h0, h0'⟩, h1, h2⟩ := x
    exact ⟨e, kvs, ⟨o, es, ep, k _ _ (.inl rfl) h0, h0'⟩, h1, VRs.step st _ _ h2⟩
  · obtain ⟨e, h1, es, n, h2, h3⟩ := x
    exact ⟨e, k _ _ (.inl rfl) h1, es, n, k _ _ (.inr rfl) h2, EntR.step st _ _ _ h3⟩
  · trivial

theorem Rel.keeps {T : St} {φ : Phi} {η : H} {h h' : Heap} (R : Rel T φ η h) (k : ∀ b o, h.get? b = some o → h'.get? b = some o) : Rel T φ η h' where
  len := R.len
  base := fun b o e => k b o (R.base b o e)
  obj := fun n m p hm hp => OR.step (.keeps k) (fun o b _ e => k b o e) (R.obj n m p hm hp)
  fresh := R.fresh
  disj := R.disj

theorem own_set {φ : Phi} {η : H} {n : Nat} {m m' : M} (hm : η[n]? = some m) (hg : m ≠ .gone) (hg' : m' ≠ .gone) (b : Addr) : own φ (η.set n m') b ↔ own φ η b := by
  have hlt : n < η.length := (List.getElem?_eq_some_iff.mp hm).1
  constructor
  · rintro ⟨k, p, x, hp, hx, hxg, hb⟩
    by_cases e : n = k
    · subst e; exact ⟨n, p, m, hp, hm, hg, hb⟩
    · rw [List.getElem?_set_ne e] at hx; exact ⟨k, p, x, hp, hx, hxg, hb⟩
  · rintro ⟨k, p, x, hp, hx, hxg, hb⟩
    by_cases e : n = k
    · subst e; exact ⟨n, p, m', hp, by simp [hlt], hg', hb⟩
    · exact ⟨k, p, x, hp, by rw [List.getElem?_set_ne e]; exact hx, hxg, hb⟩

/-- one object turns -/
theorem Rel.set {T : St} {φ : Phi} {η : H} {h h' : Heap} {n : Nat} {m m' : M} {p : Addr × Addr} (R : Rel T φ η h) (hm : η[n]? = some m) (hp : φ[n]? = some p) (hg : m ≠ .gone) (hg' : m' ≠ .gone)
    (k : ∀ b o, b ≠ p.1 → b ≠ p.2 → h.get? b = some o → h'.get? b = some o) (a1 : (h'.get? p.1).isSome = true) (a2 : (h'.get? p.2).isSome = true)
    (ho : Step φ η h φ (η.set n m') h' → OR T φ (own φ (η.set n m')) h' m' p) : Rel T φ (η.set n m') h' ∧ Step φ η h φ (η.set n m') h' := by
  have hown : own φ η p.1 ∧ own φ η p.2 := ⟨⟨n, p, m, hp, hm, hg, .inl rfl⟩, ⟨n, p, m, hp, hm, hg, .inr rfl⟩⟩
  have st : Step φ η h φ (η.set n m') h' := ⟨List.prefix_refl _, fun b o hb e => .refl (k b o (fun q => hb (q ▸ hown.1)) (fun q => hb (q ▸ hown.2)) e), fun b hb => .inl ((own_set hm hg hg' b).mp hb), fun b o e => by
    by_cases q1 : b = p.1
    · rw [q1]; exact a1
    · by_cases q2 : b = p.2
      · rw [q2]; exact a2
      · rw [k b o q1 q2 e]; rfl⟩
  refine ⟨⟨?_, fun b o e => ?_, fun k' x p' hx hp' => ?_, fun b hb => R.fresh b ((own_set hm hg hg' b).mp hb), fun i j q q' x x' hq hq' hx hx' gx gx' hij => ?_⟩, st⟩
  · rw [List.length_set]; exact R.len
  · exact k b o (fun q => by have := (R.fresh _ hown.1).1; rw [← q, e] at this; cases this) (fun q => by have := (R.fresh _ hown.2).1; rw [← q, e] at this; cases this) (R.base b o e)
  · by_cases e : n = k'
    · subst e
      have hlt : n < η.length := (List.getElem?_eq_some_iff.mp hm).1
      rw [List.getElem?_set_self hlt] at hx
      cases hx
      rw [hp] at hp'; cases hp'
      exact ho st
    · rw [List.getElem?_set_ne e] at hx
      by_cases gx : x = .gone
      · subst gx; trivial
      · have d := R.disj n k' p p' m x hp hp' hm hx hg gx e
        refine OR.step st (fun o b hb e => k b o ?_ ?_ e) (R.obj k' x p' hx hp')
        · rcases hb with rfl | rfl
          · exact Ne.symm d.1
          · exact Ne.symm d.2.1
        · rcases hb with rfl | rfl
          · exact Ne.symm d.2.2.1
          · exact Ne.symm d.2.2.2
  · have get : ∀ (i : Nat) (x : M), (η.set n m')[i]? = some x → x ≠ .gone → ∃ y, η[i]? = some y ∧ y ≠ .gone := fun i x hx gx => by
      by_cases e : n = i
      · subst e; exact ⟨m, hm, hg⟩
      · rw [List.getElem?_set_ne e] at hx; exact ⟨x, hx, gx⟩
    obtain ⟨y, hy, gy⟩ := get i x hx gx
    obtain ⟨y', hy', gy'⟩ := get j x' hx' gx'
    exact R.disj i j q q' y y' hq hq' hy hy' gy gy' hij

theorem own_add {T : St} {φ : Phi} {η : H} {h : Heap} (R : Rel T φ η h) {p : Addr × Addr} {m : M} {b : Addr} (x : own (φ ++ [p]) (η ++ [m]) b) : own φ η b ∨ b = p.1 ∨ b = p.2 := by
  obtain ⟨n, q, y, hq, hy, gy, hb⟩ := x
  by_cases hn : n < φ.length
  · rw [List.getElem?_append_left hn] at hq
    rw [List.getElem?_append_left (by rw [← R.len]; exact hn)] at hy
    exact .inl ⟨n, q, y, hq, hy, gy, hb⟩
  · have : n = φ.length := by
      have := (List.getElem?_eq_some_iff.mp hq).1
      simp at this; omega
    subst this
    rw [List.getElem?_append_right (Nat.le_refl _)] at hq
    simp at hq; subst hq
    exact .inr hb

/-- a new object -/
theorem Rel.add {T : St} {φ : Phi} {η : H} {h h' : Heap} {m : M} {p : Addr × Addr} (R : Rel T φ η h) (k : ∀ b o, h.get? b = some o → h'.get? b = some o) (h1 : h.get? p.1 = none) (h2 : h.get? p.2 = none) (l1 : cStatics < p.1) (l2 : cStatics < p.2)
    (ho : Step φ η h (φ ++ [p]) (η ++ [m]) h' → OR T (φ ++ [p]) (own (φ ++ [p]) (η ++ [m])) h' m p) : Rel T (φ ++ [p]) (η ++ [m]) h' ∧ Step φ η h (φ ++ [p]) (η ++ [m]) h' := by
  have nb : ∀ b, h.get? b = none → T.base.get? b = none := fun b hb => by
    cases q : T.base.get? b with
    | none => rfl
    | some o => have := R.base b o q; rw [hb] at this; cases this
  have st : Step φ η h (φ ++ [p]) (η ++ [m]) h' := ⟨List.prefix_append _ _, fun b o _ e => .refl (k b o e), fun b hb => (own_add R hb).imp id fun q => by rcases q with rfl | rfl <;> assumption, fun b o e => by rw [k b o e]; rfl⟩
  have notp : ∀ b, own φ η b → b ≠ p.1 ∧ b ≠ p.2 := fun b hb => by
    obtain ⟨o, e, _⟩ := R.there hb
    exact ⟨fun q => (by rw [q, h1] at e; cases e), fun q => (by rw [q, h2] at e; cases e)⟩
  have lastOr : ∀ (i : Nat) (x : M) (q : Addr × Addr), (η ++ [m])[i]? = some x → (φ ++ [p])[i]? = some q → (η[i]? = some x ∧ φ[i]? = some q ∧ i < φ.length) ∨ (i = φ.length ∧ x = m ∧ q = p) := fun i x q hx hq => by
    by_cases hi : i < φ.length
    · rw [List.getElem?_append_left hi] at hq
      rw [List.getElem?_append_left (by rw [← R.len]; exact hi)] at hx
      exact .inl ⟨hx, hq, hi⟩
    · have : i = φ.length := by
        have := (List.getElem?_eq_some_iff.mp hq).1
        simp at this; omega
      subst this
      rw [List.getElem?_append_right (Nat.le_refl _)] at hq
      rw [R.len, List.getElem?_append_right (Nat.le_refl _)] at hx
      simp at hq hx
      exact .inr ⟨rfl, hx.symm, hq.symm⟩
  refine ⟨⟨by simp [R.len], fun b o e => k b o (R.base b o e), fun i x q hx hq => ?_, fun b hb => ?_, fun i j q q' x x' hq hq' hx hx' gx gx' hij => ?_⟩, st⟩
  · rcases lastOr i x q hx hq with ⟨hx, hq, _⟩ | ⟨_, rfl, rfl⟩
    · exact OR.step st (fun o b _ e => k b o e) (R.obj i x q hx hq)
    · exact ho st
  · rcases own_add R hb with q | rfl | rfl
    · exact R.fresh b q
    · exact ⟨nb _ h1, l1⟩
    · exact ⟨nb _ h2, l2⟩
  · have off : ∀ (i : Nat) (x : M) (q : Addr × Addr), η[i]? = some x → φ[i]? = some q → x ≠ .gone → q.1 ≠ p.1 ∧ q.1 ≠ p.2 ∧ q.2 ≠ p.1 ∧ q.2 ≠ p.2 := fun i x q hx hq gx => by
      have a := notp q.1 ⟨i, q, x, hq, hx, gx, .inl rfl⟩
      have b := notp q.2 ⟨i, q, x, hq, hx, gx, .inr rfl⟩
      exact ⟨a.1, a.2, b.1, b.2⟩
    rcases lastOr i x q hx hq with ⟨ex, eq, hi⟩ | ⟨ei, ex, eq⟩ <;> rcases lastOr j x' q' hx' hq' with ⟨ex', eq', hj⟩ | ⟨ej, ex', eq'⟩
    · exact R.disj i j q q' x x' eq eq' ex ex' gx gx' hij
    · rw [eq']; exact off i x q ex eq gx
    · rw [eq]
      have := off j x' q' ex' eq' gx'
      exact ⟨Ne.symm this.1, Ne.symm this.2.2.1, Ne.symm this.2.1, Ne.symm this.2.2.2⟩
    · exact absurd (ei.trans ej.symm) hij

/-- an object is owned no more -/
theorem Rel.free {T : St} {φ : Phi} {η : H} {h : Heap} {n : Nat} (R : Rel T φ η h) : Rel T φ (η.set n .gone) h ∧ Step φ η h φ (η.set n .gone) h := by
  have sub : ∀ b, own φ (η.set n .gone) b → own φ η b := by
    rintro b ⟨k, p, x, hp, hx, hxg, hb⟩
    by_cases e : n = k
    · subst e
      by_cases hlt : n < η.length
      · rw [List.getElem?_set_self hlt] at hx; cases hx; exact absurd rfl hxg
      · rw [List.getElem?_eq_none (by simp; omega)] at hx; cases hx
    · rw [List.getElem?_set_ne e] at hx; exact ⟨k, p, x, hp, hx, hxg, hb⟩
  have st : Step φ η h φ (η.set n .gone) h := ⟨List.prefix_refl _, fun b o _ e => .refl e, fun b hb => .inl (sub b hb), fun b o e => by rw [e]; rfl⟩
  have get : ∀ (i : Nat) (x : M), (η.set n .gone)[i]? = some x → x ≠ .gone → η[i]? = some x := fun i x hx gx => by
    by_cases e : n = i
    · subst e
      by_cases hlt : n < η.length
      · rw [List.getElem?_set_self hlt] at hx; cases hx; exact absurd rfl gx
      · rw [List.getElem?_eq_none (by simp; omega)] at hx; cases hx
    · rw [List.getElem?_set_ne e] at hx; exact hx
  refine ⟨⟨by rw [List.length_set]; exact R.len, R.base, fun k x p hx hp => ?_, fun b hb => R.fresh b (sub b hb), fun i j q q' x x' hq hq' hx hx' gx gx' hij => R.disj i j q q' x x' hq hq' (get i x hx gx) (get j x' hx' gx') gx gx' hij⟩, st⟩
  by_cases gx : x = .gone
  · subst gx; trivial
  · exact OR.step st (fun o b _ e => e) (R.obj k x p (get k x hx gx) hp)

theorem Rel.high {T : St} {φ : Phi} {η : H} {h : Heap} (R : Rel T φ η h) : cStatics < h.objs.size := by
  obtain ⟨mc, ⟨o, _, _, e, _⟩, _⟩ := T.nolim
  exact Heap.lt_size (R.base _ _ e)
end Mine
end
section
namespace Mine
open PySem

/-- the frames that lie on the stack -/
noncomputable def Stk (T : St) (φ : Phi) (η : H) (l : List Env) (h : Heap) : Prop :=
  ∀ env ∈ l, env.scope.kind ≠ .module ∧ ∃ L o, env.frame = some L ∧ T.base.get? L = none ∧ ¬ own φ η L ∧ h.get? L = some o ∧ o.cls = .type "frame" ∧ ∃ es n, o.data = .dict es n

theorem Stk.step {T : St} {φ φ' : Phi} {η η' : H} {l : List Env} {h h' : Heap} (x : Stk T φ η l h) (st : Step φ η h φ' η' h') : Stk T φ' η' l h' := fun env he => by
  obtain ⟨hk, L, o, hf, hb, ho, hg, hc, es, n, hd⟩ := x env he
  rcases st.keep L o ho hg with x | ⟨_, sl, x⟩ | ⟨x, _⟩
  · exact ⟨hk, L, _, hf, hb, st.off ho hg, x, hc, es, n, hd⟩
  · exact ⟨hk, L, _, hf, hb, st.off ho hg, x, hc, es, n, hd⟩
  · exact absurd hc x.notFrame

theorem Stk.fun {T : St} {φ : Phi} {η : H} {h : Heap} : ∀ {l : List Env}, Stk T φ η l h → h.FunFrames T.base l
  | [], _ => trivial
  | env :: rest, x => by
    obtain ⟨hk, L, o, hf, hb, ho, hg, hc, es, n, hd⟩ := x env List.mem_cons_self
    exact ⟨hk, ⟨L, o, hf, hb, hg, fun vs q => by rw [hd] at q; cases q⟩, Stk.fun fun e he => x e (List.mem_cons_of_mem _ he)⟩

/-- what is behind a step: the new state -/
structure Post (T : St) (φ : Phi) (η : H) (s : Shared) (φ' : Phi) (η' : H) (s' : Shared) : Prop where
  step : Step φ η s.heap φ' η' s'.heap
  rel : Rel T φ' η' s'.heap
  gens : s'.gens = s.gens
  os : s'.os = s.os
  drawn : s'.drawn = s.drawn

theorem Post.refl {T : St} {φ : Phi} {η : H} {s : Shared} (R : Rel T φ η s.heap) : Post T φ η s φ η s := ⟨.refl .., R, rfl, rfl, rfl⟩
theorem Post.toks {T : St} {φ : Phi} {η : H} {s : Shared} {k : Nat} (R : Rel T φ η s.heap) : Post T φ η s φ η { s with toks := k } := ⟨.refl .., R, rfl, rfl, rfl⟩
theorem Post.grown {T : St} {φ : Phi} {η : H} {s : Shared} {h' : Heap} {k : Nat} (R : Rel T φ η s.heap) (hk : ∀ b o, s.heap.get? b = some o → h'.get? b = some o) : Post T φ η s φ η { s with heap := h', toks := k } :=
  ⟨.keeps hk, R.keeps hk, rfl, rfl, rfl⟩
theorem Post.mk' {T : St} {φ φ' : Phi} {η η' : H} {s : Shared} {h' : Heap} {k : Nat} (x : Rel T φ' η' h' ∧ Step φ η s.heap φ' η' h') : Post T φ η s φ' η' { s with heap := h', toks := k } := ⟨x.2, x.1, rfl, rfl, rfl⟩
theorem Post.trans {T : St} {φ₁ φ₂ φ₃ : Phi} {η₁ η₂ η₃ : H} {s₁ s₂ s₃ : Shared} (x : Post T φ₁ η₁ s₁ φ₂ η₂ s₂) (y : Post T φ₂ η₂ s₂ φ₃ η₃ s₃) : Post T φ₁ η₁ s₁ φ₃ η₃ s₃ :=
  ⟨x.step.trans y.step, y.rel, y.gens.trans x.gens, y.os.trans x.os, y.drawn.trans x.drawn⟩

/-- an exception on its way through the frame L -/
noncomputable def RZ (T : St) (h : Heap) (e : Addr) (c : Nat) (L : Addr) : Prop :=
  ∃ oe vs a0, h.get? e = some oe ∧ oe.cls = .ref (T.exc c) ∧ oe.data = .fields vs ∧ vs[0]? = some a0 ∧ T.base.get? e = none ∧
    (vs[1]? = some .none ∨ ∃ Tb oT ts, vs[1]? = some (.ref Tb) ∧ Tb ≠ e ∧ T.base.get? Tb = none ∧ h.get? Tb = some oT ∧ oT.cls = .type "traceback" ∧ oT.data = .fields ts ∧ (ts[3]? = some .none ∨ ts[3]? = some (rawInt L)))
noncomputable def XR (T : St) (h : Heap) (e : Value) (c : Nat) (L : Addr) : Prop := ∃ a, e = .ref a ∧ RZ T h a c L

/-- a relation between what the interpreter and what the machine give -/
noncomputable abbrev QR (α β : Type) := Phi → H → Heap → β → α → Prop
noncomputable abbrev QV (T : St) : QR Value V := fun φ η h v x => VR T φ (own φ η) h v x
noncomputable abbrev QVs (T : St) : QR (List Value) (List V) := fun φ η h v x => VRs T φ (own φ η) h v x
noncomputable abbrev QB : QR Bool Bool := fun _ _ _ v x => v = x

/-- a value's end, an exception's end -/
inductive SOk {α β : Type} (T : St) (φ : Phi) (η : H) (s : Shared) (r : R β) (Q : QR α β) (x : α) (s' : Shared) : Prop where
  | mk (v : β) (η' : H) (φ' : Phi) (e : r = .ok v η') (p : Post T φ η s φ' η' s') (q : Q φ' η' s'.heap v x)
inductive SEx {β : Type} (T : St) (L : Addr) (φ : Phi) (η : H) (s : Shared) (r : R β) (e : Value) (s' : Shared) : Prop where
  | mk (c : Nat) (η' : H) (φ' : Phi) (h : r = .exc c η') (p : Post T φ η s φ' η' s') (x : XR T s'.heap e c L)
noncomputable def Sim (T : St) (A : Around) (L : Addr) (φ : Phi) (η : H) (s : Shared) {α β : Type} (t : Sem α) (r : R β) (Q : QR α β) : Prop :=
  r = .fail ∨ wpAny T.M A t (SOk T φ η s r Q) (SEx T L φ η s r) s

section
variable {T : St} {A : Around} {L : Addr} {φ : Phi} {η : H} {s : Shared} {α β γ δ : Type}

theorem Sim.fail {t : Sem α} {Q : QR α β} : Sim T A L φ η s t (.fail : R β) Q := .inl rfl

theorem Sim.ifF {t : Sem α} {c : Prop} {_ : Decidable c} {r : R β} {Q : QR α β} (h : c → Sim T A L φ η s t r Q) : Sim T A L φ η s t (if c then r else .fail) Q := by
  by_cases hc : c
  · rw [if_pos hc]; exact h hc
  · rw [if_neg hc]; exact .fail
/-- an option's value -/
theorem Sim.get {γ : Type} {t : Sem α} {o : Option γ} {f : γ → R V} {Q : QR α V} (h : ∀ x, o = some x → Sim T A L φ η s t (f x) Q) : Sim T A L φ η s t (onSome o f) Q := by
  cases o with
  | none => exact .fail
  | some x => exact h x rfl
theorem Sim.getL {t : Sem α} {o : Option M} {f : List V → R V} {Q : QR α V} (h : ∀ x, o = some (.list x) → Sim T A L φ η s t (f x) Q) : Sim T A L φ η s t (onList o f) Q := by
  cases o with
  | none => exact .fail
  | some x => cases x <;> first | exact h _ rfl | exact .fail
/-- the three ends in turn -/
theorem Sim.elim {t : Sem α} {r : R β} {Q : QR α β} {W : α → Shared → Prop} {E : Value → Shared → Prop} (h : Sim T A L φ η s t r Q) (hf : r ≠ .fail)
    (h1 : ∀ v η' φ' x s', r = .ok v η' → Post T φ η s φ' η' s' → Q φ' η' s'.heap v x → W x s') (h2 : ∀ c η' φ' e s', r = .exc c η' → Post T φ η s φ' η' s' → XR T s'.heap e c L → E e s') : wpAny T.M A t W E s :=
  wpAny_mono (h.resolve_left hf) (fun x s' k => by cases k with | mk v η' φ' e p q => exact h1 v η' φ' x s' e p q) fun e s' k => by cases k with | mk c η' φ' h p x => exact h2 c η' φ' e s' h p x
theorem Sim.intro {t : Sem α} {r : R β} {Q : QR α β} (h : r ≠ .fail → wpAny T.M A t (SOk T φ η s r Q) (SEx T L φ η s r) s) : Sim T A L φ η s t r Q := by
  by_cases hf : r = .fail
  · exact .inl hf
  · exact .inr (h hf)
theorem Sim.from {t : Sem α} {r : R β} {Q : QR α β} {s₁ : Shared} (P0 : Post T φ η s φ η s₁) (h : Sim T A L φ η s₁ t r Q) (hf : r ≠ .fail) : wpAny T.M A t (SOk T φ η s r Q) (SEx T L φ η s r) s₁ :=
  h.elim hf (fun v η' φ' _ _ e p q => ⟨v, η', φ', e, P0.trans p, q⟩) fun c η' φ' _ _ e p x => ⟨c, η', φ', e, P0.trans p, x⟩
theorem bind_bind {r : R β} {g : β → H → R γ} {k : γ → H → R δ} {tot : R δ} (e : (r.bind g).bind k = tot) : r.bind (fun v h => (g v h).bind k) = tot := by subst e; cases r <;> rfl
theorem ifR_nf {c : Prop} {_ : Decidable c} {r tot : R β} (e : (if c then r else .fail) = tot) (hf : tot ≠ .fail) : c ∧ r = tot := by
  by_cases hc : c
  · exact ⟨hc, by rw [if_pos hc] at e; exact e⟩
  · rw [if_neg hc] at e; exact absurd e.symm hf
theorem bind_nf {r : R β} {g : β → H → R δ} {tot : R δ} (e : r.bind g = tot) (hf : tot ≠ .fail) : r ≠ .fail := fun h => by subst h; exact hf e.symm
theorem bind_ok' {r : R β} {g : β → H → R δ} {tot : R δ} {v : β} {h : H} (e : r.bind g = tot) (er : r = .ok v h) : g v h = tot := by subst er; exact e
theorem bind_exc' {r : R β} {g : β → H → R δ} {tot : R δ} {c : Nat} {h : H} (e : r.bind g = tot) (er : r = .exc c h) : tot = .exc c h := by subst er; exact e.symm
theorem Sim.bind {t : Sem α} {k : α → Sem γ} {r : R β} {g : β → H → R δ} {Q₁ : QR α β} {Q₂ : QR γ δ} (h1 : Sim T A L φ η s t r Q₁)
    (h2 : ∀ v η' φ' x s', r = .ok v η' → Post T φ η s φ' η' s' → Q₁ φ' η' s'.heap v x → Sim T A L φ' η' s' (k x) (g v η') Q₂) : Sim T A L φ η s (t >>= k) (r.bind g) Q₂ :=
  .intro fun hf => wpAny_bind (h1.elim (bind_nf rfl hf) (fun v η' φ' x s' e p q => (h2 v η' φ' x s' e p q).elim (fun q => hf ((bind_ok' rfl e).symm.trans q)) (fun v' η'' φ'' y s'' e' p' q' => ⟨v', η'', φ'', (bind_ok' rfl e).symm.trans e', p.trans p', q'⟩) fun c η'' φ'' e₁ s'' e' p' x' => ⟨c, η'', φ'', (bind_ok' rfl e).symm.trans e', p.trans p', x'⟩)
    fun c η' φ' e s' he p x => ⟨c, η', φ', bind_exc' rfl he, p, x⟩)

/-- the interpreter does one step more -/
theorem Sim.then {t : Sem α} {r : R β} {g : β → H → R δ} {Q₁ : QR α β} {Q₂ : QR α δ} (h1 : Sim T A L φ η s t r Q₁)
    (h2 : ∀ v η' φ' x s', r = .ok v η' → Post T φ η s φ' η' s' → Q₁ φ' η' s'.heap v x → g v η' = .fail ∨ ∃ v' η'' φ'', g v η' = .ok v' η'' ∧ Post T φ' η' s' φ'' η'' s' ∧ Q₂ φ'' η'' s'.heap v' x) : Sim T A L φ η s t (r.bind g) Q₂ :=
  .intro fun hf => h1.elim (bind_nf rfl hf) (fun v η' φ' x s' e p q => by
    obtain ⟨v', η'', φ'', e', p', q'⟩ := (h2 v η' φ' x s' e p q).resolve_left fun q => hf ((bind_ok' rfl e).symm.trans q)
    exact ⟨v', η'', φ'', (bind_ok' rfl e).symm.trans e', p.trans p', q'⟩) fun c η' φ' e s' he p x => ⟨c, η', φ', bind_exc' rfl he, p, x⟩

theorem Sim.pure {x : α} {v : β} {Q : QR α β} (R : Rel T φ η s.heap) (h : Q φ η s.heap v x) : Sim T A L φ η s (Pure.pure x) (.ok v η) Q :=
  .inr (wpAny_pure ⟨v, η, φ, rfl, .refl R, h⟩)
theorem Sim.standAt {p : Pos} {k : Unit → Sem α} {r : R β} {Q : QR α β} (h : Sim T A L φ η s (k ()) r Q) : Sim T A L φ η s (PySem.standAt p >>= k) r Q :=
  h.imp id fun h => wpAny_bind (wpAny_standAt h)
theorem Sim.holding {vs : List Value} {t : Sem α} {r : R β} {Q : QR α β} (h : Sim T A L φ η s t r Q) : Sim T A L φ η s (PySem.holding vs t) r Q := h.imp id wpAny_holding
theorem Sim.mono {t : Sem α} {r : R β} {Q Q' : QR α β} (h : Sim T A L φ η s t r Q) (hq : ∀ φ' η' s' v x, r = .ok v η' → Post T φ η s φ' η' s' → Q φ' η' s'.heap v x → Q' φ' η' s'.heap v x) : Sim T A L φ η s t r Q' :=
  h.imp id fun h => wpAny_mono h (fun x s' ⟨v, η', φ', e, hp, q⟩ => ⟨v, η', φ', e, hp, hq φ' η' s' v x e hp q⟩) fun _ _ y => y
/-- an end without exception -/
theorem Sim.ok {t : Sem α} {v : β} {η' : H} {r : R β} {Q : QR α β} (e : r = .ok v η') (h : wpAny T.M A t (fun x s' => ∃ φ', Post T φ η s φ' η' s' ∧ Q φ' η' s'.heap v x) (fun _ _ => False) s) : Sim T A L φ η s t r Q := by
  subst e
  exact .inr (wpAny_mono h (fun x s' ⟨φ', hp, q⟩ => ⟨v, η', φ', rfl, hp, q⟩) fun _ _ y => y.elim)
end
end Mine
end
section
namespace Mine
open PySem PySem.SeqAt

section
variable {T : St} {φ : Phi} {N : Addr → Prop} {h : Heap}

theorem VRs.length : ∀ {xs : List V} {vs : List Value}, VRs T φ N h xs vs → vs.length = xs.length
  | [], _, e => by simp only [VRs] at e; simp [e]
  | x :: xs, _, e => by
    simp only [VRs] at e
    obtain ⟨v, r, rfl, _, h2⟩ := e
    simp [VRs.length h2]
theorem VRs.get : ∀ {xs : List V} {vs : List Value} {i : Nat} {x : V}, VRs T φ N h xs vs → xs[i]? = some x → ∃ v, vs[i]? = some v ∧ VR T φ N h x v
  | [], _, _, _, _, e => by simp at e
  | x :: xs, _, i, y, e, hi => by
    simp only [VRs] at e
    obtain ⟨v, r, rfl, h1, h2⟩ := e
    cases i with
    | zero => simp at hi; subst hi; exact ⟨v, rfl, h1⟩
    | succ i => simpa using VRs.get h2 (by simpa using hi)
theorem VRs.get' : ∀ {xs : List V} {vs : List Value} {i : Nat} {v : Value}, VRs T φ N h xs vs → vs[i]? = some v → ∃ x, xs[i]? = some x ∧ VR T φ N h x v
  | [], _, _, _, e, hi => by simp only [VRs] at e; simp [e] at hi
  | x :: xs, _, i, w, e, hi => by
    simp only [VRs] at e
    obtain ⟨v, r, rfl, h1, h2⟩ := e
    cases i with
    | zero => simp at hi; subst hi; exact ⟨x, rfl, h1⟩
    | succ i => simpa using VRs.get' h2 (by simpa using hi)
theorem VRs.append : ∀ {xs ys : List V} {vs ws : List Value}, VRs T φ N h xs vs → VRs T φ N h ys ws → VRs T φ N h (xs ++ ys) (vs ++ ws)
  | [], _, _, _, e, e' => by simp only [VRs] at e; subst e; exact e'
  | x :: xs, _, _, _, e, e' => by
    simp only [VRs] at e
    obtain ⟨v, r, rfl, h1, h2⟩ := e
    simp only [List.cons_append, VRs]
    exact ⟨v, _, rfl, h1, VRs.append h2 e'⟩
theorem VRs.of_get : ∀ {xs : List V} {vs : List Value}, vs.length = xs.length → (∀ (i : Nat) x v, xs[i]? = some x → vs[i]? = some v → VR T φ N h x v) → VRs T φ N h xs vs
  | [], vs, hl, _ => by simp only [VRs]; exact List.length_eq_zero_iff.mp (by simpa using hl)
  | x :: xs, [], hl, _ => by simp at hl
  | x :: xs, v :: vs, hl, hg => by
    simp only [VRs]
    exact ⟨v, vs, rfl, hg 0 x v rfl rfl, VRs.of_get (by simpa using hl) fun i y w hy hw => hg (i + 1) y w (by simpa using hy) (by simpa using hw)⟩
theorem VRs.drop {xs : List V} {vs : List Value} (k : Nat) (e : VRs T φ N h xs vs) : VRs T φ N h (xs.drop k) (vs.drop k) :=
  .of_get (by simp [e.length]) fun i x v hx hv => by
    rw [List.getElem?_drop] at hx hv
    obtain ⟨w, hw, hr⟩ := e.get hx
    rw [hv] at hw; cases hw; exact hr
theorem VRs.take {xs : List V} {vs : List Value} (k : Nat) (e : VRs T φ N h xs vs) : VRs T φ N h (xs.take k) (vs.take k) :=
  .of_get (by simp [e.length]) fun i x v hx hv => by
    rw [List.getElem?_take] at hx hv
    split at hx
    · rename_i hk
      rw [if_pos hk] at hv
      obtain ⟨w, hw, hr⟩ := e.get hx
      rw [hv] at hw; cases hw; exact hr
    · cases hx
theorem VRs.set {xs : List V} {vs : List Value} {k : Nat} {x : V} {v : Value} (e : VRs T φ N h xs vs) (hr : VR T φ N h x v) : VRs T φ N h (xs.set k x) (vs.set k v) :=
  .of_get (by simp [e.length]) fun i y w hy hw => by
    by_cases q : k = i
    · subst q
      by_cases hk : k < xs.length
      · rw [List.getElem?_set_self hk] at hy
        rw [List.getElem?_set_self (by rw [e.length]; exact hk)] at hw
        cases hy; cases hw; exact hr
      · rw [List.getElem?_eq_none (by simp; omega)] at hy; cases hy
    · rw [List.getElem?_set_ne q] at hy hw
      obtain ⟨w', hw', hr'⟩ := e.get hy
      rw [hw] at hw'; cases hw'; exact hr'
end

theorem eqVs_range : ∀ (xs ys : List V), eqVs xs ys = ((List.range (min xs.length ys.length)).all (fun j => eqV (xs.getD j .none) (ys.getD j .none)) && xs.length == ys.length)
  | [], [] => by simp [eqVs]
  | [], _ :: _ => by simp [eqVs]
  | _ :: _, [] => by simp [eqVs]
  | x :: xs, y :: ys => by
    rw [eqVs, eqVs_range xs ys]
    simp only [List.length_cons, Nat.succ_min_succ, List.range_succ_eq_map, List.all_cons, List.all_map, Function.comp_def, List.getD_cons_zero, List.getD_cons_succ, Bool.and_assoc]
    congr 2
    simp

/-- the shape of a plain value -/
inductive Shp (T : St) (φ : Phi) (N : Addr → Prop) (h : Heap) : Nat → V → Value → Prop
  | none {n : Nat} : Shp T φ N h n .none .none
  | bool {n : Nat} (b : Bool) : Shp T φ N h n (.bool b) (.bool b)
  | int {n : Nat} (i : Int) (t : Tok) : Shp T φ N h n (.int i) (.int i t)
  | str {n : Nat} (s : List Nat) (t : Tok) : Shp T φ N h n (.str s) (.str ⟨s.toArray⟩ t)
  | tup {n : Nat} {xs : List V} {a : Addr} {items : Array Value} {k : Nat} : h.get? a = some (tupO items k) → VRs T φ N h xs items.toList → (∀ x ∈ xs, V.plainN n x = true) → Shp T φ N h (n + 1) (.tup xs) (.ref a)
  | lst {n : Nat} {xs : List V} {a : Addr} {items : Array Value} {k : Nat} : h.get? a = some (listO items k) → VRs T φ N h xs items.toList → (∀ x ∈ xs, V.plainN n x = true) → Shp T φ N h (n + 1) (.lst xs) (.ref a)

theorem shp_of {T : St} {φ : Phi} {N : Addr → Prop} {h : Heap} {n : Nat} {a : V} {x : Value} (p : V.plainN n a = true) (r : VR T φ N h a x) : Shp T φ N h n a x := by
  cases a with
  | none => simp only [VR] at r; subst r; exact .none
  | bool b => simp only [VR] at r; subst r; exact .bool b
  | int i => simp only [VR] at r; obtain ⟨t, rfl⟩ := r; exact .int i t
  | str i => simp only [VR] at r; obtain ⟨t, rfl⟩ := r; exact .str i t
  | tup xs =>
    cases n with
    | zero => simp [V.plainN] at p
    | succ n =>
      simp only [VR] at r
      obtain ⟨a, items, k, rfl, _, hg, hr⟩ := r
      exact .tup hg hr (by simpa [V.plainN] using p)
  | lst xs =>
    cases n with
    | zero => simp [V.plainN] at p
    | succ n =>
      simp only [VR] at r
      obtain ⟨a, items, k, rfl, _, hg, hr⟩ := r
      exact .lst hg hr (by simpa [V.plainN] using p)
  | dct => cases n <;> simp [V.plainN] at p
  | ref _ => cases n <;> simp [V.plainN] at p
  | exc _ => cases n <;> simp [V.plainN] at p

/-- two values of one machine value -/
theorem eqV_same {T : St} {φ : Phi} {N : Addr → Prop} {h : Heap} : ∀ (n : Nat) (a b : V) (x : Value), Shp T φ N h n a x → Shp T φ N h n b x → eqV a b = true := by
  intro n
  induction n with
  | zero =>
    intro a b x ha hb
    cases ha <;> cases hb <;> simp [eqV]
  | succ n ih =>
    intro a b x ha hb
    have seq : ∀ (xs ys : List V) (vs : List Value), (∀ x ∈ xs, V.plainN n x = true) → (∀ x ∈ ys, V.plainN n x = true) → VRs T φ N h xs vs → VRs T φ N h ys vs → eqVs xs ys = true := by
      intro xs
      induction xs with
      | nil => intro ys vs _ _ h1 h2; simp only [VRs] at h1; subst h1; have := h2.length; cases ys with | nil => rfl | cons _ _ => simp at this
      | cons z zs ihz =>
        intro ys vs p1 p2 h1 h2
        simp only [VRs] at h1
        obtain ⟨v, r, rfl, r1, r2⟩ := h1
        cases ys with
        | nil => have := h2.length; simp at this
        | cons y ys =>
          simp only [VRs] at h2
          obtain ⟨v', r', e, r3, r4⟩ := h2
          cases e
          simp only [eqVs, Bool.and_eq_true]
          exact ⟨ih z y v (shp_of (p1 z List.mem_cons_self) r1) (shp_of (p2 y List.mem_cons_self) r3), ihz ys r (fun x hx => p1 x (List.mem_cons_of_mem _ hx)) (fun x hx => p2 x (List.mem_cons_of_mem _ hx)) r2 r4⟩
    cases ha with
    | tup g1 r1 p1 =>
      cases hb with
      | tup g2 r2 p2 => rw [g1] at g2; cases g2; exact seq _ _ _ p1 p2 r1 r2
      | lst g2 r2 p2 => rw [g1] at g2; simp at g2
    | lst g1 r1 p1 =>
      cases hb with
      | tup g2 r2 p2 => rw [g1] at g2; simp at g2
      | lst g2 r2 p2 => rw [g1] at g2; cases g2; exact seq _ _ _ p1 p2 r1 r2
    | none => cases hb; rfl
    | bool => cases hb; simp [eqV]
    | int => cases hb; simp [eqV]
    | str => cases hb; simp [eqV]

theorem isList_of {h : Heap} {a : Addr} {items : Array Value} {k : Nat} (e : h.get? a = some (listO items k)) : h.IsList a items := ⟨_, e, rfl, k, rfl⟩
theorem isTuple_of {h : Heap} {a : Addr} {items : Array Value} {k : Nat} (e : h.get? a = some (tupO items k)) : h.IsTuple a items := ⟨_, e, rfl, k, rfl⟩

theorem str_beq' (s s' : List Nat) : ((⟨s.toArray⟩ : Str) == ⟨s'.toArray⟩) = (s == s') := by
  rw [← str_beq]

section
variable {T : St} {φ : Phi} {N : Addr → Prop} {A : Around} {s : Shared}

structure Eqs (A : Around) (s : Shared) (x y : Value) (b : Bool) : Prop where
  eq : EqAt A s x y b
  rc : RcAt A s x y b
  ne : RcNeAt A s x y (!b)

theorem Eqs.cast {x y : Value} {b b' : Bool} (h : Eqs A s x y b) (e : b = b') : Eqs A s x y b' := e ▸ h

theorem eqs_of : ∀ (n : Nat) (a b : V) (x y : Value) (A : Around), Shp T φ N s.heap n a x → Shp T φ N s.heap n b y → A.units + n < cLine → Eqs A s x y (eqV a b) := by
  intro n
  induction n with
  | zero =>
    intro a b x y A ha hb _
    cases ha with
    | none => cases hb with
      | none => exact ⟨.same _, .none_none, .none_none⟩
      | bool b => exact ⟨.none_bool b, .none_bool b, .none_bool b⟩
      | int b u => exact ⟨.none_int b u, .none_int b u, .none_int b u⟩
      | str b u => exact ⟨.none_str _ u, .none_str _ u, .none_str _ u⟩
    | bool a => cases hb with
      | none => exact ⟨.bool_none a, .bool_none a, .bool_none a⟩
      | bool b => exact ⟨.bool_bool a b, .bool_bool a b, .bool_bool a b⟩
      | int b u => exact ⟨.bool_int a b u, .bool_int a b u, .bool_int a b u⟩
      | str b u => exact ⟨.bool_str a _ u, .bool_str a _ u, .bool_str a _ u⟩
    | int a t => cases hb with
      | none => exact ⟨.int_none a t, .int_none a t, .int_none a t⟩
      | bool b => exact ⟨.int_bool a t b, .int_bool a t b, .int_bool a t b⟩
      | int b u => exact ⟨.int_int a t b u, .int_int a t b u, .int_int a t b u⟩
      | str b u => exact ⟨.int_str a t _ u, .int_str a t _ u, .int_str a t _ u⟩
    | str a t => cases hb with
      | none => exact ⟨.str_none _ t, .str_none _ t, .str_none _ t⟩
      | bool b => exact ⟨.str_bool _ t b, .str_bool _ t b, .str_bool _ t b⟩
      | int b u => exact ⟨.str_int _ t b u, .str_int _ t b u, .str_int _ t b u⟩
      | str b u =>
        refine Eqs.cast ⟨.str_str _ t _ u, .str_str _ t _ u, .str_str _ t _ u⟩ ?_
        rw [str_beq']; rfl
  | succ n ih =>
    intro a b x y A ha hb hu
    have hu' : A.units < cLine := by omega
    have items : ∀ (xs ys : List V) (i1 i2 : Array Value), VRs T φ N s.heap xs i1.toList → VRs T φ N s.heap ys i2.toList → (∀ x ∈ xs, V.plainN n x = true) → (∀ x ∈ ys, V.plainN n x = true) →
        ∀ j (h1 : j < i1.size) (h2 : j < i2.size), EqAt A.in1 s i1[j] i2[j] (eqV (xs.getD j .none) (ys.getD j .none)) := by
      intro xs ys i1 i2 r1 r2 p1 p2 j h1 h2
      have e1 : i1.toList[j]? = some i1[j] := by simp [h1]
      have e2 : i2.toList[j]? = some i2[j] := by simp [h2]
      obtain ⟨x, hx, rx⟩ := r1.get' e1
      obtain ⟨y, hy, ry⟩ := r2.get' e2
      rw [List.getD_eq_getElem?_getD, List.getD_eq_getElem?_getD, hx, hy]
      exact (ih x y _ _ A.in1 (shp_of (p1 x (List.mem_of_getElem? hx)) rx) (shp_of (p2 y (List.mem_of_getElem? hy)) ry) (by show A.units + 1 + n < cLine; omega)).eq
    have len : ∀ (xs : List V) (i1 : Array Value), VRs T φ N s.heap xs i1.toList → i1.size = xs.length := fun xs i1 r => by have := r.length; simpa using this
    cases ha with
    | none => cases hb with
      | none => exact ⟨.same _, .none_none, .none_none⟩
      | bool b => exact ⟨.none_bool b, .none_bool b, .none_bool b⟩
      | int b u => exact ⟨.none_int b u, .none_int b u, .none_int b u⟩
      | str b u => exact ⟨.none_str _ u, .none_str _ u, .none_str _ u⟩
      | tup g _ _ => exact ⟨.none_tuple (isTuple_of g) hu', .none_tuple (isTuple_of g) hu', .none_tuple (isTuple_of g) hu'⟩
      | lst g _ _ => exact ⟨.none_list (isList_of g) hu', .none_list (isList_of g) hu', .none_list (isList_of g) hu'⟩
    | bool a => cases hb with
      | none => exact ⟨.bool_none a, .bool_none a, .bool_none a⟩
      | bool b => exact ⟨.bool_bool a b, .bool_bool a b, .bool_bool a b⟩
      | int b u => exact ⟨.bool_int a b u, .bool_int a b u, .bool_int a b u⟩
      | str b u => exact ⟨.bool_str a _ u, .bool_str a _ u, .bool_str a _ u⟩
      | tup g _ _ => exact ⟨.bool_tuple a (isTuple_of g) hu', .bool_tuple a (isTuple_of g) hu', .bool_tuple a (isTuple_of g) hu'⟩
      | lst g _ _ => exact ⟨.bool_list a (isList_of g) hu', .bool_list a (isList_of g) hu', .bool_list a (isList_of g) hu'⟩
    | int a t => cases hb with
      | none => exact ⟨.int_none a t, .int_none a t, .int_none a t⟩
      | bool b => exact ⟨.int_bool a t b, .int_bool a t b, .int_bool a t b⟩
      | int b u => exact ⟨.int_int a t b u, .int_int a t b u, .int_int a t b u⟩
      | str b u => exact ⟨.int_str a t _ u, .int_str a t _ u, .int_str a t _ u⟩
      | tup g _ _ => exact ⟨.int_tuple a t (isTuple_of g) hu', .int_tuple a t (isTuple_of g) hu', .int_tuple a t (isTuple_of g) hu'⟩
      | lst g _ _ => exact ⟨.int_list a t (isList_of g) hu', .int_list a t (isList_of g) hu', .int_list a t (isList_of g) hu'⟩
    | str a t => cases hb with
      | none => exact ⟨.str_none _ t, .str_none _ t, .str_none _ t⟩
      | bool b => exact ⟨.str_bool _ t b, .str_bool _ t b, .str_bool _ t b⟩
      | int b u => exact ⟨.str_int _ t b u, .str_int _ t b u, .str_int _ t b u⟩
      | str b u =>
        refine Eqs.cast ⟨.str_str _ t _ u, .str_str _ t _ u, .str_str _ t _ u⟩ ?_
        rw [str_beq']; rfl
      | tup g _ _ => exact ⟨.str_tuple _ t (isTuple_of g) hu', .str_tuple _ t (isTuple_of g) hu', .str_tuple _ t (isTuple_of g) hu'⟩
      | lst g _ _ => exact ⟨.str_list _ t (isList_of g) hu', .str_list _ t (isList_of g) hu', .str_list _ t (isList_of g) hu'⟩
    | tup g1 r1 p1 =>
      rename_i xs a i1 k1
      cases hb with
      | none => exact ⟨.tuple_none (isTuple_of g1) hu', .tuple_none (isTuple_of g1) hu', .tuple_none (isTuple_of g1) hu'⟩
      | bool b => exact ⟨.tuple_bool b (isTuple_of g1) hu', .tuple_bool b (isTuple_of g1) hu', .tuple_bool b (isTuple_of g1) hu'⟩
      | int b u => exact ⟨.tuple_int b u (isTuple_of g1) hu', .tuple_int b u (isTuple_of g1) hu', .tuple_int b u (isTuple_of g1) hu'⟩
      | str b u => exact ⟨.tuple_str _ u (isTuple_of g1) hu', .tuple_str _ u (isTuple_of g1) hu', .tuple_str _ u (isTuple_of g1) hu'⟩
      | lst g2 _ _ => exact ⟨.tuple_list (isTuple_of g1) (isList_of g2) hu', .tuple_list (isTuple_of g1) (isList_of g2) hu', .tuple_list (isTuple_of g1) (isList_of g2) hu'⟩
      | tup g2 r2 p2 =>
        rename_i ys b i2 k2
        have it := items xs ys i1 i2 r1 r2 p1 p2
        have e : ((List.range (min i1.size i2.size)).all (fun j => eqV (xs.getD j .none) (ys.getD j .none)) && i1.size == i2.size) = eqV (.tup xs) (.tup ys) := by
          rw [eqV, eqVs_range, len xs i1 r1, len ys i2 r2]
        have rc := RcAt.tuples (isTuple_of g1) (isTuple_of g2) hu' it
        have ne := RcNeAt.tuples (isTuple_of g1) (isTuple_of g2) hu' it
        rw [e] at rc ne
        refine ⟨?_, rc, ne⟩
        by_cases q : a = b
        · subst q
          rw [eqV_same (n + 1) _ _ _ (Shp.tup g1 r1 p1) (Shp.tup g2 r2 p2)]
          exact .same _
        · exact .of_refs q rc
    | lst g1 r1 p1 =>
      rename_i xs a i1 k1
      cases hb with
      | none => exact ⟨.list_none (isList_of g1) hu', .list_none (isList_of g1) hu', .list_none (isList_of g1) hu'⟩
      | bool b => exact ⟨.list_bool b (isList_of g1) hu', .list_bool b (isList_of g1) hu', .list_bool b (isList_of g1) hu'⟩
      | int b u => exact ⟨.list_int b u (isList_of g1) hu', .list_int b u (isList_of g1) hu', .list_int b u (isList_of g1) hu'⟩
      | str b u => exact ⟨.list_str _ u (isList_of g1) hu', .list_str _ u (isList_of g1) hu', .list_str _ u (isList_of g1) hu'⟩
      | tup g2 _ _ => exact ⟨.list_tuple (isList_of g1) (isTuple_of g2) hu', .list_tuple (isList_of g1) (isTuple_of g2) hu', .list_tuple (isList_of g1) (isTuple_of g2) hu'⟩
      | lst g2 r2 p2 =>
        rename_i ys b i2 k2
        have it := items xs ys i1 i2 r1 r2 p1 p2
        have both : RcAt A s (.ref a) (.ref b) (eqV (.lst xs) (.lst ys)) ∧ RcNeAt A s (.ref a) (.ref b) (!eqV (.lst xs) (.lst ys)) := by
          by_cases hsz : i1.size = i2.size
          · have e : ((List.range i1.size).all (fun j => eqV (xs.getD j .none) (ys.getD j .none))) = eqV (.lst xs) (.lst ys) := by
              rw [eqV, eqVs_range, ← len xs i1 r1, ← len ys i2 r2, hsz]; simp
            have rc := RcAt.lists (isList_of g1) (isList_of g2) hsz hu' it
            have ne := RcNeAt.lists (isList_of g1) (isList_of g2) hsz hu' it
            rw [e] at rc ne
            exact ⟨rc, ne⟩
          · have e : eqV (.lst xs) (.lst ys) = false := by
              rw [eqV, eqVs_range, ← len xs i1 r1, ← len ys i2 r2]; simp [hsz]
            have hne : (i1.size != i2.size) = true := by simpa using hsz
            rw [e]
            exact ⟨RcAt.lists_lengths (isList_of g1) (isList_of g2) hne hu', RcNeAt.lists_lengths (isList_of g1) (isList_of g2) hne hu'⟩
        refine ⟨?_, both.1, both.2⟩
        by_cases q : a = b
        · subst q
          rw [eqV_same (n + 1) _ _ _ (Shp.lst g1 r1 p1) (Shp.lst g2 r2 p2)]
          exact .same _
        · exact .of_refs q both.1
end
end Mine
end
section
namespace Mine
open PySem PySem.SeqAt PyProof.Rows

section
variable {T : St} {φ : Phi} {η : H} {h : Heap}
theorem list_view (R : Rel T φ η h) {v : V} {x : Value} {xs : List V} (e : listOf η v = some xs) (r : VR T φ (own φ η) h v x) :
    ∃ a items k, x = .ref a ∧ h.get? a = some (listO items k) ∧ VRs T φ (own φ η) h xs items.toList := by
  unfold listOf at e
  split at e
  · cases e
    simp only [VR] at r
    obtain ⟨a, items, k, rfl, _, hg, hr⟩ := r
    exact ⟨a, items, k, rfl, hg, hr⟩
  · split at e
    · rename_i n _ ys hn
      cases e
      simp only [VR] at r
      obtain ⟨p, hp, rfl⟩ := r
      obtain ⟨_, items, k, hg, hr⟩ := R.obj n _ p hn hp
      exact ⟨p.1, items, k, rfl, hg, hr⟩
    · cases e
  · cases e
theorem deref_lst {v : V} {xs : List V} (e : deref η v = .lst xs) : listOf η v = some xs := by
  unfold deref at e
  split at e
  · split at e
    · rename_i n ys hn; cases e; simp [listOf, hn]
    · cases e
  · subst e; rfl
theorem deref_int {v : V} {i : Int} (e : deref η v = .int i) : v = .int i := by
  unfold deref at e
  split at e
  · split at e <;> cases e
  · exact e
theorem deref_str {v : V} {i : List Nat} (e : deref η v = .str i) : v = .str i := by
  unfold deref at e
  split at e
  · split at e <;> cases e
  · exact e
theorem deref_tup {v : V} {i : List V} (e : deref η v = .tup i) : v = .tup i := by
  unfold deref at e
  split at e
  · split at e <;> cases e
  · exact e
theorem fresh_size (R : Rel T φ η h) : ¬ own φ η h.objs.size := fun o => by
  obtain ⟨ob, e, _⟩ := R.there o
  exact Nat.lt_irrefl _ (Heap.lt_size e)
theorem push_keeps (o : Obj) : ∀ b ob, h.get? b = some ob → (h.push o).get? b = some ob := fun _ _ e => Heap.get?_push_of_some o e
end

section
variable {T : St} {A : Around} {L : Addr} {φ : Phi} {η : H} {s : Shared}

/-- a new list -/
theorem mk_list (mu : Bool) (R : Rel T φ η s.heap) {items : Array Value} {xs : List V} (hv : VRs T φ (own φ η) s.heap xs items.toList) (k : Nat) :
    ∃ v η' φ', mkList mu xs η = .ok v η' ∧ Post T φ η s φ' η' { s with heap := s.heap.push (listO items 0), toks := k } ∧ VR T φ' (own φ' η') (s.heap.push (listO items 0)) v (.ref s.heap.objs.size) := by
  have hg : (s.heap.push (listO items 0)).get? s.heap.objs.size = some (listO items 0) := Heap.get?_push_size _ rfl
  have st : Step φ η s.heap φ η (s.heap.push (listO items 0)) := .keeps (push_keeps _)
  cases mu with
  | false =>
    refine ⟨.lst xs, η, φ, rfl, .grown R (push_keeps _), ?_⟩
    simp only [VR]
    exact ⟨_, items, 0, rfl, fresh_size R, hg, VRs.step st _ _ hv⟩
  | true =>
    have none : s.heap.get? s.heap.objs.size = none := Heap.get?_none_of_le (Nat.le_refl _)
    have x := R.add (m := .list xs) (p := (s.heap.objs.size, s.heap.objs.size)) (push_keeps (listO items 0)) none none R.high R.high
      (fun st => ⟨rfl, items, 0, hg, VRs.step st _ _ hv⟩)
    refine ⟨.ref η.length, _, _, rfl, .mk' x, ?_⟩
    simp only [VR]
    exact ⟨(s.heap.objs.size, s.heap.objs.size), by rw [← R.len, List.getElem?_append_right (Nat.le_refl _)]; simp, rfl⟩
theorem mk_tup (R : Rel T φ η s.heap) {items : Array Value} {xs : List V} (hv : VRs T φ (own φ η) s.heap xs items.toList) (k : Nat) :
    Post T φ η s φ η { s with heap := s.heap.push (tupO items 0), toks := k } ∧ VR T φ (own φ η) (s.heap.push (tupO items 0)) (.tup xs) (.ref s.heap.objs.size) := by
  have hg : (s.heap.push (tupO items 0)).get? s.heap.objs.size = some (tupO items 0) := Heap.get?_push_size _ rfl
  have st : Step φ η s.heap φ η (s.heap.push (tupO items 0)) := .keeps (push_keeps _)
  refine ⟨.grown R (push_keeps _), ?_⟩
  simp only [VR]
  exact ⟨_, items, 0, rfl, fresh_size R, hg, VRs.step st _ _ hv⟩
/-- the frozen reading of it -/
theorem mk_lst (R : Rel T φ η s.heap) {items : Array Value} {xs : List V} (hv : VRs T φ (own φ η) s.heap xs items.toList) (k : Nat) :
    Post T φ η s φ η { s with heap := s.heap.push (listO items 0), toks := k } ∧ VR T φ (own φ η) (s.heap.push (listO items 0)) (.lst xs) (.ref s.heap.objs.size) := by
  obtain ⟨v, η', φ', e, p, r⟩ := mk_list false R hv k
  simp only [mkList, Bool.false_eq_true, if_false] at e
  cases e
  have hg : (s.heap.push (listO items 0)).get? s.heap.objs.size = some (listO items 0) := Heap.get?_push_size _ rfl
  have st : Step φ η s.heap φ η (s.heap.push (listO items 0)) := .keeps (push_keeps _)
  refine ⟨.grown R (push_keeps _), ?_⟩
  simp only [VR]
  exact ⟨_, items, 0, rfl, fresh_size R, hg, VRs.step st _ _ hv⟩

noncomputable def opOf : Op → Operator
  | .add => .Add | .sub => .Sub | .mul => .Mult | .div => .FloorDiv | .mod => .Mod

theorem len_items {xs : List V} {items : Array Value} {N : Addr → Prop} {hh : Heap} (r : VRs T φ N hh xs items.toList) : items.size = xs.length := by have := r.length; simpa using this

theorem ok_int {i : Int} (h : okInt i = true) : -(2 ^ 63) ≤ i ∧ i < 2 ^ 63 := by
  unfold okInt at h
  simp only [Bool.and_eq_true, decide_eq_true_eq] at h
  exact h

theorem bits64 {i : Int} (h : okInt i = true) : Builtin.Int.intBits i ≤ 64 := by
  have hi := ok_int h
  unfold Builtin.Int.intBits
  split
  · omega
  · rename_i h0
    have hne : i.natAbs ≠ 0 := fun q => h0 (by simp; omega)
    have : i.natAbs.log2 < 64 := (Nat.log2_lt hne).mpr (by omega)
    omega

theorem foldl_flat : ∀ (n : Nat) (items acc : Array Value), (List.foldl (fun x1 x2 => x1 ++ x2) acc (List.replicate n items)).toList = acc.toList ++ (List.replicate n items.toList).flatten
  | 0, _, _ => by simp
  | n + 1, items, acc => by
    rw [List.replicate_succ, List.foldl_cons, foldl_flat n items (acc ++ items), List.replicate_succ, List.flatten_cons]
    simp
theorem vrs_rep {xs : List V} {vs : List Value} {N : Addr → Prop} {hh : Heap} (r : VRs T φ N hh xs vs) : ∀ n : Nat, VRs T φ N hh (List.replicate n xs).flatten (List.replicate n vs).flatten
  | 0 => by simp only [List.replicate_zero, List.flatten_nil, VRs]
  | n + 1 => by
    simp only [List.replicate_succ, List.flatten_cons]
    exact r.append (vrs_rep r n)
theorem rep_flat {xs : List V} {items : Array Value} {N : Addr → Prop} {hh : Heap} (r : VRs T φ N hh xs items.toList) (n : Nat) :
    VRs T φ N hh (List.replicate n xs).flatten (List.foldl (fun x1 x2 => x1 ++ x2) #[] (List.replicate (if items.isEmpty = true then 0 else n) items)).toList := by
  rw [foldl_flat]
  by_cases he : items.isEmpty = true
  · rw [if_pos he]
    have h0 : items.toList = [] := by
      have : items = #[] := by simpa using he
      rw [this]
    rw [h0] at r
    have hx : xs = [] := by
      have := r.length
      cases xs with
      | nil => rfl
      | cons _ _ => simp at this
    subst hx
    simp [VRs]
  · rw [if_neg he]
    simpa using vrs_rep r n

theorem str_app (a b : List Nat) : (⟨a.toArray⟩ : Str) ++ (⟨b.toArray⟩ : Str) = ⟨(a ++ b).toArray⟩ := by
  show (⟨a.toArray ++ b.toArray⟩ : Str) = _
  simp
theorem str_len (a : List Nat) : (⟨a.toArray⟩ : Str).length = a.length := by simp [Str.length]
theorem line_le {n : Nat} (h : n ≤ 100000) : n ≤ sizeLine := Nat.le_trans h (by decide)

theorem sim_add {a b : V} {x y : Value} (R : Rel T φ η s.heap) (ha : QV T φ η s.heap a x) (hb : QV T φ η s.heap b y) : Sim T A L φ η s (binaryOp .Add x y) (addV η (deref η a) (deref η b)) (QV T) := by
  generalize e1 : deref η a = a'
  generalize e2 : deref η b = b'
  cases a' with
  | int i =>
    cases b' with
    | int j =>
      have := deref_int e1; have := deref_int e2; subst_vars
      simp only [QV, VR] at ha hb
      obtain ⟨t, rfl⟩ := ha; obtain ⟨u, rfl⟩ := hb
      exact .ok rfl (wpAny_add_int ⟨φ, .toks R, by simp only [QV, VR]; exact ⟨_, rfl⟩⟩)
    | _ => exact .fail
  | str i =>
    cases b' with
    | str j =>
      have := deref_str e1; have := deref_str e2; subst_vars
      simp only [QV, VR] at ha hb
      obtain ⟨t, rfl⟩ := ha; obtain ⟨u, rfl⟩ := hb
      refine Sim.ifF fun hsz => ?_
      refine .ok rfl (SB.add (fun t' k => ⟨φ, .toks R, ?_⟩) ?_)
      · simp only [QV, VR]; exact ⟨t', by rw [str_app]⟩
      · rw [str_len, str_len]; exact line_le hsz
    | _ => exact .fail
  | lst i =>
    cases b' with
    | lst j =>
      obtain ⟨p, i1, k1, rfl, g1, r1⟩ := list_view R (deref_lst e1) ha
      obtain ⟨q, i2, k2, rfl, g2, r2⟩ := list_view R (deref_lst e2) hb
      refine Sim.ifF fun hsz => ?_
      have hv := mk_lst R (items := i1 ++ i2) (by simpa using r1.append r2) s.toks
      exact .ok rfl (P.add_list g1 g2 ⟨φ, hv.1, hv.2⟩ (by rw [len_items r1, len_items r2]; exact line_le hsz))
    | _ => exact .fail
  | tup xs =>
    cases b' with
    | tup ys =>
      have := deref_tup e1; have := deref_tup e2; subst_vars
      simp only [QV, VR] at ha hb
      obtain ⟨p, i1, k1, rfl, n1, g1, r1⟩ := ha; obtain ⟨q, i2, k2, rfl, n2, g2, r2⟩ := hb
      refine Sim.ifF fun hsz => ?_
      have hsz' : i1.size + i2.size ≤ sizeLine := by rw [len_items r1, len_items r2]; exact line_le hsz
      by_cases h1 : i1.isEmpty = true
      · have hx : xs = [] := by
          have := len_items r1
          have h0 : i1 = #[] := by simpa using h1
          rw [h0] at this
          exact List.length_eq_zero_iff.mp (by simpa using this.symm)
        subst hx
        refine .ok rfl (concat_meets ⟨_, g1, rfl⟩ ⟨_, g2, rfl⟩ noFill_tuple_add seq_tuple_add F.slot_tuple_add F.entry_tuple_add (F.args_tuple_add_2 _ _) (AutoSeq1.tuple___add___tuple_tuple_0 p i1 k1 q i2 k2 h1) ⟨g1, g2, ⟨φ, .toks R, ?_⟩⟩)
        simp only [QV, VR, List.nil_append]; exact ⟨q, i2, k2, rfl, n2, g2, r2⟩
      · by_cases h2 : i2.isEmpty = true
        · have hx : ys = [] := by
            have := len_items r2
            have h0 : i2 = #[] := by simpa using h2
            rw [h0] at this
            exact List.length_eq_zero_iff.mp (by simpa using this.symm)
          subst hx
          refine .ok rfl (concat_meets ⟨_, g1, rfl⟩ ⟨_, g2, rfl⟩ noFill_tuple_add seq_tuple_add F.slot_tuple_add F.entry_tuple_add (F.args_tuple_add_2 _ _) (AutoSeq1.tuple___add___tuple_tuple_1 p i1 k1 q i2 k2 h1 h2) ⟨g1, g2, ⟨φ, .toks R, ?_⟩⟩)
          simp only [QV, VR, List.append_nil]; exact ⟨p, i1, k1, rfl, n1, g1, r1⟩
        · have hv := mk_tup R (items := i1 ++ i2) (by simpa using r1.append r2) s.toks
          exact .ok rfl (P.add_tuple g1 g2 h1 h2 ⟨φ, hv.1, hv.2⟩ hsz')
    | _ => exact .fail
  | _ => exact .fail

theorem sim_sub {a b : V} {x y : Value} (R : Rel T φ η s.heap) (ha : QV T φ η s.heap a x) (hb : QV T φ η s.heap b y) : Sim T A L φ η s (binaryOp .Sub x y) (subV η (deref η a) (deref η b)) (QV T) := by
  generalize e1 : deref η a = a'
  generalize e2 : deref η b = b'
  cases a' with
  | int i =>
    cases b' with
    | int j =>
      have := deref_int e1; have := deref_int e2; subst_vars
      simp only [QV, VR] at ha hb
      obtain ⟨t, rfl⟩ := ha; obtain ⟨u, rfl⟩ := hb
      exact .ok rfl (sub_int' ⟨φ, .toks R, by simp only [QV, VR]; exact ⟨_, rfl⟩⟩)
    | _ => exact .fail
  | _ => exact .fail

theorem sim_mul {a b : V} {x y : Value} (R : Rel T φ η s.heap) (ha : QV T φ η s.heap a x) (hb : QV T φ η s.heap b y) : Sim T A L φ η s (binaryOp .Mult x y) (mulV η (deref η a) (deref η b)) (QV T) := by
  generalize e1 : deref η a = a'
  generalize e2 : deref η b = b'
  cases b' with
  | int j =>
    cases a' with
    | int i =>
      have := deref_int e1; have := deref_int e2; subst_vars
      simp only [QV, VR] at ha hb
      obtain ⟨t, rfl⟩ := ha; obtain ⟨u, rfl⟩ := hb
      refine Sim.ifF fun hm => ?_
      refine .ok rfl (mul_int ⟨φ, .toks R, by simp only [QV, VR]; exact ⟨_, rfl⟩⟩ ?_)
      rcases Bool.or_eq_true_iff.mp hm with q | q
      · exact .of_left (bits64 q)
      · exact .of_right (bits64 q)
    | str i =>
      have := deref_str e1; have := deref_int e2; subst_vars
      simp only [QV, VR] at ha hb
      obtain ⟨t, rfl⟩ := ha; obtain ⟨u, rfl⟩ := hb
      show Sim _ _ _ _ _ _ _ (ite _ _ (ite _ _ _)) _
      split
      · rename_i h0; subst h0
        refine .ok rfl (SB.mul ⟨by decide, fun q => absurd (by decide) q, fun q => absurd (by decide) q⟩ fun t' k => ⟨φ, .toks R, ?_⟩)
        simp only [QV, VR]; exact ⟨t', rfl⟩
      · split
        · rename_i h1; subst h1
          refine .ok rfl (SB.mul ⟨by decide, fun _ q => by simp at q, fun _ q => by simp at q⟩ fun t' k => ⟨φ, .toks R, ?_⟩)
          simp only [QV, VR]; exact ⟨t', by simp [Txt.mul]⟩
        · exact .fail
    | lst xs =>
      obtain ⟨p, i1, k1, rfl, g1, r1⟩ := list_view R (deref_lst e1) ha
      have := deref_int e2; subst_vars
      simp only [QV, VR] at hb
      obtain ⟨u, rfl⟩ := hb
      refine Sim.ifF fun hm => ?_
      rw [Bool.and_eq_true, decide_eq_true_eq] at hm
      obtain ⟨hok, hsz⟩ := hm
      have hi := ok_int hok
      have hv := mk_lst R (rep_flat r1 j.toNat) s.toks
      have hz : i1.size * j.toNat ≤ 100000 := by rw [len_items r1]; exact hsz
      refine .ok rfl (wpAny_binaryOp_repeat_ref (T := "list") (U := "int") (by decide) ⟨_, g1, rfl⟩ (fun s' => typeIs_int s' j u) noFill_list_mul F.fills_int_mul F.slot_int_rmul repeat_list F.slot_int_index.lookup
        (call_meets F.slot_int_rmul (typeIs_int s j u) F.entry_int_rmul (F.args_int_rmul_2 _ _) (int___rmul___int_list j u p i1 k1)
          ⟨g1, rfl, ⟨_, g1, rfl⟩, call_meets F.slot_list_mul ⟨_, g1, rfl⟩ F.entry_list_mul (F.args_list_mul_2 _ _)
            (AutoListH.list___mul___list_int_3 p i1 k1 j u (by simp [Builtin.List.listFitsIndex]; omega) (by omega) (by simp [Builtin.List.listTooLong, sizeLine]; omega))
            ⟨g1, ⟨φ, hv.1, hv.2⟩⟩⟩))
    | _ => exact .fail
  | _ => exact .fail

theorem sim_div {a b : V} {x y : Value} (R : Rel T φ η s.heap) (ha : QV T φ η s.heap a x) (hb : QV T φ η s.heap b y) : Sim T A L φ η s (binaryOp .FloorDiv x y) (divV η (deref η a) (deref η b)) (QV T) := by
  generalize e1 : deref η a = a'
  generalize e2 : deref η b = b'
  cases a' with
  | int i =>
    cases b' with
    | int j =>
      have := deref_int e1; have := deref_int e2; subst_vars
      simp only [QV, VR] at ha hb
      obtain ⟨t, rfl⟩ := ha; obtain ⟨u, rfl⟩ := hb
      refine Sim.ifF fun hd => ?_
      exact .ok rfl (floordiv_int hd.1 ⟨φ, .toks R, by simp only [QV, VR]; exact ⟨_, rfl⟩⟩ (.inl (PyProof.noPylong_small hd.2)))
    | _ => exact .fail
  | _ => exact .fail

theorem sim_mod {a b : V} {x y : Value} (R : Rel T φ η s.heap) (ha : QV T φ η s.heap a x) (hb : QV T φ η s.heap b y) : Sim T A L φ η s (binaryOp .Mod x y) (modV η (deref η a) (deref η b)) (QV T) := by
  generalize e1 : deref η a = a'
  generalize e2 : deref η b = b'
  cases a' with
  | int i =>
    cases b' with
    | int j =>
      have := deref_int e1; have := deref_int e2; subst_vars
      simp only [QV, VR] at ha hb
      obtain ⟨t, rfl⟩ := ha; obtain ⟨u, rfl⟩ := hb
      refine Sim.ifF fun hd => ?_
      exact .ok rfl (mod_int' hd ⟨φ, .toks R, by simp only [QV, VR]; exact ⟨_, rfl⟩⟩)
    | _ => exact .fail
  | _ => exact .fail

theorem sim_bin (op : Op) {a b : V} {x y : Value} (R : Rel T φ η s.heap) (ha : QV T φ η s.heap a x) (hb : QV T φ η s.heap b y) : Sim T A L φ η s (binaryOp (opOf op) x y) (binV op η a b) (QV T) := by
  cases op with
  | add => exact sim_add R ha hb
  | sub => exact sim_sub R ha hb
  | mul => exact sim_mul R ha hb
  | div => exact sim_div R ha hb
  | mod => exact sim_mod R ha hb
end
end Mine
end
section
namespace Mine
open PySem PySem.SeqAt PyProof.Rows

/-- a plain value is told by its machine value -/
theorem Shp.inj {T : St} {φ : Phi} {N : Addr → Prop} {h : Heap} : ∀ (n : Nat) (a b : V) (x : Value), Shp T φ N h n a x → Shp T φ N h n b x → a = b := by
  intro n
  induction n with
  | zero =>
    intro a b x ha hb
    cases ha <;> cases hb <;> rfl
  | succ n ih =>
    intro a b x ha hb
    have seq : ∀ (xs ys : List V) (vs : List Value), (∀ x ∈ xs, V.plainN n x = true) → (∀ x ∈ ys, V.plainN n x = true) → VRs T φ N h xs vs → VRs T φ N h ys vs → xs = ys := by
      intro xs
      induction xs with
      | nil => intro ys vs _ _ h1 h2; simp only [VRs] at h1; subst h1; have := h2.length; cases ys with | nil => rfl | cons _ _ => simp at this
      | cons z zs ihz =>
        intro ys vs p1 p2 h1 h2
        simp only [VRs] at h1
        obtain ⟨v, r, rfl, r1, r2⟩ := h1
        cases ys with
        | nil => have := h2.length; simp at this
        | cons y ys =>
          simp only [VRs] at h2
          obtain ⟨v', r', e, r3, r4⟩ := h2
          cases e
          rw [ih z y v (shp_of (p1 z List.mem_cons_self) r1) (shp_of (p2 y List.mem_cons_self) r3), ihz ys r (fun x hx => p1 x (List.mem_cons_of_mem _ hx)) (fun x hx => p2 x (List.mem_cons_of_mem _ hx)) r2 r4]
    cases ha with
    | tup g1 r1 p1 =>
      cases hb with
      | tup g2 r2 p2 => rw [g1] at g2; cases g2; rw [seq _ _ _ p1 p2 r1 r2]
      | lst g2 r2 p2 => rw [g1] at g2; simp at g2
    | lst g1 r1 p1 =>
      cases hb with
      | tup g2 r2 p2 => rw [g1] at g2; simp at g2
      | lst g2 r2 p2 => rw [g1] at g2; cases g2; rw [seq _ _ _ p1 p2 r1 r2]
    | none => cases hb; rfl
    | bool => cases hb; rfl
    | int => cases hb; rfl
    | str => cases hb; rfl

/-- what an item of a list is, by its machine value -/
noncomputable def itemBy (xs : List V) (items : List Value) (y : Value) : V := ((items.zip xs).lookup y).getD .none

section
variable {T : St} {φ : Phi} {N : Addr → Prop} {h : Heap}
theorem itemBy_get : ∀ {xs : List V} {vs : List Value} {i : Nat} {v : Value} {x : V}, VRs T φ N h xs vs → (∀ x ∈ xs, x.plain = true) → vs[i]? = some v → xs[i]? = some x → itemBy xs vs v = x
  | [], _, _, _, _, _, _, _, hx => by simp at hx
  | z :: zs, _, i, v, x, r, p, hv, hx => by
    have hx0 : x.plain = true := p x (List.mem_of_getElem? hx)
    have rx : VR T φ N h x v := by
      obtain ⟨w, hw, hr⟩ := r.get hx
      rw [hv] at hw; cases hw; exact hr
    simp only [VRs] at r
    obtain ⟨v', r', rfl, r1, r2⟩ := r
    unfold itemBy
    simp only [List.zip_cons_cons, List.lookup_cons]
    by_cases e : v = v'
    · subst e
      simp only [beq_self_eq_true]
      exact Shp.inj 6 _ _ _ (shp_of (p z List.mem_cons_self) r1) (shp_of hx0 rx)
    · have : (v == v') = false := by simpa using e
      rw [this]
      cases i with
      | zero => simp at hv; exact absurd hv.symm e
      | succ i => exact itemBy_get r2 (fun y hy => p y (List.mem_cons_of_mem _ hy)) (by simpa using hv) (by simpa using hx)
theorem any_itemBy {xs : List V} {items : Array Value} {a : V} (r : VRs T φ N h xs items.toList) (p : ∀ x ∈ xs, x.plain = true) : items.any (fun y => eqV (itemBy xs items.toList y) a) = xs.any fun x => eqV x a := by
  rw [Bool.eq_iff_iff, ← Array.any_toList, List.any_eq_true, List.any_eq_true]
  constructor
  · rintro ⟨y, hy, he⟩
    obtain ⟨i, hi⟩ := List.mem_iff_getElem?.mp hy
    obtain ⟨x, hx, _⟩ := r.get' hi
    rw [itemBy_get r p hi hx] at he
    exact ⟨x, List.mem_of_getElem? hx, he⟩
  · rintro ⟨x, hx, he⟩
    obtain ⟨i, hi⟩ := List.mem_iff_getElem?.mp hx
    obtain ⟨y, hy, _⟩ := r.get hi
    exact ⟨y, List.mem_of_getElem? hy, by rw [itemBy_get r p hy hi]; exact he⟩
end

section
variable {T : St} {A : Around} {L : Addr} {φ : Phi} {η : H} {s : Shared}

theorem shp_deref (R : Rel T φ η s.heap) {a : V} {x : Value} (p : (deref η a).plain = true) (r : VR T φ (own φ η) s.heap a x) : Shp T φ (own φ η) s.heap 6 (deref η a) x := by
  by_cases hl : ∃ xs, listOf η a = some xs ∧ deref η a = .lst xs
  · obtain ⟨xs, e1, e2⟩ := hl
    obtain ⟨q, items, k, rfl, g, r'⟩ := list_view R e1 r
    rw [e2] at p ⊢
    exact .lst g r' (by simpa [V.plain, V.plainN] using p)
  · have e : deref η a = a := by
      unfold deref
      split
      · split
        · rename_i n xs hn
          exact absurd ⟨xs, by simp [listOf, hn], by simp [deref, hn]⟩ hl
        · rfl
      · rfl
    rw [e] at p ⊢
    exact shp_of p r

theorem eqAt_items (_R : Rel T φ η s.heap) (hu : A.units + 7 < cLine) {xs : List V} {items : Array Value} {a : V} {x : Value} (r : VRs T φ (own φ η) s.heap xs items.toList) (p : ∀ x ∈ xs, x.plain = true) (pa : a.plain = true) (ra : VR T φ (own φ η) s.heap a x) :
    ∀ y, y ∈ items → EqAt A.in1 s y x (eqV (itemBy xs items.toList y) a) := fun y hy => by
  obtain ⟨i, hi⟩ := List.mem_iff_getElem?.mp (Array.mem_toList_iff.mpr hy)
  obtain ⟨z, hz, rz⟩ := r.get' hi
  rw [itemBy_get r p hi hz]
  exact (eqs_of 6 z a y x A.in1 (shp_of (p z (List.mem_of_getElem? hz)) rz) (shp_of pa ra) (by show A.units + 1 + 6 < cLine; omega)).eq

noncomputable def copOf : COp → CmpOp
  | .eq => .Eq | .ne => .NotEq | .lt => .Lt | .le => .LtE | .gt => .Gt | .ge => .GtE | .isIn => .In | .notIn => .NotIn | .is => .Is | .isNot => .IsNot

theorem cmp_ok {t : Sem Value} {o : Option Bool} (h : ∀ b, o = some b → ∀ Q : Value → Shared → Prop, (∀ k, Q (.bool b) { s with toks := k }) → wpAny T.M A t Q (fun _ _ => False) s) (R : Rel T φ η s.heap) :
    Sim T A L φ η s t (match o with | some b => .ok (.bool b) η | none => .fail) (QV T) := by
  cases o with
  | none => exact .fail
  | some b => exact .ok rfl (h b rfl _ fun k => ⟨φ, .toks R, by simp only [QV, VR]⟩)

theorem find_map (kvs : List (Int × Value)) (k : Int) : (valueAt kvs k).isSome = kvs.any fun p => p.1 == k := by
  unfold valueAt
  induction kvs with
  | nil => rfl
  | cons p r ih =>
    simp only [List.find?_cons, List.any_cons]
    by_cases e : p.1 = k
    · simp [e]
    · have h1 : (p.1 == k) = false := by simpa using e
      simp [e, h1, ih]

theorem mem_cmp {a b : V} {x y : Value} (R : Rel T φ η s.heap) (ha : QV T φ η s.heap a x) (hb : QV T φ η s.heap b y) (hu : A.units + 7 < cLine) {r : Bool} (e : memV η a b = some r) (Q : Value → Shared → Prop) :
    ((∀ k, Q (.bool r) { s with toks := k }) → wpAny T.M A (compareOp .In x y) Q (fun _ _ => False) s) ∧ ((∀ k, Q (.bool (!r)) { s with toks := k }) → wpAny T.M A (compareOp .NotIn x y) Q (fun _ _ => False) s) := by
  have seqL : ∀ (l : Addr) (xs : List V) (items : Array Value) (k : Nat), y = .ref l → s.heap.get? l = some (listO items k) → VRs T φ (own φ η) s.heap xs items.toList → (a.plain && xs.all V.plain) = true → r = xs.any (fun z => eqV z a) →
      ((∀ k, Q (.bool r) { s with toks := k }) → wpAny T.M A (compareOp .In x y) Q (fun _ _ => False) s) ∧ ((∀ k, Q (.bool (!r)) { s with toks := k }) → wpAny T.M A (compareOp .NotIn x y) Q (fun _ _ => False) s) := by
    intro l xs items k hy g rr hp hr
    rw [Bool.and_eq_true] at hp
    have pp : ∀ x ∈ xs, x.plain = true := by simpa using hp.2
    have it := eqAt_items R hu rr pp hp.1 ha
    subst hy
    have an := any_itemBy (a := a) rr pp
    rw [← an] at hr
    subst hr
    exact ⟨fun h => in_listAt _ (isList_of g) it (h s.toks), fun h => notIn_listAt _ (isList_of g) it (h s.toks)⟩
  unfold memV at e
  split at e
  · split at e
    · simp only [QV, VR] at ha hb
      obtain ⟨t, rfl⟩ := ha; obtain ⟨u, rfl⟩ := hb
      cases e
      rename_i sg _ c
      have f : Txt.contains ⟨sg.toArray⟩ ⟨[c].toArray⟩ = sg.contains c := by
        show (!(Builtin.Str.occurrences ⟨sg.toArray⟩ ⟨#[c]⟩ 0 _ 1).isEmpty) = _
        rw [StrLaws.found_one]; simp
      rw [← f]
      exact ⟨fun h => SB.contains (h s.toks), fun h => SB.notContains (h s.toks)⟩
    · cases e
  · rename_i n
    split at e
    · rename_i xs hn
      split at e
      · rename_i hp
        cases e
        simp only [QV, VR] at hb
        obtain ⟨p, hpn, rfl⟩ := hb
        obtain ⟨_, items, k, hg, hr⟩ := R.obj n _ p hn hpn
        exact seqL p.1 xs items k rfl hg hr hp rfl
      · cases e
    · rename_i es hn
      split at e
      · rename_i k
        cases e
        simp only [QV, VR] at hb ha
        obtain ⟨p, hpn, rfl⟩ := hb
        obtain ⟨t, rfl⟩ := ha
        obtain ⟨_, kvs, hd, hk, _⟩ := R.obj n _ p hn hpn
        have own1 : own φ η p.1 := ⟨n, p, _, hpn, hn, by simp, .inl rfl⟩
        have hs : (p.1 == sysModules) = false := by
          have h1 := (R.fresh _ own1).2
          have h2 : sysModules < cStatics := by decide
          have h3 : p.1 ≠ sysModules := Nat.ne_of_gt (Nat.lt_trans h2 h1)
          simpa using h3
        have hm : es.any (fun q => q.1 == k) = (valueAt kvs k).isSome := by
          rw [find_map]
          have a1 : ∀ l : List (Int × V), l.any (fun q => q.1 == k) = (l.map (·.1)).any (· == k) := fun l => by rw [List.any_map]; rfl
          have a2 : ∀ l : List (Int × Value), l.any (fun q => q.1 == k) = (l.map (·.1)).any (· == k) := fun l => by rw [List.any_map]; rfl
          rw [a1, a2, hk]
        rw [hm]
        exact ⟨fun h => wpAny_in_of (knd := intKind T.prog T.w) (k := k) (by simp [intKind, Value.isInt]) hs hd.mapOf (h _), fun h => wpAny_notIn_of (knd := intKind T.prog T.w) (k := k) (by simp [intKind, Value.isInt]) hs hd.mapOf (h _)⟩
      · cases e
    · cases e
  · rename_i xs
    split at e
    · rename_i hp
      cases e
      simp only [QV, VR] at hb
      obtain ⟨l, items, k, hy, _, hg, hr⟩ := hb
      exact seqL l xs items k hy hg hr hp rfl
    · cases e
  · rename_i xs
    split at e
    · rename_i hp
      cases e
      simp only [QV, VR] at hb
      obtain ⟨l, items, k, hy, _, hg, hr⟩ := hb
      subst hy
      rw [Bool.and_eq_true] at hp
      have pp : ∀ x ∈ xs, x.plain = true := by simpa using hp.2
      have it := eqAt_items R hu hr pp hp.1 ha
      have an := any_itemBy (a := a) hr pp
      rw [← an]
      exact ⟨fun h => in_tupleAt _ (isTuple_of hg) it (h s.toks), fun h => notIn_tupleAt _ (isTuple_of hg) it (h s.toks)⟩
    · cases e
  · cases e

theorem isSame_none {a : V} {x : Value} {N : Addr → Prop} {h : Heap} (r : VR T φ N h a x) : isSame x .none = pure (isN a) := by
  cases a <;> simp only [VR] at r
  · subst r; rfl
  · subst r; rfl
  · obtain ⟨t, rfl⟩ := r; rfl
  · obtain ⟨t, rfl⟩ := r; rfl
  · obtain ⟨p, _, _, rfl, _⟩ := r; rfl
  · obtain ⟨p, _, _, rfl, _⟩ := r; rfl
  · obtain ⟨p, _, rfl⟩ := r; rfl
  · obtain ⟨p, _, rfl, _⟩ := r; rfl

theorem sim_cmp (op : COp) {a b : V} {x y : Value} (R : Rel T φ η s.heap) (ha : QV T φ η s.heap a x) (hb : QV T φ η s.heap b y) (hu : A.units + 7 < cLine) :
    Sim T A L φ η s (compareOp (copOf op) x y) (match cmpV op η a b with | some b => .ok (.bool b) η | none => .fail) (QV T) := by
  refine cmp_ok (fun r e Q hQ => ?_) R
  have q0 := hQ s.toks
  unfold cmpV at e
  cases op with
  | eq =>
    simp only at e
    split at e
    · rename_i hp
      rw [Bool.and_eq_true] at hp
      cases e
      exact (eqs_of 6 _ _ x y A (shp_deref R hp.1 ha) (shp_deref R hp.2 hb) (by omega)).rc T.prog T.w _ Q q0
    · cases e
  | ne =>
    simp only at e
    split at e
    · rename_i hp
      rw [Bool.and_eq_true] at hp
      cases e
      exact (eqs_of 6 _ _ x y A (shp_deref R hp.1 ha) (shp_deref R hp.2 hb) (by omega)).ne T.prog T.w _ Q q0
    · cases e
  | lt =>
    simp only at e
    split at e
    · simp only [QV, VR] at ha hb
      obtain ⟨t, rfl⟩ := ha; obtain ⟨u, rfl⟩ := hb
      cases e
      exact wpAny_lt_int q0
    · cases e
  | le =>
    simp only at e
    split at e
    · simp only [QV, VR] at ha hb
      obtain ⟨t, rfl⟩ := ha; obtain ⟨u, rfl⟩ := hb
      cases e
      exact PyProof.Rows.le_int q0
    · cases e
  | gt =>
    simp only at e
    split at e
    · simp only [QV, VR] at ha hb
      obtain ⟨t, rfl⟩ := ha; obtain ⟨u, rfl⟩ := hb
      cases e
      exact PyProof.Rows.gt_int q0
    · cases e
  | ge =>
    simp only at e
    split at e
    · simp only [QV, VR] at ha hb
      obtain ⟨t, rfl⟩ := ha; obtain ⟨u, rfl⟩ := hb
      cases e
      exact PyProof.Rows.ge_int q0
    · cases e
  | isIn => exact (mem_cmp R ha hb hu e Q).1 hQ
  | notIn =>
    simp only [Option.map_eq_some_iff] at e
    obtain ⟨r', e', rfl⟩ := e
    exact (mem_cmp R ha hb hu e' Q).2 hQ
  | is =>
    simp only at e
    split at e
    · simp only [QV, VR] at hb
      subst hb
      cases e
      show wpAny _ _ (do return Value.bool (← isSame x .none)) _ _ _
      rw [isSame_none ha]
      exact wpAny_bind (wpAny_pure (wpAny_pure q0))
    · cases e
  | isNot =>
    simp only at e
    split at e
    · simp only [QV, VR] at hb
      subst hb
      cases e
      show wpAny _ _ (do return Value.bool (!(← isSame x .none))) _ _ _
      rw [isSame_none ha]
      exact wpAny_bind (wpAny_pure (wpAny_pure q0))
    · cases e
end
end Mine
end
section
namespace Mine
open PySem PySem.SeqAt PyProof.Rows

section
variable {T : St} {A : Around} {L : Addr} {φ : Phi} {η : H} {s : Shared}

theorem ok_idx {k : Int} (h : okIdx k = true) : 0 ≤ k ∧ k < 1000000 := by
  unfold okIdx at h; simpa using h
theorem seqIndex_of {k : Int} {n : Nat} (h0 : 0 ≤ k) (hk : k.toNat < n) : seqIndex? k n = some k.toNat := by
  unfold seqIndex?
  obtain ⟨j, rfl⟩ := Int.eq_ofNat_of_zero_le h0
  simp at hk ⊢
  omega

theorem dict_get {N : Addr → Prop} {h : Heap} {k : Int} {q : Int × V} : ∀ {es : List (Int × V)} {kvs : List (Int × Value)}, kvs.map (·.1) = es.map (·.1) → VRs T φ N h (es.map (·.2)) (kvs.map (·.2)) → es.find? (fun p => p.1 == k) = some q →
    ∃ w, valueAt kvs k = some w ∧ VR T φ N h q.2 w
  | [], _, _, _, hq => by simp at hq
  | z :: zs, [], hk, _, _ => by simp at hk
  | z :: zs, y :: ys, hk, hv, hq => by
    simp only [List.map_cons, List.cons.injEq] at hk
    simp only [List.map_cons, VRs] at hv
    obtain ⟨w, r, e1, r1, r2⟩ := hv
    cases e1
    unfold valueAt
    simp only [List.find?_cons] at hq ⊢
    by_cases hz : z.1 = k
    · simp only [hz, beq_self_eq_true, Option.some.injEq] at hq
      subst hq
      rw [hk.1, hz]
      simp only [decide_true, Option.map_some]
      exact ⟨_, rfl, r1⟩
    · have h1 : (z.1 == k) = false := by simpa using hz
      rw [h1] at hq
      have h2 : decide (y.1 = k) = false := by rw [hk.1]; simpa using hz
      rw [h2]
      exact dict_get hk.2 r2 hq

/-- an item -/
theorem sim_tail {value slice : Expr} (hs : ∀ o i, subscripted slice false o i = operate [o, i] (PySem.getItem o i)) {a b : V} {x y : Value} (R : Rel T φ η s.heap) (ha : QV T φ η s.heap a x) (hb : QV T φ η s.heap b y) :
    Sim T A L φ η s (subscriptTail value slice x y) (match getItem η a b with | some v => .ok v η | none => .fail) (QV T) := by
  cases e : getItem η a b with
  | none => exact .fail
  | some v =>
    refine .ok rfl ?_
    unfold getItem at e
    have lst : ∀ (xs : List V) (p : Addr) (items : Array Value) (n : Nat) (k : Int) (u : Tok), y = .int k u → x = .ref p → s.heap.get? p = some (listO items n) → VRs T φ (own φ η) s.heap xs items.toList → okIdx k = true → xs[k.toNat]? = some v →
        wpAny T.M A (subscriptTail value slice x y) (fun x s' => ∃ φ', Post T φ η s φ' η s' ∧ QV T φ' η s'.heap v x) (fun _ _ => False) s := by
      rintro xs p items n k u rfl rfl g r hk hx
      have hi := ok_idx hk
      obtain ⟨w, hw, rw⟩ := r.get hx
      exact tail_any ⟨_, g, rfl⟩ F.slot_list_getitem.lookup (wpAny_getItem_list (isList_of g) hi.1 (by omega) (by simpa using hw) ⟨φ, .refl R, rw⟩) (hs _ _)
    split at e
    · rename_i k
      simp only [QV, VR] at hb
      obtain ⟨u, rfl⟩ := hb
      split at e
      · split at e
        · rename_i sg hk
          simp only [QV, VR] at ha
          obtain ⟨t, rfl⟩ := ha
          have hi := ok_idx hk
          unfold charOf at e
          rw [Option.map_eq_some_iff] at e
          obtain ⟨c, hc, rfl⟩ := e
          have hlt : k.toNat < sg.length := (List.getElem?_eq_some_iff.mp hc).1
          have hch : Txt.charAt ⟨sg.toArray⟩ k = some c := by
            unfold Txt.charAt
            rw [seqIndex_of hi.1 (by rw [str_len]; exact hlt)]
            simpa using hc
          refine tail_any (typeIs_str s _ _) F.slot_str_getitem.lookup (SB.getItem ?_ (by rw [hch]; rfl) ⟨φ, .toks R, ?_⟩) (hs _ _)
          · unfold fitsSsize
            simp only [Bool.not_eq_true', Bool.or_eq_false_iff, decide_eq_false_iff_not]
            omega
          · simp only [QV, VR]
            exact ⟨s.toks, by unfold Txt.item; rw [hch]; rfl⟩
        · cases e
      · rename_i n
        simp only [QV, VR] at ha
        obtain ⟨p, hp, rfl⟩ := ha
        split at e
        · rename_i xs hn
          split at e
          · rename_i hk
            obtain ⟨_, items, k', hg, hr⟩ := R.obj n _ p hn hp
            exact lst xs p.1 items k' k u rfl rfl hg hr hk e
          · cases e
        · rename_i es hn
          obtain ⟨_, kvs, hd, hk, hv⟩ := R.obj n _ p hn hp
          rw [Option.map_eq_some_iff] at e
          obtain ⟨q, hq, rfl⟩ := e
          have key := dict_get hk hv hq
          obtain ⟨w, hw, rw⟩ := key
          exact tail_any hd.typeIs slot_dict_getitem.lookup (wpAny_getItem_of (knd := intKind T.prog T.w) (k := k) (by simp [intKind, Value.isInt]) hd.mapOf hw ⟨φ, .toks R, rw⟩) (hs _ _)
        · cases e
      · split at e
        · rename_i xs hk
          simp only [QV, VR] at ha
          obtain ⟨p, items, n, rfl, _, g, r⟩ := ha
          exact lst xs p items n k u rfl rfl g r hk e
        · cases e
      · split at e
        · rename_i xs hk
          simp only [QV, VR] at ha
          obtain ⟨p, items, n, rfl, _, g, r⟩ := ha
          have hi := ok_idx hk
          obtain ⟨w, hw, rw⟩ := r.get e
          have hlt : k.toNat < items.size := by have := (List.getElem?_eq_some_iff.mp hw).1; simpa using this
          exact tail_any ⟨_, g, rfl⟩ F.slot_tuple_getitem.lookup (P.getItem_tuple g (by omega) (by omega) (seqIndex_of hi.1 hlt) (by simpa using hw) ⟨φ, .refl R, rw⟩) (hs _ _)
        · cases e
      · cases e
    · cases e

theorem clip_bound {n d k : Nat} {v : V} {x : Value} {N : Addr → Prop} {h : Heap} (e : bound n d v = some k) (r : VR T φ N h v x) : ∃ lo : Option (Int × Tok), x = partValue lo ∧ (lo.map (·.1)).elim d (clipAt n) = k := by
  unfold bound at e
  split at e
  · cases e
    simp only [VR] at r; subst r
    exact ⟨none, rfl, rfl⟩
  · rename_i i
    cases e
    simp only [VR] at r
    obtain ⟨t, rfl⟩ := r
    refine ⟨some (i, t), rfl, ?_⟩
    show clipAt n i = _
    have := clipAt_cast n i
    split
    · rename_i hi
      rw [if_pos hi] at this
      omega
    · rename_i hi
      rw [if_neg hi] at this
      omega
  · cases e
theorem isPart_of (lo : Option (Int × Tok)) : IsPart (partValue lo) (lo.map (·.1)) := by
  cases lo with
  | none => exact .none
  | some p => obtain ⟨i, t⟩ := p; exact .int i t

theorem picked_eq (sg : List Nat) (lo hi : Option (Int × Tok)) : slicePicked ⟨sg.toArray⟩ lo hi none = (List.range ((hi.map (·.1)).elim sg.length (clipAt sg.length) - (lo.map (·.1)).elim 0 (clipAt sg.length))).map ((lo.map (·.1)).elim 0 (clipAt sg.length) + ·) := by
  rw [← sliceRange_one]
  unfold slicePicked Builtin.Str.strSliceIndices
  rw [str_len]
  cases lo <;> cases hi <;> simp [clipAt_cast]
theorem clip_le (n : Nat) (o : Option Int) : o.elim n (clipAt n) ≤ n := by
  cases o with
  | none => exact Nat.le_refl _
  | some i =>
    show clipAt n i ≤ n
    have := clipAt_cast n i
    omega
theorem str_made {sg : List Nat} {t : Tok} {lo hi : Option (Int × Tok)} {Q : Value → Shared → Prop} {s : Shared} (hsz : sg.length ≤ 100000)
    (h : ∀ t' k, Q (.str ⟨(sliceL sg ((lo.map (·.1)).elim 0 (clipAt sg.length)) ((hi.map (·.1)).elim sg.length (clipAt sg.length))).toArray⟩ t') { s with toks := k }) : (sliceMade ⟨sg.toArray⟩ t lo hi none).post Q s := by
  have hq := clip_le sg.length (hi.map (·.1))
  unfold sliceMade
  rw [picked_eq, pick_run]
  generalize (lo.map (·.1)).elim 0 (clipAt sg.length) = p at *
  generalize (hi.map (·.1)).elim sg.length (clipAt sg.length) = q at *
  have hl : ((List.range (q - p)).map (p + ·)).length = q - p := by simp
  rw [hl, str_len]
  split
  · rename_i hw
    simp only [Option.map_none, Option.getD_none, beq_self_eq_true, Bool.true_and, beq_iff_eq] at hw
    have h' := h t s.toks
    have e : sliceL sg p q = sg := by
      unfold sliceL
      by_cases h0 : sg.length = 0
      · rw [List.length_eq_zero_iff.mp h0]; simp
      · have : p = 0 := by omega
        subst this
        rw [hw]
        simp
    rw [e] at h'
    exact h'
  · refine ⟨?_, h _ _⟩
    simp [Str.length]
    exact Nat.le_trans (Nat.min_le_right _ _) (Nat.le_trans (Nat.sub_le _ _) (line_le hsz))

/-- a slice: the object is there -/
noncomputable abbrev sliceO (y z : Value) : Obj := { cls := .type "slice", data := .fields #[y, z, .none] }
theorem slice_str {value : Expr} {l u : Option Expr} {pp : Pos} {sg : List Nat} {lo hi : V} {x y z : Value} (R : Rel T φ η s.heap) (ha : QV T φ η s.heap (.str sg) x) (hl : QV T φ η s.heap lo y) (hh : QV T φ η s.heap hi z) :
    Sim T A L φ η { s with heap := s.heap.push (sliceO y z) } (subscriptTail value (.Slice l u none pp) x (.ref s.heap.objs.size)) (slS η sg lo hi) (QV T) := by
  simp only [QV, VR] at ha
  obtain ⟨t, rfl⟩ := ha
  refine Sim.get fun p e1 => Sim.get fun q e2 => Sim.ifF fun hsz => ?_
  obtain ⟨o1, rfl, c1⟩ := clip_bound e1 hl
  obtain ⟨o2, rfl, c2⟩ := clip_bound e2 hh
  refine .ok rfl (tail_any (typeIs_str _ _ _) F.slot_str_getitem.lookup (wpAny_getItem_str_slice (l := o1) (u := o2) (st := none) ⟨_, Heap.get?_push_size _ rfl, rfl, rfl⟩ rfl (str_made hsz fun t' k => ⟨φ, .toks (R.keeps (push_keeps _)), ?_⟩)) rfl)
  rw [c1, c2]
  simp only [QV, VR]
  exact ⟨t', rfl⟩
theorem slice_tup {value : Expr} {l u : Option Expr} {pp : Pos} {xs : List V} {lo hi : V} {x y z : Value} (R : Rel T φ η s.heap) (ha : QV T φ η s.heap (.tup xs) x) (hl : QV T φ η s.heap lo y) (hh : QV T φ η s.heap hi z) :
    Sim T A L φ η { s with heap := s.heap.push (sliceO y z) } (subscriptTail value (.Slice l u none pp) x (.ref s.heap.objs.size)) (slT η xs lo hi) (QV T) := by
  simp only [QV, VR] at ha
  obtain ⟨ad, items, k, rfl, nn, g, r⟩ := ha
  cases lo with
  | int i =>
    refine Sim.ifF fun hi => ?_
    obtain ⟨hn, h1, h2, h3⟩ := hi
    cases hi <;> first | (cases hn; done) | skip
    simp only [QV, VR] at hl hh
    obtain ⟨t, rfl⟩ := hl
    subst hh
    have hlen := len_items r
    obtain ⟨j, rfl⟩ := Int.eq_ofNat_of_zero_le (show 0 ≤ i by omega)
    have R' := R.keeps (push_keeps (h := s.heap) (sliceO (.int (j : Int) t) .none))
    have g' := push_keeps (sliceO (.int (j : Int) t) .none) _ _ g
    have rd : VRs T φ (own φ η) (s.heap.push (sliceO (.int (j : Int) t) .none)) (xs.drop j) (items.toList.drop j).toArray.toList := by
      simpa using (VRs.step (.keeps (push_keeps (h := s.heap) _)) _ _ r).drop j
    have hv := mk_tup (s := { s with heap := s.heap.push (sliceO (.int (j : Int) t) .none) }) R' rd s.toks
    exact .ok rfl (tail_any ⟨_, g', rfl⟩ F.slot_tuple_getitem.lookup (getItem_tuple_from (isTuple_of g') (Heap.IsSliceOf.new ..) (by omega) (by rw [hlen]; simpa using h2) ⟨φ, hv.1, hv.2⟩ (by rw [hlen]; exact line_le h3)) rfl)
  | _ => exact .fail
theorem slice_lst (mu : Bool) {value : Expr} {l u : Option Expr} {pp : Pos} {a : V} {xs : List V} {lo hi : V} {x y z : Value} (R : Rel T φ η s.heap) (e : listOf η a = some xs) (ha : QV T φ η s.heap a x) (hl : QV T φ η s.heap lo y) (hh : QV T φ η s.heap hi z) :
    Sim T A L φ η { s with heap := s.heap.push (sliceO y z) } (subscriptTail value (.Slice l u none pp) x (.ref s.heap.objs.size)) (slL mu η xs lo hi) (QV T) := by
  have R' := R.keeps (push_keeps (h := s.heap) (sliceO y z))
  refine Sim.get fun p e1 => Sim.get fun q e2 => Sim.ifF fun hsz => ?_
  obtain ⟨ad, items, k, rfl, g, r⟩ := list_view R' e (VR.step (.keeps (push_keeps (h := s.heap) _)) _ _ ha)
  obtain ⟨o1, rfl, c1⟩ := clip_bound e1 hl
  obtain ⟨o2, rfl, c2⟩ := clip_bound e2 hh
  have hlen := len_items r
  have rv : VRs T φ (own φ η) (s.heap.push (sliceO (partValue o1) (partValue o2))) (sliceL xs p q) (slicePick items (o1.map (·.1)) (o2.map (·.1)) none).toList := by
    rw [show (slicePick items (o1.map (·.1)) (o2.map (·.1)) none).toList = sliceL items.toList p q by rw [slicePick_plain, hlen, c1, c2]; simp [sliceL]]
    exact (r.drop p).take (q - p)
  obtain ⟨v, η', φ', em, pm, vm⟩ := mk_list (s := { s with heap := s.heap.push (sliceO (partValue o1) (partValue o2)) }) mu R' rv s.toks
  exact .ok em (tail_any ⟨_, g, rfl⟩ F.slot_list_getitem.lookup (wpAny_getItem_list_slice (isList_of g) (Heap.IsSliceOf.new ..) (isPart_of o1) (isPart_of o2) .none (by simp) ⟨φ', pm, vm⟩ (by rw [hlen]; exact line_le hsz)) rfl)
theorem sim_slice (mu : Bool) {value : Expr} {l u : Option Expr} {pp pos : Pos} {a lo hi : V} {x y z : Value} (R : Rel T φ η s.heap) (ha : QV T φ η s.heap a x) (hl : QV T φ η s.heap lo y) (hh : QV T φ η s.heap hi z) :
    Sim T A L φ η s (do let i ← newFields "slice" [y, z, .none]; standAt pos; subscriptTail value (.Slice l u none pp) x i) (sliceV mu η a lo hi) (QV T) := by
  refine .intro fun hf => wpAny_bind (wpAny_newObj_type (wpAny_bind (wpAny_standAt (Sim.from ⟨.keeps (push_keeps _), R.keeps (push_keeps _), rfl, rfl, rfl⟩ ?_ hf))))
  cases a with
  | str sg => exact slice_str R ha hl hh
  | tup xs => exact slice_tup R ha hl hh
  | lst xs => exact slice_lst mu R rfl ha hl hh
  | ref n => exact Sim.get fun xs e => slice_lst mu R e ha hl hh
  | _ => exact .fail
end
end Mine
end
section
namespace Mine
open PySem PySem.SeqAt PyProof.Rows

noncomputable abbrev NPost (T : St) (φ : Phi) (η : H) (s : Shared) {α β : Type} (r : R β) (Q : QR α β) : α → Shared → Prop := SOk T φ η s r Q
noncomputable abbrev NExc (T : St) (L : Addr) (φ : Phi) (η : H) (s : Shared) {β : Type} (r : R β) : Value → Shared → Prop := SEx T L φ η s r

section
variable {T : St} {A : Around} {L : Addr} {φ : Phi} {η : H} {s : Shared} {α β γ δ : Type}

/-- the two in one another -/
theorem Sim.nest {t : Sem α} {k : α → Sem γ} {r : R β} {g : β → H → R δ} {Q₁ : QR α β} {Q₂ : QR γ δ} (h1 : Sim T A L φ η s t r Q₁)
    (h2 : ∀ v η' φ' x s', r = .ok v η' → Post T φ η s φ' η' s' → Q₁ φ' η' s'.heap v x → Sim T A L φ' η' s' (k x) (g v η') Q₂) :
    r.bind g = .fail ∨ wpAny T.M A t (fun x s' => SOk T φ η s r Q₁ x s' ∧ wpAny T.M A (k x) (NPost T φ η s (r.bind g) Q₂) (NExc T L φ η s (r.bind g)) s') (NExc T L φ η s (r.bind g)) s := by
  rcases h1 with h1 | h1
  · left; rw [h1]; rfl
  · cases r with
    | fail => left; rfl
    | exc c h =>
      right
      refine wpAny_mono h1 (fun x s' ⟨v, η', φ', e, _, _⟩ => by cases e) fun e s' ⟨c', η', φ', he, hp, hx⟩ => ?_
      cases he
      exact ⟨c, h, φ', rfl, hp, hx⟩
    | ok v₀ η₀ =>
      by_cases hf : g v₀ η₀ = .fail
      · left; exact hf
      · right
        refine wpAny_mono h1 (fun x s' ⟨v, η', φ', e, hp, hq⟩ => ?_) fun e s' ⟨c', η', φ', he, _, _⟩ => by cases he
        cases e
        refine ⟨⟨v₀, η₀, φ', rfl, hp, hq⟩, ?_⟩
        rcases h2 v₀ η₀ φ' x s' rfl hp hq with h3 | h3
        · exact absurd h3 hf
        · refine wpAny_mono h3 (fun y s'' ⟨v', η'', φ'', e', hp', hq'⟩ => ⟨v', η'', φ'', e', hp.trans hp', hq'⟩) fun e s'' ⟨c', η'', φ'', he, hp', hx⟩ => ⟨c', η'', φ'', he, hp.trans hp', hx⟩

/-- a new list, wherever it lies -/
theorem mk_listG (mu : Bool) (R : Rel T φ η s.heap) {h' : Heap} {a : Addr} {c : Nat} {items : Array Value} {xs : List V} (hv : VRs T φ (own φ η) s.heap xs items.toList) (hk : ∀ b o, s.heap.get? b = some o → h'.get? b = some o)
    (ha : s.heap.objs.size ≤ a) (hg : h'.get? a = some (listO items c)) (k : Nat) :
    ∃ v η' φ', mkList mu xs η = .ok v η' ∧ Post T φ η s φ' η' { s with heap := h', toks := k } ∧ VR T φ' (own φ' η') h' v (.ref a) := by
  have st : Step φ η s.heap φ η h' := .keeps hk
  have none : s.heap.get? a = Option.none := Heap.get?_none_of_le ha
  cases mu with
  | false =>
    refine ⟨.lst xs, η, φ, rfl, .grown R hk, ?_⟩
    simp only [VR]
    have no : ¬ own φ η a := fun o => by obtain ⟨ob, e, _⟩ := R.there o; rw [none] at e; cases e
    exact ⟨_, items, c, rfl, no, hg, VRs.step st _ _ hv⟩
  | true =>
    have x := R.add (m := .list xs) (p := (a, a)) hk none none (Nat.lt_of_lt_of_le R.high ha) (Nat.lt_of_lt_of_le R.high ha)
      (fun st => ⟨rfl, items, c, hg, VRs.step st _ _ hv⟩)
    refine ⟨.ref η.length, _, _, rfl, .mk' x, ?_⟩
    simp only [VR]
    exact ⟨(a, a), by rw [← R.len, List.getElem?_append_right (Nat.le_refl _)]; simp, rfl⟩

/-- a list turns -/
theorem upd_list (R : Rel T φ η s.heap) {n : Nat} {xs xs' : List V} {p : Addr × Addr} {items : Array Value} {k : Nat} (hn : η[n]? = some (.list xs)) (hp : φ[n]? = some p) (g : s.heap.get? p.1 = some (listO items k)) (f : Array Value → Array Value)
    (hv : VRs T φ (own φ η) s.heap xs' (f items).toList) (t : Nat) : Post T φ η s φ (η.set n (.list xs')) { s with heap := s.heap.update p.1 (Obj.mapSeq f), toks := t } := by
  have e2 : p.2 = p.1 := (R.obj n _ p hn hp).1
  have hg : (s.heap.update p.1 (Obj.mapSeq f)).get? p.1 = some (Obj.mapSeq f (listO items k)) := Heap.get?_update_self _ g rfl
  obtain ⟨k', hk'⟩ : ∃ k', Obj.mapSeq f (listO items k) = listO (f items) k' := ⟨_, rfl⟩
  rw [hk'] at hg
  refine .mk' (R.set hn hp (by simp) (by simp) (fun b o h1 _ e => (Heap.get?_update_other _ _ (Ne.symm h1)).trans e) (by rw [hg]; rfl) (by rw [e2, hg]; rfl) fun st => ?_)
  exact ⟨e2, _, k', hg, VRs.step st _ _ hv⟩

theorem setItem_list {l : Addr} {items : Array Value} {n : Nat} {k : Int} {t : Tok} {v : Value} {Q : Unit → Shared → Prop} {E : Value → Shared → Prop} (g : s.heap.get? l = some (listO items n)) (h0 : 0 ≤ k) (hfit : k < 2 ^ 63) (hn : k < items.size)
    (hQ : Q () { s with heap := s.heap.update l (Obj.mapSeq fun xs => xs.setIfInBounds k.toNat v) }) : wpAny T.M A (PySem.setItem (.ref l) (.int k t) v) Q E s := by
  have hl := isList_of g
  unfold PySem.setItem
  refine wpAny_holding (wpAny_bind (wpAny_sequenceKey hl.typeIs (by decide) (wpAny_bind (wpAny_callSpecial?_slot (name := Str.ofString "__setitem__") hl.typeIs slot_list_setitem
    (wpAny_call_entry slot_list_setitem hl.typeIs entry_list_setitem ?_ (args_list_setitem _ _ _))))))
  show wpAny _ _ (Builtin.List.listSubscript? (.int k t) >>= _) _ _ s
  refine wpAny_bind (wpAny_listSubscript_int (fitsIndex_of h0 hfit) ?_)
  obtain ⟨j, rfl⟩ := Int.eq_ofNat_of_zero_le h0
  have hj : j < items.size := by omega
  have hx : items[j]? = some items[j] := Array.getElem?_eq_getElem hj
  show wpAny _ _ ((seqItemAt l j >>= fun r => pure (r.map (j, ·))) >>= _) _ _ s
  refine wpAny_bind (wpAny_bind (wpAny_seqItemAt g rfl (wpAny_pure ?_)))
  rw [hx]
  show wpAny _ _ (setSeqItemAt l j v >>= _) _ _ s
  refine wpAny_bind (wpAny_setSeqItemAt g rfl ?_)
  first
    | exact wpAny_bind (wpAny_pure (wpAny_pure ⟨.none, rfl, wpAny_pure hQ⟩))
    | exact wpAny_pure ⟨.none, rfl, wpAny_pure hQ⟩

theorem dict_stored {N : Addr → Prop} {h : Heap} {k : Int} {v : V} {x : Value} {es : List (Int × V)} {kvs : List (Int × Value)} (hk : kvs.map (·.1) = es.map (·.1)) (hv : VRs T φ N h (es.map (·.2)) (kvs.map (·.2))) (r : VR T φ N h v x) :
    (stored kvs k x).map (·.1) = (dictSet es k v).map (·.1) ∧ VRs T φ N h ((dictSet es k v).map (·.2)) ((stored kvs k x).map (·.2)) := by
  have hany : kvs.any (fun kv => kv.1 = k) = es.any (fun p => p.1 == k) := by
    have a1 : ∀ l : List (Int × V), l.any (fun q => q.1 == k) = (l.map (·.1)).any (· == k) := fun l => by rw [List.any_map]; rfl
    have a2 : ∀ l : List (Int × Value), l.any (fun q => decide (q.1 = k)) = (l.map (·.1)).any (· == k) := fun l => by
      rw [List.any_map]; congr 1
    rw [a1, a2, hk]
  unfold stored dictSet
  rw [hany]
  split
  · rename_i hh
    clear hany hh
    induction es generalizing kvs with
    | nil =>
      cases kvs with
      | nil => exact ⟨rfl, by simp [VRs]⟩
      | cons _ _ => simp at hk
    | cons z zs ih =>
      cases kvs with
      | nil => simp at hk
      | cons y ys =>
        simp only [List.map_cons, List.cons.injEq] at hk
        simp only [List.map_cons, VRs] at hv
        obtain ⟨w, rr, e1, r1, r2⟩ := hv
        cases e1
        have := ih hk.2 r2
        simp only [List.map_cons, VRs]
        by_cases hz : z.1 = k
        · have hy : y.1 = k := hk.1.trans hz
          simp only [hz, hy, if_true, beq_self_eq_true]
          exact ⟨by rw [List.cons.injEq]; exact ⟨rfl, this.1⟩, x, _, rfl, r, this.2⟩
        · have hy : ¬ y.1 = k := fun q => hz (hk.1.symm.trans q)
          have hz' : (z.1 == k) = false := by simpa using hz
          simp only [hz', hy, if_false, Bool.false_eq_true]
          exact ⟨by rw [List.cons.injEq]; exact ⟨hk.1, this.1⟩, y.2, _, rfl, r1, this.2⟩
  · rw [List.map_append, List.map_append, List.map_append, List.map_append]
    refine ⟨by rw [hk]; rfl, hv.append ?_⟩
    simp only [List.map_cons, List.map_nil, VRs]
    exact ⟨x, [], rfl, r, rfl⟩

/-- o[i] = v -/
theorem sim_setItem {o i v : V} {x y z : Value} (R : Rel T φ η s.heap) (ho : QV T φ η s.heap o x) (hi : QV T φ η s.heap i y) (hv : QV T φ η s.heap v z) :
    Sim T A L φ η s (PySem.setItem x y z) (match setItem η o i v with | some η' => .ok () η' | none => .fail) (fun _ _ _ (_ : Unit) (_ : Unit) => True) := by
  cases e : setItem η o i v with
  | none => exact .fail
  | some η' =>
    refine .ok rfl ?_
    unfold setItem at e
    split at e
    · rename_i n k
      simp only [QV, VR] at ho hi
      obtain ⟨p, hp, rfl⟩ := ho
      obtain ⟨t, rfl⟩ := hi
      split at e
      · rename_i xs hn
        split at e
        · rename_i hk
          cases e
          have hb := ok_idx hk.1
          obtain ⟨_, items, c, g, r⟩ := R.obj n _ p hn hp
          have hsz := len_items r
          refine setItem_list g hb.1 (by omega) (by rw [hsz]; omega) ⟨φ, upd_list R hn hp g _ ?_ s.toks, trivial⟩
          have := r.set (k := k.toNat) hv
          simpa using this
        · cases e
      · rename_i es hn
        split at e
        · rename_i hl
          cases e
          obtain ⟨e2, kvs, hd, hk, hv'⟩ := R.obj n _ p hn hp
          have hlen : kvs.length = es.length := by have := congrArg List.length hk; simpa using this
          have st := dict_stored (k := k) hk hv' hv
          refine wpAny_setItem_pairs (knd := intKind T.prog T.w) (k := k) (by simp [intKind, Value.isInt]) hd (fun h' hm hs => ⟨φ, .mk' (R.set hn hp (by simp) (by simp) (fun b o h1 _ e => (hs.2 b h1).trans e) ?_ ?_ fun st' => ?_), trivial⟩) (by rw [hlen]; exact line_le hl)
          · obtain ⟨o, _, _, e, _⟩ := hm; rw [e]; rfl
          · obtain ⟨o, _, _, e, _⟩ := hm; rw [e2, e]; rfl
          · exact ⟨e2, _, hm, st.1, VRs.step st' _ _ st.2⟩
        · cases e
      · cases e
    · cases e
end
end Mine
end
section
namespace Mine
open PySem PyProof.Rows

section
variable {T : St} {A : Around} {L : Addr} {φ : Phi} {η : H} {s : Shared}

/-- frames' slots, exceptions' fields turn; new objects come -/
theorem Post.slack {h' : Heap} {t : Nat} (R : Rel T φ η s.heap) (k : ∀ b o, s.heap.get? b = some o → ¬ own φ η b → T.base.get? b = none → StayO o h' b)
    (k' : ∀ b o, own φ η b ∨ (T.base.get? b).isSome = true → s.heap.get? b = some o → h'.get? b = some o) : Post T φ η s φ η { s with heap := h', toks := t } := by
  have st : Step φ η s.heap φ η h' := ⟨List.prefix_refl _, fun b o hb e => by
      cases q : T.base.get? b with
      | none => exact k b o e hb q
      | some o' => exact .inl (k' b o (.inr (by rw [q]; rfl)) e), fun _ o => .inl o, fun b o e => by
      by_cases hb : own φ η b
      · rw [k' b o (.inl hb) e]; rfl
      · cases q : T.base.get? b with
        | none => obtain ⟨o', e', _⟩ := (k b o e hb q).there; rw [e']; rfl
        | some o' => rw [k' b o (.inr (by rw [q]; rfl)) e]; rfl⟩
  refine ⟨st, ⟨R.len, fun b o e => k' b o (.inr (by rw [e]; rfl)) (R.base b o e), fun n m p hm hp => ?_, R.fresh, R.disj⟩, rfl, rfl, rfl⟩
  by_cases gm : m = .gone
  · subst gm; trivial
  · exact OR.step st (fun o b hb e => k' b o (.inl ⟨n, p, m, hp, hm, gm, hb⟩) e) (R.obj n m p hm hp)

noncomputable def RN (T : St) (h : Heap) (e : Addr) (c : Nat) (fl : Value) : Prop :=
  ∃ oe vs a0 Tb oT ts, h.get? e = some oe ∧ oe.cls = .ref (T.exc c) ∧ oe.data = .fields vs ∧ vs[0]? = some a0 ∧ T.base.get? e = none ∧
    vs[1]? = some (.ref Tb) ∧ Tb ≠ e ∧ T.base.get? Tb = none ∧ h.get? Tb = some oT ∧ oT.cls = .type "traceback" ∧ oT.data = .fields ts ∧ ts[3]? = some fl
theorem RN.held {h : Heap} {e : Addr} {c : Nat} (x : RN T h e c (rawInt L)) : RZ T h e c L := by
  obtain ⟨oe, vs, a0, Tb, oT, ts, h1, h2, h3, h4, h5, h6, h7, h8, h9, h10, h11, h12⟩ := x
  exact ⟨oe, vs, a0, h1, h2, h3, h4, h5, .inr ⟨Tb, oT, ts, h6, h7, h8, h9, h10, h11, .inr h12⟩⟩
theorem RN.free {h : Heap} {e : Addr} {c : Nat} (x : RN T h e c .none) (L : Addr) : RZ T h e c L := by
  obtain ⟨oe, vs, a0, Tb, oT, ts, h1, h2, h3, h4, h5, h6, h7, h8, h9, h10, h11, h12⟩ := x
  exact ⟨oe, vs, a0, h1, h2, h3, h4, h5, .inr ⟨Tb, oT, ts, h6, h7, h8, h9, h10, h11, .inl h12⟩⟩

theorem loose_set {o : Obj} {vs : Array Value} (f : Array Value → Array Value) (hd : o.data = .fields vs) (hl : Loose o) : Loose (Obj.mapFields f o) := by
  refine ⟨⟨_, Obj.data_mapFields hd f⟩, ?_⟩
  rw [Obj.cls_mapFields]; exact hl.2

/-- a field of a loose object turns -/
theorem Post.field {a : Addr} {o : Obj} {vs : Array Value} (R : Rel T φ η s.heap) (g : s.heap.get? a = some o) (hd : o.data = .fields vs) (hl : Loose o) (hb : T.base.get? a = none) (f : Array Value → Array Value) :
    Post T φ η s φ η { s with heap := s.heap.update a (Obj.mapFields f) } := by
  refine Post.slack (t := s.toks) R (fun b o' e _ _ => ?_) fun b o' q e => ?_
  · by_cases hba : b = a
    · subst hba
      rw [g] at e; cases e
      exact .inr (.inr ⟨hl, _, Heap.get?_update_self _ g (Obj.isFreed_of_fields (Obj.data_mapFields hd f)), Obj.cls_mapFields _ _, loose_set f hd hl⟩)
    · exact .inl ((Heap.get?_update_other _ _ (Ne.symm hba)).trans e)
  · have hba : b ≠ a := by
      rintro rfl
      rcases q with q | q
      · exact R.notFields g hd q
      · rw [hb] at q; cases q
    exact (Heap.get?_update_other _ _ (Ne.symm hba)).trans e

theorem loose_exc {o : Obj} {C : Addr} {vs : Array Value} (hc : o.cls = .ref C) (hd : o.data = .fields vs) : Loose o := ⟨⟨_, hd⟩, .inr ⟨C, hc⟩⟩
theorem loose_tb {o : Obj} {vs : Array Value} (hc : o.cls = .type "traceback") (hd : o.data = .fields vs) : Loose o := ⟨⟨_, hd⟩, .inl hc⟩

theorem set_flight {e : Addr} {c : Nat} {fl : Value} {fr : Option Addr} {E : Value → Shared → Prop} (R : Rel T φ η s.heap) (x : RN T s.heap e c fl) :
    wpAny T.M A (setFlight (.ref e) fr) (fun _ s' => Post T φ η s φ η s' ∧ RN T s'.heap e c (fr.elim .none fun f => rawInt f)) E s := by
  obtain ⟨oe, vs, a0, Tb, oT, ts, h1, h2, h3, h4, h5, h6, h7, h8, h9, h10, h11, h12⟩ := x
  have hsz : 3 < ts.size := (Array.getElem?_eq_some_iff.mp h12).1
  unfold setFlight
  refine wpAny_bind (wpAny_field h1 h3 h6 ?_)
  rw [if_pos (show (Value.ref Tb != Value.none) = true from by simp)]
  refine wpAny_setField h9 h11 hsz ⟨Post.field R h9 h11 (loose_tb h10 h11) h8 _, ?_⟩
  refine ⟨oe, vs, a0, Tb, _, _, (Heap.get?_update_other _ _ h7).trans h1, h2, h3, h4, h5, h6, h7, h8, Heap.get?_update_self _ h9 (Obj.isFreed_of_fields (Obj.data_mapFields h11 _)), (Obj.cls_mapFields _ _).trans h10, Obj.data_mapFields h11 _, by simp [hsz]⟩

theorem frame_of {top env : Env} {outer : List Env} {Q : Value → Shared → Prop} {E : Value → Shared → Prop} (hfr : A.frames = some (top :: outer)) (htop : top.frame = some L) (S : Stk T φ η (top :: outer) s.heap) (hf : env.frame = some L)
    (h : ∀ h', Heap.SlotsOnly ((top :: outer).filterMap (·.frame)) s.heap h' → Q (.ref L) { s with heap := h' }) : wpAny T.M A (frameOf env) Q E s := by
  unfold PySem.frameOf
  refine wpAny_bind (wpAny_frameEnvs hfr ?_)
  have hdw : ((top :: outer).dropWhile fun x => x.frame != env.frame) = top :: outer := by rw [hf]; simp [List.dropWhile, htop]
  rw [hdw]
  unfold frameObject
  refine wpAny_bind (wpAny_bind (wpAny_readyFrames_fun S.fun fun h₁ hs₁ => wpAny_pure ?_))
  rw [htop]
  exact wpAny_pure (h h₁ hs₁)

theorem Stk.mem {l : List Env} (S : Stk T φ η l s.heap) {b : Addr} (hb : b ∈ l.filterMap (·.frame)) : T.base.get? b = none ∧ ¬ own φ η b ∧ ∃ o, s.heap.get? b = some o ∧ o.cls = .type "frame" ∧ ∃ es n, o.data = .dict es n := by
  obtain ⟨env, he, hf⟩ := List.mem_filterMap.mp hb
  obtain ⟨_, L, o, hf', hbase, ho, hg, hc, es, n, hd⟩ := S env he
  rw [hf'] at hf; cases hf
  exact ⟨hbase, ho, o, hg, hc, es, n, hd⟩

/-- slots of the frames alone -/
theorem Post.frames {l : List Env} {h' : Heap} {t : Nat} (R : Rel T φ η s.heap) (S : Stk T φ η l s.heap) (x : Heap.SlotsOnly (l.filterMap (·.frame)) s.heap h') : Post T φ η s φ η { s with heap := h', toks := t } := by
  refine Post.slack R (fun b o e _ _ => ?_) fun b o q e => ?_
  · by_cases hb : b ∈ l.filterMap (·.frame)
    · obtain ⟨_, _, o', e', hc, _⟩ := S.mem hb
      rw [e] at e'; cases e'
      obtain ⟨sl, e''⟩ := x.2.2 b o e
      exact .inr (.inl ⟨hc, sl, e''⟩)
    · exact .inl ((x.2.1 b hb).trans e)
  · have hb : b ∉ l.filterMap (·.frame) := fun hb => by
      obtain ⟨h1, h2, _⟩ := S.mem hb
      rcases q with q | q
      · exact h2 q
      · rw [h1] at q; cases q
    exact (x.2.1 b hb).trans e

/-- a new entry of the way -/
theorem entry {top env : Env} {outer : List Env} {e : Addr} {c : Nat} {oe : Obj} {vs : Array Value} {a0 head : Value} {hadNext : Bool} {E : Value → Shared → Prop}
    (hfr : A.frames = some (top :: outer)) (htop : top.frame = some L) (S : Stk T φ η (top :: outer) s.heap) (hf : env.frame = some L) (R : Rel T φ η s.heap)
    (h1 : s.heap.get? e = some oe) (h2 : oe.cls = .ref (T.exc c)) (h3 : oe.data = .fields vs) (h4 : vs[0]? = some a0) (h5 : T.base.get? e = none) (hsz : 1 < vs.size) :
    wpAny T.M A (do let a ← frameOf env; let pl ← entryPlaceOf L hadNext; let b ← EntryCells.newEntry head a .none (rawInt L) .none pl; setField (.ref e) 1 b) (fun _ s' => Post T φ η s φ η s' ∧ RN T s'.heap e c (rawInt L)) E s := by
  refine wpAny_bind (frame_of hfr htop S hf fun h₁ hs₁ => ?_)
  have p₁ : Post T φ η s φ η { s with heap := h₁ } := Post.frames (t := s.toks) R S hs₁
  have hene : e ∉ (top :: outer).filterMap (·.frame) := fun hm => by
    obtain ⟨_, _, o, e', _, es, n, hd⟩ := S.mem hm
    rw [h1] at e'; cases e'; rw [h3] at hd; cases hd
  have he₁ : h₁.get? e = some oe := (hs₁.2.1 e hene).trans h1
  refine wpAny_bind (wpAny_entryPlaceOf fun pl hpl => ?_)
  unfold EntryCells.newEntry newFields
  refine wpAny_bind (wpAny_newObj_type ?_ (hpl.sizeOk5 _ _ _ _ _))
  have he₂ := Heap.get?_push_of_some (h := h₁) { cls := .type "traceback", dict := none, data := .fields ([head, .ref L, .none, rawInt L, .none] ++ (if pl.isEmpty then List.replicate 6 Value.none else pl)).toArray } he₁
  have hTe : h₁.objs.size ≠ e := Nat.ne_of_gt (Heap.lt_size he₁)
  have p₂ : Post T φ η { s with heap := h₁ } φ η { s with heap := h₁.push { cls := .type "traceback", dict := none, data := .fields ([head, .ref L, .none, rawInt L, .none] ++ (if pl.isEmpty then List.replicate 6 Value.none else pl)).toArray } } :=
    Post.grown (s := { s with heap := h₁ }) (k := s.toks) p₁.rel fun b o e => Heap.get?_push_of_some _ e
  refine wpAny_setField he₂ h3 hsz ⟨(p₁.trans p₂).trans (Post.field p₂.rel he₂ h3 (loose_exc h2 h3) h5 _), ?_⟩
  have hd₃ := Obj.data_mapFields h3 (·.setIfInBounds 1 (Value.ref h₁.objs.size))
  have hT₃ := (Heap.get?_update_other (h₁.push { cls := .type "traceback", dict := none, data := .fields ([head, .ref L, .none, rawInt L, .none] ++ (if pl.isEmpty then List.replicate 6 Value.none else pl)).toArray })
    (Obj.mapFields (·.setIfInBounds 1 (Value.ref h₁.objs.size))) (Ne.symm hTe)).trans (Heap.get?_push_size h₁ rfl)
  refine ⟨_, _, a0, h₁.objs.size, _, _, Heap.get?_update_self _ he₂ (Obj.isFreed_of_fields hd₃), (Obj.cls_mapFields _ _).trans h2, hd₃, ?_, h5, ?_, hTe, ?_, hT₃, rfl, rfl, ?_⟩
  · rw [Array.getElem?_setIfInBounds_ne (by decide)]; exact h4
  · simp [hsz]
  · cases q : T.base.get? h₁.objs.size with
    | none => rfl
    | some o => exact absurd (Heap.lt_size (p₁.rel.base _ _ q)) (Nat.lt_irrefl _)
  · first | (simp; done) | (rcases hpl with rfl | ⟨_, _, _, _, _, _, _, rfl⟩ <;> simp)

/-- the frame is noted -/
theorem note {top env : Env} {outer : List Env} {e : Addr} {c : Nat} {E : Value → Shared → Prop}
    (hfr : A.frames = some (top :: outer)) (htop : top.frame = some L) (S : Stk T φ η (top :: outer) s.heap) (hf : env.frame = some L) (R : Rel T φ η s.heap) (x : RZ T s.heap e c L) :
    wpAny T.M A (noteFrame (.ref e) env) (fun _ s' => Post T φ η s φ η s' ∧ RN T s'.heap e c (rawInt L)) E s := by
  obtain ⟨oe, vs, a0, h1, h2, h3, h4, h5, h6⟩ := x
  unfold noteFrame
  simp only [hf]
  rcases h6 with h6 | ⟨Tb, oT, ts, h6, h7, h8, h9, h10, h11, h12⟩
  · refine wpAny_bind (wpAny_field h1 h3 h6 ?_)
    rw [if_neg (by decide)]
    exact entry hfr htop S hf R h1 h2 h3 h4 h5 (Array.getElem?_eq_some_iff.mp h6).1
  · refine wpAny_bind (wpAny_field h1 h3 h6 ?_)
    rw [if_pos (show (Value.ref Tb != Value.none) = true from by simp)]
    rcases h12 with h12 | h12
    · refine wpAny_bind (wpAny_field h9 h11 h12 ?_)
      rw [if_neg (show ¬ ((Value.none == rawInt L) = true) from by simp [rawInt])]
      refine wpAny_bind (wpAny_setField h9 h11 (Array.getElem?_eq_some_iff.mp h12).1 ?_)
      have p := Post.field R h9 h11 (loose_tb h10 h11) h8 (·.setIfInBounds 3 Value.none)
      refine wpAny_mono (entry (s := { s with heap := s.heap.update Tb (Obj.mapFields (·.setIfInBounds 3 Value.none)) }) hfr htop (S.step p.step) hf p.rel ((Heap.get?_update_other _ _ h7).trans h1) h2 h3 h4 h5 (Array.getElem?_eq_some_iff.mp h6).1)
        (fun _ s' ⟨q, r⟩ => ⟨p.trans q, r⟩) fun _ _ y => y
    · refine wpAny_bind (wpAny_field h9 h11 h12 ?_)
      rw [if_pos (show (rawInt L == rawInt L) = true from by simp)]
      exact wpAny_pure ⟨.refl R, oe, vs, a0, Tb, oT, ts, h1, h2, h3, h4, h5, h6, h7, h8, h9, h10, h11, h12⟩

/-- out of a loop of one's own -/
theorem came_back {env : Env} {e : Addr} {c : Nat} {fl : Value} {E : Value → Shared → Prop} (hf : env.frame = some L) (R : Rel T φ η s.heap) (x : RN T s.heap e c fl)
    (h : ∀ s', Post T φ η s φ η s' → RZ T s'.heap e c L → E (.ref e) s') : cameBackBy T.M A env E (.ref e) s := by
  unfold cameBackBy
  have sf := set_flight (A := A) (fr := some L) (E := E) R x
  obtain ⟨oe, vs, a0, Tb, oT, ts, h1, h2, h3, h4, h5, h6, h7⟩ := x
  refine wpAny_bind (wpAny_field h1 h3 h6 ?_)
  rw [if_neg (show ¬ ((Value.ref Tb == Value.none) = true) from by simp), hf]
  exact wpAny_mono sf (fun _ s' ⟨p, r⟩ => h s' p r.held) fun _ _ y => y

theorem passes {α : Type} {what : String} {env : Env} {e : Addr} {c : Nat} {fl : Value} {Q : α → Shared → Prop} {E : Value → Shared → Prop} (hf : env.frame = some L) (R : Rel T φ η s.heap) (x : RN T s.heap e c fl)
    (h : ∀ s', Post T φ η s φ η s' → RZ T s'.heap e c L → E (.ref e) s') : wpAny T.M A (passOn what (.ref e) env : Sem α) Q E s := by
  unfold PySem.passOn
  have sf := set_flight (A := A) (fr := some L) (E := E) R x
  obtain ⟨oe, vs, a0, Tb, oT, ts, h1, h2, h3, h4, h5, h6, h7⟩ := x
  refine wpAny_bind (wpAny_field h1 h3 h6 ?_)
  rw [if_neg (show ¬ ((Value.ref Tb == Value.none) = true) from by simp), hf]
  exact wpAny_bind (wpAny_mono sf (fun _ s' ⟨p, r⟩ => wpAny_throw (h s' p r.held)) fun _ _ y => y)

theorem leaves {top env : Env} {outer : List Env} {e : Addr} {c : Nat} {E : Value → Shared → Prop} {Q : Unit → Shared → Prop}
    (hfr : A.frames = some (top :: outer)) (htop : top.frame = some L) (S : Stk T φ η (top :: outer) s.heap) (hf : env.frame = some L) (R : Rel T φ η s.heap) (x : RZ T s.heap e c L)
    (h : ∀ s', Post T φ η s φ η s' → (∀ L', RZ T s'.heap e c L') → Q () s') : wpAny T.M A (leaving env (.ref e)) Q E s := by
  unfold leaving
  refine wpAny_bind (wpAny_mono (note hfr htop S hf R x) (fun _ s' ⟨p, r⟩ => ?_) fun _ _ y => y)
  exact wpAny_mono (set_flight p.rel r) (fun _ s'' ⟨p', r'⟩ => h s'' (p.trans p') fun L' => r'.free L') fun _ _ y => y
end
end Mine
end
section
namespace Mine
open PySem

section
variable {T : St} {A : Around} {L : Addr} {φ φ' : Phi} {η η' : H} {s s' : Shared} {h h' : Heap}

mutual
theorem VR.under {N : Addr → Prop} : ∀ (v : V) (x : Value), VR T φ N h v x → v.refUnder φ.length = true
  | .none, _, _ => rfl
  | .bool _, _, _ => rfl
  | .int _, _, _ => rfl
  | .str _, _, _ => rfl
  | .tup xs, x, e => by
    simp only [VR] at e
    obtain ⟨a, items, n, rfl, _, _, hr⟩ := e
    rw [V.refUnder]; exact VRs.under xs _ hr
  | .lst xs, x, e => by
    simp only [VR] at e
    obtain ⟨a, items, n, rfl, _, _, hr⟩ := e
    rw [V.refUnder]; exact VRs.under xs _ hr
  | .dct, _, _ => rfl
  | .ref n, x, e => by
    simp only [VR] at e
    obtain ⟨p, hp, _⟩ := e
    rw [V.refUnder]; exact decide_eq_true (List.getElem?_eq_some_iff.mp hp).1
  | .exc _, _, _ => rfl
theorem VRs.under {N : Addr → Prop} : ∀ (v : List V) (x : List Value), VRs T φ N h v x → V.refsUnder φ.length v = true
  | [], _, _ => rfl
  | y :: ys, x, e => by
    simp only [VRs] at e
    obtain ⟨v, r, rfl, h1, h2⟩ := e
    rw [V.refsUnder, VR.under y v h1, VRs.under ys r h2]; rfl
end

mutual
theorem VR.cut {N N' : Addr → Prop} (x : φ <+: φ') (hN : ∀ b, N b → N' b) : ∀ (v : V) (y : Value), VR T φ' N' h v y → v.refUnder φ.length = true → VR T φ N h v y
  | .none, _, e, _ => e
  | .bool _, _, e, _ => e
  | .int _, _, e, _ => e
  | .str _, _, e, _ => e
  | .tup xs, y, e, u => by
    simp only [VR] at e ⊢
    obtain ⟨a, items, n, rfl, h1, h2, hr⟩ := e
    rw [V.refUnder] at u
    exact ⟨a, items, n, rfl, fun q => h1 (hN _ q), h2, VRs.cut x hN xs _ hr u⟩
  | .lst xs, y, e, u => by
    simp only [VR] at e ⊢
    obtain ⟨a, items, n, rfl, h1, h2, hr⟩ := e
    rw [V.refUnder] at u
    exact ⟨a, items, n, rfl, fun q => h1 (hN _ q), h2, VRs.cut x hN xs _ hr u⟩
  | .dct, _, e, _ => by simp only [VR] at e
  | .ref n, y, e, u => by
    simp only [VR] at e ⊢
    obtain ⟨p, hp, rfl⟩ := e
    rw [V.refUnder] at u
    have hn := of_decide_eq_true u
    refine ⟨p, ?_, rfl⟩
    have h1 : φ[n]? = some φ[n] := List.getElem?_eq_getElem hn
    have h2 := get_prefix x h1
    rw [h2] at hp; rw [h1]; exact hp
  | .exc c, y, e, _ => by
    simp only [VR] at e ⊢
    obtain ⟨a, o, rfl, h1, h2, h3⟩ := e
    exact ⟨a, o, rfl, fun q => h1 (hN _ q), h2, h3⟩
theorem VRs.cut {N N' : Addr → Prop} (x : φ <+: φ') (hN : ∀ b, N b → N' b) : ∀ (v : List V) (y : List Value), VRs T φ' N' h v y → V.refsUnder φ.length v = true → VRs T φ N h v y
  | [], _, e, _ => e
  | v :: vs, y, e, u => by
    simp only [VRs] at e ⊢
    obtain ⟨w, r, rfl, h1, h2⟩ := e
    rw [V.refsUnder, Bool.and_eq_true] at u
    exact ⟨w, r, rfl, VR.cut x hN v w h1 u.1, VRs.cut x hN vs r h2 u.2⟩
end
theorem EntR.under {N : Addr → Prop} : ∀ (xs : List Str) (vs : List V) (es : List DictEntry), EntR T φ N h xs vs es → V.refsUnder φ.length vs = true
  | [], [], _, _ => rfl
  | _ :: _, [], _, _ => rfl
  | x :: xs, v :: vs, es, e => by
    simp only [EntR] at e
    obtain ⟨en, r, t, rfl, hk, hv, hr⟩ := e
    rw [V.refsUnder, VR.under v _ hv, EntR.under xs vs r hr]; rfl
  | [], _ :: _, _, e => e.elim
theorem EntR.cut {N N' : Addr → Prop} (x : φ <+: φ') (hN : ∀ b, N b → N' b) : ∀ (xs : List Str) (vs : List V) (es : List DictEntry), EntR T φ' N' h xs vs es → V.refsUnder φ.length vs = true → EntR T φ N h xs vs es
  | [], [], _, e, _ => e
  | _ :: _, [], _, e, _ => e
  | y :: xs, v :: vs, es, e, u => by
    simp only [EntR] at e ⊢
    obtain ⟨en, r, t, rfl, hk, hv, hr⟩ := e
    rw [V.refsUnder, Bool.and_eq_true] at u
    exact ⟨en, r, t, rfl, hk, VR.cut x hN v _ hv u.1, EntR.cut x hN xs vs r hr u.2⟩
  | [], _ :: _, _, e, _ => e.elim

theorem own_cut (x : φ <+: φ') (e : η'.take η.length = η) {b : Addr} (o : own φ η b) : own φ' η' b := by
  obtain ⟨n, p, m, hp, hm, hg, hb⟩ := o
  refine ⟨n, p, m, get_prefix x hp, ?_, hg, hb⟩
  rw [← e, List.getElem?_take] at hm
  split at hm
  · exact hm
  · cases hm

/-- what a function or a comprehension has made for itself is let go -/
theorem Post.cut (P : Post T φ η s φ' η' s') (R : Rel T φ η s.heap) (e : η'.take η.length = η) : Post T φ η s φ η s' := by
  have hN : ∀ b, own φ η b → own φ' η' b := fun b => own_cut P.step.ext e
  refine ⟨⟨List.prefix_refl _, P.step.keep, fun _ o => .inl o, P.step.alive⟩, ⟨R.len, P.rel.base, fun n m p hm hp => ?_, R.fresh, R.disj⟩, P.gens, P.os, P.drawn⟩
  have hm' : η'[n]? = some m := by
    rw [← e, List.getElem?_take] at hm
    split at hm
    · exact hm
    · cases hm
  have a := R.obj n m p hm hp
  have b := P.rel.obj n m p hm' (get_prefix P.step.ext hp)
  unfold OR at a b ⊢
  split at a
  · obtain ⟨_, items, k, _, ha⟩ := a
    obtain ⟨e1, items, k, h1, h2⟩ := b
    exact ⟨e1, items, k, h1, VRs.cut P.step.ext hN _ _ h2 (VRs.under _ _ ha)⟩
  · obtain ⟨_, kvs, _, _, ha⟩ := a
    obtain ⟨e1, kvs, h0, h1, h2⟩ := b
    exact ⟨e1, kvs, h0, h1, VRs.cut P.step.ext hN _ _ h2 (VRs.under _ _ ha)⟩
  · obtain ⟨_, _, es, k, _, ha⟩ := a
    obtain ⟨e1, h1, es, k, h2, h3⟩ := b
    exact ⟨e1, h1, es, k, h2, EntR.cut P.step.ext hN _ _ _ h3 (EntR.under _ _ _ ha)⟩
  · trivial
theorem Post.cutV (P : Post T φ η s φ' η' s') (R : Rel T φ η s.heap) (e : η'.take η.length = η) {v : V} {x : Value} (r : VR T φ' (own φ' η') s'.heap v x) (u : v.refUnder η.length = true) : VR T φ (own φ η) s'.heap v x :=
  VR.cut P.step.ext (fun _ => own_cut P.step.ext e) v x r (by rw [R.len]; exact u)
theorem Post.cutVs (P : Post T φ η s φ' η' s') (R : Rel T φ η s.heap) (e : η'.take η.length = η) {v : List V} {x : List Value} (r : VRs T φ' (own φ' η') s'.heap v x) (u : V.refsUnder η.length v = true) : VRs T φ (own φ η) s'.heap v x :=
  VRs.cut P.step.ext (fun _ => own_cut P.step.ext e) v x r (by rw [R.len]; exact u)
end
end Mine
end
section
namespace Mine
open PySem PyProof.Rows

noncomputable abbrev Gam := List (Str × Nat)

/-- a namespace of a frame or of a comprehension -/
noncomputable def NsAt (h : Heap) (a : Addr) (c : String) (m : Str → Option Value) : Prop := h.Ns a m ∧ ∃ o, h.get? a = some o ∧ o.cls = .type c
noncomputable def CellAt (h : Heap) (a : Addr) (v : Option Value) : Prop := ∃ o, h.get? a = some o ∧ o.cls = .type "cell" ∧ o.data = .cell v
theorem CellAt.is {h : Heap} {a : Addr} {v : Option Value} (x : CellAt h a v) : h.IsCell a v := let ⟨o, h1, _, h2⟩ := x; ⟨o, h1, h2⟩

/-- one frame: its names and their slots -/
structure FR (T : St) (φ : Phi) (η : H) (h : Heap) (L : Addr) (env : Env) (sc : Scope) (Γ : Gam) (ρ : Rho) : Prop where
  sc : env.scope = sc
  kind : env.scope.kind = .function
  glob : env.globals = mainGlobals
  bi : env.builtins = builtinsNs
  frame : env.frame = some L
  ns : ∃ c m, NsAt h env.locals c m ∧ (c = "frame" ∨ c = "dict") ∧ ∀ n i v, Γ.lookup n = some i → env.kindOf n = some .local → ρ[i]? = some (some v) → ∃ x, m n = some x ∧ VR T φ (own φ η) h v x
  cell : ∀ n i, Γ.lookup n = some i → env.kindOf n = some .cell → ∃ c ov, env.cells.lookup n = some c ∧ CellAt h c ov ∧ ∀ v, ρ[i]? = some (some v) → ∃ x, ov = some x ∧ VR T φ (own φ η) h v x
  lfresh : ¬ own φ η env.locals ∧ T.base.get? env.locals = none
  cthere : ∀ n c, env.cells.lookup n = some c → ∃ ov, CellAt h c ov
  cfresh : ∀ n c, env.cells.lookup n = some c → ¬ own φ η c ∧ T.base.get? c = none
  apart : ∀ n n' c, env.cells.lookup n = some c → env.cells.lookup n' = some c → n = n'
  inj : ∀ n n' i, Γ.lookup n = some i → Γ.lookup n' = some i → n = n'

theorem StayO.data {o : Obj} {h : Heap} {b : Addr} (x : StayO o h b) (hd : ∀ vs, o.data ≠ .fields vs) : ∃ o', h.get? b = some o' ∧ o'.data = o.data ∧ o'.cls = o.cls := by
  rcases x with x | ⟨_, sl, x⟩ | ⟨⟨⟨vs, e⟩, _⟩, _⟩
  · exact ⟨_, x, rfl, rfl⟩
  · exact ⟨_, x, rfl, rfl⟩
  · exact absurd e (hd vs)

section
variable {T : St} {A : Around} {L : Addr} {φ φ' : Phi} {η η' : H} {s s' : Shared} {h h' : Heap} {env : Env} {sc : Scope} {Γ : Gam} {ρ : Rho}

theorem Step.ns {a : Addr} {c : String} {m : Str → Option Value} (st : Step φ η h φ' η' h') (hN : ¬ own φ η a) (x : NsAt h a c m) : NsAt h' a c m := by
  obtain ⟨⟨o, es, ep, ho, hd, r⟩, o₂, ho₂, hc⟩ := x
  rw [ho] at ho₂; cases ho₂
  obtain ⟨o', ho', hd', hc'⟩ := (st.keep a o hN ho).data fun vs q => by rw [hd] at q; cases q
  exact ⟨⟨o', es, ep, ho', hd'.trans hd, r⟩, o', ho', hc'.trans hc⟩
theorem Step.cell {a : Addr} {v : Option Value} (st : Step φ η h φ' η' h') (hN : ¬ own φ η a) (x : CellAt h a v) : CellAt h' a v := by
  obtain ⟨o, ho, hc, hd⟩ := x
  obtain ⟨o', ho', hd', hc'⟩ := (st.keep a o hN ho).data fun vs q => by rw [hd] at q; cases q
  exact ⟨o', ho', hc'.trans hc, hd'.trans hd⟩

theorem FR.step (F : FR T φ η h L env sc Γ ρ) (st : Step φ η h φ' η' h') : FR T φ' η' h' L env sc Γ ρ where
  sc := F.sc
  kind := F.kind
  glob := F.glob
  bi := F.bi
  frame := F.frame
  ns := by
    obtain ⟨c, m, hn, hc, hv⟩ := F.ns
    refine ⟨c, m, st.ns F.lfresh.1 hn, hc, fun n i v h1 h2 h3 => ?_⟩
    obtain ⟨x, e, r⟩ := hv n i v h1 h2 h3
    exact ⟨x, e, VR.step st _ _ r⟩
  cell := fun n i h1 h2 => by
    obtain ⟨c, ov, e, hc, hv⟩ := F.cell n i h1 h2
    refine ⟨c, ov, e, st.cell (F.cfresh n c e).1 hc, fun v hr => ?_⟩
    obtain ⟨x, e', r⟩ := hv v hr
    exact ⟨x, e', VR.step st _ _ r⟩
  lfresh := by
    obtain ⟨_, m, ⟨_, o, ho, _⟩, _⟩ := F.ns
    exact ⟨st.off F.lfresh.1 ho, F.lfresh.2⟩
  cthere := fun n c e => let ⟨ov, x⟩ := F.cthere n c e; ⟨ov, st.cell (F.cfresh n c e).1 x⟩
  cfresh := fun n c e => by
    obtain ⟨_, o, ho, _⟩ := F.cthere n c e
    exact ⟨st.off (F.cfresh n c e).1 ho, (F.cfresh n c e).2⟩
  apart := F.apart
  inj := F.inj

/-- an object that no value stands for -/
noncomputable def Priv (o : Obj) : Prop := ∃ c, o.cls = .type c ∧ c ≠ "tuple" ∧ c ≠ "list"

mutual
theorem VR.but {N : Addr → Prop} {a : Addr} {o : Obj} (g : h.get? a = some o) (p : Priv o) (k : ∀ b o, b ≠ a → h.get? b = some o → h'.get? b = some o) : ∀ (v : V) (x : Value), VR T φ N h v x → VR T φ N h' v x
  | .none, _, e => e
  | .bool _, _, e => e
  | .int _, _, e => e
  | .str _, _, e => e
  | .tup xs, x, e => by
    simp only [VR] at e ⊢
    obtain ⟨b, items, n, rfl, hN, hg, hr⟩ := e
    refine ⟨b, items, n, rfl, hN, k b _ (fun q => ?_) hg, VRs.but g p k xs _ hr⟩
    rw [q, g] at hg; cases hg; obtain ⟨c, e, h1, h2⟩ := p; cases e; exact h1 rfl
  | .lst xs, x, e => by
    simp only [VR] at e ⊢
    obtain ⟨b, items, n, rfl, hN, hg, hr⟩ := e
    refine ⟨b, items, n, rfl, hN, k b _ (fun q => ?_) hg, VRs.but g p k xs _ hr⟩
    rw [q, g] at hg; cases hg; obtain ⟨c, e, h1, h2⟩ := p; cases e; exact h2 rfl
  | .dct, _, e => by simp only [VR] at e
  | .ref n, x, e => e
  | .exc c, x, e => by
    simp only [VR] at e ⊢
    obtain ⟨b, ob, rfl, hN, hg, hc, hd⟩ := e
    refine ⟨b, ob, rfl, hN, k b _ (fun q => ?_) hg, hc, hd⟩
    rw [q, g] at hg; cases hg; obtain ⟨c, e, h1, h2⟩ := p; rw [hc] at e; cases e
theorem VRs.but {N : Addr → Prop} {a : Addr} {o : Obj} (g : h.get? a = some o) (p : Priv o) (k : ∀ b o, b ≠ a → h.get? b = some o → h'.get? b = some o) : ∀ (v : List V) (x : List Value), VRs T φ N h v x → VRs T φ N h' v x
  | [], _, e => e
  | y :: ys, x, e => by
    simp only [VRs] at e ⊢
    obtain ⟨v, r, rfl, h1, h2⟩ := e
    exact ⟨v, r, rfl, VR.but g p k y v h1, VRs.but g p k ys r h2⟩
end
theorem EntR.but {N : Addr → Prop} {a : Addr} {o : Obj} (g : h.get? a = some o) (p : Priv o) (k : ∀ b o, b ≠ a → h.get? b = some o → h'.get? b = some o) : ∀ (xs : List Str) (vs : List V) (es : List DictEntry), EntR T φ N h xs vs es → EntR T φ N h' xs vs es
  | [], [], _, e => e
  | _ :: _, [], _, e => e
  | x :: xs, v :: vs, es, e => by
    simp only [EntR] at e ⊢
    obtain ⟨en, r, t, rfl, hk, hv, hr⟩ := e
    exact ⟨en, r, t, rfl, hk, VR.but g p k v _ hv, EntR.but g p k xs vs r hr⟩
  | [], _ :: _, _, e => e.elim

/-- a private object turns -/
theorem Rel.but {a : Addr} {o : Obj} (R : Rel T φ η h) (g : h.get? a = some o) (p : Priv o) (ha : ¬ own φ η a) (hb : T.base.get? a = none) (k : ∀ b o, b ≠ a → h.get? b = some o → h'.get? b = some o) : Rel T φ η h' where
  len := R.len
  base := fun b ob e => k b ob (fun q => by rw [q, hb] at e; cases e) (R.base b ob e)
  obj := fun n m q hm hq => by
    by_cases gm : m = .gone
    · subst gm; trivial
    have o1 : q.1 ≠ a := fun e => ha ⟨n, q, m, hq, hm, gm, .inl e.symm⟩
    have o2 : q.2 ≠ a := fun e => ha ⟨n, q, m, hq, hm, gm, .inr e.symm⟩
    have x := R.obj n m q hm hq
    unfold OR at x ⊢
    split at x
    · obtain ⟨e, items, n, h1, h2⟩ := x
      exact ⟨e, items, n, k _ _ o1 h1, VRs.but g p k _ _ h2⟩
    · obtain ⟨e, kvs, ⟨ob, es, ep, h0, h0'⟩, h1, h2⟩ := x
      exact ⟨e, kvs, ⟨ob, es, ep, k _ _ o1 h0, h0'⟩, h1, VRs.but g p k _ _ h2⟩
    · obtain ⟨e, h1, es, n, h2, h3⟩ := x
      exact ⟨e, k _ _ o1 h1, es, n, k _ _ o2 h2, EntR.but g p k _ _ _ h3⟩
    · trivial
  fresh := R.fresh
  disj := R.disj

/-- the same, seen from a state in which it was not yet there -/
theorem Post.but {φ₀ : Phi} {η₀ : H} {s₀ : Shared} {a : Addr} {o : Obj} {t : Nat} (P : Post T φ₀ η₀ s₀ φ η s) (h0 : s₀.heap.get? a = none) (g : s.heap.get? a = some o) (p : Priv o) (ha : ¬ own φ η a) (hb : T.base.get? a = none)
    (k : ∀ b o, b ≠ a → s.heap.get? b = some o → h'.get? b = some o) : Post T φ₀ η₀ s₀ φ η { s with heap := h', toks := t } := by
  refine ⟨⟨P.step.ext, fun b ob hN e => ?_, P.step.osub, fun b ob e => ?_⟩, P.rel.but g p ha hb k, P.gens, P.os, P.drawn⟩
  · have hba : b ≠ a := fun q => by rw [q, h0] at e; cases e
    exact (P.step.keep b ob hN e).trans fun o' e' => .inl (k b o' hba e')
  · have hba : b ≠ a := fun q => by rw [q, h0] at e; cases e
    obtain ⟨o', e'⟩ := Option.isSome_iff_exists.mp (P.step.alive b ob e)
    rw [k b o' hba e']; rfl

theorem nsSet_at {a : Addr} {cl : String} {m : Str → Option Value} {n : Str} {v : Value} {Q : Unit → Shared → Prop} {E : Value → Shared → Prop} {M : Model} (hn : NsAt s.heap a cl m)
    (hQ : ∀ h', NsAt h' a cl (fun x => if x = n then some v else m x) → Heap.SameBut a s.heap h' → Q () { s with heap := h', toks := s.toks + 1 }) : wpAny M A (nsSet a n v) Q E s := by
  obtain ⟨⟨o, es, ep, ho, hd, hk, hm⟩, o₂, ho₂, hc⟩ := hn
  rw [ho] at ho₂; cases ho₂
  have hany : es.any (·.refKey) = false := by
    rw [Array.any_eq_false']; intro e he; obtain ⟨n, t, h⟩ := hk e he; simp [DictEntry.refKey, h]
  intro Γ p _
  simp only [nsSet, strHash, Sem.wp_bind', Sem.wp_cmd_ask, Sem.wp_pure', Sem.wp_cmd_mkText]
  rw [Sem.wp_loadPart_of M Γ (fun e _ s => E e s) p { s with toks := s.toks + 1 } (o := o) _ ho]
  simp only [hd, aRefKeyMayBeTheName_at, hany, Bool.and_false, Bool.false_eq_true, if_false, Sem.wp_cmd_updatePart]
  refine ⟨by rw [ho]; rfl, hQ _ ?_ (Heap.SameBut.update ..)⟩
  obtain ⟨c, d, dt, sl⟩ := o
  subst hd
  rw [Obj.putName_eq]
  cases hi : es.findIdx? (·.key.isStr n) with
  | some i =>
    have e : ∀ hs k, Obj.putNameByArray n hs k v ⟨c, d, .dict es ep, sl⟩ = ⟨c, d, .dict (es.modify i fun e => { e with val := v }) ep, sl⟩ := fun hs k => by simp only [Obj.putNameByArray, hi]
    refine ⟨⟨_, _, ep, Heap.get?_update_self _ ho (by rw [e]; rfl), by rw [e], hk.modify _ _, fun x => ?_⟩, _, Heap.get?_update_self _ ho (by rw [e]; rfl), by rw [e]; exact hc⟩
    show _ = if x = n then some v else m x
    rw [← hm]; exact findBy_modify (fun n v => v.isStr n) Value.isStr_inj es n x v i hi
  | none =>
    have e : ∀ hs k, Obj.putNameByArray n hs k v ⟨c, d, .dict es ep, sl⟩ = ⟨c, d, .dict (es.push ⟨hs, k, v⟩) (ep + 1), sl⟩ := fun hs k => by simp only [Obj.putNameByArray, hi]
    refine ⟨⟨_, _, ep + 1, Heap.get?_update_self _ ho (by rw [e]; rfl), by rw [e], hk.push _ _ _ _, fun x => ?_⟩, _, Heap.get?_update_self _ ho (by rw [e]; rfl), by rw [e]; exact hc⟩
    show _ = if x = n then some v else m x
    rw [← hm]
    refine findBy_push (fun n v => v.isStr n) es n x _ _ v (fun y => ?_) hi
    show (n == y) = decide (y = n)
    by_cases h : y = n
    · subst h; simp
    · have : ¬ n = y := fun e => h e.symm
      simp [h, this]
end
end Mine
end
section
namespace Mine
open PySem PyProof.Rows

/-- a frame's state, seen from the call's start -/
structure FS (cw : Bool) (T : St) (A : Around) (L : Addr) (φ₀ : Phi) (η₀ : H) (s₀ : Shared) (φ : Phi) (η : H) (s : Shared) (env : Env) (sc : Scope) (Γ : Gam) (ρ : Rho) : Prop where
  post : Post T φ₀ η₀ s₀ φ η s
  fr : FR T φ η s.heap L env sc Γ ρ
  stk : ∃ top outer, A.frames = some (top :: outer) ∧ top.frame = some L ∧ Stk T φ η (top :: outer) s.heap
  l0 : s₀.heap.get? env.locals = none
  c0 : cw = true → ∀ n c, env.cells.lookup n = some c → s₀.heap.get? c = none

section
variable {cw : Bool} {T : St} {A : Around} {L : Addr} {φ₀ φ φ' : Phi} {η₀ η η' : H} {s₀ s s' : Shared} {h h' : Heap} {env : Env} {sc : Scope} {Γ : Gam} {ρ : Rho}

theorem FS.step (F : FS cw T A L φ₀ η₀ s₀ φ η s env sc Γ ρ) (p : Post T φ η s φ' η' s') : FS cw T A L φ₀ η₀ s₀ φ' η' s' env sc Γ ρ :=
  ⟨F.post.trans p, F.fr.step p.step, let ⟨t, o, h1, h2, h3⟩ := F.stk; ⟨t, o, h1, h2, h3.step p.step⟩, F.l0, F.c0⟩

/-- a name's value -/
theorem sim_var {n : Str} {i : Nat} {pos : Pos} (F : FR T φ η s.heap L env sc Γ ρ) (R : Rel T φ η s.heap) (hΓ : Γ.lookup n = some i) (hk : sc.names.lookup n = some .local ∨ sc.names.lookup n = some .cell) (hd : (n == ("__debug__" : Str)) = false) :
    Sim T A L φ η s (eval (.Name n pos) env) (match ρ[i]? with | some (some v) => .ok v η | _ => .fail) (QV T) := by
  split
  · rename_i v e
    refine .ok rfl (wpAny_Name ?_ hd)
    rcases hk with hk | hk
    · have hk' : env.kindOf n = some .local := by unfold Env.kindOf; rw [F.sc]; exact hk
      obtain ⟨c, m, hn, _, hv⟩ := F.ns
      obtain ⟨x, hx, r⟩ := hv n i v hΓ hk' e
      exact wpAny_loadName_local F.kind hk' hn.1 hx ⟨φ, .refl R, r⟩
    · have hk' : env.kindOf n = some .cell := by unfold Env.kindOf; rw [F.sc]; exact hk
      obtain ⟨c, ov, hc, hcell, hv⟩ := F.cell n i hΓ hk'
      obtain ⟨x, rfl, r⟩ := hv v e
      exact wpAny_loadName_cell F.kind hk' hc hcell.is ⟨φ, .refl R, r⟩
  · exact .fail

theorem Stk.but {l : List Env} {a : Addr} {o : Obj} (S : Stk T φ η l h) (g : h.get? a = some o) (k : ∀ b o, b ≠ a → h.get? b = some o → h'.get? b = some o)
    (hn : o.cls = .type "frame" → ∃ o', h'.get? a = some o' ∧ o'.cls = .type "frame" ∧ ∃ es n, o'.data = .dict es n) : Stk T φ η l h' := fun env he => by
  obtain ⟨hk, L, o₁, hf, hb, ho, hg, hc, es, n, hd⟩ := S env he
  by_cases e : L = a
  · subst e
    rw [g] at hg; cases hg
    obtain ⟨o', e', hc', hd'⟩ := hn hc
    exact ⟨hk, L, o', hf, hb, ho, e', hc', hd'⟩
  · exact ⟨hk, L, o₁, hf, hb, ho, k L o₁ e hg, hc, es, n, hd⟩

theorem getElem?_set_some {i j : Nat} {o : Option V} {v : V} (e : (ρ.set i o)[j]? = some (some v)) : (j = i ∧ o = some v) ∨ (j ≠ i ∧ ρ[j]? = some (some v)) := by
  by_cases h : i = j
  · subst h
    by_cases hl : i < ρ.length
    · rw [List.getElem?_set_self hl] at e; cases e; exact .inl ⟨rfl, rfl⟩
    · rw [List.getElem?_eq_none (by simp; omega)] at e; cases e
  · rw [List.getElem?_set_ne h] at e; exact .inr ⟨Ne.symm h, e⟩

/-- a name gets a value -/
theorem FS.store {A₂ : Around} {n : Str} {i : Nat} {v : V} {x : Value} {Q : Unit → Shared → Prop} {E : Value → Shared → Prop} (F : FS cw T A L φ₀ η₀ s₀ φ η s env sc Γ ρ) (hΓ : Γ.lookup n = some i) (hk : sc.names.lookup n = some .local ∨ (sc.names.lookup n = some .cell ∧ cw = true))
    (r : VR T φ (own φ η) s.heap v x) (h : ∀ s', FS cw T A L φ₀ η₀ s₀ φ η s' env sc Γ (ρ.set i (some v)) → (∀ b o, b ≠ env.locals → (∀ n c, env.cells.lookup n = some c → b ≠ c) → s.heap.get? b = some o → s'.heap.get? b = some o) → (∀ b o, s.heap.get? b = some o → (s'.heap.get? b).isSome = true) → (∀ (w : List V) y, VRs T φ (own φ η) s.heap w y → VRs T φ (own φ η) s'.heap w y) → Q () s') : wpAny T.M A₂ (storeName env n x) Q E s := by
  rcases hk with hk | ⟨hk, hcw⟩
  · have hk' : env.kindOf n = some .local := by unfold Env.kindOf; rw [F.fr.sc]; exact hk
    obtain ⟨c, m, hn, hc, hv⟩ := F.fr.ns
    obtain ⟨hns, o, g, ho⟩ := id hn
    have hp : (env.scope.kind == .class || (env.scope.kind == .module && env.locals != env.globals)) = false := by rw [F.fr.kind]; rfl
    have pv : Priv o := ⟨c, ho, by rcases hc with rfl | rfl <;> decide, by rcases hc with rfl | rfl <;> decide⟩
    rw [storeName_local hk' hp]
    refine nsSet_at hn fun h' hn' hs => h _ ?_ (fun b o hb _ e => (hs.2 b hb).trans e) (fun b o e => ?_) (fun w y r => VRs.but g pv (fun b o hb e => (hs.2 b hb).trans e) _ _ r)
    rotate_left
    · by_cases hb : b = env.locals
      · obtain ⟨_, o', e', _⟩ := hn'
        rw [hb, e']; rfl
      · rw [hs.2 b hb, e]; rfl
    have k : ∀ b o, b ≠ env.locals → s.heap.get? b = some o → h'.get? b = some o := fun b o hb e => (hs.2 b hb).trans e
    have notc : ∀ n c, env.cells.lookup n = some c → c ≠ env.locals := fun n c e q => by
      obtain ⟨ov, o', e', _, hd'⟩ := F.fr.cthere n c e
      obtain ⟨o₁, es, ep, e₁, hd₁, _⟩ := hns
      rw [q, e₁] at e'; cases e'; rw [hd₁] at hd'; cases hd'
    refine ⟨F.post.but F.l0 g pv F.fr.lfresh.1 F.fr.lfresh.2 k, ⟨F.fr.sc, F.fr.kind, F.fr.glob, F.fr.bi, F.fr.frame, ⟨c, _, hn', hc, fun n' j w h1 h2 h3 => ?_⟩, fun n' j h1 h2 => ?_, F.fr.lfresh, fun n' c' e => ?_, F.fr.cfresh, F.fr.apart, F.fr.inj⟩, ?_, F.l0, F.c0⟩
    · rcases getElem?_set_some h3 with ⟨hj, hw⟩ | ⟨hj, hw⟩
      · cases hw
        have : n' = n := F.fr.inj n' n j h1 (hj ▸ hΓ)
        subst this
        exact ⟨x, by simp, VR.but g pv k _ _ r⟩
      · obtain ⟨y, hy, ry⟩ := hv n' j w h1 h2 hw
        have hne : n' ≠ n := fun q => by rw [q, hΓ] at h1; cases h1; exact hj rfl
        exact ⟨y, by simp [hne, hy], VR.but g pv k _ _ ry⟩
    · obtain ⟨c', ov, e, hc', hv'⟩ := F.fr.cell n' j h1 h2
      obtain ⟨o', e', hc'', hd'⟩ := hc'
      refine ⟨c', ov, e, ⟨o', k c' o' (notc n' c' e) e', hc'', hd'⟩, fun w hw => ?_⟩
      rcases getElem?_set_some hw with ⟨hj, hw⟩ | ⟨hj, hw⟩
      · have : n' = n := F.fr.inj n' n j h1 (hj ▸ hΓ)
        subst this; rw [hk'] at h2; cases h2
      · obtain ⟨y, hy, ry⟩ := hv' w hw
        exact ⟨y, hy, VR.but g pv k _ _ ry⟩
    · obtain ⟨ov, o', e', hc'', hd'⟩ := F.fr.cthere n' c' e
      exact ⟨ov, o', k c' o' (notc n' c' e) e', hc'', hd'⟩
    · obtain ⟨t, u, h1, h2, h3⟩ := F.stk
      refine ⟨t, u, h1, h2, h3.but g k fun q => ?_⟩
      obtain ⟨⟨o₁, es, ep, e₁, hd₁, _⟩, o₂, e₂, hc₂⟩ := hn'
      rw [e₁] at e₂; cases e₂
      exact ⟨o₁, e₁, by rw [hc₂, ← ho, q], es, ep, hd₁⟩
  · have hk' : env.kindOf n = some .cell := by unfold Env.kindOf; rw [F.fr.sc]; exact hk
    obtain ⟨c, ov, hc, ⟨o, g, hcl, hd⟩, hv⟩ := F.fr.cell n i hΓ hk'
    have pv : Priv o := ⟨"cell", hcl, by decide, by decide⟩
    unfold storeName
    simp only [hk', F.fr.kind]
    refine wpAny_bind (wpAny_cellOf hc ?_)
    unfold cellSet
    refine wpAny_bind (wpAny_load g ?_)
    rw [hd]
    refine wpAny_update g (h _ ?_ (fun b o' hb hcb e => (Heap.get?_update_other _ _ (Ne.symm (hcb n c hc))).trans e) (fun b o' e => ?_) (fun w y r => VRs.but g pv (fun b o' hb e => (Heap.get?_update_other _ _ (Ne.symm hb)).trans e) _ _ r))
    rotate_left
    · by_cases hb : b = c
      · rw [hb, Heap.get?_update_self (fun o => { o with data := Data.cell (some x) }) g rfl]; rfl
      · rw [show (s.heap.update c fun o => { o with data := .cell (some x) }).get? b = s.heap.get? b from Heap.get?_update_other _ _ (Ne.symm hb), e]; rfl
    have k : ∀ b o', b ≠ c → s.heap.get? b = some o' → (s.heap.update c fun o => { o with data := .cell (some x) }).get? b = some o' := fun b o' hb e => (Heap.get?_update_other _ _ (Ne.symm hb)).trans e
    have gc : (s.heap.update c fun o => { o with data := .cell (some x) }).get? c = some { o with data := .cell (some x) } := Heap.get?_update_self _ g rfl
    obtain ⟨cc, m, hn, hcc, hvn⟩ := F.fr.ns
    have notl : env.locals ≠ c := fun q => by
      obtain ⟨⟨o₁, es, ep, e₁, hd₁, _⟩, _⟩ := hn
      rw [q, g] at e₁; cases e₁; rw [hd₁] at hd; cases hd
    refine ⟨F.post.but (t := s.toks) (F.c0 hcw n c hc) g pv (F.fr.cfresh n c hc).1 (F.fr.cfresh n c hc).2 k, ⟨F.fr.sc, F.fr.kind, F.fr.glob, F.fr.bi, F.fr.frame, ⟨cc, m, ?_, hcc, fun n' j w h1 h2 h3 => ?_⟩, fun n' j h1 h2 => ?_, F.fr.lfresh, fun n' c' e => ?_, F.fr.cfresh, F.fr.apart, F.fr.inj⟩, ?_, F.l0, F.c0⟩
    · obtain ⟨⟨o₁, es, ep, e₁, r₁⟩, o₂, e₂, hc₂⟩ := hn
      exact ⟨⟨o₁, es, ep, k _ _ notl e₁, r₁⟩, o₂, k _ _ notl e₂, hc₂⟩
    · rcases getElem?_set_some h3 with ⟨hj, hw⟩ | ⟨hj, hw⟩
      · have : n' = n := F.fr.inj n' n j h1 (hj ▸ hΓ)
        subst this; rw [hk'] at h2; cases h2
      · obtain ⟨y, hy, ry⟩ := hvn n' j w h1 h2 hw
        exact ⟨y, hy, VR.but g pv k _ _ ry⟩
    · by_cases hne : n' = n
      · subst hne
        refine ⟨c, some x, hc, ⟨_, gc, hcl, rfl⟩, fun w hw => ?_⟩
        rw [hΓ] at h1; cases h1
        rcases getElem?_set_some hw with ⟨_, hw⟩ | ⟨hj, _⟩
        · cases hw; exact ⟨x, rfl, VR.but g pv k _ _ r⟩
        · exact absurd rfl hj
      · obtain ⟨c', ov', e, ⟨o', e', hc'', hd'⟩, hv'⟩ := F.fr.cell n' j h1 h2
        have hcc' : c' ≠ c := fun q => hne (F.fr.apart n' n c (q ▸ e) hc)
        refine ⟨c', ov', e, ⟨o', k c' o' hcc' e', hc'', hd'⟩, fun w hw => ?_⟩
        rcases getElem?_set_some hw with ⟨hj, _⟩ | ⟨_, hw⟩
        · exact absurd (F.fr.inj n' n j h1 (hj ▸ hΓ)) hne
        · obtain ⟨y, hy, ry⟩ := hv' w hw
          exact ⟨y, hy, VR.but g pv k _ _ ry⟩
    · by_cases hcc' : c' = c
      · subst hcc'; exact ⟨some x, _, gc, hcl, rfl⟩
      · obtain ⟨ov', o', e', hc'', hd'⟩ := F.fr.cthere n' c' e
        exact ⟨ov', o', k c' o' hcc' e', hc'', hd'⟩
    · obtain ⟨t, u, h1, h2, h3⟩ := F.stk
      exact ⟨t, u, h1, h2, h3.but g k fun q => by rw [hcl] at q; simp at q⟩
end
end Mine
end
section
set_option bootstrap.genMatcherCode false
set_option backward.match.sparseCases false
namespace Mine
section
open PySem PyProof.Rows

/-- names of what the program's numbers stand for -/
structure Nm where
  fnm : List Str
  clm : List Str
  exm : List Str
  glm : List Str
  glv : List V
  tbm : List Str
  atm : List Str
  mtm : List (Nat × Str)
  /-- with classes, exceptions, enumerate -/
  ext : Bool

noncomputable def isLoc (sc : Scope) (n : Str) : Bool := (sc.names.lookup n == some .local || sc.names.lookup n == some .cell) && !(n == ("__debug__" : Str))
noncomputable def isGlo (sc : Scope) (n : Str) : Bool := sc.names.lookup n == some .globalImplicit && !(n == ("__debug__" : Str))
noncomputable def atName (l : List Str) (i : Nat) (n : Str) : Bool := l[i]? == some n && !(n == ("" : Str))

noncomputable def constEq : V → V → Bool
  | .none, .none => true
  | .bool a, .bool b => a == b
  | .int a, .int b => a == b
  | .str a, .str b => a == b
  | _, _ => false
noncomputable def constOk : V → Const → Bool
  | .none, .none => true
  | .bool a, .bool b => a == b
  | .int a, .int b => a == b
  | .str a, .str b => b.cps.toList == a
  | _, _ => false
noncomputable def biName : Bi → Str
  | .len => "len" | .int => "int" | .str => "str" | .tuple => "tuple" | .sorted => "sorted" | .min => "min" | .max => "max"
noncomputable def bmName : Bm → Str
  | .append => "append" | .pop => "pop" | .remove => "remove" | .index => "index" | .count => "count" | .join => "join" | .split => "split"
noncomputable def tyName (N : Nm) : Ty → Option Str
  | .int => some "int" | .bool => some "bool" | .str => some "str" | .tuple => some "tuple" | .list => some "list" | .valueError => some "ValueError"
  | .cls c => (N.exm[c]?).filter fun n => !(n == ("" : Str))

noncomputable def relabelS (csc sc : Scope) : Scope :=
  { csc with names := csc.names.map fun (n, k) => if (k == .free && sc.kind == .function && sc.names.lookup n == some .cell) then (n, .cell) else (n, k) }
/-- a comprehension's scope -/
noncomputable def compOk (csc sc : Scope) (n : Str) (Γ : Gam) (x : Nat) : Bool :=
  csc.kind == .function && csc.names.all (fun p => !(p.2 == .cell)) && csc.names.all (fun p => !(p.2 == .local) || csc.names.lookup p.1 == some .local) && csc.names.lookup n == some .local
    && csc.names.all (fun p => !(p.2 == .free) || (sc.kind == .function && sc.names.lookup p.1 == some .cell && (csc.names.lookup p.1 == some .free) && (Γ.lookup p.1).isSome))
    && Γ.all (fun p => !(p.2 == x)) && csc.names.all (fun p => !(p.2 == .local) || p.1 == n || (Γ.lookup p.1).isNone)
noncomputable def notSet : Expr → Bool
  | .Set .. => false
  | _ => true
noncomputable def notSlice : Expr → Bool
  | .Slice .. => false
  | _ => true
noncomputable def notComp : Expr → Bool
  | .ListComp .. | .SetComp .. | .DictComp .. => false
  | _ => true
noncomputable def isComp : E → Bool
  | .comp .. => true
  | _ => false
noncomputable def plainTest (e : E) : Expr → Bool
  | .UnaryOp .. | .BoolOp .. | .IfExp .. => false
  | .Compare .. => match e with | .cmp .. | .cmp2 .. | .inTab .. => true | _ => false
  | _ => true
noncomputable def isNoneE : E → Bool
  | .const .none => true
  | _ => false
/-- nothing of super() -/
noncomputable def notSuper : Expr → Bool
  | .Call (.Name id _) [] [] _ => !(id == ("super" : Str))
  | _ => true

-- views of an expression
noncomputable def asNameP : (x : Expr) → Option { n : Str // ∃ p, x = .Name n p }
  | .Name n z0 => some ⟨n, z0, rfl⟩
  | _ => none
noncomputable def asName (x : Expr) : Option (Str) := (asNameP x).map Subtype.val
noncomputable def asConstP : (x : Expr) → Option { n : Const // ∃ k p, x = .Constant n k p }
  | .Constant c z0 z1 => some ⟨c, z0, z1, rfl⟩
  | _ => none
noncomputable def asConst (x : Expr) : Option (Const) := (asConstP x).map Subtype.val
noncomputable def asNegP : (x : Expr) → Option { j : Int // ∃ k p p', x = .UnaryOp .USub (.Constant (.int j) k p) p' }
  | .UnaryOp .USub (.Constant (.int j) z0 z1) z2 => some ⟨j, z0, z1, z2, rfl⟩
  | _ => none
noncomputable def asNeg (x : Expr) : Option (Int) := (asNegP x).map Subtype.val
noncomputable def asBinP : (x : Expr) → Option { q : Expr × Operator × Expr // ∃ p, x = .BinOp q.1 q.2.1 q.2.2 p }
  | .BinOp l o r z0 => some ⟨(l, o, r), z0, rfl⟩
  | _ => none
noncomputable def asBin (x : Expr) : Option (Expr × Operator × Expr) := (asBinP x).map Subtype.val
noncomputable def asNotP : (x : Expr) → Option { y : Expr // ∃ p, x = .UnaryOp .Not y p }
  | .UnaryOp .Not x z0 => some ⟨x, z0, rfl⟩
  | _ => none
noncomputable def asNot (x : Expr) : Option (Expr) := (asNotP x).map Subtype.val
noncomputable def asAndP : (x : Expr) → Option { y : List Expr // ∃ p, x = .BoolOp .And y p }
  | .BoolOp .And vs z0 => some ⟨vs, z0, rfl⟩
  | _ => none
noncomputable def asAnd (x : Expr) : Option (List Expr) := (asAndP x).map Subtype.val
noncomputable def asOrP : (x : Expr) → Option { y : List Expr // ∃ p, x = .BoolOp .Or y p }
  | .BoolOp .Or vs z0 => some ⟨vs, z0, rfl⟩
  | _ => none
noncomputable def asOr (x : Expr) : Option (List Expr) := (asOrP x).map Subtype.val
noncomputable def asCmpP : (x : Expr) → Option { q : Expr × List CmpOp × List Expr // ∃ p, x = .Compare q.1 q.2.1 q.2.2 p }
  | .Compare l os rs z0 => some ⟨(l, os, rs), z0, rfl⟩
  | _ => none
noncomputable def asCmp (x : Expr) : Option (Expr × List CmpOp × List Expr) := (asCmpP x).map Subtype.val
noncomputable def asIfP : (x : Expr) → Option { q : Expr × Expr × Expr // ∃ p, x = .IfExp q.1 q.2.1 q.2.2 p }
  | .IfExp t x y z0 => some ⟨(t, x, y), z0, rfl⟩
  | _ => none
noncomputable def asIf (x : Expr) : Option (Expr × Expr × Expr) := (asIfP x).map Subtype.val
noncomputable def asCallP : (x : Expr) → Option { q : Str × List Expr // ∃ p p', x = .Call (.Name q.1 p) q.2 [] p' }
  | .Call (.Name n z0) as [] z1 => some ⟨(n, as), z0, z1, rfl⟩
  | _ => none
noncomputable def asCall (x : Expr) : Option (Str × List Expr) := (asCallP x).map Subtype.val
noncomputable def asMethP : (x : Expr) → Option { q : Expr × Str × Bool × List Expr // ∃ p p', x = .Call (.Attribute q.1 q.2.1 p) q.2.2.2 [] p' ∧ q.2.2.1 = (p.endLine == p'.line) }
  | .Call (.Attribute x name apos) as [] pos => some ⟨(x, name, apos.endLine == pos.line, as), apos, pos, rfl, rfl⟩
  | _ => none
noncomputable def asMeth (x : Expr) : Option (Expr × Str × Bool × List Expr) := (asMethP x).map Subtype.val
noncomputable def asAttr : Expr → Option (Expr × Str)
  | .Attribute x name _ => some (x, name)
  | _ => none
noncomputable def asSubP : (x : Expr) → Option { q : Expr × Expr // ∃ p, x = .Subscript q.1 q.2 p }
  | .Subscript x i z0 => some ⟨(x, i), z0, rfl⟩
  | _ => none
noncomputable def asSub (x : Expr) : Option (Expr × Expr) := (asSubP x).map Subtype.val
noncomputable def asSliceP : (x : Expr) → Option { q : Option Expr × Option Expr // ∃ p, x = .Slice q.1 q.2 none p }
  | .Slice l u none z0 => some ⟨(l, u), z0, rfl⟩
  | _ => none
noncomputable def asSlice (x : Expr) : Option (Option Expr × Option Expr) := (asSliceP x).map Subtype.val
noncomputable def asListP : (x : Expr) → Option { q : List Expr // ∃ p, x = .List q p }
  | .List xs z0 => some ⟨xs, z0, rfl⟩
  | _ => none
noncomputable def asList (x : Expr) : Option (List Expr) := (asListP x).map Subtype.val
noncomputable def asTupleP : (x : Expr) → Option { q : List Expr // ∃ k p, x = .Tuple q k p }
  | .Tuple xs z0 z1 => some ⟨xs, z0, z1, rfl⟩
  | _ => none
noncomputable def asTuple (x : Expr) : Option (List Expr) := (asTupleP x).map Subtype.val
noncomputable def asCompP : (x : Expr) → Option { q : Expr × Str × Expr × List Expr × Scope // ∃ p p', x = .ListComp q.1 [⟨.Name q.2.1 p, q.2.2.1, q.2.2.2.1, 0⟩] q.2.2.2.2 p' }
  | .ListComp e [⟨.Name n z0, iter, tests, 0⟩] csc z1 => some ⟨(e, n, iter, tests, csc), z0, z1, rfl⟩
  | _ => none
noncomputable def asComp (x : Expr) : Option (Expr × Str × Expr × List Expr × Scope) := (asCompP x).map Subtype.val
noncomputable def asDict0P : (x : Expr) → Option { q : Unit // ∃ p, x = .Dict [] [] p }
  | .Dict [] [] z0 => some ⟨(), z0, rfl⟩
  | _ => none
noncomputable def asDict0 (x : Expr) : Option (Unit) := (asDict0P x).map Subtype.val
noncomputable def one {α : Type} : List α → Option α
  | [x] => some x
  | _ => none
noncomputable def two {α : Type} : List α → Option (α × α)
  | [x, y] => some (x, y)
  | _ => none

mutual
noncomputable def chkE (N : Nm) (sc : Scope) (Γ : Gam) : E → Expr → Bool
  | .var i, x => (asName x).any fun n => Γ.lookup n == some i && isLoc sc n
  | .const v, x => (asConst x).any (constOk v) || (asNeg x).any fun j => constEq v (.int (-j))
  | .glob g v, x => (asName x).any fun n => atName N.glm g n && isGlo sc n && (N.glv[g]?).any (constEq v)
  | .bin op a b, x => (asBin x).any fun p => opOf op == p.2.1 && chkE N sc Γ a p.1 && chkE N sc Γ b p.2.2
  | .rep a b, x => (asBin x).any fun p => p.2.1 == .Mult && chkE N sc Γ a p.1 && chkE N sc Γ b p.2.2
  | .not a, x => (asNot x).any (chkE N sc Γ a)
  | .and es, x => (asAnd x).any (chkEs N sc Γ es)
  | .or es, x => (asOr x).any (chkEs N sc Γ es)
  | .cmp op a b, x => (asCmp x).any fun p => (one p.2.1).any fun o => (one p.2.2).any fun r => copOf op == o && notSet r && chkE N sc Γ a p.1 && chkE N sc Γ b r
  | .cmp2 o1 o2 a b c, x => (asCmp x).any fun p => (two p.2.1).any fun o => (two p.2.2).any fun r => copOf o1 == o.1 && copOf o2 == o.2 && notSet r.2 && chkE N sc Γ a p.1 && chkE N sc Γ b r.1 && chkE N sc Γ c r.2
  | .ite c a b, x => (asIf x).any fun p => chkC N sc Γ c p.1 && chkE N sc Γ a p.2.1 && chkE N sc Γ b p.2.2
  | .call f args, x => (asCall x).any fun p => atName N.fnm f p.1 && isGlo sc p.1 && chkEs N sc Γ args p.2
  | .new c args, x => (asCall x).any fun p => N.ext && atName N.clm c p.1 && isGlo sc p.1 && chkEs N sc Γ args p.2
  | .meth o m args, x => (asMeth x).any fun p => N.ext && N.mtm.lookup m == some p.2.1 && p.2.2.1 && decide (p.2.2.2.length < 30) && notSuper p.1 && chkE N sc Γ o p.1 && chkEs N sc Γ args p.2.2.2
  | .bi b args, x => (asCall x).any fun p => biName b == p.1 && isGlo sc p.1 && chkEs N sc Γ args p.2
  | .bm m o args, x => (asMeth x).any fun p => bmName m == p.2.1 && p.2.2.1 && decide (p.2.2.2.length < 30) && notSuper p.1 && chkE N sc Γ o p.1 && chkEs N sc Γ args p.2.2.2
  | .isinst a t, x => (asCall x).any fun p => p.1 == ("isinstance" : Str) && isGlo sc p.1 && (two p.2).any fun r => (asName r.2).any fun tn => tyName N t == some tn && isGlo sc tn && chkE N sc Γ a r.1
  | .toList _ a, x => (asCall x).any fun p => p.1 == ("list" : Str) && isGlo sc p.1 && (one p.2).any (chkE N sc Γ a)
  | .attr a k, x => (asAttr x).any fun p => N.ext && atName N.atm k p.2 && notSuper p.1 && chkE N sc Γ a p.1
  | .sub a b, x => (asSub x).any fun p => notSlice p.2 && chkE N sc Γ a p.1 && chkE N sc Γ b p.2
  | .slice _ a lo hi, x => (asSub x).any fun p => chkE N sc Γ a p.1 && (asSlice p.2).any fun r => (r.1.elim (isNoneE lo) (chkE N sc Γ lo)) && (r.2.elim (isNoneE hi) (chkE N sc Γ hi))
  | .list _ es, x => (asList x).any fun xs => decide (xs.length ≤ 1000) && chkEs N sc Γ es xs
  | .tuple es, x => (asTuple x).any fun xs => decide (xs.length ≤ 1000) && chkEs N sc Γ es xs
  | .comp _ x elt it ifs, y => (asComp y).any fun p => compOk p.2.2.2.2 sc p.2.1 Γ x && chkIt N sc Γ it p.2.2.1 && chkE N (relabelS p.2.2.2.2 sc) ((p.2.1, x) :: Γ) elt p.1 && chkCs N (relabelS p.2.2.2.2 sc) ((p.2.1, x) :: Γ) ifs p.2.2.2.1
  | .dict0 _, x => (asDict0 x).any fun _ => true
  | .freeze a, e => chkE N sc Γ a e
  | .inTab neg t a, x => (asCmp x).any fun p => (one p.2.1).any fun o => (one p.2.2).any fun r => (asName r).any fun n => o == (if neg then .NotIn else .In) && atName N.tbm t n && isGlo sc n && chkE N sc Γ a p.1
  | .subTab t a, x => (asSub x).any fun p => (asName p.1).any fun n => notSlice p.2 && atName N.tbm t n && isGlo sc n && chkE N sc Γ a p.2
/-- what a loop goes over -/
noncomputable def chkIt (N : Nm) (sc : Scope) (Γ : Gam) : It → Expr → Bool
  | .range1 a, x => notSet x && (asCall x).any fun p => p.1 == ("range" : Str) && isGlo sc p.1 && (one p.2).any (chkE N sc Γ a)
  | .range2 a b, x => notSet x && (asCall x).any fun p => p.1 == ("range" : Str) && isGlo sc p.1 && (two p.2).any fun r => chkE N sc Γ a r.1 && chkE N sc Γ b r.2
  | .of e, x => notSet x && chkE N sc Γ e x
noncomputable def chkEs (N : Nm) (sc : Scope) (Γ : Gam) : List E → List Expr → Bool
  | [], x => x.isEmpty
  | e :: es, x => x.head?.any (chkE N sc Γ e) && chkEs N sc Γ es x.tail
noncomputable def chkC (N : Nm) (sc : Scope) (Γ : Gam) : C → Expr → Bool
  | .not c, x => (asNot x).any (chkC N sc Γ c)
  | .and cs, x => (asAnd x).any (chkCs N sc Γ cs)
  | .or cs, x => (asOr x).any (chkCs N sc Γ cs)
  | .t e, x => plainTest e x && chkE N sc Γ e x
noncomputable def chkCs (N : Nm) (sc : Scope) (Γ : Gam) : List C → List Expr → Bool
  | [], x => x.isEmpty
  | e :: es, x => x.head?.any (chkC N sc Γ e) && chkCs N sc Γ es x.tail
end

noncomputable def asAssignP : (x : Stmt) → Option { q : Expr × Expr // ∃ p, x = .Assign [q.1] q.2 p }
  | .Assign [t] v z0 => some ⟨(t, v), z0, rfl⟩
  | _ => none
noncomputable def asAssign (x : Stmt) : Option (Expr × Expr) := (asAssignP x).map Subtype.val
noncomputable def asExprSP : (x : Stmt) → Option { q : Expr // ∃ p, x = .Expr q p }
  | .Expr v z0 => some ⟨v, z0, rfl⟩
  | _ => none
noncomputable def asExprS (x : Stmt) : Option (Expr) := (asExprSP x).map Subtype.val
noncomputable def asIfSP : (x : Stmt) → Option { q : Expr × List Stmt × List Stmt // ∃ p, x = .If q.1 q.2.1 q.2.2 p }
  | .If t x y z0 => some ⟨(t, x, y), z0, rfl⟩
  | _ => none
noncomputable def asIfS (x : Stmt) : Option (Expr × List Stmt × List Stmt) := (asIfSP x).map Subtype.val
noncomputable def asForP : (x : Stmt) → Option { q : Expr × Expr × List Stmt // ∃ p, x = .For q.1 q.2.1 q.2.2 [] p }
  | .For t iter b [] z0 => some ⟨(t, iter, b), z0, rfl⟩
  | _ => none
noncomputable def asFor (x : Stmt) : Option (Expr × Expr × List Stmt) := (asForP x).map Subtype.val
noncomputable def asWhileP : (x : Stmt) → Option { q : Expr × List Stmt // ∃ p, x = .While q.1 q.2 [] p }
  | .While t b [] z0 => some ⟨(t, b), z0, rfl⟩
  | _ => none
noncomputable def asWhile (x : Stmt) : Option (Expr × List Stmt) := (asWhileP x).map Subtype.val
noncomputable def asRetP : (x : Stmt) → Option { q : Expr // ∃ p, x = .Return (some q) p }
  | .Return (some v) z0 => some ⟨v, z0, rfl⟩
  | _ => none
noncomputable def asRet (x : Stmt) : Option (Expr) := (asRetP x).map Subtype.val
noncomputable def asRaiseP : (x : Stmt) → Option { n : Str // ∃ np m k mp cp pos, x = .Raise (some (.Call (.Name n np) [.Constant (.str m) k mp] [] cp)) none pos }
  | .Raise (some (.Call (.Name n np) [.Constant (.str m) k mp] [] cp)) none pos => some ⟨n, np, m, k, mp, cp, pos, rfl⟩
  | _ => none
noncomputable def asRaise (x : Stmt) : Option Str := (asRaiseP x).map Subtype.val
noncomputable def asTryP : (x : Stmt) → Option { q : List Stmt × List ExceptHandler // ∃ p, x = .Try q.1 q.2 [] [] p }
  | .Try b hs [] [] z0 => some ⟨(b, hs), z0, rfl⟩
  | _ => none
noncomputable def asTry (x : Stmt) : Option (List Stmt × List ExceptHandler) := (asTryP x).map Subtype.val
noncomputable def asHandlerP : (x : ExceptHandler) → Option { q : Str × Option Str × List Stmt // ∃ np p, x = .ExceptHandler (some (.Name q.1 np)) q.2.1 q.2.2 p }
  | .ExceptHandler (some (.Name n z0)) nm b z1 => some ⟨(n, nm, b), z0, z1, rfl⟩
  | _ => none
noncomputable def asHandler (x : ExceptHandler) : Option (Str × Option Str × List Stmt) := (asHandlerP x).map Subtype.val
noncomputable def hNameOk (sc : Scope) (Γ : Gam) : Option Nat → Option Str → Bool
  | none, none => true
  | some i, some y => Γ.lookup y == some i && sc.names.lookup y == some .local
  | _, _ => false
mutual
noncomputable def chkS (N : Nm) (sc : Scope) (Γ : Gam) : S → Stmt → Bool
  | .assign x e, z => (asAssign z).any fun p => (asName p.1).any fun n => Γ.lookup n == some x && isLoc sc n && chkE N sc Γ e p.2 && (notComp p.2 || isComp e)
  | .setattr o k e, z => (asAssign z).any fun p => (asAttr p.1).any fun r => N.ext && atName N.atm k r.2 && notComp p.2 && chkE N sc Γ o r.1 && chkE N sc Γ e p.2
  | .setsub o i e, z => (asAssign z).any fun p => (asSub p.1).any fun r => notSlice r.2 && notComp p.2 && chkE N sc Γ o r.1 && chkE N sc Γ i r.2 && chkE N sc Γ e p.2
  | .expr e, z => (asExprS z).any fun v => notComp v && chkE N sc Γ e v
  | .ite c a b, z => (asIfS z).any fun p => chkC N sc Γ c p.1 && chkSs N sc Γ a p.2.1 && chkSs N sc Γ b p.2.2
  | .for1 x it body, z => (asFor z).any fun p => (asName p.1).any fun n => Γ.lookup n == some x && isLoc sc n && chkIt N sc Γ it p.2.1 && chkSs N sc Γ body p.2.2
  | .for2 _ _ _ _, _ => false
  | .while c body, z => (asWhile z).any fun p => chkC N sc Γ c p.1 && chkSs N sc Γ body p.2
  | .ret e, z => (asRet z).any (chkE N sc Γ e)
  | .raise c _, z => (asRaise z).any fun n => atName N.exm c n && isGlo sc n
  | .try body hs, z => (asTry z).any fun p => chkSs N sc Γ body p.1 && !p.2.isEmpty && chkHs N sc Γ hs p.2
noncomputable def chkHs (N : Nm) (sc : Scope) (Γ : Gam) : List (Nat × Option Nat × List S) → List ExceptHandler → Bool
  | [], x => x.isEmpty
  | (k, x, b) :: r, y => (y.head?.any fun h => (asHandler h).any fun p => atName N.exm k p.1 && isGlo sc p.1 && hNameOk sc Γ x p.2.1 && !p.2.2.isEmpty && chkSs N sc Γ b p.2.2) && chkHs N sc Γ r y.tail
noncomputable def chkSs (N : Nm) (sc : Scope) (Γ : Gam) : List S → List Stmt → Bool
  | [], x => x.isEmpty
  | s :: ss, x => x.head?.any (chkS N sc Γ s) && chkSs N sc Γ ss x.tail
end

noncomputable def parNames (p : Arguments) : List Str := p.args.map (·.arg)
noncomputable def parOk (sc : Scope) (Γ : Gam) : Nat → List Str → Bool
  | _, [] => true
  | k, n :: r => Γ.lookup n == some k && isLoc sc n && !(r.contains n) && parOk sc Γ (k + 1) r
noncomputable def nodupN : List Nat → Bool
  | [] => true
  | k :: r => !(r.contains k) && nodupN r
noncomputable def isNoneV : Value → Bool
  | .none => true
  | _ => false
/-- a function's text -/
noncomputable def chkF (N : Nm) (F : Fn) (Γ : Gam) (fd : FuncData) : Bool :=
  (match fd.body with | .stmts b => chkSs N fd.scope Γ F.body b | _ => false) && fd.scope.kind == .function && !fd.scope.isGenerator && !fd.scope.isCoroutine
    && fd.closure.isEmpty && fd.globals == mainGlobals && fd.builtins == builtinsNs
    && fd.params.posonlyargs.isEmpty && fd.params.vararg.isNone && fd.params.kwonlyargs.isEmpty && fd.params.kwarg.isNone
    && (parNames fd.params).length == F.npar && parOk fd.scope Γ 0 (parNames fd.params) && nodupN (Γ.map (·.2)) && decide (F.npar ≤ F.nloc) && isNoneV fd.defaults
end
end Mine
end
section
namespace Mine
open PySem PyProof.Rows

theorem any_some {α : Type} {o : Option α} {f : α → Bool} (h : o.any f = true) : ∃ a, o = some a ∧ f a = true := by
  cases o with
  | none => cases h
  | some a => exact ⟨a, rfl, h⟩
theorem constEq_eq : ∀ {v w : V}, constEq v w = true → v = w
  | .none, w, h => by cases w <;> first | rfl | exact absurd h Bool.false_ne_true
  | .bool a, w, h => by
    cases w with
    | bool b => exact congrArg V.bool (beq_iff_eq.mp h)
    | _ => exact absurd h Bool.false_ne_true
  | .int a, w, h => by
    cases w with
    | int b => exact congrArg V.int (beq_iff_eq.mp h)
    | _ => exact absurd h Bool.false_ne_true
  | .str a, w, h => by
    cases w with
    | str b => exact congrArg V.str (beq_iff_eq.mp h)
    | _ => exact absurd h Bool.false_ne_true
  | .tup _, w, h => by cases w <;> exact absurd h Bool.false_ne_true
  | .lst _, w, h => by cases w <;> exact absurd h Bool.false_ne_true
  | .dct, w, h => by cases w <;> exact absurd h Bool.false_ne_true
  | .ref _, w, h => by cases w <;> exact absurd h Bool.false_ne_true
  | .exc _, w, h => by cases w <;> exact absurd h Bool.false_ne_true
theorem val_eq {α : Type} {Q : α → Prop} {o : Option (Subtype Q)} {a : α} (h : o.map Subtype.val = some a) : Q a := by
  obtain ⟨s, _, rfl⟩ := Option.map_eq_some_iff.mp h
  exact s.2
theorem one_eq {α : Type} {l : List α} {a : α} (h : one l = some a) : l = [a] := by
  cases l with
  | nil => cases h
  | cons x r => cases r with
    | nil => cases h; rfl
    | cons _ _ => cases h
theorem two_eq {α : Type} {l : List α} {a : α × α} (h : two l = some a) : l = [a.1, a.2] := by
  cases l with
  | nil => cases h
  | cons x r => cases r with
    | nil => cases h
    | cons y r => cases r with
      | nil => cases h; rfl
      | cons _ _ => cases h
theorem asName_eq {x : Expr} {n : Str} (h : asName x = some n) : ∃ p, x = .Name n p := val_eq (o := asNameP x) h
theorem asConst_eq {x : Expr} {n : Const} (h : asConst x = some n) : ∃ k p, x = .Constant n k p := val_eq (o := asConstP x) h
theorem asNeg_eq {x : Expr} {j : Int} (h : asNeg x = some j) : ∃ k p p', x = .UnaryOp .USub (.Constant (.int j) k p) p' := val_eq (o := asNegP x) h
theorem asBin_eq {x : Expr} {q : Expr × Operator × Expr} (h : asBin x = some q) : ∃ p, x = .BinOp q.1 q.2.1 q.2.2 p := val_eq (o := asBinP x) h
theorem asNot_eq {x y : Expr} (h : asNot x = some y) : ∃ p, x = .UnaryOp .Not y p := val_eq (o := asNotP x) h
theorem asAnd_eq {x : Expr} {y : List Expr} (h : asAnd x = some y) : ∃ p, x = .BoolOp .And y p := val_eq (o := asAndP x) h
theorem asOr_eq {x : Expr} {y : List Expr} (h : asOr x = some y) : ∃ p, x = .BoolOp .Or y p := val_eq (o := asOrP x) h
theorem asCmp_eq {x : Expr} {q : Expr × List CmpOp × List Expr} (h : asCmp x = some q) : ∃ p, x = .Compare q.1 q.2.1 q.2.2 p := val_eq (o := asCmpP x) h
theorem asIf_eq {x : Expr} {q : Expr × Expr × Expr} (h : asIf x = some q) : ∃ p, x = .IfExp q.1 q.2.1 q.2.2 p := val_eq (o := asIfP x) h
theorem asCall_eq {x : Expr} {q : Str × List Expr} (h : asCall x = some q) : ∃ p p', x = .Call (.Name q.1 p) q.2 [] p' := val_eq (o := asCallP x) h
theorem asMeth_eq {x : Expr} {q : Expr × Str × Bool × List Expr} (h : asMeth x = some q) : ∃ p p', x = .Call (.Attribute q.1 q.2.1 p) q.2.2.2 [] p' ∧ q.2.2.1 = (p.endLine == p'.line) := val_eq (o := asMethP x) h
theorem asSub_eq {x : Expr} {q : Expr × Expr} (h : asSub x = some q) : ∃ p, x = .Subscript q.1 q.2 p := val_eq (o := asSubP x) h
theorem asSlice_eq {x : Expr} {q : Option Expr × Option Expr} (h : asSlice x = some q) : ∃ p, x = .Slice q.1 q.2 none p := val_eq (o := asSliceP x) h
theorem asList_eq {x : Expr} {q : List Expr} (h : asList x = some q) : ∃ p, x = .List q p := val_eq (o := asListP x) h
theorem asTuple_eq {x : Expr} {q : List Expr} (h : asTuple x = some q) : ∃ k p, x = .Tuple q k p := val_eq (o := asTupleP x) h
theorem asComp_eq {x : Expr} {q : Expr × Str × Expr × List Expr × Scope} (h : asComp x = some q) : ∃ p p', x = .ListComp q.1 [⟨.Name q.2.1 p, q.2.2.1, q.2.2.2.1, 0⟩] q.2.2.2.2 p' := val_eq (o := asCompP x) h
theorem asAssign_eq {x : Stmt} {q : Expr × Expr} (h : asAssign x = some q) : ∃ p, x = .Assign [q.1] q.2 p := val_eq (o := asAssignP x) h
theorem asExprS_eq {x : Stmt} {q : Expr} (h : asExprS x = some q) : ∃ p, x = .Expr q p := val_eq (o := asExprSP x) h
theorem asIfS_eq {x : Stmt} {q : Expr × List Stmt × List Stmt} (h : asIfS x = some q) : ∃ p, x = .If q.1 q.2.1 q.2.2 p := val_eq (o := asIfSP x) h
theorem asFor_eq {x : Stmt} {q : Expr × Expr × List Stmt} (h : asFor x = some q) : ∃ p, x = .For q.1 q.2.1 q.2.2 [] p := val_eq (o := asForP x) h
theorem asRet_eq {x : Stmt} {q : Expr} (h : asRet x = some q) : ∃ p, x = .Return (some q) p := val_eq (o := asRetP x) h
theorem asRaise_eq {x : Stmt} {n : Str} (h : asRaise x = some n) : ∃ np m k mp cp pos, x = .Raise (some (.Call (.Name n np) [.Constant (.str m) k mp] [] cp)) none pos := val_eq (o := asRaiseP x) h
theorem asTry_eq {x : Stmt} {q : List Stmt × List ExceptHandler} (h : asTry x = some q) : ∃ p, x = .Try q.1 q.2 [] [] p := val_eq (o := asTryP x) h
theorem asHandler_eq {x : ExceptHandler} {q : Str × Option Str × List Stmt} (h : asHandler x = some q) : ∃ np p, x = .ExceptHandler (some (.Name q.1 np)) q.2.1 q.2.2 p := val_eq (o := asHandlerP x) h
theorem hName {sc : Scope} {Γ : Gam} {x : Option Nat} {nm : Option Str} (h : hNameOk sc Γ x nm = true) : (x = none ∧ nm = none) ∨ ∃ i y, x = some i ∧ nm = some y ∧ Γ.lookup y = some i ∧ sc.names.lookup y = some .local := by
  cases x <;> cases nm
  · exact .inl ⟨rfl, rfl⟩
  · cases h
  · cases h
  · have h := Bool.and_eq_true_iff.mp h
    exact .inr ⟨_, _, rfl, rfl, beq_iff_eq.mp h.1, beq_iff_eq.mp h.2⟩
end Mine
end
section
namespace Mine
open PySem PyProof.Rows

/-- what lies around a step -/
structure Cxt (T : St) (A : Around) (L : Addr) (q : Bool) (d : Nat) (φ : Phi) (η : H) (s : Shared) : Prop where
  hand : q = true → A.handled = none
  depth : A.depth + 4 * d + 4 ≤ recursionLimit
  units : A.units + 20 * d + 20 < cLine
  stk : ∃ top outer, A.frames = some (top :: outer) ∧ top.frame = some L ∧ Stk T φ η (top :: outer) s.heap
  rel : Rel T φ η s.heap

section
variable {T : St} {A : Around} {L : Addr} {q : Bool} {d : Nat} {φ φ' : Phi} {η η' : H} {s s' : Shared} {env : Env} {sc : Scope} {Γ : Gam} {ρ : Rho} {α β : Type}

theorem Cxt.step (X : Cxt T A L q d φ η s) (p : Post T φ η s φ' η' s') : Cxt T A L q d φ' η' s' :=
  ⟨X.hand, X.depth, X.units, let ⟨t, o, h1, h2, h3⟩ := X.stk; ⟨t, o, h1, h2, h3.step p.step⟩, p.rel⟩

theorem Sim.operate {vs : List Value} {t : Sem Value} {r : R β} {Q : QR Value β} (h : Sim T A L φ η s t r Q) : Sim T A L φ η s (PySem.operate vs t) r Q := h.imp id wpAny_operateT
theorem Sim.release {vs ks : List Value} {k : Unit → Sem α} {r : R β} {Q : QR α β} (h : Sim T A L φ η s (k ()) r Q) : Sim T A L φ η s (PySem.release vs ks >>= k) r Q := h.imp id fun h => wpAny_bind (wpAny_release h)
theorem Sim.pureBind {γ : Type} {a : γ} {k : γ → Sem α} {r : R β} {Q : QR α β} (h : Sim T A L φ η s (k a) r Q) : Sim T A L φ η s ((Pure.pure a : Sem γ) >>= k) r Q := h.imp id fun h => wpAny_bind (wpAny_pure h)
theorem Sim.cast {t : Sem α} {r r' : R β} {Q : QR α β} (h : Sim T A L φ η s t r' Q) (e : r = r') : Sim T A L φ η s t r Q := e ▸ h

/-- an expression -/
noncomputable def SimE (T : St) (q : Bool) (d : Nat) (call : Nat → List V → H → R V) (sc : Scope) (Γ : Gam) (e : E) (x : Expr) : Prop :=
  ∀ A L φ η s env ρ, Cxt T A L q d φ η s → FR T φ η s.heap L env sc Γ ρ → Sim T A L φ η s (eval x env) (evE T.P q call e ρ η) (QV T)
noncomputable def SimEs (T : St) (q : Bool) (d : Nat) (call : Nat → List V → H → R V) (sc : Scope) (Γ : Gam) (e : List E) (x : List Expr) : Prop :=
  ∀ A L φ η s env ρ pos, Cxt T A L q d φ η s → FR T φ η s.heap L env sc Γ ρ → Sim T A L φ η s (spliced (backTo pos (starEach x env))) (evEs T.P q call e ρ η) (QVs T)
/-- a test -/
noncomputable def SimC (T : St) (q : Bool) (d : Nat) (call : Nat → List V → H → R V) (sc : Scope) (Γ : Gam) (c : C) (x : Expr) : Prop :=
  ∀ A L φ η s env ρ, Cxt T A L q d φ η s → FR T φ η s.heap L env sc Γ ρ → Sim T A L φ η s (isTrue x env (eval x env)) (evC T.P q call c ρ η) QB

variable {call : Nat → List V → H → R V}

theorem e_const {v : V} {c : Const} {k : Nat} {pos : Pos} (h : constOk v c = true) : SimE T q d call sc Γ (.const v) (.Constant c k pos) := by
  intro A L φ η s env ρ X F
  show Sim T A L φ η s (constValue env c) (.ok v η) (QV T)
  unfold constOk at h
  split at h
  · exact .pure X.rel (by simp [QV, VR])
  · rw [beq_iff_eq] at h; subst h; exact .pure X.rel (by simp [QV, VR])
  · rw [beq_iff_eq] at h; subst h; exact .ok rfl (wpAny_mkInt ⟨φ, .toks X.rel, by simp [QV, VR]⟩)
  · rename_i a b
    rw [beq_iff_eq] at h; subst h
    exact .ok rfl (wpAny_mkText ⟨φ, .toks X.rel, by simp only [QV, VR]; exact ⟨s.toks, by cases b; simp⟩⟩)
  · cases h

theorem e_bin {op : Op} {a b : E} {l r : Expr} {pos : Pos} (h1 : SimE T q d call sc Γ a l) (h2 : SimE T q d call sc Γ b r) : SimE T q d call sc Γ (.bin op a b) (.BinOp l (opOf op) r pos) := by
  intro A L φ η s env ρ X F
  rw [eval_BinOp]
  refine Sim.bind (h1 A L φ η s env ρ X F) fun v η' φ' x s' _ p hq => ?_
  refine Sim.bind (Sim.holding (h2 A L φ' η' s' env ρ (X.step p) (F.step p.step))) fun w η'' φ'' y s'' _ p' hq' => ?_
  exact .standAt (.operate (sim_bin op p'.rel (VR.step p'.step _ _ hq) hq'))

theorem truth_some {v : V} {b : Bool} (e : truth η v = some b) : v = .bool b := by
  unfold truth at e
  split at e
  · cases e; rfl
  · cases e

/-- the truth of a value -/
theorem sim_truth {v : V} {x : Value} (R : Rel T φ η s.heap) (r : QV T φ η s.heap v x) : Sim T A L φ η s (truthy x) (match truth η v with | some b => .ok b η | none => .fail) QB := by
  cases e : truth η v with
  | none => exact .fail
  | some b =>
    have := truth_some e; subst this
    simp only [QV, VR] at r; subst r
    exact .ok rfl (wpAny_truthy_bool ⟨φ, .refl R, rfl⟩)

theorem e_not {a : E} {x : Expr} {pos : Pos} (h1 : SimE T q d call sc Γ a x) : SimE T q d call sc Γ (.not a) (.UnaryOp .Not x pos) := by
  intro A L φ η s env ρ X F
  rw [eval_UnaryOp]
  refine Sim.bind (h1 A L φ η s env ρ X F) fun v η' φ' x s' _ p hq => ?_
  refine .standAt (.holding ?_)
  show Sim T A L φ' η' s' (unaryOp .Not x) _ (QV T)
  unfold unaryOp
  refine .holding ?_
  show Sim T A L φ' η' s' (do return .bool (!(← truthy x))) _ (QV T)
  cases e : truth η' v with
  | none => exact .fail
  | some b =>
    have := truth_some e; subst this
    simp only [QV, VR] at hq; subst hq
    exact .ok rfl (wpAny_bind (wpAny_truthy_bool (wpAny_pure ⟨φ', .refl p.rel, by simp [QV, VR]⟩)))

theorem e_ite {c : C} {a b : E} {t x y : Expr} {pos : Pos} (h0 : SimC T q d call sc Γ c t) (h1 : SimE T q d call sc Γ a x) (h2 : SimE T q d call sc Γ b y) : SimE T q d call sc Γ (.ite c a b) (.IfExp t x y pos) := by
  intro A L φ η s env ρ X F
  rw [eval_IfExp]
  refine Sim.bind (h0 A L φ η s env ρ X F) fun v η' φ' b s' _ p hq => ?_
  cases hq
  cases v with
  | true => exact h1 A L φ' η' s' env ρ (X.step p) (F.step p.step)
  | false => exact h2 A L φ' η' s' env ρ (X.step p) (F.step p.step)

theorem es_nil : SimEs T q d call sc Γ [] [] := fun A L φ η s env ρ pos X _ => .pure X.rel (by simp [QVs, VRs])

/-- no star -/
noncomputable def plainArg : Expr → Bool
  | .Starred .. => false
  | _ => true
theorem starEach_plain {x : Expr} {xs : List Expr} (h : plainArg x = true) : starEach (x :: xs) env = (false, eval x env) :: starEach xs env := by
  cases x <;> first | rfl | cases h

theorem es_cons {e : E} {es : List E} {x : Expr} {xs : List Expr} (hx : plainArg x = true) (h1 : SimE T q d call sc Γ e x) (h2 : SimEs T q d call sc Γ es xs) : SimEs T q d call sc Γ (e :: es) (x :: xs) := by
  intro A L φ η s env ρ pos X F
  rw [starEach_plain hx]
  show Sim T A L φ η s (spliced ((false, eval x env) :: backTo pos (starEach xs env))) _ _
  rw [spliced]
  refine Sim.bind (h1 A L φ η s env ρ X F) fun v η' φ' y s' _ p hq => ?_
  simp only [Bool.false_eq_true, if_false]
  refine .pureBind ?_
  refine Sim.bind (Sim.holding (h2 A L φ' η' s' env ρ pos (X.step p) (F.step p.step))) fun vs η'' φ'' ys s'' _ p' hq' => ?_
  exact .pure p'.rel (by simp only [QVs, VRs]; exact ⟨y, ys, rfl, VR.step p'.step _ _ hq, hq'⟩)
end
end Mine
end
section
namespace Mine
open PySem PyProof.Rows

section
variable {T : St} {A : Around} {L : Addr} {q : Bool} {d : Nat} {φ φ' : Phi} {η η' : H} {s s' : Shared} {env : Env} {sc : Scope} {Γ : Gam} {ρ : Rho} {α β : Type} {call : Nat → List V → H → R V}

/-- single expressions of a list -/
noncomputable def SimL (T : St) (q : Bool) (d : Nat) (call : Nat → List V → H → R V) (sc : Scope) (Γ : Gam) : List E → List Expr → Prop
  | [], [] => True
  | e :: es, x :: xs => SimE T q d call sc Γ e x ∧ SimL T q d call sc Γ es xs
  | _, _ => False
noncomputable def SimCL (T : St) (q : Bool) (d : Nat) (call : Nat → List V → H → R V) (sc : Scope) (Γ : Gam) : List C → List Expr → Prop
  | [], [] => True
  | e :: es, x :: xs => SimC T q d call sc Γ e x ∧ SimCL T q d call sc Γ es xs
  | _, _ => False

theorem Sim.assoc {γ δ : Type} {a : Sem γ} {f : γ → Sem δ} {k : δ → Sem α} {r : R β} {Q : QR α β} (h : Sim T A L φ η s (a >>= fun x => f x >>= k) r Q) : Sim T A L φ η s ((a >>= f) >>= k) r Q :=
  h.imp id fun h Γ' p hΓ => by have := h Γ' p hΓ; simpa only [Sem.wp_bind'] using this
theorem Sim.held {γ : Type} {vs : List Value} {a : Sem γ} {k : γ → Sem α} {r : R β} {Q : QR α β} (h : Sim T A L φ η s (a >>= k) r Q) : Sim T A L φ η s (PySem.holding vs a >>= k) r Q :=
  h.imp id fun h Γ' p hΓ => by have := h Γ' p hΓ; simpa only [Sem.wp_bind', Sem.wp_holding] using this

theorem e_and_aux {pos : Pos} : ∀ (es : List E) (xs : List Expr), SimL T q d call sc Γ es xs → ∀ A L φ η s env ρ, Cxt T A L q d φ η s → FR T φ η s.heap L env sc Γ ρ →
    Sim T A L φ η s (boolOp pos .And (evalEach xs env)) (evAnd T.P q call es ρ η) (QV T)
  | [], [], _, A, L, φ, η, s, env, ρ, X, F => .fail
  | [e], [x], h, A, L, φ, η, s, env, ρ, X, F => h.1 A L φ η s env ρ X F
  | e :: e' :: es, x :: x' :: xs, h, A, L, φ, η, s, env, ρ, X, F => by
    show Sim T A L φ η s (do let v ← eval x env; standAt pos; let t ← holding [v] (truthy v); match BoolOp.And, t with | .And, false | .Or, true => pure v | _, _ => boolOp pos .And (evalEach (x' :: xs) env)) _ _
    refine Sim.bind (h.1 A L φ η s env ρ X F) fun v η' φ' y s' _ p hq => .standAt ?_
    cases e : truth η' v with
    | none => exact .fail
    | some b =>
      have := truth_some e; subst this
      have hy : y = .bool b := by simpa only [QV, VR] using hq
      subst hy
      have rest := e_and_aux (pos := pos) (e' :: es) (x' :: xs) h.2 A L φ' η' s' env ρ (X.step p) (F.step p.step)
      cases b with
      | true => exact rest.imp id fun r => wpAny_bind (wpAny_holding (wpAny_truthy_bool r))
      | false => exact .ok rfl (wpAny_bind (wpAny_holding (wpAny_truthy_bool (wpAny_pure ⟨φ', .refl p.rel, hq⟩))))
  | [], _ :: _, h, _, _, _, _, _, _, _, _, _ => h.elim
  | _ :: _, [], h, _, _, _, _, _, _, _, _, _ => h.elim
  | [_], _ :: _ :: _, h, _, _, _, _, _, _, _, _, _ => h.2.elim
  | _ :: _ :: _, [_], h, _, _, _, _, _, _, _, _, _ => h.2.elim
theorem e_or_aux {pos : Pos} : ∀ (es : List E) (xs : List Expr), SimL T q d call sc Γ es xs → ∀ A L φ η s env ρ, Cxt T A L q d φ η s → FR T φ η s.heap L env sc Γ ρ →
    Sim T A L φ η s (boolOp pos .Or (evalEach xs env)) (evOr T.P q call es ρ η) (QV T)
  | [], [], _, A, L, φ, η, s, env, ρ, X, F => .fail
  | [e], [x], h, A, L, φ, η, s, env, ρ, X, F => h.1 A L φ η s env ρ X F
  | e :: e' :: es, x :: x' :: xs, h, A, L, φ, η, s, env, ρ, X, F => by
    show Sim T A L φ η s (do let v ← eval x env; standAt pos; let t ← holding [v] (truthy v); match BoolOp.Or, t with | .And, false | .Or, true => pure v | _, _ => boolOp pos .Or (evalEach (x' :: xs) env)) _ _
    refine Sim.bind (h.1 A L φ η s env ρ X F) fun v η' φ' y s' _ p hq => .standAt ?_
    cases e : truth η' v with
    | none => exact .fail
    | some b =>
      have := truth_some e; subst this
      have hy : y = .bool b := by simpa only [QV, VR] using hq
      subst hy
      have rest := e_or_aux (pos := pos) (e' :: es) (x' :: xs) h.2 A L φ' η' s' env ρ (X.step p) (F.step p.step)
      cases b with
      | false => exact rest.imp id fun r => wpAny_bind (wpAny_holding (wpAny_truthy_bool r))
      | true => exact .ok rfl (wpAny_bind (wpAny_holding (wpAny_truthy_bool (wpAny_pure ⟨φ', .refl p.rel, hq⟩))))
  | [], _ :: _, h, _, _, _, _, _, _, _, _, _ => h.elim
  | _ :: _, [], h, _, _, _, _, _, _, _, _, _ => h.elim
  | [_], _ :: _ :: _, h, _, _, _, _, _, _, _, _, _ => h.2.elim
  | _ :: _ :: _, [_], h, _, _, _, _, _, _, _, _, _ => h.2.elim
theorem e_and {es : List E} {xs : List Expr} {pos : Pos} (h : SimL T q d call sc Γ es xs) : SimE T q d call sc Γ (.and es) (.BoolOp .And xs pos) := fun A L φ η s env ρ X F => e_and_aux es xs h A L φ η s env ρ X F
theorem e_or {es : List E} {xs : List Expr} {pos : Pos} (h : SimL T q d call sc Γ es xs) : SimE T q d call sc Γ (.or es) (.BoolOp .Or xs pos) := fun A L φ η s env ρ X F => e_or_aux es xs h A L φ η s env ρ X F

theorem marked_off {op : CmpOp} {e : Expr} {t : Sem Value} (h : notSet e = true) : markedBehindIn op e t = t := by
  have : behindInMarks op e = false := by cases e <;> first | rfl | cases h
  unfold markedBehindIn
  rw [this]

theorem e_cmp {op : COp} {a b : E} {l r : Expr} {pos : Pos} (hr : notSet r = true) (h1 : SimE T q d call sc Γ a l) (h2 : SimE T q d call sc Γ b r) : SimE T q d call sc Γ (.cmp op a b) (.Compare l [copOf op] [r] pos) := by
  intro A L φ η s env ρ X F
  show Sim T A L φ η s (do compareChain pos (← eval l env) [copOf op] [markedBehindIn (copOf op) r (eval r env)]) _ _
  rw [marked_off hr]
  refine Sim.bind (h1 A L φ η s env ρ X F) fun v η' φ' x s' _ p hq => ?_
  refine Sim.bind (Sim.holding (h2 A L φ' η' s' env ρ (X.step p) (F.step p.step))) fun w η'' φ'' y s'' _ p' hq' => ?_
  exact .standAt (.operate (sim_cmp op p'.rel (VR.step p'.step _ _ hq) hq' (by have := X.units; omega)))

/-- the truth of a comparison's value -/
theorem Sim.test {t : Sem Value} {o : Option Bool} (h : Sim T A L φ η s t (match o with | some b => .ok (.bool b) η | none => .fail) (QV T)) :
    Sim T A L φ η s (t >>= fun c => PySem.holding [c] (truthy c)) (match o with | some b => .ok b η | none => .fail) QB := by
  cases o with
  | none => exact .fail
  | some b =>
    refine (Sim.bind (g := fun v η' => match v with | .bool b => .ok b η' | _ => .fail) h fun v η' φ' x s' e p r => ?_).cast rfl
    cases e
    simp only [QV, VR] at r; subst r
    exact .ok rfl (wpAny_holding (wpAny_truthy_bool ⟨φ', .refl p.rel, rfl⟩))

theorem c_cmp {op : COp} {a b : E} {l r : Expr} {pos : Pos} (hr : notSet r = true) (h1 : SimE T q d call sc Γ a l) (h2 : SimE T q d call sc Γ b r) : SimC T q d call sc Γ (.t (.cmp op a b)) (.Compare l [copOf op] [r] pos) := by
  intro A L φ η s env ρ X F
  show Sim T A L φ η s (do testChain pos (← eval l env) [copOf op] [markedBehindIn (copOf op) r (eval r env)]) _ _
  rw [marked_off hr]
  have e1 : evC T.P q call (.t (.cmp op a b)) ρ η = (evE T.P q call a ρ η).bind fun x h => (evE T.P q call b ρ h).bind fun y h => match cmpV op h x y with | some b => .ok b h | none => .fail := by
    show ((((evE T.P q call a ρ η).bind fun x h => (evE T.P q call b ρ h).bind fun y h => match cmpV op h x y with | some b => R.ok (V.bool b) h | none => .fail)).bind fun v h => match truth h v with | some b => .ok b h | none => .fail) = _
    cases evE T.P q call a ρ η with
    | ok x h =>
      dsimp only [R.bind]
      cases evE T.P q call b ρ h with
      | ok y h =>
        simp only [R.bind]
        cases cmpV op h x y <;> rfl
      | exc _ _ => rfl
      | fail => rfl
    | exc _ _ => rfl
    | fail => rfl
  rw [e1]
  refine Sim.bind (h1 A L φ η s env ρ X F) fun v η' φ' x s' _ p hq => ?_
  refine Sim.bind (Sim.holding (h2 A L φ' η' s' env ρ (X.step p) (F.step p.step))) fun w η'' φ'' y s'' _ p' hq' => ?_
  refine .standAt ?_
  exact Sim.test (.operate (vs := [x, y]) (sim_cmp op p'.rel (VR.step p'.step _ _ hq) hq' (by have := X.units; omega)))

theorem e_cmp2 {o1 o2 : COp} {a b c : E} {l m r : Expr} {pos : Pos} (hr : notSet r = true) (h1 : SimE T q d call sc Γ a l) (h2 : SimE T q d call sc Γ b m) (h3 : SimE T q d call sc Γ c r) :
    SimE T q d call sc Γ (.cmp2 o1 o2 a b c) (.Compare l [copOf o1, copOf o2] [m, r] pos) := by
  intro A L φ η s env ρ X F
  show Sim T A L φ η s (do compareChain pos (← eval l env) [copOf o1, copOf o2] [eval m env, markedBehindIn (copOf o2) r (eval r env)]) _ _
  rw [marked_off hr]
  refine Sim.bind (h1 A L φ η s env ρ X F) fun v η' φ' x s' _ p hq => ?_
  refine Sim.bind (Sim.holding (h2 A L φ' η' s' env ρ (X.step p) (F.step p.step))) fun w η'' φ'' y s'' _ p' hq' => ?_
  refine .standAt ?_
  have hc := sim_cmp (A := A) (L := L) o1 p'.rel (VR.step p'.step _ _ hq) hq' (by have := X.units; omega)
  cases e : cmpV o1 η'' v w with
  | none => exact .fail
  | some b =>
    rw [e] at hc
    refine (Sim.bind (g := fun z h => if b then (evE T.P q call c ρ h).bind fun z h => match cmpV o2 h w z with | some b => R.ok (V.bool b) h | none => R.fail else R.ok (V.bool b) h) (Sim.holding hc) fun v' η₃ φ₃ c' s₃ e₃ p₃ q₃ => ?_).cast (by cases b <;> rfl)
    cases e₃
    simp only [QV, VR] at q₃; subst q₃
    refine .release ?_
    cases b with
    | false => exact .ok rfl (wpAny_bind (wpAny_holding (wpAny_truthy_bool (wpAny_pure ⟨φ₃, .refl p₃.rel, by simp [QV, VR]⟩))))
    | true =>
      have rest : Sim T A L φ₃ η'' s₃ (compareChain pos y [copOf o2] [eval r env]) ((evE T.P q call c ρ η'').bind fun z h => match cmpV o2 h w z with | some b => R.ok (V.bool b) h | none => R.fail) (QV T) := by
        have pp := (p.trans p').trans p₃
        refine Sim.bind (Sim.holding (h3 A L φ₃ η'' s₃ env ρ (X.step pp) (F.step pp.step))) fun w' η₄ φ₄ y' s₄ _ p₄ q₄ => ?_
        exact .standAt (.operate (sim_cmp o2 p₄.rel (VR.step (p₃.trans p₄).step _ _ hq') q₄ (by have := X.units; omega)))
      exact rest.imp id fun r => wpAny_bind (wpAny_holding (wpAny_truthy_bool r))

theorem c_cmp2 {o1 o2 : COp} {a b c : E} {l m r : Expr} {pos : Pos} (hr : notSet r = true) (h1 : SimE T q d call sc Γ a l) (h2 : SimE T q d call sc Γ b m) (h3 : SimE T q d call sc Γ c r) :
    SimC T q d call sc Γ (.t (.cmp2 o1 o2 a b c)) (.Compare l [copOf o1, copOf o2] [m, r] pos) := by
  intro A L φ η s env ρ X F
  show Sim T A L φ η s (do testChain pos (← eval l env) [copOf o1, copOf o2] [eval m env, markedBehindIn (copOf o2) r (eval r env)]) _ _
  rw [marked_off hr]
  have e1 : evC T.P q call (.t (.cmp2 o1 o2 a b c)) ρ η = (evE T.P q call a ρ η).bind fun x h => (evE T.P q call b ρ h).bind fun y h => match cmpV o1 h x y with
      | some true => (evE T.P q call c ρ h).bind fun z h => match cmpV o2 h y z with | some b => .ok b h | none => .fail
      | some false => .ok false h
      | none => .fail := by
    show ((((evE T.P q call a ρ η).bind fun x h => (evE T.P q call b ρ h).bind fun y h => match cmpV o1 h x y with
      | some true => (evE T.P q call c ρ h).bind fun z h => match cmpV o2 h y z with | some b => R.ok (.bool b) h | none => .fail
      | some false => .ok (.bool false) h
      | none => .fail)).bind fun v h => match truth h v with | some b => .ok b h | none => .fail) = _
    cases evE T.P q call a ρ η with
    | ok x h =>
      dsimp only [R.bind]
      cases evE T.P q call b ρ h with
      | ok y h =>
        simp only [R.bind]
        cases cmpV o1 h x y with
        | none => rfl
        | some b =>
          cases b with
          | false => rfl
          | true =>
            dsimp only
            cases evE T.P q call c ρ h with
            | ok z h => simp only; cases cmpV o2 h y z <;> rfl
            | exc _ _ => rfl
            | fail => rfl
      | exc _ _ => rfl
      | fail => rfl
    | exc _ _ => rfl
    | fail => rfl
  rw [e1]
  refine Sim.bind (h1 A L φ η s env ρ X F) fun v η' φ' x s' _ p hq => ?_
  refine Sim.bind (Sim.holding (h2 A L φ' η' s' env ρ (X.step p) (F.step p.step))) fun w η'' φ'' y s'' _ p' hq' => ?_
  refine .standAt ?_
  have hc := sim_cmp (A := A) (L := L) o1 p'.rel (VR.step p'.step _ _ hq) hq' (by have := X.units; omega)
  cases e : cmpV o1 η'' v w with
  | none => exact .fail
  | some b =>
    rw [e] at hc
    refine (Sim.bind (g := fun z h => if b then (evE T.P q call c ρ h).bind fun z h => match cmpV o2 h w z with | some b => R.ok b h | none => R.fail else R.ok b h) (Sim.holding hc) fun v' η₃ φ₃ c' s₃ e₃ p₃ q₃ => ?_).cast (by cases b <;> rfl)
    cases e₃
    simp only [QV, VR] at q₃; subst q₃
    refine .release ?_
    cases b with
    | false => exact .ok rfl (wpAny_bind (wpAny_holding (wpAny_truthy_bool (wpAny_pure ⟨φ₃, .refl p₃.rel, rfl⟩))))
    | true =>
      have rest : Sim T A L φ₃ η'' s₃ (testChain pos y [copOf o2] [eval r env]) ((evE T.P q call c ρ η'').bind fun z h => match cmpV o2 h w z with | some b => R.ok b h | none => R.fail) QB := by
        have pp := (p.trans p').trans p₃
        refine Sim.bind (Sim.holding (h3 A L φ₃ η'' s₃ env ρ (X.step pp) (F.step pp.step))) fun w' η₄ φ₄ y' s₄ _ p₄ q₄ => ?_
        exact .standAt (Sim.test (.operate (vs := [y, y']) (sim_cmp o2 p₄.rel (VR.step (p₃.trans p₄).step _ _ hq') q₄ (by have := X.units; omega))))
      exact rest.imp id fun r => wpAny_bind (wpAny_holding (wpAny_truthy_bool r))

theorem c_plain {e : E} {x : Expr} (hx : plainTest e x = true) (hc : ∀ l os rs p, x ≠ .Compare l os rs p) (h : SimE T q d call sc Γ e x) : SimC T q d call sc Γ (.t e) x := by
  intro A L φ η s env ρ X F
  have hs : isTrue x env (eval x env) = (do let v ← eval x env; standAt x.pos; holding [v] (truthy v)) := by
    cases x <;> first | rfl | cases hx | exact absurd rfl (hc _ _ _ _)
  rw [hs]
  refine Sim.bind (h A L φ η s env ρ X F) fun v η' φ' y s' _ p hq => .standAt (.holding (sim_truth p.rel hq))

theorem c_not {c : C} {x : Expr} {pos : Pos} (h : SimC T q d call sc Γ c x) : SimC T q d call sc Γ (.not c) (.UnaryOp .Not x pos) := by
  intro A L φ η s env ρ X F
  show Sim T A L φ η s (do return !(← isTrue x env (eval x env))) _ _
  refine Sim.bind (h A L φ η s env ρ X F) fun v η' φ' y s' _ p hq => ?_
  cases hq
  exact .pure p.rel rfl

theorem c_and_aux : ∀ (cs : List C) (xs : List Expr), SimCL T q d call sc Γ cs xs → ∀ A L φ η s env ρ, Cxt T A L q d φ η s → FR T φ η s.heap L env sc Γ ρ → Sim T A L φ η s (allTrue .And xs env) (evCand T.P q call cs ρ η) QB
  | [], [], _, A, L, φ, η, s, env, ρ, X, F => .pure X.rel rfl
  | c :: cs, x :: xs, h, A, L, φ, η, s, env, ρ, X, F => by
    show Sim T A L φ η s (do match BoolOp.And, ← isTrue x env (eval x env) with | .And, false => pure false | .Or, true => pure true | _, _ => allTrue .And xs env) _ _
    refine Sim.bind (h.1 A L φ η s env ρ X F) fun v η' φ' y s' _ p hq => ?_
    cases hq
    cases v with
    | true => exact c_and_aux cs xs h.2 A L φ' η' s' env ρ (X.step p) (F.step p.step)
    | false => exact .pure p.rel rfl
  | [], _ :: _, h, _, _, _, _, _, _, _, _, _ => h.elim
  | _ :: _, [], h, _, _, _, _, _, _, _, _, _ => h.elim
theorem c_or_aux : ∀ (cs : List C) (xs : List Expr), SimCL T q d call sc Γ cs xs → ∀ A L φ η s env ρ, Cxt T A L q d φ η s → FR T φ η s.heap L env sc Γ ρ → Sim T A L φ η s (allTrue .Or xs env) (evCor T.P q call cs ρ η) QB
  | [], [], _, A, L, φ, η, s, env, ρ, X, F => .pure X.rel rfl
  | c :: cs, x :: xs, h, A, L, φ, η, s, env, ρ, X, F => by
    show Sim T A L φ η s (do match BoolOp.Or, ← isTrue x env (eval x env) with | .And, false => pure false | .Or, true => pure true | _, _ => allTrue .Or xs env) _ _
    refine Sim.bind (h.1 A L φ η s env ρ X F) fun v η' φ' y s' _ p hq => ?_
    cases hq
    cases v with
    | false => exact c_or_aux cs xs h.2 A L φ' η' s' env ρ (X.step p) (F.step p.step)
    | true => exact .pure p.rel rfl
  | [], _ :: _, h, _, _, _, _, _, _, _, _, _ => h.elim
  | _ :: _, [], h, _, _, _, _, _, _, _, _, _ => h.elim
theorem c_and {cs : List C} {xs : List Expr} {pos : Pos} (h : SimCL T q d call sc Γ cs xs) : SimC T q d call sc Γ (.and cs) (.BoolOp .And xs pos) := fun A L φ η s env ρ X F => c_and_aux cs xs h A L φ η s env ρ X F
theorem c_or {cs : List C} {xs : List Expr} {pos : Pos} (h : SimCL T q d call sc Γ cs xs) : SimC T q d call sc Γ (.or cs) (.BoolOp .Or xs pos) := fun A L φ η s env ρ X F => c_or_aux cs xs h A L φ η s env ρ X F

theorem e_sub {a b : E} {x i : Expr} {pos : Pos} (hi : notSlice i = true) (h1 : SimE T q d call sc Γ a x) (h2 : SimE T q d call sc Γ b i) : SimE T q d call sc Γ (.sub a b) (.Subscript x i pos) := by
  intro A L φ η s env ρ X F
  rw [eval_Subscript]
  refine Sim.bind (h1 A L φ η s env ρ X F) fun v η' φ' y s' _ p hq => ?_
  refine Sim.bind (Sim.holding (h2 A L φ' η' s' env ρ (X.step p) (F.step p.step))) fun w η'' φ'' z s'' _ p' hq' => .standAt ?_
  exact sim_tail (value := x) (slice := i) (fun o j => by cases i <;> first | rfl | cases hi) p'.rel (VR.step p'.step _ _ hq) hq'

theorem e_slice {mu : Bool} {a lo hi : E} {x : Expr} {l u : Option Expr} {pos pp : Pos} (h1 : SimE T q d call sc Γ a x)
    (h2 : match l with | none => isNoneE lo = true | some e => SimE T q d call sc Γ lo e) (h3 : match u with | none => isNoneE hi = true | some e => SimE T q d call sc Γ hi e) : SimE T q d call sc Γ (.slice mu a lo hi) (.Subscript x (.Slice l u none pp) pos) := by
  intro A L φ η s env ρ X F
  have part : ∀ (o : Option Expr) (e : E) (h : match o with | none => isNoneE e = true | some x => SimE T q d call sc Γ e x) φ η s, Cxt T A L q d φ η s → FR T φ η s.heap L env sc Γ ρ → Sim T A L φ η s (valueOrNone (evalOpt o env)) (evE T.P q call e ρ η) (QV T) := by
    intro o e h φ η s X F
    cases o with
    | none =>
      have : e = .const .none := by
        unfold isNoneE at h; dsimp only at h; split at h
        · rfl
        · cases h
      subst this
      exact .pure X.rel (by simp [QV, VR])
    | some y => exact h A L φ η s env ρ X F
  rw [eval_Subscript]
  refine Sim.bind (h1 A L φ η s env ρ X F) fun v η' φ' y s' _ p hq => ?_
  have X' := X.step p
  have F' := F.step p.step
  show Sim T A L φ' η' s' (holding [y] (do let l ← valueOrNone (evalOpt l env); let u ← holding [l] (valueOrNone (evalOpt u env)); let s ← holding [l, u] (valueOrNone (evalOpt none env)); newFields "slice" [l, u, s]) >>= fun i => do standAt pos; subscriptTail x (.Slice l u none pp) y i) _ _
  refine Sim.held ?_
  refine Sim.assoc ?_
  refine Sim.bind (part l lo h2 φ' η' s' X' F') fun v₁ η₁ φ₁ y₁ s₁ _ p₁ q₁ => ?_
  refine Sim.assoc ?_
  refine Sim.bind (Sim.holding (part u hi h3 φ₁ η₁ s₁ (X'.step p₁) (F'.step p₁.step))) fun v₂ η₂ φ₂ y₂ s₂ _ p₂ q₂ => ?_
  refine Sim.assoc ?_
  refine Sim.held ?_
  refine .pureBind ?_
  exact sim_slice (A := A) (L := L) mu (value := x) (l := l) (u := u) (pp := pp) p₂.rel (VR.step (p₁.trans p₂).step _ _ hq) (VR.step p₂.step _ _ q₁) q₂

theorem evEs_len (P : Prog) : ∀ (es : List E) (ρ : Rho) (η : H) (vs : List V) (η' : H), evEs P q call es ρ η = .ok vs η' → vs.length = es.length
  | [], _, _, _, _, e => by cases e; rfl
  | e :: es, ρ, η, vs, η', h => by
    unfold evEs at h
    cases h1 : evE P q call e ρ η with
    | ok v h1' =>
      rw [h1] at h
      dsimp only [R.bind] at h
      cases h2 : evEs P q call es ρ h1' with
      | ok ws h2' =>
        rw [h2] at h
        dsimp only [R.bind] at h
        cases h
        simp [evEs_len P es ρ h1' ws _ h2]
      | exc _ _ => rw [h2] at h; cases h
      | fail => rw [h2] at h; cases h
    | exc _ _ => rw [h1] at h; cases h
    | fail => rw [h1] at h; cases h

theorem e_list {mu : Bool} {es : List E} {xs : List Expr} {pos : Pos} (hl : es.length ≤ 1000) (h : SimEs T q d call sc Γ es xs) : SimE T q d call sc Γ (.list mu es) (.List xs pos) := by
  intro A L φ η s env ρ X F
  show Sim T A L φ η s (do standAt pos; newList (← spliced (backTo pos (starEach xs env)))) _ _
  refine .standAt (Sim.bind (h A L φ η s env ρ pos X F) fun vs η' φ' ys s' e p hq => ?_)
  obtain ⟨v, η'', φ'', e', p', r⟩ := mk_list mu p.rel (items := ys.toArray) (by simpa using hq) s'.toks
  refine .ok e' (wpAny_newList ⟨φ'', p', r⟩ ?_)
  have h1 := VRs.length hq
  have h2 := evEs_len T.P es ρ η vs η' e
  exact line_le (by omega)

theorem e_tuple {es : List E} {xs : List Expr} {k : Nat} {pos : Pos} (hl : es.length ≤ 1000) (h : SimEs T q d call sc Γ es xs) : SimE T q d call sc Γ (.tuple es) (.Tuple xs k pos) := by
  intro A L φ η s env ρ X F
  show Sim T A L φ η s (do standAt pos; newTuple (← spliced (backTo pos (starEach xs env)))) _ _
  refine .standAt (Sim.bind (h A L φ η s env ρ pos X F) fun vs η' φ' ys s' e p hq => ?_)
  have hv := mk_tup p.rel (items := ys.toArray) (by simpa using hq) s'.toks
  refine .ok rfl (wpAny_newTuple ⟨φ', hv.1, hv.2⟩ ?_)
  have h1 := VRs.length hq
  have h2 := evEs_len T.P es ρ η vs η' e
  exact line_le (by omega)

theorem own_free {n : Nat} {p : Addr × Addr} (R : Rel T φ η s.heap) {xs : List V} (hn : η[n]? = some (.list xs)) (hp : φ[n]? = some p) : ¬ own φ (η.set n .gone) p.1 := by
  rintro ⟨k, p', m, hp', hm, hg, hb⟩
  by_cases e : n = k
  · subst e
    have hlt : n < η.length := (List.getElem?_eq_some_iff.mp hn).1
    rw [List.getElem?_set_self hlt] at hm; cases hm; exact hg rfl
  · rw [List.getElem?_set_ne e] at hm
    have := R.disj n k p p' _ m hp hp' hn hm (by simp) hg e
    rcases hb with hb | hb
    · exact this.1 hb
    · exact this.2.1 hb

theorem e_freeze {a : E} {x : Expr} (h : SimE T q d call sc Γ a x) : SimE T q d call sc Γ (.freeze a) x := by
  intro A L φ η s env ρ X F
  refine Sim.then (h A L φ η s env ρ X F) fun v η' φ' y s' _ p hq => ?_
  cases v with
  | ref n =>
    dsimp only
    split
    · rename_i xs hn
      refine .inr ⟨_, _, φ', rfl, ?_, ?_⟩
      · have := p.rel.free (n := n)
        exact ⟨this.2, this.1, rfl, rfl, rfl⟩
      · simp only [QV, VR] at hq
        obtain ⟨pp, hp, rfl⟩ := hq
        obtain ⟨_, items, k, g, r⟩ := p.rel.obj n _ pp hn hp
        simp only [QV, VR]
        exact ⟨pp.1, items, k, rfl, own_free p.rel hn hp, g, VRs.step (p.rel.free (n := n)).2 _ _ r⟩
    · exact .inl rfl
  | _ => exact .inr ⟨_, _, φ', rfl, .refl p.rel, hq⟩
end
end Mine
end
section
namespace Mine
open PySem PyProof.Rows

noncomputable def ItCls (c : String) : Prop := c = "list_iterator" ∨ c = "tuple_iterator" ∨ c = "str_ascii_iterator" ∨ c = "str_iterator" ∨ c = "range_iterator"

/-- where an iterator stands: what it still gives -/
inductive Iter (T : St) (φ : Phi) (η : H) (h : Heap) (I : Addr) (xs : List V) (live : Option (Nat × List V)) : Prop
  | lst (a : Addr) (items : Array Value) (k i : Nat) (all : List V) : xs = all.drop i → live = none → h.get? a = some (listO items k) → ¬ own φ η a → VRs T φ (own φ η) h all items.toList → h.IsListIter I a i → Iter T φ η h I xs live
  | live (n : Nat) (all : List V) (p : Addr × Addr) (i : Nat) : xs = all.drop i → live = some (n, all) → φ[n]? = some p → h.IsListIter I p.1 i → Iter T φ η h I xs live
  | tup (a : Addr) (items : Array Value) (k i : Nat) (all : List V) : xs = all.drop i → live = none → h.get? a = some (tupO items k) → ¬ own φ η a → VRs T φ (own φ η) h all items.toList → h.IsTupleIter I a i → Iter T φ η h I xs live
  | str (ty : String) (x : Str) (t : Tok) (i : Nat) : xs = (x.cps.toList.drop i).map (fun c => .str [c]) → live = none → (ty = "str_ascii_iterator" ∨ ty = "str_iterator") → h.IsStrIter I ty x t i → Iter T φ η h I xs live
  | range (m k : Int) : xs = (List.range k.toNat).map (fun i : Nat => .int (m + i)) → live = none → IsRangeIter h I m k 1 → Iter T φ η h I xs live

section
variable {T : St} {A : Around} {L : Addr} {φ φ' : Phi} {η η' : H} {s s' : Shared} {h h' : Heap} {I : Addr} {xs : List V} {live : Option (Nat × List V)} {E : Value → Shared → Prop}

theorem Iter.obj (x : Iter T φ η h I xs live) : ∃ o c, h.get? I = some o ∧ o.cls = .type c ∧ ItCls c := by
  cases x with
  | lst a items k i all e l g n r it => obtain ⟨o, h1, h2, _⟩ := it; exact ⟨o, _, h1, h2, .inl rfl⟩
  | live n all p i e l hp it => obtain ⟨o, h1, h2, _⟩ := it; exact ⟨o, _, h1, h2, .inl rfl⟩
  | tup a items k i all e l g n r it => obtain ⟨o, h1, h2, _⟩ := it; exact ⟨o, _, h1, h2, .inr (.inl rfl)⟩
  | str ty x t i e l hty it =>
    obtain ⟨o, h1, h2, _⟩ := it
    rcases hty with rfl | rfl
    · exact ⟨o, _, h1, h2, .inr (.inr (.inl rfl))⟩
    · exact ⟨o, _, h1, h2, .inr (.inr (.inr (.inl rfl)))⟩
  | range m k e l it => exact ⟨_, _, it, rfl, .inr (.inr (.inr (.inr rfl)))⟩
theorem ItCls.ne {c : String} (x : ItCls c) : c ≠ "tuple" ∧ c ≠ "list" ∧ c ≠ "frame" ∧ c ≠ "dict" ∧ c ≠ "cell" ∧ c ≠ "traceback" := by
  rcases x with rfl | rfl | rfl | rfl | rfl <;> decide
theorem Iter.priv (x : Iter T φ η h I xs live) : ∃ o, h.get? I = some o ∧ Priv o ∧ (∀ c, o.cls = .type c → c ≠ "frame" ∧ c ≠ "dict" ∧ c ≠ "cell") := by
  obtain ⟨o, c, g, hc, hi⟩ := x.obj
  refine ⟨o, g, ⟨c, hc, hi.ne.1, hi.ne.2.1⟩, fun c' e => ?_⟩
  rw [hc] at e; cases e
  exact ⟨hi.ne.2.2.1, hi.ne.2.2.2.1, hi.ne.2.2.2.2.1⟩

theorem Iter.step (st : Step φ η h φ' η' h') (hI : ¬ own φ η I) (x : Iter T φ η h I xs live) : Iter T φ' η' h' I xs live := by
  have ex : ∀ o, h.get? I = some o → h'.get? I = some o := fun o g => by
    obtain ⟨o', c, g', hc, hi⟩ := x.obj
    rw [g] at g'; cases g'
    exact (st.keep I o hI g).exact (by rw [hc]; simp [hi.ne.2.2.1]) (not_loose hc hi.ne.2.2.2.2.2)
  cases x with
  | lst a items k i all e l g n r it => exact .lst a items k i all e l ((st.keep a _ n g).exact (by simp) (not_loose rfl (by decide))) (st.off n g) (VRs.step st _ _ r) (it.at ex)
  | live n all p i e l hp it => exact .live n all p i e l (get_prefix st.ext hp) (it.at ex)
  | tup a items k i all e l g n r it => exact .tup a items k i all e l ((st.keep a _ n g).exact (by simp) (not_loose rfl (by decide))) (st.off n g) (VRs.step st _ _ r) (it.at ex)
  | str ty x t i e l hty it => exact .str ty x t i e l hty (let ⟨o, h1, h2⟩ := it; ⟨o, ex o h1, h2⟩)
  | range m k e l it => exact .range m k e l (ex _ it)

theorem drop_head {α : Type} {all : List α} {i : Nat} {v : α} {vs : List α} (e : v :: vs = all.drop i) : all[i]? = some v ∧ vs = all.drop (i + 1) := by
  have hi : i < all.length := by
    by_cases h : i < all.length
    · exact h
    · rw [List.drop_eq_nil_of_le (by omega)] at e; cases e
  rw [List.drop_eq_getElem_cons hi] at e
  cases e
  exact ⟨List.getElem?_eq_getElem hi, rfl⟩
theorem drop_nil {α : Type} {all : List α} {i : Nat} (e : [] = all.drop i) : all[i]? = none := List.getElem?_eq_none (List.drop_eq_nil_iff.mp e.symm)

theorem sameBut_keep {a : Addr} (x : Heap.SameBut a h h') : ∀ b o, b ≠ a → h.get? b = some o → h'.get? b = some o := fun b o hb e => (x.2 b hb).trans e

open Classical in
theorem still_some {n : Nat} {all : List V} (e : still η (some (n, all)) = true) : η[n]? = some (.list all) := of_decide_eq_true e

theorem Iter.next {v : V} {vs : List V} {Q : Option Value → Shared → Prop} (R : Rel T φ η s.heap) (x : Iter T φ η s.heap I (v :: vs) live) (hl : still η live = true)
    (hQ : ∀ y h' t, VR T φ (own φ η) h' v y → Iter T φ η h' I vs live → Heap.SameBut I s.heap h' → Q (some y) { s with heap := h', toks := t }) : wpAny T.M A (pyNext (.ref I)) Q E s := by
  obtain ⟨oI, gI, pI, _⟩ := x.priv
  obtain ⟨o', c, g', hc, hi⟩ := x.obj
  rw [gI] at g'; cases g'
  cases x with
  | lst a items k i all e l g n r it =>
    obtain ⟨h1, h2⟩ := drop_head e
    obtain ⟨y, hy, ry⟩ := r.get h1
    have ne : a ≠ I := fun q => by rw [q, gI] at g; cases g; cases hc; exact hi.ne.2.1 rfl
    refine wpAny_pyNext_list_item it ⟨_, g, rfl, k, rfl⟩ (by rw [← Array.getElem?_toList]; exact hy) fun h' it' hs => ?_
    have kk := sameBut_keep hs
    exact hQ y h' s.toks (VR.but gI pI kk _ _ ry) (.lst a items k (i + 1) all h2 l (kk _ _ ne g) n (VRs.but gI pI kk _ _ r) it') hs
  | live n all p i e l hp it =>
    subst l
    have hn := still_some hl
    obtain ⟨_, items, k, g, r⟩ := R.obj n _ p hn hp
    obtain ⟨h1, h2⟩ := drop_head e
    obtain ⟨y, hy, ry⟩ := r.get h1
    refine wpAny_pyNext_list_item it ⟨_, g, rfl, k, rfl⟩ (by rw [← Array.getElem?_toList]; exact hy) fun h' it' hs => ?_
    have kk := sameBut_keep hs
    exact hQ y h' s.toks (VR.but gI pI kk _ _ ry) (.live n all p (i + 1) h2 rfl hp it') hs
  | tup a items k i all e l g n r it =>
    obtain ⟨h1, h2⟩ := drop_head e
    obtain ⟨y, hy, ry⟩ := r.get h1
    have ne : a ≠ I := fun q => by rw [q, gI] at g; cases g; cases hc; exact hi.ne.1 rfl
    refine wpAny_pyNext_tuple_item it ⟨_, g, rfl, k, rfl⟩ (by rw [← Array.getElem?_toList]; exact hy) fun h' it' hs => ?_
    have kk := sameBut_keep hs
    exact hQ y h' s.toks (VR.but gI pI kk _ _ ry) (.tup a items k (i + 1) all h2 l (kk _ _ ne g) n (VRs.but gI pI kk _ _ r) it') hs
  | str ty x t i e l hty it =>
    rw [List.map_drop] at e
    obtain ⟨h1, h2⟩ := drop_head e
    rw [List.getElem?_map, Option.map_eq_some_iff] at h1
    obtain ⟨c, hc', rfl⟩ := h1
    rw [Array.getElem?_toList] at hc'
    rw [← List.map_drop] at h2
    have rv : ∀ h' t, VR T φ (own φ η) h' (V.str [c]) (.str ⟨#[c]⟩ t) := fun h' t => by simp [VR]
    rcases hty with rfl | rfl
    · exact wpAny_pyNext_ascii_item it hc' fun h' it' hs => hQ _ h' _ (rv _ _) (.str _ x t (i + 1) h2 l (.inl rfl) it') hs
    · exact wpAny_pyNext_wide_item it hc' fun h' it' hs => hQ _ h' _ (rv _ _) (.str _ x t (i + 1) h2 l (.inr rfl) it') hs
  | range m k e l it =>
    have hk : 0 < k := by
      by_cases h : 0 < k
      · exact h
      · rw [show k.toNat = 0 by omega] at e; cases e
    obtain ⟨n, hn⟩ : ∃ n, k.toNat = n + 1 := ⟨k.toNat - 1, by omega⟩
    rw [hn, List.range_succ_eq_map, List.map_cons] at e
    simp only [List.cons.injEq] at e
    obtain ⟨rfl, rfl⟩ := e
    refine wpAny_pyNext_range_item it hk fun h' it' hs => hQ _ h' _ (by simp [VR]) (.range (m + 1) (k - 1) ?_ l it') hs
    rw [show (k - 1).toNat = n by omega, List.map_map]
    refine List.map_congr_left fun j _ => ?_
    simp only [Function.comp]; congr 1; push_cast; omega

theorem Iter.fin {Q : Option Value → Shared → Prop} (hh : A.handled = none) (R : Rel T φ η s.heap) (x : Iter T φ η s.heap I [] live) (hl : still η live = true)
    (hQ : ∀ h', Heap.ExtBut I s.heap h' → Q none { s with heap := h' }) : wpAny T.M A (pyNext (.ref I)) Q E s := by
  cases x with
  | lst a items k i all e l g n r it =>
    have h1 := drop_nil e
    have := len_items r
    exact wpAny_pyNext_list_end hh it ⟨_, g, rfl, k, rfl⟩ (Array.getElem?_eq_none (by rw [this]; exact List.getElem?_eq_none_iff.mp h1)) hQ
  | live n all p i e l hp it =>
    subst l
    have hn := still_some hl
    obtain ⟨_, items, k, g, r⟩ := R.obj n _ p hn hp
    have h1 := drop_nil e
    have := len_items r
    exact wpAny_pyNext_list_end hh it ⟨_, g, rfl, k, rfl⟩ (Array.getElem?_eq_none (by rw [this]; exact List.getElem?_eq_none_iff.mp h1)) hQ
  | tup a items k i all e l g n r it =>
    have h1 := drop_nil e
    have := len_items r
    exact wpAny_pyNext_tuple_end hh it ⟨_, g, rfl, k, rfl⟩ (Array.getElem?_eq_none (by rw [this]; exact List.getElem?_eq_none_iff.mp h1)) hQ
  | str ty x t i e l hty it =>
    rw [List.map_drop] at e
    have h1 := drop_nil e
    rw [List.getElem?_map, Option.map_eq_none_iff, Array.getElem?_toList] at h1
    rcases hty with rfl | rfl
    · exact wpAny_pyNext_ascii_end hh it h1 hQ
    · exact wpAny_pyNext_wide_end hh it h1 hQ
  | range m k e l it =>
    refine wpAny_pyNext_range_end hh it ?_ hQ
    by_cases h : k ≤ 0
    · exact h
    · exfalso
      have := congrArg List.length e
      simp at this; omega

theorem Iter.self {Q : Value → Shared → Prop} (x : Iter T φ η s.heap I xs live) (h : Q (.ref I) s) : wpAny T.M A (pyIter (.ref I)) Q E s := by
  cases x with
  | lst a items k i all e l g n r it => exact wpAny_pyIter_listiter it h
  | live n all p i e l hp it => exact wpAny_pyIter_listiter it h
  | tup a items k i all e l g n r it => exact wpAny_pyIter_tupleiter it h
  | str ty x t i e l hty it =>
    rcases hty with rfl | rfl
    · exact wpAny_pyIter_striter_ascii it h
    · exact wpAny_pyIter_striter_wide it h
  | range m k e l it => exact wpAny_pyIter_rangeiter it h

/-- what a loop goes over: a value, or a range -/
noncomputable def QIt (T : St) : QR Value V := fun φ η h v x => VR T φ (own φ η) h v x ∨
  ∃ r m k t u w, x = .ref r ∧ IsRange h r m k 1 t u w ∧ okR m = true ∧ okR k = true ∧ v = .lst ((List.range (k - m).toNat).map fun i : Nat => .int (m + i))

theorem ok_r {i : Int} (h : okR i = true) : -1000000000000 ≤ i ∧ i < 1000000000000 := by
  unfold okR at h
  simp only [Bool.and_eq_true, decide_eq_true_eq] at h
  exact h

theorem iter_start {v : V} {x : Value} {Q : Value → Shared → Prop} (R : Rel T φ η s.heap) (e : itemsOf η v = some (xs, live)) (r : QIt T φ η s.heap v x)
    (hQ : ∀ I h', s.heap.get? I = none → (∀ b o, s.heap.get? b = some o → h'.get? b = some o) → Iter T φ η h' I xs live → Q (.ref I) { s with heap := h' }) : wpAny T.M A (pyIter x) Q E s := by
  have sz : s.heap.get? s.heap.objs.size = none := Heap.get?_none_of_le (Nat.le_refl _)
  rcases r with r | ⟨rr, m, k, t, u, w, rfl, hr, hm, hk, rfl⟩
  · unfold itemsOf at e
    split at e
    · rename_i ys
      cases e
      simp only [VR] at r
      obtain ⟨a, items, k, rfl, hN, g, r⟩ := r
      have st : Step φ η s.heap φ η (s.heap.push { cls := .type "list_iterator", data := .fields #[.ref a, .int 0 0] }) := .keeps (push_keeps _)
      exact wpAny_pyIter_list ⟨_, g, rfl, k, rfl⟩ (hQ _ _ sz (push_keeps _) (.lst a items k 0 _ rfl rfl (push_keeps _ _ _ g) hN (VRs.step st _ _ r) ⟨_, Heap.get?_push_size _ rfl, rfl, rfl⟩))
    · rename_i ys
      cases e
      simp only [VR] at r
      obtain ⟨a, items, k, rfl, hN, g, r⟩ := r
      have st : Step φ η s.heap φ η (s.heap.push { cls := .type "tuple_iterator", data := .fields #[.ref a, .int 0 0] }) := .keeps (push_keeps _)
      exact wpAny_pyIter_tuple ⟨_, g, rfl, k, rfl⟩ (hQ _ _ sz (push_keeps _) (.tup a items k 0 _ rfl rfl (push_keeps _ _ _ g) hN (VRs.step st _ _ r) ⟨_, Heap.get?_push_size _ rfl, rfl, rfl⟩))
    · rename_i cs
      cases e
      simp only [VR] at r
      obtain ⟨t, rfl⟩ := r
      have hx : (List.map (fun c => V.str [c]) cs) = ((⟨cs.toArray⟩ : Str).cps.toList.drop 0).map (fun c => V.str [c]) := by simp
      cases ha : (⟨cs.toArray⟩ : Str).cps.all (· < 128) with
      | true => exact wpAny_pyIter_ascii ha (hQ _ _ sz (push_keeps _) (.str _ ⟨cs.toArray⟩ t 0 hx rfl (.inl rfl) ⟨_, Heap.get?_push_size _ rfl, rfl, rfl⟩))
      | false => exact wpAny_pyIter_wide ha (hQ _ _ sz (push_keeps _) (.str _ ⟨cs.toArray⟩ t 0 hx rfl (.inr rfl) ⟨_, Heap.get?_push_size _ rfl, rfl, rfl⟩))
    · rename_i n
      split at e
      · rename_i ys hn
        cases e
        simp only [VR] at r
        obtain ⟨p, hp, rfl⟩ := r
        obtain ⟨_, items, k, g, r⟩ := R.obj n _ p hn hp
        exact wpAny_pyIter_list ⟨_, g, rfl, k, rfl⟩ (hQ _ _ sz (push_keeps _) (.live n _ p 0 rfl rfl hp ⟨_, Heap.get?_push_size _ rfl, rfl, rfl⟩))
      · cases e
    · cases e
  · cases e
    have h1 := ok_r hm
    have h2 := ok_r hk
    refine wpAny_pyIter_range hr (small_one (by omega) (by omega) (by omega) (by omega)) (hQ _ _ sz (push_keeps _) (.range m (Builtin.Range.rangeSize m k 1) ?_ rfl (Heap.get?_push_size _ rfl)))
    rw [rangeSize_one]
    split
    · rfl
    · rw [show (k - m).toNat = 0 by omega]; rfl
end
end Mine
end
section
namespace Mine
open PySem PyProof.Rows

structure Sta (A : Around) (q : Bool) (d : Nat) : Prop where
  hand : q = true → A.handled = none
  depth : A.depth + 4 * d + 4 ≤ recursionLimit
  units : A.units + 20 * d + 20 < cLine

/-- neither a frame's names nor its cells -/
noncomputable def Off (env : Env) (b : Addr) : Prop := b ≠ env.locals ∧ ∀ n c, env.cells.lookup n = some c → b ≠ c
/-- a step in a frame, whose own names may turn -/
structure StepL (env : Env) (φ : Phi) (η : H) (h : Heap) (φ' : Phi) (η' : H) (h' : Heap) : Prop where
  ext : φ <+: φ'
  keep : ∀ b o, ¬ own φ η b → Off env b → h.get? b = some o → StayO o h' b
  osub : ∀ b, own φ' η' b → own φ η b ∨ h.get? b = none
  alive : ∀ b o, h.get? b = some o → (h'.get? b).isSome = true

section
variable {cw : Bool} {T : St} {A : Around} {L : Addr} {q : Bool} {d : Nat} {φ₀ φ φ' φ₁ φ₂ φ₃ : Phi} {η₀ η η' η₁ η₂ η₃ : H} {s₀ s s' : Shared} {h h' h₁ h₂ h₃ : Heap} {env : Env} {sc : Scope} {Γ : Gam} {ρ : Rho} {α β : Type} {I : Addr} {xs : List V} {live : Option (Nat × List V)}

theorem Step.toL (st : Step φ η h φ' η' h') : StepL env φ η h φ' η' h' := ⟨st.ext, fun b o hb _ e => st.keep b o hb e, st.osub, st.alive⟩
theorem StepL.off (st : StepL env φ η h φ' η' h') {a : Addr} {o : Obj} (hN : ¬ own φ η a) (hg : h.get? a = some o) : ¬ own φ' η' a :=
  fun q => (st.osub a q).elim hN fun q => by rw [q] at hg; cases hg
theorem StepL.trans (x : StepL env φ₁ η₁ h₁ φ₂ η₂ h₂) (y : StepL env φ₂ η₂ h₂ φ₃ η₃ h₃) : StepL env φ₁ η₁ h₁ φ₃ η₃ h₃ where
  ext := x.ext.trans y.ext
  keep := fun b o hb ho e => by
    have hb₂ : ¬ own φ₂ η₂ b := x.off hb e
    exact (x.keep b o hb ho e).trans fun o' e' => y.keep b o' hb₂ ho e'
  osub := fun b q => by
    rcases y.osub b q with q | q
    · exact x.osub b q
    · right
      cases e : h₁.get? b with
      | none => rfl
      | some o => have := x.alive b o e; rw [q] at this; cases this
  alive := fun b o e => by
    obtain ⟨o', e'⟩ := Option.isSome_iff_exists.mp (x.alive b o e)
    exact y.alive b o' e'
theorem StepL.refl : StepL env φ η h φ η h := (Step.refl φ η h).toL

theorem FS.cxt (F : FS cw T A L φ₀ η₀ s₀ φ η s env sc Γ ρ) (X : Sta A q d) : Cxt T A L q d φ η s := ⟨X.hand, X.depth, X.units, F.stk, F.post.rel⟩

/-- an object of another kind is none of the frame's own -/
theorem FR.offOf (F : FR T φ η h L env sc Γ ρ) {b : Addr} {o : Obj} (g : h.get? b = some o) (hc : ∀ c, o.cls = .type c → c ≠ "frame" ∧ c ≠ "dict" ∧ c ≠ "cell") : Off env b := by
  refine ⟨fun q => ?_, fun n c e q => ?_⟩
  · obtain ⟨c, m, ⟨_, o', g', ho⟩, hcc, _⟩ := F.ns
    rw [← q, g] at g'; cases g'
    rcases hcc with rfl | rfl
    · exact (hc _ ho).1 rfl
    · exact (hc _ ho).2.1 rfl
  · obtain ⟨ov, o', g', ho, _⟩ := F.cthere n c e
    rw [← q, g] at g'; cases g'
    exact (hc _ ho).2.2 rfl

mutual
theorem VR.stepL (st : StepL env φ η h φ' η' h') (F : FR T φ η h L env sc Γ ρ) : ∀ (v : V) (x : Value), VR T φ (own φ η) h v x → VR T φ' (own φ' η') h' v x
  | .none, _, e => e
  | .bool _, _, e => e
  | .int _, _, e => e
  | .str _, _, e => e
  | .tup xs, x, e => by
    simp only [VR] at e ⊢
    obtain ⟨a, items, n, rfl, hN, hg, hr⟩ := e
    exact ⟨a, items, n, rfl, st.off hN hg, (st.keep a _ hN (F.offOf hg (by intro c q; cases q; decide)) hg).exact (by simp) (not_loose rfl (by decide)), VRs.stepL st F xs _ hr⟩
  | .lst xs, x, e => by
    simp only [VR] at e ⊢
    obtain ⟨a, items, n, rfl, hN, hg, hr⟩ := e
    exact ⟨a, items, n, rfl, st.off hN hg, (st.keep a _ hN (F.offOf hg (by intro c q; cases q; decide)) hg).exact (by simp) (not_loose rfl (by decide)), VRs.stepL st F xs _ hr⟩
  | .dct, x, e => by simp only [VR] at e
  | .ref n, x, e => by
    simp only [VR] at e ⊢
    obtain ⟨p, hp, rfl⟩ := e
    exact ⟨p, get_prefix st.ext hp, rfl⟩
  | .exc c, x, e => by
    simp only [VR] at e ⊢
    obtain ⟨a, o, rfl, hN, hg, hc, hd⟩ := e
    rcases st.keep a _ hN (F.offOf hg (by rw [hc]; intro c q; cases q)) hg with x | ⟨x, _⟩ | ⟨_, o', x, ec, hl⟩
    · exact ⟨a, o, rfl, st.off hN hg, x, hc, hd⟩
    · rw [hc] at x; cases x
    · exact ⟨a, o', rfl, st.off hN hg, x, ec.trans hc, hl.1⟩
theorem VRs.stepL (st : StepL env φ η h φ' η' h') (F : FR T φ η h L env sc Γ ρ) : ∀ (v : List V) (x : List Value), VRs T φ (own φ η) h v x → VRs T φ' (own φ' η') h' v x
  | [], _, e => e
  | y :: ys, x, e => by
    simp only [VRs] at e ⊢
    obtain ⟨v, r, rfl, h1, h2⟩ := e
    exact ⟨v, r, rfl, VR.stepL st F y v h1, VRs.stepL st F ys r h2⟩
end

theorem Iter.stepL (st : StepL env φ η h φ' η' h') (F : FR T φ η h L env sc Γ ρ) (hI : ¬ own φ η I) (x : Iter T φ η h I xs live) : Iter T φ' η' h' I xs live := by
  have ex : ∀ o, h.get? I = some o → h'.get? I = some o := fun o g => by
    obtain ⟨o', c, g', hc, hi⟩ := x.obj
    rw [g] at g'; cases g'
    exact (st.keep I o hI (F.offOf g (by intro c' q; rw [hc] at q; cases q; exact ⟨hi.ne.2.2.1, hi.ne.2.2.2.1, hi.ne.2.2.2.2.1⟩)) g).exact (by rw [hc]; simp [hi.ne.2.2.1]) (not_loose hc hi.ne.2.2.2.2.2)
  cases x with
  | lst a items k i all e l g n r it => exact .lst a items k i all e l ((st.keep a _ n (F.offOf g (by intro c q; cases q; decide)) g).exact (by simp) (not_loose rfl (by decide))) (st.off n g) (VRs.stepL st F _ _ r) (it.at ex)
  | live n all p i e l hp it => exact .live n all p i e l (get_prefix st.ext hp) (it.at ex)
  | tup a items k i all e l g n r it => exact .tup a items k i all e l ((st.keep a _ n (F.offOf g (by intro c q; cases q; decide)) g).exact (by simp) (not_loose rfl (by decide))) (st.off n g) (VRs.stepL st F _ _ r) (it.at ex)
  | str ty x t i e l hty it => exact .str ty x t i e l hty (let ⟨o, h1, h2⟩ := it; ⟨o, ex o h1, h2⟩)
  | range m k e l it => exact .range m k e l (ex _ it)

/-- a private object that is none of the frame's turns -/
theorem FR.but {o : Obj} (F : FR T φ η h L env sc Γ ρ) (g : h.get? I = some o) (p : Priv o) (ho : Off env I) (k : ∀ b o, b ≠ I → h.get? b = some o → h'.get? b = some o) : FR T φ η h' L env sc Γ ρ where
  sc := F.sc
  kind := F.kind
  glob := F.glob
  bi := F.bi
  frame := F.frame
  ns := by
    obtain ⟨c, m, ⟨⟨o₁, es, ep, e₁, r₁⟩, o₂, e₂, hc₂⟩, hc, hv⟩ := F.ns
    refine ⟨c, m, ⟨⟨o₁, es, ep, k _ _ (Ne.symm ho.1) e₁, r₁⟩, o₂, k _ _ (Ne.symm ho.1) e₂, hc₂⟩, hc, fun n i v h1 h2 h3 => ?_⟩
    obtain ⟨x, e, r⟩ := hv n i v h1 h2 h3
    exact ⟨x, e, VR.but g p k _ _ r⟩
  cell := fun n i h1 h2 => by
    obtain ⟨c, ov, e, ⟨o', e', hc', hd'⟩, hv⟩ := F.cell n i h1 h2
    refine ⟨c, ov, e, ⟨o', k _ _ (Ne.symm (ho.2 n c e)) e', hc', hd'⟩, fun v hr => ?_⟩
    obtain ⟨x, e', r⟩ := hv v hr
    exact ⟨x, e', VR.but g p k _ _ r⟩
  lfresh := F.lfresh
  cthere := fun n c e => let ⟨ov, o', e', hc', hd'⟩ := F.cthere n c e; ⟨ov, o', k _ _ (Ne.symm (ho.2 n c e)) e', hc', hd'⟩
  cfresh := F.cfresh
  apart := F.apart
  inj := F.inj

theorem FS.fresh (F : FS cw T A L φ₀ η₀ s₀ φ η s env sc Γ ρ) (hI : s.heap.get? I = none) : s₀.heap.get? I = none ∧ ¬ own φ η I ∧ T.base.get? I = none := by
  refine ⟨?_, fun o => ?_, ?_⟩
  · cases e : s₀.heap.get? I with
    | none => rfl
    | some o => have := F.post.step.alive I o e; rw [hI] at this; cases this
  · obtain ⟨ob, e, _⟩ := F.post.rel.there o
    rw [hI] at e; cases e
  · cases e : T.base.get? I with
    | none => rfl
    | some o => have := F.post.rel.base I o e; rw [hI] at this; cases this

theorem FS.but {o : Obj} {t : Nat} (F : FS cw T A L φ₀ η₀ s₀ φ η s env sc Γ ρ) (g : s.heap.get? I = some o) (p : Priv o) (hc : ∀ c, o.cls = .type c → c ≠ "frame" ∧ c ≠ "dict" ∧ c ≠ "cell") (h0 : s₀.heap.get? I = none) (ho : ¬ own φ η I) (hb : T.base.get? I = none)
    (k : ∀ b o, b ≠ I → s.heap.get? b = some o → h'.get? b = some o) : FS cw T A L φ₀ η₀ s₀ φ η { s with heap := h', toks := t } env sc Γ ρ :=
  ⟨F.post.but h0 g p ho hb k, F.fr.but g p (F.fr.offOf g hc) k, let ⟨t, u, h1, h2, h3⟩ := F.stk; ⟨t, u, h1, h2, h3.but g k fun q => absurd rfl (hc _ q).1⟩, F.l0, F.c0⟩

theorem StepL.but {o : Obj} (g : h.get? I = some o) (k : ∀ b o, b ≠ I → h.get? b = some o → h'.get? b = some o) (a : (h'.get? I).isSome = true) (st : StepL env φ₀ η₀ h₁ φ η h) (h0 : h₁.get? I = none) : StepL env φ₀ η₀ h₁ φ η h' where
  ext := st.ext
  keep := fun b ob hb ho e => by
    have hne : b ≠ I := fun q => by rw [q, h0] at e; cases e
    exact (st.keep b ob hb ho e).trans fun o' e' => .inl (k b o' hne e')
  osub := st.osub
  alive := fun b ob e => by
    have hne : b ≠ I := fun q => by rw [q, h0] at e; cases e
    obtain ⟨o', e'⟩ := Option.isSome_iff_exists.mp (st.alive b ob e)
    rw [k b o' hne e']; rfl

/-- a statement's end -/
inductive ROk (T : St) (A : Around) (L : Addr) (φ₀ : Phi) (η₀ : H) (s₀ : Shared) (env : Env) (sc : Scope) (Γ : Gam) (φ : Phi) (η : H) (h₀ : Heap) (r : RS) (f : Flow) (s' : Shared) : Prop where
  | mk (φ' : Phi) (η' : H) (ρ' : Rho) (h : r = .next ρ' η' ∧ f = .next ∨ ∃ v x, r = .ret v ρ' η' ∧ f = .ret x ∧ VR T φ' (own φ' η') s'.heap v x) (F : FS true T A L φ₀ η₀ s₀ φ' η' s' env sc Γ ρ') (st : StepL env φ η h₀ φ' η' s'.heap)
inductive REx (T : St) (A : Around) (L : Addr) (φ₀ : Phi) (η₀ : H) (s₀ : Shared) (env : Env) (sc : Scope) (Γ : Gam) (φ : Phi) (η : H) (h₀ : Heap) (r : RS) (e : Value) (s' : Shared) : Prop where
  | mk (c : Nat) (φ' : Phi) (η' : H) (ρ' : Rho) (h : r = .exc c ρ' η') (F : FS true T A L φ₀ η₀ s₀ φ' η' s' env sc Γ ρ') (st : StepL env φ η h₀ φ' η' s'.heap) (x : XR T s'.heap e c L)
noncomputable def SimR (T : St) (A : Around) (L : Addr) (φ₀ : Phi) (η₀ : H) (s₀ : Shared) (env : Env) (sc : Scope) (Γ : Gam) (φ : Phi) (η : H) (s : Shared) (t : Sem Flow) (r : RS) : Prop :=
  r = .fail ∨ wpAny T.M A t (ROk T A L φ₀ η₀ s₀ env sc Γ φ η s.heap r) (REx T A L φ₀ η₀ s₀ env sc Γ φ η s.heap r) s

noncomputable def SimS (T : St) (q : Bool) (d : Nat) (call : Bool → Nat → List V → H → R V) (sc : Scope) (Γ : Gam) (st : S) (x : Stmt) : Prop :=
  ∀ A L φ₀ η₀ s₀ φ η s env ρ, Sta A q d → FS true T A L φ₀ η₀ s₀ φ η s env sc Γ ρ → SimR T A L φ₀ η₀ s₀ env sc Γ φ η s (exec x env) (evS T.P call q st ρ η)
noncomputable def SimSs (T : St) (q : Bool) (d : Nat) (call : Bool → Nat → List V → H → R V) (sc : Scope) (Γ : Gam) (st : List S) (x : List Stmt) : Prop :=
  ∀ A L φ₀ η₀ s₀ φ η s env ρ, Sta A q d → FS true T A L φ₀ η₀ s₀ φ η s env sc Γ ρ → SimR T A L φ₀ η₀ s₀ env sc Γ φ η s (execs x env) (evSs T.P call q st ρ η)

section
variable {r : RS} {k : Rho → H → RS} {tot : RS} {ρ' : Rho} {hh : H}
theorem then_nf (e : r.andThen k = tot) (hf : tot ≠ .fail) : r ≠ .fail := fun h => by subst h; exact hf e.symm
theorem then_next (e : r.andThen k = tot) (er : r = .next ρ' hh) : tot = k ρ' hh := by subst er; exact e.symm
theorem then_ret {v : V} (e : r.andThen k = tot) (er : r = .ret v ρ' hh) : tot = .ret v ρ' hh := by subst er; exact e.symm
theorem then_exc {c : Nat} (e : r.andThen k = tot) (er : r = .exc c ρ' hh) : tot = .exc c ρ' hh := by subst er; exact e.symm
variable {x : R β} {g : β → H → RS}
theorem of_nf (e : RS.of ρ x g = tot) (hf : tot ≠ .fail) : x ≠ .fail := fun h => by subst h; exact hf e.symm
theorem of_ok' {v : β} (e : RS.of ρ x g = tot) (er : x = .ok v hh) : tot = g v hh := by subst er; exact e.symm
theorem of_exc {c : Nat} (e : RS.of ρ x g = tot) (er : x = .exc c hh) : tot = .exc c ρ hh := by subst er; exact e.symm
end
theorem SimR.intro {t : Sem Flow} {r : RS} (h : r ≠ .fail → wpAny T.M A t (ROk T A L φ₀ η₀ s₀ env sc Γ φ η s.heap r) (REx T A L φ₀ η₀ s₀ env sc Γ φ η s.heap r) s) : SimR T A L φ₀ η₀ s₀ env sc Γ φ η s t r := by
  by_cases hf : r = .fail
  · exact .inl hf
  · exact .inr (h hf)
/-- the ends of a statement in turn -/
theorem SimR.elim {t : Sem Flow} {r : RS} {W : Flow → Shared → Prop} {E : Value → Shared → Prop} (h : SimR T A L φ₀ η₀ s₀ env sc Γ φ η s t r) (hf : r ≠ .fail)
    (h1 : ∀ φ' η' ρ' s', r = .next ρ' η' → FS true T A L φ₀ η₀ s₀ φ' η' s' env sc Γ ρ' → StepL env φ η s.heap φ' η' s'.heap → W .next s')
    (h2 : ∀ v x φ' η' ρ' s', r = .ret v ρ' η' → VR T φ' (own φ' η') s'.heap v x → FS true T A L φ₀ η₀ s₀ φ' η' s' env sc Γ ρ' → StepL env φ η s.heap φ' η' s'.heap → W (.ret x) s')
    (h3 : ∀ c φ' η' ρ' e s', r = .exc c ρ' η' → FS true T A L φ₀ η₀ s₀ φ' η' s' env sc Γ ρ' → StepL env φ η s.heap φ' η' s'.heap → XR T s'.heap e c L → E e s') : wpAny T.M A t W E s :=
  wpAny_mono (h.resolve_left hf) (fun f s' k => by
    cases k with
    | mk φ' η' ρ' h F st =>
      cases h with
      | inl h => cases h.2; exact h1 φ' η' ρ' s' h.1 F st
      | inr h => obtain ⟨v, x, e, rfl, r⟩ := h; exact h2 v x φ' η' ρ' s' e r F st) fun e s' k => by cases k with | mk c φ' η' ρ' h F st x => exact h3 c φ' η' ρ' e s' h F st x
theorem ROk.next {φ' : Phi} {η' : H} {ρ' : Rho} {h₀ : Heap} {r : RS} (e : r = .next ρ' η') (F : FS true T A L φ₀ η₀ s₀ φ' η' s' env sc Γ ρ') (st : StepL env φ η h₀ φ' η' s'.heap) : ROk T A L φ₀ η₀ s₀ env sc Γ φ η h₀ r .next s' := ⟨φ', η', ρ', .inl ⟨e, rfl⟩, F, st⟩
theorem ROk.ret {φ' : Phi} {η' : H} {ρ' : Rho} {h₀ : Heap} {r : RS} {v : V} {x : Value} (e : r = .ret v ρ' η') (rv : VR T φ' (own φ' η') s'.heap v x) (F : FS true T A L φ₀ η₀ s₀ φ' η' s' env sc Γ ρ') (st : StepL env φ η h₀ φ' η' s'.heap) : ROk T A L φ₀ η₀ s₀ env sc Γ φ η h₀ r (.ret x) s' := ⟨φ', η', ρ', .inr ⟨v, x, e, rfl, rv⟩, F, st⟩
/-- the ends go on -/
theorem SimR.on {φ₁ : Phi} {η₁ : H} {h₁ : Heap} {t : Sem Flow} {r tot : RS} (h : SimR T A L φ₀ η₀ s₀ env sc Γ φ η s t r) (e : tot = r) (hf : tot ≠ .fail) (st : StepL env φ₁ η₁ h₁ φ η s.heap) :
    wpAny T.M A t (ROk T A L φ₀ η₀ s₀ env sc Γ φ₁ η₁ h₁ tot) (REx T A L φ₀ η₀ s₀ env sc Γ φ₁ η₁ h₁ tot) s :=
  h.elim (e ▸ hf) (fun _ _ _ _ e' F st' => .next (e.trans e') F (st.trans st')) (fun _ _ _ _ _ _ e' r F st' => .ret (e.trans e') r F (st.trans st')) fun c φ' η' ρ' _ _ e' F st' x => ⟨c, φ', η', ρ', e.trans e', F, st.trans st', x⟩

theorem SimR.expr {t : Sem α} {k : α → Sem Flow} {r : R β} {g : β → H → RS} {Q : QR α β} (F : FS true T A L φ₀ η₀ s₀ φ η s env sc Γ ρ) (h1 : Sim T A L φ η s t r Q)
    (h2 : ∀ v η' φ' x s', r = .ok v η' → FS true T A L φ₀ η₀ s₀ φ' η' s' env sc Γ ρ → Q φ' η' s'.heap v x → SimR T A L φ₀ η₀ s₀ env sc Γ φ' η' s' (k x) (g v η')) : SimR T A L φ₀ η₀ s₀ env sc Γ φ η s (t >>= k) (RS.of ρ r g) :=
  .intro fun hf => wpAny_bind (h1.elim (of_nf rfl hf) (fun v η' φ' x s' e p q => (h2 v η' φ' x s' e (F.step p) q).on (of_ok' rfl e) hf p.step.toL) fun c η' φ' e s' he p x => ⟨c, φ', η', ρ, of_exc rfl he, F.step p, p.step.toL, x⟩)
theorem SimR.standAt {p : Pos} {k : Unit → Sem Flow} {r : RS} (h : SimR T A L φ₀ η₀ s₀ env sc Γ φ η s (k ()) r) : SimR T A L φ₀ η₀ s₀ env sc Γ φ η s (PySem.standAt p >>= k) r :=
  h.imp id fun h => wpAny_bind (wpAny_standAt h)
theorem FS.stepL_store (F : FS cw T A L φ₀ η₀ s₀ φ η s env sc Γ ρ) (k : ∀ b o, b ≠ env.locals → (∀ n c, env.cells.lookup n = some c → b ≠ c) → s.heap.get? b = some o → s'.heap.get? b = some o) (a : ∀ b o, s.heap.get? b = some o → (s'.heap.get? b).isSome = true) : StepL env φ η s.heap φ η s'.heap :=
  ⟨List.prefix_refl _, fun b o _ ho e => .inl (k b o ho.1 ho.2 e), fun _ o => .inl o, a⟩

variable {call : Bool → Nat → List V → H → R V}

theorem loc_kind {n : Str} (h : isLoc sc n = true) : sc.names.lookup n = some .local ∨ sc.names.lookup n = some .cell := by
  unfold isLoc at h
  rw [Bool.and_eq_true, Bool.or_eq_true, beq_iff_eq, beq_iff_eq] at h
  exact h.1
theorem loc_store {n : Str} (h : isLoc sc n = true) : sc.names.lookup n = some .local ∨ (sc.names.lookup n = some .cell ∧ true = true) := (loc_kind h).imp id fun x => ⟨x, rfl⟩
theorem loc_debug {n : Str} (h : isLoc sc n = true) : (n == ("__debug__" : Str)) = false := by
  unfold isLoc at h
  rw [Bool.and_eq_true, Bool.not_eq_true'] at h
  exact h.2

/-- a value is stored -/
theorem sim_store {n : Str} {i : Nat} {v : V} {x : Value} {p : Pos} (F : FS true T A L φ₀ η₀ s₀ φ η s env sc Γ ρ) (hΓ : Γ.lookup n = some i) (hn : isLoc sc n = true) (r : VR T φ (own φ η) s.heap v x) :
    SimR T A L φ₀ η₀ s₀ env sc Γ φ η s (do PySem.standAt p; bindName env n x; pure .next) (.next (ρ.set i (some v)) η) :=
  .inr (wpAny_bind (wpAny_standAt (wpAny_bind (wpAny_bindName (F.store hΓ (loc_store hn) r fun s' F' k a _ => wpAny_pure ⟨φ, η, _, .inl ⟨rfl, rfl⟩, F', F.stepL_store k a⟩)))))

theorem s_assign' {x : Nat} {e : E} {n : Str} {v : Expr} {p pos : Pos} (hv : notComp v = true) (hΓ : Γ.lookup n = some x) (hn : isLoc sc n = true) (h : SimE T q d (call q) sc Γ e v) : SimS T q d call sc Γ (.assign x e) (.Assign [.Name n p] v pos) := by
  intro A L φ₀ η₀ s₀ φ η s env ρ X F
  rw [exec_Assign_Name env n p v pos (by cases v <;> first | rfl | cases hv)]
  refine SimR.standAt ?_
  exact SimR.expr F (h A L φ η s env ρ (F.cxt X) F.fr) fun w η' φ' y s' _ F' hq => sim_store F' hΓ hn hq

theorem s_expr {e : E} {v : Expr} {pos : Pos} (hv : notComp v = true) (hi : ∀ env : Env, env.scope.kind = .function → interactive env = false) (h : SimE T q d (call q) sc Γ e v) : SimS T q d call sc Γ (.expr e) (.Expr v pos) := by
  intro A L φ₀ η₀ s₀ φ η s env ρ X F
  rw [exec_Expr env v pos (hi env F.fr.kind) (by cases v <;> first | rfl | cases hv)]
  refine SimR.standAt ?_
  exact SimR.expr F (h A L φ η s env ρ (F.cxt X) F.fr) fun w η' φ' y s' _ F' hq => .inr (wpAny_dropValue ⟨φ', η', ρ, .inl ⟨rfl, rfl⟩, F', .refl⟩)

theorem s_ret' {e : E} {v : Expr} {pos : Pos} (h : SimE T q d (call q) sc Γ e v) : SimS T q d call sc Γ (.ret e) (.Return (some v) pos) := by
  intro A L φ₀ η₀ s₀ φ η s env ρ X F
  rw [exec_Return_some]
  refine SimR.standAt ?_
  exact SimR.expr F (h A L φ η s env ρ (F.cxt X) F.fr) fun w η' φ' y s' _ F' hq => .inr (wpAny_pure ⟨φ', η', ρ, .inr ⟨w, y, rfl, rfl, hq⟩, F', .refl⟩)

theorem s_ite' {c : C} {a b : List S} {t : Expr} {x y : List Stmt} {pos : Pos} (h0 : SimC T q d (call q) sc Γ c t) (h1 : SimSs T q d call sc Γ a x) (h2 : SimSs T q d call sc Γ b y) : SimS T q d call sc Γ (.ite c a b) (.If t x y pos) := by
  intro A L φ₀ η₀ s₀ φ η s env ρ X F
  rw [exec_If]
  refine SimR.standAt ?_
  refine SimR.expr F (h0 A L φ η s env ρ (F.cxt X) F.fr) fun w η' φ' z s' _ F' hq => ?_
  cases hq
  cases w with
  | true => exact h1 A L φ₀ η₀ s₀ φ' η' s' env ρ X F'
  | false => exact h2 A L φ₀ η₀ s₀ φ' η' s' env ρ X F'

theorem ss_nil : SimSs T q d call sc Γ [] [] := fun A L φ₀ η₀ s₀ φ η s env ρ X F => .inr (wpAny_execs_nil (.next rfl F .refl))
theorem ss_cons {st : S} {ss : List S} {x : Stmt} {xs : List Stmt} (h1 : SimS T q d call sc Γ st x) (h2 : SimSs T q d call sc Γ ss xs) : SimSs T q d call sc Γ (st :: ss) (x :: xs) := fun A L φ₀ η₀ s₀ φ η s env ρ X F =>
  .intro (r := (evS T.P call q st ρ η).andThen (evSs T.P call q ss)) fun hf => wpAny_execs_cons ((h1 A L φ₀ η₀ s₀ φ η s env ρ X F).elim (then_nf rfl hf)
    (fun φ' η' ρ' s' e F' st' => (h2 A L φ₀ η₀ s₀ φ' η' s' env ρ' X F').on (then_next rfl e) hf st')
    (fun v x φ' η' ρ' s' e r F' st' => .ret (then_ret rfl e) r F' st')
    fun c φ' η' ρ' e s' er F' st' x => ⟨c, φ', η', ρ', then_exc rfl er, F', st', x⟩)

/-- an exception of the body: the frame is noted, the loop is left -/
theorem noted_back {e : Value} {c : Nat} {E : Value → Shared → Prop} (F : FS cw T A L φ₀ η₀ s₀ φ η s env sc Γ ρ) (x : XR T s.heap e c L)
    (h : ∀ s', Post T φ η s φ η s' → XR T s'.heap e c L → E e s') : notedBy T.M A env (fun e s' => cameBackBy T.M A env E e s') e s := by
  obtain ⟨a, rfl, r⟩ := x
  obtain ⟨top, outer, h1, h2, h3⟩ := F.stk
  refine wpAny_mono (note h1 h2 h3 F.fr.frame F.post.rel r) (fun _ s' ⟨p, rn⟩ => ?_) fun _ _ y => y
  exact came_back F.fr.frame p.rel rn fun s'' p' r' => h s'' (p.trans p') ⟨a, rfl, r'⟩

/-- what a loop goes over -/
noncomputable def SimIt (T : St) (q : Bool) (d : Nat) (call : Nat → List V → H → R V) (sc : Scope) (Γ : Gam) (e : It) (x : Expr) : Prop :=
  ∀ A L φ η s env ρ, Cxt T A L q d φ η s → FR T φ η s.heap L env sc Γ ρ → Sim T A L φ η s (eval x env) (evIt T.P q call e ρ η) (QIt T)
end
end Mine
end
section
namespace Mine
open PySem PyProof.Rows

section
variable {cw : Bool} {T : St} {A : Around} {L : Addr} {q : Bool} {d : Nat} {φ₀ φ φ' : Phi} {η₀ η η' : H} {s₀ s s' : Shared} {h h' : Heap} {env : Env} {sc : Scope} {Γ : Gam} {ρ : Rho} {α β : Type} {I : Addr} {xs : List V} {live : Option (Nat × List V)} {call : Bool → Nat → List V → H → R V}

/-- an iterator as a frame sees it -/
structure Own (T : St) (s₀ : Shared) (φ : Phi) (η : H) (I : Addr) : Prop where
  z : s₀.heap.get? I = none
  o : ¬ own φ η I
  b : T.base.get? I = none
theorem Own.step (x : Own T s₀ φ η I) (st : StepL env φ η h φ' η' h') (g : (h.get? I).isSome = true) : Own T s₀ φ' η' I := by
  obtain ⟨o, e⟩ := Option.isSome_iff_exists.mp g
  exact ⟨x.z, st.off x.o e, x.b⟩

theorem iter_there (x : Iter T φ η h I xs live) : (h.get? I).isSome = true := by
  obtain ⟨o, c, g, _⟩ := x.obj
  rw [g]; rfl

/-- between the turns -/
inductive ForI (T : St) (A : Around) (L : Addr) (φ₀ : Phi) (η₀ : H) (s₀ : Shared) (env : Env) (sc : Scope) (Γ : Gam) (φ₁ : Phi) (η₁ : H) (h₁ : Heap) (I : Addr) (live : Option (Nat × List V)) (stp : V → Rho → H → RS) (tot : RS) (m : Nat) (s : Shared) : Prop where
  | mk (φ : Phi) (η : H) (ρ : Rho) (xs : List V) (hm : m = xs.length) (F : FS true T A L φ₀ η₀ s₀ φ η s env sc Γ ρ) (it : Iter T φ η s.heap I xs live) (ow : Own T s₀ φ η I) (st : StepL env φ₁ η₁ h₁ φ η s.heap) (e : forLoop (still · live) stp xs ρ η = tot)
theorem if_nf {c : Prop} {_ : Decidable c} {r tot : RS} (e : (if c then r else .fail) = tot) (hf : tot ≠ .fail) : c ∧ r = tot := by
  by_cases hc : c
  · exact ⟨hc, by rw [if_pos hc] at e; exact e⟩
  · rw [if_neg hc] at e; exact absurd e.symm hf
theorem for_loop {x : Nat} {n : Str} {p : Pos} {b : List Stmt} {tot : RS} {stp : V → Rho → H → RS} {φ₁ : Phi} {η₁ : H} {h₁ : Heap} (hq : A.handled = none) (hΓ : Γ.lookup n = some x) (hn : isLoc sc n = true)
    (hb : ∀ v φ η s ρ, FS true T A L φ₀ η₀ s₀ φ η s env sc Γ (ρ.set x (some v)) → SimR T A L φ₀ η₀ s₀ env sc Γ φ η s (execs b env) (stp v ρ η)) (hf : tot ≠ .fail)
    (F : FS true T A L φ₀ η₀ s₀ φ η s env sc Γ ρ) (it : Iter T φ η s.heap I xs live) (ow : Own T s₀ φ η I) (hI₁ : h₁.get? I = none) (st : StepL env φ₁ η₁ h₁ φ η s.heap)
    (e : forLoop (still · live) stp xs ρ η = tot) :
    codeAny T.M A (.forLoop (.Name n p) (.ref I) b [] env) (fun r s' => match r with | .ok f => ROk T A L φ₀ η₀ s₀ env sc Γ φ₁ η₁ h₁ tot f s' | .error e => cameBackBy T.M A env (REx T A L φ₀ η₀ s₀ env sc Γ φ₁ η₁ h₁ tot) e s') s := by
  refine codeAny_forLoop (ForI T A L φ₀ η₀ s₀ env sc Γ φ₁ η₁ h₁ I live stp tot) (fun m s hI => ?_) xs.length ⟨φ, η, ρ, xs, rfl, F, it, ow, st, e⟩
  clear e st ow it F
  cases hI with
  | mk φ η ρ xs hm F it ow st e =>
    subst hm
    obtain ⟨oI, gI, pI, cI⟩ := it.priv
    cases xs with
    | nil =>
      obtain ⟨hs, e⟩ := if_nf e hf
      refine it.fin hq F.post.rel hs fun h' k => wpAny_execs_nil (.next e.symm (F.but (t := s.toks) gI pI cI ow.z ow.o ow.b k) ⟨st.ext, fun b ob hb ho e => ?_, st.osub, fun b ob e => ?_⟩)
      · exact (st.keep b ob hb ho e).trans fun o' e' => .inl (k b o' (fun q => by rw [q, hI₁] at e; cases e) e')
      · obtain ⟨o', e'⟩ := Option.isSome_iff_exists.mp (st.alive b ob e)
        exact Option.isSome_iff_exists.mpr ⟨o', k b o' (fun q => by rw [q, hI₁] at e; cases e) e'⟩
    | cons v vs =>
      obtain ⟨hs, e⟩ := if_nf e hf
      refine it.next F.post.rel hs fun y h' t ry it' hsame => ?_
      have k := sameBut_keep hsame
      have F' := F.but (t := t) gI pI cI ow.z ow.o ow.b k
      have st' : StepL env φ₁ η₁ h₁ φ η h' := st.but gI k (iter_there it') hI₁
      refine wpAny_assign_Name (F'.store hΓ (loc_store hn) ry fun s₂ F₂ k₂ a₂ v₂ => ?_)
      have stS := st'.trans (F'.stepL_store k₂ a₂)
      have it₂ : Iter T φ η s₂.heap I vs live := it'.stepL (F'.stepL_store k₂ a₂) F'.fr ow.o
      exact (hb v φ η s₂ ρ F₂).elim (then_nf e hf) (fun φ₃ η₃ ρ₃ s₃ er F₃ st₃ => ⟨vs.length, Nat.lt_succ_self _, φ₃, η₃, ρ₃, vs, rfl, F₃, it₂.stepL st₃ F₂.fr ow.o, ow.step st₃ (iter_there it₂), stS.trans st₃, (then_next e er).symm⟩)
        (fun w y' φ₃ η' ρ' s₃ er r F₃ st₃ => .ret (then_ret e er) r F₃ (stS.trans st₃))
        fun c φ₃ η' ρ' e' s₃ er F₃ st₃ xr => noted_back F₃ xr fun s₄ p₄ xr₄ => ⟨c, φ₃, η', ρ', then_exc e er, F₃.step p₄, (stS.trans st₃).trans p₄.step.toL, xr₄⟩

theorem s_for1' {x : Nat} {n : Str} {p pos : Pos} {it : It} {iter : Expr} {body : List S} {b : List Stmt} (hset : ∀ env y, foldedSetIterable iter env y = pure y) (hΓ : Γ.lookup n = some x) (hn : isLoc sc n = true) (hi : SimIt T q d (call q) sc Γ it iter) (hb : SimSs T q d call sc Γ body b) :
    SimS T q d call sc Γ (.for1 x it body) (.For (.Name n p) iter b [] pos) := by
  intro A L φ₀ η₀ s₀ φ η s env ρ X F
  refine .intro fun hf => wpAny_For ((hi A L φ η s env ρ (F.cxt X) F.fr).elim (of_nf rfl hf) (fun v η' φ₁ y s' e p hy => ?_) fun c η' φ' e s' he p x => ⟨c, φ', η', ρ, of_exc rfl he, F.step p, p.step.toL, x⟩) (hset env)
  have ee := of_ok' (tot := evS T.P call q (.for1 x it body) ρ η) (ρ := ρ) rfl e
  generalize evS T.P call q (.for1 x it body) ρ η = tot at ee hf
  cases e2 : itemsOf η' v with
  | none => rw [e2] at ee; exact absurd ee hf
  | some pr =>
    rw [e2] at ee
    obtain ⟨hql, ee⟩ := if_nf ee.symm hf
    refine iter_start p.rel e2 hy fun I h' hI hk it' => ?_
    have F₁ := F.step p
    obtain ⟨z, o, bb⟩ := F₁.fresh hI
    have p2 : Post T φ₁ η' s' φ₁ η' { s' with heap := h' } := Post.grown (k := s'.toks) p.rel hk
    have hI₁ : s.heap.get? I = none := by
      cases e : s.heap.get? I with
      | none => rfl
      | some o => have := p.step.alive I o e; rw [hI] at this; cases this
    exact for_loop (X.hand hql.1) hΓ hn (fun v φ η s ρ F => hb A L φ₀ η₀ s₀ φ η s env _ X F) hf (F₁.step p2) it' ⟨z, o, bb⟩ hI₁ (p.trans p2).step.toL ee

end
end Mine
end
section
namespace Mine
open PySem PyProof.Rows

section
variable {M : Model} {A : Around} {E : Value → Shared → Prop} {s : Shared} {env : Env}

/-- what stands behind a comprehension's loop -/
noncomputable def CompEnd (M : Model) (A : Around) (E : Value → Shared → Prop) (use : Option (Value → Sem Unit)) (Q : Value → Shared → Prop) (acc : Value) (cenv : Env) (r : Result) (s' : Shared) : Prop :=
  match r, use with
  | .ok _, none => ∃ m, s'.heap.Ns cenv.locals m ∧ ∀ h', Heap.SameBut cenv.locals s'.heap h' → Q acc { s' with heap := h' }
  | .ok _, some u => wpAny M A (u acc) (fun _ s'' => ∃ m, s''.heap.Ns cenv.locals m ∧ ∀ h', Heap.SameBut cenv.locals s''.heap h' → Q .none { s'' with heap := h' }) E s'
  | .error x, _ => ∃ m, s'.heap.Ns cenv.locals m ∧ ∀ h', Heap.SameBut cenv.locals s'.heap h' → wpAny M A (passOn "comprehension.variables-let-go" x cenv : Sem Value) (fun _ _ => False) E { s' with heap := h' }

theorem comp_rule {e : Expr} {scope : Scope} {pos : Pos} {newAcc first : Sem Value} {g : Comprehension} {gs : List Comprehension} {cl : List (Str × Addr)} {use : Option (Value → Sem Unit)}
    {Q : Value → Shared → Prop} (hcl : clausesOf e = g :: gs) (hs : ∀ x, foldedSetIterable g.iter env x = pure x) (hclos : closureFor scope env = pure cl)
    (hkind : scope.kind = .function) (hnames : ∀ x ∈ scope.names, x.2 = .local → scope.names.lookup x.1 = some .local)
    (h : wpAny M A first (fun x s₁ => wpAny M A (pyIter x) (fun it s₂ => wpAny M A newAcc (fun acc s₃ =>
      wpAny M A (newFunctionEnv scope env.globals cl [] env.qual none .none (some env)) (fun cenv s₄ =>
        codeAny M A (.compStart e 0 it acc { cenv with scope := relabel scope env }) (CompEnd M A E use Q acc { cenv with scope := relabel scope env }) s₄) E s₃) E s₂) E s₁) E s) :
    wpAny M A (comprehension e scope env pos newAcc false first use) Q E s := by
  unfold comprehension
  rw [hclos, hcl]
  refine wpAny_bind (wpAny_mono h (fun x s₁ h₁ => wpAny_bind (wpAny_standAt (wpAny_bind (wpAny_of_eq (hs x) (wpAny_bind (wpAny_holding (wpAny_mono h₁ (fun it s₂ h₂ =>
    wpAny_standIf (wpAny_bind (wpAny_mono h₂ (fun acc s₃ h₃ => wpAny_bind (wpAny_pure (wpAny_bind (wpAny_mono h₃ (fun cenv s₄ h₄ => ?_) fun _ _ h' => h')))) fun _ _ h' => h')))
      fun _ _ h' => h'))))))) fun _ _ h' => h')
  dsimp only
  have hv : ∀ x ∈ (scope.names.filter fun x => (x.2 == .local || x.2 == .cell) && x.1 != (".0" : Str)).reverse, x.2 = .local → Env.kindOf { cenv with scope := relabel scope env } x.1 = some .local :=
    fun x hx hl => lookup_relabel_local (hnames x (List.mem_filter.mp (List.mem_reverse.mp hx)).1 hl)
  have hv' : ∀ x ∈ (scope.names.filter fun x => (x.2 == .local || x.2 == .cell) && x.1 != (".0" : Str)).reverse.drop 1 ++ (scope.names.filter fun x => (x.2 == .local || x.2 == .cell) && x.1 != (".0" : Str)).reverse.take 1,
      x.2 = .local → Env.kindOf { cenv with scope := relabel scope env } x.1 = some .local := fun x hx hl => by
    rcases List.mem_append.mp hx with h1 | h1
    · exact hv x (List.mem_of_mem_drop h1) hl
    · exact hv x (List.mem_of_mem_take h1) hl
  refine wpAny_holding (wpAny_bind (wpAny_attempt (wpAny_holding (wpAny_run (codeAny_mono h₄ fun r s' hr => ?_)))))
  cases r with
  | ok f =>
    cases use with
    | none =>
      obtain ⟨m, hn, hr⟩ := hr
      exact wpAny_bind (wpAny_holding (wpAny_comp_letGo (cenv := { cenv with scope := relabel scope env }) hkind _ s' m hv hn fun h' m' _ hs' => wpAny_pure (hr h' hs')))
    | some u =>
      refine wpAny_bind (wpAny_rule (wpAny_bind (wpAny_holding (wpAny_mono hr (fun _ s'' hr' => ?_) fun _ _ h' => h'))))
      obtain ⟨m, hn, hr'⟩ := hr'
      exact wpAny_bind (wpAny_comp_letGo (cenv := { cenv with scope := relabel scope env }) hkind _ s'' m hv' hn fun h' m' _ hs' => wpAny_pure (hr' h' hs'))
  | error x =>
    have hr' : ∃ m, s'.heap.Ns cenv.locals m ∧ ∀ h', Heap.SameBut cenv.locals s'.heap h' → wpAny M A (passOn "comprehension.variables-let-go" x { cenv with scope := relabel scope env } : Sem Value) (fun _ _ => False) E { s' with heap := h' } := by cases use <;> exact hr
    obtain ⟨m, hn, hr⟩ := hr'
    exact wpAny_bind (wpAny_holding (wpAny_comp_letGo (cenv := { cenv with scope := relabel scope env }) hkind _ s' m hv hn fun h' m' _ hs' => wpAny_mono (hr h' hs') (fun _ _ f => f.elim) fun _ _ y => y))
end

/-- the cells that a comprehension takes along -/
noncomputable def closL (env : Env) : List (Str × NameKind) → List (Str × Addr) → List (Str × Addr)
  | [], acc => acc
  | (n, k) :: r, acc => if k == .free then closL env r ((n, (env.cells.lookup n).getD 0) :: acc) else closL env r acc

theorem closure_eq (scope : Scope) (env : Env) (h : ∀ p ∈ scope.names, p.2 = .free → (env.cells.lookup p.1).isSome = true) : closureFor scope env = pure (closL env scope.names []) := by
  have go : ∀ (names : List (Str × NameKind)) (acc : List (Str × Addr)), (∀ p ∈ names, p.2 = .free → (env.cells.lookup p.1).isSome = true) →
      (forIn names acc fun (x : Str × NameKind) (cs : List (Str × Addr)) => (if (x.2 == .free) = true then (do let c ← cellOf env x.1; pure (ForInStep.yield ((x.1, c) :: cs))) else pure (ForInStep.yield cs) : Sem (ForInStep (List (Str × Addr))))) = (pure (closL env names acc) : Sem (List (Str × Addr))) := by
    intro names
    induction names with
    | nil => intro acc _; rfl
    | cons p r ih =>
      intro acc hp
      obtain ⟨n, k⟩ := p
      rw [List.forIn_cons]
      unfold closL
      by_cases hk : (k == NameKind.free) = true
      · have := hp (n, k) List.mem_cons_self (by simpa using hk)
        obtain ⟨c, hc⟩ := Option.isSome_iff_exists.mp this
        have e : cellOf env n = (pure c : Sem Addr) := by unfold cellOf; rw [show env.cells.lookup n = some c from hc]
        rw [if_pos hk, if_pos hk]
        show ((cellOf env n >>= fun c => pure (ForInStep.yield ((n, c) :: acc))) >>= _) = _
        rw [e, show env.cells.lookup n = some c from hc]
        exact ih _ fun p hm => hp p (List.mem_cons_of_mem _ hm)
      · rw [if_neg hk, if_neg hk]
        exact ih _ fun p hm => hp p (List.mem_cons_of_mem _ hm)
  have := go scope.names [] h
  exact (congrArg (fun t : Sem (List (Str × Addr)) => t >>= fun cs => pure cs) this).trans rfl

theorem closL_sub {env : Env} : ∀ (names : List (Str × NameKind)) (acc : List (Str × Addr)), (∀ p ∈ names, p.2 = .free → (env.cells.lookup p.1).isSome = true) → (∀ n c, acc.lookup n = some c → env.cells.lookup n = some c) →
    ∀ n c, (closL env names acc).lookup n = some c → env.cells.lookup n = some c
  | [], acc, _, h, n, c, e => h n c e
  | (m, k) :: r, acc, hp, h, n, c, e => by
    unfold closL at e
    split at e
    · rename_i hk
      refine closL_sub r _ (fun p hm => hp p (List.mem_cons_of_mem _ hm)) (fun n' c' e' => ?_) n c e
      rw [List.lookup_cons] at e'
      cases hb : n' == m with
      | true =>
        rw [hb] at e'; cases e'
        rw [beq_iff_eq.mp hb]
        obtain ⟨c, hc⟩ := Option.isSome_iff_exists.mp (hp (m, k) List.mem_cons_self (by simpa using hk))
        rw [show env.cells.lookup m = some c from hc]; rfl
      | false => rw [hb] at e'; exact h n' c' e'
    · exact closL_sub r acc (fun p hm => hp p (List.mem_cons_of_mem _ hm)) h n c e
theorem closL_acc {env : Env} : ∀ (names : List (Str × NameKind)) (acc : List (Str × Addr)) (n : Str), (acc.lookup n).isSome = true → ((closL env names acc).lookup n).isSome = true
  | [], acc, n, h => h
  | (m, k) :: r, acc, n, h => by
    unfold closL
    split
    · refine closL_acc r _ n ?_
      rw [List.lookup_cons]
      cases n == m
      · exact h
      · rfl
    · exact closL_acc r acc n h
theorem closL_has {env : Env} : ∀ (names : List (Str × NameKind)) (acc : List (Str × Addr)) (n : Str), (n, NameKind.free) ∈ names → ((closL env names acc).lookup n).isSome = true
  | (m, k) :: r, acc, n, h => by
    unfold closL
    rcases List.mem_cons.mp h with e | h
    · cases e
      rw [if_pos (by decide)]
      refine closL_acc r _ _ ?_
      rw [List.lookup_cons, beq_self_eq_true]; rfl
    · split
      · exact closL_has r _ n h
      · exact closL_has r _ n h

theorem lookup_relabelS (csc sc : Scope) (n : Str) : (relabelS csc sc).names.lookup n = (csc.names.lookup n).map fun k => if (k == .free && sc.kind == .function && sc.names.lookup n == some .cell) then NameKind.cell else k := by
  unfold relabelS
  dsimp only
  induction csc.names with
  | nil => rfl
  | cons p r ih =>
    obtain ⟨m, k⟩ := p
    rw [List.map_cons]
    show List.lookup n ((if (k == NameKind.free && sc.kind == .function && sc.names.lookup m == some .cell) = true then (m, NameKind.cell) else (m, k)) :: _) = Option.map _ (List.lookup n ((m, k) :: r))
    by_cases hc : (k == NameKind.free && sc.kind == .function && sc.names.lookup m == some .cell) = true
    · rw [if_pos hc, List.lookup_cons, List.lookup_cons]
      cases hb : n == m with
      | true => have := beq_iff_eq.mp hb; subst this; dsimp only; rw [Option.map_some, if_pos hc]
      | false => exact ih
    · rw [if_neg hc, List.lookup_cons, List.lookup_cons]
      cases hb : n == m with
      | true => have := beq_iff_eq.mp hb; subst this; dsimp only; rw [Option.map_some, if_neg hc]
      | false => exact ih
end Mine
end
section
namespace Mine
open PySem PySem.W PySem.Calls PyProof.Rows

noncomputable def bnames : List Str := ["len", "int", "str", "tuple", "sorted", "min", "max", "isinstance", "list", "range", "enumerate", "bool", "ValueError"]

/-- the ground: what the program's names stand for -/
structure Gd (T : St) (N : Nm) where
  K : Frag
  kin : K.In T.base
  fn : Nat → Addr
  bns : ∃ mb, T.base.Ns builtinsNs mb ∧ ∀ x : Str, x ≠ "__name__" → mb x = bootBuiltins x
  nob : ∀ x ∈ bnames, nsIn K mainGlobals x = some none
  fns : ∀ (f : Nat) (n : Str), N.fnm[f]? = some n → n ≠ ("" : Str) → nsIn K mainGlobals n = some (some (.ref (fn f))) ∧ keepIn K (.ref (fn f)) = true
  vals : ∀ (g : Nat) (n : Str) (v : V), N.glm[g]? = some n → N.glv[g]? = some v → ∃ val, nsIn K mainGlobals n = some (some val) ∧ ∀ φ M h, VR T φ M h v val

section
variable {T : St} {N : Nm} {A : Around} {L : Addr} {q : Bool} {d : Nat} {φ φ' : Phi} {η η' : H} {s s' : Shared} {env : Env} {sc : Scope} {Γ : Gam} {ρ : Rho} {α β : Type} {call' : Nat → List V → H → R V}

theorem Gd.here (G : Gd T N) (R : Rel T φ η s.heap) : G.K.In s.heap := G.kin.keeps R.base

/-- a global name -/
theorem name_glob (G : Gd T N) (R : Rel T φ η s.heap) (F : FR T φ η s.heap L env sc Γ ρ) {n : Str} {pos : Pos} {v : Value} {Q : Value → Shared → Prop} {E : Value → Shared → Prop} (hn : isGlo sc n = true) (e : nsIn G.K mainGlobals n = some (some v)) (h : Q v s) :
    wpAny T.M A (eval (.Name n pos) env) Q E s := by
  unfold isGlo at hn
  rw [Bool.and_eq_true, beq_iff_eq, Bool.not_eq_true'] at hn
  refine Name_function_global F.kind (by unfold Env.kindOf; rw [F.sc]; exact hn.1) ?_ hn.2
  unfold loadGlobal
  rw [F.glob]
  refine wpAny_bind ((looks_nsIn (G.here R) e).here ?_)
  exact wpAny_pure h
theorem name_boot (G : Gd T N) (R : Rel T φ η s.heap) (F : FR T φ η s.heap L env sc Γ ρ) {n : Str} {pos : Pos} {v : Value} {Q : Value → Shared → Prop} {E : Value → Shared → Prop} (hn : isGlo sc n = true) (hb : n ∈ bnames) (e : bootBuiltins n = some v) (h : Q v s) :
    wpAny T.M A (eval (.Name n pos) env) Q E s := by
  unfold isGlo at hn
  rw [Bool.and_eq_true, beq_iff_eq, Bool.not_eq_true'] at hn
  refine Name_function_global F.kind (by unfold Env.kindOf; rw [F.sc]; exact hn.1) ?_ hn.2
  obtain ⟨mb, hm, hmb⟩ := G.bns
  unfold loadGlobal
  rw [F.glob, F.bi]
  refine wpAny_bind ((looks_nsIn (G.here R) (G.nob n hb)).here ?_)
  refine wpAny_bind (wpAny_nsGet (hm.keeps R.base) ?_)
  have hne : n ≠ "__name__" := by rintro rfl; revert hb; decide +kernel
  rw [hmb n hne, e]
  exact wpAny_pure h

theorem boot_bi (b : Bi) : biName b ∈ bnames ∧ bootBuiltins (biName b) = some (match b with | .len => .builtin "len" | .int => .type "int" | .str => .type "str" | .tuple => .type "tuple" | .sorted => .builtin "sorted" | .min => .builtin "min" | .max => .builtin "max") := by
  cases b <;> exact ⟨by decide +kernel, by decide +kernel⟩

theorem at_name {l : List Str} {i : Nat} {n : Str} (h : atName l i n = true) : l[i]? = some n ∧ n ≠ ("" : Str) := by
  unfold atName at h
  rw [Bool.and_eq_true, beq_iff_eq, Bool.not_eq_true', beq_eq_false_iff_ne] at h
  exact h
theorem e_glob (G : Gd T N) {g : Nat} {v : V} {n : Str} {pos : Pos} (hg : atName N.glm g n = true) (hn : isGlo sc n = true) (hv : (N.glv[g]?).any (constEq v) = true) : SimE T q d call' sc Γ (.glob g v) (.Name n pos) := by
  intro A L φ η s env ρ X F
  obtain ⟨w, hw, hv⟩ := any_some hv
  have hv := constEq_eq hv
  subst hv
  obtain ⟨val, e, r⟩ := G.vals g n v (at_name hg).1 hw
  exact .ok rfl (name_glob G X.rel F hn e ⟨φ, .refl X.rel, r _ _ _⟩)

/-- no star among the arguments -/
noncomputable def plainArgs (xs : List Expr) : Prop := xs.all plainArg = true
theorem args_plain {xs : List Expr} {pos : Pos} (h : plainArgs xs) : (backTo pos (starEach xs env)).any (·.1) = false ∧ (xs = [] ∨ ∃ t r, backTo pos (starEach xs env) = (false, t) :: r) := by
  unfold plainArgs at h
  induction xs with
  | nil => exact ⟨rfl, .inl rfl⟩
  | cons x xs ih =>
    rw [List.all_cons, Bool.and_eq_true] at h
    rw [starEach_plain h.1]
    refine ⟨?_, .inr ⟨_, _, rfl⟩⟩
    show (false || (backTo pos (starEach xs env)).any (·.1)) = false
    rw [(ih h.2).1]; rfl

theorem evalArgs_none {M : Model} {f : Value} {Q : Args → Shared → Prop} {E : Value → Shared → Prop} (h : wpAny M A (spliced []) (fun vs s' => Q ⟨vs, []⟩ s') E s) : wpAny M A (evalArgs f true [] []) Q E s := by
  unfold evalArgs
  show wpAny M A (spliced [] >>= _) Q E s
  refine wpAny_bind (wpAny_mono h (fun vs s' h' => wpAny_holding ?_) fun _ _ x => x)
  exact wpAny_bind (wpAny_pure (wpAny_bind (wpAny_pure (wpAny_pure h'))))
theorem sim_evalArgs {γ : Type} {f : Value} {xs : List Expr} {pos : Pos} {r : R γ} {Q : QR (List Value) γ} (hp : plainArgs xs) (h1 : Sim T A L φ η s (spliced (backTo pos (starEach xs env))) r Q) :
    Sim T A L φ η s (evalArgs f true (backTo pos (starEach xs env)) []) r (fun φ η h v (a : Args) => Q φ η h v a.pos ∧ a.kw = []) := by
  rcases (args_plain (env := env) (pos := pos) hp).2 with e | ⟨t, r, e⟩
  · subst e
    exact h1.imp id fun h1 => evalArgs_none (wpAny_mono h1 (fun vs s' ⟨v, η', φ', a, b, c⟩ => ⟨v, η', φ', a, b, c, rfl⟩) fun _ _ y => y)
  · rw [e] at h1 ⊢
    exact h1.imp id fun h1 => evalArgs_plain (wpAny_mono h1 (fun vs s' ⟨v, η', φ', a, b, c⟩ => ⟨v, η', φ', a, b, c, rfl⟩) fun _ _ y => y)

/-- a call: the arguments, then the call itself -/
theorem sim_callWithG {γ : Type} {f : Value} {first : List Value} {xs : List Expr} {pos p₀ : Pos} {r : R γ} {g : γ → H → R V} {Q : QR (List Value) γ}
    (hk : ∀ h, (∀ b o, T.base.get? b = some o → h.get? b = some o) → ∃ k, (k = Keeper.frame ∨ k = Keeper.machine ∨ k = Keeper.boundFrame) ∧ Looks T.M h (keeperOf f) k)
    (hp : plainArgs xs) (h : Sim T A L φ η s (spliced (backTo pos (starEach xs env))) r Q)
    (h2 : ∀ v η' φ' ys s', r = .ok v η' → Post T φ η s φ' η' s' → Q φ' η' s'.heap v ys → Sim T A L φ' η' s' (PySem.call f (first ++ ys)) (g v η') (QV T)) :
    Sim T A L φ η s (callWith p₀ f first (backTo pos (starEach xs env)) []) (r.bind g) (QV T) := by
  refine (Sim.nest (Q₂ := QV T) (k := fun a : Args => PySem.call f (first ++ a.pos) a.kw) (sim_evalArgs (f := f) (pos := pos) hp h) fun vs η' φ' a s' e p hq => ?_).imp id fun w => ?_
  · rw [hq.2]; exact h2 vs η' φ' a.pos s' e p hq.1
  · exact callWith_of (P := fun h => ∀ b o, T.base.get? b = some o → h.get? b = some o) (by rw [(args_plain hp).1]; rfl) hk (wpAny_mono w (fun a s₁ ⟨⟨v, η', φ', e, p, hq⟩, w⟩ => ⟨p.rel.base, w⟩) fun _ _ y => y)
theorem sim_callWith {f : Value} {first : List Value} {es : List E} {xs : List Expr} {pos p₀ : Pos} {g : List V → H → R V} (hk : ∀ h, (∀ b o, T.base.get? b = some o → h.get? b = some o) → ∃ k, (k = Keeper.frame ∨ k = Keeper.machine ∨ k = Keeper.boundFrame) ∧ Looks T.M h (keeperOf f) k)
    (hp : plainArgs xs) (h : SimEs T q d call' sc Γ es xs) (X : Cxt T A L q d φ η s) (F : FR T φ η s.heap L env sc Γ ρ)
    (h2 : ∀ vs η' φ' ys s', evEs T.P q call' es ρ η = .ok vs η' → Post T φ η s φ' η' s' → VRs T φ' (own φ' η') s'.heap vs ys → Sim T A L φ' η' s' (PySem.call f (first ++ ys)) (g vs η') (QV T)) :
    Sim T A L φ η s (callWith p₀ f first (backTo pos (starEach xs env)) []) ((evEs T.P q call' es ρ η).bind g) (QV T) :=
  sim_callWithG (Q := QVs T) hk hp (h A L φ η s env ρ pos X F) h2

theorem seq_view {v : V} {x : Value} {xs : List V} (R : Rel T φ η s.heap) (e : seqOf η v = some xs) (r : QV T φ η s.heap v x) :
    ∃ a items k, x = .ref a ∧ (s.heap.get? a = some (listO items k) ∨ s.heap.get? a = some (tupO items k)) ∧ VRs T φ (own φ η) s.heap xs items.toList := by
  unfold seqOf at e
  split at e
  · cases e
    simp only [QV, VR] at r
    obtain ⟨a, items, k, rfl, _, g, r⟩ := r
    exact ⟨a, items, k, rfl, .inr g, r⟩
  · obtain ⟨a, items, k, rfl, g, r⟩ := list_view R e r
    exact ⟨a, items, k, rfl, .inl g, r⟩

/-- len -/
theorem sim_len {v : V} {x : Value} (R : Rel T φ η s.heap) (r : QV T φ η s.heap v x) : Sim T A L φ η s (PySem.call (.builtin "len") [x]) (match lenV η v with | some n => if n ≤ 100000 then .ok (.int n) η else .fail | none => .fail) (QV T) := by
  cases e : lenV η v with
  | none => exact .fail
  | some n =>
    dsimp only
    split
    · rename_i hn
      unfold lenV at e
      split at e
      · rename_i sg
        cases e
        simp only [QV, VR] at r
        obtain ⟨t, rfl⟩ := r
        refine .ok rfl (P.len_str (by rw [str_len]; omega) ⟨φ, .toks R, ?_⟩)
        simp only [QV, VR, str_len]
        exact ⟨_, rfl⟩
      · obtain ⟨xs, e', rfl⟩ := Option.map_eq_some_iff.mp e
        obtain ⟨a, items, k, rfl, g, rr⟩ := seq_view R e' r
        have hsz := len_items rr
        rcases g with g | g
        · refine .ok rfl (call_len_list (isList_of g) (by omega) ⟨φ, .toks R, ?_⟩)
          simp only [QV, VR, hsz]; exact ⟨_, rfl⟩
        · refine .ok rfl (len_tuple ⟨_, g, rfl, k, rfl⟩ (by omega) ⟨φ, .toks R, ?_⟩)
          simp only [QV, VR, hsz]; exact ⟨_, rfl⟩
    · exact .fail

theorem digits_ok {sg : List Nat} (h : (sg.all isDigit && decide (1 ≤ sg.length) && decide (sg.length ≤ 18)) = true) : PySem.intText? ⟨sg.toArray⟩ = some ((readNat sg : Nat) : Int) ∧ (⟨sg.toArray⟩ : Str).length ≤ 640 := by
  rw [Bool.and_eq_true, Bool.and_eq_true, decide_eq_true_eq, decide_eq_true_eq] at h
  obtain ⟨⟨h1, h2⟩, h3⟩ := h
  have hd : NumText.AllDigits (⟨sg.toArray⟩ : Str).cps.toList := by
    intro c hc
    have := List.all_eq_true.mp h1 c (by simpa using hc)
    unfold isDigit at this
    rw [Bool.and_eq_true, decide_eq_true_eq, decide_eq_true_eq] at this
    exact this
  have hv : NumText.digitsVal sg = readNat sg := by
    unfold NumText.digitsVal readNat
    congr 1
    funext a c
    rw [Nat.mul_comm]
  refine ⟨?_, by rw [str_len]; omega⟩
  have := PySem.intText_digits hd (by intro q; rw [show (⟨sg.toArray⟩ : Str).cps.toList = sg by simp] at q; subst q; simp at h2) (by rw [str_len]; omega)
  rw [this]
  simp only [hv]

theorem log_small {i : Int} (h0 : 0 ≤ i) (h1 : i < 10 ^ 9) : i.natAbs.log2 < 1920 := by
  by_cases hz : i.natAbs = 0
  · rw [hz]; decide
  · have : i.natAbs < 2 ^ 30 := by omega
    have := (Nat.log2_lt hz).mpr this
    omega

/-- int of a flag or of figures, str of a number, tuple of a list -/
theorem sim_int {v : V} {x : Value} (R : Rel T φ η s.heap) (r : QV T φ η s.heap v x) : Sim T A L φ η s (PySem.call (.type "int") [x]) (biV q .int η [v]) (QV T) := by
  cases v with
  | bool b =>
    simp only [QV, VR] at r; subst r
    exact .ok rfl (call_int_bool ⟨φ, .toks R, by simp [QV, VR]⟩)
  | str sg =>
    show Sim T A L φ η s _ (if sg.all isDigit && decide (1 ≤ sg.length) && decide (sg.length ≤ 18) then Mine.R.ok (V.int (readNat sg)) η else .fail) _
    split
    · rename_i hd
      simp only [QV, VR] at r
      obtain ⟨t, rfl⟩ := r
      obtain ⟨h1, h2⟩ := digits_ok hd
      exact .ok rfl (KIN.call_text h1 h2 ⟨φ, .toks R, by simp [QV, VR]⟩)
    · exact .fail
  | _ => exact .fail

theorem sim_str {v : V} {x : Value} (R : Rel T φ η s.heap) (r : QV T φ η s.heap v x) : Sim T A L φ η s (PySem.call (.type "str") [x]) (biV q .str η [v]) (QV T) := by
  cases v with
  | int i =>
    show Sim T A L φ η s _ (if decide (0 ≤ i) && decide (i < 10 ^ 9) then Mine.R.ok (V.str (digitsOf i.toNat)) η else .fail) _
    split
    · rename_i hd
      rw [Bool.and_eq_true, decide_eq_true_eq, decide_eq_true_eq] at hd
      simp only [QV, VR] at r
      obtain ⟨t, rfl⟩ := r
      refine .ok rfl (P.str_of_int (log_small hd.1 hd.2) ⟨φ, .toks R, ?_⟩)
      simp only [QV, VR]
      refine ⟨s.toks, ?_⟩
      obtain ⟨m, rfl⟩ := Int.eq_ofNat_of_zero_le hd.1
      have := KIN.signs_num m
      unfold digitsOf
      rw [show ((m : Int)).toNat = m from rfl, ← this]
    · exact .fail
  | _ => exact .fail

theorem sim_tuple {v : V} {x : Value} (R : Rel T φ η s.heap) (r : QV T φ η s.heap v x) : Sim T A L φ η s (PySem.call (.type "tuple") [x]) (biV q .tuple η [v]) (QV T) := by
  show Sim T A L φ η s _ (match seqOf η v with | some xs => if xs.length ≤ 100000 then Mine.R.ok (V.tup xs) η else .fail | none => .fail) _
  cases e : seqOf η v with
  | none => exact .fail
  | some xs =>
    dsimp only
    split
    · rename_i hn
      unfold seqOf at e
      split at e
      · cases e
        have r' := r
        simp only [QV, VR] at r'
        obtain ⟨a, items, k, rfl, _, g, _⟩ := r'
        exact .ok rfl (call_tuple_same (items := items) ⟨_, g, rfl, k, rfl⟩ ⟨φ, .refl R, r⟩)
      · obtain ⟨a, items, k, rfl, g, rr⟩ := list_view R e r
        have hsz := len_items rr
        refine .ok rfl (call_tuple_list (isList_of g) (fun h' hk => ?_) (by rw [hsz]; exact line_le hn))
        have p := Post.grown (k := s.toks) R hk
        have := mk_tup (s := { s with heap := h' }) p.rel (VRs.step p.step _ _ rr) s.toks
        exact ⟨φ, Post.trans p this.1, this.2⟩
    · exact .fail

/-- list of a list or a tuple -/
theorem sim_toList (mu : Bool) {v : V} {x : Value} (R : Rel T φ η s.heap) (r : QV T φ η s.heap v x) :
    Sim T A L φ η s (PySem.call (.type "list") [x]) (match seqOf η v with | some xs => if xs.length ≤ 100000 then mkList mu xs η else .fail | none => .fail) (QV T) := by
  cases e : seqOf η v with
  | none => exact .fail
  | some xs =>
    dsimp only
    split
    · rename_i hn
      obtain ⟨a, items, k, rfl, g, rr⟩ := seq_view R e r
      have hsz := len_items rr
      have fin : ∀ h' c', (∀ b o', s.heap.get? b = some o' → h'.get? b = some o') → h'.get? s.heap.objs.size = some { cls := .type "list", dict := none, data := .seq items c', slots := #[] } → ∃ v η' φ', mkList mu xs η = .ok v η' ∧ Post T φ η s φ' η' { s with heap := h' } ∧ VR T φ' (own φ' η') h' v (.ref s.heap.objs.size) :=
        fun h' c' hk hg => mk_listG mu R rr hk (Nat.le_refl _) hg s.toks
      refine .inr ?_
      rcases g with g | g
      · exact call_list_seq a (.inl rfl) g rfl rfl (fun h' c' hk hg => let ⟨v, η', φ', e1, p, rv⟩ := fin h' c' hk hg; ⟨v, η', φ', e1, p, rv⟩) (by rw [hsz]; exact line_le hn)
      · exact call_list_seq a (.inr rfl) g rfl rfl (fun h' c' hk hg => let ⟨v, η', φ', e1, p, rv⟩ := fin h' c' hk hg; ⟨v, η', φ', e1, p, rv⟩) (by rw [hsz]; exact line_le hn)
    · exact .fail
end
end Mine
end
section
namespace Mine
open PySem PySem.W PySem.Calls PyProof.Rows

theorem join_cps (sep : Str) : ∀ l : List Str, (Str.join sep l).cps.toList = joinL sep.cps.toList (l.map (·.cps.toList))
  | [] => rfl
  | [x] => rfl
  | x :: y :: r => by
    show (x ++ sep ++ Str.join sep (y :: r)).cps.toList = _
    simp only [Str.cps_append, Array.toList_append]
    rw [join_cps sep (y :: r)]
    rfl

theorem splitL_app (c : Nat) : ∀ (x r : List Nat), c ∉ x → splitL c (x ++ c :: r) = x :: splitL c r
  | [], r, _ => by simp [splitL]
  | y :: x, r, h => by
    have h1 : y ≠ c := fun e => h (by simp [e])
    have h2 : c ∉ x := fun e => h (by simp [e])
    show (if y = c then [] :: splitL c (x ++ c :: r) else match splitL c (x ++ c :: r) with | [] => [[y]] | w :: ws => (y :: w) :: ws) = _
    rw [if_neg h1, splitL_app c x r h2]
theorem splitL_free (c : Nat) : ∀ x : List Nat, c ∉ x → splitL c x = [x]
  | [], _ => rfl
  | y :: x, h => by
    have h1 : y ≠ c := fun e => h (by simp [e])
    have h2 : c ∉ x := fun e => h (by simp [e])
    unfold splitL
    rw [if_neg h1, splitL_free c x h2]
theorem splitL_join (c : Nat) : ∀ parts : List (List Nat), parts ≠ [] → (∀ p ∈ parts, c ∉ p) → splitL c (joinL [c] parts) = parts
  | [], h, _ => absurd rfl h
  | [x], _, h => by simpa [joinL] using splitL_free c x (h x (by simp))
  | x :: y :: r, _, h => by
    show splitL c (x ++ [c] ++ joinL [c] (y :: r)) = _
    rw [List.append_assoc]
    show splitL c (x ++ c :: joinL [c] (y :: r)) = _
    rw [splitL_app c x _ (h x (by simp)), splitL_join c (y :: r) (by simp) fun p hp => h p (by simp [hp])]

theorem split_ne (x y : Str) : Txt.split x y ≠ [] := by
  unfold Txt.split
  split
  · simp
  · split
    · simp
    · rw [StrLaws.partsBetween_eq]
      obtain ⟨p, r, e⟩ := StrLaws.partsFrom_ne x y.length 0 (Builtin.Str.occurrences x y 0 x.length (x.length + 1))
      rw [e]; simp
theorem split_eq (x : Str) (c : Nat) : (Txt.split x ⟨#[c]⟩).map (·.cps.toList) = splitL c x.cps.toList := by
  have h1 := StrLaws.join_split x ⟨#[c]⟩
  have h2 := StrLaws.split_free x c
  have h3 := congrArg (fun z : Str => z.cps.toList) h1
  rw [join_cps] at h3
  rw [← h3]
  refine (splitL_join c _ (by simpa using split_ne x ⟨#[c]⟩) ?_).symm
  intro p hp
  obtain ⟨z, hz, rfl⟩ := List.mem_map.mp hp
  exact h2 z hz

section
variable {T : St} {N : Nm} {A : Around} {L : Addr} {q : Bool} {d : Nat} {φ φ' : Phi} {η η' : H} {s s' : Shared} {env : Env} {sc : Scope} {Γ : Gam} {ρ : Rho} {α β : Type} {call' : Nat → List V → H → R V}

theorem vrs_strs {M : Addr → Prop} {h : Heap} : ∀ (l : List Str) (t : Nat), VRs T φ M h (l.map fun x => V.str x.cps.toList) (strsFrom t l)
  | [], t => by simp [VRs, strsFrom]
  | x :: l, t => by
    simp only [List.map_cons, VRs, strsFrom, VR]
    exact ⟨_, _, rfl, ⟨t, rfl⟩, vrs_strs l (t + 1)⟩

theorem parts_len {x y : Str} (h1 : (decide (x.length < y.length) || decide (Builtin.Str.strKind x < Builtin.Str.strKind y)) = false) (hf : (Builtin.Str.occurrences x y 0 x.length (x.length + 1)).isEmpty = false) :
    Txt.split x y = Builtin.Str.partsBetween x (Builtin.Str.occurrences x y 0 x.length (x.length + 1)) y.length := by
  unfold Txt.split
  rw [if_neg (by rw [h1]; simp), if_neg (by rw [hf]; simp)]

theorem splitL_len (c : Nat) : ∀ s, (splitL c s).length ≤ s.length + 1
  | [] => by simp [splitL]
  | x :: r => by
    have ih := splitL_len c r
    unfold splitL
    split
    · simp; omega
    · split
      · simp
      · rename_i w ws e
        rw [e] at ih
        simp at ih ⊢; omega

/-- split at a sign -/
theorem sim_split {sg : List Nat} {c : Nat} {t u : Tok} (R : Rel T φ η s.heap) (hsz : sg.length ≤ 100000) :
    Sim T A L φ η s (PySem.call (.builtin "str.split") [.str ⟨sg.toArray⟩ t, .str ⟨#[c]⟩ u]) (.ok (.lst ((splitL c sg).map .str)) η) (QV T) := by
  have hx : (⟨sg.toArray⟩ : Str).length = sg.length := str_len sg
  have key := split_eq ⟨sg.toArray⟩ c
  have hv : ∀ tk, VRs T φ (own φ η) s.heap ((splitL c sg).map .str) (strsFrom tk (Txt.split ⟨sg.toArray⟩ ⟨#[c]⟩)) := fun tk => by
    have := vrs_strs (T := T) (φ := φ) (M := own φ η) (h := s.heap) (Txt.split ⟨sg.toArray⟩ ⟨#[c]⟩) tk
    have e : (Txt.split ⟨sg.toArray⟩ ⟨#[c]⟩).map (fun x => V.str x.cps.toList) = (splitL c sg).map .str := by
      have k2 : (Txt.split ⟨sg.toArray⟩ ⟨#[c]⟩).map (·.cps.toList) = splitL c sg := by simpa using key
      rw [← k2, List.map_map]; rfl
    rwa [e] at this
  refine .ok rfl ?_
  cases h1 : (decide ((⟨sg.toArray⟩ : Str).length < (⟨#[c]⟩ : Str).length) || decide (Builtin.Str.strKind ⟨sg.toArray⟩ < Builtin.Str.strKind ⟨#[c]⟩)) with
  | true =>
    refine call_meets F.slot_str_split (typeIs_str _ _ _) F.entry_str_split (F.args_str_split_2 _ _) (meets_str_split_cannot_occur _ _ _ _ h1) ?_
    have e : Txt.split ⟨sg.toArray⟩ ⟨#[c]⟩ = [⟨sg.toArray⟩] := by unfold Txt.split; rw [if_pos h1]
    have hv' := hv t
    rw [e] at hv'
    have := mk_lst R (items := [Value.str ⟨sg.toArray⟩ t].toArray) (by simpa [strsFrom] using hv') s.toks
    exact ⟨φ, this.1, this.2⟩
  | false =>
    cases hf : (Builtin.Str.occurrences ⟨sg.toArray⟩ ⟨#[c]⟩ 0 (⟨sg.toArray⟩ : Str).length ((⟨sg.toArray⟩ : Str).length + 1)).isEmpty with
    | true =>
      refine call_meets F.slot_str_split (typeIs_str _ _ _) F.entry_str_split (F.args_str_split_2 _ _) (meets_str_split_not_found _ _ _ _ h1 rfl hf) ?_
      have e : Txt.split ⟨sg.toArray⟩ ⟨#[c]⟩ = [⟨sg.toArray⟩] := by unfold Txt.split; rw [if_neg (by rw [h1]; simp), if_pos hf]
      have hv' := hv t
      rw [e] at hv'
      have := mk_lst R (items := [Value.str ⟨sg.toArray⟩ t].toArray) (by simpa [strsFrom] using hv') s.toks
      exact ⟨φ, this.1, this.2⟩
    | false =>
      have e := parts_len h1 hf
      have hl : (Builtin.Str.partsBetween ⟨sg.toArray⟩ (Builtin.Str.occurrences ⟨sg.toArray⟩ ⟨#[c]⟩ 0 (⟨sg.toArray⟩ : Str).length ((⟨sg.toArray⟩ : Str).length + 1)) (⟨#[c]⟩ : Str).length).length ≤ 100001 := by
        rw [← e]
        have := congrArg List.length key
        rw [List.length_map] at this
        rw [this]
        have := splitL_len c sg
        simp; omega
      refine call_meets F.slot_str_split (typeIs_str _ _ _) F.entry_str_split (F.args_str_split_2 _ _) (meets_str_split_sep _ _ _ _ h1 rfl hf (by rw [hx]; exact line_le hsz) (Nat.le_trans hl (by decide))) ?_
      have hv' := hv s.toks
      rw [e] at hv'
      have := mk_lst R (items := (strsFrom s.toks (Builtin.Str.partsBetween ⟨sg.toArray⟩ (Builtin.Str.occurrences ⟨sg.toArray⟩ ⟨#[c]⟩ 0 (⟨sg.toArray⟩ : Str).length ((⟨sg.toArray⟩ : Str).length + 1)) (⟨#[c]⟩ : Str).length)).toArray) (by simpa using hv') (s.toks + (Builtin.Str.partsBetween ⟨sg.toArray⟩ (Builtin.Str.occurrences ⟨sg.toArray⟩ ⟨#[c]⟩ 0 (⟨sg.toArray⟩ : Str).length ((⟨sg.toArray⟩ : Str).length + 1)) (⟨#[c]⟩ : Str).length).length)
      exact ⟨φ, this.1, this.2⟩

/-- a list grows -/
theorem sim_append {n : Nat} {v : V} {x : Value} {xs : List V} {p : Addr × Addr} (R : Rel T φ η s.heap) (hn : η[n]? = some (.list xs)) (hp : φ[n]? = some p) (hsz : xs.length ≤ 100000) (r : QV T φ η s.heap v x) :
    Sim T A L φ η s (PySem.call (.builtin "list.append") [.ref p.1, x]) (.ok .none (η.set n (.list (xs ++ [v])))) (QV T) := by
  obtain ⟨_, items, k, g, rr⟩ := R.obj n _ p hn hp
  have hl := len_items rr
  refine .ok rfl (call_meets F.slot_list_append ⟨_, g, rfl⟩ F.entry_list_append (F.args_list_append_2 _ _) (list_append p.1 items k x (by rw [hl]; exact line_le hsz)) ⟨g, φ, upd_list R hn hp g (fun a => a.push x) ?_ s.toks, by simp [QV, VR]⟩)
  simp only [Array.toList_push]
  refine rr.append ?_
  simp only [VRs]; exact ⟨x, [], rfl, r, rfl⟩
theorem app_sim {n : Nat} {v : V} {x : Value} {p : Addr × Addr} (R : Rel T φ η s.heap) (hp : φ[n]? = some p) (r : QV T φ η s.heap v x) : Sim T A L φ η s (PySem.call (.builtin "list.append") [.ref p.1, x]) (appN η n v) (QV T) :=
  Sim.getL fun _ hn => Sim.ifF fun hsz => sim_append R hn hp hsz r

end
end Mine
end
section
namespace Mine
open PySem PySem.W PySem.Calls PyProof.Rows

section
variable {T : St} {N : Nm} {A : Around} {L : Addr} {q : Bool} {d : Nat} {φ φ' : Phi} {η η' : H} {s s' : Shared} {env : Env} {sc : Scope} {Γ : Gam} {ρ : Rho} {α β : Type} {call' : Nat → List V → H → R V}

/-- the type and the method's own name -/
noncomputable def kindT (k : Nat) : String := if k == 1 then "str" else if k == 2 then "list" else "dict"
noncomputable def bmId (m : Bm) (k : Nat) : String × String := (kindT k, match m with
  | .append => "list.append"
  | .pop => if k == 3 then "dict.pop" else "list.pop"
  | .remove => "list.remove"
  | .index => if k == 1 then "str.index" else "list.index"
  | .count => "list.count"
  | .join => "str.join"
  | .split => "str.split")

theorem or_kind {a b k : Nat} (h : (k == a || k == b) = true) : k = a ∨ k = b := (Bool.or_eq_true_iff.mp h).imp (fun h => beq_iff_eq.mp h) fun h => beq_iff_eq.mp h
theorem bm_slot {m : Bm} {k : Nat} (h : okM m k = true) : PlainAttrs (bmId m k).1 ∧ Slot (bmId m k).1 (bmName m) (bmId m k).2 ∧ typeOf (.builtin (bmId m k).2) = pure (.type "method_descriptor") := by
  cases m with
  | append => have : k = 2 := beq_iff_eq.mp h; subst this; exact ⟨F.plainAttrs_list, F.slot_list_append, F.type_list_append⟩
  | pop => exact (or_kind h).elim (fun e => e ▸ ⟨F.plainAttrs_list, F.slot_list_pop, F.type_list_pop⟩) fun e => e ▸ ⟨F.plainAttrs_dict, F.slot_dict_pop, F.type_dict_pop⟩
  | remove => have : k = 2 := beq_iff_eq.mp h; subst this; exact ⟨F.plainAttrs_list, F.slot_list_remove, F.type_list_remove⟩
  | index => exact (or_kind h).elim (fun e => e ▸ ⟨F.plainAttrs_str, F.slot_str_index, F.type_str_index⟩) fun e => e ▸ ⟨F.plainAttrs_list, F.slot_list_index, F.type_list_index⟩
  | count => have : k = 2 := beq_iff_eq.mp h; subst this; exact ⟨F.plainAttrs_list, F.slot_list_count, F.type_list_count⟩
  | join => have : k = 1 := beq_iff_eq.mp h; subst this; exact ⟨F.plainAttrs_str, F.slot_str_join, F.type_str_join⟩
  | split => have : k = 1 := beq_iff_eq.mp h; subst this; exact ⟨F.plainAttrs_str, F.slot_str_split, F.type_str_split⟩
theorem kindM_ref {n : Nat} {m : Option M} (h : η[n]? = m) : kindM η (.ref n) = match (generalizing := false) m with | some (.list _) => 2 | some (.dict _) => 3 | _ => 0 := by subst h; rfl
theorem okM_pos {m : Bm} (h : okM m 0 = true) : False := by cases m <;> cases h

/-- what has a kind has its type -/
theorem kind_type {m : Bm} {v : V} {x : Value} (R : Rel T φ η s.heap) (h : okM m (kindM η v) = true) (r : QV T φ η s.heap v x) : s.TypeIs x (bmId m (kindM η v)).1 ∧ ∀ a, x = .ref a → ∃ o, s.heap.get? a = some o ∧ o.dict = none := by
  have h0 : kindM η v ≠ 0 := fun e => okM_pos (by rw [e] at h; exact h)
  show s.TypeIs x (kindT (kindM η v)) ∧ _
  clear h
  cases v with
  | str sg =>
    simp only [QV, VR] at r
    obtain ⟨t, rfl⟩ := r
    exact ⟨typeIs_str _ _ _, nofun⟩
  | lst xs =>
    simp only [QV, VR] at r
    obtain ⟨a, items, k, rfl, _, g, _⟩ := r
    exact ⟨⟨_, g, rfl⟩, fun b e => by cases e; exact ⟨_, g, rfl⟩⟩
  | ref n =>
    simp only [QV, VR] at r
    obtain ⟨p, hp, rfl⟩ := r
    cases hn : η[n]? with
    | none => exact absurd (kindM_ref hn) h0
    | some mm =>
      cases mm with
      | list xs =>
        obtain ⟨_, items, k, g, _⟩ := R.obj n _ p hn hp
        rw [kindM_ref hn]
        exact ⟨⟨_, g, rfl⟩, fun b e => by cases e; exact ⟨_, g, rfl⟩⟩
      | dict es =>
        obtain ⟨_, kvs, ⟨o, es', ep, g, hx, _⟩, _⟩ := R.obj n _ p hn hp
        rw [kindM_ref hn]
        exact ⟨⟨_, g, hx.1⟩, fun b e => by cases e; exact ⟨_, g, hx.2.1⟩⟩
      | _ => exact absurd (kindM_ref hn) h0
  | _ => exact absurd rfl h0

theorem sim_strIndex {sg : List Nat} {c i : Nat} {t u : Tok} (R : Rel T φ η s.heap) (h : sg.idxOf? c = some i) : Sim T A L φ η s (PySem.call (.builtin "str.index") [.str ⟨sg.toArray⟩ t, .str ⟨#[c]⟩ u]) (.ok (.int i) η) (QV T) := by
  have hat : ∀ j, StrLaws.At ⟨sg.toArray⟩ ⟨#[c]⟩ (⟨sg.toArray⟩ : Str).length j ↔ sg[j]? = some c := fun j => by
    have := StrLaws.subAt_one ⟨sg.toArray⟩ c j
    rw [show (⟨sg.toArray⟩ : Str).cps.toList = sg from rfl] at this
    exact this
  obtain ⟨hi, hno⟩ : sg[i]? = some c ∧ ∀ m, m < i → sg[m]? ≠ some c := by
    rw [List.idxOf?_eq_some_iff] at h
    obtain ⟨h1, h2, h3⟩ := h
    refine ⟨by rw [List.getElem?_eq_getElem h1]; simpa using h2, fun m hm q => ?_⟩
    have hml : m < sg.length := by omega
    rw [List.getElem?_eq_getElem hml] at q
    have := h3 m hm
    simp at q
    exact this (by simpa using q)
  rcases StrLaws.occ_head ⟨sg.toArray⟩ ⟨#[c]⟩ 1 (Nat.le_refl 1) with ⟨_, hn⟩ | ⟨j, r, e, ha, hn⟩
  · exact absurd ((hat i).mpr hi) (hn i)
  · have : j = i := by
      rcases Nat.lt_trichotomy j i with hlt | he | hgt
      · exact absurd ((hat j).mp ha) (hno j hlt)
      · exact he
      · exact absurd ((hat i).mpr hi) (hn i hgt)
    subst this
    exact .ok rfl (call_gives F.slot_str_index (typeIs_str _ _ _) F.entry_str_index (F.args_str_index_2 _ _) (gives_str_index _ _ _ _ j r e) ⟨φ, .toks R, by simp [QV, VR]⟩)

theorem itemBy_at {xs : List V} {items : Array Value} (r : VRs T φ (own φ η) s.heap xs items.toList) (p : ∀ x ∈ xs, x.plain = true) {j : Nat} (hj : j < items.size) : ∃ z, xs[j]? = some z ∧ itemBy xs items.toList items[j] = z := by
  have hg : items.toList[j]? = some items[j] := by simp [hj]
  obtain ⟨z, hz, _⟩ := r.get' hg
  exact ⟨z, hz, itemBy_get r p hg hz⟩

theorem sim_index {v w : V} {x y : Value} {xs : List V} {i : Nat} (R : Rel T φ η s.heap) (hu : A.units + 7 < cLine) (e : listOf η v = some xs) (r : QV T φ η s.heap v x) (rw' : QV T φ η s.heap w y) (hp : (w.plain && xs.all V.plain && decide (xs.length ≤ 100000)) = true)
    (hf : xs.findIdx? (fun z => eqV z w) = some i) : Sim T A L φ η s (PySem.call (.builtin "list.index") [x, y]) (.ok (.int i) η) (QV T) := by
  obtain ⟨a, items, k, rfl, g, rr⟩ := list_view R e r
  rw [Bool.and_eq_true, Bool.and_eq_true, decide_eq_true_eq] at hp
  have pp : ∀ x ∈ xs, x.plain = true := by simpa using hp.1.2
  have hl := len_items rr
  rw [List.findIdx?_eq_some_iff_getElem] at hf
  obtain ⟨h1, h2, h3⟩ := hf
  have hj : i < items.size := by omega
  refine .ok rfl (call_meets F.slot_list_index ⟨_, g, rfl⟩ F.entry_list_index (F.args_list_index_2 _ _) (SeqAt.list_indexAt a items k none #[] y (fun z => eqV (itemBy xs items.toList z) w) i hj (by omega) ?_ (fun m hm hlt => ?_)) ⟨g, eqAt_items R hu rr pp hp.1.1 rw', φ, .toks R, by simp [QV, VR]⟩)
  · obtain ⟨z, hz, e⟩ := itemBy_at rr pp hj
    rw [e]
    rw [List.getElem?_eq_getElem h1] at hz; cases hz; exact h2
  · obtain ⟨z, hz, e⟩ := itemBy_at rr pp hm
    rw [e]
    have hml : m < xs.length := by omega
    rw [List.getElem?_eq_getElem hml] at hz; cases hz
    simpa using h3 m hlt

theorem sim_count {v w : V} {x y : Value} {xs : List V} (R : Rel T φ η s.heap) (hu : A.units + 7 < cLine) (e : listOf η v = some xs) (r : QV T φ η s.heap v x) (rw' : QV T φ η s.heap w y) (hp : (w.plain && xs.all V.plain) = true) :
    Sim T A L φ η s (PySem.call (.builtin "list.count") [x, y]) (.ok (.int (xs.countP fun z => eqV z w)) η) (QV T) := by
  obtain ⟨a, items, k, rfl, g, rr⟩ := list_view R e r
  rw [Bool.and_eq_true] at hp
  have pp : ∀ x ∈ xs, x.plain = true := by simpa using hp.2
  have cnt : items.toList.countP (fun z => eqV (itemBy xs items.toList z) w) = xs.countP fun z => eqV z w := by
    have key : items.toList.map (itemBy xs items.toList) = xs := by
      apply List.ext_getElem?
      intro j
      rw [List.getElem?_map]
      by_cases hj : j < items.size
      · obtain ⟨z, hz, e⟩ := itemBy_at rr pp hj
        simp [hj, e, hz]
      · have := len_items rr
        rw [List.getElem?_eq_none (by simp; omega), List.getElem?_eq_none (by omega)]; rfl
    conv => rhs; rw [← key]
    rw [List.countP_map]; rfl
  refine .ok rfl (call_meets F.slot_list_count ⟨_, g, rfl⟩ F.entry_list_count (F.args_list_count_2 _ _) (SeqAt.list_countAt a items k none #[] y (fun z => eqV (itemBy xs items.toList z) w)) ⟨g, eqAt_items R hu rr pp hp.1 rw', φ, .toks R, ?_⟩)
  simp only [QV, VR, cnt]
  exact ⟨_, rfl⟩

theorem onRef_sim {t : Sem Value} {o : V} {f : Nat → Mine.R V} (h : ∀ n, o = .ref n → Sim T A L φ η s t (f n) (QV T)) : Sim T A L φ η s t (onRef o f) (QV T) := by
  cases o <;> first | exact h _ rfl | exact .fail
theorem onStr_sim {t : Sem Value} {o : V} {f : List Nat → Mine.R V} (h : ∀ n, o = .str n → Sim T A L φ η s t (f n) (QV T)) : Sim T A L φ η s t (onStr o f) (QV T) := by
  cases o <;> first | exact h _ rfl | exact .fail
theorem sign_str {v : V} {c : Nat} (e : sign? v = some c) : v = .str [c] := by
  cases v <;> first | (cases e; done) | skip
  rename_i s
  match s, e with
  | [_], e => cases e; rfl
theorem ref_of {n : Nat} {x : Value} (r : QV T φ η s.heap (.ref n) x) : ∃ p, φ[n]? = some p ∧ x = .ref p.1 := by simpa only [QV, VR] using r
theorem int_of {n : Int} {x : Value} (r : QV T φ η s.heap (.int n) x) : ∃ t, x = .int n t := by simpa only [QV, VR] using r
theorem str_of {n : List Nat} {x : Value} (r : QV T φ η s.heap (.str n) x) : ∃ t, x = .str ⟨n.toArray⟩ t := by simpa only [QV, VR] using r

theorem bm_append {n : Nat} {x y : Value} {w : V} (R : Rel T φ η s.heap) (r : QV T φ η s.heap (.ref n) x) (r1 : QV T φ η s.heap w y) : Sim T A L φ η s (PySem.call (.builtin "list.append") [x, y]) (appN η n w) (QV T) := by
  obtain ⟨p, hp, rfl⟩ := ref_of r
  exact app_sim R hp r1
theorem listOf_kind {v : V} {xs : List V} (e : listOf η v = some xs) : kindM η v = 2 := by
  cases v <;> first | (cases e; done) | rfl | skip
  rename_i n
  cases hn : η[n]? with
  | none => unfold listOf at e; simp only [hn] at e; cases e
  | some m => cases m <;> first | exact kindM_ref hn | (unfold listOf at e; simp only [hn] at e; cases e)
theorem bm_index {v w : V} {x y : Value} (R : Rel T φ η s.heap) (hu : A.units + 7 < cLine) (r : QV T φ η s.heap v x) (r1 : QV T φ η s.heap w y) : Sim T A L φ η s (PySem.call (.builtin (bmId .index (kindM η v)).2) [x, y]) (idxV η v w) (QV T) := by
  have hl : Sim T A L φ η s (PySem.call (.builtin (bmId .index (kindM η v)).2) [x, y]) (idxL η v w) (QV T) := Sim.get fun xs e => by
    rw [listOf_kind e]
    exact Sim.ifF fun hp => Sim.get fun i hf => sim_index R hu e r r1 hp hf
  cases v <;> first | exact hl | skip
  rename_i sg
  obtain ⟨t, rfl⟩ := str_of r
  refine Sim.get (o := sign? w) fun c hc => ?_
  have := sign_str hc; subst this
  obtain ⟨u, rfl⟩ := str_of r1
  exact Sim.get fun i hi => sim_strIndex R hi
/-- a method of a builtin type -/
theorem sim_bm (m : Bm) {v : V} {x : Value} {vs : List V} {ys : List Value} (R : Rel T φ η s.heap) (hu : A.units + 7 < cLine) (r : QV T φ η s.heap v x) (rs : QVs T φ η s.heap vs ys) (hk : okM m (kindM η v) = true) :
    Sim T A L φ η s (PySem.call (.builtin (bmId m (kindM η v)).2) (x :: ys)) (bmV m η v vs) (QV T) := by
  match vs, rs with
  | [], _ => exact .fail
  | _ :: _ :: _, _ => exact .fail
  | [w], rs =>
    simp only [QVs, VRs] at rs
    obtain ⟨y, _, rfl, r1, rfl⟩ := rs
    show Sim T A L φ η s _ (bmV1 m η v w) (QV T)
    cases m with
    | append => exact onRef_sim fun n e => by subst e; exact bm_append R r r1
    | pop => exact .fail
    | remove => exact .fail
    | index => exact bm_index R hu r r1
    | count => exact Sim.get fun xs e => Sim.ifF fun hp => sim_count R hu e r r1 hp
    | join => exact .fail
    | split =>
      refine onStr_sim fun sg e => ?_
      subst e
      obtain ⟨t, rfl⟩ := str_of r
      refine Sim.get (o := sign? w) fun c hc => ?_
      have := sign_str hc; subst this
      obtain ⟨u, rfl⟩ := str_of r1
      exact Sim.ifF fun hsz => sim_split R hsz
end
end Mine
end
section
namespace Mine
open PySem PySem.W PySem.Calls PyProof.Rows

section
variable {T : St} {N : Nm} {A : Around} {L : Addr} {q : Bool} {d : Nat} {φ φ' : Phi} {η η' : H} {s s' : Shared} {env : Env} {sc : Scope} {Γ : Gam} {ρ : Rho} {α β : Type} {call' : Nat → List V → H → R V}

/-- isinstance, for the builtin types -/
theorem isi_ok {x c : Value} {b : Bool} (R : Rel T φ η s.heap) (h : ∀ {Q : Value → Shared → Prop} {E : Value → Shared → Prop}, (∀ k, Q (.bool b) { s with toks := k }) → Q (.bool b) s → wpAny T.M A (PySem.call (.builtin "isinstance") [x, c]) Q E s) :
    Sim T A L φ η s (PySem.call (.builtin "isinstance") [x, c]) (.ok (.bool b) η) (QV T) :=
  .ok rfl (h (fun k => ⟨φ, .toks R, by simp [QV, VR]⟩) ⟨φ, .refl R, by simp [QV, VR]⟩)
theorem tyOf_ref {n : Nat} {m : Option M} (h : η[n]? = m) : tyOf η (.ref n) = match (generalizing := false) m with | some (.list _) => some 5 | some (.dict _) => some 6 | _ => none := by subst h; rfl
theorem inst_ref {P : Prog} {t : Ty} {f : Nat → Bool} {v : V} {o : Option Nat} (hi : isInst P η v t = (tyOf η v).map f) (e : tyOf η v = o) : instV P η v t = onSome (o.map f) fun b => .ok (.bool b) η := by unfold instV; rw [hi, e]
theorem isi_int {v : V} {x : Value} (R : Rel T φ η s.heap) (r : QV T φ η s.heap v x) : Sim T A L φ η s (PySem.call (.builtin "isinstance") [x, .type "int"]) (instV T.P η v .int) (QV T) := by
  cases v with
  | none => simp only [QV, VR] at r; subst r; exact isi_ok R fun h1 h0 => IsiPair.NoneType_int (h1 _)
  | bool b => simp only [QV, VR] at r; subst r; exact isi_ok R fun h1 h0 => IsiPair.bool_int h0
  | int i => obtain ⟨u, rfl⟩ := int_of r; exact isi_ok R fun h1 h0 => IsiPair.int_int h0
  | str i => obtain ⟨u, rfl⟩ := str_of r; exact isi_ok R fun h1 h0 => IsiPair.str_int (h1 _)
  | tup xs => simp only [QV, VR] at r; obtain ⟨a, items, n, rfl, _, g, _⟩ := r; exact isi_ok R fun h1 h0 => IsiPair.tuple_int g rfl (h1 _)
  | lst xs => simp only [QV, VR] at r; obtain ⟨a, items, n, rfl, _, g, _⟩ := r; exact isi_ok R fun h1 h0 => IsiPair.list_int g rfl (h1 _)
  | ref n =>
    obtain ⟨p, hp, rfl⟩ := ref_of r
    cases hn : η[n]? with
    | none => rw [inst_ref (t := .int) (f := fun k => k == 1 || k == 2) rfl (tyOf_ref hn)]; exact .fail
    | some m =>
      rw [inst_ref (t := .int) (f := fun k => k == 1 || k == 2) rfl (tyOf_ref hn)]
      cases m with
      | list xs =>
        obtain ⟨_, items, k, g, _⟩ := R.obj n _ p hn hp
        exact isi_ok R fun h1 h0 => IsiPair.list_int g rfl (h1 _)
      | dict es =>
        obtain ⟨_, kvs, ⟨o, es', ep, g, hx, _⟩, _⟩ := R.obj n _ p hn hp
        exact isi_ok R fun h1 h0 => IsiPair.dict_int g hx.1 (h1 _)
      | _ => exact .fail
  | _ => exact .fail
theorem isi_bool {v : V} {x : Value} (R : Rel T φ η s.heap) (r : QV T φ η s.heap v x) : Sim T A L φ η s (PySem.call (.builtin "isinstance") [x, .type "bool"]) (instV T.P η v .bool) (QV T) := by
  cases v with
  | none => simp only [QV, VR] at r; subst r; exact isi_ok R fun h1 h0 => IsiPair.NoneType_bool (h1 _)
  | bool b => simp only [QV, VR] at r; subst r; exact isi_ok R fun h1 h0 => IsiPair.bool_bool h0
  | int i => obtain ⟨u, rfl⟩ := int_of r; exact isi_ok R fun h1 h0 => IsiPair.int_bool (h1 _)
  | str i => obtain ⟨u, rfl⟩ := str_of r; exact isi_ok R fun h1 h0 => IsiPair.str_bool (h1 _)
  | tup xs => simp only [QV, VR] at r; obtain ⟨a, items, n, rfl, _, g, _⟩ := r; exact isi_ok R fun h1 h0 => IsiPair.tuple_bool g rfl (h1 _)
  | lst xs => simp only [QV, VR] at r; obtain ⟨a, items, n, rfl, _, g, _⟩ := r; exact isi_ok R fun h1 h0 => IsiPair.list_bool g rfl (h1 _)
  | ref n =>
    obtain ⟨p, hp, rfl⟩ := ref_of r
    cases hn : η[n]? with
    | none => rw [inst_ref (t := .bool) (f := fun k => k == 1) rfl (tyOf_ref hn)]; exact .fail
    | some m =>
      rw [inst_ref (t := .bool) (f := fun k => k == 1) rfl (tyOf_ref hn)]
      cases m with
      | list xs =>
        obtain ⟨_, items, k, g, _⟩ := R.obj n _ p hn hp
        exact isi_ok R fun h1 h0 => IsiPair.list_bool g rfl (h1 _)
      | dict es =>
        obtain ⟨_, kvs, ⟨o, es', ep, g, hx, _⟩, _⟩ := R.obj n _ p hn hp
        exact isi_ok R fun h1 h0 => IsiPair.dict_bool g hx.1 (h1 _)
      | _ => exact .fail
  | _ => exact .fail
theorem isi_str {v : V} {x : Value} (R : Rel T φ η s.heap) (r : QV T φ η s.heap v x) : Sim T A L φ η s (PySem.call (.builtin "isinstance") [x, .type "str"]) (instV T.P η v .str) (QV T) := by
  cases v with
  | none => simp only [QV, VR] at r; subst r; exact isi_ok R fun h1 h0 => IsiPair.NoneType_str (h1 _)
  | bool b => simp only [QV, VR] at r; subst r; exact isi_ok R fun h1 h0 => IsiPair.bool_str (h1 _)
  | int i => obtain ⟨u, rfl⟩ := int_of r; exact isi_ok R fun h1 h0 => IsiPair.int_str (h1 _)
  | str i => obtain ⟨u, rfl⟩ := str_of r; exact isi_ok R fun h1 h0 => IsiPair.str_str h0
  | tup xs => simp only [QV, VR] at r; obtain ⟨a, items, n, rfl, _, g, _⟩ := r; exact isi_ok R fun h1 h0 => IsiPair.tuple_str g rfl (h1 _)
  | lst xs => simp only [QV, VR] at r; obtain ⟨a, items, n, rfl, _, g, _⟩ := r; exact isi_ok R fun h1 h0 => IsiPair.list_str g rfl (h1 _)
  | ref n =>
    obtain ⟨p, hp, rfl⟩ := ref_of r
    cases hn : η[n]? with
    | none => rw [inst_ref (t := .str) (f := fun k => k == 3) rfl (tyOf_ref hn)]; exact .fail
    | some m =>
      rw [inst_ref (t := .str) (f := fun k => k == 3) rfl (tyOf_ref hn)]
      cases m with
      | list xs =>
        obtain ⟨_, items, k, g, _⟩ := R.obj n _ p hn hp
        exact isi_ok R fun h1 h0 => IsiPair.list_str g rfl (h1 _)
      | dict es =>
        obtain ⟨_, kvs, ⟨o, es', ep, g, hx, _⟩, _⟩ := R.obj n _ p hn hp
        exact isi_ok R fun h1 h0 => IsiPair.dict_str g hx.1 (h1 _)
      | _ => exact .fail
  | _ => exact .fail
theorem isi_tuple {v : V} {x : Value} (R : Rel T φ η s.heap) (r : QV T φ η s.heap v x) : Sim T A L φ η s (PySem.call (.builtin "isinstance") [x, .type "tuple"]) (instV T.P η v .tuple) (QV T) := by
  cases v with
  | none => simp only [QV, VR] at r; subst r; exact isi_ok R fun h1 h0 => IsiPair.NoneType_tuple (h1 _)
  | bool b => simp only [QV, VR] at r; subst r; exact isi_ok R fun h1 h0 => IsiPair.bool_tuple (h1 _)
  | int i => obtain ⟨u, rfl⟩ := int_of r; exact isi_ok R fun h1 h0 => IsiPair.int_tuple (h1 _)
  | str i => obtain ⟨u, rfl⟩ := str_of r; exact isi_ok R fun h1 h0 => IsiPair.str_tuple (h1 _)
  | tup xs => simp only [QV, VR] at r; obtain ⟨a, items, n, rfl, _, g, _⟩ := r; exact isi_ok R fun h1 h0 => IsiPair.tuple_tuple g rfl h0
  | lst xs => simp only [QV, VR] at r; obtain ⟨a, items, n, rfl, _, g, _⟩ := r; exact isi_ok R fun h1 h0 => IsiPair.list_tuple g rfl (h1 _)
  | ref n =>
    obtain ⟨p, hp, rfl⟩ := ref_of r
    cases hn : η[n]? with
    | none => rw [inst_ref (t := .tuple) (f := fun k => k == 4) rfl (tyOf_ref hn)]; exact .fail
    | some m =>
      rw [inst_ref (t := .tuple) (f := fun k => k == 4) rfl (tyOf_ref hn)]
      cases m with
      | list xs =>
        obtain ⟨_, items, k, g, _⟩ := R.obj n _ p hn hp
        exact isi_ok R fun h1 h0 => IsiPair.list_tuple g rfl (h1 _)
      | dict es =>
        obtain ⟨_, kvs, ⟨o, es', ep, g, hx, _⟩, _⟩ := R.obj n _ p hn hp
        exact isi_ok R fun h1 h0 => IsiPair.dict_tuple g hx.1 (h1 _)
      | _ => exact .fail
  | _ => exact .fail
theorem isi_list {v : V} {x : Value} (R : Rel T φ η s.heap) (r : QV T φ η s.heap v x) : Sim T A L φ η s (PySem.call (.builtin "isinstance") [x, .type "list"]) (instV T.P η v .list) (QV T) := by
  cases v with
  | none => simp only [QV, VR] at r; subst r; exact isi_ok R fun h1 h0 => IsiPair.NoneType_list (h1 _)
  | bool b => simp only [QV, VR] at r; subst r; exact isi_ok R fun h1 h0 => IsiPair.bool_list (h1 _)
  | int i => obtain ⟨u, rfl⟩ := int_of r; exact isi_ok R fun h1 h0 => IsiPair.int_list (h1 _)
  | str i => obtain ⟨u, rfl⟩ := str_of r; exact isi_ok R fun h1 h0 => IsiPair.str_list (h1 _)
  | tup xs => simp only [QV, VR] at r; obtain ⟨a, items, n, rfl, _, g, _⟩ := r; exact isi_ok R fun h1 h0 => IsiPair.tuple_list g rfl (h1 _)
  | lst xs => simp only [QV, VR] at r; obtain ⟨a, items, n, rfl, _, g, _⟩ := r; exact isi_ok R fun h1 h0 => IsiPair.list_list g rfl h0
  | ref n =>
    obtain ⟨p, hp, rfl⟩ := ref_of r
    cases hn : η[n]? with
    | none => rw [inst_ref (t := .list) (f := fun k => k == 5) rfl (tyOf_ref hn)]; exact .fail
    | some m =>
      rw [inst_ref (t := .list) (f := fun k => k == 5) rfl (tyOf_ref hn)]
      cases m with
      | list xs =>
        obtain ⟨_, items, k, g, _⟩ := R.obj n _ p hn hp
        exact isi_ok R fun h1 h0 => IsiPair.list_list g rfl h0
      | dict es =>
        obtain ⟨_, kvs, ⟨o, es', ep, g, hx, _⟩, _⟩ := R.obj n _ p hn hp
        exact isi_ok R fun h1 h0 => IsiPair.dict_list g hx.1 (h1 _)
      | _ => exact .fail
  | _ => exact .fail
end
end Mine
end
section
set_option maxRecDepth 100000
namespace Mine
open PySem PySem.W PySem.Calls PyProof.Rows Builtin Builtin.ObjectAttr Builtin.Getset_descriptor

/-- what the class of an exception answers -/
noncomputable def askIn (K : Frag) (C : Addr) : Bool :=
  findIn K (.ref C) "__getattribute__" == some (some (.builtin "BaseException.__getattribute__")) && findIn K (.ref C) "__getattr__" == some none && findIn K (.ref C) "__class__" == some (some (.builtin "object.__class__"))
    && mroIn K C (.type "object") == some true && mroIn K C (.type "BaseException") == some true && mroIn K C (.type "ValueError") == some true && (clsIn K C).isSome && typeIn K (.ref C) == some (.type "type") && instIn K (.ref C) (.type "type") == some true

section
variable {prog : Program} {w : World} {A : Around} {E : Value → Shared → Prop} {s : Shared} {K : Frag} {a C C' : Addr} {o : Obj} {R : Result → Shared → Prop}

theorem ty_own {M : Model} {h : Heap} (hx : h.get? a = some o) (hc : o.cls = .ref C) : Looks M h (typeOf (.ref a)) (.ref C) := hc ▸ (Looks.ld hx).andThen .now

theorem own_class_get {tp : Value} (X : K.In s.heap) (hx : s.heap.get? a = some o) (hc : o.cls = .ref C) (hm : mroIn K C (.type "object") = some true)
    (h : R (.ok (.ret (.ref C))) s) : codeAny (model prog w) A (.call (.builtin "getset_descriptor.__get__") ⟨[.builtin "object.__class__", .ref a, tp], []⟩) R s := by
  obtain ⟨hh, g, dr, t, os⟩ := s
  have L0 := ty_own (M := model prog w) hx hc
  have L1 := looks_mroIn (M := model prog w) X hm
  refine codeAny_call_builtin KF.slot_gs.plain KF.entry_gs (KF.slot_gs.check _ _ _ _ _ _ _ _ KF.type_class (KF.args_gs _ _ _) ?_)
  unfold Builtin.«getset_descriptor.__get__» descrGet
  rw [dga_obj]
  refine wpAny_bind (wpAny_pure ?_)
  unfold descrGetter descrCheckInstance descrNameAndClass isInstance
  simp only [KF.owner_class]
  repeat lk
  refine ⟨Code.quiet_builtin _ (by decide +kernel), codeAny_builtin KF.entry_class ?_⟩
  unfold Builtin.«object.__class__» shownTypeOf
  repeat lk
  exact h

theorem own_find {M : Model} {h : Heap} {x : Value} (X : K.In h) (ha : findIn K (.ref C) "__class__" = some (some (.builtin "object.__class__"))) (hs : specialIn K (.builtin "object.__class__") "__get__" = some (some (.builtin "getset_descriptor.__get__"))) (ht : takesIn K (.builtin "object.__class__") = some true) :
    Looks M h (find x (.ref C) "__class__") (.bind (.builtin "getset_descriptor.__get__") (.builtin "object.__class__")) :=
  (looks_findIn X ha).andThen ((show Looks M h (getOf (some (.builtin "object.__class__"))) (some (.builtin "getset_descriptor.__get__")) from looks_specialIn X hs).andThen
    ((show Looks M h (dataDescriptor? (some (.builtin "object.__class__")) (some (.builtin "getset_descriptor.__get__"))) (some (.builtin "getset_descriptor.__get__", .builtin "object.__class__")) from (looks_takesIn X ht).andThen .now).andThen (Looks.tag .now)))

theorem own_entry {tk : Tok} {Q : Fin → Shared → Prop} (X : K.In s.heap) (hx : s.heap.get? a = some o) (hc : o.cls = .ref C) (hm : mroIn K C (.type "object") = some true)
    (ha : findIn K (.ref C) "__class__" = some (some (.builtin "object.__class__"))) (hs : specialIn K (.builtin "object.__class__") "__get__" = some (some (.builtin "getset_descriptor.__get__"))) (ht : takesIn K (.builtin "object.__class__") = some true)
    (hq : Q (.done (.ret (.ref C))) s) : wpAny (model prog w) A (Builtin.«object.__getattribute__» ⟨[.ref a, .str "__class__" tk], []⟩) Q E s := by
  obtain ⟨hh, g, dr, t, os⟩ := s
  have L0 := ty_own (M := model prog w) hx hc
  have L1 := own_find (M := model prog w) (x := .ref a) X ha hs ht
  refine wpAny_bind (wpAny_pure ?_)
  refine wpAny_bind (wpAny_pure ?_)
  refine wpAny_bind (L0.at ?_)
  refine wpAny_bind (L1.at ?_)
  show wpAny _ _ (holding [_] (PySem.call (.builtin "getset_descriptor.__get__") [.builtin "object.__class__", .ref a, .ref C]) >>= ret) _ _ _
  exact wpAny_bind (wpAny_holding (wpAny_call (own_class_get (s := ⟨hh, g, dr, t, os⟩) X hx hc hm (wpAny_pure hq))))

theorem own_check {M : Model} {v : Value} {Q : Unit → Shared → Prop} (X : K.In s.heap) (hx : s.heap.get? a = some o) (hc : o.cls = .ref C) (hm : mroIn K C (.type "BaseException") = some true) (hq : Q () s) :
    wpAny M A (checkBuiltinCall "BaseException.__getattribute__" ⟨[.ref a, v], []⟩) Q E s := by
  have hk : builtinKind "BaseException.__getattribute__" = some .slot := by decide +kernel
  have hsplit : splitId "BaseException.__getattribute__" = some ("BaseException", "__getattribute__") := by decide +kernel
  have ha := F.args_bexc_ga (.ref a) v
  obtain ⟨hh, g, dr, t, os⟩ := s
  have L0 := ty_own (M := M) hx hc
  have L1 := looks_mroIn (M := M) X hm
  simp only [checkBuiltinCall, hk, hsplit]
  refine wpAny_bind ?_
  unfold isInstance
  refine wpAny_bind (L0.at (L1.at ?_))
  repeat (any_goals (first | assumption | wp_step))

theorem own_attr {Q : Option Value → Shared → Prop} (X : K.In s.heap) (hx : s.heap.get? a = some o) (hc : o.cls = .ref C) (hm : mroIn K C (.type "object") = some true) (hb : mroIn K C (.type "BaseException") = some true)
    (hga : findIn K (.ref C) "__getattribute__" = some (some (.builtin "BaseException.__getattribute__"))) (hgh : findIn K (.ref C) "__getattr__" = some none)
    (ha : findIn K (.ref C) "__class__" = some (some (.builtin "object.__class__"))) (hs : specialIn K (.builtin "object.__class__") "__get__" = some (some (.builtin "getset_descriptor.__get__"))) (ht : takesIn K (.builtin "object.__class__") = some true)
    (hq : Q (some (.ref C)) { s with toks := s.toks + 1 }) : wpAny (model prog w) A (getAttr? (.ref a) "__class__") Q E s := by
  obtain ⟨hh, g, d, t, os⟩ := s
  have L0 := ty_own (M := model prog w) hx hc
  have L1 := looks_findIn (M := model prog w) X hga
  have L2 := looks_findIn (M := model prog w) X hgh
  unfold getAttr? getAttrBy? getAttrBy
  refine wpAny_bind (wpAny_mkText (wpAny_bind (wpAny_attempt (wpAny_holding (wpAny_bind (L0.at (wpAny_bind (L1.at ?_))))))))
  have hx2 : (Value.builtin "BaseException.__getattribute__" == Value.builtin "object.__getattribute__") = false := by decide +kernel
  have hx1 : (onTheHeap (Value.ref C) && Value.builtin "BaseException.__getattribute__" == Value.builtin "object.__getattribute__") = false := by rw [hx2]; rfl
  dsimp only
  rw [if_neg (by rw [hx1]; decide)]
  unfold getAttrByItsOwn hookBefore
  refine wpAny_bind ?_
  rw [if_pos (show onTheHeap (Value.ref C) = true from rfl)]
  refine L2.at ?_
  refine wpAny_bind (wpAny_attempt (wpAny_holding ?_))
  unfold callGetattribute
  rw [if_neg (by decide)]
  unfold boundAndCalled
  rw [F.attr_ValueError.ga.bind (.ref a)]
  refine wpAny_bind (wpAny_pure (wpAny_call ?_))
  refine codeAny_call_builtin F.attr_ValueError.ga.plain F.entry_bexc_ga (own_check (s := ⟨hh, g, d, t + 1, os⟩) X hx hc hb (own_entry (s := ⟨hh, g, d, t + 1, os⟩) X hx hc hm ha hs ht ?_))
  exact wpAny_pure (wpAny_pure hq)

structure Asks (K : Frag) (C : Addr) : Prop where
  ga : findIn K (.ref C) "__getattribute__" = some (some (.builtin "BaseException.__getattribute__"))
  gh : findIn K (.ref C) "__getattr__" = some none
  cl : findIn K (.ref C) "__class__" = some (some (.builtin "object.__class__"))
  ob : mroIn K C (.type "object") = some true
  be : mroIn K C (.type "BaseException") = some true
  ve : mroIn K C (.type "ValueError") = some true
  is : (clsIn K C).isSome = true
  ty : typeIn K (.ref C) = some (.type "type")
  it : instIn K (.ref C) (.type "type") = some true
theorem asks_of (h : askIn K C = true) : Asks K C := by
  unfold askIn at h
  simp only [Bool.and_eq_true, beq_iff_eq] at h
  obtain ⟨⟨⟨⟨⟨⟨⟨⟨h1, h2⟩, h3⟩, h4⟩, h5⟩, h6⟩, h7⟩, h8⟩, h9⟩ := h
  exact ⟨h1, h2, h3, h4, h5, h6, h7, h8, h9⟩
theorem Asks.isType {M : Model} {h : Heap} (x : Asks K C) (X : K.In h) : Looks M h (isType (.ref C)) true := by
  have e1 := x.is
  unfold clsIn at e1
  split at e1
  · rename_i c' d' cd' sl' ho
    intro A' Q' E' s' k q
    unfold PySem.isType loadHead
    exact wpAny_bind (wpAny_loadPart (k _ _ (X _ _ ho)) (wpAny_pure q))
  · cases e1

theorem own_nested {c : Value} {dep : Int} {tk : Tok} {b : Bool} {Q : PySem.Fin → Shared → Prop} (x : Asks K C) (hs : specialIn K (.builtin "object.__class__") "__get__" = some (some (.builtin "getset_descriptor.__get__"))) (ht : takesIn K (.builtin "object.__class__") = some true)
    (X : K.In s.heap) (hx : s.heap.get? a = some o) (hc : o.cls = .ref C) (hty : Looks (model prog w) s.heap (typeOf c) (.type "type")) (his : Looks (model prog w) s.heap (PySem.isType c) true)
    (hne : (Value.ref C == c) = true → b = true) (hsub : Looks (model prog w) s.heap (isSubtype (.ref C) c) b) (h : ∀ k, Q (.done (.ret (.bool b))) { s with toks := k }) :
    wpAny (model prog w) A (Builtin.«isinstance.nested» ⟨[.ref a, c, .int dep tk], []⟩) Q E s := by
  have hisD := x.isType (M := model prog w) X
  obtain ⟨h0, g, d, tt, os⟩ := s
  have L0 := ty_own (M := model prog w) hx hc
  have LI : Looks (model prog w) h0 (isInstance (.ref a) c) b := L0.andThen hsub
  unfold Builtin.«isinstance.nested»
  refine wpAny_bind (L0.at ?_)
  by_cases q : (Value.ref C == c) = true
  · rw [if_pos q]
    cases hne q
    exact wpAny_bind (wpAny_rule (wpAny_bind (wpAny_pure (wpAny_pure (h tt)))))
  rw [if_neg q]
  refine wpAny_bind (hty.at ?_)
  rw [if_pos (by decide)]
  k_delta "plainIsInstance"
  refine wpAny_bind (wpAny_bind (his.at ?_))
  simp only [Bool.not_true, Bool.false_eq_true, if_false]
  refine wpAny_bind (LI.at ?_)
  cases b with
  | true =>
    simp only [if_true]
    exact wpAny_pure (wpAny_pure (h tt))
  | false =>
    simp only [Bool.false_eq_true, if_false]
    refine wpAny_bind (own_attr (s := ⟨h0, g, d, tt, os⟩) X hx hc x.ob x.be x.ga x.gh x.cl hs ht ?_)
    refine wpAny_bind (hisD.at ?_)
    simp only [Bool.not_true, Bool.false_eq_true, if_false]
    refine wpAny_bind (wpAny_rule ?_)
    refine hsub.at ?_
    first
      | exact wpAny_pure (h _)
      | exact wpAny_pure (wpAny_pure (h _))
      | exact wpAny_bind (wpAny_pure (wpAny_pure (h _)))

theorem own_isi {c : Value} {b : Bool} {Q : Value → Shared → Prop} (x : Asks K C) (hs : specialIn K (.builtin "object.__class__") "__get__" = some (some (.builtin "getset_descriptor.__get__"))) (ht : takesIn K (.builtin "object.__class__") = some true)
    (X : K.In s.heap) (hx : s.heap.get? a = some o) (hc : o.cls = .ref C) (hty : ∀ M, Looks M s.heap (typeOf c) (.type "type")) (his : ∀ M, Looks M s.heap (PySem.isType c) true)
    (hne : (Value.ref C == c) = true → b = true) (hsub : ∀ M, Looks M s.heap (isSubtype (.ref C) c) b) (h : ∀ k, Q (.bool b) { s with toks := k }) :
    wpAny (model prog w) A (PySem.call (.builtin "isinstance") [.ref a, c]) Q E s :=
  call_isinstance_of (own_nested x hs ht X hx hc (hty _) (his _) hne (hsub _) h) (by intro q; cases q)
end
/-- the line of built-in classes above the program's own exceptions -/
noncomputable abbrev veB : List Value := [.type "ValueError", .type "Exception", .type "BaseException", .type "object"]
/-- an own exception class -/
noncomputable def ExcAt (h : Heap) (C : Addr) (bm : List Value) : Prop := ∃ N nm q bs hdct sn sub ab col dd k0 k1 k2 k3 k5 mN,
  h.get? C = some (excClassObj nm q C N bs bm hdct sn sub ab col dd k0 k1 k2 k3 k5 "ValueError.__new__") ∧ h.Ns N mN ∧ mN "__init__" = none ∧ OwnTail h veB bm
theorem ExcAt.keeps {h h' : Heap} {C : Addr} {bm : List Value} (x : ExcAt h C bm) (k : ∀ b o, h.get? b = some o → h'.get? b = some o) : ExcAt h' C bm := by
  obtain ⟨N, nm, q, bs, hdct, sn, sub, ab, col, dd, k0, k1, k2, k3, k5, mN, h1, h2, h3, h4⟩ := x
  exact ⟨N, nm, q, bs, hdct, sn, sub, ab, col, dd, k0, k1, k2, k3, k5, mN, k _ _ h1, h2.keeps k, h3, h4.keeps k⟩
theorem ExcAt.base {h : Heap} {C : Addr} {bm : List Value} (x : ExcAt h C bm) : bm.contains (.type "BaseException") = true := by
  obtain ⟨N, nm, q, bs, hdct, sn, sub, ab, col, dd, k0, k1, k2, k3, k5, mN, h1, h2, h3, h4⟩ := x
  exact h4.hasType (by decide)

/-- the program's exceptions -/
structure Exs (T : St) (N : Nm) (G : Gd T N) where
  bm : Nat → List Value
  at' : ∀ (c : Nat) (n : Str), N.exm[c]? = some n → n ≠ ("" : Str) → nsIn G.K mainGlobals n = some (some (.ref (T.exc c))) ∧ ExcAt T.base (T.exc c) (bm c)
  ask : ∀ (c : Nat) (n : Str), N.exm[c]? = some n → n ≠ ("" : Str) → Asks G.K (T.exc c)
  sub : ∀ (c c' : Nat) (n n' : Str), N.exm[c]? = some n → N.exm[c']? = some n' → n ≠ ("" : Str) → n' ≠ ("" : Str) → mroIn G.K (T.exc c) (.ref (T.exc c')) = some (((T.P.excs[c]?).getD []).contains c')
  named : ∀ c, T.P.rz.contains c = true → ∃ n, N.exm[c]? = some n ∧ n ≠ ("" : Str)
  gs : specialIn G.K (.builtin "object.__class__") "__get__" = some (some (.builtin "getset_descriptor.__get__"))
  tk : takesIn G.K (.builtin "object.__class__") = some true

theorem Exs.mro {T : St} {N : Nm} {G : Gd T N} (Ex : Exs T N G) (c c' : Nat) (n n' : Str) (h1 : N.exm[c]? = some n) (h2 : N.exm[c']? = some n') (h3 : n ≠ ("" : Str)) (h4 : n' ≠ ("" : Str)) :
    (Value.ref (T.exc c) :: Ex.bm c).contains (.ref (T.exc c')) = ((T.P.excs[c]?).getD []).contains c' := by
  have hs := Ex.sub c c' n n' h1 h2 h3 h4
  obtain ⟨_, Nn, nm, q, bs, hdct, sn, sub, ab, col, dd, k0, k1, k2, k3, k5, mN, hC, _⟩ := Ex.at' c n h1 h3
  obtain ⟨cd, a, b⟩ := Option.bind_eq_some_iff.mp hs
  have e := a
  unfold clsIn at e
  split at e
  · rename_i ho
    cases e
    have h5 := G.kin _ _ ho
    rw [hC] at h5
    cases h5
    split at b
    · cases b
    · exact Option.some.inj b
  · cases e
end Mine
end
section
namespace Mine
open PySem PySem.W PySem.Calls PyProof.Rows

section
variable {T : St} {N : Nm} {A : Around} {L : Addr} {q : Bool} {d : Nat} {φ φ' : Phi} {η η' : H} {s s' : Shared} {env : Env} {sc : Scope} {Γ : Gam} {ρ : Rho} {α β : Type} {call' : Nat → List V → H → R V}

noncomputable def biVal : Bi → Value
  | .len => .builtin "len" | .int => .type "int" | .str => .type "str" | .tuple => .type "tuple" | .sorted => .builtin "sorted" | .min => .builtin "min" | .max => .builtin "max"

theorem one_arg {v : V} {ys : List Value} {vs : List V} {h : Heap} (r : VRs T φ (own φ η) h vs ys) (e : vs = [v]) : ∃ y, ys = [y] ∧ VR T φ (own φ η) h v y := by
  subst e
  simp only [VRs] at r
  obtain ⟨y, _, rfl, r1, rfl⟩ := r
  exact ⟨y, rfl, r1⟩

theorem sim_bi (b : Bi) {vs : List V} {ys : List Value} (R : Rel T φ η s.heap) (hq : q = true → A.handled = none) (rs : QVs T φ η s.heap vs ys) : Sim T A L φ η s (PySem.call (biVal b) ys) (biV q b η vs) (QV T) := by
  match b, vs, rs with
  | b, [], _ => cases b <;> exact .fail
  | .len, [v], rs =>
    obtain ⟨y, rfl, r⟩ := one_arg rs rfl
    exact sim_len R r
  | .int, [v], rs =>
    obtain ⟨y, rfl, r⟩ := one_arg rs rfl
    exact sim_int R r
  | .str, [v], rs =>
    obtain ⟨y, rfl, r⟩ := one_arg rs rfl
    exact sim_str R r
  | .tuple, [v], rs =>
    obtain ⟨y, rfl, r⟩ := one_arg rs rfl
    exact sim_tuple R r
  | .sorted, [v], rs => exact .fail
  | .min, [v], rs => exact .fail
  | .max, [v], _ => exact .fail
  | .max, v :: w :: [], rs => exact .fail
  | b, v :: w :: z :: r, _ => cases b <;> cases v <;> first | exact .fail | (cases w <;> exact .fail)
  | .len, _ :: _ :: [], _ => exact .fail
  | .int, v :: _ :: [], _ => cases v <;> exact .fail
  | .str, v :: _ :: [], _ => cases v <;> exact .fail
  | .tuple, _ :: _ :: [], _ => exact .fail
  | .sorted, _ :: _ :: [], _ => exact .fail
  | .min, _ :: _ :: [], _ => exact .fail

theorem keep_builtin {id : String} : ∀ h : Heap, (∀ b o, T.base.get? b = some o → h.get? b = some o) → ∃ k, (k = Keeper.frame ∨ k = Keeper.machine ∨ k = Keeper.boundFrame) ∧ Looks T.M h (keeperOf (.builtin id)) k := fun _ _ => ⟨.machine, .inr (.inl rfl), Looks.of_pure rfl⟩
theorem keep_type {t : String} : ∀ h : Heap, (∀ b o, T.base.get? b = some o → h.get? b = some o) → ∃ k, (k = Keeper.frame ∨ k = Keeper.machine ∨ k = Keeper.boundFrame) ∧ Looks T.M h (keeperOf (.type t)) k := fun _ _ => ⟨.machine, .inr (.inl rfl), Looks.of_pure rfl⟩
theorem keep_ref (G : Gd T N) {a : Addr} (hk : keepIn G.K (.ref a) = true) : ∀ h : Heap, (∀ b o, T.base.get? b = some o → h.get? b = some o) → ∃ k, (k = Keeper.frame ∨ k = Keeper.machine ∨ k = Keeper.boundFrame) ∧ Looks T.M h (keeperOf (.ref a)) k :=
  fun h hb => keeps_K hk h (G.kin.keeps hb)

/-- a call of a name -/
theorem sim_named {n : Str} {p pos : Pos} {xs : List Expr} {f : Value} {r : R V} (hf : ∀ (Q : Value → Shared → Prop) (E : Value → Shared → Prop), Q f s → wpAny T.M A (eval (.Name n p) env) Q E s)
    (h : Sim T A L φ η s (callWith pos f [] (backTo pos (starEach xs env)) []) r (QV T)) : Sim T A L φ η s (eval (.Call (.Name n p) xs [] pos) env) r (QV T) := by
  rw [arm_eval_Call_Name']
  exact h.imp id fun h => wpAny_bind (hf _ _ h)

theorem e_bi (G : Gd T N) {b : Bi} {args : List E} {n : Str} {p pos : Pos} {xs : List Expr} (hb : (biName b == n) = true) (hn : isGlo sc n = true) (hp : plainArgs xs) (h : SimEs T q d call' sc Γ args xs) : SimE T q d call' sc Γ (.bi b args) (.Call (.Name n p) xs [] pos) := by
  intro A L φ η s env ρ X F
  rw [beq_iff_eq] at hb; subst hb
  have hB := boot_bi b
  have hv : bootBuiltins (biName b) = some (biVal b) := by rw [hB.2]; cases b <;> rfl
  refine sim_named (f := biVal b) (fun Q E hQ => name_boot G X.rel F hn hB.1 hv hQ) ?_
  refine sim_callWith (by cases b <;> first | exact keep_builtin | exact keep_type) hp h X F fun vs η' φ' ys s' _ p hv => ?_
  exact sim_bi b p.rel X.hand hv

/-- what a function's call does -/
noncomputable def CallOK (T : St) (fn : Nat → Addr) (q : Bool) (d : Nat) (call : Nat → List V → H → R V) : Prop :=
  ∀ f A L φ η s vs ys, Cxt T A L q d φ η s → VRs T φ (own φ η) s.heap vs ys → Sim T A L φ η s (PySem.call (.ref (fn f)) ys) (call f vs η) (QV T)

theorem e_call (G : Gd T N) (hc : CallOK T G.fn q d call') {f : Nat} {args : List E} {n : Str} {p pos : Pos} {xs : List Expr} (hf : atName N.fnm f n = true) (hn : isGlo sc n = true) (hp : plainArgs xs) (h : SimEs T q d call' sc Γ args xs) : SimE T q d call' sc Γ (.call f args) (.Call (.Name n p) xs [] pos) := by
  intro A L φ η s env ρ X F
  obtain ⟨h1, h2⟩ := at_name hf
  obtain ⟨e, hk⟩ := G.fns f n h1 h2
  refine sim_named (f := .ref (G.fn f)) (fun Q E hQ => name_glob G X.rel F hn e hQ) ?_
  refine sim_callWith (keep_ref G hk) hp h X F fun vs η' φ' ys s' _ p hv => ?_
  exact hc f A L φ' η' s' vs ys (X.step p) hv

theorem e_toList (G : Gd T N) {mu : Bool} {a : E} {n : Str} {p pos : Pos} {x : Expr} (hl : (n == ("list" : Str)) = true) (hn : isGlo sc n = true) (hp : plainArg x = true) (h : SimE T q d call' sc Γ a x) : SimE T q d call' sc Γ (.toList mu a) (.Call (.Name n p) [x] [] pos) := by
  intro A L φ η s env ρ X F
  rw [beq_iff_eq] at hl; subst hl
  refine sim_named (f := .type "list") (fun Q E hQ => name_boot G X.rel F hn (by decide +kernel) (by decide +kernel) hQ) ?_
  have hs : plainArgs [x] := by unfold plainArgs; simp [hp]
  have hes := es_cons hp h (es_nil (T := T) (q := q) (d := d) (call := call') (sc := sc) (Γ := Γ))
  refine (sim_callWith (g := fun vs h => match vs with | [v] => (match seqOf h v with | some xs => if xs.length ≤ 100000 then mkList mu xs h else .fail | none => .fail) | _ => .fail) keep_type hs hes X F fun vs η' φ' ys s' e p hv => ?_).cast ?_
  · have hl := evEs_len T.P _ _ _ _ _ e
    match vs, hl, hv with
    | [v], _, hv =>
      obtain ⟨y, rfl, r⟩ := one_arg hv rfl
      exact sim_toList mu p.rel r
  · show (evE T.P q call' a ρ η).bind _ = ((evE T.P q call' a ρ η).bind fun v h => (evEs T.P q call' [] ρ h).bind fun vs h => .ok (v :: vs) h).bind _
    cases evE T.P q call' a ρ η <;> rfl

theorem isi_sim (G : Gd T N) {a : E} {t : Ty} {tn : Str} {n : Str} {p p' pos : Pos} {x : Expr} {cv : Value} (hl : n = ("isinstance" : Str)) (hn : isGlo sc n = true) (hp : plainArg x = true) (h : SimE T q d call' sc Γ a x) (X : Cxt T A L q d φ η s) (F : FR T φ η s.heap L env sc Γ ρ) (hT : okT T.P t = true)
    (hname : ∀ {Q : Value → Shared → Prop} {E : Value → Shared → Prop} {φ₁ η₁ s₁}, Rel T φ₁ η₁ s₁.heap → FR T φ₁ η₁ s₁.heap L env sc Γ ρ → Q cv s₁ → wpAny T.M A (eval (.Name tn p') env) Q E s₁)
    (hcall : ∀ v η' φ' y s', Rel T φ' η' s'.heap → QV T φ' η' s'.heap v y → Sim T A L φ' η' s' (PySem.call (.builtin "isinstance") [y, cv]) (instV T.P η' v t) (QV T)) :
    Sim T A L φ η s (eval (.Call (.Name n p) [x, .Name tn p'] [] pos) env) (evE T.P q call' (.isinst a t) ρ η) (QV T) := by
  subst hl
  refine sim_named (f := .builtin "isinstance") (fun Q E hQ => name_boot G X.rel F hn (by decide +kernel) (by decide +kernel) hQ) ?_
  have hs : plainArgs [x, .Name tn p'] := by unfold plainArgs; rw [List.all_cons, hp]; rfl
  have hsp : Sim T A L φ η s (spliced (backTo pos (starEach [x, .Name tn p'] env))) (evE T.P q call' a ρ η) (fun φ η h v ys => ∃ y, ys = [y, cv] ∧ VR T φ (own φ η) h v y) := by
    rw [starEach_plain hp, starEach_plain (x := .Name tn p') rfl]
    refine (h A L φ η s env ρ X F).imp id fun w => spliced_cons (wpAny_mono w (fun y s₁ ⟨v, η', φ', e, p, r⟩ => ?_) fun _ _ z => z)
    exact spliced_cons (hname p.rel (F.step p.step) (spliced_nil ⟨v, η', φ', e, p, y, rfl, r⟩))
  have ee : evE T.P q call' (.isinst a t) ρ η = (evE T.P q call' a ρ η).bind fun x h => instV T.P h x t := by
    show (if okT T.P t = true then (evE T.P q call' a ρ η).bind _ else R.fail) = _
    rw [if_pos hT]
  rw [ee]
  refine sim_callWithG (g := fun x h => instV T.P h x t) keep_builtin hs hsp fun v η' φ' ys s' _ p hq => ?_
  obtain ⟨y, rfl, r⟩ := hq
  exact hcall v η' φ' y s' p.rel r
/-- an own exception's class -/
theorem isi_exc (G : Gd T N) (Ex : Exs T N G) {e : Nat} {cv : Value} {b : Bool} {n : Str} {y : Value} (R : Rel T φ η s.heap) (r : QV T φ η s.heap (.exc e) y) (h1 : N.exm[e]? = some n) (h2 : n ≠ ("" : Str)) (h3 : (Value.ref (T.exc e) == cv) = true → b = true)
    (h4 : ∀ h M, G.K.In h → Looks M h (typeOf cv) (.type "type") ∧ Looks M h (PySem.isType cv) true ∧ Looks M h (isSubtype (.ref (T.exc e)) cv) b) : Sim T A L φ η s (PySem.call (.builtin "isinstance") [y, cv]) (.ok (.bool b) η) (QV T) := by
  simp only [VR] at r
  obtain ⟨a', o', rfl, _, g1, g2, _⟩ := r
  have KX := G.here R
  exact .ok rfl (own_isi (Ex.ask e n h1 h2) Ex.gs Ex.tk KX g1 g2 (fun M => (h4 _ M KX).1) (fun M => (h4 _ M KX).2.1) h3 (fun M => (h4 _ M KX).2.2) fun k => ⟨φ, .toks R, by simp [QV, VR]⟩)
theorem e_isinst (G : Gd T N) {a : E} {t : Ty} {n tn : Str} {p p' pos : Pos} {x : Expr} (hl : (n == ("isinstance" : Str)) = true) (hn : isGlo sc n = true) (ht : (tyName N t == some tn) = true) (htn : isGlo sc tn = true) (hp : plainArg x = true)
    (h : SimE T q d call' sc Γ a x) (Ex : T.P.rz.isEmpty = false → Exs T N G) : SimE T q d call' sc Γ (.isinst a t) (.Call (.Name n p) [x, .Name tn p'] [] pos) := by
  intro A L φ η s env ρ X F
  have hl := beq_iff_eq.mp hl
  have ht := beq_iff_eq.mp ht
  by_cases hT : okT T.P t = true
  case neg => exact .inl (if_neg hT)
  cases t with
  | int => cases ht; exact isi_sim G hl hn hp h X F hT (fun R F' hQ => name_boot G R F' htn (by decide +kernel) (by decide +kernel) hQ) fun v η' φ' y s' R r => isi_int R r
  | bool => cases ht; exact isi_sim G hl hn hp h X F hT (fun R F' hQ => name_boot G R F' htn (by decide +kernel) (by decide +kernel) hQ) fun v η' φ' y s' R r => isi_bool R r
  | str => cases ht; exact isi_sim G hl hn hp h X F hT (fun R F' hQ => name_boot G R F' htn (by decide +kernel) (by decide +kernel) hQ) fun v η' φ' y s' R r => isi_str R r
  | tuple => cases ht; exact isi_sim G hl hn hp h X F hT (fun R F' hQ => name_boot G R F' htn (by decide +kernel) (by decide +kernel) hQ) fun v η' φ' y s' R r => isi_tuple R r
  | list => cases ht; exact isi_sim G hl hn hp h X F hT (fun R F' hQ => name_boot G R F' htn (by decide +kernel) (by decide +kernel) hQ) fun v η' φ' y s' R r => isi_list R r
  | valueError =>
    cases ht
    have Ex := Ex (by simpa [okT] using hT)
    refine isi_sim (cv := .type "ValueError") G hl hn hp h X F hT (fun R F' hQ => name_boot G R F' htn (by decide +kernel) (by decide +kernel) hQ) fun v η' φ' y s' R r => Sim.get fun b e => ?_
    cases v with
    | exc e' =>
      obtain ⟨hr, e⟩ : T.P.rz.contains e' = true ∧ b = true := by
        by_cases hr : T.P.rz.contains e' = true
        · have := (if_pos hr).symm.trans e; cases this; exact ⟨hr, rfl⟩
        · exact absurd ((if_neg hr).symm.trans e) (by simp)
      subst e
      obtain ⟨n, h1, h2⟩ := Ex.named e' hr
      exact isi_exc G Ex R r h1 h2 (fun _ => rfl) fun h M X => ⟨.of_pure rfl, .of_pure rfl, looks_mroIn X (Ex.ask e' n h1 h2).ve⟩
    | _ => cases e
  | cls c =>
    have Ex := Ex (by simpa [okT] using hT)
    simp only [tyName, Option.filter_eq_some_iff, Bool.not_eq_true', beq_eq_false_iff_ne, ne_eq] at ht
    refine isi_sim G hl hn hp h X F hT (fun R F' hQ => name_glob G R F' htn (Ex.at' c tn ht.1 ht.2).1 hQ) fun v η' φ' y s' R r => Sim.get fun b e => ?_
    cases v with
    | exc e' =>
      by_cases hr : T.P.rz.contains e' = true
      · have e1 := (if_pos hr).symm.trans e
        obtain ⟨ln, h3, h4⟩ := Option.map_eq_some_iff.mp e1
        obtain ⟨n, h1, h2⟩ := Ex.named e' hr
        have h5 := Ex.sub e' c n tn h1 ht.1 h2 ht.2
        have h6 := Ex.mro e' c n tn h1 ht.1 h2 ht.2
        rw [h3, Option.getD_some, h4] at h5 h6
        have ak := Ex.ask c tn ht.1 ht.2
        refine isi_exc G Ex R r h1 h2 (fun q => ?_) fun h M X => ⟨looks_typeIn X ak.ty, ak.isType X, looks_mroIn X h5⟩
        rw [← h6, List.contains_cons, beq_iff_eq.mp q]; simp
      · exact absurd ((if_neg hr).symm.trans e) (by simp)
    | _ => cases e
end
end Mine
end
section
namespace Mine
open PySem PyProof.Rows

section
variable {cw : Bool} {T : St} {A : Around} {L : Addr} {q : Bool} {d : Nat} {φ₀ φ φ' φ₁ : Phi} {η₀ η η' η₁ : H} {s₀ s s' s₁ : Shared} {h h' : Heap} {env : Env} {sc csc : Scope} {Γ : Gam} {ρ : Rho} {α β : Type} {I Cc : Addr} {xs : List V} {live : Option (Nat × List V)} {call : Nat → List V → H → R V} {n : Str} {x : Nat}

structure CompOk (csc sc : Scope) (n : Str) (Γ : Gam) (x : Nat) : Prop where
  kind : csc.kind = .function
  nocell : ∀ p ∈ csc.names, p.2 ≠ .cell
  locals : ∀ p ∈ csc.names, p.2 = .local → csc.names.lookup p.1 = some .local
  name : csc.names.lookup n = some .local
  free : ∀ p ∈ csc.names, p.2 = .free → sc.names.lookup p.1 = some .cell ∧ csc.names.lookup p.1 = some .free ∧ (Γ.lookup p.1).isSome = true
  slot : ∀ p ∈ Γ, p.2 ≠ x
  only : ∀ p ∈ csc.names, p.2 = .local → p.1 = n ∨ Γ.lookup p.1 = none
theorem comp_ok (e : compOk csc sc n Γ x = true) : CompOk csc sc n Γ x := by
  unfold compOk at e
  simp only [Bool.and_eq_true, List.all_eq_true, beq_iff_eq, Bool.or_eq_true, Bool.not_eq_true', beq_eq_false_iff_ne, Option.isNone_iff_eq_none] at e
  obtain ⟨⟨⟨⟨⟨⟨h1, h2⟩, h3⟩, h4⟩, h5⟩, h6⟩, h7⟩ := e
  refine ⟨h1, fun p hp => h2 p hp, fun p hp hl => (h3 p hp).resolve_left fun q => q hl, h4, fun p hp hf => ?_, fun p hp => h6 p hp, fun p hp hl => ?_⟩
  · obtain ⟨⟨⟨_, a⟩, b⟩, c⟩ := (h5 p hp).resolve_left fun q => q hf
    exact ⟨a, b, c⟩
  · rcases h7 p hp with (h | h) | h
    · exact absurd hl h
    · exact .inl h
    · exact .inr h

theorem mem_lookup {α : Type} : ∀ {l : List (Str × α)} {n : Str} {c : α}, l.lookup n = some c → (n, c) ∈ l
  | (k, v) :: r, n, c, h => by
    rw [List.lookup_cons] at h
    cases hb : n == k with
    | true => rw [hb] at h; cases h; rw [beq_iff_eq.mp hb]; exact List.mem_cons_self
    | false => rw [hb] at h; exact List.mem_cons_of_mem _ (mem_lookup h)

/-- the frame of a comprehension -/
theorem comp_fr (K : CompOk csc sc n Γ x) (F : FR T φ η h L env sc Γ ρ) (hc : NsAt h Cc "dict" m) (hm : ∀ k, m k = none) (ho : ¬ own φ η Cc) (hb : T.base.get? Cc = none) : FR T φ η h L (compEnvC csc (closL env csc.names []) Cc env) (relabelS csc sc) ((n, x) :: Γ) (ρ.set x none) := by
  have hfree : ∀ p ∈ csc.names, p.2 = .free → (env.cells.lookup p.1).isSome = true := fun p hp hf => by
    obtain ⟨a, _, b⟩ := K.free p hp hf
    obtain ⟨i, hi⟩ := Option.isSome_iff_exists.mp b
    obtain ⟨c, ov, e, _⟩ := F.cell p.1 i hi (by unfold Env.kindOf; rw [F.sc]; exact a)
    rw [e]; rfl
  have hsub := closL_sub csc.names [] hfree (fun n c e => by cases e)
  have hsc : relabel csc env = relabelS csc sc := by rw [← F.sc]; rfl
  have hkd : ∀ k, (compEnvC csc (closL env csc.names []) Cc env).kindOf k = (csc.names.lookup k).map fun kd => if (kd == .free && sc.kind == .function && sc.names.lookup k == some .cell) then NameKind.cell else kd := fun k => by
    show (relabel csc env).names.lookup k = _
    rw [hsc]; exact lookup_relabelS csc sc k
  refine ⟨hsc, K.kind, F.glob, F.bi, F.frame, ⟨"dict", m, hc, .inr rfl, fun k i v h1 h2 h3 => ?_⟩, fun k i h1 h2 => ?_, ⟨ho, hb⟩, fun k c e => F.cthere k c (hsub k c e), fun k c e => F.cfresh k c (hsub k c e), fun k k' c e e' => F.apart k k' c (hsub k c e) (hsub k' c e'), fun k k' i h1 h2 => ?_⟩
  · exfalso
    rw [hkd, Option.map_eq_some_iff] at h2
    obtain ⟨kd, hl, hkd'⟩ := h2
    have hloc : kd = .local := by
      split at hkd'
      · cases hkd'
      · exact hkd'
    subst hloc
    have hmem := mem_lookup hl
    rw [List.lookup_cons] at h1
    cases hb : k == n with
    | true =>
      rw [hb] at h1; cases h1
      rcases getElem?_set_some h3 with ⟨_, e⟩ | ⟨e, _⟩
      · cases e
      · exact e rfl
    | false =>
      rw [hb] at h1
      rcases K.only _ hmem rfl with e | e
      · dsimp only at e; rw [e, beq_self_eq_true] at hb; cases hb
      · dsimp only at e h1; rw [e] at h1; cases h1
  · rw [hkd, Option.map_eq_some_iff] at h2
    obtain ⟨kd, hl, hkd'⟩ := h2
    have hmem := mem_lookup hl
    have hf : kd = .free := by
      split at hkd'
      · rename_i hcond
        simp only [Bool.and_eq_true, beq_iff_eq] at hcond
        exact hcond.1.1
      · exact absurd hkd' (K.nocell _ hmem)
    subst hf
    obtain ⟨a, _, b⟩ := K.free _ hmem rfl
    have hne : (k == n) = false := by
      cases hb : k == n with
      | true => rw [beq_iff_eq.mp hb, K.name] at hl; cases hl
      | false => rfl
    rw [List.lookup_cons, hne] at h1
    obtain ⟨c, ov, e, hcell, hv⟩ := F.cell k i h1 (by unfold Env.kindOf; rw [F.sc]; exact a)
    have hi : i ≠ x := K.slot _ (mem_lookup h1)
    obtain ⟨c', hc'⟩ := Option.isSome_iff_exists.mp (closL_has (env := env) csc.names [] k hmem)
    have := hsub k c' hc'
    rw [e] at this; cases this
    refine ⟨c, ov, hc', hcell, fun v hr => ?_⟩
    rcases getElem?_set_some hr with ⟨e, _⟩ | ⟨_, e⟩
    · exact absurd e hi
    · exact hv v e
  · rw [List.lookup_cons] at h1 h2
    cases hb : k == n with
    | true =>
      rw [hb] at h1; cases h1
      cases hb' : k' == n with
      | true => rw [beq_iff_eq.mp hb, beq_iff_eq.mp hb']
      | false => rw [hb'] at h2; exact absurd rfl (K.slot _ (mem_lookup h2))
    | false =>
      rw [hb] at h1
      cases hb' : k' == n with
      | true => rw [hb'] at h2; cases h2; exact absurd rfl (K.slot _ (mem_lookup h1))
      | false => rw [hb'] at h2; exact F.inj k k' i h1 h2

/-- the tests -/
theorem sim_tests_no {E : Value → Shared → Prop} {Q : Bool → Shared → Prop} : ∀ (ts : List Expr), Q false s → wpAny T.M A (forIn ts false fun c r => if r = true then do let ok ← isTrue c env (eval c env); pure (ForInStep.yield ok) else pure (ForInStep.yield r)) Q E s
  | [], h => wpAny_pure h
  | t :: ts, h => by
    rw [List.forIn_cons]
    exact wpAny_bind (wpAny_pure (sim_tests_no ts h))
theorem sim_tests : ∀ (cs : List C) (ts : List Expr), SimCL T q d call sc Γ cs ts → ∀ φ η s, Cxt T A L q d φ η s → FR T φ η s.heap L env sc Γ ρ →
    Sim T A L φ η s (forIn ts true fun c r => if r = true then do let ok ← isTrue c env (eval c env); pure (ForInStep.yield ok) else pure (ForInStep.yield r)) (evIfs T.P q call cs ρ η) QB
  | [], [], _, φ, η, s, X, F => .pure X.rel rfl
  | c :: cs, t :: ts, hh, φ, η, s, X, F => by
    rw [List.forIn_cons, if_pos rfl]
    refine Sim.assoc (Sim.bind (hh.1 A L φ η s env ρ X F) fun v η' φ' y s' _ p hq => ?_)
    cases hq
    refine .pureBind ?_
    cases v with
    | true => exact sim_tests cs ts hh.2 φ' η' s' (X.step p) (F.step p.step)
    | false => exact .ok rfl (sim_tests_no ts ⟨φ', .refl p.rel, rfl⟩)
  | [], _ :: _, hh, _, _, _, _, _ => hh.elim
  | _ :: _, [], hh, _, _, _, _, _ => hh.elim

theorem FS.cxt' (F : FS cw T A L φ₀ η₀ s₀ φ η s env sc Γ ρ) (X : Cxt T A L q d φ₁ η₁ s₁) : Cxt T A L q d φ η s := ⟨X.hand, X.depth, X.units, F.stk, F.post.rel⟩

/-- an exception inside -/
theorem noted {e : Value} {c : Nat} {E : Value → Shared → Prop} (F : FS cw T A L φ₀ η₀ s₀ φ η s env sc Γ ρ) (x : XR T s.heap e c L)
    (h : ∀ a s', e = .ref a → Post T φ η s φ η s' → RN T s'.heap a c (rawInt L) → E e s') : notedBy T.M A env E e s := by
  obtain ⟨a, rfl, r⟩ := x
  obtain ⟨top, outer, h1, h2, h3⟩ := F.stk
  exact wpAny_mono (note h1 h2 h3 F.fr.frame F.post.rel r) (fun _ s' ⟨p, rn⟩ => h a s' rfl p rn) fun _ _ y => y

/-- between the turns -/
inductive CmpI (T : St) (A : Around) (L : Addr) (φ₁ : Phi) (η₁ : H) (s₁ : Shared) (cenv : Env) (csc' : Scope) (Γ' : Gam) (ρ : Rho) (x : Nat) (I : Addr) (live : Option (Nat × List V)) (N : Nat) (D : Addr) (stp : V → H → R Unit) (tot : R Unit) (m : Nat) (s : Shared) : Prop where
  | mk (φ : Phi) (η : H) (o : Option V) (xs : List V) (hm : m = xs.length) (F : FS false T A L φ₁ η₁ s₁ φ η s cenv csc' Γ' (ρ.set x o)) (it : Iter T φ η s.heap I xs live) (ow : Own T s₁ φ η I) (hD : φ[N]? = some (D, D)) (e : compLoop (still · live) stp xs η = tot)
/-- the loop of a comprehension -/
theorem comp_loop {ey iter : Expr} {tests : List Expr} {pos px : Pos} {cenv : Env} {csc' : Scope} {Γ' : Gam} {D : Addr} {N : Nat} {RR : Result → Shared → Prop} {tot : R Unit} {o : Option V} {fi : Rho → H → R Bool} {fe : Rho → H → R V}
    (hq : A.handled = none) (X : Cxt T A L q d φ₁ η₁ s₁) (hΓ : Γ'.lookup n = some x) (hn : csc'.names.lookup n = some .local)
    (he : ∀ φ η s ρ, Cxt T A L q d φ η s → FR T φ η s.heap L cenv csc' Γ' ρ → Sim T A L φ η s (eval ey cenv) (fe ρ η) (QV T))
    (ht : ∀ φ η s ρ, Cxt T A L q d φ η s → FR T φ η s.heap L cenv csc' Γ' ρ → Sim T A L φ η s (forIn tests true fun c r => if r = true then do let ok ← isTrue c cenv (eval c cenv); pure (ForInStep.yield ok) else pure (ForInStep.yield r)) (fi ρ η) QB) (hf : tot ≠ .fail)
    (hQ : ∀ s' φ' η' o, tot = .ok () η' → φ'[N]? = some (D, D) → FS false T A L φ₁ η₁ s₁ φ' η' s' cenv csc' Γ' (ρ.set x o) → RR (.ok .next) s')
    (hE : ∀ a s' c φ' η' o, tot = .exc c η' → FS false T A L φ₁ η₁ s₁ φ' η' s' cenv csc' Γ' (ρ.set x o) → RN T s'.heap a c (rawInt L) → RR (.error (.ref a)) s')
    (F : FS false T A L φ₁ η₁ s₁ φ η s cenv csc' Γ' (ρ.set x o)) (it : Iter T φ η s.heap I xs live) (ow : Own T s₁ φ η I) (hD : φ[N]? = some (D, D))
    (e : compLoop (still · live) (compStep fi fe x N ρ) xs η = tot) :
    codeAny T.M A (.compLoop (.ListComp ey [⟨.Name n px, iter, tests, 0⟩] csc pos) 0 (.ref I) (.ref D) cenv) RR s := by
  refine codeAny_compLoop_tests (CmpI T A L φ₁ η₁ s₁ cenv csc' Γ' ρ x I live N D (compStep fi fe x N ρ) tot) (fun m s hI => ?_) xs.length ⟨φ, η, o, xs, rfl, F, it, ow, hD, e⟩
  clear e hD ow it F
  have ex : ∀ {c η' φ' e' s₃ o}, tot = .exc c η' → FS false T A L φ₁ η₁ s₁ φ' η' s₃ cenv csc' Γ' (ρ.set x o) → XR T s₃.heap e' c L → notedBy T.M A cenv (fun e s => RR (.error e) s) e' s₃ := fun et F hx =>
    noted F hx fun a s₄ ea p₄ rn => by subst ea; exact hE a s₄ _ _ _ _ et (F.step p₄) rn
  cases hI with
  | mk φ η o xs hm F it ow hD e =>
    subst hm
    obtain ⟨oI, gI, pI, cI⟩ := it.priv
    cases xs with
    | nil =>
      obtain ⟨hs, e⟩ := ifR_nf e hf
      exact it.fin hq F.post.rel hs fun h' hx => hQ _ φ η o e.symm hD (F.but (t := s.toks) gI pI cI ow.z ow.o ow.b hx)
    | cons v vs =>
      obtain ⟨hs, e⟩ := ifR_nf e hf
      have e := bind_bind e
      refine it.next F.post.rel hs fun y h' t ry it' hsame => ?_
      have F' := F.but (t := t) gI pI cI ow.z ow.o ow.b (sameBut_keep hsame)
      refine wpAny_assign_Name (F'.store hΓ (.inl hn) ry fun s₂ F₂ k₂ a₂ v₂ => ?_)
      have it₂ : Iter T φ η s₂.heap I vs live := it'.stepL (F'.stepL_store k₂ a₂) F'.fr ow.o
      rw [List.set_set] at F₂
      refine (ht φ η s₂ _ (F₂.cxt' X) F₂.fr).elim (bind_nf e hf) (fun b η₃ φ₃ _ s₃ er hp hbq => ?_) fun c η' φ' e' s₃ er hp hx => ex (bind_exc' e er) (F₂.step hp) hx
      cases hbq
      have e := bind_ok' e er
      have F₃ := F₂.step hp
      have it₃ := it₂.step hp.step ow.o
      have ow₃ : Own T s₁ φ₃ η₃ I := ow.step (env := cenv) hp.step.toL (iter_there it₂)
      have hD₃ := get_prefix hp.step.ext hD
      cases b with
      | false => exact ⟨vs.length, Nat.lt_succ_self _, φ₃, η₃, _, vs, rfl, F₃, it₃, ow₃, hD₃, e⟩
      | true =>
        have e := bind_bind e
        refine (he φ₃ η₃ s₃ _ (F₃.cxt' X) F₃.fr).elim (bind_nf e hf) (fun w η₄ φ₄ yv s₄ er hp₄ rw' => ?_) fun c η' φ' e' s₃ er hp hx => ex (bind_exc' e er) (F₃.step hp) hx
        have e := bind_bind (bind_ok' e er)
        have F₄ := F₃.step hp₄
        have it₄ := it₃.step hp₄.step ow₃.o
        have ow₄ : Own T s₁ φ₄ η₄ I := ow₃.step (env := cenv) hp₄.step.toL (iter_there it₃)
        have hD₄ := get_prefix hp₄.step.ext hD₃
        exact (app_sim (L := L) F₄.post.rel hD₄ rw').elim (bind_nf e hf) (fun _ η₅ φ₅ _ s₅ er hp₅ _ => have e := bind_ok' e er; ⟨vs.length, Nat.lt_succ_self _, φ₅, η₅, _, vs, rfl, F₄.step hp₅, it₄.step hp₅.step ow₄.o, ow₄.step (env := cenv) hp₅.step.toL (iter_there it₄), get_prefix hp₅.step.ext hD₄, e⟩)
          fun c η' φ' e' s₅ er hp₅ hx => ex (bind_exc' e er) (F₄.step hp₅) hx
end
end Mine
end
section
namespace Mine
open PySem PyProof.Rows

section
variable {cw : Bool} {T : St} {A : Around} {L : Addr} {q : Bool} {d : Nat} {φ₀ φ φ' φ₁ : Phi} {η₀ η η' η₁ : H} {s₀ s s' s₁ : Shared} {h h' : Heap} {env : Env} {sc csc : Scope} {Γ : Gam} {ρ : Rho} {I Cc : Addr} {xs : List V} {live : Option (Nat × List V)} {call : Nat → List V → H → R V} {n : Str} {x : Nat}

theorem new_comp_env {M : Model} {E : Value → Shared → Prop} {g : Addr} {cl : List (Str × Addr)} {qual : Str} {Q : Env → Shared → Prop} (hc : ∀ p ∈ csc.names, p.2 ≠ .cell)
    (hQ : Q (newEnv csc s.heap.objs.size g cl qual none .none (some env) builtinsNs) { s with heap := s.heap.push { cls := .type "dict", data := .dict #[] } }) : wpAny M A (newFunctionEnv csc g cl [] qual none .none (some env)) Q E s := by
  simp only [newFunctionEnv, Option.isSome_some, if_true]
  refine wpAny_bind (wpAny_alloc ?_)
  rw [forIn_yield_id cl (fun x hx c => by
    obtain ⟨name, kind⟩ := x
    have : (kind == NameKind.cell) = false := by simpa using hc _ hx
    simp only [this, Bool.false_eq_true, if_false])]
  refine wpAny_bind (wpAny_pure (wpAny_bind ?_))
  rw [List.forIn_nil]
  exact wpAny_pure (wpAny_pure hQ)

theorem own_none (R : Rel T φ η h) (e : h.get? I = none) : ¬ own φ η I := fun o => by
  obtain ⟨ob, e', _⟩ := R.there o
  rw [e] at e'; cases e'
theorem base_none (R : Rel T φ η h) (e : h.get? I = none) : T.base.get? I = none := by
  cases q : T.base.get? I with
  | none => rfl
  | some o => have := R.base I o q; rw [e] at this; cases this
theorem Step.was_none (st : Step φ η h φ' η' h') (e : h'.get? I = none) : h.get? I = none := by
  cases q : h.get? I with
  | none => rfl
  | some o => have := st.alive I o q; rw [e] at this; cases this

/-- what a comprehension's names are at its end -/
structure Gone (T : St) (s : Shared) (φ' : Phi) (η' : H) (s' : Shared) (cenv : Env) : Prop where
  ns : ∃ c m, NsAt s'.heap cenv.locals c m ∧ (c = "frame" ∨ c = "dict")
  z : s.heap.get? cenv.locals = none
  o : ¬ own φ' η' cenv.locals
  b : T.base.get? cenv.locals = none

theorem comp_core {mu : Bool} {elt : E} {it : It} {ifs : List C} {px pos : Pos} {iter ey : Expr} {tests : List Expr} {RR : Value → Env → Result → Shared → Prop} {E : Value → Shared → Prop} {r : R V} (er : evE T.P q call (.comp mu x elt it ifs) ρ η = r)
    (K : CompOk csc sc n Γ x) (hi : SimIt T q d call sc Γ it iter) (he : SimE T q d call (relabelS csc sc) ((n, x) :: Γ) elt ey) (ht : SimCL T q d call (relabelS csc sc) ((n, x) :: Γ) ifs tests)
    (X : Cxt T A L q d φ η s) (F : FR T φ η s.heap L env sc Γ ρ)
    (hok : ∀ D cenv s' v η' φ', r = .ok v η' → Post T φ η s φ' η' s' → VR T φ' (own φ' η') s'.heap v (.ref D) → Gone T s φ' η' s' cenv → RR (.ref D) cenv (.ok .next) s')
    (herr : ∀ D cenv s' a c η' φ', r = .exc c η' → Post T φ η s φ' η' s' → RN T s'.heap a c (rawInt L) → Gone T s φ' η' s' cenv → cenv.frame = some L → RR (.ref D) cenv (.error (.ref a)) s')
    (hE : ∀ e s' c η' φ', r = .exc c η' → Post T φ η s φ' η' s' → XR T s'.heap e c L → E e s') :
    r = .fail ∨ wpAny T.M A (eval iter env) (fun xv s₁ => wpAny T.M A (pyIter xv) (fun it s₂ => wpAny T.M A (newList []) (fun acc s₃ => wpAny T.M A (newFunctionEnv csc env.globals (closL env csc.names []) [] env.qual none .none (some env)) (fun cenv s₄ =>
      codeAny T.M A (.compStart (.ListComp ey [⟨.Name n px, iter, tests, 0⟩] csc pos) 0 it acc { cenv with scope := relabel csc env }) (RR acc { cenv with scope := relabel csc env }) s₄) E s₃) E s₂) E s₁) E s := by
  by_cases hrf : r = .fail
  · exact .inl hrf
  right
  refine (hi A L φ η s env ρ X F).elim (bind_nf er hrf) (fun v η₁ φ₁ y s₁ ei p₁ hy => ?_) fun c η' φ' e s' ei hp hx => hE e s' c η' φ' (bind_exc' er ei) hp hx
  have er := bind_ok' er ei
  clear ei
  cases e2 : itemsOf η₁ v with
  | none => rw [e2] at er; exact absurd er.symm hrf
  | some pr =>
      obtain ⟨xs, live⟩ := pr
      rw [e2] at er
      obtain ⟨hql, er⟩ := ifR_nf er hrf
      generalize etot : compLoop (still · live) (compStep (evIfs T.P q call ifs) (evE T.P q call elt) x η₁.length ρ) xs (η₁ ++ [.list []]) = tot at er
      have er' : tot.bind (fun _ h' => endComp mu η₁ h') = r := er
      clear er
      have hf : tot ≠ .fail := bind_nf er' hrf
      refine iter_start p₁.rel e2 hy fun I hI' hI hk it' => ?_
      have p₂ : Post T φ₁ η₁ s₁ φ₁ η₁ { s₁ with heap := hI' } := Post.grown (k := s₁.toks) p₁.rel hk
      have oI := own_none p₁.rel hI
      have bI := base_none p₁.rel hI
      obtain ⟨vD, ηD, φD, eD, pD, rD⟩ := mk_list (s := { s₁ with heap := hI' }) true p₂.rel (items := #[]) (xs := []) (by simp [VRs]) s₁.toks
      cases eD
      simp only [VR] at rD
      obtain ⟨pp, hpp, ep⟩ := rD
      obtain ⟨e21, itemsD, kD, gD, _⟩ := pD.rel.obj η₁.length (.list []) pp (by rw [List.getElem?_append_right (Nat.le_refl _)]; simp) hpp
      have hDD : φD[η₁.length]? = some (hI'.objs.size, hI'.objs.size) := by
        rw [hpp]
        obtain ⟨p1, p2⟩ := pp
        cases ep
        dsimp only at e21; subst e21; rfl
      refine wpAny_newList (s := { s₁ with heap := hI' }) ?_ (by simp)
      refine new_comp_env K.nocell ?_
      generalize hH : (hI'.push (listO ([] : List Value).toArray 0)) = HD at *
      have pC : Post T φD (η₁ ++ [.list []]) { s₁ with heap := HD } φD (η₁ ++ [.list []]) { s₁ with heap := HD.push { cls := .type "dict", data := .dict #[] } } := Post.grown (s := { s₁ with heap := HD }) (k := s₁.toks) pD.rel (push_keeps _)
      have pAll : Post T φ₁ η₁ s₁ φD (η₁ ++ [.list []]) { s₁ with heap := HD.push { cls := .type "dict", data := .dict #[] } } := (p₂.trans pD).trans pC
      have zC : HD.get? HD.objs.size = none := Heap.get?_none_of_le (Nat.le_refl _)
      have oC := own_none pD.rel zC
      have bC := base_none pD.rel zC
      have z₁ : s₁.heap.get? HD.objs.size = none := (p₂.trans pD).step.was_none zC
      have nsC : NsAt (HD.push { cls := .type "dict", data := .dict #[] }) HD.objs.size "dict" (fun _ => none) := ⟨Heap.Ns.new HD (.type "dict"), _, Heap.get?_push_size _ rfl, rfl⟩
      have fr := comp_fr (m := fun _ => none) K (F.step (p₁.trans pAll).step) nsC (fun _ => rfl) oC bC
      have FSc : FS false T A L φ₁ η₁ s₁ φD (η₁ ++ [.list []]) { s₁ with heap := HD.push { cls := .type "dict", data := .dict #[] } } (compEnvC csc (closL env csc.names []) HD.objs.size env) (relabelS csc sc) ((n, x) :: Γ) (ρ.set x none) :=
        ⟨pAll, fr, let ⟨t, o, h1, h2, h3⟩ := X.stk; ⟨t, o, h1, h2, h3.step (p₁.trans pAll).step⟩, z₁, fun q => by cases q⟩
      have gone : ∀ s' φ' η' o, FS false T A L φ₁ η₁ s₁ φ' η' s' (compEnvC csc (closL env csc.names []) HD.objs.size env) (relabelS csc sc) ((n, x) :: Γ) (ρ.set x o) → Gone T s φ' η' s' (compEnvC csc (closL env csc.names []) HD.objs.size env) := fun s' φ' η' o F' => by
        obtain ⟨c, m, h1, h2, _⟩ := F'.fr.ns
        exact ⟨⟨c, m, h1, h2⟩, p₁.step.was_none z₁, F'.fr.lfresh.1, F'.fr.lfresh.2⟩
      have hI₄ := it'.step (pD.trans pC).step oI
      have loop : codeAny T.M A (.compLoop (.ListComp ey [⟨.Name n px, iter, tests, 0⟩] csc pos) 0 (.ref I) (.ref hI'.objs.size) (compEnvC csc (closL env csc.names []) HD.objs.size env))
          (RR (.ref hI'.objs.size) (compEnvC csc (closL env csc.names []) HD.objs.size env)) { s₁ with heap := HD.push { cls := .type "dict", data := .dict #[] } } := by
        refine comp_loop (s₁ := s₁) (φ₁ := φ₁) (η₁ := η₁) (N := η₁.length) (D := hI'.objs.size) (X.hand hql.1) (X.step p₁) (by rw [List.lookup_cons, beq_self_eq_true]) ?_ (fun φ η s ρ X F => he A L φ η s _ ρ X F) (fun φ η s ρ X F => sim_tests ifs tests ht φ η s X F) hf (fun s' φ' η' o eo hD F' => ?_) (fun a s' c φ' η' o eo F' rn => ?_) FSc hI₄
          ⟨hI, fun q => ?_, bI⟩ hDD etot
        · rw [lookup_relabelS, K.name]; rfl
        · have er' := bind_ok' er' eo
          unfold endComp at er'
          cases hN : η'[η₁.length]? with
          | none => rw [hN] at er'; exact absurd er'.symm hrf
          | some mo =>
            rw [hN] at er'
            cases mo with
            | list ys =>
              obtain ⟨_, items, k, g, rr⟩ := F'.post.rel.obj _ _ _ hN hD
              have gn := gone s' φ' η' o F'
              cases mu with
              | true =>
                simp only [if_true] at er'
                exact hok _ _ s' _ _ φ' er'.symm (p₁.trans F'.post) (by simp only [VR]; exact ⟨_, hD, rfl⟩) gn
              | false =>
                simp only [Bool.false_eq_true, if_false] at er'
                split at er'
                · rename_i hc
                  refine hok _ _ s' _ _ φ₁ er'.symm (p₁.trans (F'.post.cut p₁.rel hc.1)) ?_ ⟨gn.ns, gn.z, fun q => gn.o (own_cut F'.post.step.ext hc.1 q), gn.b⟩
                  simp only [VR]
                  have zD : s₁.heap.get? hI'.objs.size = none := p₂.step.was_none (Heap.get?_none_of_le (Nat.le_refl _))
                  exact ⟨_, items, k, rfl, own_none p₁.rel zD, g, F'.post.cutVs p₁.rel hc.1 rr hc.2⟩
                · have fre := F'.post.rel.free (n := η₁.length)
                  have pF : Post T φ' η' s' φ' (η'.set η₁.length .gone) s' := ⟨fre.2, fre.1, rfl, rfl, rfl⟩
                  obtain ⟨c, m, ⟨_, oc, goc, _⟩, _⟩ := gn.ns
                  refine hok _ _ s' _ _ φ' er'.symm ((p₁.trans F'.post).trans pF) ?_ ⟨gn.ns, gn.z, fre.2.off gn.o goc, gn.b⟩
                  simp only [VR]
                  exact ⟨_, items, k, rfl, own_free F'.post.rel hN hD, g, VRs.step fre.2 _ _ rr⟩
            | dict es => exact absurd er'.symm hrf
            | inst c fs => exact absurd er'.symm hrf
            | gone => exact absurd er'.symm hrf
        · exact herr _ _ s' a c η' φ' (bind_exc' er' eo) (p₁.trans F'.post) rn (gone s' φ' η' o F') F'.fr.frame
        · have gI := iter_there it'
          obtain ⟨o, go⟩ := Option.isSome_iff_exists.mp gI
          exact pD.step.off oI go q
      refine codeAny_compStart_list loop (hI₄.self loop)
end
end Mine
end
section
namespace Mine
open PySem PyProof.Rows

section
variable {cw : Bool} {T : St} {A : Around} {L : Addr} {q : Bool} {d : Nat} {φ₀ φ φ' φ₁ : Phi} {η₀ η η' η₁ : H} {s₀ s s' s₁ : Shared} {h h' : Heap} {env : Env} {sc csc : Scope} {Γ : Gam} {ρ : Rho} {I Cc : Addr} {xs : List V} {live : Option (Nat × List V)} {n : Str} {x : Nat}

theorem Gone.priv {cenv : Env} (g : Gone T s φ' η' s' cenv) : ∃ o, s'.heap.get? cenv.locals = some o ∧ Priv o ∧ (∃ es ep, o.data = .dict es ep) ∧ ∃ m, s'.heap.Ns cenv.locals m := by
  obtain ⟨c, m, ⟨hn, o, go, hc⟩, hcc⟩ := g.ns
  obtain ⟨o', es, ep, go', hd, _⟩ := id hn
  rw [go] at go'; cases go'
  exact ⟨o, go, ⟨c, hc, by rcases hcc with rfl | rfl <;> decide, by rcases hcc with rfl | rfl <;> decide⟩, ⟨es, ep, hd⟩, m, hn⟩
theorem Gone.post {cenv : Env} (g : Gone T s φ' η' s' cenv) (p : Post T φ η s φ' η' s') (hs : Heap.SameBut cenv.locals s'.heap h') : Post T φ η s φ' η' { s' with heap := h' } := by
  obtain ⟨o, go, pv, _⟩ := g.priv
  exact p.but (t := s'.toks) g.z go pv g.o g.b (sameBut_keep hs)
theorem RN.but {a : Addr} {c : Nat} {fl : Value} {o : Obj} {es : Array DictEntry} {ep : Nat} (x : RN T h a c fl) (go : h.get? Cc = some o) (hd : o.data = .dict es ep) (k : ∀ b o, b ≠ Cc → h.get? b = some o → h'.get? b = some o) : RN T h' a c fl := by
  obtain ⟨oe, vs, a0, Tb, oT, ts, h1, h2, h3, h4, h5, h6, h7, h8, h9, h10, h11, h12⟩ := x
  have n1 : a ≠ Cc := fun q => by rw [q, go] at h1; cases h1; rw [hd] at h3; cases h3
  have n2 : Tb ≠ Cc := fun q => by rw [q, go] at h9; cases h9; rw [hd] at h11; cases h11
  exact ⟨oe, vs, a0, Tb, oT, ts, k _ _ n1 h1, h2, h3, h4, h5, h6, h7, h8, k _ _ n2 h9, h10, h11, h12⟩

theorem comp_pass {cenv : Env} {a : Addr} {c : Nat} {E : Value → Shared → Prop} (g : Gone T s φ' η' s' cenv) (p : Post T φ η s φ' η' s') (rn : RN T s'.heap a c (rawInt L)) (hf : cenv.frame = some L) (hE : ∀ s'', Post T φ η s φ' η' s'' → XR T s''.heap (.ref a) c L → E (.ref a) s'') :
    ∃ m, s'.heap.Ns cenv.locals m ∧ ∀ h', Heap.SameBut cenv.locals s'.heap h' → wpAny T.M A (passOn "comprehension.variables-let-go" (.ref a) cenv : Sem Value) (fun _ _ => False) E { s' with heap := h' } := by
  obtain ⟨o, go, pv, ⟨es, ep, hd⟩, m, hn⟩ := g.priv
  refine ⟨m, hn, fun h' hs => ?_⟩
  have p' := g.post p hs
  exact passes hf p'.rel (rn.but go hd (sameBut_keep hs)) fun s'' p'' r => hE s'' (p'.trans p'') ⟨a, rfl, r⟩

theorem cells_some (K : CompOk csc sc n Γ x) (F : FR T φ η h L env sc Γ ρ) : ∀ p ∈ csc.names, p.2 = .free → (env.cells.lookup p.1).isSome = true := fun p hp hf => by
  obtain ⟨a, _, b⟩ := K.free p hp hf
  obtain ⟨i, hi⟩ := Option.isSome_iff_exists.mp b
  obtain ⟨c, ov, e, _⟩ := F.cell p.1 i hi (by unfold Env.kindOf; rw [F.sc]; exact a)
  rw [e]; rfl

theorem e_comp {call : Nat → List V → H → R V} {mu : Bool} {elt : E} {it : It} {ifs : List C} {px pos : Pos} {iter ey : Expr} {tests : List Expr} (hset : ∀ env y, foldedSetIterable iter env y = pure y)
    (K : CompOk csc sc n Γ x) (hi : SimIt T q d call sc Γ it iter) (he : SimE T q d call (relabelS csc sc) ((n, x) :: Γ) elt ey) (ht : SimCL T q d call (relabelS csc sc) ((n, x) :: Γ) ifs tests) :
    SimE T q d call sc Γ (.comp mu x elt it ifs) (.ListComp ey [⟨.Name n px, iter, tests, 0⟩] csc pos) := by
  intro A L φ η s env ρ X F
  rw [eval_ListComp]
  refine Or.elim (comp_core (A := A) (L := L) (mu := mu) (pos := pos) (px := px) (RR := fun acc cenv => CompEnd T.M A (SEx T L φ η s (evE T.P q call (.comp mu x elt it ifs) ρ η)) none
      (SOk T φ η s (evE T.P q call (.comp mu x elt it ifs) ρ η) (QV T)) acc cenv)
      (E := SEx T L φ η s (evE T.P q call (.comp mu x elt it ifs) ρ η)) rfl K hi he ht X F
      (fun D cenv s' v η' φ' e p r g => ?_) (fun D cenv s' a c η' φ' e p rn g hf => ?_) (fun e s' c η' φ' h1 h2 h3 => ⟨c, η', φ', h1, h2, h3⟩)) (fun hh => .inl hh) fun hh => .inr (comp_rule (use := none) rfl (hset env) (closure_eq csc env (cells_some K F)) K.kind K.locals hh)
  · obtain ⟨o, go, pv, _, m, hn⟩ := g.priv
    exact ⟨m, hn, fun h' hs => ⟨v, η', φ', e, g.post p hs, VR.but go pv (sameBut_keep hs) _ _ r⟩⟩
  · exact comp_pass g p rn hf fun s'' p' xr => ⟨c, η', φ', e, p', xr⟩

variable {call : Bool → Nat → List V → H → R V}

theorem s_assign_comp {y : Nat} {t : Str} {mu : Bool} {elt : E} {it : It} {ifs : List C} {px pos p spos : Pos} {iter ey : Expr} {tests : List Expr} (hset : ∀ env y, foldedSetIterable iter env y = pure y) (hΓ : Γ.lookup t = some y) (hn : isLoc sc t = true)
    (K : CompOk csc sc n Γ x) (hi : SimIt T q d (call q) sc Γ it iter) (he : SimE T q d (call q) (relabelS csc sc) ((n, x) :: Γ) elt ey) (ht : SimCL T q d (call q) (relabelS csc sc) ((n, x) :: Γ) ifs tests) :
    SimS T q d call sc Γ (.assign y (.comp mu x elt it ifs)) (.Assign [.Name t p] (.ListComp ey [⟨.Name n px, iter, tests, 0⟩] csc pos) spos) := by
  intro A L φ₀ η₀ s₀ φ η s env ρ X F
  have hsw : ∃ b, swapsWith (.ListComp ey [⟨.Name n px, iter, tests, 0⟩] csc pos) (some (.Name t p)) spos.line env = pure b := ⟨_, rfl⟩
  obtain ⟨b, hsw⟩ := hsw
  cases b with
  | false =>
    rw [exec_Assign_Name env t p _ spos hsw]
    refine SimR.standAt ?_
    exact SimR.expr F (e_comp hset K hi he ht A L φ η s env ρ (F.cxt X) F.fr) fun w η' φ' y s' _ F' hq => sim_store F' hΓ hn hq
  | true =>
    rw [exec_Assign_Name_used _ _ _ _ hsw]
    refine SimR.standAt ?_
    change SimR T A L φ₀ η₀ s₀ env sc Γ φ η s _ (RS.of ρ (evE T.P q (call q) (.comp mu x elt it ifs) ρ η) fun v h => .next (ρ.set y (some v)) h)
    generalize er : evE T.P q (call q) (.comp mu x elt it ifs) ρ η = r
    refine Or.elim (comp_core (A := A) (L := L) (mu := mu) (pos := pos) (px := px) (RR := fun acc cenv => CompEnd T.M A (SEx T L φ η s r) (some (assign (.Name t p) env))
      (fun _ s' => ∃ v η' φ', r = .ok v η' ∧ FS true T A L φ₀ η₀ s₀ φ' η' s' env sc Γ (ρ.set y (some v)) ∧ StepL env φ η s.heap φ' η' s'.heap) acc cenv)
      (E := SEx T L φ η s r) er K hi he ht (F.cxt X) F.fr
      (fun D cenv s' v η' φ' e pp rr g => ?_) (fun D cenv s' a c η' φ' e pp rn g hf => ?_) (fun e s' c η' φ' h1 h2 h3 => ⟨c, η', φ', h1, h2, h3⟩)) (fun hh => .inl (by rw [hh]; rfl)) fun hh => .inr ?_
    · have F' := F.step pp
      refine wpAny_assign_Name (F'.store hΓ (loc_store hn) rr fun s'' F'' k a _ => ?_)
      obtain ⟨o, go, pv, ⟨es, ep, hd⟩, m, hns⟩ := g.priv
      have offC : Off env cenv.locals := by
        refine ⟨fun qq => ?_, fun k c e qq => ?_⟩
        · obtain ⟨c, m, ⟨_, o', g', _⟩, _⟩ := F.fr.ns
          rw [← qq, g.z] at g'; cases g'
        · obtain ⟨ov, o', g', _⟩ := F.fr.cthere k c e
          rw [← qq, g.z] at g'; cases g'
      have go'' : s''.heap.get? cenv.locals = some o := k _ _ offC.1 offC.2 go
      refine ⟨m, ?_, fun h' hs => ⟨v, η', φ', e, ?_, ?_⟩⟩
      · obtain ⟨o₁, es₁, ep₁, g₁, r₁⟩ := hns
        rw [go] at g₁; cases g₁
        exact ⟨o, es₁, ep₁, go'', r₁⟩
      · have kk := sameBut_keep hs
        obtain ⟨t, u, h1, h2, h3⟩ := F''.stk
        obtain ⟨t', u', h1', h2', h3'⟩ := F.stk
        rw [h1] at h1'; cases h1'
        refine ⟨F''.post.but (t := s''.toks) (F.fresh g.z).1 go'' pv g.o g.b kk, F''.fr.but go'' pv offC kk, ⟨t, u, h1, h2, fun env' he' => ?_⟩, F''.l0, F''.c0⟩
        obtain ⟨hk, L', o₁, hf₁, hb₁, ho₁, hg₁, r₁⟩ := h3 env' he'
        obtain ⟨_, L'', o₂, hf₂, _, _, hg₂, _⟩ := h3' env' he'
        rw [hf₁] at hf₂; cases hf₂
        have hne : L' ≠ cenv.locals := fun qq => by rw [qq, g.z] at hg₂; cases hg₂
        exact ⟨hk, L', o₁, hf₁, hb₁, ho₁, kk _ _ hne hg₁, r₁⟩
      · have st₂ : StepL env φ η s.heap φ' η' s''.heap := pp.step.toL.trans (F'.stepL_store k a)
        refine ⟨st₂.ext, fun b ob hb ho e => ?_, st₂.osub, fun b ob e => ?_⟩
        · have hne : b ≠ cenv.locals := fun qq => by rw [qq, g.z] at e; cases e
          exact (st₂.keep b ob hb ho e).trans fun o' e' => .inl (sameBut_keep hs b o' hne e')
        · have hne : b ≠ cenv.locals := fun qq => by rw [qq, g.z] at e; cases e
          obtain ⟨o', e'⟩ := Option.isSome_iff_exists.mp (st₂.alive b ob e)
          show (h'.get? b).isSome = true
          rw [sameBut_keep hs b o' hne e']; rfl
    · exact comp_pass g pp rn hf fun s'' p' xr => ⟨c, η', φ', e, p', xr⟩
    · refine wpAny_bind ?_
      show wpAny _ A (do let _ ← comprehension (.ListComp ey [⟨.Name n px, iter, tests, 0⟩] csc pos) csc env _ (newList []) false (eval iter env) (some (assign (.Name t p) env))) _ _ s
      refine wpAny_bind (wpAny_mono (comp_rule (use := some (assign (.Name t p) env)) rfl (hset env) (closure_eq csc env (cells_some K F.fr)) K.kind K.locals hh)
        (fun _ s' ⟨v, η', φ', e, F', st⟩ => wpAny_pure (wpAny_pure ⟨φ', η', _, .inl ⟨by rw [e]; rfl, rfl⟩, F', st⟩)) fun e s' ⟨c, η', φ', h1, h2, h3⟩ => ⟨c, φ', η', ρ, by rw [h1]; rfl, F.step h2, h2.step.toL, h3⟩)
end
end Mine
end
section
namespace Mine
open PySem PySem.W PyProof.Rows

theorem zip_lookup {β : Type} : ∀ (ns : List Str) (ys : List β) (i : Nat) (n : Str) (y : β), ns.Nodup → ns[i]? = some n → ys[i]? = some y → (ns.zip ys).lookup n = some y
  | m :: ns, z :: ys, 0, n, y, _, h1, h2 => by
    simp at h1 h2; subst h1; subst h2
    rw [List.zip_cons_cons, List.lookup_cons, beq_self_eq_true]
  | m :: ns, z :: ys, i + 1, n, y, hd, h1, h2 => by
    simp only [List.getElem?_cons_succ] at h1 h2
    rw [List.zip_cons_cons, List.lookup_cons]
    have hne : (n == m) = false := by
      rw [beq_eq_false_iff_ne]
      rintro rfl
      exact (List.nodup_cons.mp hd).1 (List.mem_of_getElem? h1)
    rw [hne]
    exact zip_lookup ns ys i n y (List.nodup_cons.mp hd).2 h1 h2
  | [], _, _, _, _, _, h1, _ => by simp at h1
  | _ :: _, [], _, _, _, _, _, h2 => by simp at h2

theorem filterMap_zip {β : Type} (l : List (Str × β)) : ∀ (ns : List Str) (ys : List β), ns.length = ys.length → (∀ (i : Nat) n y, ns[i]? = some n → ys[i]? = some y → l.lookup n = some y) → (ns.filterMap fun n => (l.lookup n).map (n, ·)) = ns.zip ys
  | [], [], _, _ => rfl
  | n :: ns, y :: ys, hl, h => by
    rw [List.filterMap_cons, h 0 n y rfl rfl]
    simp only [Option.map_some, List.zip_cons_cons]
    rw [filterMap_zip l ns ys (by simpa using hl) fun i n y h1 h2 => h (i + 1) n y (by simpa using h1) (by simpa using h2)]
  | [], _ :: _, hl, _ => by simp at hl
  | _ :: _, [], hl, _ => by simp at hl

theorem bind_eq {fd : FuncData} {ys : List Value} (h1 : fd.params.posonlyargs = []) (h2 : fd.params.kwonlyargs = []) (h3 : fd.params.vararg = none) (h4 : fd.params.kwarg = none) (h5 : fd.defaults = .none) (hn : (parNames fd.params).Nodup) (hl : (parNames fd.params).length = ys.length) :
    bindArgs fd ⟨ys, []⟩ = pure ((parNames fd.params).zip ys) := by
  have hs : ∀ n ∈ parNames fd.params, (((parNames fd.params).zip ys).lookup n).isNone = false := fun n hm => by
    obtain ⟨i, hi, rfl⟩ := List.mem_iff_getElem.mp hm
    rw [zip_lookup _ ys i _ (ys[i]'(by omega)) hn (List.getElem?_eq_getElem hi) (List.getElem?_eq_getElem (by omega))]; rfl
  have hm : ((parNames fd.params).filter fun n => (((parNames fd.params).zip ys).lookup n).isNone) = [] := by
    rw [List.filter_eq_nil_iff]
    intro n hn'; rw [hs n hn']; decide
  have hf := filterMap_zip ((parNames fd.params).zip ys) (parNames fd.params) ys hl fun i n y a b => zip_lookup _ _ i n y hn a b
  have hg : ¬ (ys.length > (parNames fd.params).length) := by omega
  unfold parNames at *
  unfold bindArgs
  have pb : ∀ {α β : Type} (a : α) (f : α → Sem β), ((pure a : Sem α) >>= f) = f a := fun _ _ => rfl
  have ns : notAStandIn Value.none = pure () := rfl
  simp only [h1, h2, h3, h4, h5, List.map_nil, List.nil_append, List.append_nil, List.forIn_nil, seqItems?, ns, pb, Option.getD_none, List.drop_nil, List.length_nil, Nat.sub_zero, List.take_length, List.drop_length, List.zip_nil_left, List.zip_nil_right, hm, hf,
    List.isEmpty_nil, Bool.not_true, Bool.false_eq_true, if_false, hg, decide_false, Bool.false_and]
end Mine
end
section
namespace Mine
open PySem PySem.W PyProof.Rows

section
variable {T : St} {N : Nm} {A A₂ : Around} {L : Addr} {q : Bool} {d : Nat} {φ φ' : Phi} {η η' : H} {s s' : Shared} {h : Heap} {env : Env} {sc : Scope} {Γ : Gam} {ρ : Rho}

theorem cells_at : ∀ (names : List (Str × NameKind)) (h : Heap) (lo : Nat) (acc : List (Str × Addr)), (∀ n c, (n, c) ∈ acc → h.get? c = some { cls := .type "cell", data := .cell none } ∧ lo ≤ c) → lo ≤ h.objs.size →
    ∀ n c, (n, c) ∈ cellsFrom h.objs.size names acc → (pushCells h names).get? c = some { cls := .type "cell", data := .cell none } ∧ lo ≤ c
  | [], _, _, _, x, _ => x
  | (name, kind) :: r, h, lo, acc, x, hlo => by
    unfold pushCells cellsFrom
    split
    · have := cells_at r (h.push { cls := .type "cell", data := .cell none }) lo ((name, h.objs.size) :: acc) (fun n c hm => by
          rcases List.mem_cons.mp hm with e | hm
          · cases e; exact ⟨Heap.get?_push_size _ rfl, hlo⟩
          · exact ⟨Heap.get?_push_of_some _ (x n c hm).1, (x n c hm).2⟩) (by rw [Heap.size_push]; omega)
      rwa [Heap.size_push] at this
    · exact cells_at r h lo acc x hlo
theorem cells_acc : ∀ (names : List (Str × NameKind)) (k : Nat) (acc : List (Str × Addr)) (n : Str), (acc.lookup n).isSome = true → ((cellsFrom k names acc).lookup n).isSome = true
  | [], _, _, _, h => h
  | (m, kind) :: r, k, acc, n, h => by
    unfold cellsFrom
    split
    · refine cells_acc r _ _ n ?_
      rw [List.lookup_cons]
      cases n == m
      · exact h
      · rfl
    · exact cells_acc r k acc n h
theorem cells_has : ∀ (names : List (Str × NameKind)) (k : Nat) (acc : List (Str × Addr)) (n : Str), (n, NameKind.cell) ∈ names → ((cellsFrom k names acc).lookup n).isSome = true
  | (m, kind) :: r, k, acc, n, h => by
    unfold cellsFrom
    rcases List.mem_cons.mp h with e | h
    · cases e
      rw [if_pos (by decide)]
      refine cells_acc r _ _ _ ?_
      rw [List.lookup_cons, beq_self_eq_true]; rfl
    · split
      · exact cells_has r _ _ n h
      · exact cells_has r _ _ n h

theorem nodup_inj : ∀ {Γ : Gam}, nodupN (Γ.map (·.2)) = true → ∀ n n' i, Γ.lookup n = some i → Γ.lookup n' = some i → n = n'
  | [], _, _, _, _, h, _ => by cases h
  | (m, j) :: r, hd, n, n', i, h1, h2 => by
    rw [List.map_cons, nodupN, Bool.and_eq_true, Bool.not_eq_true'] at hd
    have notin : ∀ k, r.lookup k = some j → False := fun k hk => by
      have := List.mem_map_of_mem (f := (·.2)) (mem_lookup hk)
      have h3 : (r.map (·.2)).contains j = true := by rw [List.contains_iff_mem]; exact this
      rw [h3] at hd; cases hd.1
    rw [List.lookup_cons] at h1 h2
    cases hb : n == m with
    | true =>
      rw [hb] at h1; cases h1
      cases hb' : n' == m with
      | true => rw [beq_iff_eq.mp hb, beq_iff_eq.mp hb']
      | false => rw [hb'] at h2; exact (notin n' h2).elim
    | false =>
      rw [hb] at h1
      cases hb' : n' == m with
      | true => rw [hb'] at h2; cases h2; exact (notin n h1).elim
      | false => rw [hb'] at h2; exact nodup_inj hd.2 n n' i h1 h2

theorem par_nodup : ∀ (ns : List Str) (k : Nat), parOk sc Γ k ns = true → ns.Nodup
  | [], _, _ => List.nodup_nil
  | n :: r, k, h => by
    unfold parOk at h
    simp only [Bool.and_eq_true, Bool.not_eq_true'] at h
    refine List.nodup_cons.mpr ⟨fun hm => ?_, par_nodup r (k + 1) h.2⟩
    rw [← List.contains_iff_mem, h.1.2] at hm; cases hm

/-- the parameters get their values -/
theorem store_pars {A' : Around} {E : Value → Shared → Prop} {Q : PUnit → Shared → Prop} {s₀ : Shared} {φ₀ : Phi} {η₀ : H} (f : Str × Value → PUnit → Sem (ForInStep PUnit)) (hf : ∀ n v u, f (n, v) u = (do storeName env n v; pure (.yield ⟨⟩))) :
    ∀ (ns : List Str) (vs : List V) (ys : List Value) (dn : Rho) (m : Nat) (s₁ : Shared), parOk sc Γ dn.length ns = true → ns.length = vs.length → VRs T φ (own φ η) s₁.heap vs ys → ns.length ≤ m →
      FS true T A' L φ₀ η₀ s₀ φ η s₁ env sc Γ (dn ++ List.replicate m none) →
      (∀ s₂, FS true T A' L φ₀ η₀ s₀ φ η s₂ env sc Γ (dn ++ vs.map some ++ List.replicate (m - ns.length) none) → Q ⟨⟩ s₂) → wpAny T.M A₂ (forIn (ns.zip ys) ⟨⟩ f) Q E s₁
  | [], [], ys, dn, m, s₁, _, _, r, _, F, h => by
    rw [List.zip_nil_left, List.forIn_nil]
    refine wpAny_pure (h s₁ ?_)
    simpa using F
  | n :: ns, v :: vs, ys, dn, m, s₁, hp, hl, r, hm, F, h => by
    simp only [VRs] at r
    obtain ⟨y, yr, rfl, r1, r2⟩ := r
    unfold parOk at hp
    simp only [Bool.and_eq_true, beq_iff_eq] at hp
    rw [List.zip_cons_cons, List.forIn_cons, hf]
    refine wpAny_bind (wpAny_bind (F.store hp.1.1.1 (loc_store hp.1.1.2) r1 fun s₂ F₂ _ _ hv => wpAny_pure ?_))
    have e : (dn ++ List.replicate m none).set dn.length (some v) = (dn ++ [some v]) ++ List.replicate (m - 1) none := by
      obtain ⟨k, rfl⟩ : ∃ k, m = k + 1 := ⟨m - 1, by simp at hm; omega⟩
      rw [List.set_append_right _ _ (Nat.le_refl _), Nat.sub_self, List.replicate_succ, List.set_cons_zero, Nat.add_sub_cancel, List.append_assoc]; rfl
    rw [e] at F₂
    refine store_pars f hf ns vs yr (dn ++ [some v]) (m - 1) s₂ (by rw [List.length_append]; exact hp.2) (by simpa using hl) (hv _ _ r2) (by simp at hm; omega) F₂ fun s₃ F₃ => h s₃ ?_
    have e2 : m - 1 - ns.length = m - (n :: ns).length := by simp; omega
    rw [e2] at F₃
    simpa using F₃
  | [], _ :: _, _, _, _, _, _, hl, _, _, _, _ => by simp at hl
  | _ :: _, [], _, _, _, _, _, hl, _, _, _, _ => by simp at hl

/-- what a function's text is known to be -/
structure FnOk (N : Nm) (F : Fn) (Γ : Gam) (fd : FuncData) : Prop where
  body : ∃ b, fd.body = .stmts b ∧ chkSs N fd.scope Γ F.body b = true
  kind : fd.scope.kind = .function
  gen : fd.scope.isGenerator = false
  cor : fd.scope.isCoroutine = false
  clo : fd.closure = []
  glob : fd.globals = mainGlobals
  bi : fd.builtins = builtinsNs
  pos : fd.params.posonlyargs = []
  var : fd.params.vararg = none
  kwo : fd.params.kwonlyargs = []
  kwa : fd.params.kwarg = none
  npar : (parNames fd.params).length = F.npar
  par : parOk fd.scope Γ 0 (parNames fd.params) = true
  dup : nodupN (Γ.map (·.2)) = true
  nloc : F.npar ≤ F.nloc
  dfl : fd.defaults = .none
theorem fn_ok {F : Fn} {fd : FuncData} (h : chkF N F Γ fd = true) : FnOk N F Γ fd := by
  unfold chkF at h
  simp only [Bool.and_eq_true, beq_iff_eq, Bool.not_eq_true', List.isEmpty_iff, Option.isNone_iff_eq_none, decide_eq_true_eq] at h
  obtain ⟨⟨⟨⟨⟨⟨⟨⟨⟨⟨⟨⟨⟨⟨⟨h1, h2⟩, h3⟩, h4⟩, h5⟩, h6⟩, h7⟩, h8⟩, h9⟩, h10⟩, h11⟩, h12⟩, h13⟩, h14⟩, h15⟩, h16⟩ := h
  refine ⟨?_, h2, h3, h4, h5, h6, h7, h8, h9, h10, h11, h12, h13, h14, h15, ?_⟩
  · split at h1
    · rename_i b hb; exact ⟨b, hb, h1⟩
    · cases h1
  · unfold isNoneV at h16
    split at h16
    · assumption
    · cases h16

/-- a function's frame -/
theorem new_env {F : Fn} {fd : FuncData} {vs : List V} {ys : List Value} {qual : Str} {a : Addr} {Q : Env → Shared → Prop} {E : Value → Shared → Prop} {l : List Env} (O : FnOk N F Γ fd) (R : Rel T φ η s.heap) (hv : VRs T φ (own φ η) s.heap vs ys) (hl : vs.length = F.npar)
    (hfr : A.frames = some l) (hst : Stk T φ η l s.heap)
    (h : ∀ env L s₁, FS true T (A.deeper env) L φ η s φ η s₁ env fd.scope Γ (vs.map some ++ List.replicate (F.nloc - F.npar) none) → Q env s₁) :
    wpAny T.M A₂ (newFunctionEnv fd.scope fd.globals fd.closure ((parNames fd.params).zip ys) qual (some a) fd.code none fd.builtins) Q E s := by
  rw [O.clo]
  simp only [newFunctionEnv, Option.isSome_none, Bool.false_eq_true, if_false]
  refine wpAny_bind (wpAny_alloc ?_)
  refine wpAny_bind (wpAny_layCells _ (fun name kind cells => by cases hkc : kind == NameKind.cell <;> simp [hkc]) _ _ _ _ ?_)
  generalize hH : s.heap.push { cls := .type "frame", data := .dict #[] } = HF
  have hsz : HF.objs.size = s.heap.objs.size + 1 := by rw [← hH, Heap.size_push]
  have ats := cells_at fd.scope.names HF (s.heap.objs.size + 1) [] (fun _ _ hm => (nomatch hm)) (by omega)
  have oks := (cellsFrom_ok fd.scope.names HF (s.heap.objs.size + 1) [] ⟨fun _ _ hm => (nomatch hm), List.Pairwise.nil⟩ (by omega)).apart
  have kp : ∀ b o, s.heap.get? b = some o → (pushCells HF fd.scope.names).get? b = some o := fun b o e => pushCells_keeps _ _ b o (hH ▸ Heap.get?_push_of_some _ e)
  have gL : (pushCells HF fd.scope.names).get? s.heap.objs.size = some { cls := .type "frame", data := .dict #[] } := pushCells_keeps _ _ _ _ (hH ▸ Heap.get?_push_size _ rfl)
  have zL : s.heap.get? s.heap.objs.size = none := Heap.get?_none_of_le (Nat.le_refl _)
  have zc : ∀ n c, (cellsFrom HF.objs.size fd.scope.names []).lookup n = some c → s.heap.get? c = none := fun n c e => Heap.get?_none_of_le (by have := (ats n c (mem_lookup e)).2; omega)
  have P₁ : Post T φ η s φ η { s with heap := pushCells HF fd.scope.names } := Post.grown (k := s.toks) R kp
  have nsL : NsAt (pushCells HF fd.scope.names) s.heap.objs.size "frame" (fun _ => none) := ⟨(hH ▸ Heap.Ns.new s.heap (.type "frame")).keeps (pushCells_keeps _ _), _, gL, rfl⟩
  have FS₁ : FS true T (A.deeper { scope := fd.scope, locals := s.heap.objs.size, globals := fd.globals, cells := cellsFrom HF.objs.size fd.scope.names [], qual := qual, func := some a, code := fd.code, frame := some s.heap.objs.size, builtins := fd.builtins }) s.heap.objs.size φ η s φ η { s with heap := pushCells HF fd.scope.names }
      { scope := fd.scope, locals := s.heap.objs.size, globals := fd.globals, cells := cellsFrom HF.objs.size fd.scope.names [], qual := qual, func := some a, code := fd.code, frame := some s.heap.objs.size, builtins := fd.builtins } fd.scope Γ ([] ++ List.replicate F.nloc none) := by
    refine ⟨P₁, ⟨rfl, O.kind, O.glob, O.bi, rfl, ⟨"frame", _, nsL, .inl rfl, fun n i v _ _ hr => ?_⟩, fun n i _ hk => ?_, ⟨own_none R zL, base_none R zL⟩, fun n c e => ⟨none, _, (ats n c (mem_lookup e)).1, rfl, rfl⟩, fun n c e => ⟨own_none R (zc n c e), base_none R (zc n c e)⟩, fun n n' c e e' => name_of_addr oks (mem_lookup e) (mem_lookup e'), nodup_inj O.dup⟩,
      ⟨_, l, by show A.frames.map _ = _; rw [hfr]; rfl, rfl, ?_⟩, zL, fun _ n c e => zc n c e⟩
    · rw [List.nil_append, List.getElem?_replicate] at hr
      split at hr <;> cases hr
    · obtain ⟨c, hc⟩ := Option.isSome_iff_exists.mp (cells_has fd.scope.names HF.objs.size [] n (mem_lookup hk))
      refine ⟨c, none, hc, ⟨_, (ats n c (mem_lookup hc)).1, rfl, rfl⟩, fun v hr => ?_⟩
      rw [List.nil_append, List.getElem?_replicate] at hr
      split at hr <;> cases hr
    · intro e he
      rcases List.mem_cons.mp he with rfl | he
      · exact ⟨by rw [show ({ scope := fd.scope, locals := s.heap.objs.size, globals := fd.globals, cells := cellsFrom HF.objs.size fd.scope.names [], qual := qual, func := some a, code := fd.code, frame := some s.heap.objs.size, builtins := fd.builtins } : Env).scope.kind = .function from O.kind]; decide, s.heap.objs.size, _, rfl, base_none R zL, own_none R zL, gL, rfl, #[], _, rfl⟩
      · exact (hst.step P₁.step) e he
  refine wpAny_bind (store_pars _ (fun _ _ _ => rfl) (parNames fd.params) vs ys [] F.nloc _ O.par (by rw [O.npar, hl]) (VRs.step P₁.step _ _ hv) (by rw [O.npar]; exact O.nloc) FS₁ fun s₂ F₂ => wpAny_pure (h _ s.heap.objs.size s₂ ?_))
  rw [O.npar, List.nil_append] at F₂
  exact F₂

/-- the program's functions -/
structure Cod (T : St) (N : Nm) (G : Gd T N) where
  gam : Nat → Gam
  fd : Nat → FuncData
  fns : ∀ f F, T.P.fn f = some F → (∃ o, G.K.lookup (G.fn f) = some o ∧ o.data = .func (fd f)) ∧ chkF N F (gam f) (fd f) = true ∧ codeIn G.K (fd f).code (fd f).qualname = true

theorem R.fin_fail {p : Bool} : fin p η R.fail = .fail := by cases p <;> rfl

/-- a function's call -/
theorem sim_fn0 (G : Gd T N) (Cd : Cod T N G) {f : Nat} {F : Fn} (hF : T.P.fn f = some F) (hb : ∀ b, chkSs N (Cd.fd f).scope (Cd.gam f) F.body b = true → SimSs T q d (callN T.P d) (Cd.fd f).scope (Cd.gam f) F.body b) {vs : List V} {ys : List Value}
    {l : List Env} (Xh : q = true → A.handled = none) (Xd : A.depth + 4 * (d + 1) + 4 ≤ recursionLimit) (Xu : A.units + 20 * (d + 1) + 20 < cLine) (hfr : A.frames = some l) (hst : Stk T φ η l s.heap) (XR' : Rel T φ η s.heap) (hv : VRs T φ (own φ η) s.heap vs ys) :
    callN T.P (d + 1) q f vs η = .fail ∨ codeAny T.M A (.call (.ref (G.fn f)) ⟨ys, []⟩) (fun res s' => match res with
      | .ok (.ret x) => SOk T φ η s (callN T.P (d + 1) q f vs η) (QV T) x s'
      | .ok _ => False
      | .error e => SEx T L φ η s (callN T.P (d + 1) q f vs η) e s') s := by
  obtain ⟨⟨o, ho, hd⟩, hck, hcode⟩ := Cd.fns f F hF
  have O := fn_ok hck
  obtain ⟨b, hbody, hchk⟩ := O.body
  by_cases hl : vs.length = F.npar
  case neg => left; rw [callN, hF]; exact if_neg hl
  have ec : callN T.P (d + 1) q f vs η = fin F.pure η (ofRS (evSs T.P (callN T.P d) q F.body (vs.map some ++ List.replicate (F.nloc - F.npar) none) η)) := by rw [callN, hF]; exact if_pos hl
  rw [ec]
  have KI := G.here XR'
  have hys : ys.length = vs.length := VRs.length hv
  by_cases hfail : fin F.pure η (ofRS (evSs T.P (callN T.P d) q F.body (vs.map some ++ List.replicate (F.nloc - F.npar) none) η)) = .fail
  · exact .inl hfail
  right
  refine codeAny_call_function (by omega) (KI _ _ ho) hd O.cor O.gen hbody (codeRec_of KI hcode) ?_
  rw [bind_eq O.pos O.kwo O.var O.kwa O.dfl (par_nodup _ _ O.par) (by rw [O.npar, hys, hl])]
  refine wpAny_pure (new_env O XR' hv hl hfr hst fun env L' s₁ F₁ => ⟨T.nolim.keeps F₁.post.rel.base, codeAny_func ?_⟩)
  have X' : Sta (A.deeper env) q d := ⟨Xh, by show A.depth + 1 + 4 * d + 4 ≤ _; omega, by show A.units + 3 + 20 * d + 20 < _; omega⟩
  rcases hb b hchk (A.deeper env) L' φ η s φ η s₁ env _ X' F₁ with hh | hh
  · rw [hh] at hfail
    exact absurd R.fin_fail hfail
  have ends : ∀ v φ' η' s' (y : Value), Post T φ η s φ' η' s' → VR T φ' (own φ' η') s'.heap v y → evSs T.P (callN T.P d) q F.body (vs.map some ++ List.replicate (F.nloc - F.npar) none) η = .next (vs.map some) η' ∨ True → ofRS (evSs T.P (callN T.P d) q F.body (vs.map some ++ List.replicate (F.nloc - F.npar) none) η) = .ok v η' →
      SOk T φ η s (fin F.pure η (ofRS (evSs T.P (callN T.P d) q F.body (vs.map some ++ List.replicate (F.nloc - F.npar) none) η))) (QV T) y s' := by
    intro v φ' η' s' y p r _ e
    rw [e] at hfail ⊢
    unfold fin at hfail ⊢
    split
    · rename_i hp
      rw [if_pos hp] at hfail
      dsimp only at hfail ⊢
      split
      · rename_i hc
        exact ⟨v, η, φ, rfl, p.cut XR' hc.1, p.cutV XR' hc.1 r hc.2⟩
      · rename_i hc
        rw [if_neg hc] at hfail
        exact absurd rfl hfail
    · exact ⟨v, η', φ', rfl, p, r⟩
  refine wpAny_mono hh (fun fl s' ⟨φ', η', ρ', h4, F', _⟩ => ?_) fun e s' ⟨c, φ', η', ρ', h4, F', _, xr⟩ => ?_
  · rcases h4 with ⟨h4, rfl⟩ | ⟨v, y, h4, rfl, r⟩
    · exact ends .none φ' η' s' .none F'.post (by simp [VR]) (.inr trivial) (by rw [h4]; rfl)
    · exact ends v φ' η' s' y F'.post r (.inr trivial) (by rw [h4]; rfl)
  · obtain ⟨a, rfl, rz⟩ := xr
    obtain ⟨top', outer', hfr', htop', hst'⟩ := F'.stk
    refine leaves hfr' htop' hst' F'.fr.frame F'.post.rel rz fun s'' p'' rz'' => ?_
    have p := F'.post.trans p''
    rw [h4] at hfail ⊢
    show SEx T L φ η s (fin F.pure η (.exc c η')) (.ref a) s''
    change fin F.pure η (.exc c η') ≠ .fail at hfail
    unfold fin at hfail ⊢
    split
    · rename_i hp
      rw [if_pos hp] at hfail
      dsimp only at hfail ⊢
      split
      · rename_i hc
        exact ⟨c, η, φ, rfl, p.cut XR' hc, a, rfl, rz'' L⟩
      · rename_i hc
        rw [if_neg hc] at hfail
        exact absurd rfl hfail
    · exact ⟨c, η', φ', rfl, p, a, rfl, rz'' L⟩

theorem sim_fn (G : Gd T N) (Cd : Cod T N G) {f : Nat} {F : Fn} (hF : T.P.fn f = some F) (hb : ∀ b, chkSs N (Cd.fd f).scope (Cd.gam f) F.body b = true → SimSs T q d (callN T.P d) (Cd.fd f).scope (Cd.gam f) F.body b) {vs : List V} {ys : List Value}
    (X : Cxt T A L q (d + 1) φ η s) (hv : VRs T φ (own φ η) s.heap vs ys) : Sim T A L φ η s (PySem.call (.ref (G.fn f)) ys) (callN T.P (d + 1) q f vs η) (QV T) := by
  obtain ⟨top, outer, hfr, htop, hst⟩ := X.stk
  exact (sim_fn0 G Cd hF hb X.hand X.depth X.units hfr hst X.rel hv).imp id fun h => wpAny_call h
end
end Mine
end
section
namespace Mine
open PySem PySem.W PySem.Calls PyProof.Rows

section
variable {T : St} {N : Nm} {A : Around} {L : Addr} {q : Bool} {d : Nat} {φ φ' : Phi} {η η' : H} {s s' : Shared} {env : Env} {sc : Scope} {Γ : Gam} {ρ : Rho} {α β : Type} {call : Nat → List V → H → R V}

theorem Sim.base {o : Expr} {name : Str} {t : Sem Value} {r : R β} {Q : QR Value β} (ho : notSuper o = true) (h : Sim T A L φ η s t r Q) : Sim T A L φ η s (attributeBase o name env t) r Q := h.imp id fun h => by
  unfold attributeBase
  split
  · rename_i id _ _
    unfold notSuper at ho
    simp only [Bool.not_eq_true', beq_eq_false_iff_ne, ne_eq] at ho
    have : (id != ("super" : Str)) = true := bne_iff_ne.mpr ho
    rw [this]
    simp only [Bool.true_or, if_true]
    exact h
  · exact h

theorem args_form {xs : List Expr} {pos : Pos} (hp : plainArgs xs) (hl : xs.length < 30) : methodCallForm (xs.length + 0) (backTo pos (starEach xs env)) [] = true := by
  unfold methodCallForm
  have : (backTo pos (starEach xs env)).all (!·.1) = true := by
    have := (args_plain (env := env) (pos := pos) hp).1
    rw [List.all_eq_not_any_not]
    simp only [Bool.not_not]
    rw [this]; rfl
  rw [this]
  simp; omega

theorem e_bm {m : Bm} {o : E} {args : List E} {x : Expr} {name : Str} {apos pos : Pos} {xs : List Expr} (hm : (bmName m == name) = true) (hpos : (apos.endLine == pos.line) = true) (hl : xs.length < 30) (ho : notSuper x = true) (hp : plainArgs xs)
    (h1 : SimE T q d call sc Γ o x) (h2 : SimEs T q d call sc Γ args xs) : SimE T q d call sc Γ (.bm m o args) (.Call (.Attribute x name apos) xs [] pos) := by
  intro A L φ η s env ρ X F
  rw [beq_iff_eq] at hm; subst hm
  rw [arm_eval_Call]
  refine Sim.bind (Sim.base ho (h1 A L φ η s env ρ X F)) fun v η' φ' y s' _ p hq => .standAt ?_
  split
  case isFalse => exact .fail
  rename_i hok
  obtain ⟨pa, slot, hty⟩ := bm_slot hok
  obtain ⟨hT, hd⟩ := kind_type p.rel hok hq
  have form : methodCallForm (xs.length + ([] : List Keyword).length) (backTo pos (starEach xs env)) (backToKw pos (keywordEach [] env)) = true := args_form hp hl
  have X' := X.step p
  have main : Sim T A L φ' η' s' (callWith pos (.builtin (bmId m (kindM η' v)).2) [y] (backTo pos (starEach xs env)) []) ((evEs T.P q call args ρ η').bind fun vs h' => if kindM h' v = kindM η' v then bmV m h' v vs else .fail) (QV T) := by
    refine sim_callWith keep_builtin hp h2 X' (F.step p.step) fun vs η'' φ'' ys s'' _ p' hv => ?_
    split
    case isFalse => exact .fail
    rename_i hk
    have := sim_bm (A := A) (L := L) m p'.rel (by have := X.units; omega) (VR.step p'.step _ _ hq) hv (by rw [hk]; exact hok)
    rw [hk] at this
    exact this
  refine main.imp id fun w => ?_
  unfold methodCall
  rw [form]
  refine wpAny_bind (wpAny_holding ?_)
  unfold calleeOf
  rw [if_pos rfl]
  refine getMethod_builtin hT pa slot hty hd ?_
  refine wpAny_bind ?_
  unfold methodCallPos
  rw [hpos]
  exact wpAny_pure w

theorem e_neg {v : V} {j : Int} {k : Nat} {p pos : Pos} (h : constEq v (.int (-j)) = true) : SimE T q d call sc Γ (.const v) (.UnaryOp .USub (.Constant (.int j) k p) pos) := by
  intro A L φ η s env ρ X F
  have h := constEq_eq h
  subst h
  rw [eval_UnaryOp]
  refine .ok rfl (wpAny_bind (wpAny_Constant_int (wpAny_bind (wpAny_standAt (wpAny_holding (P.neg_int ⟨φ, .toks X.rel, by simp [QV, VR]⟩))))))

/-- a table's entries -/
noncomputable def TabR : List (List Nat × List Nat) → List DictEntry → Prop
  | [], es => es = []
  | (k, v) :: r, es => ∃ e es' t u, es = e :: es' ∧ e.key = .str ⟨k.toArray⟩ t ∧ e.val = .str ⟨v.toArray⟩ u ∧ TabR r es'
structure Tbs (T : St) (N : Nm) (G : Gd T N) : Prop where
  tab : ∀ (t : Nat) (n : Str) (tb : List (List Nat × List Nat)), N.tbm[t]? = some n → T.P.tabs[t]? = some tb → ∃ a es k, nsIn G.K mainGlobals n = some (some (.ref a)) ∧ G.K.lookup a = some ⟨.type "dict", none, .dict es k, #[]⟩ ∧ KeysLit T.w.params es.toList ∧ TabR tb es.toList ∧ (a == sysModules) = false

theorem str_eq {a b : List Nat} : ((⟨a.toArray⟩ : Str) == ⟨b.toArray⟩) = (a == b) := by
  by_cases h : a = b
  · subst h; simp
  · have : (⟨a.toArray⟩ : Str) ≠ ⟨b.toArray⟩ := fun q => h (by injection q with q; simpa using q)
    rw [beq_eq_false_iff_ne.mpr this, beq_eq_false_iff_ne.mpr h]
theorem tab_find {sg : List Nat} : ∀ (tb : List (List Nat × List Nat)) (es : List DictEntry), TabR tb es → (∀ p, tb.find? (fun p => p.1 == sg) = some p → ∃ u, (es.find? fun e => Value.isStrOf ⟨sg.toArray⟩ e.key).map (·.val) = some (.str ⟨p.2.toArray⟩ u)) ∧
    ((es.find? fun e => Value.isStrOf ⟨sg.toArray⟩ e.key).map (·.val)).isSome = (tb.any fun p => p.1 == sg)
  | [], es, h => by
    simp only [TabR] at h; subst h
    exact ⟨fun p e => by simp at e, rfl⟩
  | (k, v) :: r, es, h => by
    simp only [TabR] at h
    obtain ⟨e, es', t, u, rfl, hk, hv, hr⟩ := h
    have ih := tab_find (sg := sg) r es' hr
    have e1 : Value.isStrOf ⟨sg.toArray⟩ e.key = (k == sg) := by rw [hk]; exact str_eq
    rw [List.find?_cons, List.find?_cons, List.any_cons, e1]
    cases hb : k == sg with
    | true => exact ⟨fun p ep => by cases ep; exact ⟨u, by rw [Option.map_some, hv]⟩, rfl⟩
    | false => exact ⟨ih.1, by rw [Bool.false_or]; exact ih.2⟩

theorem tab_map (G : Gd T N) (R : Rel T φ η s.heap) {a : Addr} {es : Array DictEntry} {k : Nat} (hl : G.K.lookup a = some ⟨.type "dict", none, .dict es k, #[]⟩) (hk : KeysLit T.w.params es.toList) : s.heap.MapOf (strKind T.prog T.w) a (fun k => findBy Value.isStrOf es k) := mapOf_K (prog := T.prog) (G.here R) hl hk
theorem find_list {es : Array DictEntry} {k : Str} : findBy Value.isStrOf es k = (es.toList.find? fun e => Value.isStrOf k e.key).map (·.val) := by
  obtain ⟨l⟩ := es
  unfold findBy
  rw [List.find?_toArray]

theorem sim_inTab (G : Gd T N) (Tb : Tbs T N G) {neg : Bool} {t : Nat} {n : Str} {v : V} {y : Value} (hn : atName N.tbm t n = true) (R : Rel T φ η s.heap) (hq : QV T φ η s.heap v y) {tb : List (List Nat × List Nat)} (et : T.P.tabs[t]? = some tb) :
    ∃ a, nsIn G.K mainGlobals n = some (some (.ref a)) ∧ Sim T A L φ η s (compareOp (if neg then .NotIn else .In) y (.ref a)) (match (match v with | .str s => some ((tb.any fun p => p.1 == s) != neg) | _ => none) with | some b => .ok (.bool b) η | none => .fail) (QV T) := by
  obtain ⟨a, es, k, h1, h2, h3, h4, h5⟩ := Tb.tab t n tb (at_name hn).1 et
  refine ⟨a, h1, ?_⟩
  cases v with
  | str sg =>
    simp only [QV, VR] at hq
    obtain ⟨tk, rfl⟩ := hq
    have hm := tab_map G R h2 h3
    have hfind := (tab_find (sg := sg) tb es.toList h4).2
    have hb : (findBy Value.isStrOf es ⟨sg.toArray⟩).isSome = (tb.any fun p => p.1 == sg) := by rw [find_list]; exact hfind
    refine .ok rfl ?_
    cases neg with
    | true => exact wpAny_notIn_of (strKind_is _ _ _ _) h5 hm ⟨φ, .toks R, by rw [hb]; simp [QV, VR]⟩
    | false => exact wpAny_in_of (strKind_is _ _ _ _) h5 hm ⟨φ, .toks R, by rw [hb]; simp [QV, VR]⟩
  | _ => exact .fail

theorem tab_ev {neg : Bool} {t : Nat} {v : V} {tb : List (List Nat × List Nat)} (et : T.P.tabs[t]? = some tb) : (match v, T.P.tabs[t]? with | .str s, some tb => R.ok (V.bool ((tb.any fun p => p.1 == s) != neg)) η | _, _ => R.fail) =
    (match (match v with | .str s => some ((tb.any fun p => p.1 == s) != neg) | _ => none) with | some b => .ok (.bool b) η | none => .fail) := by
  rw [et]; cases v <;> rfl

theorem e_inTab (G : Gd T N) (Tb : Tbs T N G) {neg : Bool} {t : Nat} {a : E} {n : Str} {p pos : Pos} {l : Expr} (hn : atName N.tbm t n = true) (hg : isGlo sc n = true) (h : SimE T q d call sc Γ a l) :
    SimE T q d call sc Γ (.inTab neg t a) (.Compare l [if neg then .NotIn else .In] [.Name n p] pos) := by
  intro A L φ η s env ρ X F
  show Sim T A L φ η s (do compareChain pos (← eval l env) [if neg then .NotIn else .In] [markedBehindIn (if neg then .NotIn else .In) (.Name n p) (eval (.Name n p) env)]) _ _
  rw [marked_off rfl]
  refine Sim.bind (h A L φ η s env ρ X F) fun v η' φ' y s' _ pp hq => ?_
  cases et : T.P.tabs[t]? with
  | none => left; cases v <;> rfl
  | some tb =>
    obtain ⟨ad, hns, hs⟩ := sim_inTab (A := A) (L := L) G Tb (neg := neg) hn pp.rel hq et
    rw [← tab_ev et, et] at hs
    have goal := Sim.standAt (p := pos) (k := fun _ => PySem.operate [y, .ref ad] (compareOp (if neg then .NotIn else .In) y (.ref ad))) (Sim.operate hs)
    exact goal.imp id fun w => wpAny_bind (wpAny_holding (name_glob G pp.rel (F.step pp.step) hg hns w))

theorem c_inTab (G : Gd T N) (Tb : Tbs T N G) {neg : Bool} {t : Nat} {a : E} {n : Str} {p pos : Pos} {l : Expr} (hn : atName N.tbm t n = true) (hg : isGlo sc n = true) (h : SimE T q d call sc Γ a l) :
    SimC T q d call sc Γ (.t (.inTab neg t a)) (.Compare l [if neg then .NotIn else .In] [.Name n p] pos) := by
  intro A L φ η s env ρ X F
  show Sim T A L φ η s (do testChain pos (← eval l env) [if neg then .NotIn else .In] [markedBehindIn (if neg then .NotIn else .In) (.Name n p) (eval (.Name n p) env)]) _ _
  rw [marked_off rfl]
  have e1 : evC T.P q call (.t (.inTab neg t a)) ρ η = (evE T.P q call a ρ η).bind fun x h => (match x, T.P.tabs[t]? with | .str s, some tb => R.ok (V.bool ((tb.any fun p => p.1 == s) != neg)) h | _, _ => R.fail).bind fun v h => match truth h v with | some b => .ok b h | none => .fail := by
    show ((evE T.P q call a ρ η).bind _).bind _ = _
    cases evE T.P q call a ρ η <;> rfl
  rw [e1]
  refine Sim.bind (h A L φ η s env ρ X F) fun v η' φ' y s' _ pp hq => ?_
  cases et : T.P.tabs[t]? with
  | none => left; cases v <;> rfl
  | some tb =>
    obtain ⟨ad, hns, hs⟩ := sim_inTab (A := A) (L := L) G Tb (neg := neg) hn pp.rel hq et
    have goal := Sim.standAt (p := pos) (k := fun _ => PySem.operate [y, .ref ad] (compareOp (if neg then .NotIn else .In) y (.ref ad)) >>= fun c => PySem.holding [c] (truthy c)) (Sim.test (.operate hs))
    rw [← et, tab_ev et]
    refine (goal.cast ?_).imp id fun w => wpAny_bind (wpAny_holding (name_glob G pp.rel (F.step pp.step) hg hns w))
    cases v <;> rfl

theorem evE_subTab {P : Prog} {t : Nat} {a : E} : evE P q call (.subTab t a) ρ η = (match P.tabs[t]? with
      | some tb => (evE P q call a ρ η).bind fun x h => match x with
        | .str s => (match tb.find? fun p => p.1 == s with | some p => .ok (.str p.2) h | none => .fail)
        | _ => .fail
      | none => .fail) := rfl
theorem e_subTab (G : Gd T N) (Tb : Tbs T N G) {t : Nat} {a : E} {n : Str} {p pos : Pos} {i : Expr} (hi : notSlice i = true) (hn : atName N.tbm t n = true) (hg : isGlo sc n = true) (h : SimE T q d call sc Γ a i) :
    SimE T q d call sc Γ (.subTab t a) (.Subscript (.Name n p) i pos) := by
  intro A L φ η s env ρ X F
  rw [eval_Subscript, evE_subTab]
  cases et : T.P.tabs[t]? with
  | none => exact .fail
  | some tb =>
    obtain ⟨ad, es, k, h1, h2, h3, h4, h5⟩ := Tb.tab t n tb (at_name hn).1 et
    have main : Sim T A L φ η s (PySem.holding [.ref ad] (eval i env) >>= fun iv => PySem.standAt pos >>= fun _ => subscriptTail (.Name n p) i (.ref ad) iv) ((evE T.P q call a ρ η).bind fun x h => match x with
        | .str s => (match tb.find? fun p => p.1 == s with | some p => .ok (.str p.2) h | none => .fail)
        | _ => .fail) (QV T) := by
      refine Sim.bind (Sim.holding (h A L φ η s env ρ X F)) fun v η' φ' y s' _ pp hq => .standAt ?_
      cases v with
      | str sg =>
        dsimp only
        cases ef : tb.find? fun p => p.1 == sg with
        | none => exact .fail
        | some pr =>
          simp only [QV, VR] at hq
          obtain ⟨tk, rfl⟩ := hq
          have hm := tab_map G pp.rel h2 h3
          obtain ⟨u, hu⟩ := (tab_find (sg := sg) tb es.toList h4).1 pr ef
          exact .ok rfl (tail_any hm.typeIs slot_dict_getitem.lookup (wpAny_getItem_of (strKind_is _ _ _ _) hm (by rw [find_list]; exact hu) ⟨φ', .toks pp.rel, by simp [QV, VR]⟩) (by cases i <;> first | rfl | cases hi))
      | _ => exact .fail
    exact main.imp id fun w => wpAny_bind (name_glob G X.rel F hg h1 w)

/-- ranges -/
theorem it_of' {e : E} {x : Expr} (h : SimE T q d call sc Γ e x) : SimIt T q d call sc Γ (.of e) x := by
  intro A L φ η s env ρ X F
  exact (h A L φ η s env ρ X F).mono fun φ' η' s' v y _ _ r => .inl r

theorem it_range1 (G : Gd T N) {a : E} {n : Str} {p pos : Pos} {x : Expr} (hl : (n == ("range" : Str)) = true) (hn : isGlo sc n = true) (hp : plainArg x = true) (h : SimE T q d call sc Γ a x) : SimIt T q d call sc Γ (.range1 a) (.Call (.Name n p) [x] [] pos) := by
  intro A L φ η s env ρ X F
  rw [beq_iff_eq] at hl; subst hl
  have hs : plainArgs [x] := by unfold plainArgs; simp [hp]
  have hsp : Sim T A L φ η s (spliced (backTo pos (starEach [x] env))) (evE T.P q call a ρ η) (fun φ η h v ys => ∃ y, ys = [y] ∧ VR T φ (own φ η) h v y) := by
    rw [starEach_plain hp]
    exact (h A L φ η s env ρ X F).imp id fun w => spliced_cons (wpAny_mono w (fun y s₁ ⟨v, η', φ', e, p, r⟩ => spliced_nil ⟨v, η', φ', e, p, y, rfl, r⟩) fun _ _ z => z)
  have main := Sim.nest (Q₂ := QIt T) (k := fun a : Args => PySem.call (.type "range") ([] ++ a.pos) a.kw) (g := fun x h => match x with
      | .int n => if okR n && decide (n.toNat ≤ 100000) then R.ok (.lst ((List.range n.toNat).map fun (i : Nat) => .int i)) h else .fail
      | _ => .fail) (sim_evalArgs (f := .type "range") (pos := pos) hs hsp) fun v η' φ' a s' e p hq => ?_
  · refine main.imp id fun w => ?_
    rw [arm_eval_Call_Name']
    exact wpAny_bind (name_boot G X.rel F hn (by decide +kernel) (by decide +kernel) (callWith_of (P := fun h => ∀ b o, T.base.get? b = some o → h.get? b = some o) (by rw [(args_plain hs).1]; rfl) keep_type (wpAny_mono w (fun a s₁ ⟨⟨v, η', φ', e, p, hq⟩, w⟩ => ⟨p.rel.base, w⟩) fun _ _ y => y)))
  · obtain ⟨⟨y, hy, r⟩, hkw⟩ := hq
    rw [hkw, hy]
    cases v with
    | int i =>
      dsimp only
      split
      case isFalse => exact .fail
      rename_i hc
      rw [Bool.and_eq_true] at hc
      simp only [VR] at r
      obtain ⟨t, rfl⟩ := r
      refine .ok rfl (call_range_1 ⟨φ', Post.grown (s := s') p.rel (push_keeps _), .inr ⟨_, 0, i, _, _, _, rfl, IsRange.new _ _ _ _ _ _ _, rfl, hc.1, ?_⟩⟩)
      simp
    | _ => exact .fail

end
end Mine
end
section
namespace Mine
open PySem PySem.W PySem.Calls PyProof.Rows

section
variable {T : St} {N : Nm} {A : Around} {L : Addr} {q : Bool} {d : Nat} {call : Nat → List V → H → R V}

theorem star_no {sc : Scope} {Γ : Gam} {v : Expr} {p : Pos} : ∀ e : E, chkE N sc Γ e (.Starred v p) = false :=
  fun e => E.rec (motive_1 := fun e => ∀ sc Γ, chkE N sc Γ e (.Starred v p) = false) (motive_2 := fun _ => True) (motive_3 := fun _ => True) (motive_4 := fun _ => True) (motive_5 := fun _ => True)
    (fun _ _ _ => rfl) (fun _ _ _ => rfl) (fun _ _ _ _ => rfl) (fun _ _ _ _ _ _ _ => rfl) (fun _ _ _ _ _ _ => rfl) (fun _ _ _ _ => rfl) (fun _ _ _ _ => rfl) (fun _ _ _ _ => rfl) (fun _ _ _ _ _ _ _ => rfl) (fun _ _ _ _ _ _ _ _ _ _ => rfl) (fun _ _ _ _ _ _ _ _ => rfl)
    (fun _ _ _ _ _ => rfl) (fun _ _ _ _ _ => rfl) (fun _ _ _ _ _ _ _ => rfl) (fun _ _ _ _ _ => rfl) (fun _ _ _ _ _ _ _ => rfl) (fun _ _ _ _ _ => rfl) (fun _ _ _ _ _ => rfl) (fun _ _ _ _ _ => rfl) (fun _ _ _ _ _ _ => rfl) (fun _ _ _ _ _ _ _ _ _ => rfl) (fun _ _ _ _ _ => rfl) (fun _ _ _ _ => rfl) (fun _ _ _ _ _ _ _ _ _ _ => rfl)
    (fun _ _ _ => rfl) (fun _ ih sc Γ => ih sc Γ) (fun _ _ _ _ _ _ => rfl) (fun _ _ _ _ _ => rfl) (fun _ _ => trivial) (fun _ _ => trivial) (fun _ _ _ _ => trivial) (fun _ _ => trivial) (fun _ _ => trivial) (fun _ _ => trivial) (fun _ _ => trivial) trivial (fun _ _ _ _ => trivial) trivial (fun _ _ _ _ => trivial) e sc Γ
theorem chk_plain {sc : Scope} {Γ : Gam} {e : E} {x : Expr} (h : chkE N sc Γ e x = true) : plainArg x = true := by
  cases x with
  | Starred v p => rw [star_no] at h; cases h
  | _ => rfl
theorem chkEs_cons {sc : Scope} {Γ : Gam} {e : E} {es : List E} {xs : List Expr} (h : chkEs N sc Γ (e :: es) xs = true) : ∃ y ys, xs = y :: ys ∧ chkE N sc Γ e y = true ∧ chkEs N sc Γ es ys = true := by
  cases xs with
  | nil => exact absurd h Bool.false_ne_true
  | cons y ys => exact ⟨y, ys, rfl, Bool.and_eq_true_iff.mp h⟩
theorem chkEs_nil {sc : Scope} {Γ : Gam} {xs : List Expr} (h : chkEs N sc Γ [] xs = true) : xs = [] := List.isEmpty_iff.mp h
theorem chkCs_cons {sc : Scope} {Γ : Gam} {e : C} {es : List C} {xs : List Expr} (h : chkCs N sc Γ (e :: es) xs = true) : ∃ y ys, xs = y :: ys ∧ chkC N sc Γ e y = true ∧ chkCs N sc Γ es ys = true := by
  cases xs with
  | nil => exact absurd h Bool.false_ne_true
  | cons y ys => exact ⟨y, ys, rfl, Bool.and_eq_true_iff.mp h⟩
theorem chks_plain {sc : Scope} {Γ : Gam} : ∀ {es : List E} {xs : List Expr}, chkEs N sc Γ es xs = true → plainArgs xs ∧ es.length = xs.length
  | [], xs, h => by have := chkEs_nil h; subst this; exact ⟨rfl, rfl⟩
  | e :: es, xs, h => by
    obtain ⟨y, ys, rfl, h1, h2⟩ := chkEs_cons h
    obtain ⟨h3, h4⟩ := chks_plain h2
    refine ⟨?_, by simp [h4]⟩
    unfold plainArgs at h3 ⊢
    rw [List.all_cons, chk_plain h1, h3]; rfl
theorem it_set {sc : Scope} {Γ : Gam} {it : It} {x : Expr} (h : chkIt N sc Γ it x = true) : ∀ env y, foldedSetIterable x env y = pure y := by
  have hn : notSet x = true := by cases it <;> exact (Bool.and_eq_true_iff.mp h).1
  intro env y
  cases x <;> first | rfl | exact absurd hn Bool.false_ne_true

/-- what is shown of the parts -/
noncomputable def PE (T : St) (N : Nm) (q : Bool) (d : Nat) (call : Nat → List V → H → R V) (e : E) : Prop := (∀ sc Γ x, chkE N sc Γ e x = true → SimE T q d call sc Γ e x) ∧ (∀ sc Γ x, chkE N sc Γ e x = true → plainTest e x = true → SimC T q d call sc Γ (.t e) x)
noncomputable def PI (T : St) (N : Nm) (q : Bool) (d : Nat) (call : Nat → List V → H → R V) (e : It) : Prop := ∀ sc Γ x, chkIt N sc Γ e x = true → SimIt T q d call sc Γ e x
noncomputable def PC (T : St) (N : Nm) (q : Bool) (d : Nat) (call : Nat → List V → H → R V) (e : C) : Prop := ∀ sc Γ x, chkC N sc Γ e x = true → SimC T q d call sc Γ e x
noncomputable def PEs (T : St) (N : Nm) (q : Bool) (d : Nat) (call : Nat → List V → H → R V) (e : List E) : Prop := ∀ sc Γ x, chkEs N sc Γ e x = true → SimEs T q d call sc Γ e x ∧ SimL T q d call sc Γ e x
noncomputable def PCs (T : St) (N : Nm) (q : Bool) (d : Nat) (call : Nat → List V → H → R V) (e : List C) : Prop := ∀ sc Γ x, chkCs N sc Γ e x = true → SimCL T q d call sc Γ e x
theorem pe_of {e : E} (hn : ∀ l os rs p, plainTest e (.Compare l os rs p) = false) (h : ∀ sc Γ x, chkE N sc Γ e x = true → SimE T q d call sc Γ e x) : PE T N q d call e :=
  ⟨h, fun sc Γ x hc hp => c_plain hp (fun l os rs p e' => by subst e'; rw [hn] at hp; cases hp) (h sc Γ x hc)⟩

variable (G : Gd T N) (Tb : Tbs T N G) (hext : N.ext = false) (Ex : T.P.rz.isEmpty = false → Exs T N G) (hc : CallOK T G.fn q d call)

theorem m_var (i : Nat) : PE T N q d call (.var i) := pe_of (fun _ _ _ _ => rfl) fun sc Γ x h0 => by
  obtain ⟨n, hn, h⟩ := any_some (o := asName x) h0
  obtain ⟨p, rfl⟩ := asName_eq hn
  rw [Bool.and_eq_true, beq_iff_eq] at h
  exact fun A L φ η s env ρ X F => sim_var F X.rel h.1 (loc_kind h.2) (loc_debug h.2)
theorem m_const (v : V) : PE T N q d call (.const v) := pe_of (fun _ _ _ _ => rfl) fun sc Γ x h0 => by
  rcases Bool.or_eq_true_iff.mp (show ((asConst x).any (constOk v) || (asNeg x).any fun j => constEq v (.int (-j))) = true from h0) with h | h
  · obtain ⟨n, hn, h⟩ := any_some h
    obtain ⟨k, p, rfl⟩ := asConst_eq hn
    exact e_const h
  · obtain ⟨n, hn, h⟩ := any_some h
    obtain ⟨k, p, p', rfl⟩ := asNeg_eq hn
    exact e_neg h
include G in
theorem m_glob (g : Nat) (v : V) : PE T N q d call (.glob g v) := pe_of (fun _ _ _ _ => rfl) fun sc Γ x h0 => by
  obtain ⟨n, hn, h⟩ := any_some (o := asName x) h0
  obtain ⟨p, rfl⟩ := asName_eq hn
  simp only [Bool.and_eq_true] at h
  exact e_glob G h.1.1 h.1.2 h.2
theorem m_bin (op : Op) (a b : E) (p_a : PE T N q d call a) (p_b : PE T N q d call b) : PE T N q d call (.bin op a b) := pe_of (fun _ _ _ _ => rfl) fun sc Γ x h0 => by
  obtain ⟨⟨l, o, r⟩, hn, h⟩ := any_some (o := asBin x) h0
  obtain ⟨p, rfl⟩ := asBin_eq hn
  simp only [Bool.and_eq_true, beq_iff_eq] at h
  rw [← h.1.1]
  exact e_bin (p_a.1 _ _ _ h.1.2) (p_b.1 _ _ _ h.2)
theorem m_rep (a b : E) (p_a : PE T N q d call a) (p_b : PE T N q d call b) : PE T N q d call (.rep a b) := pe_of (fun _ _ _ _ => rfl) fun _ _ _ _ _ _ _ _ _ _ _ _ _ => .fail
theorem m_not (a : E) (p_a : PE T N q d call a) : PE T N q d call (.not a) := pe_of (fun _ _ _ _ => rfl) fun sc Γ x h0 => by
  obtain ⟨n, hn, h⟩ := any_some (o := asNot x) h0
  obtain ⟨p, rfl⟩ := asNot_eq hn
  exact e_not (p_a.1 _ _ _ h)
theorem m_and (es : List E) (p_es : PEs T N q d call es) : PE T N q d call (.and es) := pe_of (fun _ _ _ _ => rfl) fun sc Γ x h0 => by
  obtain ⟨n, hn, h⟩ := any_some (o := asAnd x) h0
  obtain ⟨p, rfl⟩ := asAnd_eq hn
  exact e_and (p_es _ _ _ h).2
theorem m_or (es : List E) (p_es : PEs T N q d call es) : PE T N q d call (.or es) := pe_of (fun _ _ _ _ => rfl) fun sc Γ x h0 => by
  obtain ⟨n, hn, h⟩ := any_some (o := asOr x) h0
  obtain ⟨p, rfl⟩ := asOr_eq hn
  exact e_or (p_es _ _ _ h).2
theorem m_cmp (op : COp) (a b : E) (p_a : PE T N q d call a) (p_b : PE T N q d call b) : PE T N q d call (.cmp op a b) := And.intro (fun sc Γ x h0 => by
  obtain ⟨⟨l, os, rs⟩, hn, h⟩ := any_some (o := asCmp x) h0
  obtain ⟨p, rfl⟩ := asCmp_eq hn
  obtain ⟨o, ho, h⟩ := any_some h
  obtain ⟨r, hr, h⟩ := any_some h
  dsimp only at ho hr
  rw [one_eq ho, one_eq hr]
  simp only [Bool.and_eq_true, beq_iff_eq] at h
  rw [← h.1.1.1]
  exact e_cmp h.1.1.2 (p_a.1 _ _ _ h.1.2) (p_b.1 _ _ _ h.2)) (fun sc Γ x h0 _ => by
  obtain ⟨⟨l, os, rs⟩, hn, h⟩ := any_some (o := asCmp x) h0
  obtain ⟨p, rfl⟩ := asCmp_eq hn
  obtain ⟨o, ho, h⟩ := any_some h
  obtain ⟨r, hr, h⟩ := any_some h
  dsimp only at ho hr
  rw [one_eq ho, one_eq hr]
  simp only [Bool.and_eq_true, beq_iff_eq] at h
  rw [← h.1.1.1]
  exact c_cmp h.1.1.2 (p_a.1 _ _ _ h.1.2) (p_b.1 _ _ _ h.2))
theorem m_cmp2 (o1 o2 : COp) (a b c : E) (p_a : PE T N q d call a) (p_b : PE T N q d call b) (p_c : PE T N q d call c) : PE T N q d call (.cmp2 o1 o2 a b c) := And.intro (fun sc Γ x h0 => by
  obtain ⟨⟨l, os, rs⟩, hn, h⟩ := any_some (o := asCmp x) h0
  obtain ⟨p, rfl⟩ := asCmp_eq hn
  obtain ⟨o, ho, h⟩ := any_some h
  obtain ⟨r, hr, h⟩ := any_some h
  dsimp only at ho hr
  rw [two_eq ho, two_eq hr]
  simp only [Bool.and_eq_true, beq_iff_eq] at h
  obtain ⟨⟨⟨⟨⟨h1, h2⟩, h3⟩, h4⟩, h5⟩, h6⟩ := h
  rw [← h1, ← h2]
  exact e_cmp2 h3 (p_a.1 _ _ _ h4) (p_b.1 _ _ _ h5) (p_c.1 _ _ _ h6)) (fun sc Γ x h0 _ => by
  obtain ⟨⟨l, os, rs⟩, hn, h⟩ := any_some (o := asCmp x) h0
  obtain ⟨p, rfl⟩ := asCmp_eq hn
  obtain ⟨o, ho, h⟩ := any_some h
  obtain ⟨r, hr, h⟩ := any_some h
  dsimp only at ho hr
  rw [two_eq ho, two_eq hr]
  simp only [Bool.and_eq_true, beq_iff_eq] at h
  obtain ⟨⟨⟨⟨⟨h1, h2⟩, h3⟩, h4⟩, h5⟩, h6⟩ := h
  rw [← h1, ← h2]
  exact c_cmp2 h3 (p_a.1 _ _ _ h4) (p_b.1 _ _ _ h5) (p_c.1 _ _ _ h6))
theorem m_ite (c : C) (a b : E) (p_c : PC T N q d call c) (p_a : PE T N q d call a) (p_b : PE T N q d call b) : PE T N q d call (.ite c a b) := pe_of (fun _ _ _ _ => rfl) fun sc Γ x h0 => by
  obtain ⟨q, hn, h⟩ := any_some (o := asIf x) h0
  obtain ⟨p, rfl⟩ := asIf_eq hn
  simp only [Bool.and_eq_true] at h
  exact e_ite (p_c _ _ _ h.1.1) (p_a.1 _ _ _ h.1.2) (p_b.1 _ _ _ h.2)
include G hc in
theorem m_call (f : Nat) (args : List E) (p_args : PEs T N q d call args) : PE T N q d call (.call f args) := pe_of (fun _ _ _ _ => rfl) fun sc Γ x h0 => by
  obtain ⟨q, hn, h⟩ := any_some (o := asCall x) h0
  obtain ⟨p, p', rfl⟩ := asCall_eq hn
  simp only [Bool.and_eq_true] at h
  exact e_call G hc h.1.1 h.1.2 (chks_plain h.2).1 (p_args _ _ _ h.2).1
include hext in
theorem m_new (c : Nat) (args : List E) (p_args : PEs T N q d call args) : PE T N q d call (.new c args) := pe_of (fun _ _ _ _ => rfl) fun sc Γ x h0 => by
  obtain ⟨q, hn, h⟩ := any_some (o := asCall x) h0
  rw [hext] at h
  exact absurd h Bool.false_ne_true
include hext in
theorem m_meth (o : E) (m : Nat) (args : List E) (p_o : PE T N q d call o) (p_args : PEs T N q d call args) : PE T N q d call (.meth o m args) := pe_of (fun _ _ _ _ => rfl) fun sc Γ x h0 => by
  obtain ⟨q, hn, h⟩ := any_some (o := asMeth x) h0
  rw [hext] at h
  exact absurd h Bool.false_ne_true
include G in
theorem m_bi (b : Bi) (args : List E) (p_args : PEs T N q d call args) : PE T N q d call (.bi b args) := pe_of (fun _ _ _ _ => rfl) fun sc Γ x h0 => by
  obtain ⟨q, hn, h⟩ := any_some (o := asCall x) h0
  obtain ⟨p, p', rfl⟩ := asCall_eq hn
  simp only [Bool.and_eq_true] at h
  exact e_bi G h.1.1 h.1.2 (chks_plain h.2).1 (p_args _ _ _ h.2).1
theorem m_bm (m : Bm) (o : E) (args : List E) (p_o : PE T N q d call o) (p_args : PEs T N q d call args) : PE T N q d call (.bm m o args) := pe_of (fun _ _ _ _ => rfl) fun sc Γ x h0 => by
  obtain ⟨q, hn, h⟩ := any_some (o := asMeth x) h0
  obtain ⟨p, p', rfl, hq⟩ := asMeth_eq hn
  simp only [Bool.and_eq_true, decide_eq_true_eq] at h
  obtain ⟨⟨⟨⟨⟨h1, h2⟩, h3⟩, h5⟩, h6⟩, h7⟩ := h
  exact e_bm h1 (hq.symm.trans h2) h3 h5 (chks_plain h7).1 (p_o.1 _ _ _ h6) (p_args _ _ _ h7).1
include G Ex in
theorem m_isinst (a : E) (t : Ty) (p_a : PE T N q d call a) : PE T N q d call (.isinst a t) := pe_of (fun _ _ _ _ => rfl) fun sc Γ x h0 => by
  obtain ⟨⟨n, as⟩, hn, h⟩ := any_some (o := asCall x) h0
  obtain ⟨p, p', rfl⟩ := asCall_eq hn
  simp only [Bool.and_eq_true] at h
  obtain ⟨⟨h1, h2⟩, h⟩ := h
  obtain ⟨r, hr, h⟩ := any_some h
  obtain ⟨tn, ht, h⟩ := any_some h
  obtain ⟨pp, ep⟩ := asName_eq ht
  rw [two_eq hr, ep]
  simp only [Bool.and_eq_true] at h
  exact e_isinst G h1 h2 h.1.1 h.1.2 (chk_plain h.2) (p_a.1 _ _ _ h.2) Ex
include G in
theorem m_toList (mu : Bool) (a : E) (p_a : PE T N q d call a) : PE T N q d call (.toList mu a) := pe_of (fun _ _ _ _ => rfl) fun sc Γ x h0 => by
  obtain ⟨⟨n, as⟩, hn, h⟩ := any_some (o := asCall x) h0
  obtain ⟨p, p', rfl⟩ := asCall_eq hn
  simp only [Bool.and_eq_true] at h
  obtain ⟨r, hr, h3⟩ := any_some h.2
  rw [one_eq hr]
  exact e_toList G h.1.1 h.1.2 (chk_plain h3) (p_a.1 _ _ _ h3)
include hext in
theorem m_attr (a : E) (k : Nat) (p_a : PE T N q d call a) : PE T N q d call (.attr a k) := pe_of (fun _ _ _ _ => rfl) fun sc Γ x h0 => by
  obtain ⟨q, hn, h⟩ := any_some (o := asAttr x) h0
  rw [hext] at h
  exact absurd h Bool.false_ne_true
theorem m_sub (a b : E) (p_a : PE T N q d call a) (p_b : PE T N q d call b) : PE T N q d call (.sub a b) := pe_of (fun _ _ _ _ => rfl) fun sc Γ x h0 => by
  obtain ⟨q, hn, h⟩ := any_some (o := asSub x) h0
  obtain ⟨p, rfl⟩ := asSub_eq hn
  simp only [Bool.and_eq_true] at h
  exact e_sub h.1.1 (p_a.1 _ _ _ h.1.2) (p_b.1 _ _ _ h.2)
theorem m_slice (mu : Bool) (a lo hi : E) (p_a : PE T N q d call a) (p_lo : PE T N q d call lo) (p_hi : PE T N q d call hi) : PE T N q d call (.slice mu a lo hi) := pe_of (fun _ _ _ _ => rfl) fun sc Γ x h0 => by
  obtain ⟨⟨y, i⟩, hn, h⟩ := any_some (o := asSub x) h0
  obtain ⟨p, rfl⟩ := asSub_eq hn
  simp only [Bool.and_eq_true] at h
  obtain ⟨h1, h⟩ := h
  obtain ⟨⟨l, u⟩, hr, hh⟩ := any_some h
  obtain ⟨pp, rfl⟩ := asSlice_eq hr
  simp only [Bool.and_eq_true] at hh
  refine e_slice (p_a.1 _ _ _ h1) ?_ ?_
  · cases l with
    | none => exact hh.1
    | some e => exact p_lo.1 _ _ _ hh.1
  · cases u with
    | none => exact hh.2
    | some e => exact p_hi.1 _ _ _ hh.2
theorem m_list (mu : Bool) (es : List E) (p_es : PEs T N q d call es) : PE T N q d call (.list mu es) := pe_of (fun _ _ _ _ => rfl) fun sc Γ x h0 => by
  obtain ⟨q, hn, h⟩ := any_some (o := asList x) h0
  obtain ⟨p, rfl⟩ := asList_eq hn
  simp only [Bool.and_eq_true, decide_eq_true_eq] at h
  exact e_list (by rw [(chks_plain h.2).2]; exact h.1) (p_es _ _ _ h.2).1
theorem m_tuple (es : List E) (p_es : PEs T N q d call es) : PE T N q d call (.tuple es) := pe_of (fun _ _ _ _ => rfl) fun sc Γ x h0 => by
  obtain ⟨q, hn, h⟩ := any_some (o := asTuple x) h0
  obtain ⟨k, p, rfl⟩ := asTuple_eq hn
  simp only [Bool.and_eq_true, decide_eq_true_eq] at h
  exact e_tuple (by rw [(chks_plain h.2).2]; exact h.1) (p_es _ _ _ h.2).1
theorem m_comp (mu : Bool) (x : Nat) (elt : E) (it : It) (ifs : List C) (p_elt : PE T N q d call elt) (p_it : PI T N q d call it) (p_ifs : PCs T N q d call ifs) : PE T N q d call (.comp mu x elt it ifs) := pe_of (fun _ _ _ _ => rfl) fun sc Γ y h0 => by
  obtain ⟨q, hn, h⟩ := any_some (o := asComp y) h0
  obtain ⟨p, p', rfl⟩ := asComp_eq hn
  simp only [Bool.and_eq_true] at h
  exact e_comp (it_set h.1.1.2) (comp_ok h.1.1.1) (p_it _ _ _ h.1.1.2) (p_elt.1 _ _ _ h.1.2) (p_ifs _ _ _ h.2)
theorem m_dict0 (mu : Bool) : PE T N q d call (.dict0 mu) := pe_of (fun _ _ _ _ => rfl) fun _ _ _ _ _ _ _ _ _ _ _ _ _ => .fail
theorem m_freeze (a : E) (p_a : PE T N q d call a) : PE T N q d call (.freeze a) := pe_of (fun _ _ _ _ => rfl) fun sc Γ x h0 => by
  exact e_freeze (p_a.1 sc Γ x h0)
include G Tb in
theorem m_inTab (neg : Bool) (t : Nat) (a : E) (p_a : PE T N q d call a) : PE T N q d call (.inTab neg t a) := And.intro (fun sc Γ x h0 => by
  obtain ⟨⟨l, os, rs⟩, hn, h⟩ := any_some (o := asCmp x) h0
  obtain ⟨p, rfl⟩ := asCmp_eq hn
  obtain ⟨o, ho, h⟩ := any_some h
  obtain ⟨r, hr, h⟩ := any_some h
  obtain ⟨n, hn', hh⟩ := any_some h
  obtain ⟨p', rfl⟩ := asName_eq hn'
  dsimp only at ho hr
  rw [one_eq ho, one_eq hr]
  simp only [Bool.and_eq_true, beq_iff_eq] at hh
  rw [hh.1.1.1]
  exact e_inTab G Tb hh.1.1.2 hh.1.2 (p_a.1 _ _ _ hh.2)) (fun sc Γ x h0 _ => by
  obtain ⟨⟨l, os, rs⟩, hn, h⟩ := any_some (o := asCmp x) h0
  obtain ⟨p, rfl⟩ := asCmp_eq hn
  obtain ⟨o, ho, h⟩ := any_some h
  obtain ⟨r, hr, h⟩ := any_some h
  obtain ⟨n, hn', hh⟩ := any_some h
  obtain ⟨p', rfl⟩ := asName_eq hn'
  dsimp only at ho hr
  rw [one_eq ho, one_eq hr]
  simp only [Bool.and_eq_true, beq_iff_eq] at hh
  rw [hh.1.1.1]
  exact c_inTab G Tb hh.1.1.2 hh.1.2 (p_a.1 _ _ _ hh.2))
include G Tb in
theorem m_subTab (t : Nat) (a : E) (p_a : PE T N q d call a) : PE T N q d call (.subTab t a) := pe_of (fun _ _ _ _ => rfl) fun sc Γ x h0 => by
  obtain ⟨⟨y, i⟩, hn, h⟩ := any_some (o := asSub x) h0
  obtain ⟨p, rfl⟩ := asSub_eq hn
  obtain ⟨n, hn', hh⟩ := any_some h
  obtain ⟨p', ep⟩ := asName_eq hn'
  dsimp only at ep
  subst ep
  simp only [Bool.and_eq_true] at hh
  obtain ⟨⟨⟨h1, h2⟩, h3⟩, h4⟩ := hh
  exact e_subTab G Tb h1 h2 h3 (p_a.1 _ _ _ h4)
theorem m_of (e : E) (p_e : PE T N q d call e) : PI T N q d call (.of e) := fun sc Γ x h => it_of' (p_e.1 _ _ _ (Bool.and_eq_true_iff.mp h).2)
include G in
theorem m_range1 (a : E) (p_a : PE T N q d call a) : PI T N q d call (.range1 a) := fun sc Γ x h0 => by
  obtain ⟨⟨n, as⟩, hn, h⟩ := any_some (o := asCall x) (Bool.and_eq_true_iff.mp h0).2
  obtain ⟨p, p', rfl⟩ := asCall_eq hn
  simp only [Bool.and_eq_true] at h
  obtain ⟨r, hr, h3⟩ := any_some h.2
  rw [one_eq hr]
  exact it_range1 G h.1.1 h.1.2 (chk_plain h3) (p_a.1 _ _ _ h3)
include G in
theorem m_range2 (a b : E) (p_a : PE T N q d call a) (p_b : PE T N q d call b) : PI T N q d call (.range2 a b) := fun _ _ _ _ _ _ _ _ _ _ _ _ _ => .fail
theorem m_t (e : E) (p_e : PE T N q d call e) : PC T N q d call (.t e) := fun sc Γ x h => p_e.2 _ _ _ (Bool.and_eq_true_iff.mp h).2 (Bool.and_eq_true_iff.mp h).1
theorem m_cnot (c : C) (p_c : PC T N q d call c) : PC T N q d call (.not c) := fun sc Γ x h0 => by
  obtain ⟨n, hn, h⟩ := any_some (o := asNot x) h0
  obtain ⟨p, rfl⟩ := asNot_eq hn
  exact c_not (p_c _ _ _ h)
theorem m_cand (cs : List C) (p_cs : PCs T N q d call cs) : PC T N q d call (.and cs) := fun sc Γ x h0 => by
  obtain ⟨n, hn, h⟩ := any_some (o := asAnd x) h0
  obtain ⟨p, rfl⟩ := asAnd_eq hn
  exact c_and (p_cs _ _ _ h)
theorem m_cor (cs : List C) (p_cs : PCs T N q d call cs) : PC T N q d call (.or cs) := fun sc Γ x h0 => by
  obtain ⟨n, hn, h⟩ := any_some (o := asOr x) h0
  obtain ⟨p, rfl⟩ := asOr_eq hn
  exact c_or (p_cs _ _ _ h)
theorem m_enil : PEs T N q d call [] := fun sc Γ x h0 => by
  have := chkEs_nil h0; subst this; exact ⟨es_nil, trivial⟩
theorem m_econs (e : E) (es : List E) (p_e : PE T N q d call e) (p_es : PEs T N q d call es) : PEs T N q d call (e :: es) := fun sc Γ x h0 => by
  obtain ⟨y, ys, rfl, h1, h2⟩ := chkEs_cons h0
  exact ⟨es_cons (chk_plain h1) (p_e.1 _ _ _ h1) (p_es _ _ _ h2).1, p_e.1 _ _ _ h1, (p_es _ _ _ h2).2⟩
theorem m_cnil : PCs T N q d call [] := fun sc Γ x h0 => by
  have : x = [] := List.isEmpty_iff.mp h0
  subst this; trivial
theorem m_ccons (e : C) (es : List C) (p_e : PC T N q d call e) (p_es : PCs T N q d call es) : PCs T N q d call (e :: es) := fun sc Γ x h0 => by
  obtain ⟨y, ys, rfl, h1, h2⟩ := chkCs_cons h0
  exact ⟨p_e _ _ _ h1, p_es _ _ _ h2⟩

include G Tb hext Ex hc in
theorem pE (e : E) : PE T N q d call e :=
  E.rec (motive_1 := fun e => PE T N q d call e) (motive_2 := fun e => PI T N q d call e) (motive_3 := fun e => PC T N q d call e) (motive_4 := fun e => PEs T N q d call e) (motive_5 := fun e => PCs T N q d call e)
    m_var
    m_const
    (m_glob G)
    m_bin
    m_rep
    m_not
    m_and
    m_or
    m_cmp
    m_cmp2
    m_ite
    (m_call G hc)
    (m_new hext)
    (m_meth hext)
    (m_bi G)
    m_bm
    (m_isinst G Ex)
    (m_toList G)
    (m_attr hext)
    m_sub
    m_slice
    m_list
    m_tuple
    m_comp
    m_dict0
    m_freeze
    (m_inTab G Tb)
    (m_subTab G Tb)
    m_of
    (m_range1 G)
    (m_range2 G)
    m_t
    m_cnot
    m_cand
    m_cor
    m_enil
    m_econs
    m_cnil
    m_ccons e
include G Tb hext Ex hc in
theorem pI (e : It) : PI T N q d call e :=
  It.rec (motive_1 := fun e => PE T N q d call e) (motive_2 := fun e => PI T N q d call e) (motive_3 := fun e => PC T N q d call e) (motive_4 := fun e => PEs T N q d call e) (motive_5 := fun e => PCs T N q d call e)
    m_var
    m_const
    (m_glob G)
    m_bin
    m_rep
    m_not
    m_and
    m_or
    m_cmp
    m_cmp2
    m_ite
    (m_call G hc)
    (m_new hext)
    (m_meth hext)
    (m_bi G)
    m_bm
    (m_isinst G Ex)
    (m_toList G)
    (m_attr hext)
    m_sub
    m_slice
    m_list
    m_tuple
    m_comp
    m_dict0
    m_freeze
    (m_inTab G Tb)
    (m_subTab G Tb)
    m_of
    (m_range1 G)
    (m_range2 G)
    m_t
    m_cnot
    m_cand
    m_cor
    m_enil
    m_econs
    m_cnil
    m_ccons e
include G Tb hext Ex hc in
theorem pC (e : C) : PC T N q d call e :=
  C.rec (motive_1 := fun e => PE T N q d call e) (motive_2 := fun e => PI T N q d call e) (motive_3 := fun e => PC T N q d call e) (motive_4 := fun e => PEs T N q d call e) (motive_5 := fun e => PCs T N q d call e)
    m_var
    m_const
    (m_glob G)
    m_bin
    m_rep
    m_not
    m_and
    m_or
    m_cmp
    m_cmp2
    m_ite
    (m_call G hc)
    (m_new hext)
    (m_meth hext)
    (m_bi G)
    m_bm
    (m_isinst G Ex)
    (m_toList G)
    (m_attr hext)
    m_sub
    m_slice
    m_list
    m_tuple
    m_comp
    m_dict0
    m_freeze
    (m_inTab G Tb)
    (m_subTab G Tb)
    m_of
    (m_range1 G)
    (m_range2 G)
    m_t
    m_cnot
    m_cand
    m_cor
    m_enil
    m_econs
    m_cnil
    m_ccons e
include G Tb hext Ex hc in
theorem pCs : ∀ e : List C, PCs T N q d call e
  | [] => m_cnil
  | e :: es => m_ccons e es (pC G Tb hext Ex hc e) (pCs es)
include G Tb hext Ex hc in
theorem sndE (sc : Scope) (Γ : Gam) (e : E) (x : Expr) (h : chkE N sc Γ e x = true) : SimE T q d call sc Γ e x := (pE G Tb hext Ex hc e).1 sc Γ x h
include G Tb hext Ex hc in
theorem sndIt (sc : Scope) (Γ : Gam) (e : It) (x : Expr) (h : chkIt N sc Γ e x = true) : SimIt T q d call sc Γ e x := pI G Tb hext Ex hc e sc Γ x h
include G Tb hext Ex hc in
theorem sndC (sc : Scope) (Γ : Gam) (e : C) (x : Expr) (h : chkC N sc Γ e x = true) : SimC T q d call sc Γ e x := pC G Tb hext Ex hc e sc Γ x h
include G Tb hext Ex hc in
theorem sndCL (sc : Scope) (Γ : Gam) (e : List C) (x : List Expr) (h : chkCs N sc Γ e x = true) : SimCL T q d call sc Γ e x := pCs G Tb hext Ex hc e sc Γ x h
end
end Mine
end
section
namespace Mine
open PySem PySem.W PySem.Calls PyProof.Rows

section
variable {T : St} {N : Nm} {A : Around} {L : Addr} {q : Bool} {d : Nat} {φ₀ φ : Phi} {η₀ η : H} {s₀ s : Shared} {env : Env} {sc : Scope} {Γ : Gam} {ρ : Rho} {call : Bool → Nat → List V → H → R V}

theorem s_raise (G : Gd T N) (Ex : T.P.rz.isEmpty = false → Exs T N G) {c : Nat} {msg : List Nat} {n : Str} {m : Str} {k : Nat} {np mp cpos pos : Pos} (hn : atName N.exm c n = true) (hg : isGlo sc n = true) :
    SimS T q d call sc Γ (.raise c msg) (.Raise (some (.Call (.Name n np) [.Constant (.str m) k mp] [] cpos)) none pos) := by
  intro A L φ₀ η₀ s₀ φ η s env ρ X F
  refine .intro fun hf => ?_
  obtain ⟨hq, et⟩ := if_nf (tot := evS T.P call q (.raise c msg) ρ η) rfl hf
  rw [← et]
  clear et hf
  have Ex := Ex (by cases e : T.P.rz with | nil => rw [e] at hq; cases hq.2 | cons a l => rfl)
  obtain ⟨h1, h2⟩ := at_name hn
  obtain ⟨hns, hx⟩ := Ex.at' c n h1 h2
  have hx' := hx
  obtain ⟨Nn, nm, qn, bs, hdct, sn, sub, ab, col, dd, k0, k1, k2, k3, k5, mN, g1, g2, g3, g4⟩ := hx'
  refine wpAny_Raise_call_subT (C := T.exc c) (N := Nn) (nm := nm) (q := qn) (bs := bs) (bm := Ex.bm c) (hdct := hdct) (sn := sn) (sub := sub) (ab := ab) (col := col) (dd := dd) (k0 := k0) (k1 := k1) (k2 := k2) (k3 := k3) (k5 := k5) PySem.F.excBase_ValueError hx.base (X.hand hq.1) rfl g3 (name_glob G F.post.rel F.fr hg hns ⟨rfl, ?_⟩)
  refine evalArgs_plain (spliced_cons (wpAny_mkText (spliced_nil ?_)))
  have F' := F.step (Post.toks (k := s.toks + 1) F.post.rel)
  have kb := F'.post.rel.base
  refine ⟨rfl, by show 1 ≤ sizeLine; decide, kb _ _ g1, g2.keeps kb, g4.keeps kb, fun h' e hm => ?_⟩
  obtain ⟨t, ht, _, _⟩ := hm.there
  have p : Post T φ η { s with toks := s.toks + 1 } φ η { s with toks := s.toks + 1, heap := h' } := Post.grown (s := { s with toks := s.toks + 1 }) (k := s.toks + 1) F'.post.rel hm.keeps
  refine ⟨c, φ, η, ρ, rfl, F'.step p, p.step.toL, e, rfl, _, _, .ref t, ht, rfl, rfl, rfl, ?_, .inl rfl⟩
  cases qb : T.base.get? e with
  | none => rfl
  | some o => have := F'.post.rel.base e o qb; have h0 := hm.new; rw [this] at h0; cases h0
end
end Mine
end
section
namespace Mine
open PySem PySem.W PySem.Calls PyProof.Rows

section
variable {M : Model} {T : St} {N : Nm} {A A₂ : Around} {L : Addr} {q : Bool} {d : Nat} {φ₀ φ : Phi} {η₀ η : H} {s₀ s : Shared} {env : Env} {sc : Scope} {Γ : Gam} {ρ : Rho} {call : Bool → Nat → List V → H → R V} {E : Value → Shared → Prop}

theorem nsDel_at {a : Addr} {cl : String} {m : Str → Option Value} {name : Str} {Q : Bool → Shared → Prop} (hn : NsAt s.heap a cl m)
    (hQ : ∀ h' v, NsAt h' a cl (fun x => if x = name then v else m x) → Heap.SameBut a s.heap h' → Q (m name).isSome { s with heap := h' }) : wpAny M A (nsDel a name) Q E s := by
  obtain ⟨⟨o, es, ep, ho, hd, hk, hm⟩, o₂, ho₂, hc⟩ := hn
  rw [ho] at ho₂; cases ho₂
  have hany : es.any (·.refKey) = false := by
    rw [Array.any_eq_false']; intro e he; obtain ⟨n, t, h⟩ := hk e he; simp [DictEntry.refKey, h]
  have hsome : (m name).isSome = es.any (·.key.isStr name) := by
    rw [← hm name]; simp only [nsFind, findBy, Option.isSome_map]
    rw [Bool.eq_iff_iff]; simp only [Array.find?_isSome, Array.any_eq_true]
    constructor
    · rintro ⟨x, hx, hp⟩; obtain ⟨i, hi, rfl⟩ := Array.mem_iff_getElem.mp hx; exact ⟨i, hi, hp⟩
    · rintro ⟨i, hi, hp⟩; exact ⟨_, Array.getElem_mem hi, hp⟩
  have hhas : nsHas name o = pure (es.any (·.key.isStr name)) := by
    rw [nsHas_eq]; unfold nsHasByArray; rw [hd]
    show (if (es.any fun x => x.key.isStr name) = true then _ else _) = _
    generalize (es.any fun x => x.key.isStr name) = b
    cases b <;> simp [hany]
  unfold nsDel
  refine wpAny_bind (wpAny_loadPart ho ?_)
  rw [hhas]
  refine wpAny_bind (wpAny_pure ?_)
  rw [← hsome]
  cases hmn : (m name).isSome
  · have := hQ s.heap (m name) ⟨⟨o, es, ep, ho, hd, hk, fun x => by by_cases hx : x = name <;> simp [hx, hm]⟩, o, ho, hc⟩ (.refl ..)
    rw [hmn] at this
    exact wpAny_pure this
  · refine wpAny_bind (wpAny_updatePart ho (wpAny_pure ?_))
    have key : ∃ v, NsAt (s.heap.update a (Obj.dropName name)) a cl (fun x => if x = name then v else m x) := by
      obtain ⟨c, dd, dt, sl⟩ := o
      subst hd
      cases hi : es.findIdx? (·.key.isStr name) with
      | some i =>
        have e1 : (s.heap.update a (Obj.dropName name)).get? a = some ⟨c, dd, .dict (es.eraseIdxIfInBounds i) (ep + 1), sl⟩ := by
          rw [Heap.get?_update_self _ ho (by simp only [Obj.dropName_eq, Obj.dropNameByArray, hi] <;> rfl)]
          simp only [Obj.dropName_eq, Obj.dropNameByArray, hi]
        exact ⟨nsFind (es.eraseIdxIfInBounds i) name, ⟨_, _, ep + 1, e1, rfl, hk.erase i, fun x => by
            show nsFind (es.eraseIdxIfInBounds i) x = if x = name then nsFind (es.eraseIdxIfInBounds i) name else m x
            by_cases hx : x = name
            · rw [if_pos hx, hx]
            · rw [if_neg hx, nsFind_erase_other hi hx, hm]⟩, _, e1, hc⟩
      | none =>
        have e1 : (s.heap.update a (Obj.dropName name)).get? a = some ⟨c, dd, .dict es ep, sl⟩ := by
          rw [Heap.get?_update_self _ ho (by simp only [Obj.dropName_eq, Obj.dropNameByArray, hi] <;> rfl)]
          simp only [Obj.dropName_eq, Obj.dropNameByArray, hi]
        exact ⟨m name, ⟨_, _, ep, e1, rfl, hk, fun x => by by_cases hx : x = name <;> simp [hx, hm]⟩, _, e1, hc⟩
    obtain ⟨v, hv⟩ := key
    have := hQ _ v hv (Heap.SameBut.update ..)
    rw [hmn] at this
    exact this

/-- the frame's names turn -/
theorem FS.turn {cw : Bool} {c : String} {m' : Str → Option Value} {h' : Heap} {t : Nat} {ρ' : Rho} (F : FS cw T A L φ₀ η₀ s₀ φ η s env sc Γ ρ) (hn' : NsAt h' env.locals c m') (hc : c = "frame" ∨ c = "dict") (hcc : ∃ o, s.heap.get? env.locals = some o ∧ o.cls = .type c) (hs : Heap.SameBut env.locals s.heap h')
    (hv : ∀ n i v, Γ.lookup n = some i → env.kindOf n = some .local → ρ'[i]? = some (some v) → ∃ x, m' n = some x ∧ VR T φ (own φ η) s.heap v x)
    (hcell : ∀ n i v, Γ.lookup n = some i → env.kindOf n = some .cell → ρ'[i]? = some (some v) → ρ[i]? = some (some v)) : FS cw T A L φ₀ η₀ s₀ φ η { s with heap := h', toks := t } env sc Γ ρ' := by
  obtain ⟨o, g, ho⟩ := hcc
  have pv : Priv o := ⟨c, ho, by rcases hc with rfl | rfl <;> decide, by rcases hc with rfl | rfl <;> decide⟩
  have k : ∀ b o, b ≠ env.locals → s.heap.get? b = some o → h'.get? b = some o := fun b o hb e => (hs.2 b hb).trans e
  have notc : ∀ n c, env.cells.lookup n = some c → c ≠ env.locals := fun n c' e q => by
    obtain ⟨ov, o', e', hc', _⟩ := F.fr.cthere n c' e
    rw [q, g] at e'; cases e'
    rw [ho] at hc'
    rcases hc with rfl | rfl <;> simp at hc'
  refine ⟨F.post.but F.l0 g pv F.fr.lfresh.1 F.fr.lfresh.2 k, ⟨F.fr.sc, F.fr.kind, F.fr.glob, F.fr.bi, F.fr.frame, ⟨c, m', hn', hc, fun n i v h1 h2 h3 => ?_⟩, fun n' j h1 h2 => ?_, F.fr.lfresh, fun n' c' e => ?_, F.fr.cfresh, F.fr.apart, F.fr.inj⟩, ?_, F.l0, F.c0⟩
  · obtain ⟨x, e, r⟩ := hv n i v h1 h2 h3
    exact ⟨x, e, VR.but g pv k _ _ r⟩
  · obtain ⟨c', ov, e, ⟨o', e', hc'', hd'⟩, hv'⟩ := F.fr.cell n' j h1 h2
    refine ⟨c', ov, e, ⟨o', k c' o' (notc n' c' e) e', hc'', hd'⟩, fun w hw => ?_⟩
    obtain ⟨y, hy, ry⟩ := hv' w (hcell n' j w h1 h2 hw)
    exact ⟨y, hy, VR.but g pv k _ _ ry⟩
  · obtain ⟨ov, o', e', hc'', hd'⟩ := F.fr.cthere n' c' e
    exact ⟨ov, o', k c' o' (notc n' c' e) e', hc'', hd'⟩
  · obtain ⟨t, u, h1, h2, h3⟩ := F.stk
    refine ⟨t, u, h1, h2, h3.but g k fun q => ?_⟩
    obtain ⟨⟨o₁, es, ep, e₁, hd₁, _⟩, o₂, e₂, hc₂⟩ := hn'
    rw [e₁] at e₂; cases e₂
    exact ⟨o₁, e₁, by rw [hc₂, ← ho, q], es, ep, hd₁⟩

/-- a name of the frame goes -/
theorem FS.gone {n : Str} {i : Nat} {pos : Pos} {Q : Unit → Shared → Prop} (F : FS true T A L φ₀ η₀ s₀ φ η s env sc Γ ρ) (hΓ : Γ.lookup n = some i) (hk : sc.names.lookup n = some .local)
    (h : ∀ s', FS true T A L φ₀ η₀ s₀ φ η s' env sc Γ (ρ.set i none) → StepL env φ η s.heap φ η s'.heap → (∀ e c fl, RN T s.heap e c fl → RN T s'.heap e c fl) → Q () s') :
    wpAny T.M A₂ (do bindName env n .none; unbindBehindTheSuite env n pos) Q E s := by
  have hk' : env.kindOf n = some .local := by unfold Env.kindOf; rw [F.fr.sc]; exact hk
  have hp : (env.scope.kind == .class || (env.scope.kind == .module && env.locals != env.globals)) = false := by rw [F.fr.kind]; rfl
  obtain ⟨c, m, hn, hc, hv⟩ := F.fr.ns
  obtain ⟨hns, o, g, ho⟩ := id hn
  obtain ⟨o₁, es, ep, g₁, hd₁, _⟩ := id hns
  rw [g] at g₁; cases g₁
  refine wpAny_bind (wpAny_bindName ?_)
  rw [storeName_local hk' hp]
  refine nsSet_at hn fun h₁ hn₁ hs₁ => ?_
  unfold unbindBehindTheSuite
  refine wpAny_onRaise ?_
  unfold unbindName
  refine wpAny_bind (wpAny_point (wpAny_bind ?_))
  unfold deleteName
  simp only [hk', hp]
  rw [if_neg (by decide)]
  refine wpAny_bind (nsDel_at (s := { s with heap := h₁, toks := s.toks + 1 }) hn₁ fun h₂ u hn₂ hs₂ => ?_)
  simp only [if_true, Option.isSome_some, Bool.not_true, Bool.false_eq_true, if_false]
  have hs := hs₁.trans hs₂
  refine wpAny_pure (wpAny_point (h _ (F.turn (t := s.toks + 1) hn₂ hc ⟨o, g, ho⟩ hs (fun n' j w h1 h2 h3 => ?_) fun n' j w h1 h2 h3 => ?_) ⟨List.prefix_refl _, fun b o' _ hb e => .inl ((hs.2 b hb.1).trans e), fun _ o => .inl o, fun b o' e => ?_⟩ fun e c' fl rn => ?_))
  · rcases getElem?_set_some h3 with ⟨_, hw⟩ | ⟨hj, hw⟩
    · cases hw
    · obtain ⟨y, hy, ry⟩ := hv n' j w h1 h2 hw
      have hne : n' ≠ n := fun q => by rw [q, hΓ] at h1; cases h1; exact hj rfl
      exact ⟨y, by simp [hne, hy], ry⟩
  · rcases getElem?_set_some h3 with ⟨_, hw⟩ | ⟨hj, hw⟩
    · cases hw
    · exact hw
  · by_cases hb : b = env.locals
    · obtain ⟨_, o', e', _⟩ := hn₂
      show (h₂.get? b).isSome = true
      rw [hb, e']; rfl
    · show (h₂.get? b).isSome = true
      rw [hs.2 b hb, e]; rfl
  · exact rn.but g hd₁ (sameBut_keep hs)
end
end Mine
end
section
namespace Mine
open PySem PySem.W PySem.Calls PyProof.Rows

section
variable {M : Model} {A : Around} {E : Value → Shared → Prop} {h : Heap} {g : Array GenState} {d : Drawn} {t : Nat} {os : OsState}
/-- a clause of an own class -/
theorem matches_own {C C' e : Addr} {bm bm' : List Value} {oe : Obj} {Q : Bool → Shared → Prop} (x : ExcAt h C bm) (x' : ExcAt h C' bm') (he : h.get? e = some oe) (hcls : oe.cls = .ref C)
    (hq : Q ((Value.ref C :: bm).contains (.ref C')) ⟨h, g, d, t, os⟩) : wpAny M A (excMatches (.ref e) (.ref C')) Q E ⟨h, g, d, t, os⟩ := by
  have hb' := x'.base
  obtain ⟨N, nm, q, bs, hdct, sn, sub, ab, col, dd, k0, k1, k2, k3, k5, mN, hC, _⟩ := x
  obtain ⟨N', nm', q', bs', hdct', sn', sub', ab', col', dd', l0, l1, l2, l3, l5, mN', hC', _⟩ := x'
  have hcB : (Value.ref C' :: bm').contains (.type "BaseException") = true := by rw [List.contains_cons, hb', Bool.or_true]
  have f := tc_notTuple
  generalize hr : (Value.ref C :: bm).contains (.ref C') = r at hq
  unfold excMatches
  repeat (first | (with_reducible refine wpAny_loadPart_at he ?_; rw [hcls]) | with_reducible refine wpAny_loadPart_at hC' ?_ | (with_reducible refine wpAny_isSubtype_exc hC' ?_; rw [hcB]) | (with_reducible refine wpAny_isSubtype_exc hC ?_; rw [hr]) | wp_step)
  cases r with
  | false => simp only [Bool.false_eq_true, if_false]; exact wpAny_pure (wpAny_pure (wpAny_pure hq))
  | true => simp only [if_true]; exact wpAny_pure (wpAny_pure (wpAny_pure hq))
end

section
variable {T : St} {N : Nm} {A : Around} {L : Addr} {q : Bool} {d : Nat} {φ₀ φ φ' : Phi} {η₀ η η' : H} {s₀ s s' : Shared} {env : Env} {sc : Scope} {Γ : Gam} {ρ : Rho} {call : Bool → Nat → List V → H → R V}

/-- the clauses -/
noncomputable def HOk (T : St) (N : Nm) (d : Nat) (call : Bool → Nat → List V → H → R V) (sc : Scope) (Γ : Gam) : List (Nat × Option Nat × List S) → List ExceptHandler → Prop
  | [], hs => hs = []
  | (k, x, b) :: r, hs => ∃ n p nm b₀ bs pos rest, hs = .ExceptHandler (some (.Name n p)) nm (b₀ :: bs) pos :: rest ∧ atName N.exm k n = true ∧ isGlo sc n = true ∧
      ((x = none ∧ nm = none) ∨ ∃ i y, x = some i ∧ nm = some y ∧ Γ.lookup y = some i ∧ sc.names.lookup y = some .local) ∧ SimSs T false d call sc Γ b (b₀ :: bs) ∧ HOk T N d call sc Γ r rest

theorem FS.mark {e : Option Value} (F : FS true T A L φ₀ η₀ s₀ φ η s env sc Γ ρ) : FS true T (A.mark e) L φ₀ η₀ s₀ φ η s env sc Γ ρ := ⟨F.post, F.fr, F.stk, F.l0, F.c0⟩
theorem FS.unmark {e : Option Value} (F : FS true T (A.mark e) L φ₀ η₀ s₀ φ η s env sc Γ ρ) : FS true T A L φ₀ η₀ s₀ φ η s env sc Γ ρ := ⟨F.post, F.fr, F.stk, F.l0, F.c0⟩

theorem RN.vr {e : Addr} {c : Nat} {fl : Value} (R : Rel T φ η s.heap) (x : RN T s.heap e c fl) : VR T φ (own φ η) s.heap (.exc c) (.ref e) := by
  obtain ⟨oe, vs, a0, Tb, oT, ts, h1, h2, h3, h4, _⟩ := x
  simp only [VR]
  exact ⟨e, oe, rfl, R.notFields h1 h3, h1, h2, vs, h3⟩

noncomputable def setX (x : Option Nat) (c : Nat) (ρ : Rho) : Rho := match x with | some i => ρ.set i (some (.exc c)) | none => ρ
theorem evHs_cons (P : Prog) (call : Bool → Nat → List V → H → R V) (c k : Nat) (x : Option Nat) (b : List S) (r : List (Nat × Option Nat × List S)) (ρ : Rho) (η : H) :
    evHs P call c ((k, x, b) :: r) ρ η = if ((P.excs[c]?).getD []).contains k = true then clr x (evSs P call false b (setX x c ρ) η) else evHs P call c r ρ η := rfl

/-- an exception out of a clause -/
theorem out_of_clause {m : Option Value} {x : Value} {c : Nat} {E : Value → Shared → Prop} (F : FS true T A L φ₀ η₀ s₀ φ η s env sc Γ ρ) (xr : XR T s.heap x c L)
    (h : ∀ s', Post T φ η s φ η s' → XR T s'.heap x c L → E x s') : notedBy T.M (A.mark m) env (cameBackBy T.M A env E) x s := by
  obtain ⟨a, rfl, r⟩ := xr
  obtain ⟨top, outer, h1, h2, h3⟩ := F.stk
  refine wpAny_mono (note (A := A.mark m) h1 h2 h3 F.fr.frame F.post.rel r) (fun _ s' ⟨p, rn⟩ => ?_) fun _ _ y => y
  exact came_back F.fr.frame p.rel rn fun s'' p' r' => h s'' (p.trans p') ⟨a, rfl, r'⟩

section
variable {x : Option Nat} {rb tot : RS} {ρ' : Rho} {hh : H}
noncomputable def clrR (x : Option Nat) (ρ : Rho) : Rho := match x with | some i => ρ.set i none | none => ρ
theorem clr_nf (e : clr x rb = tot) (hf : tot ≠ .fail) : rb ≠ .fail := fun h => by subst h; exact hf e.symm
theorem clr_next (e : clr x rb = tot) (er : rb = .next ρ' hh) : tot = .next (clrR x ρ') hh := by subst er; exact e.symm
theorem clr_ret {v : V} (e : clr x rb = tot) (er : rb = .ret v ρ' hh) : tot = .ret v (clrR x ρ') hh := by subst er; exact e.symm
theorem clr_exc {c : Nat} (e : clr x rb = tot) (er : rb = .exc c ρ' hh) : tot = .exc c (clrR x ρ') hh := by subst er; exact e.symm
end
theorem handle (G : Gd T N) (Ex : Exs T N G) {c : Nat} {nc : Str} (hc : N.exm[c]? = some nc) (hcn : nc ≠ ("" : Str)) (X : Sta A q d) {e : Addr} {φ₁ : Phi} {η₁ : H} {h₁ : Heap} {tot : RS} (hf : tot ≠ .fail) : ∀ (hs : List (Nat × Option Nat × List S)) (xs : List ExceptHandler), HOk T N d call sc Γ hs xs →
    ∀ φ η s ρ, FS true T A L φ₀ η₀ s₀ φ η s env sc Γ ρ → RN T s.heap e c .none → StepL env φ₁ η₁ h₁ φ η s.heap → evHs T.P call c hs ρ η = tot →
    wpAny T.M A (handleBy (.ref e) env xs) (ROk T A L φ₀ η₀ s₀ env sc Γ φ₁ η₁ h₁ tot) (REx T A L φ₀ η₀ s₀ env sc Γ φ₁ η₁ h₁ tot) s
  | [], xs, hk, φ, η, s, ρ, F, rn, st, et => by
    have : xs = [] := hk
    subst this
    exact wpAny_handleBy_nil (passes F.fr.frame F.post.rel rn fun s' p rz => ⟨c, φ, η, ρ, et.symm, F.step p, st.trans p.step.toL, e, rfl, rz⟩)
  | (k, x, b) :: r, xs, hk, φ, η, s, ρ, F, rn, st, et => by
    obtain ⟨n, p, nm, b₀, bs, pos, rest, rfl, hn, hg, hx, hb, hr⟩ := hk
    obtain ⟨hk1, hk2⟩ := at_name hn
    obtain ⟨hns, xk⟩ := Ex.at' k n hk1 hk2
    obtain ⟨_, xc⟩ := Ex.at' c nc hc hcn
    have kb := F.post.rel.base
    refine wpAny_handleBy_cons (codeAny_handlers_test (name_glob (A := A.mark (some (.ref e))) G F.post.rel F.fr hg hns ?_)) (by intro q; cases q)
    obtain ⟨oe, vs, a0, Tb, oT, ts, g1, g2, g3, g4⟩ := id rn
    refine matches_own (xc.keeps kb) (xk.keeps kb) g1 g2 ?_
    rw [Ex.mro c k nc n hc hk1 hcn hk2]
    rw [evHs_cons] at et
    by_cases hm : ((T.P.excs[c]?).getD []).contains k = true
    case neg =>
      rw [if_neg hm] at et
      rw [if_neg (by simpa using hm)]
      exact handle G Ex hc hcn X hf r rest hr φ η s ρ F rn st et
    rw [if_pos hm] at et
    rw [if_pos (by simpa using hm)]
    have X' : Sta (A.mark (some (.ref e))) false d := ⟨(fun q => nomatch q), X.depth, X.units⟩
    clear hr hn hk1 hk2 hns xk xc hm g1 g2 g3 g4
    rcases hx with ⟨rfl, rfl⟩ | ⟨i, y, rfl, rfl, hΓ, hl⟩
    · -- no name
      refine codeAny_handlers_suite (wpAny_mono (set_flight (A := A.mark (some (.ref e))) (fr := none) (E := fun _ _ => False) F.post.rel rn) (fun _ s₂ ⟨p₂, rn₂⟩ => ?_) fun _ _ z => z.elim)
      have st₂ := st.trans p₂.step.toL
      exact (hb (A.mark (some (.ref e))) L φ₀ η₀ s₀ φ η s₂ env ρ X' (F.step p₂).mark).elim (clr_nf et hf) (fun φ₃ η₃ ρ₃ s₃ er F₃ st₃ => .next (clr_next et er) F₃.unmark (st₂.trans st₃))
        (fun v y φ₃ η₃ ρ₃ s₃ er rv F₃ st₃ => .ret (clr_ret et er) rv F₃.unmark (st₂.trans st₃))
        fun c₃ φ₃ η₃ ρ₃ e' s₃ er F₃ st₃ xr => out_of_clause F₃.unmark xr fun s₄ p₄ xr₄ => ⟨c₃, φ₃, η₃, ρ₃, clr_exc et er, F₃.unmark.step p₄, (st₂.trans st₃).trans p₄.step.toL, xr₄⟩
    · -- with a name
      refine codeAny_handlers_suite_as (wpAny_mono (set_flight (A := A.mark (some (.ref e))) (fr := none) (E := fun _ _ => False) F.post.rel rn) (fun _ s₂ ⟨p₂, rn₂⟩ => ?_) fun _ _ z => z.elim)
      have F₂ := F.step p₂
      refine F₂.store hΓ (.inl hl) (rn₂.vr p₂.rel) fun s₃ F₃ k₃ a₃ _ => ?_
      have st₃ := (st.trans p₂.step.toL).trans (F₂.stepL_store k₃ a₃)
      refine (hb (A.mark (some (.ref e))) L φ₀ η₀ s₀ φ η s₃ env _ X' F₃.mark).elim (clr_nf et hf) (fun φ₄ η₄ ρ₄ s₄ er F₄ st₄ => F₄.unmark.gone (pos := pos) hΓ hl fun s₅ F₅ st₅ _ => .next (clr_next et er) F₅ ((st₃.trans st₄).trans st₅))
        (fun v y φ₄ η₄ ρ₄ s₄ er rv F₄ st₄ => F₄.unmark.gone (pos := pos) hΓ hl fun s₅ F₅ st₅ _ => .ret (clr_ret et er) (VR.stepL st₅ F₄.fr _ _ rv) F₅ ((st₃.trans st₄).trans st₅)) fun c₄ φ₄ η₄ ρ₄ e' s₄ er F₄ st₄ xr => ?_
      obtain ⟨a, rfl, rz⟩ := xr
      obtain ⟨top, outer, hf1, hf2, hf3⟩ := F₄.stk
      refine wpAny_mono (note hf1 hf2 hf3 F₄.fr.frame F₄.post.rel rz) (fun _ s₅ ⟨p₅, rn₅⟩ => ?_) fun _ _ z => z
      refine (F₄.step p₅).unmark.gone (pos := pos) hΓ hl fun s₆ F₆ st₆ krn => ?_
      refine passes F₆.fr.frame F₆.post.rel (krn _ _ _ rn₅) fun s₇ p₇ rz₇ => ?_
      exact out_of_clause (F₆.step p₇) ⟨a, rfl, rz₇⟩ fun s₈ p₈ xr₈ => ⟨c₄, φ₄, η₄, _, clr_exc et er, (F₆.step p₇).step p₈, ((((st₃.trans st₄).trans p₅.step.toL).trans st₆).trans p₇.step.toL).trans p₈.step.toL, xr₈⟩

noncomputable def tryRS (P : Prog) (call : Bool → Nat → List V → H → R V) (hs : List (Nat × Option Nat × List S)) (r : RS) : RS := match r with
  | .exc c r' h' => if P.rz.contains c = true then evHs P call c hs r' h' else .fail
  | x => x
theorem rz_some {P : Prog} {c : Nat} (h : P.rz.contains c = true) : P.rz.isEmpty = false := by
  cases e : P.rz with
  | nil => rw [e] at h; cases h
  | cons a l => rfl
/-- try -/
theorem s_try (G : Gd T N) (Ex : T.P.rz.isEmpty = false → Exs T N G) {body : List S} {hs : List (Nat × Option Nat × List S)} {b : List Stmt} {x₀ : ExceptHandler} {xs : List ExceptHandler} {pos : Pos}
    (hb : SimSs T q d call sc Γ body b) (hh : HOk T N d call sc Γ hs (x₀ :: xs)) : SimS T q d call sc Γ (.try body hs) (.Try b (x₀ :: xs) [] [] pos) := by
  intro A L φ₀ η₀ s₀ φ η s env ρ X F
  refine .intro (r := tryRS T.P call hs (evSs T.P call q body ρ η)) fun hf => ?_
  have hbb := hb A L φ₀ η₀ s₀ φ η s env ρ X F
  generalize evSs T.P call q body ρ η = rb at hbb hf
  refine wpAny_Try_except (hbb.elim (fun h => hf (by rw [h]; rfl)) (fun φ' η' ρ' s' er F' st' => wpAny_execs_nil (.next (by rw [er]; rfl) F' st')) (fun v x φ' η' ρ' s' er r F' st' => .ret (by rw [er]; rfl) r F' st') fun c φ₁ η' ρ' e' s' er F₁ st₁ xr => ?_)
  subst er
  obtain ⟨hc, et⟩ := if_nf (tot := tryRS T.P call hs (.exc c ρ' η')) rfl hf
  have Ex := Ex (rz_some hc)
  obtain ⟨nc, hn1, hn2⟩ := Ex.named c hc
  obtain ⟨a, rfl, rz⟩ := xr
  obtain ⟨top, outer, hf1, hf2, hf3⟩ := F₁.stk
  refine wpAny_mono (note hf1 hf2 hf3 F₁.fr.frame F₁.post.rel rz) (fun _ s₂ ⟨p₂, rn₂⟩ => ?_) fun _ _ z => z
  refine wpAny_mono (set_flight (fr := none) p₂.rel rn₂) (fun _ s₃ ⟨p₃, rn₃⟩ => ?_) fun _ _ z => z
  exact handle G Ex hn1 hn2 X hf hs (x₀ :: xs) hh φ₁ η' s₃ ρ' ((F₁.step p₂).step p₃) rn₃ (st₁.trans (p₂.trans p₃).step.toL) et
end
end Mine
end
section
namespace Mine
open PySem PySem.W PySem.Calls PyProof.Rows

section
variable {T : St} {N : Nm} {A : Around} {L : Addr} {q : Bool} {d : Nat} {φ₀ φ : Phi} {η₀ η : H} {s₀ s : Shared} {env : Env} {sc : Scope} {Γ : Gam} {ρ : Rho} {call : Bool → Nat → List V → H → R V} {α β : Type}

theorem SimR.assoc {γ : Type} {a : Sem α} {f : α → Sem γ} {k : γ → Sem Flow} {r : RS} (h : SimR T A L φ₀ η₀ s₀ env sc Γ φ η s (a >>= fun x => f x >>= k) r) : SimR T A L φ₀ η₀ s₀ env sc Γ φ η s ((a >>= f) >>= k) r :=
  h.imp id fun h Γ' p hΓ => by have := h Γ' p hΓ; simpa only [Sem.wp_bind'] using this

theorem SimR.exprP {t : Sem α} {k : α → Sem Flow} {r : R β} {g : β → H → RS} {Q : QR α β} (F : FS true T A L φ₀ η₀ s₀ φ η s env sc Γ ρ) (h1 : Sim T A L φ η s t r Q)
    (h2 : ∀ v η' φ' x s', r = .ok v η' → Post T φ η s φ' η' s' → FS true T A L φ₀ η₀ s₀ φ' η' s' env sc Γ ρ → Q φ' η' s'.heap v x → SimR T A L φ₀ η₀ s₀ env sc Γ φ' η' s' (k x) (g v η')) : SimR T A L φ₀ η₀ s₀ env sc Γ φ η s (t >>= k) (RS.of ρ r g) :=
  SimR.expr (Q := fun φ' η' h v x => ∃ s', s'.heap = h ∧ Post T φ η s φ' η' s' ∧ Q φ' η' h v x) F (h1.mono fun φ' η' s' v x _ p q => ⟨s', rfl, p, q⟩) fun v η' φ' x s' e F' ⟨s'', es, p, hq⟩ =>
    h2 v η' φ' x s' e ⟨es ▸ p.step, F'.post.rel, F'.post.gens.trans F.post.gens.symm, F'.post.os.trans F.post.os.symm, F'.post.drawn.trans F.post.drawn.symm⟩ F' hq

theorem s_setsub {o i e : E} {y j v : Expr} {p pos : Pos} (hv : notComp v = true) (ho : SimE T q d (call q) sc Γ o y) (hi : SimE T q d (call q) sc Γ i j) (he : SimE T q d (call q) sc Γ e v) : SimS T q d call sc Γ (.setsub o i e) (.Assign [.Subscript y j p] v pos) := by
  intro A L φ₀ η₀ s₀ φ η s env ρ X F
  rw [exec_Assign_Subscript _ _ _ _ _ (by cases v <;> first | rfl | cases hv)]
  refine SimR.standAt (SimR.expr F (he A L φ η s env ρ (F.cxt X) F.fr) fun w η' φ' yv s' _ F' hq => ?_)
  rw [assign_Subscript]
  refine SimR.assoc (SimR.exprP F' (Sim.holding (ho A L φ' η' s' env ρ (F'.cxt X) F'.fr)) fun w₂ η₂ φ₂ y₂ s₂ _ p₂ F₂ hq₂ => ?_)
  refine SimR.assoc (SimR.exprP F₂ (Sim.holding (hi A L φ₂ η₂ s₂ env ρ (F₂.cxt X) F₂.fr)) fun w₃ η₃ φ₃ y₃ s₃ _ p₃ F₃ hq₃ => ?_)
  refine SimR.assoc (SimR.standAt ?_)
  have hset := sim_setItem (A := A) (L := L) F₃.post.rel (VR.step p₃.step _ _ hq₂) hq₃ (VR.step (p₂.trans p₃).step _ _ hq)
  cases es : setItem η₃ w₂ w₃ w with
  | none => exact .inl rfl
  | some η₄ =>
    rw [es] at hset
    rcases hset with hset | hset
    · cases hset
    right
    refine wpAny_bind (wpAny_bind (wpAny_holding (wpAny_mono hset (fun _ s₄ ⟨_, η', φ', e', p₄, _⟩ => ?_) fun _ _ ⟨_, _, _, e', _, _⟩ => by cases e')))
    cases e'
    exact wpAny_release (wpAny_pure ⟨φ', _, ρ, .inl ⟨rfl, rfl⟩, F₃.step p₄, p₄.step.toL⟩)

theorem not_interactive {env : Env} (h : env.scope.kind = .function) : interactive env = false := by
  unfold interactive; rw [h]; rfl

section
variable (G : Gd T N) (Tb : Tbs T N G) (hext : N.ext = false) (Ex : T.P.rz.isEmpty = false → Exs T N G) (hc : CallOK T G.fn q d (call q))
include G Tb hext Ex hc
theorem a_assign {y : Nat} {e : E} {x : Stmt} (h0 : chkS N sc Γ (.assign y e) x = true) : SimS T q d call sc Γ (.assign y e) x := by
  obtain ⟨⟨t, v⟩, hp, h⟩ := any_some (o := asAssign x) h0
  obtain ⟨pos, rfl⟩ := asAssign_eq hp
  obtain ⟨n, hn, hh⟩ := any_some h
  obtain ⟨pn, en⟩ := asName_eq hn
  rw [en]
  simp only [Bool.and_eq_true, beq_iff_eq, Bool.or_eq_true] at hh
  obtain ⟨⟨⟨h1, h2⟩, h3⟩, h4⟩ := hh
  by_cases hcomp : notComp v = true
  · exact s_assign' hcomp h1 h2 (sndE G Tb hext Ex hc sc Γ e v h3)
  · have h5 := h4.resolve_left hcomp
    cases e with
    | comp mu z elt it ifs =>
      obtain ⟨r, hr, hh⟩ := any_some (o := asComp v) h3
      obtain ⟨p1, p2, ev⟩ := asComp_eq hr
      subst ev
      simp only [Bool.and_eq_true] at hh
      exact s_assign_comp (it_set hh.1.1.2) h1 h2 (comp_ok hh.1.1.1) (sndIt G Tb hext Ex hc sc Γ it _ hh.1.1.2) (sndE G Tb hext Ex hc _ _ elt _ hh.1.2) (sndCL G Tb hext Ex hc _ _ ifs _ hh.2)
    | _ => exact absurd h5 Bool.false_ne_true
theorem a_setsub {o i e : E} {x : Stmt} (h0 : chkS N sc Γ (.setsub o i e) x = true) : SimS T q d call sc Γ (.setsub o i e) x := by
  obtain ⟨⟨t, v⟩, hp, h⟩ := any_some (o := asAssign x) h0
  obtain ⟨pos, rfl⟩ := asAssign_eq hp
  obtain ⟨r, hr, hh⟩ := any_some h
  obtain ⟨pn, en⟩ := asSub_eq hr
  rw [en]
  simp only [Bool.and_eq_true] at hh
  obtain ⟨⟨⟨⟨h1, h2⟩, h3⟩, h4⟩, h5⟩ := hh
  exact s_setsub h2 (sndE G Tb hext Ex hc sc Γ o _ h3) (sndE G Tb hext Ex hc sc Γ i _ h4) (sndE G Tb hext Ex hc sc Γ e _ h5)
theorem a_expr {e : E} {x : Stmt} (h0 : chkS N sc Γ (.expr e) x = true) : SimS T q d call sc Γ (.expr e) x := by
  obtain ⟨v, hp, h⟩ := any_some (o := asExprS x) h0
  obtain ⟨pos, rfl⟩ := asExprS_eq hp
  simp only [Bool.and_eq_true] at h
  exact s_expr h.1 (fun _ => not_interactive) (sndE G Tb hext Ex hc sc Γ e _ h.2)
theorem a_ret {e : E} {x : Stmt} (h0 : chkS N sc Γ (.ret e) x = true) : SimS T q d call sc Γ (.ret e) x := by
  obtain ⟨v, hp, h⟩ := any_some (o := asRet x) h0
  obtain ⟨pos, rfl⟩ := asRet_eq hp
  exact s_ret' (sndE G Tb hext Ex hc sc Γ e _ h)
end
variable (G : Gd T N) (Tb : Tbs T N G) (hext : N.ext = false) (Ex : T.P.rz.isEmpty = false → Exs T N G) (hc : ∀ q, CallOK T G.fn q d (call q))
include G Tb hext Ex hc

mutual
theorem sndS (q : Bool) (sc : Scope) (Γ : Gam) : ∀ (st : S) (x : Stmt), chkS N sc Γ st x = true → SimS T q d call sc Γ st x
  | .assign y e, x, h0 => a_assign G Tb hext Ex (hc q) h0
  | .setattr o k e, x, h0 => by
    obtain ⟨p, hp, h⟩ := any_some (o := asAssign x) h0
    obtain ⟨r, hr, hh⟩ := any_some h
    rw [hext] at hh
    exact absurd hh Bool.false_ne_true
  | .setsub o i e, x, h0 => a_setsub G Tb hext Ex (hc q) h0
  | .expr e, x, h0 => a_expr G Tb hext Ex (hc q) h0
  | .ite c a b, x, h0 => by
    obtain ⟨p, hp, h⟩ := any_some (o := asIfS x) h0
    obtain ⟨pos, rfl⟩ := asIfS_eq hp
    simp only [Bool.and_eq_true] at h
    exact s_ite' (sndC G Tb hext Ex (hc q) sc Γ c _ h.1.1) (sndSs q sc Γ a _ h.1.2) (sndSs q sc Γ b _ h.2)
  | .for1 y it body, x, h0 => by
    obtain ⟨p, hp, h⟩ := any_some (o := asFor x) h0
    obtain ⟨pos, rfl⟩ := asFor_eq hp
    obtain ⟨n, hn, hh⟩ := any_some h
    obtain ⟨pn, en⟩ := asName_eq hn
    rw [en]
    simp only [Bool.and_eq_true, beq_iff_eq] at hh
    obtain ⟨⟨⟨h1, h2⟩, h3⟩, h4⟩ := hh
    exact s_for1' (it_set h3) h1 h2 (sndIt G Tb hext Ex (hc q) sc Γ it _ h3) (sndSs q sc Γ body _ h4)
  | .for2 y z it body, x, h0 => absurd h0 Bool.false_ne_true
  | .while c body, x, h0 => fun _ _ _ _ _ _ _ _ _ _ _ _ => .inl rfl
  | .ret e, x, h0 => a_ret G Tb hext Ex (hc q) h0
  | .raise c m, x, h0 => by
    obtain ⟨n, hp, h⟩ := any_some (o := asRaise x) h0
    obtain ⟨np, v, k, mp, cp, pos, rfl⟩ := asRaise_eq hp
    simp only [Bool.and_eq_true] at h
    exact s_raise G Ex h.1 h.2
  | .try body hs, x, h0 => by
    obtain ⟨p, hp, h⟩ := any_some (o := asTry x) h0
    obtain ⟨pos, rfl⟩ := asTry_eq hp
    simp only [Bool.and_eq_true, Bool.not_eq_true', List.isEmpty_eq_false_iff] at h
    obtain ⟨⟨h1, h2⟩, h3⟩ := h
    obtain ⟨b, l⟩ := p
    match l, h2, h3 with
    | x₀ :: xs, _, h3 => exact s_try G Ex (sndSs q sc Γ body _ h1) (sndHs sc Γ hs _ h3)
theorem sndHs (sc : Scope) (Γ : Gam) : ∀ (hs : List (Nat × Option Nat × List S)) (x : List ExceptHandler), chkHs N sc Γ hs x = true → HOk T N d call sc Γ hs x
  | [], x, h => List.isEmpty_iff.mp h
  | (k, y, b) :: r, [], h => absurd h Bool.false_ne_true
  | (k, y, b) :: r, x :: xs, h => by
    obtain ⟨p, hp, hh⟩ := any_some (o := asHandler x) (Bool.and_eq_true_iff.mp h).1
    obtain ⟨np, pos, rfl⟩ := asHandler_eq hp
    simp only [Bool.and_eq_true, Bool.not_eq_true', List.isEmpty_eq_false_iff] at hh
    obtain ⟨⟨⟨⟨h1, h2⟩, h3⟩, h4⟩, h5⟩ := hh
    obtain ⟨n, nm, bs⟩ := p
    match bs, h4, h5 with
    | b₀ :: bs, _, h5 => exact ⟨n, np, nm, b₀, bs, pos, xs, rfl, h1, h2, hName h3, sndSs false sc Γ b _ h5, sndHs sc Γ r xs (Bool.and_eq_true_iff.mp h).2⟩
theorem sndSs (q : Bool) (sc : Scope) (Γ : Gam) : ∀ (st : List S) (x : List Stmt), chkSs N sc Γ st x = true → SimSs T q d call sc Γ st x
  | [], x, h => by
    have : x = [] := List.isEmpty_iff.mp h
    subst this; exact ss_nil
  | st :: ss, [], h => absurd h Bool.false_ne_true
  | st :: ss, x :: xs, h => ss_cons (sndS q sc Γ st x (Bool.and_eq_true_iff.mp h).1) (sndSs q sc Γ ss xs (Bool.and_eq_true_iff.mp h).2)
end
end
end Mine
end
section
namespace Mine
open PySem PySem.W PySem.Calls PyProof.Rows

theorem call_ok {T : St} {N : Nm} (G : Gd T N) (Cd : Cod T N G) (Tb : Tbs T N G) (hext : N.ext = false) (Ex : T.P.rz.isEmpty = false → Exs T N G) : ∀ d q, CallOK T G.fn q d (callN T.P d q)
  | 0, _ => fun _ _ _ _ _ _ _ _ _ _ => .fail
  | d + 1, q => fun f A L φ η s vs ys X hv => by
    cases hF : T.P.fn f with
    | none => left; rw [callN, hF]
    | some F => exact sim_fn G Cd hF (fun b hb => sndSs G Tb hext Ex (fun q => call_ok G Cd Tb hext Ex d q) q _ _ F.body b hb) X hv

theorem Rel.start {T : St} : Rel T [] [] T.base where
  len := rfl
  base := fun _ _ e => e
  obj := fun n m p hm _ => by simp at hm
  fresh := fun b o => by obtain ⟨n, p, m, hp, _⟩ := o; simp at hp
  disj := fun n n' p p' m m' hp => by simp at hp
theorem own_nil {b : Addr} : ¬ own [] [] b := fun o => by obtain ⟨n, p, m, hp, _⟩ := o; simp at hp

theorem wells {P : Params} {h : Heap} : ∀ {vs : List Value} {xs : List Int}, WellAll P h vs (xs.map WData.int) → ∀ T, VRs T [] (own [] []) h (xs.map V.int) vs
  | _, [], w, T => by cases w; simp [VRs]
  | _, x :: xs, w, T => by
    rw [List.map_cons] at w
    cases w with
    | cons a b =>
      cases a
      rw [List.map_cons]
      simp only [VRs]
      exact ⟨_, _, rfl, by simp [VR], wells b T⟩

/-- the law's call -/
theorem law_good {T : St} {N : Nm} (G : Gd T N) (Cd : Cod T N G) (Tb : Tbs T N G) (hext : N.ext = false) (Ex : T.P.rz.isEmpty = false → Exs T N G) {s : Shared} (hs : s.heap = T.base) {P : Params} {f d : Nat} {l : Addr} {xs : List Int} (hd : d ≤ 20) (hw : Well P s.heap (.ref l) (.list (xs.map WData.int)))
    (hp : callN T.P (d + 1) true f [.lst (xs.map .int)] [] = .ok (.bool true) []) :
    codeAny T.M callerA (.call (.ref (G.fn f)) ⟨[.ref l], []⟩) (fun r s' => r = .ok (.ret (.bool true)) ∧ (∀ b o, s.heap.get? b = some o → s'.heap.get? b = some o) ∧ s'.os = s.os ∧ s'.gens = s.gens) s := by
  obtain ⟨F, hF⟩ : ∃ F, T.P.fn f = some F := by
    cases e : T.P.fn f with
    | none => rw [callN, e] at hp; cases hp
    | some F => exact ⟨F, rfl⟩
  have hv : VRs T [] (own [] []) s.heap [.lst (xs.map .int)] [.ref l] := by
    cases hw with
    | list g w =>
      simp only [VRs, VR]
      exact ⟨_, _, rfl, ⟨l, _, _, rfl, own_nil, g, wells w T⟩, rfl⟩
  have R : Rel T [] [] s.heap := hs ▸ Rel.start
  have h1 : callerA.depth + 4 * (d + 1) + 4 ≤ recursionLimit := by
    have : callerA.depth + 100 ≤ recursionLimit := by decide +kernel
    omega
  have h2 : callerA.units + 20 * (d + 1) + 20 < cLine := by
    have : callerA.units + 500 < cLine := by decide +kernel
    omega
  rcases sim_fn0 (A := callerA) (L := 0) (q := true) (d := d) G Cd hF (fun b hb => sndSs G Tb hext Ex (fun q => call_ok G Cd Tb hext Ex d q) true _ _ F.body b hb) (l := []) (fun _ => rfl) h1 h2 rfl (fun _ he => by cases he) R hv with h | h
  · rw [hp] at h; cases h
  · refine codeAny_mono h fun r s' hr => ?_
    cases r with
    | ok fl =>
      cases fl with
      | ret x =>
        obtain ⟨v, η', φ', e, p, q⟩ := hr
        rw [hp] at e; cases e
        simp only [QV, VR] at q; subst q
        exact ⟨rfl, fun b o e => p.rel.base b o (hs ▸ e), p.os, p.gens⟩
      | _ => exact hr.elim
    | error e =>
      obtain ⟨c, η', φ', e, _⟩ := hr
      rw [hp] at e; cases e
end Mine
end
section
namespace Mine
section
open PySem PySem.W PySem.Calls PyProof.Rows

/-- where a function lies -/
noncomputable def fnA (K : Frag) (N : Nm) (f : Nat) : Addr := match N.fnm[f]? with
  | some n => (match nsIn K mainGlobals n with | some (some (.ref a)) => a | _ => 0)
  | none => 0
noncomputable def fnO (K : Frag) (N : Nm) (f : Nat) : Option FuncData := match K.lookup (fnA K N f) with
  | some ⟨_, _, .func fd, _⟩ => some fd
  | _ => none
noncomputable def okFn (K : Frag) (N : Nm) (g : Gam) (F : Fn) (f : Nat) : Bool := match fnO K N f with
  | some fd => chkF N F g fd && codeIn K fd.code fd.qualname
  | none => false
noncomputable def okFns (K : Frag) (N : Nm) (gams : List (Nat × Gam)) (l : List (Nat × Fn)) : Bool := l.all fun p => okFn K N ((gams.lookup p.1).getD []) p.2 p.1
noncomputable def okName (K : Frag) (n : Str) : Bool := n == ("" : Str) || (match nsIn K mainGlobals n with | some (some (.ref a)) => keepIn K (.ref a) | _ => false)
noncomputable def valOk : V → Value → Bool
  | .none, .none => true
  | .bool a, .bool b => a == b
  | .int a, .int b _ => a == b
  | .str a, .str b _ => b.cps.toList == a
  | _, _ => false
noncomputable def okVal (K : Frag) (n : Str) (v : V) : Bool := match nsIn K mainGlobals n with | some (some val) => valOk v val | _ => false
noncomputable def okVals (K : Frag) : List Str → List V → Bool
  | n :: ns, v :: vs => okVal K n v && okVals K ns vs
  | _, [] => true
  | [], _ => false
noncomputable def okBoot (K : Frag) (n : Str) : Bool := match nsIn K mainGlobals n with | some none => true | _ => false

section
variable {T : St} {N : Nm} {K : Frag}
theorem valOk_VR {φ : Phi} {M : Addr → Prop} {h : Heap} {v : V} {val : Value} (e : valOk v val = true) : VR T φ M h v val := by
  cases v with
  | none => cases val <;> first | rfl | exact absurd e Bool.false_ne_true
  | bool a =>
    cases val with
    | bool b => exact congrArg Value.bool (beq_iff_eq.mp e).symm
    | _ => exact absurd e Bool.false_ne_true
  | int a =>
    cases val with
    | int b t => exact ⟨t, by rw [beq_iff_eq.mp (show (a == b) = true from e)]⟩
    | _ => exact absurd e Bool.false_ne_true
  | str a =>
    cases val with
    | str b t => exact ⟨t, by cases b; rw [← beq_iff_eq.mp (show (_ == a) = true from e)]⟩
    | _ => exact absurd e Bool.false_ne_true
  | _ => exact absurd e Bool.false_ne_true
theorem okVals_get : ∀ {ns : List Str} {vs : List V}, okVals K ns vs = true → ∀ (g : Nat) n v, ns[g]? = some n → vs[g]? = some v → okVal K n v = true
  | n :: ns, v :: vs, h, 0, _, _, h1, h2 => by
    rw [okVals, Bool.and_eq_true] at h
    simp at h1 h2; subst h1; subst h2; exact h.1
  | n :: ns, v :: vs, h, g + 1, _, _, h1, h2 => by
    rw [okVals, Bool.and_eq_true] at h
    exact okVals_get h.2 g _ _ (by simpa using h1) (by simpa using h2)
  | _, [], _, _, _, _, _, h2 => by simp at h2
  | [], _ :: _, _, _, _, _, h1, _ => by simp at h1

noncomputable def gdOf (T : St) (N : Nm) (K : Frag) (kin : K.In T.base) (bns : ∃ mb, T.base.Ns builtinsNs mb ∧ ∀ x : Str, x ≠ "__name__" → mb x = bootBuiltins x) (h1 : N.fnm.all (okName K) = true) (h2 : bnames.all (okBoot K) = true) (h3 : okVals K N.glm N.glv = true) : Gd T N where
  K := K
  kin := kin
  fn := fnA K N
  bns := bns
  nob := fun x hx => by
    have := List.all_eq_true.mp h2 x hx
    unfold okBoot at this
    split at this
    · assumption
    · cases this
  fns := fun f n hf hn => by
    have := List.all_eq_true.mp h1 n (List.mem_of_getElem? hf)
    unfold okName at this
    rw [beq_eq_false_iff_ne.mpr hn, Bool.false_or] at this
    unfold fnA
    rw [hf]
    dsimp only
    split at this
    · rename_i a e
      rw [e]; exact ⟨rfl, this⟩
    · cases this
  vals := fun g n v hg hv => by
    have := okVals_get h3 g n v hg hv
    unfold okVal at this
    split at this
    · rename_i val e
      exact ⟨val, e, fun φ M h => valOk_VR this⟩
    · cases this

theorem lookup_mem {α β : Type} [BEq α] [LawfulBEq α] {a : α} {b : β} : ∀ {l : List (α × β)}, l.lookup a = some b → (a, b) ∈ l
  | (k, v) :: l, h => by
    rw [List.lookup_cons] at h
    split at h
    · rename_i e
      cases h
      rw [beq_iff_eq.mp e]
      exact List.mem_cons_self
    · exact List.mem_cons_of_mem _ (lookup_mem h)
noncomputable def codOf (G : Gd T N) (hfn : G.fn = fnA G.K N) (gams : List (Nat × Gam)) (h : okFns G.K N gams T.P.fns = true) : Cod T N G where
  gam := fun f => (gams.lookup f).getD []
  fd := fun f => (fnO G.K N f).getD default
  fns := fun f F hF => by
    have := List.all_eq_true.mp h _ (lookup_mem hF)
    dsimp only at this
    unfold okFn at this
    split at this
    · rename_i fd e
      rw [Bool.and_eq_true] at this
      rw [e]
      refine ⟨?_, this⟩
      rw [hfn]
      unfold fnO at e
      split at e
      · rename_i o hl
        cases e
        exact ⟨_, hl, rfl⟩
      · cases e
    · cases this

/-- the globals' name means what the fragment says -/
theorem ns_agrees {h : Heap} {a : Addr} {m : Str → Option Value} {n : Str} {r : Option Value} (X : K.In h) (hn : h.Ns a m) (e : nsIn K a n = some r) : m n = r := by
  obtain ⟨o, es, ep, ho, hd, hk, hm⟩ := hn
  unfold nsIn at e
  split at e
  · rename_i c dd es' ep' sl hl
    have := X _ _ hl
    rw [ho] at this; cases this
    cases hd
    rw [← hm]
    unfold nsFind findBy
    split at e
    · rename_i en he
      cases e
      obtain ⟨l⟩ := es
      simp only [List.find?_toArray] at *
      rw [he]; rfl
    · rename_i he
      split at e
      · cases e
      · cases e
        obtain ⟨l⟩ := es
        simp only [List.find?_toArray] at *
        rw [he]; rfl
  · cases e
end
end
end Mine
end
section
namespace Mine
section
open PySem PySem.W PySem.Calls PyProof.Rows

noncomputable def keepO (o : Obj) : Bool := !o.isFreed && (match o.data with | .seq .. => false | _ => true)
/-- the heap as a fragment, but for tuples and lists -/
noncomputable def fragAll (h : Heap) : Frag := (h.objs.toList.zipIdx.filter fun q => keepO q.1).map fun q => (q.2, q.1)
theorem fragAll_in (h : Heap) : (fragAll h).In h := fun a o e => by
  obtain ⟨q, hq, e⟩ := List.mem_map.mp (lookup_mem e)
  obtain ⟨hm, hk⟩ := List.mem_filter.mp hq
  cases e
  have h2 := Array.getElem?_toList.symm.trans (List.mk_mem_zipIdx_iff_getElem?.mp hm)
  exact Heap.get?_some_iff.mpr ⟨h2, (Bool.not_eq_true' _).mp (Bool.and_eq_true_iff.mp hk).1⟩

noncomputable def atIn (K : Frag) (n : Str) : Addr := match nsIn K mainGlobals n with | some (some (.ref a)) => a | _ => 0
noncomputable def excA (K : Frag) (N : Nm) (c : Nat) : Addr := atIn K ((N.exm[c]?).getD "")
noncomputable def isText : Value → Bool | .str _ _ => true | _ => false
noncomputable def noInit (K : Frag) (a : Addr) : Bool := match K.lookup a with
  | some o => (match o.data with
    | .dict es _ => es.toList.all (fun e => isText e.key) && (es.toList.find? (fun e => e.key.isStr "__init__")).isNone
    | _ => false)
  | none => false
noncomputable def clsOk (K : Frag) (a : Addr) : Bool := match K.lookup a with
  | some o => (match o.data with | .cls cd => noInit K cd.ns | _ => false)
  | none => false
noncomputable def onA (v : Value) (b : Bool) (f : Addr → Bool) : Bool := match v with | .ref a => f a && b | _ => false
theorem onA_of {v : Value} {b : Bool} {f : Addr → Bool} (e : onA v b f = true) : ∃ a, v = .ref a ∧ f a = true ∧ b = true := by
  unfold onA at e
  split at e
  · rename_i a
    rw [Bool.and_eq_true] at e
    exact ⟨a, rfl, e⟩
  · cases e
noncomputable def tailOk (K : Frag) : List Value → Bool
  | [] => false
  | v :: r => (v :: r == veB) || onA v (tailOk K r) (clsOk K)
noncomputable def slotsOk : List (Option Value) → Bool
  | [_, _, _, _, some v, _] => v == .builtin "ValueError.__new__"
  | _ => false
noncomputable def mroOk (K : Frag) (C : Addr) : List Value → Bool
  | .ref C' :: bm => C' == C && tailOk K bm
  | _ => false
noncomputable def excOk (K : Frag) (C : Addr) : Bool := match K.lookup C with
  | some o => (match o.data with
    | .cls cd => o.cls == .type "type" && !cd.hasDel && mroOk K C cd.mro && noInit K cd.ns && slotsOk o.slots.toList
    | _ => false)
  | none => false
noncomputable def bmOf (K : Frag) (C : Addr) : List Value := match clsIn K C with | some cd => cd.mro.tail | none => []

variable {K : Frag} {h : Heap}
theorem noInit_ns {a : Addr} (X : K.In h) (e : noInit K a = true) : ∃ m, h.Ns a m ∧ m "__init__" = none := by
  unfold noInit at e
  split at e
  · rename_i o ho
    split at e
    · rename_i es k hd
      rw [Bool.and_eq_true] at e
      refine ⟨_, ⟨o, es, k, X _ _ ho, hd, fun x hx => ?_, fun _ => rfl⟩, ?_⟩
      · have := List.all_eq_true.mp e.1 x (Array.mem_def.mp hx)
        unfold isText at this
        split at this
        · rename_i n t hk; exact ⟨n, t, hk⟩
        · cases this
      · unfold nsFind findBy
        obtain ⟨l⟩ := es
        simp only [List.find?_toArray] at *
        rw [Option.isNone_iff_eq_none.mp e.2]; rfl
    · cases e
  · cases e
theorem tail_of (X : K.In h) : ∀ {l : List Value}, tailOk K l = true → OwnTail h veB l
  | [], e => by cases e
  | v :: r, e => by
    rw [tailOk, Bool.or_eq_true] at e
    rcases e with e | e
    · rw [beq_iff_eq.mp e]; exact .base
    · obtain ⟨a, rfl, e1, e2⟩ := onA_of e
      unfold clsOk at e1
      split at e1
      · rename_i o ho
        split at e1
        · rename_i cd hd
          obtain ⟨m, h1, h2⟩ := noInit_ns X e1
          obtain ⟨c0, dd, d, sl⟩ := o
          cases hd
          exact .own (X _ _ ho) h1 h2 (tail_of X e2)
        · cases e1
      · cases e1
theorem exc_of {C : Addr} (X : K.In h) (e : excOk K C = true) : ExcAt h C (bmOf K C) := by
  unfold excOk at e
  split at e
  · rename_i o ho
    split at e
    · rename_i cd hd
      obtain ⟨c0, dd, d, sl⟩ := o
      cases hd
      simp only [Bool.and_eq_true, Bool.not_eq_true', beq_iff_eq] at e
      obtain ⟨⟨⟨⟨e1, e2⟩, e3⟩, e4⟩, e5⟩ := e
      cases e1
      have hb : bmOf K C = cd.mro.tail := by unfold bmOf clsIn; rw [ho]
      rw [hb]
      obtain ⟨nm, bs, mro, ns, q, hdct, sn, sub, ab, col, del⟩ := cd
      dsimp only at e2 e3 e4 hb ⊢
      subst e2
      unfold mroOk at e3
      split at e3
      · rename_i C' bm
        rw [Bool.and_eq_true, beq_iff_eq] at e3
        obtain ⟨rfl, e3⟩ := e3
        obtain ⟨m, h1, h2⟩ := noInit_ns X e4
        obtain ⟨sl⟩ := sl
        unfold slotsOk at e5
        split at e5
        · rename_i k0 k1 k2 k3 v k5 hs
          have hs : sl = _ := hs
          subst hs
          rw [beq_iff_eq.mp e5] at ho
          exact ⟨ns, nm, q, bs, hdct, sn, sub, ab, col, dd, k0, k1, k2, k3, k5, m, X _ _ ho, h1, h2, tail_of X e3⟩
        · cases e5
      · cases e3
    · cases e
  · cases e

noncomputable def okExc (N : Nm) (P : Prog) (K : Frag) (c : Nat) (n : Str) : Bool := n == ("" : Str) || (nsIn K mainGlobals n == some (some (.ref (atIn K n))) && excOk K (atIn K n) && askIn K (atIn K n)
  && N.exm.zipIdx.all fun q => q.1 == ("" : Str) || mroIn K (atIn K n) (.ref (atIn K q.1)) == some (((P.excs[c]?).getD []).contains q.2))
noncomputable def okExs (N : Nm) (P : Prog) (K : Frag) : Bool := N.exm.zipIdx.all (fun q => okExc N P K q.2 q.1) && P.rz.all (fun c => match N.exm[c]? with | some n => !(n == ("" : Str)) | none => false)

theorem gs_any (K : Frag) : specialIn K (.builtin "object.__class__") "__get__" = some (some (.builtin "getset_descriptor.__get__")) := by kernel_rfl
theorem tk_any (K : Frag) : takesIn K (.builtin "object.__class__") = some true := by kernel_rfl
theorem zip_mem {α : Type} {l : List α} {c : Nat} {n : α} (h : l[c]? = some n) : (n, c) ∈ l.zipIdx := List.mk_mem_zipIdx_iff_getElem?.mpr h
noncomputable def exsOf {T : St} {N : Nm} (G : Gd T N) (hx : T.exc = excA G.K N) (e : okExs N T.P G.K = true) : Exs T N G := by
  unfold okExs at e
  rw [Bool.and_eq_true] at e
  have key : ∀ (c : Nat) (n : Str), N.exm[c]? = some n → n ≠ ("" : Str) → T.exc c = atIn G.K n ∧ nsIn G.K mainGlobals n = some (some (.ref (atIn G.K n))) ∧ excOk G.K (atIn G.K n) = true ∧ askIn G.K (atIn G.K n) = true ∧ ∀ c' n', N.exm[c']? = some n' → n' ≠ ("" : Str) → mroIn G.K (atIn G.K n) (.ref (atIn G.K n')) = some (((T.P.excs[c]?).getD []).contains c') := fun c n h1 h2 => by
    have := List.all_eq_true.mp e.1 _ (zip_mem h1)
    dsimp only at this
    unfold okExc at this
    rw [beq_eq_false_iff_ne.mpr h2, Bool.false_or] at this
    simp only [Bool.and_eq_true, beq_iff_eq] at this
    obtain ⟨⟨⟨e1, e2⟩, e3⟩, e4⟩ := this
    refine ⟨by rw [hx, excA, h1]; rfl, e1, e2, e3, fun c' n' h3 h4 => ?_⟩
    have := List.all_eq_true.mp e4 _ (zip_mem h3)
    dsimp only at this
    rw [beq_eq_false_iff_ne.mpr h4, Bool.false_or] at this
    exact beq_iff_eq.mp this
  exact {
    bm := fun c => bmOf G.K (T.exc c)
    at' := fun c n h1 h2 => by
      obtain ⟨k1, k2, k3, _⟩ := key c n h1 h2
      rw [k1]; exact ⟨k2, exc_of G.kin k3⟩
    ask := fun c n h1 h2 => by
      obtain ⟨k1, _, _, k4, _⟩ := key c n h1 h2
      rw [k1]; exact asks_of k4
    sub := fun c c' n n' h1 h2 h3 h4 => by
      obtain ⟨k1, _, _, _, k5⟩ := key c n h1 h3
      obtain ⟨k1', _⟩ := key c' n' h2 h4
      rw [k1, k1']; exact k5 c' n' h2 h4
    named := fun c hc => by
      have := List.all_eq_true.mp e.2 c (by simpa using hc)
      split at this
      · rename_i n hn
        exact ⟨n, hn, fun q => by rw [q] at this; cases this⟩
      · cases this
    gs := gs_any _
    tk := tk_any _ }

-- tables
noncomputable def tabEs (K : Frag) (n : Str) : List DictEntry := match K.lookup (atIn K n) with
  | some o => (match o.data with | .dict es _ => es.toList | _ => [])
  | none => []
noncomputable def isTx (l : List Nat) : Value → Bool | .str s _ => s.cps.toList == l | _ => false
noncomputable def rowsOk : List (List Nat × List Nat) → List DictEntry → Bool
  | [], [] => true
  | p :: r, e :: es => isTx p.1 e.key && isTx p.2 e.val && rowsOk r es
  | _, _ => false
noncomputable def tabOk (K : Frag) (n : Str) (tb : List (List Nat × List Nat)) : Bool := nsIn K mainGlobals n == some (some (.ref (atIn K n))) && !(atIn K n == sysModules) && (match K.lookup (atIn K n) with
  | some o => (match o.data with | .dict es _ => o.cls == .type "dict" && o.dict.isNone && o.slots.toList.isEmpty && rowsOk tb es.toList | _ => false)
  | none => false)
noncomputable def tabsOk (K : Frag) : List Str → List (List (List Nat × List Nat)) → Bool
  | n :: ns, tb :: ts => tabOk K n tb && tabsOk K ns ts
  | _, [] => true
  | [], _ => false
noncomputable def hashes (p : Params) (tb : List (List Nat × List Nat)) : List Int := tb.map fun x => PyData.keyHash p ⟨x.1.toArray⟩
theorem isTx_eq {l : List Nat} {v : Value} (e : isTx l v = true) : ∃ t, v = .str ⟨l.toArray⟩ t := by
  unfold isTx at e
  split at e
  · rename_i s t
    obtain ⟨⟨s⟩⟩ := s
    exact ⟨t, by rw [← beq_iff_eq.mp e]⟩
  · cases e
theorem rows_of {p : Params} : ∀ {tb : List (List Nat × List Nat)} {es : List DictEntry}, rowsOk tb es = true → es.map (·.hash) = hashes p tb → KeysLit p es ∧ TabR tb es
  | [], [], _, _ => ⟨trivial, rfl⟩
  | x :: tb, e :: es, h, hh => by
    rw [rowsOk, Bool.and_eq_true, Bool.and_eq_true] at h
    obtain ⟨⟨h1, h2⟩, h3⟩ := h
    obtain ⟨t, h1⟩ := isTx_eq h1
    obtain ⟨u, h2⟩ := isTx_eq h2
    obtain ⟨e1, e2⟩ := List.cons.inj hh
    obtain ⟨r1, r2⟩ := rows_of h3 e2
    exact ⟨⟨⟨_, t, h1, e1⟩, r1⟩, e, es, t, u, rfl, h1, h2, r2⟩
  | [], _ :: _, h, _ => by cases h
  | _ :: _, [], h, _ => by cases h
theorem tab_of {p : Params} {n : Str} {tb : List (List Nat × List Nat)} (e : tabOk K n tb = true) (hh : (tabEs K n).map (·.hash) = hashes p tb) : ∃ a es k, nsIn K mainGlobals n = some (some (.ref a)) ∧ K.lookup a = some ⟨.type "dict", none, .dict es k, #[]⟩ ∧ KeysLit p es.toList ∧ TabR tb es.toList ∧ (a == sysModules) = false := by
  unfold tabOk at e
  rw [Bool.and_eq_true, Bool.and_eq_true, beq_iff_eq, Bool.not_eq_true'] at e
  obtain ⟨⟨e1, e2⟩, e3⟩ := e
  unfold tabEs at hh
  split at e3
  · rename_i o ho
    split at e3
    · rename_i es k hd
      obtain ⟨c0, dd, d, sl⟩ := o
      cases hd
      rw [ho] at hh
      simp only [Bool.and_eq_true, beq_iff_eq, Option.isNone_iff_eq_none, List.isEmpty_iff] at e3
      obtain ⟨⟨⟨q1, q2⟩, q3⟩, q4⟩ := e3
      cases q1; cases q2
      obtain ⟨sl⟩ := sl
      have q3 : sl = [] := q3
      subst q3
      obtain ⟨r1, r2⟩ := rows_of q4 hh
      exact ⟨_, es, k, e1, ho, r1, r2, e2⟩
    · cases e3
  · cases e3
theorem tabs_get : ∀ {ns : List Str} {ts : List (List (List Nat × List Nat))}, tabsOk K ns ts = true → ∀ (t : Nat) n tb, ns[t]? = some n → ts[t]? = some tb → tabOk K n tb = true
  | n :: ns, tb :: ts, h, 0, _, _, h1, h2 => by
    rw [tabsOk, Bool.and_eq_true] at h
    cases h1; cases h2; exact h.1
  | n :: ns, tb :: ts, h, g + 1, _, _, h1, h2 => by
    rw [tabsOk, Bool.and_eq_true] at h
    exact tabs_get h.2 g _ _ h1 h2
  | _, [], _, _, _, _, _, h2 => by cases h2
  | [], _ :: _, _, _, _, _, h1, _ => by cases h1
noncomputable def hashObs (K : Frag) (ns : List Str) : List (List Int) := ns.map fun n => (tabEs K n).map (·.hash)
theorem hash_get {p : Params} : ∀ {ns : List Str} {ts : List (List (List Nat × List Nat))}, hashObs K ns = ts.map (hashes p) → ∀ (t : Nat) n tb, ns[t]? = some n → ts[t]? = some tb → (tabEs K n).map (·.hash) = hashes p tb := by
  intro ns ts e t n tb h1 h2
  have := congrArg (fun l => l[t]?) e
  simp only [hashObs, List.getElem?_map, h1, h2, Option.map_some] at this
  exact Option.some.inj this

-- all checks
noncomputable def chkAll (N : Nm) (P : Prog) (gams : List (Nat × Gam)) (K : Frag) : Bool :=
  N.fnm.all (okName K) && bnames.all (okBoot K) && okVals K N.glm N.glv && okFns K N gams P.fns && (P.rz.isEmpty || okExs N P K) && tabsOk K N.tbm P.tabs
noncomputable def hookOf (N : Nm) (P : Prog) (gams : List (Nat × Gam)) : Hook where
  α := Bool × List (List Int)
  obs := fun s => (chkAll N P gams (fragAll s.heap), hashObs (fragAll s.heap) N.tbm)
  val := fun w => (true, P.tabs.map (hashes w.params))
  says := fun w h => ∃ K : Frag, K.In h ∧ chkAll N P gams K = true ∧ hashObs K N.tbm = P.tabs.map (hashes w.params)
  of := fun w s e => ⟨_, fragAll_in _, congrArg Prod.fst e, congrArg Prod.snd e⟩
  keeps := fun w h h' ⟨K, x, r⟩ k => ⟨K, x.keeps k, r⟩

/-- the law's call, from the checks -/
theorem good_of {N : Nm} {P : Prog} {gams : List (Nat × Gam)} {prog : Program} {w : World} {s : Shared} {mg mb : Str → Option Value} {fa l : Addr} {f d : Nat} {xs : List Int} (Y : (hookOf N P gams).says w s.heap) (hext : N.ext = false) (hf : N.fnm[f]? = some "law") (nl : s.heap.NoLimit)
    (hg : s.heap.Ns mainGlobals mg) (hmg : mg "law" = some (.ref fa)) (hb : s.heap.Ns builtinsNs mb) (hmb : ∀ x : Str, x ≠ "__name__" → mb x = bootBuiltins x) (hd : d ≤ 20) (hw : Well w.params s.heap (.ref l) (.list (xs.map WData.int)))
    (hp : callN P (d + 1) true f [.lst (xs.map .int)] [] = .ok (.bool true) []) :
    codeAny (model prog w) callerA (.call (.ref fa) ⟨[.ref l], []⟩) (fun r s' => r = .ok (.ret (.bool true)) ∧ (∀ b o, s.heap.get? b = some o → s'.heap.get? b = some o) ∧ s'.os = s.os ∧ s'.gens = s.gens) s := by
  obtain ⟨K, kin, hc, hh⟩ := Y
  unfold chkAll at hc
  simp only [Bool.and_eq_true, Bool.or_eq_true] at hc
  obtain ⟨⟨⟨⟨⟨c1, c2⟩, c3⟩, c4⟩, c5⟩, c6⟩ := hc
  let T : St := { prog := prog, w := w, P := P, base := s.heap, nolim := nl, cls := fun _ => 0, attrs := fun _ => [], exc := excA K N }
  let G : Gd T N := gdOf T N K kin ⟨mb, hb, hmb⟩ c1 c2 c3
  have hfn : fa = G.fn f := by
    have h1 := (G.fns f "law" hf (by decide)).1
    have h2 := ns_agrees kin hg h1
    rw [hmg] at h2; cases h2; rfl
  subst hfn
  exact law_good (T := T) G (codOf G rfl gams c4) ⟨fun t n tb hn ht => tab_of (tabs_get c6 t n tb hn ht) (hash_get hh t n tb hn ht)⟩ hext (fun e => exsOf G rfl (c5.resolve_left fun q => by rw [show P.rz.isEmpty = false from e] at q; cases q)) rfl hd hw hp
end
end Mine
end
section
set_option genSizeOf false
namespace Mine.Law
noncomputable section
/-- _law_cell_at(_law_script, _law_k): 0 _law_script, 1 _law_k -/
/- no. 2; laws 02 03 04 05 06 07 08 09 10 13 14 -/
noncomputable def fn_cell_at : Fn := { npar := 2, nloc := 2, pure := true, body := [.ite (.t (.cmp .lt (.var 1) (.bi .len [(.var 0)]))) [.ret (.sub (.var 0) (.var 1))] [],
      .ret (.const (.int 0))] }
/-- _law_whole(_law_found): 0 _law_found -/
/- no. 3; laws 02 03 04 06 07 08 09 10 13 14 -/
noncomputable def fn_whole : Fn := { npar := 1, nloc := 1, pure := true, body := [.ret (.and [(.isinst (.var 0) .int), (.not (.isinst (.var 0) .bool))])] }
/-- _law_mixed(_law_cell): 0 _law_cell -/
/- no. 4; laws 02 03 04 05 06 07 08 09 10 13 14 -/
noncomputable def fn_mixed : Fn := { npar := 1, nloc := 1, pure := true, body := [.ret (.bin .mod (.bin .mul (.var 0) (.const (.int 48271))) (.const (.int 2147483647)))] }
/-- _law_alone(_law_e, _law_own): 0 _law_e, 1 _law_own, 2 _law_some -/
/- no. 10; laws 02 03 06 07 13 -/
noncomputable def fn_alone : Fn := { npar := 2, nloc := 3, pure := true, body := [.assign 2 (.list true [(.isinst (.var 0) (.cls 1)), (.isinst (.var 0) (.cls 2)), (.isinst (.var 0) (.cls 3)), (.isinst (.var 0) (.cls 4))]),
      .expr (.bm .append (.var 2) [(.isinst (.var 0) (.cls 5))]),
      .ret (.and [(.cmp .eq (.bm .count (.var 2) [(.const (.bool true))]) (.const (.int 1))), (.sub (.var 2) (.var 1)), (.isinst (.var 0) (.cls 0)), (.isinst (.var 0) .valueError)])] }
/-- is_whole(thing, least, most): 0 thing, 1 least, 2 most -/
/- no. 12; laws 03 04 05 06 07 08 09 10 -/
noncomputable def fn_is_whole : Fn := { npar := 3, nloc := 3, pure := true, body := [.ret (.and [(.isinst (.var 0) .int), (.not (.isinst (.var 0) .bool)), (.cmp2 .le .le (.var 1) (.var 0) (.var 2))])] }
/-- is_part(sign, thing, size, count): 0 sign, 1 thing, 2 size, 3 count -/
/- no. 13; laws 03 04 05 06 10 -/
noncomputable def fn_is_part : Fn := { npar := 4, nloc := 4, pure := true, body := [.ite (.t (.cmp .eq (.var 0) (.const (.str [98])))) [.ret (.call 12 [(.var 1), (.const (.int 0)), (.bin .sub (.var 2) (.const (.int 1)))])] [],
      .ite (.t (.cmp .eq (.var 0) (.const (.str [110])))) [.ret (.call 12 [(.var 1), (.const (.int 0)), (.glob 3 (.int 999999))])] [],
      .ret (.call 12 [(.var 1), (.const (.int 0)), (.var 3)])] }
/-- fits(row, size, count): 0 row, 1 size, 2 count, 3 form, 4 at -/
/- no. 14; laws 03 04 05 06 10 -/
noncomputable def fn_fits : Fn := { npar := 3, nloc := 5, pure := true, body := [.ite (.or [(.not (.t (.isinst (.var 0) .tuple))), (.t (.cmp .eq (.bi .len [(.var 0)]) (.const (.int 0)))), (.not (.t (.isinst (.sub (.var 0) (.const (.int 0))) .str))), (.t (.inTab true 0 (.sub (.var 0) (.const (.int 0)))))]) [.ret (.const (.bool false))] [],
      .assign 3 (.subTab 0 (.sub (.var 0) (.const (.int 0)))),
      .ite (.t (.cmp .ne (.bi .len [(.var 0)]) (.bin .add (.bi .len [(.var 3)]) (.const (.int 1))))) [.ret (.const (.bool false))] [],
      .for1 4 (.range1 (.bi .len [(.var 3)])) [.ite (.not (.t (.call 13 [(.sub (.var 3) (.var 4)), (.sub (.var 0) (.bin .add (.var 4) (.const (.int 1)))), (.var 1), (.var 2)]))) [.ret (.const (.bool false))] []],
      .ret (.const (.bool true))] }
/-- checked(rows, size): 0 rows, 1 size, 2 row -/
/- no. 15; laws 03 -/
noncomputable def fn_checked : Fn := { npar := 2, nloc := 3, pure := false, body := [.ite (.t (.cmp .gt (.bi .len [(.var 0)]) (.glob 2 (.int 200)))) [.raise 1 [116, 111, 111, 32, 109, 97, 110, 121, 32, 114, 111, 119, 115]] [],
      .for1 2 (.of (.var 0)) [.ite (.not (.t (.call 14 [(.var 2), (.var 1), (.bi .len [(.var 0)])]))) [.raise 1 [97, 32, 114, 111, 119, 32, 116, 104, 97, 116, 32, 100, 111, 101, 115, 32, 110, 111, 116, 32, 102, 105, 116]] []],
      .ret (.toList true (.var 0))] }
/-- _law_size_by(_law_cell): 0 _law_cell -/
/- no. 16; laws 03 04 05 07 10 -/
noncomputable def fn_size_by : Fn := { npar := 1, nloc := 1, pure := true, body := [.ret (.sub (.list false [(.bin .add (.const (.int 1)) (.bin .mod (.bin .div (.var 0) (.const (.int 8))) (.const (.int 9)))), (.bin .add (.const (.int 1)) (.bin .mod (.bin .div (.var 0) (.const (.int 8))) (.const (.int 3)))), (.bin .add (.const (.int 10)) (.bin .mod (.bin .div (.var 0) (.const (.int 8))) (.const (.int 190)))), (.const (.int 200))]) (.sub (.list false [(.const (.int 0)), (.const (.int 0)), (.const (.int 0)), (.const (.int 0)), (.const (.int 1)), (.const (.int 2)), (.const (.int 2)), (.const (.int 3))]) (.bin .mod (.var 0) (.const (.int 8)))))] }
/-- _law_edge(_law_cell, _law_last): 0 _law_cell, 1 _law_last -/
/- no. 17; laws 03 06 -/
noncomputable def fn_edge : Fn := { npar := 2, nloc := 2, pure := true, body := [.ret (.sub (.list false [(.bin .sub (.const (.int 0)) (.const (.int 1))), (.const (.int 0)), (.var 1), (.bin .add (.var 1) (.const (.int 1))), (.bin .mod (.call 4 [(.var 0)]) (.bin .add (.var 1) (.const (.int 1)))), (.bin .mod (.call 4 [(.var 0)]) (.bin .add (.var 1) (.const (.int 1))))]) (.bin .mod (.var 0) (.const (.int 6))))] }
/-- _law_marks(_law_word): 0 _law_word, 1 _law_names -/
/- no. 18; laws 03 06 -/
noncomputable def fn_marks : Fn := { npar := 1, nloc := 2, pure := true, body := [.assign 1 (.list false [(.const (.str [115, 101, 116])), (.const (.str [99, 111, 112, 121])), (.const (.str [97, 100, 100])), (.const (.str [115, 117, 98])), (.const (.str [102, 101, 116, 99, 104])), (.const (.str [115, 116, 111, 114, 101])), (.const (.str [108, 101, 115, 115])), (.const (.str [106, 117, 109, 112])), (.const (.str [116, 101, 108, 108]))]),
      .ite (.t (.cmp .notIn (.var 0) (.var 1))) [.ret (.const (.str []))] [],
      .ret (.sub (.list false [(.const (.str [98, 110])), (.const (.str [98, 98])), (.const (.str [98, 98, 98])), (.const (.str [98, 98, 98])), (.const (.str [98, 98])), (.const (.str [98, 98])), (.const (.str [98, 98, 112])), (.const (.str [112])), (.const (.str [98]))]) (.bm .index (.var 1) [(.var 0)]))] }
/-- _law_thing_by(_law_script, _law_size, _law_count): 0 _law_script, 1 _law_size, 2 _law_count, 3 _law_first, 4 _law_word, 5 _law_marks_here, 6 _law_parts, 7 _law_k, 8 _law_last, 9 _law_odd -/
/- no. 19; laws 03 06 -/
noncomputable def fn_thing_by : Fn := { npar := 3, nloc := 10, pure := true, body := [.assign 3 (.call 2 [(.var 0), (.const (.int 2))]),
      .assign 4 (.sub (.list false [(.const (.str [115, 101, 116])), (.const (.str [99, 111, 112, 121])), (.const (.str [97, 100, 100])), (.const (.str [115, 117, 98])), (.const (.str [102, 101, 116, 99, 104])), (.const (.str [115, 116, 111, 114, 101])), (.const (.str [108, 101, 115, 115])), (.const (.str [106, 117, 109, 112])), (.const (.str [116, 101, 108, 108])), (.const (.str [104, 97, 108, 116]))]) (.bin .mod (.var 3) (.const (.int 10)))),
      .assign 5 (.call 18 [(.var 4)]),
      .ite (.t (.cmp .eq (.bin .mod (.bin .div (.var 3) (.const (.int 10))) (.const (.int 6))) (.const (.int 1)))) [.assign 5 (.slice false (.var 5) (.const .none) (.const (.int (-1))))] [],
      .ite (.t (.cmp .eq (.bin .mod (.bin .div (.var 3) (.const (.int 10))) (.const (.int 6))) (.const (.int 2)))) [.assign 5 (.bin .add (.var 5) (.const (.str [98])))] [],
      .assign 6 (.list true [(.var 4)]),
      .for1 7 (.range1 (.bi .len [(.var 5)])) [.assign 8 (.sub (.list false [(.bin .sub (.var 1) (.const (.int 1))), (.const (.int 999999)), (.var 2)]) (.bm .index (.const (.str [98, 110, 112])) [(.sub (.var 5) (.var 7))])),
      .expr (.bm .append (.var 6) [(.call 17 [(.call 2 [(.var 0), (.bin .add (.const (.int 3)) (.var 7))]), (.var 8)])])],
      .assign 9 (.bin .mod (.bin .div (.var 3) (.const (.int 60))) (.const (.int 16))),
      .ite (.and [(.t (.cmp .isIn (.var 9) (.tuple [(.const (.int 1)), (.const (.int 2))]))), (.t (.cmp .gt (.bi .len [(.var 6)]) (.const (.int 1))))]) [.setsub (.var 6) (.bin .add (.const (.int 1)) (.bin .mod (.bin .div (.var 3) (.const (.int 960))) (.bin .sub (.bi .len [(.var 6)]) (.const (.int 1))))) (.sub (.list false [(.const (.bool true)), (.const (.str [48])), (.list false [(.const (.int 0))]), (.const .none)]) (.bin .mod (.call 2 [(.var 0), (.const (.int 8))]) (.const (.int 4))))] [],
      .ite (.t (.cmp .eq (.var 9) (.const (.int 3)))) [.ret (.freeze (.sub (.list false [(.var 6), (.tuple [(.const (.int 1)), (.const (.int 0))]), (.tuple []), (.const .none), (.var 4), (.tuple [(.const .none), (.const (.int 0))])]) (.bin .mod (.bin .div (.var 3) (.const (.int 960))) (.const (.int 6)))))] [],
      .ret (.bi .tuple [(.var 6)])] }
/-- _law_fits(_law_row, _law_size, _law_count): 0 _law_row, 1 _law_size, 2 _law_count, 3 _law_marks_here, 4 _law_k, 5 _law_last -/
/- no. 20; laws 03 06 -/
noncomputable def fn_fitsb : Fn := { npar := 3, nloc := 6, pure := true, body := [.ite (.or [(.not (.t (.isinst (.var 0) .tuple))), (.t (.cmp .eq (.bi .len [(.var 0)]) (.const (.int 0)))), (.not (.t (.isinst (.sub (.var 0) (.const (.int 0))) .str)))]) [.ret (.const (.bool false))] [],
      .assign 3 (.call 18 [(.sub (.var 0) (.const (.int 0)))]),
      .ite (.or [(.t (.cmp .eq (.var 3) (.const (.str [])))), (.t (.cmp .ne (.bi .len [(.var 0)]) (.bin .add (.const (.int 1)) (.bi .len [(.var 3)]))))]) [.ret (.const (.bool false))] [],
      .for1 4 (.range1 (.bi .len [(.var 3)])) [.assign 5 (.sub (.list false [(.bin .sub (.var 1) (.const (.int 1))), (.const (.int 999999)), (.var 2)]) (.bm .index (.const (.str [98, 110, 112])) [(.sub (.var 3) (.var 4))])),
      .ite (.or [(.not (.t (.call 3 [(.sub (.var 0) (.bin .add (.const (.int 1)) (.var 4)))]))), (.not (.t (.cmp2 .le .le (.const (.int 0)) (.sub (.var 0) (.bin .add (.const (.int 1)) (.var 4))) (.var 5))))]) [.ret (.const (.bool false))] []],
      .ret (.const (.bool true))] }
/-- law(_law_script): 0 _law_script, 1 _law_size, 2 _law_count, 3 _law_row, 4 _law_due, 5 _law_found, 6 _law_rows, 7 _law_good, 8 _law_given, 9 _law_e, 10 *_law_k -/
/- no. 21; laws 03 -/
noncomputable def fn_law03 : Fn := { npar := 1, nloc := 11, pure := true, body := [.assign 1 (.call 16 [(.call 2 [(.var 0), (.const (.int 0))])]),
      .assign 2 (.sub (.list false [(.bin .mod (.bin .div (.call 2 [(.var 0), (.const (.int 1))]) (.const (.int 4))) (.const (.int 10))), (.const (.int 200)), (.const (.int 201)), (.const (.int 1))]) (.bin .mod (.call 2 [(.var 0), (.const (.int 1))]) (.const (.int 4)))),
      .assign 3 (.call 19 [(.var 0), (.var 1), (.var 2)]),
      .assign 4 (.call 20 [(.var 3), (.var 1), (.var 2)]),
      .assign 5 (.call 14 [(.var 3), (.var 1), (.var 2)]),
      .ite (.or [(.not (.t (.isinst (.var 5) .bool))), (.t (.cmp .ne (.var 5) (.var 4)))]) [.ret (.const (.bool false))] [],
      .assign 6 (.comp true 10 (.tuple [(.const (.str [106, 117, 109, 112])), (.bin .mod (.bin .add (.var 10) (.const (.int 1))) (.bin .add (.var 2) (.const (.int 1))))]) (.range1 (.var 2)) []),
      .assign 7 (.cmp .le (.var 2) (.const (.int 200))),
      .ite (.and [(.t (.cmp .gt (.var 2) (.const (.int 0)))), (.t (.cmp .gt (.bin .mod (.call 2 [(.var 0), (.const (.int 7))]) (.const (.int 3))) (.const (.int 0))))]) [.setsub (.var 6) (.bin .mod (.bin .div (.call 2 [(.var 0), (.const (.int 7))]) (.const (.int 3))) (.var 2)) (.var 3),
      .assign 7 (.and [(.var 7), (.var 4)])] [],
      .assign 8 (.toList false (.var 6)),
      .try [.assign 5 (.call 15 [(.var 8), (.var 1)])] [(1, some 9, [.ret (.and [(.not (.var 7)), (.call 10 [(.var 9), (.const (.int 0))])])])],
      .ite (.or [(.not (.t (.var 7))), (.not (.t (.isinst (.var 5) .list))), (.t (.cmp .ne (.var 5) (.var 6))), (.t (.cmp .ne (.var 8) (.var 6)))]) [.ret (.const (.bool false))] [],
      .expr (.bm .append (.var 5) [(.const .none)]),
      .ret (.cmp .eq (.var 8) (.var 6))] }
end
end Mine.Law
end
section
namespace Mine.Law
noncomputable section
noncomputable def prog03 : Prog := { fns := [(2, fn_cell_at), (3, fn_whole), (4, fn_mixed), (10, fn_alone), (12, fn_is_whole), (13, fn_is_part), (14, fn_fits), (15, fn_checked), (16, fn_size_by), (17, fn_edge), (18, fn_marks), (19, fn_thing_by), (20, fn_fitsb), (21, fn_law03)], clss := [], excs := [[0], [1, 0], [2, 0], [3, 0], [4, 0], [5, 0]], tabs := [[([115, 101, 116], [98, 110]), ([99, 111, 112, 121], [98, 98]), ([97, 100, 100], [98, 98, 98]), ([115, 117, 98], [98, 98, 98]), ([102, 101, 116, 99, 104], [98, 98]), ([115, 116, 111, 114, 101], [98, 98]), ([108, 101, 115, 115], [98, 98, 112]), ([106, 117, 109, 112], [112]), ([116, 101, 108, 108], [98])]], rz := [0, 1, 2, 3, 4, 5] }
end
end Mine.Law
end
section
set_option linter.all false
namespace Mine
section
variable {P : Prog} {q : Bool} {cf : Nat → List V → H → R V} {cl : Bool → Nat → List V → H → R V}

/-- an end of a computation -/
inductive OKX {α : Type} (Q : α → H → Prop) (X : Nat → H → Prop) : R α → Prop where
  | ok {v : α} {h : H} (k : Q v h) : OKX Q X (.ok v h)
  | exc {c : Nat} {h : H} (k : X c h) : OKX Q X (.exc c h)
noncomputable def EV (P : Prog) (q : Bool) (call : Nat → List V → H → R V) (e : E) (ρ : Rho) (h : H) (Q : V → H → Prop) (X : Nat → H → Prop) : Prop := OKX Q X (evE P q call e ρ h)
noncomputable def EVs (P : Prog) (q : Bool) (call : Nat → List V → H → R V) (e : List E) (ρ : Rho) (h : H) (Q : List V → H → Prop) (X : Nat → H → Prop) : Prop := OKX Q X (evEs P q call e ρ h)
noncomputable def IT (P : Prog) (q : Bool) (call : Nat → List V → H → R V) (e : It) (ρ : Rho) (h : H) (Q : V → H → Prop) (X : Nat → H → Prop) : Prop := OKX Q X (evIt P q call e ρ h)
noncomputable def CC (P : Prog) (q : Bool) (call : Nat → List V → H → R V) (e : C) (ρ : Rho) (h : H) (Q : Bool → H → Prop) (X : Nat → H → Prop) : Prop := OKX Q X (evC P q call e ρ h)
noncomputable def CCa (P : Prog) (q : Bool) (call : Nat → List V → H → R V) (e : List C) (ρ : Rho) (h : H) (Q : Bool → H → Prop) (X : Nat → H → Prop) : Prop := OKX Q X (evCand P q call e ρ h)
noncomputable def CCo (P : Prog) (q : Bool) (call : Nat → List V → H → R V) (e : List C) (ρ : Rho) (h : H) (Q : Bool → H → Prop) (X : Nat → H → Prop) : Prop := OKX Q X (evCor P q call e ρ h)
noncomputable def CCi (P : Prog) (q : Bool) (call : Nat → List V → H → R V) (e : List C) (ρ : Rho) (h : H) (Q : Bool → H → Prop) (X : Nat → H → Prop) : Prop := OKX Q X (evIfs P q call e ρ h)
noncomputable def EVa (P : Prog) (q : Bool) (call : Nat → List V → H → R V) (e : List E) (ρ : Rho) (h : H) (Q : V → H → Prop) (X : Nat → H → Prop) : Prop := OKX Q X (evAnd P q call e ρ h)
/-- a value's computation -/
noncomputable def RV {α : Type} (r : R α) (Q : α → H → Prop) (X : Nat → H → Prop) : Prop := OKX Q X r
noncomputable def OV {α : Type} (r : Option α) (Q : α → Prop) : Prop := ∃ v, r = some v ∧ Q v
noncomputable def SP (b : Bool) (A B : Prop) : Prop := (b = true → A) ∧ (b = false → B)
noncomputable def TV (v : V) (Q : Bool → Prop) : Prop := ∃ b, v = .bool b ∧ Q b

noncomputable def IsS (v : V) (Q : List Nat → Prop) : Prop := ∃ s, v = .str s ∧ Q s
noncomputable def IsI (v : V) (Q : Int → Prop) : Prop := ∃ s, v = .int s ∧ Q s
theorem IsS.of {s : List Nat} {Q : List Nat → Prop} (k : Q s) : IsS (.str s) Q := ⟨s, rfl, k⟩
theorem IsI.of {s : Int} {Q : Int → Prop} (k : Q s) : IsI (.int s) Q := ⟨s, rfl, k⟩
/-- a method that the thing has -/
noncomputable def KM (m : Bm) (h : H) (x : V) (A : Prop) : Prop := okM m (kindM h x) = true ∧ A
noncomputable def KE (h h' : H) (x : V) (A : Prop) : Prop := kindM h' x = kindM h x ∧ A
theorem KM.of {m : Bm} {h : H} {x : V} {A : Prop} (e : okM m (kindM h x) = true) (k : A) : KM m h x A := ⟨e, k⟩
theorem KE.of {h : H} {x : V} {A : Prop} (k : A) : KE h h x A := ⟨rfl, k⟩
theorem kind_l {h : H} {n : Nat} {xs : List V} (e : h[n]? = some (.list xs)) : kindM h (.ref n) = 2 := by
  have h0 : ∀ o : Option M, o = some (.list xs) → (match o with | some (.list _) => 2 | some (.dict _) => 3 | _ => 0) = 2 := by rintro _ rfl; rfl
  exact h0 _ e
theorem KM.lst {m : Bm} {h : H} {n : Nat} {xs : List V} {A : Prop} (e : h[n]? = some (.list xs)) (hm : okM m 2 = true) (k : A) : KM m h (.ref n) A := ⟨by rw [kind_l e]; exact hm, k⟩
theorem OKX_bind {α β : Type} {r : R α} {f : α → H → R β} {Q : β → H → Prop} {X : Nat → H → Prop} (h : OKX (fun v h => OKX Q X (f v h)) X r) : OKX Q X (r.bind f) := by
  cases h with
  | ok k => exact k
  | exc k => exact .exc k
theorem OKX.mono {α : Type} {r : R α} {Q Q' : α → H → Prop} {X X' : Nat → H → Prop} (h : OKX Q X r) (hq : ∀ v h, Q v h → Q' v h) (hx : ∀ c h, X c h → X' c h) : OKX Q' X' r := by
  cases h with
  | ok k => exact .ok (hq _ _ k)
  | exc k => exact .exc (hx _ _ k)

section
variable {ρ : Rho} {h : H} {Q : V → H → Prop} {Qb : Bool → H → Prop} {Qs : List V → H → Prop} {X : Nat → H → Prop} {a b c : E} {es : List E}
theorem OV.of {α : Type} {o : Option α} {v : α} {Q : α → Prop} (e : o = some v) (k : Q v) : OV o Q := ⟨v, e, k⟩
theorem RV.ok {α : Type} {r : R α} {v : α} {h' : H} {Q : α → H → Prop} (e : r = .ok v h') (k : Q v h') : RV r Q X := by rw [e]; exact OKX.ok k
theorem RV.exc {α : Type} {r : R α} {c : Nat} {h' : H} {Q : α → H → Prop} (e : r = .exc c h') (k : X c h') : RV r Q X := by rw [e]; exact OKX.exc k
theorem SP.dec {p : Prop} {_ : Decidable p} {A B : Prop} (h1 : p → A) (h2 : ¬ p → B) : SP (decide p) A B := ⟨fun e => h1 (of_decide_eq_true e), fun e => h2 (of_decide_eq_false e)⟩
theorem SP.dt {p : Prop} {_ : Decidable p} {A B : Prop} (hp : p) (k : A) : SP (decide p) A B := ⟨fun _ => k, fun e => absurd hp (of_decide_eq_false e)⟩
theorem SP.df {p : Prop} {_ : Decidable p} {A B : Prop} (hp : ¬ p) (k : B) : SP (decide p) A B := ⟨fun e => absurd (of_decide_eq_true e) hp, fun _ => k⟩
theorem SP.not {b : Bool} {A B : Prop} (k : SP b B A) : SP (!b) A B := by
  cases b with
  | true => exact ⟨(fun e => by cases e), fun _ => k.1 rfl⟩
  | false => exact ⟨fun _ => k.2 rfl, (fun e => by cases e)⟩
theorem SP.tt {A B : Prop} (k : A) : SP true A B := ⟨fun _ => k, fun e => by cases e⟩
theorem SP.ff {A B : Prop} (k : B) : SP false A B := ⟨(fun e => by cases e), fun _ => k⟩
theorem SP.bool {b : Bool} {A B : Prop} (h1 : b = true → A) (h2 : b = false → B) : SP b A B := ⟨h1, h2⟩
theorem SP.t {b : Bool} {A B : Prop} (e : b = true) (k : A) : SP b A B := ⟨fun _ => k, fun e' => by rw [e] at e'; cases e'⟩
theorem SP.f {b : Bool} {A B : Prop} (e : b = false) (k : B) : SP b A B := ⟨(fun e' => by rw [e] at e'; cases e'), fun _ => k⟩
theorem TV.of {b : Bool} {Q : Bool → Prop} (k : Q b) : TV (.bool b) Q := ⟨b, rfl, k⟩

theorem EV.var {i : Nat} {v : V} (e : ρ[i]? = some (some v)) (k : Q v h) : EV P q cf (.var i) ρ h Q X := by
  have h1 : ∀ o : Option (Option V), o = some (some v) → OKX Q X (match o with | some (some v) => R.ok v h | _ => R.fail) := by rintro _ rfl; exact .ok k
  exact h1 _ e
theorem EV.const {v : V} (k : Q v h) : EV P q cf (.const v) ρ h Q X := (.ok k)
theorem EV.glob {g : Nat} {v : V} (k : Q v h) : EV P q cf (.glob g v) ρ h Q X := (.ok k)
theorem EV.bin {op : Op} (k : EV P q cf a ρ h (fun x h => EV P q cf b ρ h (fun y h => RV (binV op h x y) Q X) X) X) : EV P q cf (.bin op a b) ρ h Q X :=
  OKX_bind (OKX.mono k (fun _ _ k => OKX_bind k) fun _ _ k => k)
theorem EV.not (k : EV P q cf a ρ h (fun x h => TV x fun b => Q (.bool (!b)) h) X) : EV P q cf (.not a) ρ h Q X :=
  OKX_bind (OKX.mono k (fun _ _ ⟨b, e, k⟩ => by subst e; exact .ok k) fun _ _ k => k)
theorem EV.and (k : EVa P q cf es ρ h Q X) : EV P q cf (.and es) ρ h Q X := k
theorem EV.cmp {op : COp} (k : EV P q cf a ρ h (fun x h => EV P q cf b ρ h (fun y h => OV (cmpV op h x y) fun t => Q (.bool t) h) X) X) : EV P q cf (.cmp op a b) ρ h Q X :=
  OKX_bind (OKX.mono k (fun _ _ k => OKX_bind (OKX.mono k (fun _ _ ⟨v, e, k⟩ => by rw [e]; exact .ok k) fun _ _ k => k)) fun _ _ k => k)
theorem EV.cmp2 {op1 op2 : COp} (k : EV P q cf a ρ h (fun x h => EV P q cf b ρ h (fun y h => OV (cmpV op1 h x y) fun t => SP t (EV P q cf c ρ h (fun z h => OV (cmpV op2 h y z) fun t => Q (.bool t) h) X) (Q (.bool false) h)) X) X) : EV P q cf (.cmp2 op1 op2 a b c) ρ h Q X :=
  OKX_bind (OKX.mono k (fun _ _ k => OKX_bind (OKX.mono k (fun _ _ ⟨v, e, k⟩ => by
    rw [e]
    cases v with
    | true => exact OKX_bind (OKX.mono (k.1 rfl) (fun _ _ ⟨v, e, k⟩ => by rw [e]; exact .ok k) fun _ _ k => k)
    | false => exact .ok (k.2 rfl)) fun _ _ k => k)) fun _ _ k => k)
theorem EV.call {f : Nat} (k : EVs P q cf es ρ h (fun vs h => RV (cf f vs h) Q X) X) : EV P q cf (.call f es) ρ h Q X := OKX_bind k
theorem EV.bi {f : Bi} (k : EVs P q cf es ρ h (fun vs h => RV (biV q f h vs) Q X) X) : EV P q cf (.bi f es) ρ h Q X := OKX_bind k
theorem EV.bm {m : Bm} (k : EV P q cf a ρ h (fun x h => KM m h x (EVs P q cf es ρ h (fun vs h' => KE h h' x (RV (bmV m h' x vs) Q X)) X)) X) : EV P q cf (.bm m a es) ρ h Q X :=
  OKX_bind (OKX.mono k (fun x h ⟨e, k⟩ => by
    rw [if_pos e]
    exact OKX_bind (OKX.mono k (fun vs h' ⟨e, k⟩ => by rw [if_pos e]; exact k) fun _ _ k => k)) fun _ _ k => k)
theorem EV.isinst {t : Ty} (e : okT P t = true) (k : EV P q cf a ρ h (fun x h => OV (isInst P h x t) fun b => Q (.bool b) h) X) : EV P q cf (.isinst a t) ρ h Q X := by
  have h1 : ∀ o : R V, OKX Q X o → OKX Q X (if okT P t then o else .fail) := fun o k => by rw [if_pos e]; exact k
  exact h1 _ (OKX_bind (OKX.mono k (fun _ _ ⟨v, e, k⟩ => by unfold instV; rw [e]; exact .ok k) fun _ _ k => k))
theorem EV.toList0 (k : EV P q cf a ρ h (fun x h => OV (seqOf h x) fun xs => xs.length ≤ 100000 ∧ Q (.lst xs) h) X) : EV P q cf (.toList false a) ρ h Q X :=
  OKX_bind (OKX.mono k (fun _ _ ⟨v, e, l, k⟩ => by rw [e]; dsimp only; rw [if_pos l]; exact .ok k) fun _ _ k => k)
theorem EV.toList1 (k : EV P q cf a ρ h (fun x h => OV (seqOf h x) fun xs => xs.length ≤ 100000 ∧ Q (.ref h.length) (h ++ [.list xs])) X) : EV P q cf (.toList true a) ρ h Q X :=
  OKX_bind (OKX.mono k (fun _ _ ⟨v, e, l, k⟩ => by rw [e]; dsimp only; rw [if_pos l]; exact .ok k) fun _ _ k => k)
theorem EV.sub (k : EV P q cf a ρ h (fun x h => EV P q cf b ρ h (fun y h => OV (getItem h x y) fun v => Q v h) X) X) : EV P q cf (.sub a b) ρ h Q X :=
  OKX_bind (OKX.mono k (fun _ _ k => OKX_bind (OKX.mono k (fun _ _ ⟨v, e, k⟩ => by rw [e]; exact .ok k) fun _ _ k => k)) fun _ _ k => k)
theorem EV.slice {mu : Bool} (k : EV P q cf a ρ h (fun x h => EV P q cf b ρ h (fun y h => EV P q cf c ρ h (fun z h => RV (sliceV mu h x y z) Q X) X) X) X) : EV P q cf (.slice mu a b c) ρ h Q X :=
  OKX_bind (OKX.mono k (fun _ _ k => OKX_bind (OKX.mono k (fun _ _ k => OKX_bind k) fun _ _ k => k)) fun _ _ k => k)
theorem EV.list0 (k : EVs P q cf es ρ h (fun vs h => Q (.lst vs) h) X) : EV P q cf (.list false es) ρ h Q X := OKX_bind (OKX.mono k (fun _ _ k => .ok k) fun _ _ k => k)
theorem EV.list1 (k : EVs P q cf es ρ h (fun vs h => Q (.ref h.length) (h ++ [.list vs])) X) : EV P q cf (.list true es) ρ h Q X := OKX_bind (OKX.mono k (fun _ _ k => .ok k) fun _ _ k => k)
theorem EV.tuple (k : EVs P q cf es ρ h (fun vs h => Q (.tup vs) h) X) : EV P q cf (.tuple es) ρ h Q X := OKX_bind (OKX.mono k (fun _ _ k => .ok k) fun _ _ k => k)
/-- a mutable list goes into a frozen one -/
theorem EV.freeze (k : EV P q cf a ρ h (fun x h => ∃ n xs, x = .ref n ∧ h[n]? = some (.list xs) ∧ Q (.lst xs) (h.set n .gone)) X) : EV P q cf (.freeze a) ρ h Q X :=
  OKX_bind (OKX.mono k (fun _ _ ⟨n, xs, e, l, k⟩ => by subst e; dsimp only; rw [l]; exact .ok k) fun _ _ k => k)
theorem EV.freezeV (k : EV P q cf a ρ h (fun x h => (∀ n, x ≠ .ref n) ∧ Q x h) X) : EV P q cf (.freeze a) ρ h Q X :=
  OKX_bind (OKX.mono k (fun x _ ⟨e, k⟩ => by cases x <;> first | exact .ok k | exact absurd rfl (e _)) fun _ _ k => k)
theorem EV.niTab {t : Nat} {tb : List (List Nat × List Nat)} (ht : P.tabs[t]? = some tb) (k : EV P q cf a ρ h (fun x h => IsS x fun s => Q (.bool (!(tb.any fun p => p.1 == s))) h) X) : EV P q cf (.inTab true t a) ρ h Q X :=
  OKX_bind (OKX.mono k (fun x _ ⟨s, e, k⟩ => by subst e; rw [ht]; dsimp only; rw [Bool.bne_true]; exact .ok k) fun _ _ k => k)
theorem EV.subTab {t : Nat} {tb : List (List Nat × List Nat)} (ht : P.tabs[t]? = some tb) (k : EV P q cf a ρ h (fun x h => IsS x fun s => OV (tb.find? fun p => p.1 == s) fun p => Q (.str p.2) h) X) : EV P q cf (.subTab t a) ρ h Q X := by
  have h1 : ∀ f : List (List Nat × List Nat) → R V, OKX Q X (f tb) → OKX Q X (match P.tabs[t]? with | some tb => f tb | none => .fail) := fun f k => by rw [ht]; exact k
  exact h1 _ (OKX_bind (OKX.mono k (fun x _ ⟨s, e, p, l, k⟩ => by subst e; dsimp only; rw [l]; exact .ok k) fun _ _ k => k))
theorem EVs.nil (k : Qs [] h) : EVs P q cf [] ρ h Qs X := (.ok k)
theorem EVs.cons (k : EV P q cf a ρ h (fun v h => EVs P q cf es ρ h (fun vs h => Qs (v :: vs) h) X) X) : EVs P q cf (a :: es) ρ h Qs X :=
  OKX_bind (OKX.mono k (fun _ _ k => OKX_bind (OKX.mono k (fun _ _ k => .ok k) fun _ _ k => k)) fun _ _ k => k)
theorem EVa.one (k : EV P q cf a ρ h Q X) : EVa P q cf [a] ρ h Q X := k
theorem EVa.cons (k : EV P q cf a ρ h (fun v h => TV v fun t => SP t (EVa P q cf (b :: es) ρ h Q X) (Q v h)) X) : EVa P q cf (a :: b :: es) ρ h Q X :=
  OKX_bind (OKX.mono k (fun _ _ ⟨t, e, k⟩ => by subst e; cases t with | true => exact k.1 rfl | false => exact .ok (k.2 rfl)) fun _ _ k => k)
theorem IT.of (k : EV P q cf a ρ h Q X) : IT P q cf (.of a) ρ h Q X := k
theorem okR_of {n : Int} (h1 : -1000000000000 ≤ n) (h2 : n < 1000000000000) : okR n = true := by simp [okR, h1, h2]
theorem IT.range1 (k : EV P q cf a ρ h (fun x h => IsI x fun n => (-1000 ≤ n ∧ n ≤ 100000) ∧ Q (.lst ((List.range n.toNat).map fun (i : Nat) => .int i)) h) X) : IT P q cf (.range1 a) ρ h Q X :=
  OKX_bind (OKX.mono k (fun x h ⟨n, e, ⟨h1, h2⟩, k⟩ => by
    subst e; dsimp only
    rw [okR_of (by omega) (by omega), if_pos (by simp; omega)]
    exact .ok k) fun _ _ k => k)
theorem CC.t (k : EV P q cf a ρ h (fun v h => TV v fun t => Qb t h) X) : CC P q cf (.t a) ρ h Qb X :=
  OKX_bind (OKX.mono k (fun _ _ ⟨t, e, k⟩ => by subst e; exact .ok k) fun _ _ k => k)
theorem CC.not {t : C} (k : CC P q cf t ρ h (fun b h => Qb (!b) h) X) : CC P q cf (.not t) ρ h Qb X := OKX_bind (OKX.mono k (fun _ _ k => .ok k) fun _ _ k => k)
theorem CC.and {ts : List C} (k : CCa P q cf ts ρ h Qb X) : CC P q cf (.and ts) ρ h Qb X := k
theorem CC.or {ts : List C} (k : CCo P q cf ts ρ h Qb X) : CC P q cf (.or ts) ρ h Qb X := k
theorem CCa.nil (k : Qb true h) : CCa P q cf [] ρ h Qb X := (.ok k)
theorem CCa.cons {t : C} {ts : List C} (k : CC P q cf t ρ h (fun b h => SP b (CCa P q cf ts ρ h Qb X) (Qb false h)) X) : CCa P q cf (t :: ts) ρ h Qb X :=
  OKX_bind (OKX.mono k (fun b _ k => by cases b with | true => exact k.1 rfl | false => exact .ok (k.2 rfl)) fun _ _ k => k)
theorem CCo.nil (k : Qb false h) : CCo P q cf [] ρ h Qb X := (.ok k)
theorem CCo.cons {t : C} {ts : List C} (k : CC P q cf t ρ h (fun b h => SP b (Qb true h) (CCo P q cf ts ρ h Qb X)) X) : CCo P q cf (t :: ts) ρ h Qb X :=
  OKX_bind (OKX.mono k (fun b _ k => by cases b with | true => exact .ok (k.1 rfl) | false => exact k.2 rfl) fun _ _ k => k)
theorem CCi.nil (k : Qb true h) : CCi P q cf [] ρ h Qb X := (.ok k)
end

-- values
section
variable {h : H} {Q : V → H → Prop} {X : Nat → H → Prop} {Qb : Bool → Prop} {Qo : V → Prop}
theorem bv_add {x y : Int} (k : Q (.int (x + y)) h) : RV (binV .add h (.int x) (.int y)) Q X := OKX.ok k
theorem bv_sub {x y : Int} (k : Q (.int (x - y)) h) : RV (binV .sub h (.int x) (.int y)) Q X := OKX.ok k
theorem okInt_of {n : Int} (h1 : -9000000000000000000 ≤ n) (h2 : n < 9000000000000000000) : okInt n = true := by
  rw [okInt, Bool.and_eq_true, decide_eq_true_iff, decide_eq_true_iff]; omega
theorem bv_mul {x y : Int} (k : Q (.int (x * y)) h) (h1 : -9000000000000000000 ≤ y) (h2 : y < 9000000000000000000) : RV (binV .mul h (.int x) (.int y)) Q X := by
  show OKX Q X (if okInt x || okInt y then .ok (.int (x * y)) h else .fail)
  rw [okInt_of h1 h2, Bool.or_true, if_pos rfl]; exact .ok k
theorem bv_div {x y : Int} (k : Q (.int (x / y)) h) (h1 : 0 < y) (h2 : y < 1073741824) : RV (binV .div h (.int x) (.int y)) Q X := by
  show OKX Q X (if y ≠ 0 ∧ y.natAbs < 1073741824 then .ok (.int (x.fdiv y)) h else .fail)
  rw [if_pos (by omega), Int.fdiv_eq_ediv_of_nonneg _ (by omega)]; exact .ok k
theorem bv_mod {x y : Int} (k : Q (.int (x % y)) h) (h1 : 0 < y) : RV (binV .mod h (.int x) (.int y)) Q X := by
  show OKX Q X (if y ≠ 0 then .ok (.int (x.fmod y)) h else .fail)
  rw [if_pos (by omega), Int.fmod_eq_emod_of_nonneg _ (by omega)]; exact .ok k
theorem bv_adds {x y : List Nat} (k : Q (.str (x ++ y)) h) (hl : x.length + y.length ≤ 100000) : RV (binV .add h (.str x) (.str y)) Q X := by
  show OKX Q X (if x.length + y.length ≤ 100000 then _ else .fail)
  rw [if_pos hl]; exact .ok k
theorem cv_lt {x y : Int} (k : Qb (decide (x < y))) : OV (cmpV .lt h (.int x) (.int y)) Qb := ⟨_, rfl, k⟩
theorem cv_le {x y : Int} (k : Qb (decide (x ≤ y))) : OV (cmpV .le h (.int x) (.int y)) Qb := ⟨_, rfl, k⟩
theorem cv_gt {x y : Int} (k : Qb (decide (y < x))) : OV (cmpV .gt h (.int x) (.int y)) Qb := ⟨_, rfl, k⟩
theorem cv_eq {x y : Int} (k : Qb (decide (x = y))) : OV (cmpV .eq h (.int x) (.int y)) Qb := ⟨_, rfl, k⟩
theorem cv_ne {x y : Int} (k : Qb (!decide (x = y))) : OV (cmpV .ne h (.int x) (.int y)) Qb := ⟨_, rfl, k⟩
theorem beqS {x y : List Nat} : (x == y) = decide (x = y) := by
  by_cases e : x = y
  · subst e; simp
  · simp [e]
theorem cv_eqs {x y : List Nat} (k : Qb (decide (x = y))) : OV (cmpV .eq h (.str x) (.str y)) Qb := ⟨_, rfl, by show Qb (x == y); rw [beqS]; exact k⟩
theorem cv_eqV {x y x' y' : V} (e1 : deref h x = x') (e2 : deref h y = y') (h1 : x'.plain = true) (h2 : y'.plain = true) (k : Qb (eqV x' y')) : OV (cmpV .eq h x y) Qb :=
  ⟨_, (show (if (deref h x).plain && (deref h y).plain then some (eqV (deref h x) (deref h y)) else none) = some (eqV x' y') by rw [e1, e2, h1, h2]; rfl), k⟩
theorem cv_neV {x y x' y' : V} (e1 : deref h x = x') (e2 : deref h y = y') (h1 : x'.plain = true) (h2 : y'.plain = true) (k : Qb (!eqV x' y')) : OV (cmpV .ne h x y) Qb :=
  ⟨_, (show (if (deref h x).plain && (deref h y).plain then some (!eqV (deref h x) (deref h y)) else none) = some (!eqV x' y') by rw [e1, e2, h1, h2]; rfl), k⟩
theorem eqVs_refl : ∀ {xs : List V}, (∀ x ∈ xs, eqV x x = true) → eqVs xs xs = true
  | [], _ => rfl
  | x :: xs, h => (Bool.and_eq_true _ _).mpr ⟨h x List.mem_cons_self, eqVs_refl fun y hy => h y (List.mem_cons_of_mem _ hy)⟩
theorem eqV_refl : ∀ (n : Nat) {v : V}, v.plainN n = true → eqV v v = true
  | _, .none, _ => rfl
  | _, .bool b, _ => beq_self_eq_true b
  | _, .int b, _ => beq_self_eq_true b
  | _, .str b, _ => beq_self_eq_true b
  | 0, .tup _, h => absurd h Bool.false_ne_true
  | 0, .lst _, h => absurd h Bool.false_ne_true
  | n + 1, .tup xs, h => eqVs_refl fun x hx => eqV_refl n (List.all_eq_true.mp h x hx)
  | n + 1, .lst xs, h => eqVs_refl fun x hx => eqV_refl n (List.all_eq_true.mp h x hx)
  | 0, .dct, h | n + 1, .dct, h | 0, .ref _, h | n + 1, .ref _, h | 0, .exc _, h | n + 1, .exc _, h => absurd h Bool.false_ne_true
theorem ii_t {P : Prog} {x : V} {t : Ty} (e : isInst P h x t = some true) (k : Qb true) : OV (isInst P h x t) Qb := ⟨_, e, k⟩
theorem ii_f {P : Prog} {x : V} {t : Ty} (e : isInst P h x t = some false) (k : Qb false) : OV (isInst P h x t) Qb := ⟨_, e, k⟩
theorem gi_lst {xs : List V} {i : Int} {v : V} (h1 : 0 ≤ i) (h2 : i < 1000000) (e : xs[i.toNat]? = some v) (k : Qo v) : OV (getItem h (.lst xs) (.int i)) Qo :=
  ⟨v, by show (if okIdx i then xs[i.toNat]? else none) = _; rw [if_pos (by simp [okIdx, h1, h2]), e], k⟩
theorem gi_tup {xs : List V} {i : Int} {v : V} (h1 : 0 ≤ i) (h2 : i < 1000000) (e : xs[i.toNat]? = some v) (k : Qo v) : OV (getItem h (.tup xs) (.int i)) Qo :=
  ⟨v, by show (if okIdx i then xs[i.toNat]? else none) = _; rw [if_pos (by simp [okIdx, h1, h2]), e], k⟩
theorem gi_str {xs : List Nat} {i : Int} {v : Nat} (h1 : 0 ≤ i) (h2 : i < 1000000) (e : xs[i.toNat]? = some v) (k : Qo (.str [v])) : OV (getItem h (.str xs) (.int i)) Qo :=
  ⟨.str [v], by show (if okIdx i then charOf xs i.toNat else none) = _; rw [if_pos (by simp [okIdx, h1, h2]), charOf, e]; rfl, k⟩
theorem gi_ref {n : Nat} {xs : List V} {i : Int} {v : V} (hn : h[n]? = some (.list xs)) (h1 : 0 ≤ i) (h2 : i < 1000000) (e : xs[i.toNat]? = some v) (k : Qo v) : OV (getItem h (.ref n) (.int i)) Qo :=
  ⟨v, by
    have h0 : ∀ (o : Option M) (f : List (Int × V) → Option V), o = some (.list xs) → (match o with | some (.list xs) => if okIdx i then xs[i.toNat]? else none | some (.dict es) => f es | _ => none) = some v := by
      rintro _ f rfl; dsimp only; rw [if_pos (by simp [okIdx, h1, h2]), e]
    exact h0 _ _ hn, k⟩
theorem ni_ints {xs : List Int} {i : Int} (h1 : 0 ≤ i) (h2 : i < xs.length) : (xs.map V.int)[i.toNat]? = some (.int (xs.getD i.toNat 0)) := by
  have : i.toNat < xs.length := by omega
  simp [List.getD, this]
theorem len_l {xs : List V} (hl : xs.length ≤ 100000) (k : Q (.int xs.length) h) : RV (biV q .len h [.lst xs]) Q X := by
  show OKX Q X (if xs.length ≤ 100000 then .ok (.int xs.length) h else .fail)
  rw [if_pos hl]; exact .ok k
theorem len_m {α : Type} {f : α → V} {xs : List α} (hl : xs.length ≤ 100000) (k : Q (.int xs.length) h) : RV (biV q .len h [.lst (xs.map f)]) Q X :=
  len_l (by rw [List.length_map]; exact hl) (by rw [List.length_map]; exact k)
/-- any item -/
theorem gi_any {xs : List V} {i : Int} (A : V → Prop) (h1 : 0 ≤ i) (h2 : i < xs.length) (h3 : xs.length ≤ 1000000) (ha : ∀ v ∈ xs, A v) (k : ∀ v, A v → Qo v) : OV (getItem h (.lst xs) (.int i)) Qo := by
  have : i.toNat < xs.length := by omega
  exact gi_lst h1 (by omega) (List.getElem?_eq_getElem this) (k _ (ha _ (List.getElem_mem this)))
noncomputable def strLe (n : Nat) : V → Bool
  | .str s => decide (s.length ≤ n)
  | _ => false
noncomputable def intIn (lo hi : Int) : V → Bool
  | .int i => decide (lo ≤ i) && decide (i ≤ hi)
  | _ => false
theorem gi_anyS {xs : List V} {i : Int} (n : Nat) (h1 : 0 ≤ i) (h2 : i < xs.length) (h3 : xs.length ≤ 1000000) (ha : xs.all (strLe n) = true) (k : ∀ s : List Nat, s.length ≤ n → Qo (.str s)) : OV (getItem h (.lst xs) (.int i)) Qo :=
  gi_any (strLe n · = true) h1 h2 h3 (List.all_eq_true.mp ha) fun v e => by
    cases v <;> first | exact k _ (of_decide_eq_true e) | cases e
theorem gi_anyI {xs : List V} {i : Int} (lo hi : Int) (h1 : 0 ≤ i) (h2 : i < xs.length) (h3 : xs.length ≤ 1000000) (ha : xs.all (intIn lo hi) = true) (k : ∀ n : Int, lo ≤ n → n ≤ hi → Qo (.int n)) : OV (getItem h (.lst xs) (.int i)) Qo :=
  gi_any (intIn lo hi · = true) h1 h2 h3 (List.all_eq_true.mp ha) fun v e => by
    cases v <;> first | exact k _ (of_decide_eq_true (Bool.and_eq_true_iff.mp e).1) (of_decide_eq_true (Bool.and_eq_true_iff.mp e).2) | cases e
theorem gi_ints {xs : List Int} {i : Int} (h1 : 0 ≤ i) (h2 : i < 1000000) (h3 : i < xs.length) (k : Qo (.int (xs.getD i.toNat 0))) : OV (getItem h (.lst (xs.map .int)) (.int i)) Qo :=
  gi_lst h1 h2 (ni_ints h1 h3) k
theorem len_t {xs : List V} (hl : xs.length ≤ 100000) (k : Q (.int xs.length) h) : RV (biV q .len h [.tup xs]) Q X := by
  show OKX Q X (if xs.length ≤ 100000 then .ok (.int xs.length) h else .fail)
  rw [if_pos hl]; exact .ok k
theorem len_s {xs : List Nat} (hl : xs.length ≤ 100000) (k : Q (.int xs.length) h) : RV (biV q .len h [.str xs]) Q X := by
  show OKX Q X (if xs.length ≤ 100000 then .ok (.int xs.length) h else .fail)
  rw [if_pos hl]; exact .ok k
theorem len_r {n : Nat} {xs : List V} (e : h[n]? = some (.list xs)) (hl : xs.length ≤ 100000) (k : Q (.int xs.length) h) : RV (biV q .len h [.ref n]) Q X := by
  show OKX Q X (match (seqOf h (.ref n)).map List.length with | some n => if n ≤ 100000 then .ok (.int n) h else .fail | none => .fail)
  rw [show seqOf h (.ref n) = some xs by simp [seqOf, listOf, e]]
  dsimp only [Option.map]
  rw [if_pos hl]; exact .ok k
theorem tup_q {v : V} {xs : List V} (e : seqOf h v = some xs) (hl : xs.length ≤ 100000) (k : Q (.tup xs) h) : RV (biV q .tuple h [v]) Q X := by
  have h0 : ∀ o : Option (List V), o = some xs → OKX Q X (match o with | some xs => if xs.length ≤ 100000 then .ok (.tup xs) h else .fail | none => .fail) := by
    rintro _ rfl; dsimp only; rw [if_pos hl]; exact .ok k
  exact h0 _ e
theorem ni_lst {xs : List V} {x : V} {Qb : Bool → Prop} (hx : x.plain = true) (hs : xs.all V.plain = true) (k : Qb (!xs.any fun y => eqV y x)) : OV (cmpV .notIn h x (.lst xs)) Qb := ⟨_, (show (if x.plain && xs.all V.plain then some (xs.any fun y => eqV y x) else none).map (!·) = _ by rw [hx, hs]; rfl), k⟩
theorem any_str {xs : List (List Nat)} {i : List Nat} : ((xs.map V.str).any fun y => eqV y (.str i)) = decide (i ∈ xs) := by
  rw [Bool.eq_iff_iff]
  simp [eqV]
theorem plain_map {α : Type} {f : α → V} (hf : ∀ a, (f a).plain = true) (xs : List α) : (xs.map f).all V.plain = true := by
  rw [List.all_map, List.all_eq_true]; intro a _; exact hf a
theorem ni_strs {xs : List (List Nat)} {i : List Nat} {Qb : Bool → Prop} (k : Qb (!decide (i ∈ xs))) : OV (cmpV .notIn h (.str i) (.lst (xs.map .str))) Qb := ni_lst rfl (plain_map (fun _ => rfl) xs) (by rw [any_str]; exact k)
theorem onSome_ok {α : Type} {o : Option α} {v : α} {f : α → R V} (e : o = some v) (k : OKX Q X (f v)) : OKX Q X (onSome o f) := by subst e; exact k
theorem sl_str {mu : Bool} {s : List Nat} {lo hi : V} {a b : Nat} (h1 : bound s.length 0 lo = some a) (h2 : bound s.length s.length hi = some b) (hl : s.length ≤ 100000) (k : Q (.str (sliceL s a b)) h) : RV (sliceV mu h (.str s) lo hi) Q X :=
  onSome_ok h1 (onSome_ok h2 (by rw [if_pos hl]; exact .ok k))
theorem bd_n {n m : Nat} : bound n m .none = some m := rfl
theorem bd_i {n m : Nat} {i : Int} : bound n m (.int i) = some (if i < 0 then (i + n).toNat else min i.toNat n) := rfl
theorem sliceL_len {α : Type} {xs : List α} {a b : Nat} : (sliceL xs a b).length ≤ xs.length := by
  rw [sliceL]; simp; omega
theorem findIdx_strs : ∀ {xs : List (List Nat)} {w : List Nat}, w ∈ xs → (xs.map V.str).findIdx? (fun x => eqV x (.str w)) = some (xs.idxOf w)
  | x :: xs, w, hw => by
    rw [List.map_cons, List.findIdx?_cons, List.idxOf_cons]
    show (if (x == w) = true then _ else _) = _
    by_cases e : (x == w) = true
    · rw [if_pos e, e]; rfl
    · rw [if_neg e, Bool.eq_false_iff.mpr e]
      rw [findIdx_strs ((List.mem_cons.mp hw).resolve_left fun x => e (by simp [x]))]; rfl
theorem index_strs {xs : List (List Nat)} {w : List Nat} (hw : w ∈ xs) (hl : xs.length ≤ 100000) (k : Q (.int (xs.idxOf w : Nat)) h) : RV (bmV .index h (.lst (xs.map .str)) [.str w]) Q X := by
  have h1 : ((V.str w).plain && (xs.map V.str).all V.plain && decide ((xs.map V.str).length ≤ 100000)) = true := by
    rw [plain_map fun _ => rfl, List.length_map, decide_eq_true hl]; rfl
  show OKX Q X (if ((V.str w).plain && (xs.map V.str).all V.plain && decide ((xs.map V.str).length ≤ 100000)) = true then onSome ((xs.map V.str).findIdx? fun x => eqV x (.str w)) _ else _)
  rw [if_pos h1, findIdx_strs hw]; exact .ok k
theorem count_q {o v : V} {xs : List V} (e : listOf h o = some xs) (h1 : v.plain = true) (h2 : xs.all V.plain = true) (k : Q (.int (xs.countP fun x => eqV x v : Nat)) h) : RV (bmV .count h o [v]) Q X := by
  show OKX Q X (onSome (listOf h o) fun xs => if (v.plain && xs.all V.plain) = true then _ else _)
  rw [e]
  show OKX Q X (if (v.plain && xs.all V.plain) = true then _ else _)
  rw [h1, h2]; exact .ok k
theorem listOf_r {n : Nat} {xs : List V} (e : h[n]? = some (.list xs)) : listOf h (.ref n) = some xs := by
  have h0 : ∀ o : Option M, o = some (.list xs) → (match o with | some (.list xs) => some xs | _ => none) = some xs := by rintro _ rfl; rfl
  exact h0 _ e
theorem seqOf_r {n : Nat} {xs : List V} (e : h[n]? = some (.list xs)) : seqOf h (.ref n) = some xs := listOf_r e
theorem app_r {n : Nat} {xs : List V} {v : V} (e : h[n]? = some (.list xs)) (hl : xs.length ≤ 100000) (k : Q .none (h.set n (.list (xs ++ [v])))) : RV (bmV .append h (.ref n) [v]) Q X := by
  have h0 : ∀ o : Option M, o = some (.list xs) → OKX Q X (match o with | some (.list xs) => if xs.length ≤ 100000 then R.ok .none (h.set n (.list (xs ++ [v]))) else .fail | _ => .fail) := by
    rintro _ rfl; dsimp only; rw [if_pos hl]; exact .ok k
  exact h0 _ e
end

-- statements
section
variable {ρ : Rho} {h : H} {Q : RS → Prop} {a b c : E} {ss : List S}
inductive WS (P : Prog) (cl : Bool → Nat → List V → H → R V) (q : Bool) (ss : List S) (ρ : Rho) (h : H) (Q : RS → Prop) : Prop where
  | mk (k : Q (evSs P cl q ss ρ h)) : WS P cl q ss ρ h Q
theorem WS.un {P : Prog} {cl : Bool → Nat → List V → H → R V} {q : Bool} {ss : List S} {ρ : Rho} {h : H} {Q : RS → Prop} (k : WS P cl q ss ρ h Q) : Q (evSs P cl q ss ρ h) := match k with | .mk k => k
/-- on to the statements behind -/
noncomputable def Thn (P : Prog) (cl : Bool → Nat → List V → H → R V) (q : Bool) (ss : List S) (Q : RS → Prop) : RS → Prop
  | .next ρ h => WS P cl q ss ρ h Q
  | r => Q r
/-- a turn's end -/
noncomputable def Lp (J : Rho → H → Prop) (Q : RS → Prop) : RS → Prop
  | .next ρ h => J ρ h
  | r => Q r
theorem Thn.next (k : WS P cl q ss ρ h Q) : Thn P cl q ss Q (.next ρ h) := k
theorem Thn.ret {v : V} (k : Q (.ret v ρ h)) : Thn P cl q ss Q (.ret v ρ h) := k
theorem Thn.exc {v : Nat} (k : Q (.exc v ρ h)) : Thn P cl q ss Q (.exc v ρ h) := k
theorem Lp.next {J : Rho → H → Prop} (k : J ρ h) : Lp J Q (.next ρ h) := k
theorem Lp.ret {J : Rho → H → Prop} {v : V} (k : Q (.ret v ρ h)) : Lp J Q (.ret v ρ h) := k
theorem Lp.exc {J : Rho → H → Prop} {v : Nat} (k : Q (.exc v ρ h)) : Lp J Q (.exc v ρ h) := k
theorem WS.mono {Q' : RS → Prop} (k : WS P cl q ss ρ h Q) (hq : ∀ r, Q r → Q' r) : WS P cl q ss ρ h Q' := .mk (hq _ k.un)
theorem WS.nil (k : Q (.next ρ h)) : WS P cl q [] ρ h Q := .mk k
theorem evSs_cons {s : S} : evSs P cl q (s :: ss) ρ h = match evS P cl q s ρ h with
      | .next r' h' => evSs P cl q ss r' h'
      | x => x := (rfl)
theorem WS.cons {s : S} (k : Thn P cl q ss Q (evS P cl q s ρ h)) : WS P cl q (s :: ss) ρ h Q := by
  refine .mk ?_
  rw [evSs_cons]
  cases e : evS P cl q s ρ h <;> (rw [e] at k; first | exact k.un | exact k)
theorem RSof {α : Type} {r : R α} {f : α → H → RS} {Q : RS → Prop} (k : OKX (fun v h => Q (f v h)) (fun c h => Q (.exc c ρ h)) r) : Q (RS.of ρ r f) := by
  cases k with
  | ok k => exact k
  | exc k => exact k
theorem WS.assign {x : Nat} (k : EV P q (cl q) a ρ h (fun v h => WS P cl q ss (ρ.set x (some v)) h Q) (fun c h => Q (.exc c ρ h))) : WS P cl q (.assign x a :: ss) ρ h Q :=
  WS.cons (RSof k)
theorem WS.expr (k : EV P q (cl q) a ρ h (fun _ h => WS P cl q ss ρ h Q) (fun c h => Q (.exc c ρ h))) : WS P cl q (.expr a :: ss) ρ h Q :=
  WS.cons (RSof k)
theorem WS.ret (k : EV P q (cl q) a ρ h (fun v h => Q (.ret v ρ h)) (fun c h => Q (.exc c ρ h))) : WS P cl q (.ret a :: ss) ρ h Q :=
  WS.cons (RSof k)
theorem WS.ite {t : C} {x y : List S} (k : CC P q (cl q) t ρ h (fun b h => SP b (WS P cl q x ρ h (Thn P cl q ss Q)) (WS P cl q y ρ h (Thn P cl q ss Q))) (fun c h => Q (.exc c ρ h))) : WS P cl q (.ite t x y :: ss) ρ h Q :=
  WS.cons (RSof (OKX.mono k (fun b _ k => by cases b with | true => exact (k.1 rfl).un | false => exact (k.2 rfl).un) fun _ _ k => k))
/-- the two ways meet -/
theorem WS.iteJ (J : Rho → H → Prop) {t : C} {x y : List S} (k : CC P q (cl q) t ρ h (fun b h => SP b (WS P cl q x ρ h (Lp J Q)) (WS P cl q y ρ h (Lp J Q))) (fun c h => Q (.exc c ρ h))) (k2 : ∀ ρ h, J ρ h → WS P cl q ss ρ h Q) : WS P cl q (.ite t x y :: ss) ρ h Q := by
  have h0 : ∀ r, Lp J Q r → Thn P cl q ss Q r := fun r => by cases r with | next ρ h => exact k2 ρ h | _ => exact id
  exact WS.ite (OKX.mono k (fun b _ k => ⟨fun e => WS.mono (k.1 e) h0, fun e => WS.mono (k.2 e) h0⟩) fun _ _ k => k)
theorem WS.raise {c : Nat} {m : List Nat} (hr : P.rz.contains c = true) (k : Q (.exc c ρ h)) : WS P cl true (.raise c m :: ss) ρ h Q :=
  WS.cons (by
    have h0 : ∀ {p : Prop} {_ : Decidable p}, p → Thn P cl true ss Q (if p then .exc c ρ h else .fail) := by intro p _ hp; rw [if_pos hp]; exact k
    exact h0 ⟨rfl, hr⟩)
theorem WS.setsub (k : EV P q (cl q) c ρ h (fun v h => EV P q (cl q) a ρ h (fun x h => EV P q (cl q) b ρ h (fun y h => OV (setItem h x y v) fun h' => WS P cl q ss ρ h' Q) (fun c h => Q (.exc c ρ h))) (fun c h => Q (.exc c ρ h))) (fun c h => Q (.exc c ρ h))) : WS P cl q (.setsub a b c :: ss) ρ h Q :=
  WS.cons (RSof (OKX.mono k (fun v _ k => RSof (OKX.mono k (fun x _ k => RSof (OKX.mono k (fun y _ ⟨h', e, k⟩ => by rw [e]; exact k) fun _ _ k => k)) fun _ _ k => k)) fun _ _ k => k))
/-- what a try's body comes to -/
noncomputable def Try (P : Prog) (cl : Bool → Nat → List V → H → R V) (q : Bool) (hs : List (Nat × Option Nat × List S)) (ss : List S) (Q : RS → Prop) : RS → Prop
  | .exc c ρ h => P.rz.contains c = true ∧ Thn P cl q ss Q (evHs P cl c hs ρ h)
  | r => Thn P cl q ss Q r
theorem WS.try {body : List S} {hs : List (Nat × Option Nat × List S)} (k : WS P cl q body ρ h (Try P cl q hs ss Q)) : WS P cl q (.try body hs :: ss) ρ h Q := by
  have h0 : ∀ r : RS, Try P cl q hs ss Q r → Thn P cl q ss Q (match r with
      | .exc c r' h' => if P.rz.contains c = true then evHs P cl c hs r' h' else .fail
      | x => x) := by
    intro r
    cases r with
    | exc c ρ' h' => intro k; dsimp only; rw [if_pos k.1]; exact k.2
    | next => exact id
    | ret => exact id
    | fail => exact id
  exact WS.cons (h0 _ k.un)
theorem Try.next {hs : List (Nat × Option Nat × List S)} (k : WS P cl q ss ρ h Q) : Try P cl q hs ss Q (.next ρ h) := k
theorem wHs_cons {hs : List (Nat × Option Nat × List S)} {c k : Nat} {x : Option Nat} {b : List S} : evHs P cl c ((k, x, b) :: hs) ρ h = if ((P.excs[c]?).getD []).contains k then clr x (evSs P cl false b (match x with | some i => ρ.set i (some (.exc c)) | none => ρ) h) else evHs P cl c hs ρ h := (rfl)
/-- the first clause takes it -/
theorem Try.here {hs : List (Nat × Option Nat × List S)} {c k : Nat} {i : Nat} {b : List S} (hr : P.rz.contains c = true) (he : ((P.excs[c]?).getD []).contains k = true)
    (kk : WS P cl false b (ρ.set i (some (.exc c))) h fun r => Thn P cl q ss Q (clr (some i) r)) : Try P cl q ((k, some i, b) :: hs) ss Q (.exc c ρ h) := by
  refine ⟨hr, ?_⟩
  rw [wHs_cons, if_pos he]; exact kk.un
theorem forLoop_nil {st : H → Bool} {step : V → Rho → H → RS} : forLoop st step [] ρ h = if st h then .next ρ h else .fail := (rfl)
theorem forLoop_cons {st : H → Bool} {step : V → Rho → H → RS} {v : V} {vs : List V} : forLoop st step (v :: vs) ρ h = if st h then (match step v ρ h with
      | .next r' h' => forLoop st step vs r' h'
      | x => x) else .fail := (rfl)
theorem forLoop_inv {α : Type} {f : α → V} {st : H → Bool} {step : V → Rho → H → RS} {I : List α → Rho → H → Prop} {Q : RS → Prop} (L : List α) (hst : ∀ pre ρ h, I pre ρ h → st h = true)
    (hs : ∀ pre y post ρ h, L = pre ++ y :: post → I pre ρ h → Lp (I (pre ++ [y])) Q (step (f y) ρ h)) (he : ∀ ρ h, I L ρ h → Q (.next ρ h)) : ∀ (rest pre : List α) (ρ : Rho) (h : H), L = pre ++ rest → I pre ρ h → Q (forLoop st step (rest.map f) ρ h)
  | [], pre, ρ, h, e, i => by
    rw [List.map_nil, forLoop_nil, if_pos (hst _ _ _ i)]
    exact he _ _ (by rw [e, List.append_nil]; exact i)
  | y :: rest, pre, ρ, h, e, i => by
    rw [List.map_cons, forLoop_cons, if_pos (hst _ _ _ i)]
    have := hs pre y rest ρ h e i
    revert this
    cases step (f y) ρ h with
    | next ρ' h' => intro j; exact forLoop_inv L hst hs he rest (pre ++ [y]) ρ' h' (by rw [e]; simp) j
    | ret => exact id
    | exc => exact id
    | fail => exact id
/-- a loop with an invariant over what it has taken -/
theorem WS.for1 {α : Type} (I : List α → Rho → H → Prop) {x : Nat} {it : It} {body : List S}
    (k : IT P true (cl true) it ρ h (fun s h₁ => ∃ (f : α → V) (L : List α) (live : Option (Nat × List V)), itemsOf h₁ s = some (L.map f, live) ∧ L.length ≤ 100000 ∧ I [] ρ h₁ ∧ (∀ pre ρ h, I pre ρ h → still h live = true)
      ∧ (∀ pre y post ρ h, L = pre ++ y :: post → I pre ρ h → WS P cl true body (ρ.set x (some (f y))) h (Lp (I (pre ++ [y])) Q)) ∧ (∀ ρ h, I L ρ h → WS P cl true ss ρ h Q)) (fun c h => Q (.exc c ρ h))) : WS P cl true (.for1 x it body :: ss) ρ h Q := by
  refine WS.cons (RSof (OKX.mono k (fun s h₁ ⟨f, L, live, e, hl, i, hst, hb, he⟩ => ?_) fun _ _ k => k))
  rw [e]
  dsimp only
  rw [if_pos ⟨rfl, by rw [List.length_map]; exact hl⟩]
  refine forLoop_inv (Q := Thn P cl true ss Q) L hst (fun pre y post ρ h e i => ?_) (fun ρ h i => he ρ h i) L [] ρ h₁ rfl i
  have := (hb pre y post ρ h e i).un
  revert this
  cases evSs P cl true body (ρ.set x (some (f y))) h <;> exact id
theorem WS.forN (I : Nat → Rho → H → Prop) {x : Nat} {it : It} {body : List S}
    (k : IT P true (cl true) it ρ h (fun s h₁ => ∃ (n : Nat) (f : Nat → V), itemsOf h₁ s = some ((List.range n).map f, none) ∧ n ≤ 100000 ∧ I 0 ρ h₁
      ∧ (∀ i ρ h, i < n → I i ρ h → WS P cl true body (ρ.set x (some (f i))) h (Lp (I (i + 1)) Q)) ∧ (∀ ρ h, I n ρ h → WS P cl true ss ρ h Q)) (fun c h => Q (.exc c ρ h))) : WS P cl true (.for1 x it body :: ss) ρ h Q := by
  refine WS.for1 (α := Nat) (fun pre => I pre.length) (OKX.mono k (fun s h₁ ⟨n, f, e, hl, i, hb, he⟩ => ⟨f, List.range n, none, e, by simpa using hl, i, fun _ _ _ _ => rfl, fun pre y post ρ h e' i => ?_, fun ρ h i => he ρ h (by simpa using i)⟩) fun _ _ k => k)
  have hy : y = pre.length := by
    have h1 : (List.range n)[pre.length]? = some y := by rw [e']; simp
    rw [List.getElem?_range] at h1
    · cases h1; rfl
    · have := congrArg List.length e'; simp at this; omega
  have hn : pre.length < n := by have := congrArg List.length e'; simp at this; omega
  subst hy
  simpa using hb pre.length ρ h hn i
end

-- comprehensions
section
variable {ρ : Rho} {h : H} {Q : V → H → Prop} {X : Nat → H → Prop}
theorem at_end {h : H} {m : M} : (h ++ [m])[h.length]? = some m := by
  rw [List.getElem?_append_right (Nat.le_refl _), Nat.sub_self]; rfl
theorem set_end {h : H} {m m' : M} : (h ++ [m]).set h.length m' = h ++ [m'] := by
  rw [List.set_append_right _ _ (Nat.le_refl _), Nat.sub_self]; rfl
theorem endComp_mu {h : H} {ys : List V} : endComp true h (h ++ [.list ys]) = .ok (.ref h.length) (h ++ [.list ys]) := by
  unfold endComp
  rw [at_end]
  dsimp only
  rw [if_pos rfl]
theorem compLoop_nil {st : H → Bool} {step : V → H → R Unit} : compLoop st step [] h = if st h then .ok () h else .fail := (rfl)
theorem compLoop_cons {st : H → Bool} {step : V → H → R Unit} {v : V} {vs : List V} : compLoop st step (v :: vs) h = if st h then (step v h).bind fun _ h' => compLoop st step vs h' else .fail := (rfl)
theorem compLoop_fm {α : Type} {f : α → V} {g : α → Option V} {st : H → Bool} {step : V → H → R Unit} (hs : ∀ ys, st (h ++ [.list ys]) = true) : ∀ (L : List α) (acc : List V), (∀ y ∈ L, ∀ ys, ys.length < acc.length + L.length → step (f y) (h ++ [.list ys]) = .ok () (h ++ [.list (ys ++ (g y).toList)])) → compLoop st step (L.map f) (h ++ [.list acc]) = .ok () (h ++ [.list (acc ++ L.filterMap g)])
  | [], acc, _ => by rw [List.map_nil, compLoop_nil, if_pos (hs acc), List.filterMap_nil, List.append_nil]
  | y :: L, acc, e => by
    rw [List.map_cons, compLoop_cons, if_pos (hs acc), e y List.mem_cons_self acc (by simp)]
    show compLoop st step (L.map f) (h ++ [.list (acc ++ (g y).toList)]) = _
    rw [compLoop_fm hs L (acc ++ (g y).toList) fun w hw ys hl => e w (List.mem_cons_of_mem _ hw) ys (by
      have : (g y).toList.length ≤ 1 := by cases g y <;> simp
      rw [List.length_append] at hl; rw [List.length_cons]; omega)]
    rw [List.filterMap_cons, List.append_assoc]
    cases g y <;> rfl
/-- a turn of a comprehension -/
noncomputable def Turn (P : Prog) (cf : Nat → List V → H → R V) (x : Nat) (elt : E) (ifs : List C) (ρ : Rho) (h : H) (v : V) (o : Option V) : Prop :=
  ∀ ys, CCi P true cf ifs (ρ.set x (some v)) (h ++ [.list ys]) (fun t h' => SP t (EV P true cf elt (ρ.set x (some v)) h' (fun w h'' => o = some w ∧ h'' = h ++ [.list ys]) (fun _ _ => False)) (o = none ∧ h' = h ++ [.list ys])) (fun _ _ => False)
theorem OKX.inv {α : Type} {r : R α} {Q : α → H → Prop} {X : Nat → H → Prop} (k : OKX Q X r) : (∃ v h, r = .ok v h ∧ Q v h) ∨ (∃ c h, r = .exc c h ∧ X c h) := by
  cases k with
  | ok k => exact .inl ⟨_, _, rfl, k⟩
  | exc k => exact .inr ⟨_, _, rfl, k⟩
theorem Turn.step {x : Nat} {elt : E} {ifs : List C} {v : V} {o : Option V} (k : Turn P cf x elt ifs ρ h v o) {ys : List V} (hl : ys.length < 100000) :
    ((evIfs P true cf ifs (ρ.set x (some v)) (h ++ [.list ys])).bind fun t h' => if t then (evE P true cf elt (ρ.set x (some v)) h').bind fun y h' => (bmV .append h' (.ref h.length) [y]).bind fun _ h' => .ok () h' else .ok () h') = .ok () (h ++ [.list (ys ++ o.toList)]) := by
  rcases OKX.inv (k ys) with ⟨t, h₁, e, k⟩ | ⟨_, _, _, k⟩
  · rw [e]
    show (if t = true then _ else _) = _
    cases t with
    | false =>
      obtain ⟨ho, hh⟩ := k.2 rfl
      rw [ho, hh]; simp
    | true =>
      rw [if_pos rfl]
      rcases OKX.inv (k.1 rfl) with ⟨w, h₂, e, ho, hh⟩ | ⟨_, _, _, k⟩
      · rw [e, ho, hh]
        have : RV (bmV .append (h ++ [.list ys]) (.ref h.length) [w]) (fun _ h' => h' = h ++ [.list (ys ++ [w])]) (fun _ _ => False) := app_r at_end (by omega) set_end
        rcases OKX.inv this with ⟨u, h₃, e, hh⟩ | ⟨_, _, _, k⟩
        · show (bmV .append (h ++ [.list ys]) (.ref h.length) [w]).bind _ = _
          rw [e, hh]; rfl
        · exact k.elim
      · exact k.elim
  · exact k.elim
theorem EV.compMu {α : Type} {x : Nat} {elt : E} {it : It} {ifs : List C} (k : IT P true cf it ρ h (fun s h₁ => ∃ (f : α → V) (L : List α) (live : Option (Nat × List V)) (g : α → Option V), itemsOf h₁ s = some (L.map f, live) ∧ L.length ≤ 100000 ∧ (∀ ys, still (h₁ ++ [.list ys]) live = true)
      ∧ (∀ y ∈ L, Turn P cf x elt ifs ρ h₁ (f y) (g y)) ∧ Q (.ref h₁.length) (h₁ ++ [.list (L.filterMap g)])) X) : EV P true cf (.comp true x elt it ifs) ρ h Q X := by
  refine OKX_bind (OKX.mono k (fun s h₁ ⟨f, L, live, g, e, hl, hst, ht, k⟩ => ?_) fun _ _ k => k)
  rw [e]
  dsimp only
  rw [if_pos ⟨rfl, by rw [List.length_map]; exact hl⟩, compLoop_fm (g := g) hst L [] fun y hy ys hys => (ht y hy).step (by simp at hys; omega)]
  show OKX Q X (endComp true h₁ (h₁ ++ [.list ([] ++ L.filterMap g)]))
  rw [List.nil_append, endComp_mu]; exact .ok k
theorem fm_map {α : Type} {g : α → V} {L : List α} : L.filterMap (fun a => some (g a)) = L.map g := by rw [← List.filterMap_eq_map]; rfl
end

-- calls
section
variable {h : H}
/-- a pure function's end -/
inductive Ret (h : H) : V → RS → Prop where
  | ret {v : V} {ρ : Rho} {h' : H} (e : h'.take h.length = h) : Ret h v (.ret v ρ h')
  | next {ρ : Rho} {h' : H} (e : h'.take h.length = h) : Ret h .none (.next ρ h')
theorem Ret.eq0 {v v' : V} {ρ : Rho} (e : v' = v) : Ret h v (.ret v' ρ h) := e ▸ .ret List.take_length
theorem Ret.eq {v v' : V} {ρ : Rho} {l : H} (e : v' = v) : Ret h v (.ret v' ρ (h ++ l)) := e ▸ .ret List.take_left
theorem callN_eq {d f : Nat} {vs : List V} {F : Fn} (hf : P.fn f = some F) (hn : vs.length = F.npar) : callN P (d + 1) q f vs h = fin F.pure h (ofRS (evSs P (callN P d) q F.body (vs.map some ++ List.replicate (F.nloc - F.npar) none) h)) := by
  have h0 : ∀ o : Option Fn, o = some F → (match o with
    | none => .fail
    | some F => if vs.length = F.npar then fin F.pure h (ofRS (evSs P (callN P d) q F.body (vs.map some ++ List.replicate (F.nloc - F.npar) none) h)) else .fail) = fin F.pure h (ofRS (evSs P (callN P d) q F.body (vs.map some ++ List.replicate (F.nloc - F.npar) none) h)) := by
    rintro _ rfl; dsimp only; rw [if_pos hn]
  exact h0 _ hf
theorem call_pure {d f : Nat} {vs : List V} {F : Fn} {ρ : Rho} {v : V} (hf : P.fn f = some F) (hn : vs.length = F.npar) (hρ : vs.map some ++ List.replicate (F.nloc - F.npar) none = ρ) (hp : F.pure = true) (hr : v.refUnder h.length = true)
    (k : WS P (callN P d) q F.body ρ h (Ret h v)) : callN P (d + 1) q f vs h = .ok v h := by
  subst hρ
  rw [callN_eq hf hn, hp]
  have k := k.un
  revert k
  cases evSs P (callN P d) q F.body (vs.map some ++ List.replicate (F.nloc - F.npar) none) h with
  | ret v' ρ' h' => rintro ⟨e⟩; rw [ofRS, fin, if_pos rfl, if_pos ⟨e, hr⟩]
  | next ρ' h' => intro k; cases k; rename_i e; rw [ofRS, fin, if_pos rfl, if_pos ⟨e, hr⟩]
  | exc => intro k; cases k
  | fail => intro k; cases k
/-- some value -/
inductive RetP (h : H) (A : V → Prop) : RS → Prop where
  | ret {v : V} {ρ : Rho} {h' : H} (e : h'.take h.length = h) (a : A v) (r : v.refUnder h.length = true) : RetP h A (.ret v ρ h')
theorem RetP.of0 {A : V → Prop} {v : V} {ρ : Rho} (a : A v) (r : v.refUnder h.length = true) : RetP h A (.ret v ρ h) := .ret List.take_length a r
theorem RetP.of {A : V → Prop} {v : V} {ρ : Rho} {l : H} (a : A v) (r : v.refUnder h.length = true) : RetP h A (.ret v ρ (h ++ l)) := .ret List.take_left a r
theorem call_some {d f : Nat} {vs : List V} {F : Fn} {ρ : Rho} {A : V → Prop} (hf : P.fn f = some F) (hn : vs.length = F.npar) (hρ : vs.map some ++ List.replicate (F.nloc - F.npar) none = ρ) (hp : F.pure = true)
    (k : WS P (callN P d) q F.body ρ h (RetP h A)) : ∃ v, callN P (d + 1) q f vs h = .ok v h ∧ A v := by
  subst hρ
  rw [callN_eq hf hn, hp]
  have k := k.un
  revert k
  cases evSs P (callN P d) q F.body (vs.map some ++ List.replicate (F.nloc - F.npar) none) h with
  | ret v' ρ' h' => rintro ⟨e, a, r⟩; exact ⟨v', by rw [ofRS, fin, if_pos rfl, if_pos ⟨e, r⟩], a⟩
  | next => intro k; cases k
  | exc => intro k; cases k
  | fail => intro k; cases k
/-- a function that changes the heap -/
theorem call_imp {d f : Nat} {vs : List V} {F : Fn} {ρ : Rho} {A : R V → Prop} (hf : P.fn f = some F) (hn : vs.length = F.npar) (hρ : vs.map some ++ List.replicate (F.nloc - F.npar) none = ρ) (hp : F.pure = false)
    (k : WS P (callN P d) q F.body ρ h fun r => A (ofRS r)) : A (callN P (d + 1) q f vs h) := by
  subst hρ
  rw [callN_eq hf hn, hp]; exact k.un
end
end
end Mine
end
section
set_option linter.all false
namespace Mine.Law
end Mine.Law
end
section
set_option linter.all false
set_option maxHeartbeats 4000000
namespace Mine.Law



section
variable {P : Prog} {q : Bool} {h : H} {d : Nat}
noncomputable def cellAt (xs : List Int) (k : Nat) : Int := xs.getD k 0
theorem c_cell_at (hP : P.fn 2 = some fn_cell_at) {xs : List Int} (hx : xs.length ≤ 100000) {k : Int} (hk : 0 ≤ k) (hk' : k < 1000000) : callN P (d + 1) q 2 [.lst (xs.map .int), .int k] h = .ok (.int (cellAt xs k.toNat)) h := by
  refine call_pure (ρ := [_, _]) hP rfl rfl rfl rfl ?_
  dsimp only [fn_cell_at]
  repeat' (first | ((with_reducible apply EV.var); exact rfl) | with_reducible apply EV.const | with_reducible apply EVs.cons | with_reducible apply EVs.nil | with_reducible apply EV.sub | with_reducible apply EV.cmp | with_reducible apply EV.bi | with_reducible apply CC.t | with_reducible apply TV.of | with_reducible refine SP.dec (fun _ => ?_) (fun _ => ?_) | with_reducible apply WS.ret | with_reducible apply WS.nil | with_reducible apply Thn.next | with_reducible apply cv_lt | ((with_reducible apply len_m); (first | assumption | omega)) | with_reducible apply WS.ite)
  · refine gi_ints hk hk' (by omega) ?_
    exact Ret.eq0 rfl
  · have : xs.getD k.toNat 0 = 0 := by rw [List.getD_eq_getElem?_getD, List.getElem?_eq_none (by omega)]; rfl
    rw [cellAt, this]; exact Ret.eq0 rfl
noncomputable def mixed (i : Int) : Int := i * 48271 % 2147483647
theorem c_mixed (hP : P.fn 4 = some fn_mixed) {i : Int} : callN P (d + 1) q 4 [.int i] h = .ok (.int (mixed i)) h := by
  refine call_pure (ρ := [_]) hP rfl rfl rfl rfl ?_
  dsimp only [fn_mixed]
  repeat' (first | ((with_reducible apply EV.var); exact rfl) | with_reducible apply EV.const | with_reducible apply EV.bin | with_reducible apply WS.ret | ((with_reducible apply bv_mul); rotate_left; (first | decide | omega); (first | decide | omega)) | ((with_reducible apply bv_mod); rotate_left; (first | decide | omega)) | ((with_reducible apply Ret.eq0); exact rfl))
/-- all exceptions of the project -/
structure Errs (P : Prog) : Prop where
  excs : P.excs = [[0], [1, 0], [2, 0], [3, 0], [4, 0], [5, 0]]
  rz : P.rz = [0, 1, 2, 3, 4, 5]
theorem Errs.okT (Er : Errs P) {t : Ty} : Mine.okT P t = true := by
  cases t <;> first | rfl | (show (!P.rz.isEmpty) = true; rw [Er.rz]; rfl)
theorem Errs.isC (Er : Errs P) {c k : Nat} (h1 : 1 ≤ c) (h2 : c ≤ 5) : isInst P h (.exc c) (.cls k) = some ([c, 0].contains k) := by
  show (if P.rz.contains c then (P.excs[c]?).map (fun l => l.contains k) else none) = _
  rw [Er.rz, Er.excs]
  have : c = 1 ∨ c = 2 ∨ c = 3 ∨ c = 4 ∨ c = 5 := by omega
  rcases this with rfl | rfl | rfl | rfl | rfl <;> rfl
theorem Errs.isV (Er : Errs P) {c : Nat} (h1 : 1 ≤ c) (h2 : c ≤ 5) : isInst P h (.exc c) .valueError = some true := by
  show (if P.rz.contains c then some true else none) = _
  rw [Er.rz]
  have : c = 1 ∨ c = 2 ∨ c = 3 ∨ c = 4 ∨ c = 5 := by omega
  rcases this with rfl | rfl | rfl | rfl | rfl <;> rfl
theorem c_alone (hP : P.fn 10 = some fn_alone) (Er : Errs P) {c : Nat} (h1 : 1 ≤ c) (h2 : c ≤ 5) {i : Int} (hi : i = c - 1) : callN P (d + 1) q 10 [.exc c, .int i] h = .ok (.bool true) h := by
  refine call_pure (ρ := [_, _, _]) hP rfl rfl rfl rfl ?_
  dsimp only [fn_alone]
  have is : ∀ {e : E} {k : Nat} {ρ : Rho} {h : H} {Q : V → H → Prop} {X : Nat → H → Prop}, EV P q (callN P d q) e ρ h (fun v h => v = .exc c ∧ Q (.bool ([c, 0].contains k)) h) X → EV P q (callN P d q) (.isinst e (.cls k)) ρ h Q X := fun k =>
    EV.isinst Er.okT (OKX.mono k (fun v h ⟨e, k⟩ => by rw [e]; exact ⟨_, Er.isC h1 h2, k⟩) fun _ _ k => k)
  have is' : ∀ {e : E} {ρ : Rho} {h : H} {Q : V → H → Prop} {X : Nat → H → Prop}, EV P q (callN P d q) e ρ h (fun v h => v = .exc c ∧ Q (.bool true) h) X → EV P q (callN P d q) (.isinst e .valueError) ρ h Q X := fun k =>
    EV.isinst Er.okT (OKX.mono k (fun v h ⟨e, k⟩ => by rw [e]; exact ⟨_, Er.isV h1 h2, k⟩) fun _ _ k => k)
  repeat' (first | (first | ((with_reducible apply EV.var); exact rfl) | with_reducible apply EVs.cons | with_reducible apply EVs.nil | with_reducible apply EV.list1 | with_reducible apply EV.bm | ((with_reducible apply KM.lst at_end); exact rfl) | with_reducible apply KE.of | with_reducible apply WS.assign | with_reducible apply WS.expr) | apply is | apply And.intro rfl)
  refine app_r at_end (by simp) ?_
  rw [set_end]
  have hc : c = 1 ∨ c = 2 ∨ c = 3 ∨ c = 4 ∨ c = 5 := by omega
  have hcount : ((List.countP (fun x => eqV x (.bool true)) ([V.bool ([c, 0].contains 1), V.bool ([c, 0].contains 2), V.bool ([c, 0].contains 3), V.bool ([c, 0].contains 4)] ++ [V.bool ([c, 0].contains 5)]) : Nat) : Int) = 1 := by
    rcases hc with rfl | rfl | rfl | rfl | rfl <;> rfl
  repeat' (first | ((with_reducible apply EV.var); exact rfl) | with_reducible apply EV.const | with_reducible apply EVs.cons | with_reducible apply EVs.nil | with_reducible apply EV.cmp | with_reducible apply EV.and | with_reducible apply EVa.cons | with_reducible apply EV.bm | ((with_reducible apply KM.lst at_end); exact rfl) | with_reducible apply KE.of | with_reducible apply WS.ret)
  refine count_q (listOf_r at_end) rfl rfl ?_
  repeat' (first | ((with_reducible apply EV.var); exact rfl) | with_reducible apply EV.const | with_reducible apply EV.sub | with_reducible apply EVa.cons | with_reducible apply TV.of | ((with_reducible apply SP.dt); (first | assumption | exact rfl | omega)) | with_reducible apply cv_eq)
  refine gi_ref (v := .bool true) at_end (by omega) (by omega) (by rw [hi]; rcases hc with rfl | rfl | rfl | rfl | rfl <;> rfl) ?_
  repeat' (first | (first | ((with_reducible apply EV.var); exact rfl) | with_reducible apply EVa.cons | with_reducible apply TV.of | with_reducible apply SP.tt) | apply is | apply is' | apply And.intro rfl)
  refine SP.t (by rcases hc with rfl | rfl | rfl | rfl | rfl <;> rfl) ?_
  repeat' (first | (first | ((with_reducible apply EV.var); exact rfl) | with_reducible apply EVa.one | ((with_reducible apply Ret.eq); exact rfl)) | apply is | apply is' | apply And.intro rfl)
end


section
variable {P : Prog} {q : Bool} {h : H} {d : Nat}
noncomputable def forms : List (List Nat × List Nat) := [([115, 101, 116], [98, 110]), ([99, 111, 112, 121], [98, 98]), ([97, 100, 100], [98, 98, 98]), ([115, 117, 98], [98, 98, 98]), ([102, 101, 116, 99, 104], [98, 98]), ([115, 116, 111, 114, 101], [98, 98]), ([108, 101, 115, 115], [98, 98, 112]), ([106, 117, 109, 112], [112]), ([116, 101, 108, 108], [98])]
noncomputable def formOf (w : List Nat) : List Nat := ((forms.find? fun p => p.1 == w).map (·.2)).getD []
noncomputable def last (size count : Int) (m : Nat) : Int := if m = 98 then size - 1 else if m = 110 then 999999 else count
noncomputable def wholeV (lo hi : Int) (v : V) : Bool := match v with
  | .int k => decide (lo ≤ k) && decide (k ≤ hi)
  | _ => false
noncomputable def fitsV (size count : Int) (v : V) : Bool := match v with
  | .tup (.str w :: xs) => decide (formOf w ≠ []) && decide (xs.length = (formOf w).length) && ((formOf w).zip xs).all fun p => wholeV 0 (last size count p.1) p.2
  | _ => false
/-- what may stand behind the word -/
inductive Elt : V → Prop where
  | int {i : Int} : Elt (.int i)
  | bool {i : Bool} : Elt (.bool i)
  | str {i : List Nat} : Elt (.str i)
  | none : Elt .none
  | lst : Elt (.lst [.int 0])
inductive Thing : V → Prop where
  | row {w : List Nat} {xs : List V} (h : ∀ x ∈ xs, Elt x) (hl : xs.length ≤ 10) : Thing (.tup (.str w :: xs))
  | emp : Thing (.tup [])
  | num {i : Int} {x : V} : Thing (.tup [.int i, x])
  | non {x : V} : Thing (.tup [.none, x])
  | none : Thing .none
  | str {s : List Nat} : Thing (.str s)
  | lst {s : List V} : Thing (.lst s)
theorem c_is_whole (hP : P.fn 12 = some fn_is_whole) {v : V} (hv : Elt v) {lo hi : Int} : callN P (d + 1) q 12 [v, .int lo, .int hi] h = .ok (.bool (wholeV lo hi v)) h := by
  cases hv with
  | int =>
    refine call_pure (ρ := [_, _, _]) hP rfl rfl rfl rfl ?_
    dsimp only [fn_is_whole]
    repeat' (first | ((with_reducible apply EV.var); exact rfl) | with_reducible apply EV.and | with_reducible apply EVa.cons | with_reducible apply EVa.one | with_reducible apply EV.not | ((with_reducible apply EV.isinst); exact rfl) | with_reducible apply EV.cmp2 | with_reducible apply TV.of | with_reducible apply SP.not | with_reducible apply SP.tt | with_reducible apply SP.ff | with_reducible refine SP.dec (fun _ => ?_) (fun _ => ?_) | with_reducible apply WS.ret | with_reducible apply cv_le | ((with_reducible apply ii_t); exact rfl) | ((with_reducible apply ii_f); exact rfl))
    all_goals exact Ret.eq0 (by simp only [wholeV]; simp [*])
  | _ =>
    refine call_pure (ρ := [_, _, _]) hP rfl rfl rfl rfl ?_
    dsimp only [fn_is_whole]
    repeat' (first | ((with_reducible apply EV.var); exact rfl) | with_reducible apply EV.and | with_reducible apply EVa.cons | with_reducible apply EV.not | ((with_reducible apply EV.isinst); exact rfl) | with_reducible apply TV.of | with_reducible apply SP.not | with_reducible apply SP.tt | with_reducible apply SP.ff | with_reducible apply WS.ret | ((with_reducible apply ii_t); exact rfl) | ((with_reducible apply ii_f); exact rfl) | ((with_reducible apply Ret.eq0); exact rfl))
theorem c_is_part (hP : P.fn 13 = some fn_is_part) (hP0 : P.fn 12 = some fn_is_whole) {v : V} (hv : Elt v) {m : Nat} {size count : Int} : callN P (d + 2) q 13 [.str [m], v, .int size, .int count] h = .ok (.bool (wholeV 0 (last size count m) v)) h := by
  refine call_pure (ρ := [_, _, _, _]) hP rfl rfl rfl rfl ?_
  dsimp only [fn_is_part]
  repeat' (first | ((with_reducible apply EV.var); exact rfl) | with_reducible apply EV.const | with_reducible apply EV.glob | with_reducible apply EVs.cons | with_reducible apply EVs.nil | with_reducible apply EV.bin | with_reducible apply EV.cmp | with_reducible apply EV.call | with_reducible apply CC.t | with_reducible apply TV.of | with_reducible refine SP.dec (fun _ => ?_) (fun _ => ?_) | with_reducible apply WS.ret | with_reducible apply WS.nil | with_reducible apply Thn.next | with_reducible apply bv_sub | with_reducible apply cv_eqs | with_reducible apply WS.ite)
  · rename_i e
    refine RV.ok (c_is_whole hP0 hv) (Ret.eq0 ?_)
    rw [last, if_pos (List.cons.inj e).1]
  · rename_i e1 e2
    refine RV.ok (c_is_whole hP0 hv) (Ret.eq0 ?_)
    rw [last, if_neg fun x => e1 (by rw [x]), if_pos (List.cons.inj e2).1]
  · rename_i e1 e2
    refine RV.ok (c_is_whole hP0 hv) (Ret.eq0 ?_)
    rw [last, if_neg fun x => e1 (by rw [x]), if_neg fun x => e2 (by rw [x])]
theorem forms_any {w : List Nat} : (forms.any fun p => p.1 == w) = decide (formOf w ≠ []) := by
  rw [Bool.eq_iff_iff, decide_eq_true_iff, formOf]
  cases e : forms.find? fun p => p.1 == w with
  | none =>
    have := List.find?_eq_none.mp e
    simp only [Option.map_none, Option.getD_none, ne_eq, not_true, iff_false, Bool.not_eq_true]
    rw [List.any_eq_false]; exact this
  | some p =>
    refine ⟨fun _ => ?_, fun _ => List.any_eq_true.mpr ⟨p, List.mem_of_find?_eq_some e, (List.find?_some (p := fun p : List Nat × List Nat => p.1 == w) e :)⟩⟩
    have := List.mem_of_find?_eq_some e
    show p.2 ≠ []
    revert p
    intro p _ hp
    exact (by decide : ∀ p ∈ forms, p.2 ≠ []) p hp
theorem forms_find {w : List Nat} (hw : formOf w ≠ []) : ∃ p, forms.find? (fun p => p.1 == w) = some p ∧ p.2 = formOf w := by
  unfold formOf at hw ⊢
  cases e : forms.find? fun p => p.1 == w with
  | none => rw [e] at hw; exact absurd rfl hw
  | some p => exact ⟨p, rfl, rfl⟩
theorem form_len {w : List Nat} : (formOf w).length ≤ 3 := by
  unfold formOf
  cases e : forms.find? fun p => p.1 == w with
  | none => decide
  | some p =>
    have := List.mem_of_find?_eq_some e
    exact (by decide : ∀ p ∈ forms, p.2.length ≤ 3) p this
theorem zip_all {α β : Type} {p : α × β → Bool} {l : List α} {r : List β} (hl : r.length = l.length) : (l.zip r).all p = true ↔ ∀ (j : Nat) a b, l[j]? = some a → r[j]? = some b → p (a, b) = true := by
  rw [List.all_eq_true]
  constructor
  · intro h j a b h1 h2
    exact h (a, b) (List.mem_of_getElem? (i := j) (by rw [List.getElem?_zip_eq_some]; exact ⟨h1, h2⟩))
  · rintro h ⟨a, b⟩ hx
    obtain ⟨j, hj⟩ := List.mem_iff_getElem?.mp hx
    rw [List.getElem?_zip_eq_some] at hj
    exact h j a b hj.1 hj.2
theorem fits_row {size count : Int} {w : List Nat} {xs : List V} : fitsV size count (.tup (.str w :: xs)) = (decide (formOf w ≠ []) && decide (xs.length = (formOf w).length) && ((formOf w).zip xs).all fun p => wholeV 0 (last size count p.1) p.2) := rfl
theorem fits_bad {size count : Int} {w : List Nat} {xs : List V} {j m : Nat} {v : V} (h1 : (formOf w)[j]? = some m) (h2 : xs[j]? = some v) (h3 : wholeV 0 (last size count m) v = false) : fitsV size count (.tup (.str w :: xs)) = false := by
  rw [fits_row]
  by_cases hl : xs.length = (formOf w).length
  · rw [Bool.and_eq_false_iff]; right
    rw [Bool.eq_false_iff]; intro x
    have := (zip_all hl).mp x j m v h1 h2
    rw [h3] at this; cases this
  · rw [decide_eq_false hl, Bool.and_false, Bool.false_and]
noncomputable def UpTo (size count : Int) (w : List Nat) (xs : List V) (k : Nat) : Prop := ∀ (j : Nat) a b, j < k → (formOf w)[j]? = some a → xs[j]? = some b → wholeV 0 (last size count a) b = true
theorem fits_loop (hP0 : P.fn 12 = some fn_is_whole) (hP1 : P.fn 13 = some fn_is_part) {w : List Nat} {xs : List V} (hx : ∀ x ∈ xs, Elt x) (hl : xs.length ≤ 10) (hw : formOf w ≠ []) (hlen : xs.length = (formOf w).length) {size count : Int} {x : Option V} :
    WS P (callN P (d + 2)) true [.for1 4 (.range1 (.bi .len [(.var 3)])) [.ite (.not (.t (.call 13 [(.sub (.var 3) (.var 4)), (.sub (.var 0) (.bin .add (.var 4) (.const (.int 1)))), (.var 1), (.var 2)]))) [.ret (.const (.bool false))] []],
      .ret (.const (.bool true))] [some (.tup (.str w :: xs)), some (.int size), some (.int count), some (.str (formOf w)), x] h (Ret h (.bool (fitsV size count (.tup (.str w :: xs))))) := by
  have hf := form_len (w := w)
  refine WS.forN (fun k ρ h' => h = h' ∧ (∃ x, ρ = [some (.tup (.str w :: xs)), some (.int size), some (.int count), some (.str (formOf w)), x]) ∧ UpTo size count w xs k) ?_
  repeat' (first | ((with_reducible apply EV.var); exact rfl) | with_reducible apply EVs.cons | with_reducible apply EVs.nil | with_reducible apply EV.bi | with_reducible apply IT.range1 | with_reducible apply IsI.of | ((with_reducible apply len_s); (first | assumption | omega)))
  refine ⟨by omega, (formOf w).length, fun i => .int i, by rw [Int.toNat_natCast]; rfl, by omega, ⟨rfl, ⟨_, rfl⟩, fun j a b hj => by omega⟩, ?_, ?_⟩
  · rintro k _ _ hk ⟨rfl, ⟨x, rfl⟩, hi⟩
    repeat' (first | ((with_reducible apply EV.var); exact rfl) | with_reducible apply EVs.cons | with_reducible apply EV.sub | with_reducible apply EV.call | with_reducible apply CC.t | with_reducible apply CC.not | with_reducible apply WS.ite)
    have h1 := List.getElem?_eq_getElem hk
    have h2 := List.getElem?_eq_getElem (hlen ▸ hk : k < xs.length)
    refine gi_str (v := (formOf w)[k]) (by omega) (by omega) (by simpa using h1) ?_
    repeat' (first | ((with_reducible apply EV.var); exact rfl) | with_reducible apply EV.const | with_reducible apply EVs.cons | with_reducible apply EV.bin | with_reducible apply EV.sub | with_reducible apply bv_add)
    refine gi_tup (v := xs[k]'(hlen ▸ hk)) (by omega) (by omega) (by rw [show ((k : Int) + 1).toNat = k + 1 by omega, List.getElem?_cons_succ]; exact h2) ?_
    repeat' (first | ((with_reducible apply EV.var); exact rfl) | with_reducible apply EVs.cons | with_reducible apply EVs.nil)
    refine RV.ok (c_is_part hP1 hP0 (hx _ (List.mem_of_getElem? h2))) ?_
    repeat' (first | with_reducible apply TV.of | with_reducible apply SP.not)
    refine SP.bool (fun e => ?_) fun e => ?_
    · repeat' (first | with_reducible apply WS.nil | with_reducible apply Thn.next | with_reducible apply Lp.next)
      refine ⟨rfl, ⟨_, rfl⟩, fun j a b hj h3 h4 => ?_⟩
      by_cases hjk : j = k
      · subst hjk
        rw [h1] at h3; rw [h2] at h4
        cases h3; cases h4; exact e
      · exact hi j a b (by omega) h3 h4
    · repeat' (first | with_reducible apply EV.const | with_reducible apply WS.ret | with_reducible apply Thn.ret | with_reducible apply Lp.ret)
      exact Ret.eq0 (by rw [fits_bad h1 h2 e])
  · rintro _ _ ⟨rfl, ⟨x, rfl⟩, hi⟩
    repeat' (first | with_reducible apply EV.const | with_reducible apply WS.ret)
    refine Ret.eq0 ?_
    rw [fits_row, decide_eq_true hw, decide_eq_true hlen, (zip_all hlen).mpr fun j a b h1 h2 => hi j a b (List.getElem?_eq_some_iff.mp h1).1 h1 h2]
    rfl
theorem c_fits (hP : P.fn 14 = some fn_fits) (hP0 : P.fn 12 = some fn_is_whole) (hP1 : P.fn 13 = some fn_is_part) (hT : P.tabs[0]? = some forms) {v : V} (hv : Thing v) {size count : Int} : callN P (d + 3) true 14 [v, .int size, .int count] h = .ok (.bool (fitsV size count v)) h := by
  refine call_pure (ρ := [_, _, _, _, _]) hP rfl rfl rfl rfl ?_
  dsimp only [fn_fits]
  cases hv with
  | @row w xs hx hl =>
    have hf := form_len (w := w)
    repeat' (first | ((with_reducible apply EV.var); exact rfl) | with_reducible apply EVs.cons | with_reducible apply EVs.nil | with_reducible apply EV.cmp | with_reducible apply EV.bi | ((with_reducible apply EV.isinst); exact rfl) | with_reducible apply CC.t | with_reducible apply CC.not | with_reducible apply CC.or | with_reducible apply CCo.cons | with_reducible apply TV.of | with_reducible apply SP.not | with_reducible apply SP.tt | ((with_reducible apply ii_t); exact rfl) | with_reducible apply WS.ite)
    refine len_t (by simp; omega) ?_
    have h0 : ¬ (((V.str w :: xs).length : Int) = 0) := by simp; omega
    repeat' (first | ((with_reducible apply EV.var); exact rfl) | with_reducible apply EV.const | with_reducible apply EV.sub | ((with_reducible apply EV.isinst); exact rfl) | with_reducible apply CC.t | with_reducible apply CC.not | with_reducible apply CCo.cons | with_reducible apply TV.of | ((with_reducible apply SP.df); (first | assumption | omega)) | with_reducible apply cv_eq)
    refine gi_tup (v := .str w) (by decide) (by decide) rfl ?_
    repeat' (first | ((with_reducible apply EV.var); exact rfl) | with_reducible apply EV.const | with_reducible apply EV.sub | with_reducible apply CC.t | with_reducible apply CCo.cons | ((with_reducible apply EV.niTab); (first | assumption | exact rfl)) | with_reducible apply TV.of | with_reducible apply SP.not | with_reducible apply SP.tt | ((with_reducible apply ii_t); exact rfl))
    refine gi_tup (v := .str w) (by decide) (by decide) rfl ?_
    repeat' (first | with_reducible apply IsS.of | with_reducible apply TV.of | with_reducible apply SP.not)
    rw [forms_any]
    repeat' (first | ((with_reducible apply EV.var); exact rfl) | with_reducible apply EV.const | with_reducible apply EV.sub | with_reducible apply CCo.nil | ((with_reducible apply EV.subTab); (first | assumption | exact rfl)) | with_reducible apply SP.tt | with_reducible apply SP.ff | with_reducible refine SP.dec (fun _ => ?_) (fun _ => ?_) | with_reducible apply WS.assign | with_reducible apply WS.ret | with_reducible apply WS.nil | with_reducible apply Thn.next | with_reducible apply Thn.ret)
    · rename_i hw
      obtain ⟨p, hp, hp2⟩ := forms_find hw
      refine gi_tup (v := .str w) (by decide) (by decide) rfl ?_
      repeat' (with_reducible apply IsS.of)
      refine OV.of hp ?_
      rw [hp2]
      repeat' (first | ((with_reducible apply EV.var); exact rfl) | with_reducible apply EVs.cons | with_reducible apply EVs.nil | with_reducible apply EV.cmp | with_reducible apply EV.bi | with_reducible apply CC.t | with_reducible apply WS.ite)
      refine len_t (by simp; omega) ?_
      repeat' (first | ((with_reducible apply EV.var); exact rfl) | with_reducible apply EV.const | with_reducible apply EVs.cons | with_reducible apply EVs.nil | with_reducible apply EV.bin | with_reducible apply EV.bi | with_reducible apply TV.of | with_reducible apply SP.not | with_reducible refine SP.dec (fun _ => ?_) (fun _ => ?_) | with_reducible apply WS.ret | with_reducible apply WS.nil | with_reducible apply Thn.next | with_reducible apply Thn.ret | with_reducible apply bv_add | with_reducible apply cv_ne | ((with_reducible apply len_s); (first | assumption | omega)))
      · rename_i hlen
        have hlen : xs.length = (formOf w).length := by simp at hlen; omega
        exact fits_loop hP0 hP1 hx hl hw hlen
      · rename_i hlen
        have hlen : ¬ xs.length = (formOf w).length := by simp at hlen; omega
        refine Ret.eq0 ?_
        rw [fits_row, decide_eq_false hlen, Bool.and_false, Bool.false_and]
    · rename_i hw
      refine Ret.eq0 ?_
      rw [fits_row, decide_eq_false hw, Bool.false_and, Bool.false_and]
  | emp =>
    repeat' (first | ((with_reducible apply EV.var); exact rfl) | with_reducible apply EVs.cons | with_reducible apply EVs.nil | with_reducible apply EV.cmp | with_reducible apply EV.bi | ((with_reducible apply EV.isinst); exact rfl) | with_reducible apply CC.t | with_reducible apply CC.not | with_reducible apply CC.or | with_reducible apply CCo.cons | with_reducible apply TV.of | with_reducible apply SP.not | with_reducible apply SP.tt | ((with_reducible apply ii_t); exact rfl) | with_reducible apply WS.ite)
    refine len_t (by simp) ?_
    repeat' (first | with_reducible apply EV.const | with_reducible apply TV.of | with_reducible apply SP.tt | ((with_reducible apply SP.dt); (first | assumption | exact rfl | omega)) | with_reducible apply WS.ret | with_reducible apply Thn.ret | with_reducible apply cv_eq | ((with_reducible apply Ret.eq0); exact rfl))
  | num =>
    repeat' (first | ((with_reducible apply EV.var); exact rfl) | with_reducible apply EVs.cons | with_reducible apply EVs.nil | with_reducible apply EV.cmp | with_reducible apply EV.bi | ((with_reducible apply EV.isinst); exact rfl) | with_reducible apply CC.t | with_reducible apply CC.not | with_reducible apply CC.or | with_reducible apply CCo.cons | with_reducible apply TV.of | with_reducible apply SP.not | with_reducible apply SP.tt | ((with_reducible apply ii_t); exact rfl) | with_reducible apply WS.ite)
    refine len_t (by simp) ?_
    with_reducible apply EV.const
    apply cv_eq
    apply TV.of
    refine SP.df (by simp) ?_
    repeat' (first | ((with_reducible apply EV.var); exact rfl) | with_reducible apply EV.const | with_reducible apply EV.sub | ((with_reducible apply EV.isinst); exact rfl) | with_reducible apply CC.t | with_reducible apply CC.not | with_reducible apply CCo.cons)
    refine gi_tup (v := .int _) (by decide) (by decide) rfl ?_
    repeat' (first | with_reducible apply EV.const | with_reducible apply TV.of | with_reducible apply SP.not | with_reducible apply SP.tt | with_reducible apply SP.ff | with_reducible apply WS.ret | with_reducible apply Thn.ret | ((with_reducible apply ii_f); exact rfl) | ((with_reducible apply Ret.eq0); exact rfl))
  | non =>
    repeat' (first | ((with_reducible apply EV.var); exact rfl) | with_reducible apply EVs.cons | with_reducible apply EVs.nil | with_reducible apply EV.cmp | with_reducible apply EV.bi | ((with_reducible apply EV.isinst); exact rfl) | with_reducible apply CC.t | with_reducible apply CC.not | with_reducible apply CC.or | with_reducible apply CCo.cons | with_reducible apply TV.of | with_reducible apply SP.not | with_reducible apply SP.tt | ((with_reducible apply ii_t); exact rfl) | with_reducible apply WS.ite)
    refine len_t (by simp) ?_
    with_reducible apply EV.const
    apply cv_eq
    apply TV.of
    refine SP.df (by simp) ?_
    repeat' (first | ((with_reducible apply EV.var); exact rfl) | with_reducible apply EV.const | with_reducible apply EV.sub | ((with_reducible apply EV.isinst); exact rfl) | with_reducible apply CC.t | with_reducible apply CC.not | with_reducible apply CCo.cons)
    refine gi_tup (v := .none) (by decide) (by decide) rfl ?_
    repeat' (first | with_reducible apply EV.const | with_reducible apply TV.of | with_reducible apply SP.not | with_reducible apply SP.tt | with_reducible apply SP.ff | with_reducible apply WS.ret | with_reducible apply Thn.ret | ((with_reducible apply ii_f); exact rfl) | ((with_reducible apply Ret.eq0); exact rfl))
  | _ => repeat' (first | ((with_reducible apply EV.var); exact rfl) | with_reducible apply EV.const | ((with_reducible apply EV.isinst); exact rfl) | with_reducible apply CC.t | with_reducible apply CC.not | with_reducible apply CC.or | with_reducible apply CCo.cons | with_reducible apply TV.of | with_reducible apply SP.not | with_reducible apply SP.tt | with_reducible apply SP.ff | with_reducible apply WS.ret | with_reducible apply Thn.ret | ((with_reducible apply ii_f); exact rfl) | ((with_reducible apply Ret.eq0); exact rfl) | with_reducible apply WS.ite)
end


section
variable {P : Prog} {q : Bool} {h : H} {d : Nat}
theorem c_size_by (hP : P.fn 16 = some fn_size_by) {i : Int} : ∃ v, callN P (d + 1) q 16 [.int i] h = .ok v h ∧ ∃ n : Int, v = .int n ∧ 1 ≤ n ∧ n ≤ 200 := by
  refine call_some (ρ := [_]) hP rfl rfl rfl ?_
  dsimp only [fn_size_by]
  repeat' (first | ((with_reducible apply EV.var); exact rfl) | with_reducible apply EV.const | with_reducible apply EVs.cons | with_reducible apply EVs.nil | with_reducible apply EV.bin | with_reducible apply EV.sub | with_reducible apply EV.list0 | with_reducible apply WS.ret | with_reducible apply bv_add | ((with_reducible apply bv_div); rotate_left; (first | decide | omega); (first | decide | omega)) | ((with_reducible apply bv_mod); rotate_left; (first | decide | omega)))
  refine gi_anyI 0 3 (by omega) (by simp; omega) (by decide) rfl fun n h1 h2 => ?_
  refine gi_anyI 1 200 h1 (by simp; omega) (by simp) ?_ fun n h1 h2 => ?_
  · simp [intIn]; omega
  exact RetP.of0 ⟨_, rfl, h1, h2⟩ rfl
noncomputable def isI : V → Bool
  | .int _ => true
  | _ => false
theorem c_edge (hP : P.fn 17 = some fn_edge) (hP4 : P.fn 4 = some fn_mixed) {i l : Int} (hl : 0 ≤ l) : ∃ v, callN P (d + 2) q 17 [.int i, .int l] h = .ok v h ∧ ∃ n : Int, v = .int n := by
  refine call_some (ρ := [_, _]) hP rfl rfl rfl ?_
  dsimp only [fn_edge]
  repeat' (first | ((with_reducible apply EV.var); exact rfl) | with_reducible apply EV.const | with_reducible apply EVs.cons | with_reducible apply EVs.nil | with_reducible apply EV.bin | with_reducible apply EV.sub | with_reducible apply EV.call | with_reducible apply EV.list0 | with_reducible apply WS.ret | with_reducible apply bv_add | with_reducible apply bv_sub)
  refine RV.ok (c_mixed hP4) ?_
  repeat' (first | ((with_reducible apply EV.var); exact rfl) | with_reducible apply EV.const | with_reducible apply EVs.cons | with_reducible apply EVs.nil | with_reducible apply EV.bin | with_reducible apply EV.call | with_reducible apply bv_add | ((with_reducible apply bv_mod); rotate_left; (first | decide | omega)))
  refine RV.ok (c_mixed hP4) ?_
  repeat' (first | ((with_reducible apply EV.var); exact rfl) | with_reducible apply EV.const | with_reducible apply EVs.nil | with_reducible apply EV.bin | with_reducible apply bv_add | ((with_reducible apply bv_mod); rotate_left; (first | decide | omega)))
  refine gi_any (isI · = true) (by omega) (by simp; omega) (by simp) (by simp [isI]) fun v hv => ?_
  cases v <;> first | exact RetP.of0 ⟨_, rfl⟩ rfl | cases hv
noncomputable def names : List (List Nat) := [[115, 101, 116], [99, 111, 112, 121], [97, 100, 100], [115, 117, 98], [102, 101, 116, 99, 104], [115, 116, 111, 114, 101], [108, 101, 115, 115], [106, 117, 109, 112], [116, 101, 108, 108]]
theorem idx_lt {w : List Nat} (hw : w ∈ names) : names.idxOf w < 1000 := Nat.lt_of_lt_of_le (List.idxOf_lt_length_of_mem hw) (by decide)
theorem form_get {w : List Nat} (hw : w ∈ names) : ([.str [98, 110], .str [98, 98], .str [98, 98, 98], .str [98, 98, 98], .str [98, 98], .str [98, 98], .str [98, 98, 112], .str [112], .str [98]] : List V)[((names.idxOf w : Nat) : Int).toNat]? = some (.str (formOf w)) := by
  simp only [names, List.mem_cons, List.not_mem_nil, or_false] at hw
  rcases hw with rfl | rfl | rfl | rfl | rfl | rfl | rfl | rfl | rfl <;> rfl
theorem form_none {w : List Nat} (hw : w ∉ names) : formOf w = [] := by
  unfold formOf
  rw [List.find?_eq_none.mpr]
  · rfl
  · intro p hp e
    exact hw (by
      rw [← beq_iff_eq.mp e]
      exact (List.mem_map.mpr ⟨p, hp, rfl⟩ : p.1 ∈ forms.map (·.1)))
theorem form_in {w : List Nat} {c : Nat} (hc : c ∈ formOf w) : c = 98 ∨ c = 110 ∨ c = 112 := by
  unfold formOf at hc
  cases e : forms.find? fun p => p.1 == w with
  | none => rw [e] at hc; cases hc
  | some p =>
    rw [e] at hc
    have := List.mem_of_find?_eq_some e
    exact (by decide : ∀ p ∈ forms, ∀ c ∈ p.2, c = 98 ∨ c = 110 ∨ c = 112) p this c hc
theorem c_marks (hP : P.fn 18 = some fn_marks) {w : List Nat} : callN P (d + 1) q 18 [.str w] h = .ok (.str (formOf w)) h := by
  refine call_pure (ρ := [_, _]) hP rfl rfl rfl rfl ?_
  dsimp only [fn_marks]
  repeat' (first | ((with_reducible apply EV.var); exact rfl) | with_reducible apply EV.const | with_reducible apply EVs.cons | with_reducible apply EVs.nil | with_reducible apply EV.cmp | with_reducible apply EV.list0 | with_reducible apply CC.t | with_reducible apply WS.assign | with_reducible apply WS.ite)
  refine ni_strs (xs := names) ?_
  repeat' (first | ((with_reducible apply EV.var); exact rfl) | with_reducible apply EV.const | with_reducible apply EVs.cons | with_reducible apply EVs.nil | with_reducible apply EV.sub | with_reducible apply EV.list0 | with_reducible apply EV.bm | ((with_reducible apply KM.of); exact rfl) | with_reducible apply KE.of | with_reducible apply TV.of | with_reducible apply SP.not | with_reducible refine SP.dec (fun _ => ?_) (fun _ => ?_) | with_reducible apply WS.ret | with_reducible apply WS.nil | with_reducible apply Thn.next | with_reducible apply Thn.ret)
  · rename_i hn
    refine index_strs (xs := names) hn (by decide) ?_
    refine gi_lst (by omega) (by have := idx_lt hn; omega) (form_get hn) ?_
    exact Ret.eq0 rfl
  · rename_i hn
    exact Ret.eq0 (by rw [form_none hn])
theorem idx_last {size count : Int} {c : Nat} {R : V → H → Prop} {X : Nat → H → Prop} (hc : c = 98 ∨ c = 110 ∨ c = 112) (k : R (.int (last size count c)) h) :
    RV (bmV .index h (.str [98, 110, 112]) [.str [c]]) (fun y h => OV (getItem h (.lst [.int (size - 1), .int 999999, .int count]) y) fun v => R v h) X := by
  rcases hc with rfl | rfl | rfl
  · exact RV.ok rfl (gi_lst (by decide) (by decide) rfl k)
  · exact RV.ok rfl (gi_lst (by decide) (by decide) rfl k)
  · exact RV.ok rfl (gi_lst (by decide) (by decide) rfl k)
theorem last_nn {size count : Int} (h1 : 1 ≤ size) (h2 : 0 ≤ count) {c : Nat} : 0 ≤ last size count c := by
  unfold last; split
  · omega
  · split <;> omega
theorem Elt.under {v : V} (hv : Elt v) {n : Nat} : v.refUnder n = true := by cases hv <;> rfl
theorem under_all {n : Nat} : ∀ {xs : List V}, (∀ x ∈ xs, x.refUnder n = true) → V.refsUnder n xs = true
  | [], _ => rfl
  | x :: xs, hx => (Bool.and_eq_true _ _).mpr ⟨hx x List.mem_cons_self, under_all fun y hy => hx y (List.mem_cons_of_mem _ hy)⟩
theorem Elt.unders {n : Nat} {xs : List V} (hx : ∀ x ∈ xs, Elt x) : V.refsUnder n xs = true := under_all fun x h => (hx x h).under
theorem set_r {n : Nat} {xs : List V} {i : Int} {v : V} {Q : H → Prop} (e : h[n]? = some (.list xs)) (h1 : 0 ≤ i) (h2 : i < 1000000) (h3 : i.toNat < xs.length) (k : Q (h.set n (.list (xs.set i.toNat v)))) : OV (setItem h (.ref n) (.int i) v) Q := by
  refine ⟨_, ?_, k⟩
  have h0 : ∀ (o : Option M) (f : List (Int × V) → Option H), o = some (.list xs) → (match o with | some (.list xs) => if okIdx i ∧ i.toNat < xs.length then some (h.set n (.list (xs.set i.toNat v))) else none | some (.dict es) => f es | _ => none) = some (h.set n (.list (xs.set i.toNat v))) := by
    rintro _ f rfl; dsimp only; rw [if_pos (by simp [okIdx, h1, h2, h3])]
  exact h0 _ _ e
theorem c_thing_by (hP : P.fn 19 = some fn_thing_by) (hP2 : P.fn 2 = some fn_cell_at) (hP4 : P.fn 4 = some fn_mixed) (hP17 : P.fn 17 = some fn_edge) (hP18 : P.fn 18 = some fn_marks) {xs : List Int} (hx : xs.length ≤ 63) {size count : Int} (h1 : 1 ≤ size) (h2 : 0 ≤ count) :
    ∃ v, callN P (d + 3) true 19 [.lst (xs.map .int), .int size, .int count] h = .ok v h ∧ Thing v := by
  refine call_some (ρ := [_, _, _, _, _, _, _, _, _, _]) hP rfl rfl rfl ?_
  dsimp only [fn_thing_by]
  repeat' (first | ((with_reducible apply EV.var); exact rfl) | with_reducible apply EV.const | with_reducible apply EVs.cons | with_reducible apply EVs.nil | with_reducible apply EV.call | with_reducible apply WS.assign)
  refine RV.ok (c_cell_at hP2 (by omega) (by decide) (by decide)) ?_
  generalize cellAt xs (Int.toNat 2) = first
  repeat' (first | ((with_reducible apply EV.var); exact rfl) | with_reducible apply EV.const | with_reducible apply EVs.cons | with_reducible apply EVs.nil | with_reducible apply EV.bin | with_reducible apply EV.sub | with_reducible apply EV.list0 | with_reducible apply WS.assign | ((with_reducible apply bv_mod); rotate_left; (first | decide | omega)))
  refine gi_anyS 5 (by omega) (by simp; omega) (by decide) rfl fun w hw => ?_
  repeat' (first | ((with_reducible apply EV.var); exact rfl) | with_reducible apply EVs.cons | with_reducible apply EVs.nil | with_reducible apply EV.call | with_reducible apply WS.assign)
  refine RV.ok (c_marks hP18) ?_
  have hf := form_len (w := w)
  have hfi := fun c => form_in (w := w) (c := c)
  refine WS.iteJ (fun ρ h' => h = h' ∧ ∃ (m : List Nat), m.length ≤ 3 ∧ (∀ c ∈ m, c = 98 ∨ c = 110 ∨ c = 112) ∧ ρ = [some (.lst (xs.map .int)), some (.int size), some (.int count), some (.int first), some (.str w), some (.str m), none, none, none, none]) ?_ ?_
  · repeat' (first | ((with_reducible apply EV.var); exact rfl) | with_reducible apply EV.const | with_reducible apply EV.bin | with_reducible apply EV.cmp | with_reducible apply EV.slice | with_reducible apply CC.t | with_reducible apply TV.of | with_reducible refine SP.dec (fun _ => ?_) (fun _ => ?_) | with_reducible apply WS.assign | with_reducible apply WS.nil | with_reducible apply Lp.next | ((with_reducible apply bv_div); rotate_left; (first | decide | omega); (first | decide | omega)) | ((with_reducible apply bv_mod); rotate_left; (first | decide | omega)) | with_reducible apply cv_eq)
    · refine sl_str bd_n bd_i (by omega) ?_
      repeat' (first | with_reducible apply WS.nil | with_reducible apply Lp.next)
      refine ⟨rfl, _, ?_, ?_, rfl⟩
      · exact Nat.le_trans sliceL_len hf
      · intro c hc
        exact hfi c (List.mem_of_mem_drop (List.mem_of_mem_take hc))
    · exact ⟨rfl, _, hf, hfi, rfl⟩
  rintro _ _ ⟨rfl, m, hm, hmi, rfl⟩
  refine WS.iteJ (fun ρ h' => h = h' ∧ ∃ (m : List Nat), m.length ≤ 4 ∧ (∀ c ∈ m, c = 98 ∨ c = 110 ∨ c = 112) ∧ ρ = [some (.lst (xs.map .int)), some (.int size), some (.int count), some (.int first), some (.str w), some (.str m), none, none, none, none]) ?_ ?_
  · repeat' (first | ((with_reducible apply EV.var); exact rfl) | with_reducible apply EV.const | with_reducible apply EV.bin | with_reducible apply EV.cmp | with_reducible apply CC.t | with_reducible apply TV.of | with_reducible refine SP.dec (fun _ => ?_) (fun _ => ?_) | with_reducible apply WS.assign | with_reducible apply WS.nil | with_reducible apply Lp.next | ((with_reducible apply bv_div); rotate_left; (first | decide | omega); (first | decide | omega)) | ((with_reducible apply bv_mod); rotate_left; (first | decide | omega)) | with_reducible apply cv_eq)
    · refine bv_adds ?_ (by simp; omega)
      repeat' (first | with_reducible apply WS.nil | with_reducible apply Lp.next)
      refine ⟨rfl, _, by simp; omega, ?_, rfl⟩
      intro c hc
      rcases List.mem_append.mp hc with hc | hc
      · exact hmi c hc
      · exact .inl (List.mem_singleton.mp hc)
    · exact ⟨rfl, _, by omega, hmi, rfl⟩
  clear hm hmi m hf hfi
  rintro _ _ ⟨rfl, m, hm, hmi, rfl⟩
  repeat' (first | ((with_reducible apply EV.var); exact rfl) | with_reducible apply EVs.cons | with_reducible apply EVs.nil | with_reducible apply EV.list1 | with_reducible apply WS.assign)
  refine WS.forN (fun k ρ h' => ∃ vs, h' = h ++ [.list (.str w :: vs)] ∧ vs.length = k ∧ (∀ v ∈ vs, Elt v) ∧ ∃ a b, ρ = [some (.lst (xs.map .int)), some (.int size), some (.int count), some (.int first), some (.str w), some (.str m), some (.ref h.length), a, b, none]) ?_
  repeat' (first | ((with_reducible apply EV.var); exact rfl) | with_reducible apply EVs.cons | with_reducible apply EVs.nil | with_reducible apply EV.bi | with_reducible apply IT.range1 | with_reducible apply IsI.of | ((with_reducible apply len_s); (first | assumption | omega)))
  refine ⟨by omega, m.length, fun i => .int i, by rw [Int.toNat_natCast]; rfl, by omega, ⟨[], rfl, rfl, (fun v hv => by cases hv), _, _, rfl⟩, ?_, ?_⟩
  · rintro k _ _ hk ⟨vs, rfl, hvl, hve, a, b, rfl⟩
    repeat' (first | ((with_reducible apply EV.var); exact rfl) | with_reducible apply EV.const | with_reducible apply EVs.cons | with_reducible apply EVs.nil | with_reducible apply EV.bin | with_reducible apply EV.sub | with_reducible apply EV.list0 | with_reducible apply EV.bm | ((with_reducible apply KM.of); exact rfl) | with_reducible apply WS.assign | with_reducible apply bv_sub)
    have e1 := List.getElem?_eq_getElem hk
    refine gi_str (v := m[k]) (by omega) (by omega) (by simpa using e1) ?_
    repeat' (first | with_reducible apply EVs.nil | with_reducible apply KE.of)
    refine idx_last (hmi _ (List.getElem_mem hk)) ?_
    repeat' (first | ((with_reducible apply EV.var); exact rfl) | with_reducible apply EV.const | with_reducible apply EVs.cons | with_reducible apply EVs.nil | with_reducible apply EV.bin | with_reducible apply EV.call | with_reducible apply EV.bm | ((with_reducible apply KM.lst at_end); exact rfl) | with_reducible apply WS.expr | with_reducible apply bv_add)
    refine RV.ok (c_cell_at hP2 (by omega) (by omega) (by omega)) ?_
    repeat' (first | ((with_reducible apply EV.var); exact rfl) | with_reducible apply EVs.cons | with_reducible apply EVs.nil)
    obtain ⟨_, e2, n, rfl⟩ := c_edge (P := P) (q := true) (d := d) (h := h ++ [.list (.str w :: vs)]) hP17 hP4 (i := cellAt xs ((3 : Int) + (k : Int)).toNat) (l := last size count m[k]) (last_nn h1 h2)
    refine RV.ok e2 ?_
    repeat' (first | with_reducible apply EVs.nil | with_reducible apply KE.of)
    refine app_r at_end (by simp; omega) ?_
    rw [set_end]
    repeat' (first | with_reducible apply WS.nil | with_reducible apply Lp.next)
    refine ⟨vs ++ [.int n], rfl, by simp [hvl], ?_, _, _, rfl⟩
    intro v hv
    rcases List.mem_append.mp hv with hv | hv
    · exact hve v hv
    · rw [List.mem_singleton.mp hv]; exact .int
  · rintro _ _ ⟨vs, rfl, hvl, hve, a, b, rfl⟩
    have hvl : vs.length ≤ 4 := by omega
    repeat' (first | ((with_reducible apply EV.var); exact rfl) | with_reducible apply EV.const | with_reducible apply EV.bin | with_reducible apply WS.assign | ((with_reducible apply bv_div); rotate_left; (first | decide | omega); (first | decide | omega)) | ((with_reducible apply bv_mod); rotate_left; (first | decide | omega)))
    refine WS.iteJ (fun ρ h' => ∃ vs, h' = h ++ [.list (.str w :: vs)] ∧ vs.length ≤ 4 ∧ (∀ v ∈ vs, Elt v) ∧ ρ = [some (.lst (xs.map .int)), some (.int size), some (.int count), some (.int first), some (.str w), some (.str m), some (.ref h.length), a, b, some (.int (first / 60 % 16))]) ?_ ?_
    · repeat' (first | ((with_reducible apply EV.var); exact rfl) | with_reducible apply EV.const | with_reducible apply EVs.cons | with_reducible apply EVs.nil | with_reducible apply EV.cmp | with_reducible apply EV.tuple | with_reducible apply CC.t | with_reducible apply CC.and | with_reducible apply CCa.cons)
      refine OV.of rfl ?_
      repeat' (with_reducible apply TV.of)
      refine SP.bool (fun _ => ?_) fun _ => ?_
      · repeat' (first | ((with_reducible apply EV.var); exact rfl) | with_reducible apply EVs.cons | with_reducible apply EVs.nil | with_reducible apply EV.cmp | with_reducible apply EV.bi | with_reducible apply CC.t | with_reducible apply CCa.cons)
        refine len_r at_end (by simp; omega) ?_
        repeat' (first | with_reducible apply EV.const | with_reducible apply CCa.nil | with_reducible apply TV.of | with_reducible apply SP.tt | with_reducible apply SP.ff | with_reducible refine SP.dec (fun _ => ?_) (fun _ => ?_) | with_reducible apply WS.nil | with_reducible apply Lp.next | with_reducible apply cv_gt)
        · rename_i hlen
          refine WS.setsub ?_
          repeat' (first | ((with_reducible apply EV.var); exact rfl) | with_reducible apply EV.const | with_reducible apply EVs.cons | with_reducible apply EVs.nil | with_reducible apply EV.bin | with_reducible apply EV.sub | with_reducible apply EV.call | with_reducible apply EV.list0)
          refine RV.ok (c_cell_at hP2 (by omega) (by omega) (by omega)) ?_
          repeat' (first | with_reducible apply EV.const | ((with_reducible apply bv_mod); rotate_left; (first | decide | omega)))
          refine gi_any Elt (by omega) (by simp; omega) (by decide) ?_ fun v hv => ?_
          · intro v hv
            simp only [List.mem_cons, List.not_mem_nil, or_false] at hv
            rcases hv with rfl | rfl | rfl | rfl <;> constructor
          repeat' (first | ((with_reducible apply EV.var); exact rfl) | with_reducible apply EV.const | with_reducible apply EVs.cons | with_reducible apply EVs.nil | with_reducible apply EV.bin | with_reducible apply EV.bi | ((with_reducible apply bv_div); rotate_left; (first | decide | omega); (first | decide | omega)))
          refine len_r at_end (by simp; omega) ?_
          repeat' (first | with_reducible apply EV.const | with_reducible apply bv_add | with_reducible apply bv_sub | ((with_reducible apply bv_mod); rotate_left; (first | decide | omega)))
          have hpos : (0 : Int) < ((V.str w :: vs).length : Int) - 1 := by simp at hlen ⊢; omega
          have hb1 := Int.emod_nonneg (first / 960) (show ((V.str w :: vs).length : Int) - 1 ≠ 0 by omega)
          have hb2 := Int.emod_lt_of_pos (first / 960) hpos
          have hll : ((V.str w :: vs).length : Int) ≤ 5 := by simp; omega
          refine set_r at_end (by omega) (by omega) (by omega) ?_
          rw [set_end]
          repeat' (first | with_reducible apply WS.nil | with_reducible apply Lp.next)
          generalize first / 960 % (((V.str w :: vs).length : Int) - 1) = j at hb1 hb2
          refine ⟨vs.set j.toNat v, ?_, by simp; omega, ?_, rfl⟩
          · rw [show (1 + j).toNat = j.toNat + 1 by omega]; rfl
          · intro x hx
            rcases List.mem_or_eq_of_mem_set hx with hx | rfl
            · exact hve x hx
            · exact hv
        · exact ⟨vs, rfl, hvl, hve, rfl⟩
      · repeat' (first | with_reducible apply SP.ff | with_reducible apply WS.nil | with_reducible apply Lp.next)
        exact ⟨vs, rfl, hvl, hve, rfl⟩
    clear hve
    rintro _ _ ⟨vs, rfl, hvl, hve, rfl⟩
    have hu : V.refsUnder h.length (.str w :: vs) = true := Elt.unders (xs := vs) hve
    repeat' (first | ((with_reducible apply EV.var); exact rfl) | with_reducible apply EV.const | with_reducible apply EVs.cons | with_reducible apply EVs.nil | with_reducible apply EV.cmp | with_reducible apply EV.bi | with_reducible apply CC.t | with_reducible apply TV.of | with_reducible refine SP.dec (fun _ => ?_) (fun _ => ?_) | with_reducible apply WS.ret | with_reducible apply WS.nil | with_reducible apply Thn.next | with_reducible apply cv_eq | with_reducible apply WS.ite)
    · by_cases h0 : first / 960 % 6 = 0
      · refine EV.freeze ?_
        repeat' (first | ((with_reducible apply EV.var); exact rfl) | with_reducible apply EV.const | with_reducible apply EVs.cons | with_reducible apply EVs.nil | with_reducible apply EV.bin | with_reducible apply EV.sub | with_reducible apply EV.list0 | with_reducible apply EV.tuple | ((with_reducible apply bv_div); rotate_left; (first | decide | omega); (first | decide | omega)) | ((with_reducible apply bv_mod); rotate_left; (first | decide | omega)))
        rw [h0]
        refine gi_lst (v := .ref h.length) (by decide) (by decide) rfl ?_
        refine ⟨_, _, rfl, at_end, ?_⟩
        rw [set_end]
        exact RetP.of .lst hu
      · refine EV.freezeV ?_
        repeat' (first | ((with_reducible apply EV.var); exact rfl) | with_reducible apply EV.const | with_reducible apply EVs.cons | with_reducible apply EVs.nil | with_reducible apply EV.bin | with_reducible apply EV.sub | with_reducible apply EV.list0 | with_reducible apply EV.tuple | ((with_reducible apply bv_div); rotate_left; (first | decide | omega); (first | decide | omega)) | ((with_reducible apply bv_mod); rotate_left; (first | decide | omega)))
        have : first / 960 % 6 = 1 ∨ first / 960 % 6 = 2 ∨ first / 960 % 6 = 3 ∨ first / 960 % 6 = 4 ∨ first / 960 % 6 = 5 := by omega
        rcases this with e | e | e | e | e <;> rw [e]
        · exact gi_lst (v := .tup [.int 1, .int 0]) (by decide) (by decide) rfl ⟨(fun n e => by cases e), RetP.of .num rfl⟩
        · exact gi_lst (v := .tup []) (by decide) (by decide) rfl ⟨(fun n e => by cases e), RetP.of .emp rfl⟩
        · exact gi_lst (v := .none) (by decide) (by decide) rfl ⟨(fun n e => by cases e), RetP.of .none rfl⟩
        · exact gi_lst (v := .str w) (by decide) (by decide) rfl ⟨(fun n e => by cases e), RetP.of .str rfl⟩
        · exact gi_lst (v := .tup [.none, .int 0]) (by decide) (by decide) rfl ⟨(fun n e => by cases e), RetP.of .non rfl⟩
    · exact tup_q (seqOf_r at_end) (by simp; omega) (RetP.of (.row hve (by omega)) hu)
noncomputable def isIV (v : V) : Bool := match v with
  | .int _ => true
  | _ => false
theorem c_wholeE (hP : P.fn 3 = some fn_whole) {v : V} (hv : Elt v) : callN P (d + 1) q 3 [v] h = .ok (.bool (isIV v)) h := by
  cases hv <;> (refine call_pure (ρ := [_]) hP rfl rfl rfl rfl ?_; dsimp only [fn_whole]; repeat' (first | ((with_reducible apply EV.var); exact rfl) | with_reducible apply EV.and | with_reducible apply EVa.cons | with_reducible apply EVa.one | with_reducible apply EV.not | ((with_reducible apply EV.isinst); exact rfl) | with_reducible apply TV.of | with_reducible apply SP.tt | with_reducible apply SP.ff | with_reducible apply WS.ret | ((with_reducible apply ii_t); exact rfl) | ((with_reducible apply ii_f); exact rfl) | ((with_reducible apply Ret.eq0); exact rfl)))
theorem fitsb_loop (hP0 : P.fn 3 = some fn_whole) {w : List Nat} {xs : List V} (hx : ∀ x ∈ xs, Elt x) (hl : xs.length ≤ 10) (hw : formOf w ≠ []) (hlen : xs.length = (formOf w).length) {size count : Int} {x y : Option V} :
    WS P (callN P (d + 1)) true [.for1 4 (.range1 (.bi .len [(.var 3)])) [.assign 5 (.sub (.list false [(.bin .sub (.var 1) (.const (.int 1))), (.const (.int 999999)), (.var 2)]) (.bm .index (.const (.str [98, 110, 112])) [(.sub (.var 3) (.var 4))])),
      .ite (.or [(.not (.t (.call 3 [(.sub (.var 0) (.bin .add (.const (.int 1)) (.var 4)))]))), (.not (.t (.cmp2 .le .le (.const (.int 0)) (.sub (.var 0) (.bin .add (.const (.int 1)) (.var 4))) (.var 5))))]) [.ret (.const (.bool false))] []],
      .ret (.const (.bool true))] [some (.tup (.str w :: xs)), some (.int size), some (.int count), some (.str (formOf w)), x, y] h (Ret h (.bool (fitsV size count (.tup (.str w :: xs))))) := by
  have hf := form_len (w := w)
  refine WS.forN (fun k ρ h' => h = h' ∧ (∃ x y, ρ = [some (.tup (.str w :: xs)), some (.int size), some (.int count), some (.str (formOf w)), x, y]) ∧ UpTo size count w xs k) ?_
  repeat' (first | ((with_reducible apply EV.var); exact rfl) | with_reducible apply EVs.cons | with_reducible apply EVs.nil | with_reducible apply EV.bi | with_reducible apply IT.range1 | with_reducible apply IsI.of | ((with_reducible apply len_s); (first | assumption | omega)))
  refine ⟨by omega, (formOf w).length, fun i => .int i, by rw [Int.toNat_natCast]; rfl, by omega, ⟨rfl, ⟨_, _, rfl⟩, fun j a b hj => by omega⟩, ?_, ?_⟩
  · rintro k _ _ hk ⟨rfl, ⟨x, y, rfl⟩, hi⟩
    repeat' (first | ((with_reducible apply EV.var); exact rfl) | with_reducible apply EV.const | with_reducible apply EVs.cons | with_reducible apply EVs.nil | with_reducible apply EV.bin | with_reducible apply EV.sub | with_reducible apply EV.list0 | with_reducible apply EV.bm | ((with_reducible apply KM.of); exact rfl) | with_reducible apply WS.assign | with_reducible apply bv_sub)
    have h1 := List.getElem?_eq_getElem hk
    have h2 := List.getElem?_eq_getElem (hlen ▸ hk : k < xs.length)
    have up : wholeV 0 (last size count (formOf w)[k]) (xs[k]'(hlen ▸ hk)) = true → UpTo size count w xs (k + 1) := fun e j a b hj h3 h4 => by
      by_cases hjk : j = k
      · subst hjk
        rw [h1] at h3; rw [h2] at h4
        cases h3; cases h4; exact e
      · exact hi j a b (by omega) h3 h4
    refine gi_str (v := (formOf w)[k]) (by omega) (by omega) (by simpa using h1) ?_
    repeat' (first | with_reducible apply EVs.nil | with_reducible apply KE.of)
    refine idx_last (form_in (List.getElem_mem hk)) ?_
    have get : ∀ {Qo : V → Prop}, Qo (xs[k]'(hlen ▸ hk)) → OV (getItem h (.tup (.str w :: xs)) (.int (1 + (k : Int)))) Qo := fun kk =>
      gi_tup (by omega) (by omega) (by rw [show (1 + (k : Int)).toNat = k + 1 by omega, List.getElem?_cons_succ]; exact h2) kk
    have he := hx _ (List.mem_of_getElem? h2)
    revert up get he h2
    generalize xs[k]'(hlen ▸ hk) = v
    intro h2 up get he
    repeat' (first | ((with_reducible apply EV.var); exact rfl) | with_reducible apply EV.const | with_reducible apply EVs.cons | with_reducible apply EV.bin | with_reducible apply EV.sub | with_reducible apply EV.call | with_reducible apply CC.t | with_reducible apply CC.not | with_reducible apply CC.or | with_reducible apply CCo.cons | with_reducible apply bv_add | with_reducible apply WS.ite)
    refine get ?_
    repeat' (with_reducible apply EVs.nil)
    refine RV.ok (c_wholeE hP0 he) ?_
    cases he with
    | @int i =>
      refine TV.of ?_
      apply SP.not
      refine SP.t rfl ?_
      repeat' (first | ((with_reducible apply EV.var); exact rfl) | with_reducible apply EV.const | with_reducible apply EV.bin | with_reducible apply EV.sub | with_reducible apply EV.cmp2 | with_reducible apply CC.t | with_reducible apply CC.not | with_reducible apply CCo.cons | with_reducible apply bv_add)
      refine get ?_
      repeat' (first | ((with_reducible apply EV.var); exact rfl) | with_reducible apply EV.const | with_reducible apply CCo.nil | with_reducible apply TV.of | with_reducible apply SP.not | with_reducible apply SP.tt | with_reducible apply SP.ff | with_reducible refine SP.dec (fun _ => ?_) (fun _ => ?_) | with_reducible apply WS.ret | with_reducible apply WS.nil | with_reducible apply Thn.next | with_reducible apply Thn.ret | with_reducible apply Lp.next | with_reducible apply Lp.ret | with_reducible apply cv_le)
      · rename_i a1 a2
        exact ⟨rfl, ⟨_, _, rfl⟩, up (by rw [wholeV, decide_eq_true a1, decide_eq_true a2]; rfl)⟩
      · rename_i a1 a2
        exact Ret.eq0 (by rw [fits_bad h1 h2 (by rw [wholeV, decide_eq_false a2, Bool.and_false])])
      · rename_i a1
        exact Ret.eq0 (by rw [fits_bad h1 h2 (by rw [wholeV, decide_eq_false a1, Bool.false_and])])
    | _ =>
      refine TV.of ?_
      apply SP.not
      refine SP.f rfl ?_
      repeat' (first | with_reducible apply EV.const | with_reducible apply SP.tt | with_reducible apply WS.ret | with_reducible apply Thn.ret | with_reducible apply Lp.ret)
      exact Ret.eq0 (by rw [fits_bad h1 h2 rfl])
  · rintro _ _ ⟨rfl, ⟨x, y, rfl⟩, hi⟩
    repeat' (first | with_reducible apply EV.const | with_reducible apply WS.ret)
    refine Ret.eq0 ?_
    rw [fits_row, decide_eq_true hw, decide_eq_true hlen, (zip_all hlen).mpr fun j a b h1 h2 => hi j a b (List.getElem?_eq_some_iff.mp h1).1 h1 h2]
    rfl
theorem c_fitsb (hP : P.fn 20 = some fn_fitsb) (hP0 : P.fn 3 = some fn_whole) (hP1 : P.fn 18 = some fn_marks) {v : V} (hv : Thing v) {size count : Int} : callN P (d + 2) true 20 [v, .int size, .int count] h = .ok (.bool (fitsV size count v)) h := by
  refine call_pure (ρ := [_, _, _, _, _, _]) hP rfl rfl rfl rfl ?_
  dsimp only [fn_fitsb]
  cases hv with
  | @row w xs hx hl =>
    have hf := form_len (w := w)
    repeat' (first | ((with_reducible apply EV.var); exact rfl) | with_reducible apply EVs.cons | with_reducible apply EVs.nil | with_reducible apply EV.cmp | with_reducible apply EV.bi | ((with_reducible apply EV.isinst); exact rfl) | with_reducible apply CC.t | with_reducible apply CC.not | with_reducible apply CC.or | with_reducible apply CCo.cons | with_reducible apply TV.of | with_reducible apply SP.not | with_reducible apply SP.tt | ((with_reducible apply ii_t); exact rfl) | with_reducible apply WS.ite)
    refine len_t (by simp; omega) ?_
    have h0 : ¬ (((V.str w :: xs).length : Int) = 0) := by simp; omega
    repeat' (first | ((with_reducible apply EV.var); exact rfl) | with_reducible apply EV.const | with_reducible apply EV.sub | ((with_reducible apply EV.isinst); exact rfl) | with_reducible apply CC.t | with_reducible apply CC.not | with_reducible apply CCo.cons | with_reducible apply TV.of | ((with_reducible apply SP.df); (first | assumption | omega)) | with_reducible apply cv_eq)
    refine gi_tup (v := .str w) (by decide) (by decide) rfl ?_
    repeat' (first | ((with_reducible apply EV.var); exact rfl) | with_reducible apply EV.const | with_reducible apply EVs.cons | with_reducible apply EV.sub | with_reducible apply EV.call | with_reducible apply CCo.nil | with_reducible apply TV.of | with_reducible apply SP.not | with_reducible apply SP.tt | with_reducible apply SP.ff | with_reducible apply WS.assign | with_reducible apply WS.nil | with_reducible apply Thn.next | ((with_reducible apply ii_t); exact rfl))
    refine gi_tup (v := .str w) (by decide) (by decide) rfl ?_
    repeat' (with_reducible apply EVs.nil)
    refine RV.ok (c_marks hP1) ?_
    repeat' (first | ((with_reducible apply EV.var); exact rfl) | with_reducible apply EV.const | with_reducible apply EVs.cons | with_reducible apply EVs.nil | with_reducible apply EV.cmp | with_reducible apply EV.bi | with_reducible apply CC.t | with_reducible apply CC.or | with_reducible apply CCo.cons | with_reducible apply TV.of | with_reducible apply SP.tt | with_reducible refine SP.dec (fun _ => ?_) (fun _ => ?_) | with_reducible apply WS.ret | with_reducible apply Thn.ret | with_reducible apply cv_eqs | with_reducible apply WS.ite)
    · rename_i hw
      refine Ret.eq0 ?_
      rw [fits_row, decide_eq_false (fun x => x hw), Bool.false_and, Bool.false_and]
    · rename_i hw
      refine len_t (by simp; omega) ?_
      repeat' (first | ((with_reducible apply EV.var); exact rfl) | with_reducible apply EV.const | with_reducible apply EVs.cons | with_reducible apply EVs.nil | with_reducible apply EV.bin | with_reducible apply EV.bi | with_reducible apply CCo.nil | with_reducible apply TV.of | with_reducible apply SP.not | with_reducible apply SP.tt | with_reducible apply SP.ff | with_reducible refine SP.dec (fun _ => ?_) (fun _ => ?_) | with_reducible apply WS.ret | with_reducible apply WS.nil | with_reducible apply Thn.next | with_reducible apply Thn.ret | with_reducible apply bv_add | with_reducible apply cv_ne | ((with_reducible apply len_s); (first | assumption | omega)))
      · rename_i hlen
        have hlen : xs.length = (formOf w).length := by simp at hlen; omega
        exact fitsb_loop hP0 hx hl hw hlen
      · rename_i hlen
        have hlen : ¬ xs.length = (formOf w).length := by simp at hlen; omega
        refine Ret.eq0 ?_
        rw [fits_row, decide_eq_false hlen, Bool.and_false, Bool.false_and]
  | emp =>
    repeat' (first | ((with_reducible apply EV.var); exact rfl) | with_reducible apply EVs.cons | with_reducible apply EVs.nil | with_reducible apply EV.cmp | with_reducible apply EV.bi | ((with_reducible apply EV.isinst); exact rfl) | with_reducible apply CC.t | with_reducible apply CC.not | with_reducible apply CC.or | with_reducible apply CCo.cons | with_reducible apply TV.of | with_reducible apply SP.not | with_reducible apply SP.tt | ((with_reducible apply ii_t); exact rfl) | with_reducible apply WS.ite)
    refine len_t (by simp) ?_
    repeat' (first | with_reducible apply EV.const | with_reducible apply TV.of | with_reducible apply SP.tt | ((with_reducible apply SP.dt); (first | assumption | exact rfl | omega)) | with_reducible apply WS.ret | with_reducible apply Thn.ret | with_reducible apply cv_eq | ((with_reducible apply Ret.eq0); exact rfl))
  | num =>
    repeat' (first | ((with_reducible apply EV.var); exact rfl) | with_reducible apply EVs.cons | with_reducible apply EVs.nil | with_reducible apply EV.cmp | with_reducible apply EV.bi | ((with_reducible apply EV.isinst); exact rfl) | with_reducible apply CC.t | with_reducible apply CC.not | with_reducible apply CC.or | with_reducible apply CCo.cons | with_reducible apply TV.of | with_reducible apply SP.not | with_reducible apply SP.tt | ((with_reducible apply ii_t); exact rfl) | with_reducible apply WS.ite)
    refine len_t (by simp) ?_
    with_reducible apply EV.const
    apply cv_eq
    apply TV.of
    refine SP.df (by simp) ?_
    repeat' (first | ((with_reducible apply EV.var); exact rfl) | with_reducible apply EV.const | with_reducible apply EV.sub | ((with_reducible apply EV.isinst); exact rfl) | with_reducible apply CC.t | with_reducible apply CC.not | with_reducible apply CCo.cons)
    refine gi_tup (v := .int _) (by decide) (by decide) rfl ?_
    repeat' (first | with_reducible apply EV.const | with_reducible apply TV.of | with_reducible apply SP.not | with_reducible apply SP.tt | with_reducible apply SP.ff | with_reducible apply WS.ret | with_reducible apply Thn.ret | ((with_reducible apply ii_f); exact rfl) | ((with_reducible apply Ret.eq0); exact rfl))
  | non =>
    repeat' (first | ((with_reducible apply EV.var); exact rfl) | with_reducible apply EVs.cons | with_reducible apply EVs.nil | with_reducible apply EV.cmp | with_reducible apply EV.bi | ((with_reducible apply EV.isinst); exact rfl) | with_reducible apply CC.t | with_reducible apply CC.not | with_reducible apply CC.or | with_reducible apply CCo.cons | with_reducible apply TV.of | with_reducible apply SP.not | with_reducible apply SP.tt | ((with_reducible apply ii_t); exact rfl) | with_reducible apply WS.ite)
    refine len_t (by simp) ?_
    with_reducible apply EV.const
    apply cv_eq
    apply TV.of
    refine SP.df (by simp) ?_
    repeat' (first | ((with_reducible apply EV.var); exact rfl) | with_reducible apply EV.const | with_reducible apply EV.sub | ((with_reducible apply EV.isinst); exact rfl) | with_reducible apply CC.t | with_reducible apply CC.not | with_reducible apply CCo.cons)
    refine gi_tup (v := .none) (by decide) (by decide) rfl ?_
    repeat' (first | with_reducible apply EV.const | with_reducible apply TV.of | with_reducible apply SP.not | with_reducible apply SP.tt | with_reducible apply SP.ff | with_reducible apply WS.ret | with_reducible apply Thn.ret | ((with_reducible apply ii_f); exact rfl) | ((with_reducible apply Ret.eq0); exact rfl))
  | _ => repeat' (first | ((with_reducible apply EV.var); exact rfl) | with_reducible apply EV.const | ((with_reducible apply EV.isinst); exact rfl) | with_reducible apply CC.t | with_reducible apply CC.not | with_reducible apply CC.or | with_reducible apply CCo.cons | with_reducible apply TV.of | with_reducible apply SP.not | with_reducible apply SP.tt | with_reducible apply SP.ff | with_reducible apply WS.ret | with_reducible apply Thn.ret | ((with_reducible apply ii_f); exact rfl) | ((with_reducible apply Ret.eq0); exact rfl) | with_reducible apply WS.ite)
end


section
variable {P : Prog} {q : Bool} {h : H} {d : Nat}
theorem fits_plain {v : V} (hv : Thing v) {size count : Int} (hf : fitsV size count v = true) : V.plainN 5 v = true := by
  cases hv with
  | @row w xs hx hl =>
    rw [fits_row] at hf
    simp only [Bool.and_eq_true, decide_eq_true_iff] at hf
    obtain ⟨⟨h1, h2⟩, h3⟩ := hf
    show ((V.str w :: xs).all (V.plainN 4)) = true
    rw [List.all_cons, Bool.and_eq_true]
    refine ⟨rfl, List.all_eq_true.mpr fun x hxx => ?_⟩
    cases hx x hxx <;> rfl
  | emp => cases hf
  | num => cases hf
  | non => cases hf
  | none => cases hf
  | str => cases hf
  | lst => cases hf
noncomputable def allFit (size : Int) (rows : List V) : Prop := rows.length ≤ 200 ∧ ∀ r ∈ rows, fitsV size rows.length r = true
theorem c_checked (hP : P.fn 15 = some fn_checked) (hP14 : P.fn 14 = some fn_fits) (hP0 : P.fn 12 = some fn_is_whole) (hP1 : P.fn 13 = some fn_is_part) (hT : P.tabs[0]? = some forms) (hr : P.rz.contains 1 = true) {rows : List V} (hl : rows.length ≤ 1000) (ht : ∀ r ∈ rows, Thing r) {size : Int} :
    (allFit size rows ∧ callN P (d + 4) true 15 [.lst rows, .int size] h = .ok (.ref h.length) (h ++ [.list rows])) ∨ (¬ allFit size rows ∧ callN P (d + 4) true 15 [.lst rows, .int size] h = .exc 1 h) := by
  refine call_imp (d := d + 3) (vs := [.lst rows, .int size]) (A := fun r => (allFit size rows ∧ r = .ok (.ref h.length) (h ++ [.list rows])) ∨ (¬ allFit size rows ∧ r = .exc 1 h)) (ρ := [_, _, _]) hP rfl rfl rfl ?_
  dsimp only [fn_checked]
  repeat' (first | ((with_reducible apply EV.var); exact rfl) | with_reducible apply EVs.cons | with_reducible apply EVs.nil | with_reducible apply EV.cmp | with_reducible apply EV.bi | with_reducible apply CC.t | with_reducible apply WS.ite)
  refine len_l (by omega) ?_
  repeat' (first | with_reducible apply EV.glob | with_reducible apply TV.of | with_reducible refine SP.dec (fun _ => ?_) (fun _ => ?_) | with_reducible apply WS.nil | ((with_reducible apply WS.raise); (first | assumption | exact rfl)) | with_reducible apply Thn.exc | with_reducible apply Thn.next | with_reducible apply cv_gt)
  · rename_i hlen
    exact .inr ⟨fun x => by have := x.1; omega, rfl⟩
  · rename_i hlen
    apply WS.for1 (α := V) (fun pre ρ h' => h = h' ∧ (∃ x, ρ = [some (.lst rows), some (.int size), x]) ∧ ∀ r ∈ pre, fitsV size rows.length r = true)
    repeat' (first | ((with_reducible apply EV.var); exact rfl) | with_reducible apply IT.of)
    refine ⟨id, rows, none, by rw [List.map_id]; rfl, by omega, ⟨rfl, ⟨_, rfl⟩, (fun r hr => by cases hr)⟩, fun _ _ _ _ => rfl, ?_, ?_⟩
    · rintro pre y post _ _ e ⟨rfl, ⟨x, rfl⟩, hp⟩
      have hy : y ∈ rows := by rw [e]; simp
      repeat' (first | ((with_reducible apply EV.var); exact rfl) | with_reducible apply EVs.cons | with_reducible apply EVs.nil | with_reducible apply EV.call | with_reducible apply EV.bi | with_reducible apply CC.t | with_reducible apply CC.not | with_reducible apply WS.ite)
      refine len_l (by omega) ?_
      repeat' (with_reducible apply EVs.nil)
      refine RV.ok (c_fits hP14 hP0 hP1 hT (ht y hy)) ?_
      repeat' (first | with_reducible apply TV.of | with_reducible apply SP.not)
      refine SP.bool (fun e => ?_) fun e => ?_
      · repeat' (first | with_reducible apply WS.nil | with_reducible apply Thn.next | with_reducible apply Lp.next)
        refine ⟨rfl, ⟨_, rfl⟩, fun r hr => ?_⟩
        rcases List.mem_append.mp hr with hr | hr
        · exact hp r hr
        · rw [List.mem_singleton.mp hr]; exact e
      · repeat' (first | ((with_reducible apply WS.raise); (first | assumption | exact rfl)) | with_reducible apply Thn.exc | with_reducible apply Lp.exc)
        refine .inr ⟨fun x => ?_, rfl⟩
        rw [x.2 y hy] at e; cases e
    · rintro _ _ ⟨rfl, ⟨x, rfl⟩, hp⟩
      repeat' (with_reducible apply WS.ret)
      refine EV.toList1 ?_
      repeat' (((with_reducible apply EV.var); exact rfl))
      refine OV.of rfl ⟨by omega, .inl ⟨⟨by omega, hp⟩, rfl⟩⟩
noncomputable def jump (count : Int) (k : Nat) : V := .tup [.str [106, 117, 109, 112], .int (((k : Int) + 1) % (count + 1))]
theorem jump_thing {count : Int} {k : Nat} : Thing (jump count k) := .row (fun x hx => by rw [List.mem_singleton.mp hx]; exact .int) (by simp)
theorem jump_fits {size count : Int} (h0 : 0 ≤ count) {k : Nat} : fitsV size count (jump count k) = true := by
  have h1 := Int.emod_nonneg ((k : Int) + 1) (show count + 1 ≠ 0 by omega)
  have h2 := Int.emod_lt_of_pos ((k : Int) + 1) (show 0 < count + 1 by omega)
  show (decide (formOf [106, 117, 109, 112] ≠ []) && decide (1 = (formOf [106, 117, 109, 112]).length) && (((formOf [106, 117, 109, 112]).zip [V.int (((k : Int) + 1) % (count + 1))]).all fun p => wholeV 0 (last size count p.1) p.2)) = true
  rw [show formOf [106, 117, 109, 112] = [112] from rfl]
  simp [wholeV, last, h1]; omega
theorem eqVl_refl {rows : List V} (hr : ∀ r ∈ rows, V.plainN 5 r = true) : (V.lst rows).plain = true ∧ eqV (.lst rows) (.lst rows) = true := by
  have : (V.lst rows).plain = true := List.all_eq_true.mpr hr
  exact ⟨this, eqV_refl 6 this⟩
theorem law03_true {xs : List Int} (hx : xs.length ≤ 63) : callN prog03 5 true 21 [.lst (xs.map .int)] [] = .ok (.bool true) [] := by
  have Er : Errs prog03 := ⟨rfl, rfl⟩
  refine call_pure (ρ := [_, _, _, _, _, _, _, _, _, _, _]) (F := fn_law03) rfl rfl rfl rfl rfl ?_
  dsimp only [fn_law03]
  repeat' (first | ((with_reducible apply EV.var); exact rfl) | with_reducible apply EV.const | with_reducible apply EVs.cons | with_reducible apply EVs.nil | with_reducible apply EV.call | with_reducible apply WS.assign)
  refine RV.ok (c_cell_at rfl (by omega) (by decide) (by decide)) ?_
  repeat' (with_reducible apply EVs.nil)
  obtain ⟨_, e1, size, rfl, hs1, hs2⟩ := c_size_by (P := prog03) (q := true) (h := []) (d := 3) rfl (i := cellAt xs (Int.toNat 0))
  refine RV.ok e1 ?_
  repeat' (first | ((with_reducible apply EV.var); exact rfl) | with_reducible apply EV.const | with_reducible apply EVs.cons | with_reducible apply EVs.nil | with_reducible apply EV.bin | with_reducible apply EV.sub | with_reducible apply EV.call | with_reducible apply EV.list0 | with_reducible apply WS.assign)
  refine RV.ok (c_cell_at rfl (by omega) (by decide) (by decide)) ?_
  repeat' (first | ((with_reducible apply EV.var); exact rfl) | with_reducible apply EV.const | with_reducible apply EVs.cons | with_reducible apply EVs.nil | with_reducible apply EV.bin | with_reducible apply EV.call | ((with_reducible apply bv_div); rotate_left; (first | decide | omega); (first | decide | omega)) | ((with_reducible apply bv_mod); rotate_left; (first | decide | omega)))
  refine RV.ok (c_cell_at rfl (by omega) (by decide) (by decide)) ?_
  repeat' (first | with_reducible apply EV.const | ((with_reducible apply bv_mod); rotate_left; (first | decide | omega)))
  refine gi_anyI 0 201 (by omega) (by simp; omega) (by simp) (by simp [intIn]; omega) fun count hc1 hc2 => ?_
  repeat' (first | ((with_reducible apply EV.var); exact rfl) | with_reducible apply EVs.cons | with_reducible apply EVs.nil | with_reducible apply EV.call | with_reducible apply WS.assign)
  obtain ⟨row, e2, hrow⟩ := c_thing_by (P := prog03) (h := []) (d := 1) rfl rfl rfl rfl rfl hx hs1 hc1
  refine RV.ok e2 ?_
  repeat' (first | ((with_reducible apply EV.var); exact rfl) | with_reducible apply EVs.cons | with_reducible apply EVs.nil | with_reducible apply EV.call | with_reducible apply WS.assign)
  refine RV.ok (c_fitsb rfl rfl rfl hrow) ?_
  repeat' (first | ((with_reducible apply EV.var); exact rfl) | with_reducible apply EVs.cons | with_reducible apply EVs.nil | with_reducible apply EV.call | with_reducible apply WS.assign)
  refine RV.ok (c_fits rfl rfl rfl rfl hrow) ?_
  generalize hdue : fitsV size count row = due
  repeat' (first | ((with_reducible apply EV.var); exact rfl) | with_reducible apply EV.cmp | ((with_reducible apply EV.isinst); exact rfl) | with_reducible apply CC.t | with_reducible apply CC.not | with_reducible apply CC.or | with_reducible apply CCo.cons | with_reducible apply TV.of | with_reducible apply SP.not | with_reducible apply SP.tt | ((with_reducible apply ii_t); exact rfl) | with_reducible apply WS.ite)
  refine cv_neV rfl rfl rfl rfl ?_
  repeat' (first | with_reducible apply TV.of | with_reducible apply SP.not)
  refine SP.t (by cases due <;> rfl) ?_
  repeat' (first | with_reducible apply CCo.nil | with_reducible apply SP.ff | with_reducible apply WS.assign | with_reducible apply WS.nil | with_reducible apply Thn.next)
  refine EV.compMu (α := Nat) ?_
  repeat' (first | ((with_reducible apply EV.var); exact rfl) | with_reducible apply IT.range1 | with_reducible apply IsI.of)
  refine ⟨by omega, fun i => .int i, List.range count.toNat, none, fun k => some (jump count k), rfl, by simp; omega, fun _ => rfl, fun y hy ys => ?_, ?_⟩
  · repeat' (first | ((with_reducible apply EV.var); exact rfl) | with_reducible apply EV.const | with_reducible apply EVs.cons | with_reducible apply EVs.nil | with_reducible apply EV.bin | with_reducible apply EV.tuple | with_reducible apply CCi.nil | with_reducible apply SP.tt | with_reducible apply bv_add | ((with_reducible apply bv_mod); rotate_left; (first | decide | omega)))
    exact ⟨rfl, rfl⟩
  rw [fm_map]
  repeat' (first | ((with_reducible apply EV.var); exact rfl) | with_reducible apply EV.const | with_reducible apply EV.cmp | with_reducible apply WS.assign | with_reducible apply cv_le)
  have hlen : ((List.range count.toNat).map (jump count)).length = count.toNat := by simp
  refine WS.iteJ (fun ρ h' => ∃ (rows : List V) (good : Bool), h' = [.list rows] ∧ rows.length = count.toNat ∧ (∀ r ∈ rows, Thing r) ∧ (good = true ↔ allFit size rows) ∧ ∃ x, ρ = [x, some (.int size), some (.int count), some row, some (.bool due), some (.bool due), some (.ref 0), some (.bool good), none, none, none]) ?_ ?_
  · repeat' (first | ((with_reducible apply EV.var); exact rfl) | with_reducible apply EV.const | with_reducible apply EVs.cons | with_reducible apply EVs.nil | with_reducible apply EV.bin | with_reducible apply EV.cmp | with_reducible apply EV.call | with_reducible apply CC.t | with_reducible apply CC.and | with_reducible apply CCa.cons | with_reducible apply TV.of | with_reducible apply SP.ff | with_reducible refine SP.dec (fun _ => ?_) (fun _ => ?_) | with_reducible apply WS.nil | with_reducible apply Lp.next | with_reducible apply cv_gt)
    · rename_i hpos
      refine RV.ok (c_cell_at rfl (by omega) (by decide) (by decide)) ?_
      repeat' (first | with_reducible apply EV.const | with_reducible apply CCa.nil | with_reducible apply TV.of | with_reducible apply SP.tt | with_reducible apply SP.ff | with_reducible refine SP.dec (fun _ => ?_) (fun _ => ?_) | with_reducible apply WS.nil | with_reducible apply Lp.next | ((with_reducible apply bv_mod); rotate_left; (first | decide | omega)) | with_reducible apply cv_gt)
      · refine WS.setsub ?_
        repeat' (first | ((with_reducible apply EV.var); exact rfl) | with_reducible apply EV.const | with_reducible apply EVs.cons | with_reducible apply EVs.nil | with_reducible apply EV.bin | with_reducible apply EV.call)
        refine RV.ok (c_cell_at rfl (by omega) (by decide) (by decide)) ?_
        repeat' (first | ((with_reducible apply EV.var); exact rfl) | with_reducible apply EV.const | ((with_reducible apply bv_div); rotate_left; (first | decide | omega); (first | decide | omega)) | ((with_reducible apply bv_mod); rotate_left; (first | decide | omega)))
        generalize cellAt xs (Int.toNat 7) / 3 = cell
        have b1 := Int.emod_nonneg cell (show count ≠ 0 by omega)
        have b2 := Int.emod_lt_of_pos cell hpos
        refine set_r rfl b1 (by omega) (by rw [hlen]; omega) ?_
        generalize cell % count = j at b1 b2
        refine WS.assign ?_
        have fin : ∀ good, good = (decide (count ≤ 200) && due) → (∃ (rows : List V) (good' : Bool), [M.list (((List.range count.toNat).map (jump count)).set j.toNat row)] = [.list rows] ∧ rows.length = count.toNat ∧ (∀ r ∈ rows, Thing r) ∧ (good' = true ↔ allFit size rows) ∧ ∃ x, [some (.lst (xs.map .int)), some (.int size), some (.int count), some row, some (.bool due), some (.bool due), some (.ref 0), some (.bool good), none, none, none] = [x, some (.int size), some (.int count), some row, some (.bool due), some (.bool due), some (.ref 0), some (.bool good'), none, none, none]) := by
          intro good hg
          refine ⟨_, _, rfl, by simp, ?_, ?_, _, rfl⟩
          · intro r hr
            rcases List.mem_or_eq_of_mem_set hr with hr | rfl
            · obtain ⟨k, _, rfl⟩ := List.mem_map.mp hr; exact jump_thing
            · exact hrow
          · rw [hg, Bool.and_eq_true, decide_eq_true_iff, ← hdue, allFit, List.length_set, hlen, show ((count.toNat : Nat) : Int) = count by omega]
            constructor
            · rintro ⟨g1, g2⟩
              refine ⟨by omega, fun r hr => ?_⟩
              rcases List.mem_or_eq_of_mem_set hr with hr | rfl
              · obtain ⟨k, _, rfl⟩ := List.mem_map.mp hr; exact jump_fits hc1
              · exact g2
            · rintro ⟨g1, g2⟩
              exact ⟨by omega, g2 row (List.mem_of_getElem? (i := j.toNat) (List.getElem?_set_self (by rw [hlen]; omega)))⟩
        repeat' (first | ((with_reducible apply EV.var); exact rfl) | with_reducible apply EV.and | with_reducible apply EVa.cons | with_reducible apply EVa.one | with_reducible apply TV.of | with_reducible refine SP.dec (fun _ => ?_) (fun _ => ?_) | with_reducible apply WS.nil | with_reducible apply Lp.next)
        · rename_i g
          exact fin _ (by rw [decide_eq_true g, Bool.true_and])
        · rename_i g
          exact fin _ (by rw [decide_eq_false g, Bool.false_and])
      · refine ⟨_, _, rfl, hlen, ?_, ?_, _, rfl⟩
        · intro r hr
          obtain ⟨k, _, rfl⟩ := List.mem_map.mp hr; exact jump_thing
        · rw [decide_eq_true_iff, allFit, hlen, show ((count.toNat : Nat) : Int) = count by omega]
          exact ⟨fun g => ⟨by omega, fun r hr => by obtain ⟨k, _, rfl⟩ := List.mem_map.mp hr; exact jump_fits hc1⟩, fun g => by omega⟩
    · refine ⟨_, _, rfl, hlen, ?_, ?_, _, rfl⟩
      · intro r hr
        obtain ⟨k, _, rfl⟩ := List.mem_map.mp hr; exact jump_thing
      · rw [decide_eq_true_iff, allFit, hlen, show ((count.toNat : Nat) : Int) = count by omega]
        exact ⟨fun g => ⟨by omega, fun r hr => by obtain ⟨k, _, rfl⟩ := List.mem_map.mp hr; exact jump_fits hc1⟩, fun g => by omega⟩
  rintro _ _ ⟨rows, good, rfl, hlen, hth, hgood, x, rfl⟩
  repeat' (with_reducible apply WS.assign)
  refine EV.toList0 ?_
  repeat' (((with_reducible apply EV.var); exact rfl))
  refine OV.of rfl ⟨by omega, ?_⟩
  refine WS.try ?_
  repeat' (first | ((with_reducible apply EV.var); exact rfl) | with_reducible apply EVs.cons | with_reducible apply EVs.nil | with_reducible apply EV.call | with_reducible apply WS.assign)
  rcases c_checked (P := prog03) (h := [.list rows]) (d := 0) rfl rfl rfl rfl rfl rfl (by omega) hth (size := size) with ⟨ha, e⟩ | ⟨ha, e⟩
  · refine RV.ok e ?_
    have hg : good = true := hgood.mpr ha
    subst hg
    have hpl := eqVl_refl fun r hr => fits_plain (hth r hr) (ha.2 r hr)
    repeat' (with_reducible apply WS.nil)
    refine Try.next ?_
    repeat' (first | ((with_reducible apply EV.var); exact rfl) | with_reducible apply EV.cmp | ((with_reducible apply EV.isinst); exact rfl) | with_reducible apply CC.t | with_reducible apply CC.not | with_reducible apply CC.or | with_reducible apply CCo.cons | with_reducible apply TV.of | with_reducible apply SP.not | with_reducible apply SP.tt | ((with_reducible apply ii_t); exact rfl) | with_reducible apply WS.ite)
    refine cv_neV (x' := .lst rows) (y' := .lst rows) rfl rfl hpl.1 hpl.1 ?_
    refine TV.of ?_
    apply SP.not
    refine SP.t hpl.2 ?_
    repeat' (first | ((with_reducible apply EV.var); exact rfl) | with_reducible apply EV.cmp | with_reducible apply CC.t | with_reducible apply CCo.cons)
    refine cv_neV (x' := .lst rows) (y' := .lst rows) rfl rfl hpl.1 hpl.1 ?_
    refine TV.of ?_
    apply SP.not
    refine SP.t hpl.2 ?_
    repeat' (first | ((with_reducible apply EV.var); exact rfl) | with_reducible apply EV.const | with_reducible apply EVs.cons | with_reducible apply EVs.nil | with_reducible apply CCo.nil | with_reducible apply EV.bm | ((with_reducible apply KM.of); exact rfl) | with_reducible apply KE.of | with_reducible apply SP.ff | with_reducible apply WS.expr | with_reducible apply WS.nil | with_reducible apply Thn.next)
    refine app_r rfl (by omega) ?_
    repeat' (first | ((with_reducible apply EV.var); exact rfl) | with_reducible apply EV.cmp | with_reducible apply WS.ret)
    refine cv_eqV (x' := .lst rows) (y' := .lst rows) rfl rfl hpl.1 hpl.1 ?_
    rw [hpl.2]
    exact .ret rfl
  · refine RV.exc e ?_
    have hg : good = false := Bool.eq_false_iff.mpr fun g => ha (hgood.mp g)
    subst hg
    with_reducible refine Try.here ?_ ?_ ?_
    · rfl
    · rfl
    repeat' (first | ((with_reducible apply EV.var); exact rfl) | with_reducible apply EV.const | with_reducible apply EVs.cons | with_reducible apply EVs.nil | with_reducible apply EV.call | with_reducible apply EV.and | with_reducible apply EVa.cons | with_reducible apply EVa.one | with_reducible apply EV.not | with_reducible apply TV.of | with_reducible apply SP.not | with_reducible apply SP.ff | with_reducible apply WS.ret)
    refine RV.ok (c_alone rfl Er (by decide) (by decide) rfl) ?_
    exact Ret.ret rfl
end

end Mine.Law
end
section
open PySem PySem.W PyProof.Rows
namespace Mine
noncomputable abbrev treeF := PySem.W.Fast.tw14364793385576792824
noncomputable abbrev openSeenF := PySem.W.Fast.tw4187177175401517315
noncomputable abbrev stepTF := PySem.W.Fast.tw10156331382660048174
noncomputable abbrev denoteF := PySem.W.Fast.tw11892475500146522536
noncomputable abbrev stepOkF := PySem.W.Fast.tw6613529449190102663
noncomputable abbrev s0 (w : World) (os : OsState) : Shared := ⟨boot_heap w.params, Array.mk [], boot_drawn, boot_toks, os⟩
theorem okF_eq (n : Nat) (a : Option Value) : stepOkF n a = stepOk n a := congrFun (congrFun PySem.W.Fast.te6613529449190102663.symm n) a
theorem denF_eq : denoteF treeF = denote treeTable := (congrFun PySem.W.Fast.te11892475500146522536.symm treeF).trans (congrArg denote PySem.W.Fast.te14364793385576792824.symm)
theorem stF_eq (p : Program) (w : World) : stepTF (denoteF treeF) p w = stepT (denote treeTable) p w := denF_eq ▸ congrFun (congrFun (congrFun PySem.W.Fast.te10156331382660048174.symm (denoteF treeF)) p) w
/-- the top's run over a tree of objects -/
noncomputable def runG (ok : Thread → Bool) (st : SharedT → Thread → Option (SharedT × Thread)) (n : Nat) : SharedT → Thread → Option SharedT :=
  Nat.rec (fun _ _ => none) (fun _ ih s t => cond (through t) (some s) (cond (ok t) (Option.rec none (fun q => Prod.rec (fun s t => ih s t) q) (st s t)) none)) n
inductive Ran (ok : Thread → Bool) (st : SharedT → Thread → Option (SharedT × Thread)) (r : SharedT → Thread → Option SharedT) (s : SharedT) (t : Thread) (s' : SharedT) : Prop
  | done (h : through t = true) (e : s = s') : Ran ok st r s t s'
  | more (q : SharedT × Thread) (h : through t = false) (k : ok t = true) (e : st s t = some q) (h' : r q.1 q.2 = some s') : Ran ok st r s t s'
theorem ran_of {ok : Thread → Bool} {st : SharedT → Thread → Option (SharedT × Thread)} {r : SharedT → Thread → Option SharedT} {s s' : SharedT} {t : Thread} {a b : Bool} {o : Option (SharedT × Thread)} (ha : through t = a) (hb : ok t = b) (ho : st s t = o) (h : cond a (some s) (cond b (Option.rec none (fun q => Prod.rec (fun s t => r s t) q) o) none) = some s') : Ran ok st r s t s' := by
  cases a with
  | true => exact .done ha (Option.some.inj h)
  | false => cases b with
    | false => cases h
    | true => cases o with
      | none => cases h
      | some q => exact .more q ha hb ho h
theorem run_done {tb : String → Option Builtin} {p : Program} {w : World} {n₀ n : Nat} {ann : Option Value} {s : Shared} {t : Thread} (h : through t = true) : topRun tb p w n₀ ann (n + 1) s t = some s := by
  unfold topRun
  rw [h]
theorem run_more {tb : String → Option Builtin} {p : Program} {w : World} {n₀ n : Nat} {ann : Option Value} {s s' : Shared} {t t' : Thread} (h : through t = false) (k : stepOk n₀ ann t = true) (e : step (denote tb) p w s t = .go s' t') : topRun tb p w n₀ ann (n + 1) s t = topRun tb p w n₀ ann n s' t' := by
  rw [topRun.eq_2, h, k, e]
theorem runG_spec {p : Program} {w : World} {n₀ : Nat} {ann : Option Value} {s' : SharedT} (n : Nat) : ∀ (s : SharedT) (t : Thread), runG (stepOk n₀ ann) (stepT (denote treeTable) p w) n s t = some s' → topRun treeTable p w n₀ ann n s.abs t = some s'.abs := by
  induction n with
  | zero => intro _ _ h; cases h
  | succ n ih =>
    intro s t h
    cases ran_of rfl rfl rfl h with
    | done h e => exact e ▸ run_done h
    | more q h k e h' => exact (run_more h k (stepT_spec e)).trans (ih _ _ h')
noncomputable def treeOf : Nat → List Obj → BT → BT
  | _, [], t => t
  | i, o :: r, t => treeOf (i + 1) r (t.ins i o)
noncomputable abbrev sT (w : World) (os : OsState) : SharedT := ⟨treeOf 0 (boot_heap w.params).objs.toList .nil, 11, (boot_heap w.params).life, Array.mk [], boot_drawn, boot_toks, os⟩
theorem sT_abs (w : World) (os : OsState) : (sT w os).abs = s0 w os := by kernel_rfl
theorem boot_ns (w : World) : ((boot_heap w.params).isNs mainGlobals && (Array.mk [] : Array GenState).size == 0) = true := by kernel_rfl
theorem boot_size (w : World) : (boot_heap w.params).objs.size = 11 := by kernel_rfl
theorem boot_ann (w : World) : (boot_heap w.params).nsMap mainGlobals "__annotations__" = some (.ref 6) := by kernel_rfl
theorem from_of {tb : String → Option Builtin} {p : Program} {w : World} {N : Nat} {s₀ s₁ : Shared} (h1 : (s₀.heap.isNs mainGlobals && s₀.gens.size == 0) = true) (h2 : topRun tb p w s₀.heap.objs.size (s₀.heap.nsMap mainGlobals "__annotations__") N s₀ (topStub p) = some s₁)
    (h3 : (staticsOk (importedModules p.main.body) s₀.heap s₁.heap && namesBound p s₁.heap && gensDone s₁ && laidKept s₀.heap s₁.heap) = true) : topFrom tb p w N s₀ = some s₁ := by
  unfold topFrom
  rw [h1, h2]
  show (match _ with | true => some s₁ | false => none) = some s₁
  rw [h3]
theorem top_of {p : Program} {w : World} {N : Nat} {os : OsState} {s₁ : SharedT} (hr : runG (stepOkF 11 (some (.ref 6))) (stepTF (denoteF treeF) p w) N (sT w os) (topStub p) = some s₁) : topRun treeTable p w (s0 w os).heap.objs.size ((s0 w os).heap.nsMap mainGlobals "__annotations__") N (s0 w os) (topStub p) = some s₁.abs := by
  rw [okF_eq, stF_eq] at hr
  rw [show (s0 w os).heap.objs.size = 11 from boot_size w, show (s0 w os).heap.nsMap mainGlobals "__annotations__" = some (.ref 6) from boot_ann w, ← sT_abs]
  exact runG_spec _ _ _ hr
inductive Saw {α β : Type} (o : Option SharedT) (c : SharedT → Bool) (g : Shared → β) (y : Shared → α) (v : β) (u : α) : Prop
  | mk (s : SharedT) (h : o = some s) (e : c s = true) (e' : (g s.abs, y s.abs) = (v, u)) : Saw o c g y v u
theorem saw_of {α β : Type} {o : Option SharedT} {c : SharedT → Bool} {g g' : Shared → β} {y : Shared → α} {v : β} {u : α} (hg : g' = g) (h : o.map (fun s => (c s, g s.abs, y s.abs)) = some (true, v, u)) : Saw o c g' y v u :=
  (Option.map_eq_some_iff.mp h).elim fun s q => ⟨s, q.1, congrArg Prod.fst q.2, (congrArg (fun f => (f s.abs, y s.abs)) hg).trans (congrArg Prod.snd q.2)⟩
theorem shared_at {s : Shared} {h : Heap} {g : Array GenState} {d : Drawn} {k : Nat} (hv : (s.heap, s.gens, s.drawn, s.toks) = (h, g, d, k)) : s = ⟨h, g, d, k, s.os⟩ := congrArg (fun x => (⟨x.1, x.2.1, x.2.2.1, x.2.2.2, s.os⟩ : Shared)) hv
theorem boot_at {p : Program} {N : Nat} (e : opening p = plainProg p.main.scope.names) (hN : Nat.ble 600 N = true) (f : ∀ s, fenceModules? p s = some s) (w : World) : ∃ os, fencedOpening treeTable p w N = some (s0 w os) :=
  (Option.map_eq_some_iff.mp (boot_open e hN f w)).elim fun s q => ⟨s.os, q.1.trans (congrArg some (shared_at q.2))⟩
theorem ends_of {p : Program} {w : World} {N : Nat} {s₀ s₁ : Shared} (hs : fencedOpening treeTable p w N = some s₀) (h : topFrom treeTable p w N s₀ = some s₁) : openEnds treeTable p w N = some s₁ := (congrArg (fun o => Option.bind o (topFrom treeTable p w N)) hs).trans h
theorem map_at {α β : Type} {o : Option Shared} {s : Shared} {g : Shared → β} {y : Shared → α} {v : β} {u : α} (h : o = some s) (e : (g s, y s) = (v, u)) : o.map (fun s => (g s, y s)) = some (v, u) := by
  subst h
  exact congrArg some e
theorem left_of0 {β α : Type} {p : Program} {w : World} {N : Nat} {v : β} {u : α} {g g' : Shared → β} {y : Shared → α} (hg : g' = g) (e : opening p = plainProg p.main.scope.names) (hN : Nat.ble 600 N = true) (f : ∀ s, fenceModules? p s = some s)
    (h : ∀ os, (runG (stepOkF 11 (some (.ref 6))) (stepTF (denoteF treeF) p w) N (sT w os) (topStub p)).map (fun s₁ => ((staticsOk (importedModules p.main.body) (s0 w os).heap s₁.abs.heap && namesBound p s₁.abs.heap && gensDone s₁.abs && laidKept (s0 w os).heap s₁.abs.heap), g s₁.abs, y s₁.abs)) = some (true, v, u)) :
    (openEnds treeTable p w N).map (fun s => (g' s, y s)) = some (v, u) := by
  obtain ⟨os, hs⟩ := boot_at e hN f w
  obtain ⟨s₁, hr, e1, e2⟩ := saw_of hg (h os)
  exact map_at (ends_of hs (from_of (boot_ns w) (top_of hr) e1)) e2
theorem left_of {p q : Program} {loose : List Str} {Xt : Shared → Bool} {α : Type} {Yf : Shared → α} {Ya : World → α} {N : Nat} (e : opening p = plainProg p.main.scope.names) (hN : Nat.ble 600 N = true) (f : ∀ s, fenceModules? p s = some s)
    (h : ∀ w os, (runG (stepOkF 11 (some (.ref 6))) (stepTF (denoteF treeF) p w) N (sT w os) (topStub p)).map (fun s₁ => ((staticsOk (importedModules p.main.body) (s0 w os).heap s₁.abs.heap && namesBound p s₁.abs.heap && gensDone s₁.abs && laidKept (s0 w os).heap s₁.abs.heap), openSeenF q loose (importedModules p.main.body) Xt true s₁.abs, Yf s₁.abs)) = some (true, openGood q loose, Ya w)) :
    LeftO p q loose Xt Yf Ya N := fun w => left_of0 (congrFun (congrFun (congrFun (congrFun (congrFun PySem.W.Fast.te4187177175401517315 q) loose) (importedModules p.main.body)) Xt) true) e hN f (h w)
end Mine
end
section
open PySem PySem.W PyProof.Rows
set_option maxRecDepth 100000
set_option maxHeartbeats 8000000
set_option Elab.async false
namespace Mine.Law
noncomputable def nms : Nm := { fnm := ["", "", "_law_cell_at", "_law_whole", "_law_mixed", "", "", "", "", "", "_law_alone", "", "is_whole", "is_part", "fits", "checked", "_law_size_by", "_law_edge", "_law_marks", "_law_thing_by", "_law_fits", "law"], clm := [], exm := ["LineError", "BadRow", "BadBoxes", "BadShape", "NoBox", "BadPlan"], glm := ["GREATEST", "GREATEST", "MOST", "GREATEST"], glv := [(.int 999999), (.int 999999), (.int 200), (.int 999999)], tbm := ["FORMS"], atm := [], mtm := [], ext := false }
noncomputable def gam2 : Gam := [("_law_script", 0), ("_law_k", 1)]
noncomputable def gam3 : Gam := [("_law_found", 0)]
noncomputable def gam4 : Gam := [("_law_cell", 0)]
noncomputable def gam10 : Gam := [("_law_e", 0), ("_law_own", 1), ("_law_some", 2)]
noncomputable def gam12 : Gam := [("thing", 0), ("least", 1), ("most", 2)]
noncomputable def gam13 : Gam := [("sign", 0), ("thing", 1), ("size", 2), ("count", 3)]
noncomputable def gam14 : Gam := [("row", 0), ("size", 1), ("count", 2), ("form", 3), ("at", 4)]
noncomputable def gam15 : Gam := [("rows", 0), ("size", 1), ("row", 2)]
noncomputable def gam16 : Gam := [("_law_cell", 0)]
noncomputable def gam17 : Gam := [("_law_cell", 0), ("_law_last", 1)]
noncomputable def gam18 : Gam := [("_law_word", 0), ("_law_names", 1)]
noncomputable def gam19 : Gam := [("_law_script", 0), ("_law_size", 1), ("_law_count", 2), ("_law_first", 3), ("_law_word", 4), ("_law_marks_here", 5), ("_law_parts", 6), ("_law_k", 7), ("_law_last", 8), ("_law_odd", 9)]
noncomputable def gam20 : Gam := [("_law_row", 0), ("_law_size", 1), ("_law_count", 2), ("_law_marks_here", 3), ("_law_k", 4), ("_law_last", 5)]
noncomputable def gam21 : Gam := [("_law_script", 0), ("_law_size", 1), ("_law_count", 2), ("_law_row", 3), ("_law_due", 4), ("_law_found", 5), ("_law_rows", 6), ("_law_good", 7), ("_law_given", 8), ("_law_e", 9)]
noncomputable def gams : List (Nat × Gam) := [(2, gam2), (3, gam3), (4, gam4), (10, gam10), (12, gam12), (13, gam13), (14, gam14), (15, gam15), (16, gam16), (17, gam17), (18, gam18), (19, gam19), (20, gam20), (21, gam21)]

noncomputable abbrev pp : Program := PySem.Challenge.pw_uf030028_03
noncomputable def qq : Program := { pp with main := { pp.main with body := pp.main.body.drop (pp.main.body.length - 1) } }
noncomputable def ls : List Str := (pp.main.scope.names.map (·.1)).filter fun n => !(n == ("law" : Str))
noncomputable abbrev hk : Hook := hookOf nms prog03 gams
noncomputable abbrev Xt (s : Shared) : Bool := xlAt qq [] s && recOk [] s
noncomputable def Head (w : World) (os : OsState) : Prop := (runG (stepOkF 11 (some (.ref 6))) (stepTF (denoteF treeF) pp w) 4000 (sT w os) (topStub pp)).map (fun s₁ => ((staticsOk (importedModules pp.main.body) (s0 w os).heap s₁.abs.heap && namesBound pp s₁.abs.heap && gensDone s₁.abs && laidKept (s0 w os).heap s₁.abs.heap), openSeenF qq ls (importedModules pp.main.body) Xt true s₁.abs, hk.obs s₁.abs)) = some (true, openGood qq ls, hk.val w)
theorem leftF : ∀ (w : World) os, Head (w.withFollow "special-get-raises" false) os := fun w os => by unfold Head; kernel_rfl
theorem leftT : ∀ (w : World) os, Head (w.withFollow "special-get-raises" true) os := fun w os => by unfold Head; kernel_rfl
theorem left : LeftO pp qq ls Xt hk.obs hk.val 4000 := left_of (by kernel_rfl) (by kernel_rfl) (fun s => by kernel_rfl) (byRow2 "special-get-raises" (P := fun w => ∀ os, Head w os) leftF leftT)
theorem said0 : PySem.W.Fast.tw9446332074065402090 PySem.Challenge.rw_uf030028_03 = true := by kernel_rfl
theorem said : PySem.Challenge.rw_uf030028_03.wellSaid = true := (congrFun PySem.W.Fast.te9446332074065402090 _).trans said0
end Mine.Law
end
open PySem PySem.W PyProof.Rows
set_option Elab.async false
set_option maxRecDepth 100000
set_option maxHeartbeats 8000000
namespace Mine.Law
theorem ofPy_ints (xs : List Int) : ofPy (PyData.list (xs.map PyData.int)) = .list (xs.map WData.int) := by
  rw [ofPy, ofPys_eq, List.map_map]; rfl
theorem post_true (args : List WData) : PySem.Challenge.rw_uf030028_03.row.claim.post args (.bool true) args = true := by
  refine postW_of (X := true) ?_ ?_ rfl
  · first | rfl | decide | (simp [WShape.has]; done)
  · show WTm.value [] (WTm.eq .res (.lit (.bool true))) _ = some (.bool true)
    simp only [WTm.value]
    have e : same (WData.bool true) (WData.bool true) = true := by first | decide +kernel | (unfold same; rfl) | (simp [same]; done)
    simp [e]
end Mine.Law

set_option maxRecDepth 100000 in
set_option maxHeartbeats 8000000 in
theorem PySem.Challenge.cw_uf030028_03_holds : PySem.Challenge.rw_uf030028_03.Holds := by
  refine holds_law Mine.Law.said fun said => ?_
  refine holds_open (q := Mine.Law.qq) (loose := Mine.Law.ls) (Xt := Mine.Law.Xt) (XP := XL Mine.Law.qq []) (Yf := Mine.Law.hk.obs) (Ya := Mine.Law.hk.val) (YP := Mine.Law.hk.says) (N := 4000) Mine.Law.left Mine.Law.hk.of Mine.Law.hk.keeps (fun s e => xl_of s (Bool.and_eq_true_iff.mp e).1) XL.keeps (by rfl) (by rfl) (by rfl) (fun s e => recFacts_of (Bool.and_eq_true_iff.mp e).2) (by rfl) said (by decide +kernel) ⟨rfl, rfl, rfl, rfl, rfl, by decide +kernel⟩ ?hw ?_
  case hw => w_witness2
  intro w s₀ s₁ mg mb G Y fa o pm cd doc dV kV ho hd hcd hD hmg hg args vals as hpre hlay hrd hwl hlo
  refine Ground.open G ?_
  intro T B D TE TW
  wrow_args hpre hlay hrd hwl hlo
  refine enter_call ?_
  w_top on
  refine codeAny_mono ?_ (fun _ _ g => GoodW.toG g)
  rename_i xs hs1 hs2 hs3 hs4 hs5 la1 la2 l vs la3 hL ra w1 r0 hI hr hlen htr
  have hlen' : xs.length ≤ 63 := by omega
  have main := Mine.good_of (prog := PySem.Challenge.rw_uf030028_03.row.prog) (w := w) (s := s₁) (fa := fa) (l := l) (f := 21) (d := 4) (xs := xs) Y rfl rfl T.nolimit T.g hmg T.b T.builtins (by decide) (by rw [← Mine.Law.ofPy_ints]; exact w1) (Mine.Law.law03_true hlen')
  refine codeAny_mono main fun r s' hr => ?_
  obtain ⟨rfl, hk, hos, hgens⟩ := hr
  refine ⟨.inl ⟨_, .bool true, [], rfl, fun _ => ?_, .bool true, ?_, fun _ => ⟨List.nodup_nil, fun a ha => by cases ha⟩⟩, hk, hos, hgens.trans hg⟩
  · rfl
  · exact Mine.Law.post_true _


