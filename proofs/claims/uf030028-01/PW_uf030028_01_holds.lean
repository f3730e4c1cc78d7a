import PyProof.Rows.All
import Wide.All
import OpenK.AllK
import Wide.FinOn
import PyProof.StationsW
import PyProof.CompFree
import PyProof.DictStraight
import PyProof.WalksMore
import PyProof.NeKinds
import PyProof.TupleOps
import PyProof.StrBlock2
import PyProof.Rows.IntRules
import PyProof.Rows.RuleB_mul
import PyProof.Rows.RuleB_sub
import PyProof.Rows.RuleB_floordiv
import PyProof.Rows.RuleB_mod
import PyProof.Rows.ListMul
import PyProof.Rows.RuleC_int
import PyProof.StrLawsIn
import PyProof.PureInt
import PyProof.Rows.StrTemp
import PyProof.Rows.TupMore
import PyProof.SliceMore
import PyProof.SliceStr2
import PyProof.DictRoads
import PyProof.ListCopy
import PyProof.TupleOfSeq
import PyProof.TupleCall
import PyProof.Rows.DictMethods
import PyProof.Cells
import PyProof.RulesDelMore
import PyProof.RulesAssignMore
import PyProof.Rows.Nodes
import PyProof.StrWalks
import PyProof.RangeFor
import PyProof.CompUse
import KE.KIntText
import PyProof.Rows.SortShell
import PyProof.Rows.SortWalk
import PyProof.MinMaxWalk
import PyProof.StrLawsTight
import PyProof.MeetsStr2
import PyProof.MeetsStr
import PyProof.MeetsSeq
import PyProof.MeetsDictList
import PyProof.WalkInts
import PyProof.IsiHeapPairs
import PyProof.IsiPairs
import PyProof.IsiNone
import OpenK.KMore
import OpenK.KTop
import Wide.Well
import PyProof.Ends
import PySem.Challenge.RW_uf030028_01
set_option Elab.async false
section
/- the mini language: values, expressions, statements, their interpreter -/
set_option genSizeOf false
set_option genInjectivity false
namespace Mine
noncomputable section
open Classical

inductive V where
  | none | bool (b : Bool) | int (i : Int) | str (s : List Nat) | tup (xs : List V) | lst (xs : List V) | ref (n : Nat)

/-- a mutable object -/
inductive M where
  | list (xs : List V) | gone

abbrev H := List M
abbrev Rho := List (Option V)

inductive R (α : Type) where
  | ok (a : α) (h : H) | exc (c : Nat) (h : H) | fail
def R.bind {α β : Type} : R α → (α → H → R β) → R β
  | .ok a h, f => f a h
  | .exc c h, _ => .exc c h
  | .fail, _ => .fail
/-- a statement's end -/
inductive RS where
  | next (r : Rho) (h : H) | ret (v : V) (r : Rho) (h : H) | exc (c : Nat) (r : Rho) (h : H) | fail

inductive Op where | add | sub | mul | div | mod
inductive COp where | eq | ne | lt | le | gt | ge | isIn | notIn | is | isNot
inductive Ty where | int | bool | str | tuple
/-- built-in functions -/
inductive Bi where | len | int | str | tuple
/-- methods of built-in types -/
inductive Bm where | join | split

mutual
inductive E where
  | var (i : Nat) | const (v : V) | glob (g : Nat) (v : V)
  | bin (op : Op) (a b : E)
  | not (a : E) | and (es : List E)
  | cmp (op : COp) (a b : E) | cmp2 (op1 op2 : COp) (a b c : E)
  | call (f : Nat) (args : List E)
  | bi (b : Bi) (args : List E) | bm (m : Bm) (o : E) (args : List E)
  | isinst (a : E) (t : Ty)
  | sub (a b : E) | slice (mu : Bool) (a lo hi : E)
  | list (mu : Bool) (es : List E) | tuple (es : List E) | comp (mu : Bool) (x : Nat) (elt : E) (it : It) (ifs : List C)
  | inTab (neg : Bool) (t : Nat) (a : E) | subTab (t : Nat) (a : E)
inductive It where
  | of (e : E) | range1 (a : E)
inductive C where
  | t (e : E) | not (c : C) | and (cs : List C) | or (cs : List C)
end

inductive S where
  | assign (x : Nat) (e : E)
  | ite (c : C) (a b : List S)
  | for1 (x : Nat) (it : It) (body : List S)
  | ret (e : E) | raise (c : Nat) (msg : List Nat)

structure Fn where
  npar : Nat
  nloc : Nat
  body : List S
  pure : Bool
structure Prog where
  fns : List Fn
  tabs : List (List (List Nat × List Nat))

-- all references lie below n
mutual
def V.refUnder (n : Nat) : V → Bool
  | .tup xs | .lst xs => V.refsUnder n xs
  | .ref m => decide (m < n)
  | _ => true
def V.refsUnder (n : Nat) : List V → Bool
  | [] => true
  | x :: xs => x.refUnder n && V.refsUnder n xs
end
def listOf (h : H) : V → Option (List V)
  | .lst xs => some xs
  | .ref n => match h[n]? with | some (.list xs) => some xs | _ => none
  | _ => none
def seqOf (h : H) : V → Option (List V)
  | .tup xs => some xs
  | v => listOf h v
/-- a mutable list seen as a frozen one -/
def deref (h : H) (v : V) : V := match v with
  | .ref n => match h[n]? with | some (.list xs) => .lst xs | _ => v
  | v => v
def mkList (mu : Bool) (xs : List V) (h : H) : R V :=
  if mu then .ok (.ref h.length) (h ++ [.list xs]) else .ok (.lst xs) h
def truth (_h : H) : V → Option Bool
  | .bool b => some b
  | _ => none

def okInt (i : Int) : Bool := decide (-(2 ^ 63) ≤ i) && decide (i < 2 ^ 63)
/-- a range's bound -/
def okR (i : Int) : Bool := decide (-1000000000000 ≤ i) && decide (i < 1000000000000)
def charOf (s : List Nat) (k : Nat) : Option V := (s[k]?).map fun c => .str [c]

def binV (op : Op) (h : H) (a b : V) : R V :=
  match op, deref h a, deref h b with
  | .add, .int a, .int b => .ok (.int (a + b)) h
  | .add, .lst a, .lst b => if a.length + b.length ≤ 100000 then .ok (.lst (a ++ b)) h else .fail
  | .add, .tup a, .tup b => if a.length + b.length ≤ 100000 then .ok (.tup (a ++ b)) h else .fail
  | .sub, .int a, .int b => .ok (.int (a - b)) h
  | .mul, .int a, .int b => if okInt a || okInt b then .ok (.int (a * b)) h else .fail
  | .div, .int a, .int b => if b ≠ 0 ∧ b.natAbs < 1073741824 then .ok (.int (a.fdiv b)) h else .fail
  | .mod, .int a, .int b => if b ≠ 0 then .ok (.int (a.fmod b)) h else .fail
  | _, _, _ => .fail

def memV (_h : H) (a b : V) : Option Bool :=
  match a, b with
  | .str [c], .str s => some (s.contains c)
  | _, _ => none

def cmpV (op : COp) (h : H) (a b : V) : Option Bool :=
  match op, a, b with
  | .eq, .int a, .int b => some (a == b)
  | .eq, .str a, .str b => some (a == b)
  | .ne, .int a, .int b => some (!(a == b))
  | .ne, .str a, .str b => some (!(a == b))
  | .lt, .int a, .int b => some (decide (a < b))
  | .le, .int a, .int b => some (decide (a ≤ b))
  | .notIn, a, b => (memV h a b).map (!·)
  | _, _, _ => none

/-- the type of a value, by number -/
def isInst (v : V) (t : Ty) : Option Bool :=
  match v, t with
  | .str _, .str => some true
  | .tup _, .tuple => some true
  | .int _, .int => some true
  | .int _, .bool => some false
  | _, _ => none

def okIdx (k : Int) : Bool := decide (0 ≤ k) && decide (k < 1000000)
def getItem (h : H) (v i : V) : Option V :=
  match i with
  | .int k => match v with
    | .str s => if okIdx k then charOf s k.toNat else none
    | .ref n => match h[n]? with
      | some (.list xs) => if okIdx k then xs[k.toNat]? else none
      | _ => none
    | .lst xs | .tup xs => if okIdx k then xs[k.toNat]? else none
    | _ => none
  | _ => none

/-- a slice's bound: none, a number from 0 on, or one from the end -/
def bound (len : Nat) (dflt : Nat) : V → Option Nat
  | .none => some dflt
  | .int k => some (if k < 0 then (k + len).toNat else min k.toNat len)
  | _ => none
def sliceL {α : Type} (xs : List α) (a b : Nat) : List α := (xs.drop a).take (b - a)
def sliceV (mu : Bool) (h : H) (v lo hi : V) : R V :=
  match v with
  | .tup xs => match lo, hi with
    | .int k, .none => if 1 ≤ k ∧ k.toNat ≤ xs.length ∧ xs.length ≤ 100000 then .ok (.tup (xs.drop k.toNat)) h else .fail
    | _, _ => .fail
  | v => match listOf h v with
    | some xs => match bound xs.length 0 lo, bound xs.length xs.length hi with
      | some a, some b => if xs.length ≤ 100000 then mkList mu (sliceL xs a b) h else .fail
      | _, _ => .fail
    | none => .fail

def digitsOf (n : Nat) : List Nat := (Nat.toDigits 10 n).map Char.toNat
def isDigit (c : Nat) : Bool := decide (48 ≤ c) && decide (c ≤ 57)
def readNat (s : List Nat) : Nat := s.foldl (fun a c => 10 * a + (c - 48)) 0
def strsV : List V → Option (List (List Nat))
  | [] => some []
  | .str i :: r => (strsV r).map (i :: ·)
  | _ => none
def joinL (sep : List Nat) : List (List Nat) → List Nat
  | [] => []
  | [x] => x
  | x :: y :: r => x ++ sep ++ joinL sep (y :: r)
def splitL (c : Nat) : List Nat → List (List Nat)
  | [] => [[]]
  | x :: r => if x = c then [] :: splitL c r else match splitL c r with
    | [] => [[x]]
    | w :: ws => (x :: w) :: ws

def lenV (h : H) (v : V) : Option Nat :=
  match v with
  | .str s => some s.length
  | v => (seqOf h v).map List.length
def biV (b : Bi) (h : H) (vs : List V) : R V :=
  match b, vs with
  | .len, [v] => match lenV h v with | some n => if n ≤ 100000 then .ok (.int n) h else .fail | none => .fail
  | .int, [.str s] => if s.all isDigit && decide (1 ≤ s.length) && decide (s.length ≤ 18) then .ok (.int (readNat s)) h else .fail
  | .str, [.int i] => if decide (0 ≤ i) && decide (i < 10 ^ 9) then .ok (.str (digitsOf i.toNat)) h else .fail
  | .tuple, [v] => match seqOf h v with | some xs => if xs.length ≤ 100000 then .ok (.tup xs) h else .fail | none => .fail
  | _, _ => .fail

/-- a text -/
def isS : V → Bool
  | .str _ => true
  | _ => false
def appV (h : H) (n : Nat) (v : V) : R V := match h[n]? with | some (.list xs) => if xs.length ≤ 100000 then .ok .none (h.set n (.list (xs ++ [v]))) else .fail | _ => .fail
def bmV (m : Bm) (h : H) (o : V) (vs : List V) : R V :=
  match m, o, vs with
  | .join, .str s, [v] => match (listOf h v).bind strsV with
    | some ws => if (joinL s ws).length ≤ 100000 ∧ s.length ≤ 100000 then .ok (.str (joinL s ws)) h else .fail
    | none => .fail
  | .split, .str s, [.str [c]] => if s.length ≤ 100000 then .ok (.lst ((splitL c s).map .str)) h else .fail
  | _, _, _ => .fail

/-- what a loop takes, and the list that must not turn while it runs -/
def itemsOf (h : H) : V → Option (List V × Option (Nat × List V))
  | .lst xs | .tup xs => some (xs, none)
  | .str s => some (s.map fun c => .str [c], none)
  | .ref n => match h[n]? with | some (.list xs) => some (xs, some (n, xs)) | _ => none
  | _ => none
def still (h : H) : Option (Nat × List V) → Bool
  | none => true
  | some (n, xs) => decide (h[n]? = some (.list xs))

def forLoop (still : H → Bool) (step : V → Rho → H → RS) : List V → Rho → H → RS
  | [], r, h => if still h then .next r h else .fail
  | v :: vs, r, h => if still h then (match step v r h with
      | .next r' h' => forLoop still step vs r' h'
      | x => x) else .fail
def compLoop (still : H → Bool) (step : V → H → R Unit) : List V → H → R Unit
  | [], h => if still h then .ok () h else .fail
  | v :: vs, h => if still h then (step v h).bind fun _ h' => compLoop still step vs h' else .fail
/-- a comprehension's end: its list is the object with the number of the first heap's length -/
def endComp (mu : Bool) (h h' : H) : R V :=
  match h'[h.length]? with
  | some (.list ys) => if mu then .ok (.ref h.length) h' else if h'.take h.length = h ∧ V.refsUnder h.length ys = true then .ok (.lst ys) h else .ok (.lst ys) (h'.set h.length .gone)
  | _ => .fail
section
variable (P : Prog) (q : Bool) (call : Nat → List V → H → R V)
mutual
def evE : E → Rho → H → R V
  | .var i, r, h => match r[i]? with | some (some v) => .ok v h | _ => .fail
  | .const v, _, h => .ok v h
  | .glob _ v, _, h => .ok v h
  | .bin op a b, r, h => (evE a r h).bind fun x h => (evE b r h).bind fun y h => binV op h x y
  | .not a, r, h => (evE a r h).bind fun x h => match truth h x with | some b => .ok (.bool (!b)) h | none => .fail
  | .and es, r, h => evAnd es r h
  | .cmp op a b, r, h => (evE a r h).bind fun x h => (evE b r h).bind fun y h => match cmpV op h x y with | some b => .ok (.bool b) h | none => .fail
  | .cmp2 op1 op2 a b c, r, h => (evE a r h).bind fun x h => (evE b r h).bind fun y h => match cmpV op1 h x y with
      | some true => (evE c r h).bind fun z h => match cmpV op2 h y z with | some b => .ok (.bool b) h | none => .fail
      | some false => .ok (.bool false) h
      | none => .fail
  | .call f args, r, h => (evEs args r h).bind fun vs h => call f vs h
  | .bi b args, r, h => (evEs args r h).bind fun vs h => biV b h vs
  | .bm m o args, r, h => (evE o r h).bind fun x h => if isS x then (evEs args r h).bind fun vs h' => bmV m h' x vs else .fail
  | .isinst a t, r, h => (evE a r h).bind fun x h => match isInst x t with | some b => .ok (.bool b) h | none => .fail
  | .sub a b, r, h => (evE a r h).bind fun x h => (evE b r h).bind fun y h => match getItem h x y with | some v => .ok v h | none => .fail
  | .slice mu a lo hi, r, h => (evE a r h).bind fun x h => (evE lo r h).bind fun y h => (evE hi r h).bind fun z h => sliceV mu h x y z
  | .list mu es, r, h => (evEs es r h).bind fun vs h => mkList mu vs h
  | .tuple es, r, h => (evEs es r h).bind fun vs h => .ok (.tup vs) h
  | .comp mu x elt it ifs, r, h => (evIt it r h).bind fun s h => match itemsOf h s with
      | some (xs, live) => if q = true ∧ xs.length ≤ 100000 then (compLoop (still · live) (fun v h' => (evIfs ifs (r.set x (some v)) h').bind fun t h' => if t then (evE elt (r.set x (some v)) h').bind fun y h' => (appV h' h.length y).bind fun _ h' => .ok () h' else .ok () h') xs (h ++ [.list []])).bind fun _ h' => endComp mu h h' else .fail
      | none => .fail
  | .inTab neg t a, r, h => (evE a r h).bind fun x h => match x, P.tabs[t]? with
      | .str s, some tb => .ok (.bool ((tb.any fun p => p.1 == s) != neg)) h
      | _, _ => .fail
  | .subTab t a, r, h => match P.tabs[t]? with
      | some tb => (evE a r h).bind fun x h => match x with
        | .str s => (match tb.find? fun p => p.1 == s with | some p => .ok (.str p.2) h | none => .fail)
        | _ => .fail
      | none => .fail
def evIt : It → Rho → H → R V
  | .of e, r, h => evE e r h
  | .range1 a, r, h => (evE a r h).bind fun x h => match x with
      | .int n => if okR n && decide (n.toNat ≤ 100000) then .ok (.lst ((List.range n.toNat).map fun (i : Nat) => .int i)) h else .fail
      | _ => .fail
def evEs : List E → Rho → H → R (List V)
  | [], _, h => .ok [] h
  | e :: es, r, h => (evE e r h).bind fun v h => (evEs es r h).bind fun vs h => .ok (v :: vs) h
def evAnd : List E → Rho → H → R V
  | [], _, _ => .fail
  | [e], r, h => evE e r h
  | e :: e' :: es, r, h => (evE e r h).bind fun v h => match truth h v with
      | some true => evAnd (e' :: es) r h
      | some false => .ok v h
      | none => .fail
def evC : C → Rho → H → R Bool
  | .t e, r, h => (evE e r h).bind fun v h => match truth h v with | some b => .ok b h | none => .fail
  | .not c, r, h => (evC c r h).bind fun b h => .ok (!b) h
  | .and cs, r, h => evCand cs r h
  | .or cs, r, h => evCor cs r h
def evCand : List C → Rho → H → R Bool
  | [], _, h => .ok true h
  | c :: cs, r, h => (evC c r h).bind fun b h => if b then evCand cs r h else .ok false h
def evCor : List C → Rho → H → R Bool
  | [], _, h => .ok false h
  | c :: cs, r, h => (evC c r h).bind fun b h => if b then .ok true h else evCor cs r h
def evIfs : List C → Rho → H → R Bool
  | [], _, h => .ok true h
  | c :: cs, r, h => (evC c r h).bind fun b h => if b then evIfs cs r h else .ok false h
end
end

def RS.of {α : Type} (r : Rho) (x : R α) (f : α → H → RS) : RS :=
  match x with
  | .ok a h => f a h
  | .exc c h => .exc c r h
  | .fail => .fail

section
variable (P : Prog) (call : Bool → Nat → List V → H → R V)
mutual
def evS (q : Bool) : S → Rho → H → RS
  | .assign x e, r, h => RS.of r (evE P q (call q) e r h) fun v h => .next (r.set x (some v)) h
  | .ite c a b, r, h => RS.of r (evC P q (call q) c r h) fun t h => if t then evSs q a r h else evSs q b r h
  | .for1 x it body, r, h => RS.of r (evIt P q (call q) it r h) fun s h => match itemsOf h s with
      | some (xs, live) => if q = true ∧ xs.length ≤ 100000 then forLoop (still · live) (fun v r h => evSs q body (r.set x (some v)) h) xs r h else .fail
      | none => .fail
  | .ret e, r, h => RS.of r (evE P q (call q) e r h) fun v h => .ret v r h
  | .raise _ _, _, _ => .fail
def evSs (q : Bool) : List S → Rho → H → RS
  | [], r, h => .next r h
  | s :: ss, r, h => match evS q s r h with
      | .next r' h' => evSs q ss r' h'
      | x => x
end
end

def fin (pure : Bool) (h : H) (r : R V) : R V :=
  if pure then match r with
    | .ok v h' => if h'.take h.length = h ∧ v.refUnder h.length = true then .ok v h else .fail
    | .exc c h' => if h'.take h.length = h then .exc c h else .fail
    | .fail => .fail
  else r
def ofRS : RS → R V
  | .next _ h => .ok .none h
  | .ret v _ h => .ok v h
  | .exc c _ h => .exc c h
  | .fail => .fail
def callN (P : Prog) : Nat → Bool → Nat → List V → H → R V
  | 0, _, _, _, _ => .fail
  | d + 1, q, f, vs, h => match P.fns[f]? with
    | none => .fail
    | some F => if vs.length = F.npar then fin F.pure h (ofRS (evSs P (callN P d) q F.body (vs.map some ++ List.replicate (F.nloc - F.npar) none) h)) else .fail

end
end Mine
end
section
namespace Mine
open PySem

/-- object's address, its dict's address -/
abbrev Phi := List (Addr × Addr)

structure St where
  prog : Program
  w : World
  P : Prog
  base : Heap
  nolim : base.NoLimit

abbrev St.M (T : St) : Model := model T.prog T.w

def own (φ : Phi) (η : H) (b : Addr) : Prop := ∃ (n : Nat) (p : Addr × Addr) (m : M), φ[n]? = some p ∧ η[n]? = some m ∧ m ≠ M.gone ∧ (b = p.1 ∨ b = p.2)

abbrev listO (items : Array Value) (n : Nat) : Obj := { cls := .type "list", dict := none, data := .seq items n, slots := #[] }
abbrev tupO (items : Array Value) (n : Nat) : Obj := { cls := .type "tuple", dict := none, data := .seq items n, slots := #[] }
abbrev dictO (es : Array DictEntry) (n : Nat) : Obj := { cls := .type "dict", dict := none, data := .dict es n, slots := #[] }
abbrev instO (C d : Addr) : Obj := { cls := .ref C, dict := some d, data := .plain, slots := #[] }

mutual
def VR (T : St) (φ : Phi) (N : Addr → Prop) (h : Heap) : V → Value → Prop
  | .none, v => v = .none
  | .bool b, v => v = .bool b
  | .int i, v => ∃ t, v = .int i t
  | .str s, v => ∃ t, v = .str ⟨s.toArray⟩ t
  | .tup xs, v => ∃ a items n, v = .ref a ∧ ¬ N a ∧ h.get? a = some (tupO items n) ∧ VRs T φ N h xs items.toList
  | .lst xs, v => ∃ a items n, v = .ref a ∧ ¬ N a ∧ h.get? a = some (listO items n) ∧ VRs T φ N h xs items.toList
  | .ref n, v => ∃ p, φ[n]? = some p ∧ v = .ref p.1
def VRs (T : St) (φ : Phi) (N : Addr → Prop) (h : Heap) : List V → List Value → Prop
  | [], vs => vs = []
  | x :: xs, vs => ∃ v r, vs = v :: r ∧ VR T φ N h x v ∧ VRs T φ N h xs r
end

/-- an exception, or an entry of its way: its fields may turn -/
def Loose (o : Obj) : Prop := (∃ vs, o.data = .fields vs) ∧ (o.cls = .type "traceback" ∨ ∃ C, o.cls = .ref C)
/-- an object stays; a frame's slots may turn, and an exception's fields -/
def StayO (o : Obj) (h : Heap) (b : Addr) : Prop :=
  h.get? b = some o ∨ (o.cls = .type "frame" ∧ ∃ sl, h.get? b = some { o with slots := sl }) ∨ (Loose o ∧ ∃ o', h.get? b = some o' ∧ o'.cls = o.cls ∧ Loose o')
theorem StayO.exact {o : Obj} {h : Heap} {b : Addr} (x : StayO o h b) (hc : o.cls ≠ .type "frame") (hl : ¬ Loose o) : h.get? b = some o := by
  rcases x with x | ⟨x, _⟩ | ⟨x, _⟩
  · exact x
  · exact absurd x hc
  · exact absurd x hl
theorem StayO.refl {o : Obj} {h : Heap} {b : Addr} (e : h.get? b = some o) : StayO o h b := .inl e
theorem Loose.notFrame {o : Obj} (x : Loose o) : o.cls ≠ .type "frame" := by
  obtain ⟨_, e | ⟨C, e⟩⟩ := x <;> (rw [e]; simp)
theorem not_loose {o : Obj} {c : String} (e : o.cls = .type c) (hc : c ≠ "traceback") : ¬ Loose o := by
  rintro ⟨_, x | ⟨C, x⟩⟩
  · rw [e] at x; cases x; exact hc rfl
  · rw [e] at x; cases x
theorem StayO.trans {o : Obj} {h h' : Heap} {b : Addr} (x : StayO o h b) (y : ∀ o', h.get? b = some o' → StayO o' h' b) : StayO o h' b := by
  rcases x with x | ⟨c, sl, x⟩ | ⟨l, o', x, ec, l'⟩
  · exact y o x
  · rcases y _ x with y | ⟨_, sl', y⟩ | ⟨l, _⟩
    · exact .inr (.inl ⟨c, sl, y⟩)
    · exact .inr (.inl ⟨c, sl', y⟩)
    · exact absurd c l.notFrame
  · rcases y _ x with y | ⟨c, _⟩ | ⟨_, o'', y, ec', l''⟩
    · exact .inr (.inr ⟨l, o', y, ec, l'⟩)
    · exact absurd c l'.notFrame
    · exact .inr (.inr ⟨l, o'', y, ec'.trans ec, l''⟩)
theorem StayO.there {o : Obj} {h : Heap} {b : Addr} (x : StayO o h b) : ∃ o', h.get? b = some o' ∧ o'.cls = o.cls := by
  rcases x with x | ⟨_, sl, x⟩ | ⟨_, o', x, e, _⟩
  · exact ⟨_, x, rfl⟩
  · exact ⟨_, x, rfl⟩
  · exact ⟨_, x, e⟩

structure Step (φ : Phi) (η : H) (h : Heap) (φ' : Phi) (η' : H) (h' : Heap) : Prop where
  ext : φ <+: φ'
  keep : ∀ b o, ¬ own φ η b → h.get? b = some o → StayO o h' b
  osub : ∀ b, own φ' η' b → own φ η b ∨ h.get? b = none
  alive : ∀ b o, h.get? b = some o → (h'.get? b).isSome = true

theorem Step.refl (φ : Phi) (η : H) (h : Heap) : Step φ η h φ η h :=
  ⟨List.prefix_refl _, fun _ _ _ e => .refl e, fun _ o => .inl o, fun _ _ e => by rw [e]; rfl⟩

theorem Step.trans {φ₁ φ₂ φ₃ : Phi} {η₁ η₂ η₃ : H} {h₁ h₂ h₃ : Heap} (x : Step φ₁ η₁ h₁ φ₂ η₂ h₂) (y : Step φ₂ η₂ h₂ φ₃ η₃ h₃) : Step φ₁ η₁ h₁ φ₃ η₃ h₃ where
  ext := x.ext.trans y.ext
  keep := fun b o hb e => by
    have hb₂ : ¬ own φ₂ η₂ b := fun q => (x.osub b q).elim hb fun q => by rw [q] at e; cases e
    exact (x.keep b o hb e).trans fun o' e' => y.keep b o' hb₂ e'
  osub := fun b q => by
    rcases y.osub b q with q | q
    · exact x.osub b q
    · right
      cases e : h₁.get? b with
      | none => rfl
      | some o => have := x.alive b o e; rw [q] at this; cases this
  alive := fun b o e => by
    obtain ⟨o', e'⟩ := Option.isSome_iff_exists.mp (x.alive b o e)
    exact y.alive b o' e'

theorem Step.off {φ φ' : Phi} {η η' : H} {h h' : Heap} (st : Step φ η h φ' η' h') {a : Addr} {o : Obj} (hN : ¬ own φ η a) (hg : h.get? a = some o) : ¬ own φ' η' a :=
  fun q => (st.osub a q).elim hN fun q => by rw [q] at hg; cases hg

theorem get_prefix {α : Type} {l l' : List α} (x : l <+: l') {n : Nat} {a : α} (e : l[n]? = some a) : l'[n]? = some a := by
  obtain ⟨t, rfl⟩ := x
  rw [List.getElem?_append_left (List.getElem?_eq_some_iff.mp e).1]
  exact e

mutual
theorem VR.step {T : St} {φ φ' : Phi} {η η' : H} {h h' : Heap} (st : Step φ η h φ' η' h') : ∀ (v : V) (x : Value), VR T φ (own φ η) h v x → VR T φ' (own φ' η') h' v x
  | .none, _, e => e
  | .bool _, _, e => e
  | .int _, _, e => e
  | .str _, _, e => e
  | .tup xs, x, e => by
    simp only [VR] at e ⊢
    obtain ⟨a, items, n, rfl, hN, hg, hr⟩ := e
    exact ⟨a, items, n, rfl, st.off hN hg, (st.keep a _ hN hg).exact (by simp) (not_loose rfl (by decide)), VRs.step st xs _ hr⟩
  | .lst xs, x, e => by
    simp only [VR] at e ⊢
    obtain ⟨a, items, n, rfl, hN, hg, hr⟩ := e
    exact ⟨a, items, n, rfl, st.off hN hg, (st.keep a _ hN hg).exact (by simp) (not_loose rfl (by decide)), VRs.step st xs _ hr⟩
  | .ref n, x, e => by
    simp only [VR] at e ⊢
    obtain ⟨p, hp, rfl⟩ := e
    exact ⟨p, get_prefix st.ext hp, rfl⟩
theorem VRs.step {T : St} {φ φ' : Phi} {η η' : H} {h h' : Heap} (st : Step φ η h φ' η' h') : ∀ (v : List V) (x : List Value), VRs T φ (own φ η) h v x → VRs T φ' (own φ' η') h' v x
  | [], _, e => e
  | y :: ys, x, e => by
    simp only [VRs] at e ⊢
    obtain ⟨v, r, rfl, h1, h2⟩ := e
    exact ⟨v, r, rfl, VR.step st y v h1, VRs.step st ys r h2⟩
end

def OR (T : St) (φ : Phi) (N : Addr → Prop) (h : Heap) (m : M) (p : Addr × Addr) : Prop :=
  match m with
  | .list xs => p.2 = p.1 ∧ ∃ items n, h.get? p.1 = some (listO items n) ∧ VRs T φ N h xs items.toList
  | .gone => True

structure Rel (T : St) (φ : Phi) (η : H) (h : Heap) : Prop where
  len : φ.length = η.length
  base : ∀ b o, T.base.get? b = some o → h.get? b = some o
  obj : ∀ (n : Nat) (m : M) (p : Addr × Addr), η[n]? = some m → φ[n]? = some p → OR T φ (own φ η) h m p
  fresh : ∀ b, own φ η b → T.base.get? b = none ∧ cStatics < b
  disj : ∀ (n n' : Nat) (p p' : Addr × Addr) (m m' : M), φ[n]? = some p → φ[n']? = some p' → η[n]? = some m → η[n']? = some m' → m ≠ .gone → m' ≠ .gone → n ≠ n' → p.1 ≠ p'.1 ∧ p.1 ≠ p'.2 ∧ p.2 ≠ p'.1 ∧ p.2 ≠ p'.2

/-- what is owned is there, and no frame -/
theorem Rel.there {T : St} {φ : Phi} {η : H} {h : Heap} (R : Rel T φ η h) {b : Addr} (o : own φ η b) : ∃ ob, h.get? b = some ob ∧ ob.cls ≠ .type "frame" := by
  obtain ⟨n, p, m, hp, hm, hg, hb⟩ := o
  have := R.obj n m p hm hp
  unfold OR at this
  split at this
  · obtain ⟨e, items, k, hg, _⟩ := this
    rcases hb with rfl | rfl
    · exact ⟨_, hg, by simp⟩
    · rw [e]; exact ⟨_, hg, by simp⟩
  · exact absurd rfl hg

/-- an object with fields is not owned -/
theorem Rel.notFields {T : St} {φ : Phi} {η : H} {h : Heap} (R : Rel T φ η h) {b : Addr} {o : Obj} {vs : Array Value} (hg : h.get? b = some o) (hd : o.data = .fields vs) : ¬ own φ η b := by
  rintro ⟨n, p, m, hp, hm, hgn, hb⟩
  have := R.obj n m p hm hp
  unfold OR at this
  split at this
  · obtain ⟨e, items, k, h1, _⟩ := this
    rcases hb with rfl | rfl <;> (try rw [e] at hg) <;> (rw [h1] at hg; cases hg; cases hd)
  · exact hgn rfl

/-- the heap has grown alone -/
theorem Step.keeps {φ : Phi} {η : H} {h h' : Heap} (k : ∀ b o, h.get? b = some o → h'.get? b = some o) : Step φ η h φ η h' :=
  ⟨List.prefix_refl _, fun b o _ e => .refl (k b o e), fun _ o => .inl o, fun b o e => by rw [k b o e]; rfl⟩

theorem OR.step {T : St} {φ φ' : Phi} {η η' : H} {h h' : Heap} (st : Step φ η h φ' η' h') {m : M} {p : Addr × Addr} (k : ∀ o, ∀ b, b = p.1 ∨ b = p.2 → h.get? b = some o → h'.get? b = some o)
    (x : OR T φ (own φ η) h m p) : OR T φ' (own φ' η') h' m p := by
  unfold OR at x ⊢
  split at x
  · obtain ⟨e, items, n, h1, h2⟩ := x
    exact ⟨e, items, n, k _ _ (.inl rfl) h1, VRs.step st _ _ h2⟩
  · trivial

theorem Rel.keeps {T : St} {φ : Phi} {η : H} {h h' : Heap} (R : Rel T φ η h) (k : ∀ b o, h.get? b = some o → h'.get? b = some o) : Rel T φ η h' where
  len := R.len
  base := fun b o e => k b o (R.base b o e)
  obj := fun n m p hm hp => OR.step (.keeps k) (fun o b _ e => k b o e) (R.obj n m p hm hp)
  fresh := R.fresh
  disj := R.disj

theorem own_set {φ : Phi} {η : H} {n : Nat} {m m' : M} (hm : η[n]? = some m) (hg : m ≠ .gone) (hg' : m' ≠ .gone) (b : Addr) : own φ (η.set n m') b ↔ own φ η b := by
  have hlt : n < η.length := (List.getElem?_eq_some_iff.mp hm).1
  constructor
  · rintro ⟨k, p, x, hp, hx, hxg, hb⟩
    by_cases e : n = k
    · subst e; exact ⟨n, p, m, hp, hm, hg, hb⟩
    · rw [List.getElem?_set_ne e] at hx; exact ⟨k, p, x, hp, hx, hxg, hb⟩
  · rintro ⟨k, p, x, hp, hx, hxg, hb⟩
    by_cases e : n = k
    · subst e; exact ⟨n, p, m', hp, by simp [hlt], hg', hb⟩
    · exact ⟨k, p, x, hp, by rw [List.getElem?_set_ne e]; exact hx, hxg, hb⟩

/-- one object turns -/
theorem Rel.set {T : St} {φ : Phi} {η : H} {h h' : Heap} {n : Nat} {m m' : M} {p : Addr × Addr} (R : Rel T φ η h) (hm : η[n]? = some m) (hp : φ[n]? = some p) (hg : m ≠ .gone) (hg' : m' ≠ .gone)
    (k : ∀ b o, b ≠ p.1 → b ≠ p.2 → h.get? b = some o → h'.get? b = some o) (a1 : (h'.get? p.1).isSome = true) (a2 : (h'.get? p.2).isSome = true)
    (ho : Step φ η h φ (η.set n m') h' → OR T φ (own φ (η.set n m')) h' m' p) : Rel T φ (η.set n m') h' ∧ Step φ η h φ (η.set n m') h' := by
  have hown : own φ η p.1 ∧ own φ η p.2 := ⟨⟨n, p, m, hp, hm, hg, .inl rfl⟩, ⟨n, p, m, hp, hm, hg, .inr rfl⟩⟩
  have st : Step φ η h φ (η.set n m') h' := ⟨List.prefix_refl _, fun b o hb e => .refl (k b o (fun q => hb (q ▸ hown.1)) (fun q => hb (q ▸ hown.2)) e), fun b hb => .inl ((own_set hm hg hg' b).mp hb), fun b o e => by
    by_cases q1 : b = p.1
    · rw [q1]; exact a1
    · by_cases q2 : b = p.2
      · rw [q2]; exact a2
      · rw [k b o q1 q2 e]; rfl⟩
  refine ⟨⟨?_, fun b o e => ?_, fun k' x p' hx hp' => ?_, fun b hb => R.fresh b ((own_set hm hg hg' b).mp hb), fun i j q q' x x' hq hq' hx hx' gx gx' hij => ?_⟩, st⟩
  · rw [List.length_set]; exact R.len
  · exact k b o (fun q => by have := (R.fresh _ hown.1).1; rw [← q, e] at this; cases this) (fun q => by have := (R.fresh _ hown.2).1; rw [← q, e] at this; cases this) (R.base b o e)
  · by_cases e : n = k'
    · subst e
      have hlt : n < η.length := (List.getElem?_eq_some_iff.mp hm).1
      rw [List.getElem?_set_self hlt] at hx
      cases hx
      rw [hp] at hp'; cases hp'
      exact ho st
    · rw [List.getElem?_set_ne e] at hx
      by_cases gx : x = .gone
      · subst gx; trivial
      · have d := R.disj n k' p p' m x hp hp' hm hx hg gx e
        refine OR.step st (fun o b hb e => k b o ?_ ?_ e) (R.obj k' x p' hx hp')
        · rcases hb with rfl | rfl
          · exact Ne.symm d.1
          · exact Ne.symm d.2.1
        · rcases hb with rfl | rfl
          · exact Ne.symm d.2.2.1
          · exact Ne.symm d.2.2.2
  · have get : ∀ (i : Nat) (x : M), (η.set n m')[i]? = some x → x ≠ .gone → ∃ y, η[i]? = some y ∧ y ≠ .gone := fun i x hx gx => by
      by_cases e : n = i
      · subst e; exact ⟨m, hm, hg⟩
      · rw [List.getElem?_set_ne e] at hx; exact ⟨x, hx, gx⟩
    obtain ⟨y, hy, gy⟩ := get i x hx gx
    obtain ⟨y', hy', gy'⟩ := get j x' hx' gx'
    exact R.disj i j q q' y y' hq hq' hy hy' gy gy' hij

theorem own_add {T : St} {φ : Phi} {η : H} {h : Heap} (R : Rel T φ η h) {p : Addr × Addr} {m : M} {b : Addr} (x : own (φ ++ [p]) (η ++ [m]) b) : own φ η b ∨ b = p.1 ∨ b = p.2 := by
  obtain ⟨n, q, y, hq, hy, gy, hb⟩ := x
  by_cases hn : n < φ.length
  · rw [List.getElem?_append_left hn] at hq
    rw [List.getElem?_append_left (by rw [← R.len]; exact hn)] at hy
    exact .inl ⟨n, q, y, hq, hy, gy, hb⟩
  · have : n = φ.length := by
      have := (List.getElem?_eq_some_iff.mp hq).1
      simp at this; omega
    subst this
    rw [List.getElem?_append_right (Nat.le_refl _)] at hq
    simp at hq; subst hq
    exact .inr hb

/-- a new object -/
theorem Rel.add {T : St} {φ : Phi} {η : H} {h h' : Heap} {m : M} {p : Addr × Addr} (R : Rel T φ η h) (k : ∀ b o, h.get? b = some o → h'.get? b = some o) (h1 : h.get? p.1 = none) (h2 : h.get? p.2 = none) (l1 : cStatics < p.1) (l2 : cStatics < p.2)
    (ho : Step φ η h (φ ++ [p]) (η ++ [m]) h' → OR T (φ ++ [p]) (own (φ ++ [p]) (η ++ [m])) h' m p) : Rel T (φ ++ [p]) (η ++ [m]) h' ∧ Step φ η h (φ ++ [p]) (η ++ [m]) h' := by
  have nb : ∀ b, h.get? b = none → T.base.get? b = none := fun b hb => by
    cases q : T.base.get? b with
    | none => rfl
    | some o => have := R.base b o q; rw [hb] at this; cases this
  have st : Step φ η h (φ ++ [p]) (η ++ [m]) h' := ⟨List.prefix_append _ _, fun b o _ e => .refl (k b o e), fun b hb => (own_add R hb).imp id fun q => by rcases q with rfl | rfl <;> assumption, fun b o e => by rw [k b o e]; rfl⟩
  have notp : ∀ b, own φ η b → b ≠ p.1 ∧ b ≠ p.2 := fun b hb => by
    obtain ⟨o, e, _⟩ := R.there hb
    exact ⟨fun q => (by rw [q, h1] at e; cases e), fun q => (by rw [q, h2] at e; cases e)⟩
  have lastOr : ∀ (i : Nat) (x : M) (q : Addr × Addr), (η ++ [m])[i]? = some x → (φ ++ [p])[i]? = some q → (η[i]? = some x ∧ φ[i]? = some q ∧ i < φ.length) ∨ (i = φ.length ∧ x = m ∧ q = p) := fun i x q hx hq => by
    by_cases hi : i < φ.length
    · rw [List.getElem?_append_left hi] at hq
      rw [List.getElem?_append_left (by rw [← R.len]; exact hi)] at hx
      exact .inl ⟨hx, hq, hi⟩
    · have : i = φ.length := by
        have := (List.getElem?_eq_some_iff.mp hq).1
        simp at this; omega
      subst this
      rw [List.getElem?_append_right (Nat.le_refl _)] at hq
      rw [R.len, List.getElem?_append_right (Nat.le_refl _)] at hx
      simp at hq hx
      exact .inr ⟨rfl, hx.symm, hq.symm⟩
  refine ⟨⟨by simp [R.len], fun b o e => k b o (R.base b o e), fun i x q hx hq => ?_, fun b hb => ?_, fun i j q q' x x' hq hq' hx hx' gx gx' hij => ?_⟩, st⟩
  · rcases lastOr i x q hx hq with ⟨hx, hq, _⟩ | ⟨_, rfl, rfl⟩
    · exact OR.step st (fun o b _ e => k b o e) (R.obj i x q hx hq)
    · exact ho st
  · rcases own_add R hb with q | rfl | rfl
    · exact R.fresh b q
    · exact ⟨nb _ h1, l1⟩
    · exact ⟨nb _ h2, l2⟩
  · have off : ∀ (i : Nat) (x : M) (q : Addr × Addr), η[i]? = some x → φ[i]? = some q → x ≠ .gone → q.1 ≠ p.1 ∧ q.1 ≠ p.2 ∧ q.2 ≠ p.1 ∧ q.2 ≠ p.2 := fun i x q hx hq gx => by
      have a := notp q.1 ⟨i, q, x, hq, hx, gx, .inl rfl⟩
      have b := notp q.2 ⟨i, q, x, hq, hx, gx, .inr rfl⟩
      exact ⟨a.1, a.2, b.1, b.2⟩
    rcases lastOr i x q hx hq with ⟨ex, eq, hi⟩ | ⟨ei, ex, eq⟩ <;> rcases lastOr j x' q' hx' hq' with ⟨ex', eq', hj⟩ | ⟨ej, ex', eq'⟩
    · exact R.disj i j q q' x x' eq eq' ex ex' gx gx' hij
    · rw [eq']; exact off i x q ex eq gx
    · rw [eq]
      have := off j x' q' ex' eq' gx'
      exact ⟨Ne.symm this.1, Ne.symm this.2.2.1, Ne.symm this.2.1, Ne.symm this.2.2.2⟩
    · exact absurd (ei.trans ej.symm) hij

/-- an object is owned no more -/
theorem Rel.free {T : St} {φ : Phi} {η : H} {h : Heap} {n : Nat} (R : Rel T φ η h) : Rel T φ (η.set n .gone) h ∧ Step φ η h φ (η.set n .gone) h := by
  have sub : ∀ b, own φ (η.set n .gone) b → own φ η b := by
    rintro b ⟨k, p, x, hp, hx, hxg, hb⟩
    by_cases e : n = k
    · subst e
      by_cases hlt : n < η.length
      · rw [List.getElem?_set_self hlt] at hx; cases hx; exact absurd rfl hxg
      · rw [List.getElem?_eq_none (by simp; omega)] at hx; cases hx
    · rw [List.getElem?_set_ne e] at hx; exact ⟨k, p, x, hp, hx, hxg, hb⟩
  have st : Step φ η h φ (η.set n .gone) h := ⟨List.prefix_refl _, fun b o _ e => .refl e, fun b hb => .inl (sub b hb), fun b o e => by rw [e]; rfl⟩
  have get : ∀ (i : Nat) (x : M), (η.set n .gone)[i]? = some x → x ≠ .gone → η[i]? = some x := fun i x hx gx => by
    by_cases e : n = i
    · subst e
      by_cases hlt : n < η.length
      · rw [List.getElem?_set_self hlt] at hx; cases hx; exact absurd rfl gx
      · rw [List.getElem?_eq_none (by simp; omega)] at hx; cases hx
    · rw [List.getElem?_set_ne e] at hx; exact hx
  refine ⟨⟨by rw [List.length_set]; exact R.len, R.base, fun k x p hx hp => ?_, fun b hb => R.fresh b (sub b hb), fun i j q q' x x' hq hq' hx hx' gx gx' hij => R.disj i j q q' x x' hq hq' (get i x hx gx) (get j x' hx' gx') gx gx' hij⟩, st⟩
  by_cases gx : x = .gone
  · subst gx; trivial
  · exact OR.step st (fun o b _ e => e) (R.obj k x p (get k x hx gx) hp)

theorem Rel.high {T : St} {φ : Phi} {η : H} {h : Heap} (R : Rel T φ η h) : cStatics < h.objs.size := by
  obtain ⟨mc, ⟨o, _, _, e, _⟩, _⟩ := T.nolim
  exact Heap.lt_size (R.base _ _ e)
end Mine
end
section
namespace Mine
open PySem

/-- the frames that lie on the stack -/
def Stk (T : St) (φ : Phi) (η : H) (l : List Env) (h : Heap) : Prop :=
  ∀ env ∈ l, env.scope.kind ≠ .module ∧ ∃ L o, env.frame = some L ∧ T.base.get? L = none ∧ ¬ own φ η L ∧ h.get? L = some o ∧ o.cls = .type "frame" ∧ ∃ es n, o.data = .dict es n

theorem Stk.step {T : St} {φ φ' : Phi} {η η' : H} {l : List Env} {h h' : Heap} (x : Stk T φ η l h) (st : Step φ η h φ' η' h') : Stk T φ' η' l h' := fun env he => by
  obtain ⟨hk, L, o, hf, hb, ho, hg, hc, es, n, hd⟩ := x env he
  rcases st.keep L o ho hg with x | ⟨_, sl, x⟩ | ⟨x, _⟩
  · exact ⟨hk, L, _, hf, hb, st.off ho hg, x, hc, es, n, hd⟩
  · exact ⟨hk, L, _, hf, hb, st.off ho hg, x, hc, es, n, hd⟩
  · exact absurd hc x.notFrame

theorem Stk.fun {T : St} {φ : Phi} {η : H} {h : Heap} : ∀ {l : List Env}, Stk T φ η l h → h.FunFrames T.base l
  | [], _ => trivial
  | env :: rest, x => by
    obtain ⟨hk, L, o, hf, hb, ho, hg, hc, es, n, hd⟩ := x env List.mem_cons_self
    exact ⟨hk, ⟨L, o, hf, hb, hg, fun vs q => by rw [hd] at q; cases q⟩, Stk.fun fun e he => x e (List.mem_cons_of_mem _ he)⟩

/-- what is behind a step: the new state -/
structure Post (T : St) (φ : Phi) (η : H) (s : Shared) (φ' : Phi) (η' : H) (s' : Shared) : Prop where
  step : Step φ η s.heap φ' η' s'.heap
  rel : Rel T φ' η' s'.heap
  gens : s'.gens = s.gens
  os : s'.os = s.os
  drawn : s'.drawn = s.drawn

theorem Post.refl {T : St} {φ : Phi} {η : H} {s : Shared} (R : Rel T φ η s.heap) : Post T φ η s φ η s := ⟨.refl .., R, rfl, rfl, rfl⟩
theorem Post.toks {T : St} {φ : Phi} {η : H} {s : Shared} {k : Nat} (R : Rel T φ η s.heap) : Post T φ η s φ η { s with toks := k } := ⟨.refl .., R, rfl, rfl, rfl⟩
theorem Post.grown {T : St} {φ : Phi} {η : H} {s : Shared} {h' : Heap} {k : Nat} (R : Rel T φ η s.heap) (hk : ∀ b o, s.heap.get? b = some o → h'.get? b = some o) : Post T φ η s φ η { s with heap := h', toks := k } :=
  ⟨.keeps hk, R.keeps hk, rfl, rfl, rfl⟩
theorem Post.mk' {T : St} {φ φ' : Phi} {η η' : H} {s : Shared} {h' : Heap} {k : Nat} (x : Rel T φ' η' h' ∧ Step φ η s.heap φ' η' h') : Post T φ η s φ' η' { s with heap := h', toks := k } := ⟨x.2, x.1, rfl, rfl, rfl⟩
theorem Post.trans {T : St} {φ₁ φ₂ φ₃ : Phi} {η₁ η₂ η₃ : H} {s₁ s₂ s₃ : Shared} (x : Post T φ₁ η₁ s₁ φ₂ η₂ s₂) (y : Post T φ₂ η₂ s₂ φ₃ η₃ s₃) : Post T φ₁ η₁ s₁ φ₃ η₃ s₃ :=
  ⟨x.step.trans y.step, y.rel, y.gens.trans x.gens, y.os.trans x.os, y.drawn.trans x.drawn⟩

/-- no exception is on its way: law 01 raises none -/
def RZ (_T : St) (_h : Heap) (_e : Addr) (_c : Nat) (_L : Addr) : Prop := False
def XR (T : St) (h : Heap) (e : Value) (c : Nat) (L : Addr) : Prop := ∃ a, e = .ref a ∧ RZ T h a c L

/-- a relation between what the interpreter and what the machine give -/
abbrev QR (α β : Type) := Phi → H → Heap → β → α → Prop
abbrev QV (T : St) : QR Value V := fun φ η h v x => VR T φ (own φ η) h v x
abbrev QVs (T : St) : QR (List Value) (List V) := fun φ η h v x => VRs T φ (own φ η) h v x
abbrev QB : QR Bool Bool := fun _ _ _ v x => v = x

def Sim (T : St) (A : Around) (L : Addr) (φ : Phi) (η : H) (s : Shared) {α β : Type} (t : Sem α) (r : R β) (Q : QR α β) : Prop :=
  r = .fail ∨ wpAny T.M A t (fun x s' => ∃ v η' φ', r = .ok v η' ∧ Post T φ η s φ' η' s' ∧ Q φ' η' s'.heap v x)
    (fun e s' => ∃ c η' φ', r = .exc c η' ∧ Post T φ η s φ' η' s' ∧ XR T s'.heap e c L) s

section
variable {T : St} {A : Around} {L : Addr} {φ : Phi} {η : H} {s : Shared} {α β γ δ : Type}

theorem Sim.fail {t : Sem α} {Q : QR α β} : Sim T A L φ η s t (.fail : R β) Q := .inl rfl

theorem Sim.bind {t : Sem α} {k : α → Sem γ} {r : R β} {g : β → H → R δ} {Q₁ : QR α β} {Q₂ : QR γ δ} (h1 : Sim T A L φ η s t r Q₁)
    (h2 : ∀ v η' φ' x s', r = .ok v η' → Post T φ η s φ' η' s' → Q₁ φ' η' s'.heap v x → Sim T A L φ' η' s' (k x) (g v η') Q₂) : Sim T A L φ η s (t >>= k) (r.bind g) Q₂ := by
  rcases h1 with h1 | h1
  · left; rw [h1]; rfl
  · cases r with
    | fail => left; rfl
    | exc c h =>
      right
      refine wpAny_bind (wpAny_mono h1 (fun x s' ⟨v, η', φ', e, _⟩ => by cases e) fun e s' ⟨c', η', φ', he, hp, hx⟩ => ?_)
      cases he
      exact ⟨c, h, φ', rfl, hp, hx⟩
    | ok v₀ η₀ =>
      by_cases hf : g v₀ η₀ = .fail
      · left; exact hf
      · right
        refine wpAny_bind (wpAny_mono h1 (fun x s' ⟨v, η', φ', e, hp, hq⟩ => ?_) fun e s' ⟨c', η', φ', he, _⟩ => by cases he)
        cases e
        rcases h2 v₀ η₀ φ' x s' rfl hp hq with h3 | h3
        · exact absurd h3 hf
        · refine wpAny_mono h3 (fun y s'' ⟨v', η'', φ'', e', hp', hq'⟩ => ⟨v', η'', φ'', e', hp.trans hp', hq'⟩) fun e s'' ⟨c', η'', φ'', he, hp', hx⟩ => ⟨c', η'', φ'', he, hp.trans hp', hx⟩

/-- the interpreter does one step more -/
theorem Sim.then {t : Sem α} {r : R β} {g : β → H → R δ} {Q₁ : QR α β} {Q₂ : QR α δ} (h1 : Sim T A L φ η s t r Q₁)
    (h2 : ∀ v η' φ' x s', r = .ok v η' → Post T φ η s φ' η' s' → Q₁ φ' η' s'.heap v x → g v η' = .fail ∨ ∃ v' η'' φ'', g v η' = .ok v' η'' ∧ Post T φ' η' s' φ'' η'' s' ∧ Q₂ φ'' η'' s'.heap v' x) : Sim T A L φ η s t (r.bind g) Q₂ := by
  rcases h1 with h1 | h1
  · left; rw [h1]; rfl
  · cases r with
    | fail => left; rfl
    | exc c h => right; exact wpAny_mono h1 (fun x s' ⟨v, η', φ', e, _⟩ => by cases e) fun e s' ⟨c', η', φ', he, hp, hx⟩ => by cases he; exact ⟨c, h, φ', rfl, hp, hx⟩
    | ok v₀ η₀ =>
      by_cases hf : g v₀ η₀ = .fail
      · left; exact hf
      · right
        refine wpAny_mono h1 (fun x s' ⟨v, η', φ', e, hp, hq⟩ => ?_) fun e s' ⟨c', η', φ', he, _⟩ => by cases he
        cases e
        rcases h2 v₀ η₀ φ' x s' rfl hp hq with h3 | ⟨v', η'', φ'', e', hp', hq'⟩
        · exact absurd h3 hf
        · exact ⟨v', η'', φ'', e', hp.trans hp', hq'⟩

theorem Sim.pure {x : α} {v : β} {Q : QR α β} (R : Rel T φ η s.heap) (h : Q φ η s.heap v x) : Sim T A L φ η s (Pure.pure x) (.ok v η) Q :=
  .inr (wpAny_pure ⟨v, η, φ, rfl, .refl R, h⟩)
theorem Sim.ret {x : α} {v : β} {r : R β} {Q : QR α β} (R : Rel T φ η s.heap) (e : r = .ok v η) (h : Q φ η s.heap v x) : Sim T A L φ η s (Pure.pure x) r Q := e ▸ .pure R h
theorem Sim.standAt {p : Pos} {k : Unit → Sem α} {r : R β} {Q : QR α β} (h : Sim T A L φ η s (k ()) r Q) : Sim T A L φ η s (PySem.standAt p >>= k) r Q :=
  h.imp id fun h => wpAny_bind (wpAny_standAt h)
theorem Sim.rule {p : String} {k : Unit → Sem α} {r : R β} {Q : QR α β} (h : Sim T A L φ η s (k ()) r Q) : Sim T A L φ η s (PySem.rule p >>= k) r Q :=
  h.imp id fun h => wpAny_bind (wpAny_rule h)
theorem Sim.holding {vs : List Value} {t : Sem α} {r : R β} {Q : QR α β} (h : Sim T A L φ η s t r Q) : Sim T A L φ η s (PySem.holding vs t) r Q := h.imp id wpAny_holding
theorem Sim.mono {t : Sem α} {r : R β} {Q Q' : QR α β} (h : Sim T A L φ η s t r Q) (hq : ∀ φ' η' s' v x, r = .ok v η' → Post T φ η s φ' η' s' → Q φ' η' s'.heap v x → Q' φ' η' s'.heap v x) : Sim T A L φ η s t r Q' :=
  h.imp id fun h => wpAny_mono h (fun x s' ⟨v, η', φ', e, hp, q⟩ => ⟨v, η', φ', e, hp, hq φ' η' s' v x e hp q⟩) fun _ _ y => y
/-- an end without exception -/
theorem Sim.ok {t : Sem α} {v : β} {η' : H} {r : R β} {Q : QR α β} (e : r = .ok v η') (h : wpAny T.M A t (fun x s' => ∃ φ', Post T φ η s φ' η' s' ∧ Q φ' η' s'.heap v x) (fun _ _ => False) s) : Sim T A L φ η s t r Q := by
  subst e
  exact .inr (wpAny_mono h (fun x s' ⟨φ', hp, q⟩ => ⟨v, η', φ', rfl, hp, q⟩) fun _ _ y => y.elim)
end
end Mine
end
section
namespace Mine
open PySem PySem.SeqAt

section
variable {T : St} {φ : Phi} {N : Addr → Prop} {h : Heap}

theorem VRs.length : ∀ {xs : List V} {vs : List Value}, VRs T φ N h xs vs → vs.length = xs.length
  | [], _, e => by simp only [VRs] at e; simp [e]
  | x :: xs, _, e => by
    simp only [VRs] at e
    obtain ⟨v, r, rfl, _, h2⟩ := e
    simp [VRs.length h2]
theorem VRs.get : ∀ {xs : List V} {vs : List Value} {i : Nat} {x : V}, VRs T φ N h xs vs → xs[i]? = some x → ∃ v, vs[i]? = some v ∧ VR T φ N h x v
  | [], _, _, _, _, e => by simp at e
  | x :: xs, _, i, y, e, hi => by
    simp only [VRs] at e
    obtain ⟨v, r, rfl, h1, h2⟩ := e
    cases i with
    | zero => simp at hi; subst hi; exact ⟨v, rfl, h1⟩
    | succ i => simpa using VRs.get h2 (by simpa using hi)
theorem VRs.get' : ∀ {xs : List V} {vs : List Value} {i : Nat} {v : Value}, VRs T φ N h xs vs → vs[i]? = some v → ∃ x, xs[i]? = some x ∧ VR T φ N h x v
  | [], _, _, _, e, hi => by simp only [VRs] at e; simp [e] at hi
  | x :: xs, _, i, w, e, hi => by
    simp only [VRs] at e
    obtain ⟨v, r, rfl, h1, h2⟩ := e
    cases i with
    | zero => simp at hi; subst hi; exact ⟨x, rfl, h1⟩
    | succ i => simpa using VRs.get' h2 (by simpa using hi)
theorem VRs.append : ∀ {xs ys : List V} {vs ws : List Value}, VRs T φ N h xs vs → VRs T φ N h ys ws → VRs T φ N h (xs ++ ys) (vs ++ ws)
  | [], _, _, _, e, e' => by simp only [VRs] at e; subst e; exact e'
  | x :: xs, _, _, _, e, e' => by
    simp only [VRs] at e
    obtain ⟨v, r, rfl, h1, h2⟩ := e
    simp only [List.cons_append, VRs]
    exact ⟨v, _, rfl, h1, VRs.append h2 e'⟩
theorem VRs.of_get : ∀ {xs : List V} {vs : List Value}, vs.length = xs.length → (∀ (i : Nat) x v, xs[i]? = some x → vs[i]? = some v → VR T φ N h x v) → VRs T φ N h xs vs
  | [], vs, hl, _ => by simp only [VRs]; exact List.length_eq_zero_iff.mp (by simpa using hl)
  | x :: xs, [], hl, _ => by simp at hl
  | x :: xs, v :: vs, hl, hg => by
    simp only [VRs]
    exact ⟨v, vs, rfl, hg 0 x v rfl rfl, VRs.of_get (by simpa using hl) fun i y w hy hw => hg (i + 1) y w (by simpa using hy) (by simpa using hw)⟩
theorem VRs.drop {xs : List V} {vs : List Value} (k : Nat) (e : VRs T φ N h xs vs) : VRs T φ N h (xs.drop k) (vs.drop k) :=
  .of_get (by simp [e.length]) fun i x v hx hv => by
    rw [List.getElem?_drop] at hx hv
    obtain ⟨w, hw, hr⟩ := e.get hx
    rw [hv] at hw; cases hw; exact hr
theorem VRs.take {xs : List V} {vs : List Value} (k : Nat) (e : VRs T φ N h xs vs) : VRs T φ N h (xs.take k) (vs.take k) :=
  .of_get (by simp [e.length]) fun i x v hx hv => by
    rw [List.getElem?_take] at hx hv
    split at hx
    · rename_i hk
      rw [if_pos hk] at hv
      obtain ⟨w, hw, hr⟩ := e.get hx
      rw [hv] at hw; cases hw; exact hr
    · cases hx
end

theorem isList_of {h : Heap} {a : Addr} {items : Array Value} {k : Nat} (e : h.get? a = some (listO items k)) : h.IsList a items := ⟨_, e, rfl, k, rfl⟩
theorem isTuple_of {h : Heap} {a : Addr} {items : Array Value} {k : Nat} (e : h.get? a = some (tupO items k)) : h.IsTuple a items := ⟨_, e, rfl, k, rfl⟩

theorem str_beq' (s s' : List Nat) : ((⟨s.toArray⟩ : Str) == ⟨s'.toArray⟩) = (s == s') := by
  rw [← str_beq]

section
variable {T : St} {φ : Phi} {N : Addr → Prop} {A : Around} {s : Shared}

end
end Mine
end
section
namespace Mine
open PySem PySem.SeqAt PyProof.Rows

section
variable {T : St} {φ : Phi} {η : H} {h : Heap}
theorem list_view (R : Rel T φ η h) {v : V} {x : Value} {xs : List V} (e : listOf η v = some xs) (r : VR T φ (own φ η) h v x) :
    ∃ a items k, x = .ref a ∧ h.get? a = some (listO items k) ∧ VRs T φ (own φ η) h xs items.toList := by
  unfold listOf at e
  split at e
  · cases e
    simp only [VR] at r
    obtain ⟨a, items, k, rfl, _, hg, hr⟩ := r
    exact ⟨a, items, k, rfl, hg, hr⟩
  · split at e
    · rename_i n _ ys hn
      cases e
      simp only [VR] at r
      obtain ⟨p, hp, rfl⟩ := r
      obtain ⟨_, items, k, hg, hr⟩ := R.obj n _ p hn hp
      exact ⟨p.1, items, k, rfl, hg, hr⟩
    · cases e
  · cases e
theorem deref_lst {v : V} {xs : List V} (e : deref η v = .lst xs) : listOf η v = some xs := by
  unfold deref at e
  split at e
  · split at e
    · rename_i n ys hn; cases e; simp [listOf, hn]
    · cases e
  · subst e; rfl
theorem deref_int {v : V} {i : Int} (e : deref η v = .int i) : v = .int i := by
  unfold deref at e
  split at e
  · split at e <;> cases e
  · exact e
theorem deref_str {v : V} {i : List Nat} (e : deref η v = .str i) : v = .str i := by
  unfold deref at e
  split at e
  · split at e <;> cases e
  · exact e
theorem deref_tup {v : V} {i : List V} (e : deref η v = .tup i) : v = .tup i := by
  unfold deref at e
  split at e
  · split at e <;> cases e
  · exact e
theorem fresh_size (R : Rel T φ η h) : ¬ own φ η h.objs.size := fun o => by
  obtain ⟨ob, e, _⟩ := R.there o
  exact Nat.lt_irrefl _ (Heap.lt_size e)
theorem push_keeps (o : Obj) : ∀ b ob, h.get? b = some ob → (h.push o).get? b = some ob := fun _ _ e => Heap.get?_push_of_some o e
end

section
variable {T : St} {A : Around} {L : Addr} {φ : Phi} {η : H} {s : Shared}

/-- a new list -/
theorem mk_list (mu : Bool) (R : Rel T φ η s.heap) {items : Array Value} {xs : List V} (hv : VRs T φ (own φ η) s.heap xs items.toList) (k : Nat) :
    ∃ v η' φ', mkList mu xs η = .ok v η' ∧ Post T φ η s φ' η' { s with heap := s.heap.push (listO items 0), toks := k } ∧ VR T φ' (own φ' η') (s.heap.push (listO items 0)) v (.ref s.heap.objs.size) := by
  have hg : (s.heap.push (listO items 0)).get? s.heap.objs.size = some (listO items 0) := Heap.get?_push_size _ rfl
  have st : Step φ η s.heap φ η (s.heap.push (listO items 0)) := .keeps (push_keeps _)
  cases mu with
  | false =>
    refine ⟨.lst xs, η, φ, rfl, .grown R (push_keeps _), ?_⟩
    simp only [VR]
    exact ⟨_, items, 0, rfl, fresh_size R, hg, VRs.step st _ _ hv⟩
  | true =>
    have none : s.heap.get? s.heap.objs.size = none := Heap.get?_none_of_le (Nat.le_refl _)
    have x := R.add (m := .list xs) (p := (s.heap.objs.size, s.heap.objs.size)) (push_keeps (listO items 0)) none none R.high R.high
      (fun st => ⟨rfl, items, 0, hg, VRs.step st _ _ hv⟩)
    refine ⟨.ref η.length, _, _, rfl, .mk' x, ?_⟩
    simp only [VR]
    exact ⟨(s.heap.objs.size, s.heap.objs.size), by rw [← R.len, List.getElem?_append_right (Nat.le_refl _)]; simp, rfl⟩
theorem mk_tup (R : Rel T φ η s.heap) {items : Array Value} {xs : List V} (hv : VRs T φ (own φ η) s.heap xs items.toList) (k : Nat) :
    Post T φ η s φ η { s with heap := s.heap.push (tupO items 0), toks := k } ∧ VR T φ (own φ η) (s.heap.push (tupO items 0)) (.tup xs) (.ref s.heap.objs.size) := by
  have hg : (s.heap.push (tupO items 0)).get? s.heap.objs.size = some (tupO items 0) := Heap.get?_push_size _ rfl
  have st : Step φ η s.heap φ η (s.heap.push (tupO items 0)) := .keeps (push_keeps _)
  refine ⟨.grown R (push_keeps _), ?_⟩
  simp only [VR]
  exact ⟨_, items, 0, rfl, fresh_size R, hg, VRs.step st _ _ hv⟩
/-- the frozen reading of it -/
theorem mk_lst (R : Rel T φ η s.heap) {items : Array Value} {xs : List V} (hv : VRs T φ (own φ η) s.heap xs items.toList) (k : Nat) :
    Post T φ η s φ η { s with heap := s.heap.push (listO items 0), toks := k } ∧ VR T φ (own φ η) (s.heap.push (listO items 0)) (.lst xs) (.ref s.heap.objs.size) := by
  obtain ⟨v, η', φ', e, p, r⟩ := mk_list false R hv k
  simp only [mkList, Bool.false_eq_true, if_false] at e
  cases e
  have hg : (s.heap.push (listO items 0)).get? s.heap.objs.size = some (listO items 0) := Heap.get?_push_size _ rfl
  have st : Step φ η s.heap φ η (s.heap.push (listO items 0)) := .keeps (push_keeps _)
  refine ⟨.grown R (push_keeps _), ?_⟩
  simp only [VR]
  exact ⟨_, items, 0, rfl, fresh_size R, hg, VRs.step st _ _ hv⟩

def opOf : Op → Operator
  | .add => .Add | .sub => .Sub | .mul => .Mult | .div => .FloorDiv | .mod => .Mod

theorem len_items {xs : List V} {items : Array Value} {N : Addr → Prop} {hh : Heap} (r : VRs T φ N hh xs items.toList) : items.size = xs.length := by have := r.length; simpa using this

theorem ok_int {i : Int} (h : okInt i = true) : -(2 ^ 63) ≤ i ∧ i < 2 ^ 63 := by
  unfold okInt at h
  simp only [Bool.and_eq_true, decide_eq_true_eq] at h
  exact h

theorem bits64 {i : Int} (h : okInt i = true) : Builtin.Int.intBits i ≤ 64 := by
  have hi := ok_int h
  unfold Builtin.Int.intBits
  split
  · omega
  · rename_i h0
    have hne : i.natAbs ≠ 0 := fun q => h0 (by simp; omega)
    have : i.natAbs.log2 < 64 := (Nat.log2_lt hne).mpr (by omega)
    omega

theorem str_len (a : List Nat) : (⟨a.toArray⟩ : Str).length = a.length := by simp [Str.length]
theorem line_le {n : Nat} (h : n ≤ 100000) : n ≤ sizeLine := Nat.le_trans h (by decide)

theorem sim_bin (op : Op) {a b : V} {x y : Value} (R : Rel T φ η s.heap) (ha : QV T φ η s.heap a x) (hb : QV T φ η s.heap b y) : Sim T A L φ η s (binaryOp (opOf op) x y) (binV op η a b) (QV T) := by
  unfold binV
  split
  case h_1 e1 e2 =>
    have := deref_int e1; have := deref_int e2; subst_vars
    simp only [QV, VR] at ha hb
    obtain ⟨t, rfl⟩ := ha; obtain ⟨u, rfl⟩ := hb
    exact .ok rfl (wpAny_add_int ⟨φ, .toks R, by simp only [QV, VR]; exact ⟨_, rfl⟩⟩)
  case h_2 e1 e2 =>
    obtain ⟨p, i1, k1, rfl, g1, r1⟩ := list_view R (deref_lst e1) ha
    obtain ⟨q, i2, k2, rfl, g2, r2⟩ := list_view R (deref_lst e2) hb
    split
    · rename_i hsz
      have hv := mk_lst R (items := i1 ++ i2) (by simpa using r1.append r2) s.toks
      exact .ok rfl (P.add_list g1 g2 ⟨φ, hv.1, hv.2⟩ (by rw [len_items r1, len_items r2]; exact line_le hsz))
    · exact .fail
  case h_3 xs ys e1 e2 =>
    have := deref_tup e1; have := deref_tup e2; subst_vars
    simp only [QV, VR] at ha hb
    obtain ⟨p, i1, k1, rfl, n1, g1, r1⟩ := ha; obtain ⟨q, i2, k2, rfl, n2, g2, r2⟩ := hb
    split
    · rename_i hsz
      have hsz' : i1.size + i2.size ≤ sizeLine := by rw [len_items r1, len_items r2]; exact line_le hsz
      by_cases h1 : i1.isEmpty = true
      · have hx : xs = [] := by
          have := len_items r1
          have h0 : i1 = #[] := by simpa using h1
          rw [h0] at this
          exact List.length_eq_zero_iff.mp (by simpa using this.symm)
        subst hx
        refine .ok rfl (concat_meets ⟨_, g1, rfl⟩ ⟨_, g2, rfl⟩ noFill_tuple_add seq_tuple_add F.slot_tuple_add F.entry_tuple_add (F.args_tuple_add_2 _ _) (AutoSeq1.tuple___add___tuple_tuple_0 p i1 k1 q i2 k2 h1) ⟨g1, g2, ⟨φ, .toks R, ?_⟩⟩)
        simp only [QV, VR, List.nil_append]; exact ⟨q, i2, k2, rfl, n2, g2, r2⟩
      · by_cases h2 : i2.isEmpty = true
        · have hx : ys = [] := by
            have := len_items r2
            have h0 : i2 = #[] := by simpa using h2
            rw [h0] at this
            exact List.length_eq_zero_iff.mp (by simpa using this.symm)
          subst hx
          refine .ok rfl (concat_meets ⟨_, g1, rfl⟩ ⟨_, g2, rfl⟩ noFill_tuple_add seq_tuple_add F.slot_tuple_add F.entry_tuple_add (F.args_tuple_add_2 _ _) (AutoSeq1.tuple___add___tuple_tuple_1 p i1 k1 q i2 k2 h1 h2) ⟨g1, g2, ⟨φ, .toks R, ?_⟩⟩)
          simp only [QV, VR, List.append_nil]; exact ⟨p, i1, k1, rfl, n1, g1, r1⟩
        · have hv := mk_tup R (items := i1 ++ i2) (by simpa using r1.append r2) s.toks
          exact .ok rfl (P.add_tuple g1 g2 h1 h2 ⟨φ, hv.1, hv.2⟩ hsz')
    · exact .fail
  case h_4 e1 e2 =>
    have := deref_int e1; have := deref_int e2; subst_vars
    simp only [QV, VR] at ha hb
    obtain ⟨t, rfl⟩ := ha; obtain ⟨u, rfl⟩ := hb
    exact .ok rfl (sub_int' ⟨φ, .toks R, by simp only [QV, VR]; exact ⟨_, rfl⟩⟩)
  case h_5 e1 e2 =>
    have := deref_int e1; have := deref_int e2; subst_vars
    simp only [QV, VR] at ha hb
    obtain ⟨t, rfl⟩ := ha; obtain ⟨u, rfl⟩ := hb
    split
    · rename_i hm
      refine .ok rfl (mul_int ⟨φ, .toks R, by simp only [QV, VR]; exact ⟨_, rfl⟩⟩ ?_)
      rcases Bool.or_eq_true_iff.mp hm with q | q
      · exact .of_left (bits64 q)
      · exact .of_right (bits64 q)
    · exact .fail
  case h_6 e1 e2 =>
    have := deref_int e1; have := deref_int e2; subst_vars
    simp only [QV, VR] at ha hb
    obtain ⟨t, rfl⟩ := ha; obtain ⟨u, rfl⟩ := hb
    split
    · rename_i hd
      exact .ok rfl (floordiv_int hd.1 ⟨φ, .toks R, by simp only [QV, VR]; exact ⟨_, rfl⟩⟩ (.inl (PyProof.noPylong_small hd.2)))
    · exact .fail
  case h_7 e1 e2 =>
    have := deref_int e1; have := deref_int e2; subst_vars
    simp only [QV, VR] at ha hb
    obtain ⟨t, rfl⟩ := ha; obtain ⟨u, rfl⟩ := hb
    split
    · rename_i hd
      exact .ok rfl (mod_int' hd ⟨φ, .toks R, by simp only [QV, VR]; exact ⟨_, rfl⟩⟩)
    · exact .fail
  case h_8 => exact .fail
end
end Mine
end
section
namespace Mine
open PySem PySem.SeqAt PyProof.Rows

section
variable {T : St} {φ : Phi} {N : Addr → Prop} {h : Heap}
end

section
variable {T : St} {A : Around} {L : Addr} {φ : Phi} {η : H} {s : Shared}

def copOf : COp → CmpOp
  | .eq => .Eq | .ne => .NotEq | .lt => .Lt | .le => .LtE | .gt => .Gt | .ge => .GtE | .isIn => .In | .notIn => .NotIn | .is => .Is | .isNot => .IsNot

theorem cmp_ok {t : Sem Value} {o : Option Bool} (h : ∀ b, o = some b → ∀ Q : Value → Shared → Prop, (∀ k, Q (.bool b) { s with toks := k }) → wpAny T.M A t Q (fun _ _ => False) s) (R : Rel T φ η s.heap) :
    Sim T A L φ η s t (match o with | some b => .ok (.bool b) η | none => .fail) (QV T) := by
  cases o with
  | none => exact .fail
  | some b => exact .ok rfl (h b rfl _ fun k => ⟨φ, .toks R, by simp only [QV, VR]⟩)

theorem mem_cmp {a b : V} {x y : Value} (ha : QV T φ η s.heap a x) (hb : QV T φ η s.heap b y) {r : Bool} (e : memV η a b = some r) (Q : Value → Shared → Prop) (hQ : ∀ k, Q (.bool (!r)) { s with toks := k }) :
    wpAny T.M A (compareOp .NotIn x y) Q (fun _ _ => False) s := by
  unfold memV at e
  split at e
  · simp only [QV, VR] at ha hb
    obtain ⟨t, rfl⟩ := ha; obtain ⟨u, rfl⟩ := hb
    cases e
    rename_i c sg
    have f : Txt.contains ⟨sg.toArray⟩ ⟨[c].toArray⟩ = sg.contains c := by
      show (!(Builtin.Str.occurrences ⟨sg.toArray⟩ ⟨#[c]⟩ 0 _ 1).isEmpty) = _
      rw [StrLaws.found_one]; simp
    rw [← f] at hQ
    exact SB.notContains (hQ s.toks)
  · cases e

theorem sim_cmp (op : COp) {a b : V} {x y : Value} (R : Rel T φ η s.heap) (ha : QV T φ η s.heap a x) (hb : QV T φ η s.heap b y) (_hu : A.units + 7 < cLine) :
    Sim T A L φ η s (compareOp (copOf op) x y) (match cmpV op η a b with | some b => .ok (.bool b) η | none => .fail) (QV T) := by
  refine cmp_ok (fun r e Q hQ => ?_) R
  have q0 := hQ s.toks
  unfold cmpV at e
  split at e
  · simp only [QV, VR] at ha hb
    obtain ⟨t, rfl⟩ := ha; obtain ⟨u, rfl⟩ := hb
    cases e
    exact (RcAt.int_int _ t _ u) T.prog T.w _ Q q0
  · simp only [QV, VR] at ha hb
    obtain ⟨t, rfl⟩ := ha; obtain ⟨u, rfl⟩ := hb
    cases e
    rw [← str_beq'] at q0
    exact (RcAt.str_str _ t _ u) T.prog T.w _ Q q0
  · simp only [QV, VR] at ha hb
    obtain ⟨t, rfl⟩ := ha; obtain ⟨u, rfl⟩ := hb
    cases e
    exact (RcNeAt.int_int _ t _ u) T.prog T.w _ Q q0
  · simp only [QV, VR] at ha hb
    obtain ⟨t, rfl⟩ := ha; obtain ⟨u, rfl⟩ := hb
    cases e
    rw [← str_beq'] at q0
    exact (RcNeAt.str_str _ t _ u) T.prog T.w _ Q q0
  · simp only [QV, VR] at ha hb
    obtain ⟨t, rfl⟩ := ha; obtain ⟨u, rfl⟩ := hb
    cases e
    exact wpAny_lt_int q0
  · simp only [QV, VR] at ha hb
    obtain ⟨t, rfl⟩ := ha; obtain ⟨u, rfl⟩ := hb
    cases e
    exact PyProof.Rows.le_int q0
  · simp only [Option.map_eq_some_iff] at e
    obtain ⟨r', e', rfl⟩ := e
    exact mem_cmp ha hb e' Q hQ
  · cases e

end
end Mine
end
section
namespace Mine
open PySem PySem.SeqAt PyProof.Rows

section
variable {T : St} {A : Around} {L : Addr} {φ : Phi} {η : H} {s : Shared}

theorem ok_idx {k : Int} (h : okIdx k = true) : 0 ≤ k ∧ k < 1000000 := by
  unfold okIdx at h; simpa using h
theorem seqIndex_of {k : Int} {n : Nat} (h0 : 0 ≤ k) (hk : k.toNat < n) : seqIndex? k n = some k.toNat := by
  unfold seqIndex?
  obtain ⟨j, rfl⟩ := Int.eq_ofNat_of_zero_le h0
  simp at hk ⊢
  omega

/-- an item -/
theorem sim_tail {value slice : Expr} (hs : ∀ o i, subscripted slice false o i = operate [o, i] (PySem.getItem o i)) {a b : V} {x y : Value} (R : Rel T φ η s.heap) (ha : QV T φ η s.heap a x) (hb : QV T φ η s.heap b y) :
    Sim T A L φ η s (subscriptTail value slice x y) (match getItem η a b with | some v => .ok v η | none => .fail) (QV T) := by
  cases e : getItem η a b with
  | none => exact .fail
  | some v =>
    refine .ok rfl ?_
    unfold getItem at e
    have lst : ∀ (xs : List V) (p : Addr) (items : Array Value) (n : Nat) (k : Int) (u : Tok), y = .int k u → x = .ref p → s.heap.get? p = some (listO items n) → VRs T φ (own φ η) s.heap xs items.toList → okIdx k = true → xs[k.toNat]? = some v →
        wpAny T.M A (subscriptTail value slice x y) (fun x s' => ∃ φ', Post T φ η s φ' η s' ∧ QV T φ' η s'.heap v x) (fun _ _ => False) s := by
      rintro xs p items n k u rfl rfl g r hk hx
      have hi := ok_idx hk
      obtain ⟨w, hw, rw⟩ := r.get hx
      exact tail_any ⟨_, g, rfl⟩ F.slot_list_getitem.lookup (wpAny_getItem_list (isList_of g) hi.1 (by omega) (by simpa using hw) ⟨φ, .refl R, rw⟩) (hs _ _)
    split at e
    · rename_i k
      simp only [QV, VR] at hb
      obtain ⟨u, rfl⟩ := hb
      split at e
      · split at e
        · rename_i sg hk
          simp only [QV, VR] at ha
          obtain ⟨t, rfl⟩ := ha
          have hi := ok_idx hk
          unfold charOf at e
          rw [Option.map_eq_some_iff] at e
          obtain ⟨c, hc, rfl⟩ := e
          have hlt : k.toNat < sg.length := (List.getElem?_eq_some_iff.mp hc).1
          have hch : Txt.charAt ⟨sg.toArray⟩ k = some c := by
            unfold Txt.charAt
            rw [seqIndex_of hi.1 (by rw [str_len]; exact hlt)]
            simpa using hc
          refine tail_any (typeIs_str s _ _) F.slot_str_getitem.lookup (SB.getItem ?_ (by rw [hch]; rfl) ⟨φ, .toks R, ?_⟩) (hs _ _)
          · unfold fitsSsize
            simp only [Bool.not_eq_true', Bool.or_eq_false_iff, decide_eq_false_iff_not]
            omega
          · simp only [QV, VR]
            exact ⟨s.toks, by unfold Txt.item; rw [hch]; rfl⟩
        · cases e
      · rename_i n
        simp only [QV, VR] at ha
        obtain ⟨p, hp, rfl⟩ := ha
        split at e
        · rename_i xs hn
          split at e
          · rename_i hk
            obtain ⟨_, items, k', hg, hr⟩ := R.obj n _ p hn hp
            exact lst xs p.1 items k' k u rfl rfl hg hr hk e
          · cases e
        · cases e
      · split at e
        · rename_i xs hk
          simp only [QV, VR] at ha
          obtain ⟨p, items, n, rfl, _, g, r⟩ := ha
          exact lst xs p items n k u rfl rfl g r hk e
        · cases e
      · split at e
        · rename_i xs hk
          simp only [QV, VR] at ha
          obtain ⟨p, items, n, rfl, _, g, r⟩ := ha
          have hi := ok_idx hk
          obtain ⟨w, hw, rw⟩ := r.get e
          have hlt : k.toNat < items.size := by have := (List.getElem?_eq_some_iff.mp hw).1; simpa using this
          exact tail_any ⟨_, g, rfl⟩ F.slot_tuple_getitem.lookup (P.getItem_tuple g (by omega) (by omega) (seqIndex_of hi.1 hlt) (by simpa using hw) ⟨φ, .refl R, rw⟩) (hs _ _)
        · cases e
      · cases e
    · cases e

theorem clip_bound {n d k : Nat} {v : V} {x : Value} {N : Addr → Prop} {h : Heap} (e : bound n d v = some k) (r : VR T φ N h v x) : ∃ lo : Option (Int × Tok), x = partValue lo ∧ (lo.map (·.1)).elim d (clipAt n) = k := by
  unfold bound at e
  split at e
  · cases e
    simp only [VR] at r; subst r
    exact ⟨none, rfl, rfl⟩
  · rename_i i
    cases e
    simp only [VR] at r
    obtain ⟨t, rfl⟩ := r
    refine ⟨some (i, t), rfl, ?_⟩
    show clipAt n i = _
    have := clipAt_cast n i
    split
    · rename_i hi
      rw [if_pos hi] at this
      omega
    · rename_i hi
      rw [if_neg hi] at this
      omega
  · cases e
theorem isPart_of (lo : Option (Int × Tok)) : IsPart (partValue lo) (lo.map (·.1)) := by
  cases lo with
  | none => exact .none
  | some p => obtain ⟨i, t⟩ := p; exact .int i t

/-- a slice: the object is there -/
theorem sim_slice (mu : Bool) {value : Expr} {l u : Option Expr} {pp pos : Pos} {a lo hi : V} {x y z : Value} (R : Rel T φ η s.heap) (ha : QV T φ η s.heap a x) (hl : QV T φ η s.heap lo y) (hh : QV T φ η s.heap hi z) :
    Sim T A L φ η s (do let i ← newFields "slice" [y, z, .none]; standAt pos; subscriptTail value (.Slice l u none pp) x i) (sliceV mu η a lo hi) (QV T) := by
  have hs : ∀ o i, subscripted (.Slice l u none pp) false o i = operate [i, o] (PySem.getItem o i) := fun _ _ => rfl
  by_cases hf : sliceV mu η a lo hi = .fail
  · exact .inl hf
  refine .inr (wpAny_bind (wpAny_newObj_type (wpAny_bind (wpAny_standAt ?_))))
  have R' := R.keeps (push_keeps (h := s.heap) { cls := .type "slice", data := .fields #[y, z, .none] })
  have st : Step φ η s.heap φ η (s.heap.push { cls := .type "slice", data := .fields #[y, z, .none] }) := .keeps (push_keeps _)
  have P0 : Post T φ η s φ η { s with heap := s.heap.push { cls := .type "slice", data := .fields #[y, z, .none] } } := ⟨st, R', rfl, rfl, rfl⟩
  have lst : ∀ (xs : List V), listOf η a = some xs → (match bound xs.length 0 lo, bound xs.length xs.length hi with
      | some a, some b => if xs.length ≤ 100000 then mkList mu (sliceL xs a b) η else .fail
      | _, _ => .fail) = sliceV mu η a lo hi →
      wpAny T.M A (subscriptTail value (.Slice l u none pp) x (.ref s.heap.objs.size)) (fun x s' => ∃ v η' φ', sliceV mu η a lo hi = .ok v η' ∧ Post T φ η s φ' η' s' ∧ QV T φ' η' s'.heap v x)
        (fun e s' => ∃ c η' φ', sliceV mu η a lo hi = .exc c η' ∧ Post T φ η s φ' η' s' ∧ XR T s'.heap e c L) { s with heap := s.heap.push { cls := .type "slice", data := .fields #[y, z, .none] } } := by
    intro xs e hv
    rw [← hv] at hf
    rw [← hv]
    split at hf
    · rename_i p q e1 e2
      rw [if_pos (by
        by_cases hsz : xs.length ≤ 100000
        · exact hsz
        · rw [if_neg hsz] at hf; exact absurd rfl hf)]
      have hsz : xs.length ≤ 100000 := by
        by_cases hsz : xs.length ≤ 100000
        · exact hsz
        · rw [if_neg hsz] at hf; exact absurd rfl hf
      obtain ⟨ad, items, k, rfl, g, r⟩ := list_view R' e (VR.step st _ _ ha)
      obtain ⟨o1, rfl, c1⟩ := clip_bound e1 hl
      obtain ⟨o2, rfl, c2⟩ := clip_bound e2 hh
      have hlen := len_items r
      have pk : (slicePick items (o1.map (·.1)) (o2.map (·.1)) none).toList = sliceL items.toList p q := by
        rw [slicePick_plain]
        rw [hlen, c1, c2]
        simp [sliceL]
      have rv : VRs T φ (own φ η) (s.heap.push { cls := .type "slice", data := .fields #[partValue o1, partValue o2, .none] }) (sliceL xs p q) (slicePick items (o1.map (·.1)) (o2.map (·.1)) none).toList := by
        rw [pk]; exact (r.drop p).take (q - p)
      obtain ⟨v, η', φ', em, pm, vm⟩ := mk_list (s := { s with heap := s.heap.push { cls := .type "slice", data := .fields #[partValue o1, partValue o2, .none] } }) mu R' rv s.toks
      refine tail_any ⟨_, g, rfl⟩ F.slot_list_getitem.lookup (wpAny_getItem_list_slice (isList_of g) (Heap.IsSliceOf.new ..) (isPart_of o1) (isPart_of o2) .none (by simp) ⟨v, η', φ', em, P0.trans pm, vm⟩ (by rw [hlen]; exact line_le hsz)) (hs _ _)
    · exact absurd rfl hf
  unfold sliceV at hf
  split at hf
  · rename_i xs
    simp only [sliceV]
    simp only [QV, VR] at ha
    obtain ⟨ad, items, k, rfl, nn, g, r⟩ := ha
    split at hf
    · rename_i i
      split at hf
      · rename_i hi
        rw [if_pos hi]
        simp only [QV, VR] at hl hh
        obtain ⟨t, rfl⟩ := hl
        subst hh
        have hlen := len_items r
        obtain ⟨j, rfl⟩ := Int.eq_ofNat_of_zero_le (show 0 ≤ i by omega)
        have g' := push_keeps { cls := .type "slice", data := .fields #[.int (j : Int) t, .none, .none] } _ _ g
        have rd : VRs T φ (own φ η) (s.heap.push { cls := .type "slice", data := .fields #[.int (j : Int) t, .none, .none] }) (xs.drop j) (items.toList.drop j).toArray.toList := by
          simpa using (VRs.step st _ _ r).drop j
        have hv := mk_tup (s := { s with heap := s.heap.push { cls := .type "slice", data := .fields #[.int (j : Int) t, .none, .none] } }) R' rd s.toks
        refine tail_any ⟨_, g', rfl⟩ F.slot_tuple_getitem.lookup (getItem_tuple_from (isTuple_of g') (Heap.IsSliceOf.new ..) (by omega) (by rw [hlen]; simpa using hi.2.1) ⟨.tup (xs.drop j), η, φ, by simp, P0.trans hv.1, hv.2⟩ (by rw [hlen]; exact line_le hi.2.2)) (hs _ _)
      · exact absurd rfl hf
    · exact absurd rfl hf
  · split at hf
    · rename_i xs e
      refine lst xs e ?_
      cases a <;> first | (simp [listOf] at e; done) | (simp only [sliceV, e]; done) | (simp only [sliceV, e]; rfl)
    · exact absurd rfl hf
end
end Mine
end
section
namespace Mine
open PySem PySem.SeqAt PyProof.Rows

abbrev NPost (T : St) (φ : Phi) (η : H) (s : Shared) {α β : Type} (r : R β) (Q : QR α β) : α → Shared → Prop := fun x s' => ∃ v η' φ', r = .ok v η' ∧ Post T φ η s φ' η' s' ∧ Q φ' η' s'.heap v x
abbrev NExc (T : St) (L : Addr) (φ : Phi) (η : H) (s : Shared) {β : Type} (r : R β) : Value → Shared → Prop := fun e s' => ∃ c η' φ', r = .exc c η' ∧ Post T φ η s φ' η' s' ∧ XR T s'.heap e c L

section
variable {T : St} {A : Around} {L : Addr} {φ : Phi} {η : H} {s : Shared} {α β γ δ : Type}

/-- the two in one another -/
theorem Sim.nest {t : Sem α} {k : α → Sem γ} {r : R β} {g : β → H → R δ} {Q₁ : QR α β} {Q₂ : QR γ δ} (h1 : Sim T A L φ η s t r Q₁)
    (h2 : ∀ v η' φ' x s', r = .ok v η' → Post T φ η s φ' η' s' → Q₁ φ' η' s'.heap v x → Sim T A L φ' η' s' (k x) (g v η') Q₂) :
    r.bind g = .fail ∨ wpAny T.M A t (fun x s' => (∃ v η' φ', r = .ok v η' ∧ Post T φ η s φ' η' s' ∧ Q₁ φ' η' s'.heap v x) ∧ wpAny T.M A (k x) (NPost T φ η s (r.bind g) Q₂) (NExc T L φ η s (r.bind g)) s') (NExc T L φ η s (r.bind g)) s := by
  rcases h1 with h1 | h1
  · left; rw [h1]; rfl
  · cases r with
    | fail => left; rfl
    | exc c h =>
      right
      refine wpAny_mono h1 (fun x s' ⟨v, η', φ', e, _⟩ => by cases e) fun e s' ⟨c', η', φ', he, hp, hx⟩ => ?_
      cases he
      exact ⟨c, h, φ', rfl, hp, hx⟩
    | ok v₀ η₀ =>
      by_cases hf : g v₀ η₀ = .fail
      · left; exact hf
      · right
        refine wpAny_mono h1 (fun x s' ⟨v, η', φ', e, hp, hq⟩ => ?_) fun e s' ⟨c', η', φ', he, _⟩ => by cases he
        cases e
        refine ⟨⟨v₀, η₀, φ', rfl, hp, hq⟩, ?_⟩
        rcases h2 v₀ η₀ φ' x s' rfl hp hq with h3 | h3
        · exact absurd h3 hf
        · refine wpAny_mono h3 (fun y s'' ⟨v', η'', φ'', e', hp', hq'⟩ => ⟨v', η'', φ'', e', hp.trans hp', hq'⟩) fun e s'' ⟨c', η'', φ'', he, hp', hx⟩ => ⟨c', η'', φ'', he, hp.trans hp', hx⟩

/-- a new list, wherever it lies -/
theorem mk_listG (mu : Bool) (R : Rel T φ η s.heap) {h' : Heap} {a : Addr} {c : Nat} {items : Array Value} {xs : List V} (hv : VRs T φ (own φ η) s.heap xs items.toList) (hk : ∀ b o, s.heap.get? b = some o → h'.get? b = some o)
    (ha : s.heap.objs.size ≤ a) (hg : h'.get? a = some (listO items c)) (k : Nat) :
    ∃ v η' φ', mkList mu xs η = .ok v η' ∧ Post T φ η s φ' η' { s with heap := h', toks := k } ∧ VR T φ' (own φ' η') h' v (.ref a) := by
  have st : Step φ η s.heap φ η h' := .keeps hk
  have none : s.heap.get? a = Option.none := Heap.get?_none_of_le ha
  cases mu with
  | false =>
    refine ⟨.lst xs, η, φ, rfl, .grown R hk, ?_⟩
    simp only [VR]
    have no : ¬ own φ η a := fun o => by obtain ⟨ob, e, _⟩ := R.there o; rw [none] at e; cases e
    exact ⟨_, items, c, rfl, no, hg, VRs.step st _ _ hv⟩
  | true =>
    have x := R.add (m := .list xs) (p := (a, a)) hk none none (Nat.lt_of_lt_of_le R.high ha) (Nat.lt_of_lt_of_le R.high ha)
      (fun st => ⟨rfl, items, c, hg, VRs.step st _ _ hv⟩)
    refine ⟨.ref η.length, _, _, rfl, .mk' x, ?_⟩
    simp only [VR]
    exact ⟨(a, a), by rw [← R.len, List.getElem?_append_right (Nat.le_refl _)]; simp, rfl⟩

/-- a list turns -/
theorem upd_list (R : Rel T φ η s.heap) {n : Nat} {xs xs' : List V} {p : Addr × Addr} {items : Array Value} {k : Nat} (hn : η[n]? = some (.list xs)) (hp : φ[n]? = some p) (g : s.heap.get? p.1 = some (listO items k)) (f : Array Value → Array Value)
    (hv : VRs T φ (own φ η) s.heap xs' (f items).toList) (t : Nat) : Post T φ η s φ (η.set n (.list xs')) { s with heap := s.heap.update p.1 (Obj.mapSeq f), toks := t } := by
  have e2 : p.2 = p.1 := (R.obj n _ p hn hp).1
  have hg : (s.heap.update p.1 (Obj.mapSeq f)).get? p.1 = some (Obj.mapSeq f (listO items k)) := Heap.get?_update_self _ g rfl
  obtain ⟨k', hk'⟩ : ∃ k', Obj.mapSeq f (listO items k) = listO (f items) k' := ⟨_, rfl⟩
  rw [hk'] at hg
  refine .mk' (R.set hn hp (by simp) (by simp) (fun b o h1 _ e => (Heap.get?_update_other _ _ (Ne.symm h1)).trans e) (by rw [hg]; rfl) (by rw [e2, hg]; rfl) fun st => ?_)
  exact ⟨e2, _, k', hg, VRs.step st _ _ hv⟩

end
end Mine
end
section
namespace Mine
open PySem PyProof.Rows

section
variable {T : St} {A : Around} {L : Addr} {φ : Phi} {η : H} {s : Shared}
def RN (_T : St) (_h : Heap) (_e : Addr) (_c : Nat) (_fl : Value) : Prop := False
theorem note {top env : Env} {outer : List Env} {e : Addr} {c : Nat} {E : Value → Shared → Prop}
    (_ : A.frames = some (top :: outer)) (_ : top.frame = some L) (_ : Stk T φ η (top :: outer) s.heap) (_ : env.frame = some L) (_ : Rel T φ η s.heap) (x : RZ T s.heap e c L) :
    wpAny T.M A (noteFrame (.ref e) env) (fun _ s' => Post T φ η s φ η s' ∧ RN T s'.heap e c (rawInt L)) E s := x.elim
theorem came_back {env : Env} {e : Addr} {c : Nat} {fl : Value} {E : Value → Shared → Prop} (_ : env.frame = some L) (_ : Rel T φ η s.heap) (x : RN T s.heap e c fl)
    (_ : ∀ s', Post T φ η s φ η s' → RZ T s'.heap e c L → E (.ref e) s') : cameBackBy T.M A env E (.ref e) s := x.elim
theorem passes {α : Type} {what : String} {env : Env} {e : Addr} {c : Nat} {fl : Value} {Q : α → Shared → Prop} {E : Value → Shared → Prop} (_ : env.frame = some L) (_ : Rel T φ η s.heap) (x : RN T s.heap e c fl)
    (_ : ∀ s', Post T φ η s φ η s' → RZ T s'.heap e c L → E (.ref e) s') : wpAny T.M A (PySem.passOn what (.ref e) env : Sem α) Q E s := x.elim
theorem leaves {top env : Env} {outer : List Env} {e : Addr} {c : Nat} {E : Value → Shared → Prop} {Q : Unit → Shared → Prop}
    (_ : A.frames = some (top :: outer)) (_ : top.frame = some L) (_ : Stk T φ η (top :: outer) s.heap) (_ : env.frame = some L) (_ : Rel T φ η s.heap) (x : RZ T s.heap e c L)
    (_ : ∀ s', Post T φ η s φ η s' → (∀ L', RZ T s'.heap e c L') → Q () s') : wpAny T.M A (leaving env (.ref e)) Q E s := x.elim
end
end Mine
end
section
namespace Mine
open PySem

section
variable {T : St} {A : Around} {L : Addr} {φ φ' : Phi} {η η' : H} {s s' : Shared} {h h' : Heap}

mutual
theorem VR.under {N : Addr → Prop} : ∀ (v : V) (x : Value), VR T φ N h v x → v.refUnder φ.length = true
  | .none, _, _ => rfl
  | .bool _, _, _ => rfl
  | .int _, _, _ => rfl
  | .str _, _, _ => rfl
  | .tup xs, x, e => by
    simp only [VR] at e
    obtain ⟨a, items, n, rfl, _, _, hr⟩ := e
    rw [V.refUnder]; exact VRs.under xs _ hr
  | .lst xs, x, e => by
    simp only [VR] at e
    obtain ⟨a, items, n, rfl, _, _, hr⟩ := e
    rw [V.refUnder]; exact VRs.under xs _ hr
  | .ref n, x, e => by
    simp only [VR] at e
    obtain ⟨p, hp, _⟩ := e
    rw [V.refUnder]; exact decide_eq_true (List.getElem?_eq_some_iff.mp hp).1
theorem VRs.under {N : Addr → Prop} : ∀ (v : List V) (x : List Value), VRs T φ N h v x → V.refsUnder φ.length v = true
  | [], _, _ => rfl
  | y :: ys, x, e => by
    simp only [VRs] at e
    obtain ⟨v, r, rfl, h1, h2⟩ := e
    rw [V.refsUnder, VR.under y v h1, VRs.under ys r h2]; rfl
end

mutual
theorem VR.cut {N N' : Addr → Prop} (x : φ <+: φ') (hN : ∀ b, N b → N' b) : ∀ (v : V) (y : Value), VR T φ' N' h v y → v.refUnder φ.length = true → VR T φ N h v y
  | .none, _, e, _ => e
  | .bool _, _, e, _ => e
  | .int _, _, e, _ => e
  | .str _, _, e, _ => e
  | .tup xs, y, e, u => by
    simp only [VR] at e ⊢
    obtain ⟨a, items, n, rfl, h1, h2, hr⟩ := e
    rw [V.refUnder] at u
    exact ⟨a, items, n, rfl, fun q => h1 (hN _ q), h2, VRs.cut x hN xs _ hr u⟩
  | .lst xs, y, e, u => by
    simp only [VR] at e ⊢
    obtain ⟨a, items, n, rfl, h1, h2, hr⟩ := e
    rw [V.refUnder] at u
    exact ⟨a, items, n, rfl, fun q => h1 (hN _ q), h2, VRs.cut x hN xs _ hr u⟩
  | .ref n, y, e, u => by
    simp only [VR] at e ⊢
    obtain ⟨p, hp, rfl⟩ := e
    rw [V.refUnder] at u
    have hn := of_decide_eq_true u
    refine ⟨p, ?_, rfl⟩
    have h1 : φ[n]? = some φ[n] := List.getElem?_eq_getElem hn
    have h2 := get_prefix x h1
    rw [h2] at hp; rw [h1]; exact hp
theorem VRs.cut {N N' : Addr → Prop} (x : φ <+: φ') (hN : ∀ b, N b → N' b) : ∀ (v : List V) (y : List Value), VRs T φ' N' h v y → V.refsUnder φ.length v = true → VRs T φ N h v y
  | [], _, e, _ => e
  | v :: vs, y, e, u => by
    simp only [VRs] at e ⊢
    obtain ⟨w, r, rfl, h1, h2⟩ := e
    rw [V.refsUnder, Bool.and_eq_true] at u
    exact ⟨w, r, rfl, VR.cut x hN v w h1 u.1, VRs.cut x hN vs r h2 u.2⟩
end
theorem own_cut (x : φ <+: φ') (e : η'.take η.length = η) {b : Addr} (o : own φ η b) : own φ' η' b := by
  obtain ⟨n, p, m, hp, hm, hg, hb⟩ := o
  refine ⟨n, p, m, get_prefix x hp, ?_, hg, hb⟩
  rw [← e, List.getElem?_take] at hm
  split at hm
  · exact hm
  · cases hm

/-- what a function or a comprehension has made for itself is let go -/
theorem Post.cut (P : Post T φ η s φ' η' s') (R : Rel T φ η s.heap) (e : η'.take η.length = η) : Post T φ η s φ η s' := by
  have hN : ∀ b, own φ η b → own φ' η' b := fun b => own_cut P.step.ext e
  refine ⟨⟨List.prefix_refl _, P.step.keep, fun _ o => .inl o, P.step.alive⟩, ⟨R.len, P.rel.base, fun n m p hm hp => ?_, R.fresh, R.disj⟩, P.gens, P.os, P.drawn⟩
  have hm' : η'[n]? = some m := by
    rw [← e, List.getElem?_take] at hm
    split at hm
    · exact hm
    · cases hm
  have a := R.obj n m p hm hp
  have b := P.rel.obj n m p hm' (get_prefix P.step.ext hp)
  unfold OR at a b ⊢
  split at a
  · obtain ⟨_, items, k, _, ha⟩ := a
    obtain ⟨e1, items, k, h1, h2⟩ := b
    exact ⟨e1, items, k, h1, VRs.cut P.step.ext hN _ _ h2 (VRs.under _ _ ha)⟩
  · trivial
theorem Post.cutV (P : Post T φ η s φ' η' s') (R : Rel T φ η s.heap) (e : η'.take η.length = η) {v : V} {x : Value} (r : VR T φ' (own φ' η') s'.heap v x) (u : v.refUnder η.length = true) : VR T φ (own φ η) s'.heap v x :=
  VR.cut P.step.ext (fun _ => own_cut P.step.ext e) v x r (by rw [R.len]; exact u)
theorem Post.cutVs (P : Post T φ η s φ' η' s') (R : Rel T φ η s.heap) (e : η'.take η.length = η) {v : List V} {x : List Value} (r : VRs T φ' (own φ' η') s'.heap v x) (u : V.refsUnder η.length v = true) : VRs T φ (own φ η) s'.heap v x :=
  VRs.cut P.step.ext (fun _ => own_cut P.step.ext e) v x r (by rw [R.len]; exact u)
end
end Mine
end
section
namespace Mine
open PySem PyProof.Rows

abbrev Gam := List (Str × Nat)

/-- a namespace of a frame or of a comprehension -/
def NsAt (h : Heap) (a : Addr) (c : String) (m : Str → Option Value) : Prop := h.Ns a m ∧ ∃ o, h.get? a = some o ∧ o.cls = .type c
def CellAt (h : Heap) (a : Addr) (v : Option Value) : Prop := ∃ o, h.get? a = some o ∧ o.cls = .type "cell" ∧ o.data = .cell v
theorem CellAt.is {h : Heap} {a : Addr} {v : Option Value} (x : CellAt h a v) : h.IsCell a v := let ⟨o, h1, _, h2⟩ := x; ⟨o, h1, h2⟩

/-- one frame: its names and their slots -/
structure FR (T : St) (φ : Phi) (η : H) (h : Heap) (L : Addr) (env : Env) (sc : Scope) (Γ : Gam) (ρ : Rho) : Prop where
  sc : env.scope = sc
  kind : env.scope.kind = .function
  glob : env.globals = mainGlobals
  bi : env.builtins = builtinsNs
  frame : env.frame = some L
  ns : ∃ c m, NsAt h env.locals c m ∧ (c = "frame" ∨ c = "dict") ∧ ∀ n i v, Γ.lookup n = some i → env.kindOf n = some .local → ρ[i]? = some (some v) → ∃ x, m n = some x ∧ VR T φ (own φ η) h v x
  cell : ∀ n i, Γ.lookup n = some i → env.kindOf n = some .cell → ∃ c ov, env.cells.lookup n = some c ∧ CellAt h c ov ∧ ∀ v, ρ[i]? = some (some v) → ∃ x, ov = some x ∧ VR T φ (own φ η) h v x
  lfresh : ¬ own φ η env.locals ∧ T.base.get? env.locals = none
  cthere : ∀ n c, env.cells.lookup n = some c → ∃ ov, CellAt h c ov
  cfresh : ∀ n c, env.cells.lookup n = some c → ¬ own φ η c ∧ T.base.get? c = none
  apart : ∀ n n' c, env.cells.lookup n = some c → env.cells.lookup n' = some c → n = n'
  inj : ∀ n n' i, Γ.lookup n = some i → Γ.lookup n' = some i → n = n'

theorem StayO.data {o : Obj} {h : Heap} {b : Addr} (x : StayO o h b) (hd : ∀ vs, o.data ≠ .fields vs) : ∃ o', h.get? b = some o' ∧ o'.data = o.data ∧ o'.cls = o.cls := by
  rcases x with x | ⟨_, sl, x⟩ | ⟨⟨⟨vs, e⟩, _⟩, _⟩
  · exact ⟨_, x, rfl, rfl⟩
  · exact ⟨_, x, rfl, rfl⟩
  · exact absurd e (hd vs)

section
variable {T : St} {A : Around} {L : Addr} {φ φ' : Phi} {η η' : H} {s s' : Shared} {h h' : Heap} {env : Env} {sc : Scope} {Γ : Gam} {ρ : Rho}

theorem Step.ns {a : Addr} {c : String} {m : Str → Option Value} (st : Step φ η h φ' η' h') (hN : ¬ own φ η a) (x : NsAt h a c m) : NsAt h' a c m := by
  obtain ⟨⟨o, es, ep, ho, hd, r⟩, o₂, ho₂, hc⟩ := x
  rw [ho] at ho₂; cases ho₂
  obtain ⟨o', ho', hd', hc'⟩ := (st.keep a o hN ho).data fun vs q => by rw [hd] at q; cases q
  exact ⟨⟨o', es, ep, ho', hd'.trans hd, r⟩, o', ho', hc'.trans hc⟩
theorem Step.cell {a : Addr} {v : Option Value} (st : Step φ η h φ' η' h') (hN : ¬ own φ η a) (x : CellAt h a v) : CellAt h' a v := by
  obtain ⟨o, ho, hc, hd⟩ := x
  obtain ⟨o', ho', hd', hc'⟩ := (st.keep a o hN ho).data fun vs q => by rw [hd] at q; cases q
  exact ⟨o', ho', hc'.trans hc, hd'.trans hd⟩

theorem FR.step (F : FR T φ η h L env sc Γ ρ) (st : Step φ η h φ' η' h') : FR T φ' η' h' L env sc Γ ρ where
  sc := F.sc
  kind := F.kind
  glob := F.glob
  bi := F.bi
  frame := F.frame
  ns := by
    obtain ⟨c, m, hn, hc, hv⟩ := F.ns
    refine ⟨c, m, st.ns F.lfresh.1 hn, hc, fun n i v h1 h2 h3 => ?_⟩
    obtain ⟨x, e, r⟩ := hv n i v h1 h2 h3
    exact ⟨x, e, VR.step st _ _ r⟩
  cell := fun n i h1 h2 => by
    obtain ⟨c, ov, e, hc, hv⟩ := F.cell n i h1 h2
    refine ⟨c, ov, e, st.cell (F.cfresh n c e).1 hc, fun v hr => ?_⟩
    obtain ⟨x, e', r⟩ := hv v hr
    exact ⟨x, e', VR.step st _ _ r⟩
  lfresh := by
    obtain ⟨_, m, ⟨_, o, ho, _⟩, _⟩ := F.ns
    exact ⟨st.off F.lfresh.1 ho, F.lfresh.2⟩
  cthere := fun n c e => let ⟨ov, x⟩ := F.cthere n c e; ⟨ov, st.cell (F.cfresh n c e).1 x⟩
  cfresh := fun n c e => by
    obtain ⟨_, o, ho, _⟩ := F.cthere n c e
    exact ⟨st.off (F.cfresh n c e).1 ho, (F.cfresh n c e).2⟩
  apart := F.apart
  inj := F.inj

/-- an object that no value stands for -/
def Priv (o : Obj) : Prop := ∃ c, o.cls = .type c ∧ c ≠ "tuple" ∧ c ≠ "list"

mutual
theorem VR.but {N : Addr → Prop} {a : Addr} {o : Obj} (g : h.get? a = some o) (p : Priv o) (k : ∀ b o, b ≠ a → h.get? b = some o → h'.get? b = some o) : ∀ (v : V) (x : Value), VR T φ N h v x → VR T φ N h' v x
  | .none, _, e => e
  | .bool _, _, e => e
  | .int _, _, e => e
  | .str _, _, e => e
  | .tup xs, x, e => by
    simp only [VR] at e ⊢
    obtain ⟨b, items, n, rfl, hN, hg, hr⟩ := e
    refine ⟨b, items, n, rfl, hN, k b _ (fun q => ?_) hg, VRs.but g p k xs _ hr⟩
    rw [q, g] at hg; cases hg; obtain ⟨c, e, h1, h2⟩ := p; cases e; exact h1 rfl
  | .lst xs, x, e => by
    simp only [VR] at e ⊢
    obtain ⟨b, items, n, rfl, hN, hg, hr⟩ := e
    refine ⟨b, items, n, rfl, hN, k b _ (fun q => ?_) hg, VRs.but g p k xs _ hr⟩
    rw [q, g] at hg; cases hg; obtain ⟨c, e, h1, h2⟩ := p; cases e; exact h2 rfl
  | .ref n, x, e => e
theorem VRs.but {N : Addr → Prop} {a : Addr} {o : Obj} (g : h.get? a = some o) (p : Priv o) (k : ∀ b o, b ≠ a → h.get? b = some o → h'.get? b = some o) : ∀ (v : List V) (x : List Value), VRs T φ N h v x → VRs T φ N h' v x
  | [], _, e => e
  | y :: ys, x, e => by
    simp only [VRs] at e ⊢
    obtain ⟨v, r, rfl, h1, h2⟩ := e
    exact ⟨v, r, rfl, VR.but g p k y v h1, VRs.but g p k ys r h2⟩
end
/-- a private object turns -/
theorem Rel.but {a : Addr} {o : Obj} (R : Rel T φ η h) (g : h.get? a = some o) (p : Priv o) (ha : ¬ own φ η a) (hb : T.base.get? a = none) (k : ∀ b o, b ≠ a → h.get? b = some o → h'.get? b = some o) : Rel T φ η h' where
  len := R.len
  base := fun b ob e => k b ob (fun q => by rw [q, hb] at e; cases e) (R.base b ob e)
  obj := fun n m q hm hq => by
    by_cases gm : m = .gone
    · subst gm; trivial
    have o1 : q.1 ≠ a := fun e => ha ⟨n, q, m, hq, hm, gm, .inl e.symm⟩
    have o2 : q.2 ≠ a := fun e => ha ⟨n, q, m, hq, hm, gm, .inr e.symm⟩
    have x := R.obj n m q hm hq
    unfold OR at x ⊢
    split at x
    · obtain ⟨e, items, n, h1, h2⟩ := x
      exact ⟨e, items, n, k _ _ o1 h1, VRs.but g p k _ _ h2⟩
    · trivial
  fresh := R.fresh
  disj := R.disj

/-- the same, seen from a state in which it was not yet there -/
theorem Post.but {φ₀ : Phi} {η₀ : H} {s₀ : Shared} {a : Addr} {o : Obj} {t : Nat} (P : Post T φ₀ η₀ s₀ φ η s) (h0 : s₀.heap.get? a = none) (g : s.heap.get? a = some o) (p : Priv o) (ha : ¬ own φ η a) (hb : T.base.get? a = none)
    (k : ∀ b o, b ≠ a → s.heap.get? b = some o → h'.get? b = some o) : Post T φ₀ η₀ s₀ φ η { s with heap := h', toks := t } := by
  refine ⟨⟨P.step.ext, fun b ob hN e => ?_, P.step.osub, fun b ob e => ?_⟩, P.rel.but g p ha hb k, P.gens, P.os, P.drawn⟩
  · have hba : b ≠ a := fun q => by rw [q, h0] at e; cases e
    exact (P.step.keep b ob hN e).trans fun o' e' => .inl (k b o' hba e')
  · have hba : b ≠ a := fun q => by rw [q, h0] at e; cases e
    obtain ⟨o', e'⟩ := Option.isSome_iff_exists.mp (P.step.alive b ob e)
    rw [k b o' hba e']; rfl

theorem nsSet_at {a : Addr} {cl : String} {m : Str → Option Value} {n : Str} {v : Value} {Q : Unit → Shared → Prop} {E : Value → Shared → Prop} {M : Model} (hn : NsAt s.heap a cl m)
    (hQ : ∀ h', NsAt h' a cl (fun x => if x = n then some v else m x) → Heap.SameBut a s.heap h' → Q () { s with heap := h', toks := s.toks + 1 }) : wpAny M A (nsSet a n v) Q E s := by
  obtain ⟨⟨o, es, ep, ho, hd, hk, hm⟩, o₂, ho₂, hc⟩ := hn
  rw [ho] at ho₂; cases ho₂
  have hany : es.any (·.refKey) = false := by
    rw [Array.any_eq_false']; intro e he; obtain ⟨n, t, h⟩ := hk e he; simp [DictEntry.refKey, h]
  intro Γ p _
  simp only [nsSet, strHash, Sem.wp_bind', Sem.wp_cmd_ask, Sem.wp_pure', Sem.wp_cmd_mkText]
  rw [Sem.wp_loadPart_of M Γ (fun e _ s => E e s) p { s with toks := s.toks + 1 } (o := o) _ ho]
  simp only [hd, aRefKeyMayBeTheName_at, hany, Bool.and_false, Bool.false_eq_true, if_false, Sem.wp_cmd_updatePart]
  refine ⟨by rw [ho]; rfl, hQ _ ?_ (Heap.SameBut.update ..)⟩
  obtain ⟨c, d, dt, sl⟩ := o
  subst hd
  rw [Obj.putName_eq]
  cases hi : es.findIdx? (·.key.isStr n) with
  | some i =>
    have e : ∀ hs k, Obj.putNameByArray n hs k v ⟨c, d, .dict es ep, sl⟩ = ⟨c, d, .dict (es.modify i fun e => { e with val := v }) ep, sl⟩ := fun hs k => by simp only [Obj.putNameByArray, hi]
    refine ⟨⟨_, _, ep, Heap.get?_update_self _ ho (by rw [e]; rfl), by rw [e], hk.modify _ _, fun x => ?_⟩, _, Heap.get?_update_self _ ho (by rw [e]; rfl), by rw [e]; exact hc⟩
    show _ = if x = n then some v else m x
    rw [← hm]; exact findBy_modify (fun n v => v.isStr n) Value.isStr_inj es n x v i hi
  | none =>
    have e : ∀ hs k, Obj.putNameByArray n hs k v ⟨c, d, .dict es ep, sl⟩ = ⟨c, d, .dict (es.push ⟨hs, k, v⟩) (ep + 1), sl⟩ := fun hs k => by simp only [Obj.putNameByArray, hi]
    refine ⟨⟨_, _, ep + 1, Heap.get?_update_self _ ho (by rw [e]; rfl), by rw [e], hk.push _ _ _ _, fun x => ?_⟩, _, Heap.get?_update_self _ ho (by rw [e]; rfl), by rw [e]; exact hc⟩
    show _ = if x = n then some v else m x
    rw [← hm]
    refine findBy_push (fun n v => v.isStr n) es n x _ _ v (fun y => ?_) hi
    show (n == y) = decide (y = n)
    by_cases h : y = n
    · subst h; simp
    · have : ¬ n = y := fun e => h e.symm
      simp [h, this]
end
end Mine
end
section
namespace Mine
open PySem PyProof.Rows

/-- a frame's state, seen from the call's start -/
structure FS (cw : Bool) (T : St) (A : Around) (L : Addr) (φ₀ : Phi) (η₀ : H) (s₀ : Shared) (φ : Phi) (η : H) (s : Shared) (env : Env) (sc : Scope) (Γ : Gam) (ρ : Rho) : Prop where
  post : Post T φ₀ η₀ s₀ φ η s
  fr : FR T φ η s.heap L env sc Γ ρ
  stk : ∃ top outer, A.frames = some (top :: outer) ∧ top.frame = some L ∧ Stk T φ η (top :: outer) s.heap
  l0 : s₀.heap.get? env.locals = none
  c0 : cw = true → ∀ n c, env.cells.lookup n = some c → s₀.heap.get? c = none

section
variable {cw : Bool} {T : St} {A : Around} {L : Addr} {φ₀ φ φ' : Phi} {η₀ η η' : H} {s₀ s s' : Shared} {h h' : Heap} {env : Env} {sc : Scope} {Γ : Gam} {ρ : Rho}

theorem FS.step (F : FS cw T A L φ₀ η₀ s₀ φ η s env sc Γ ρ) (p : Post T φ η s φ' η' s') : FS cw T A L φ₀ η₀ s₀ φ' η' s' env sc Γ ρ :=
  ⟨F.post.trans p, F.fr.step p.step, let ⟨t, o, h1, h2, h3⟩ := F.stk; ⟨t, o, h1, h2, h3.step p.step⟩, F.l0, F.c0⟩

/-- a name's value -/
theorem sim_var {n : Str} {i : Nat} {pos : Pos} (F : FR T φ η s.heap L env sc Γ ρ) (R : Rel T φ η s.heap) (hΓ : Γ.lookup n = some i) (hk : sc.names.lookup n = some .local ∨ sc.names.lookup n = some .cell) (hd : (n == ("__debug__" : Str)) = false) :
    Sim T A L φ η s (eval (.Name n pos) env) (match ρ[i]? with | some (some v) => .ok v η | _ => .fail) (QV T) := by
  split
  · rename_i v e
    refine .ok rfl (wpAny_Name ?_ hd)
    rcases hk with hk | hk
    · have hk' : env.kindOf n = some .local := by unfold Env.kindOf; rw [F.sc]; exact hk
      obtain ⟨c, m, hn, _, hv⟩ := F.ns
      obtain ⟨x, hx, r⟩ := hv n i v hΓ hk' e
      exact wpAny_loadName_local F.kind hk' hn.1 hx ⟨φ, .refl R, r⟩
    · have hk' : env.kindOf n = some .cell := by unfold Env.kindOf; rw [F.sc]; exact hk
      obtain ⟨c, ov, hc, hcell, hv⟩ := F.cell n i hΓ hk'
      obtain ⟨x, rfl, r⟩ := hv v e
      exact wpAny_loadName_cell F.kind hk' hc hcell.is ⟨φ, .refl R, r⟩
  · exact .fail

theorem Stk.but {l : List Env} {a : Addr} {o : Obj} (S : Stk T φ η l h) (g : h.get? a = some o) (k : ∀ b o, b ≠ a → h.get? b = some o → h'.get? b = some o)
    (hn : o.cls = .type "frame" → ∃ o', h'.get? a = some o' ∧ o'.cls = .type "frame" ∧ ∃ es n, o'.data = .dict es n) : Stk T φ η l h' := fun env he => by
  obtain ⟨hk, L, o₁, hf, hb, ho, hg, hc, es, n, hd⟩ := S env he
  by_cases e : L = a
  · subst e
    rw [g] at hg; cases hg
    obtain ⟨o', e', hc', hd'⟩ := hn hc
    exact ⟨hk, L, o', hf, hb, ho, e', hc', hd'⟩
  · exact ⟨hk, L, o₁, hf, hb, ho, k L o₁ e hg, hc, es, n, hd⟩

theorem getElem?_set_some {i j : Nat} {o : Option V} {v : V} (e : (ρ.set i o)[j]? = some (some v)) : (j = i ∧ o = some v) ∨ (j ≠ i ∧ ρ[j]? = some (some v)) := by
  by_cases h : i = j
  · subst h
    by_cases hl : i < ρ.length
    · rw [List.getElem?_set_self hl] at e; cases e; exact .inl ⟨rfl, rfl⟩
    · rw [List.getElem?_eq_none (by simp; omega)] at e; cases e
  · rw [List.getElem?_set_ne h] at e; exact .inr ⟨Ne.symm h, e⟩

/-- a name gets a value -/
theorem FS.store {A₂ : Around} {n : Str} {i : Nat} {v : V} {x : Value} {Q : Unit → Shared → Prop} {E : Value → Shared → Prop} (F : FS cw T A L φ₀ η₀ s₀ φ η s env sc Γ ρ) (hΓ : Γ.lookup n = some i) (hk : sc.names.lookup n = some .local ∨ (sc.names.lookup n = some .cell ∧ cw = true))
    (r : VR T φ (own φ η) s.heap v x) (h : ∀ s', FS cw T A L φ₀ η₀ s₀ φ η s' env sc Γ (ρ.set i (some v)) → (∀ b o, b ≠ env.locals → (∀ n c, env.cells.lookup n = some c → b ≠ c) → s.heap.get? b = some o → s'.heap.get? b = some o) → (∀ b o, s.heap.get? b = some o → (s'.heap.get? b).isSome = true) → (∀ (w : List V) y, VRs T φ (own φ η) s.heap w y → VRs T φ (own φ η) s'.heap w y) → Q () s') : wpAny T.M A₂ (storeName env n x) Q E s := by
  rcases hk with hk | ⟨hk, hcw⟩
  · have hk' : env.kindOf n = some .local := by unfold Env.kindOf; rw [F.fr.sc]; exact hk
    obtain ⟨c, m, hn, hc, hv⟩ := F.fr.ns
    obtain ⟨hns, o, g, ho⟩ := id hn
    have hp : (env.scope.kind == .class || (env.scope.kind == .module && env.locals != env.globals)) = false := by rw [F.fr.kind]; rfl
    have pv : Priv o := ⟨c, ho, by rcases hc with rfl | rfl <;> decide, by rcases hc with rfl | rfl <;> decide⟩
    rw [storeName_local hk' hp]
    refine nsSet_at hn fun h' hn' hs => h _ ?_ (fun b o hb _ e => (hs.2 b hb).trans e) (fun b o e => ?_) (fun w y r => VRs.but g pv (fun b o hb e => (hs.2 b hb).trans e) _ _ r)
    rotate_left
    · by_cases hb : b = env.locals
      · obtain ⟨_, o', e', _⟩ := hn'
        rw [hb, e']; rfl
      · rw [hs.2 b hb, e]; rfl
    have k : ∀ b o, b ≠ env.locals → s.heap.get? b = some o → h'.get? b = some o := fun b o hb e => (hs.2 b hb).trans e
    have notc : ∀ n c, env.cells.lookup n = some c → c ≠ env.locals := fun n c e q => by
      obtain ⟨ov, o', e', _, hd'⟩ := F.fr.cthere n c e
      obtain ⟨o₁, es, ep, e₁, hd₁, _⟩ := hns
      rw [q, e₁] at e'; cases e'; rw [hd₁] at hd'; cases hd'
    refine ⟨F.post.but F.l0 g pv F.fr.lfresh.1 F.fr.lfresh.2 k, ⟨F.fr.sc, F.fr.kind, F.fr.glob, F.fr.bi, F.fr.frame, ⟨c, _, hn', hc, fun n' j w h1 h2 h3 => ?_⟩, fun n' j h1 h2 => ?_, F.fr.lfresh, fun n' c' e => ?_, F.fr.cfresh, F.fr.apart, F.fr.inj⟩, ?_, F.l0, F.c0⟩
    · rcases getElem?_set_some h3 with ⟨hj, hw⟩ | ⟨hj, hw⟩
      · cases hw
        have : n' = n := F.fr.inj n' n j h1 (hj ▸ hΓ)
        subst this
        exact ⟨x, by simp, VR.but g pv k _ _ r⟩
      · obtain ⟨y, hy, ry⟩ := hv n' j w h1 h2 hw
        have hne : n' ≠ n := fun q => by rw [q, hΓ] at h1; cases h1; exact hj rfl
        exact ⟨y, by simp [hne, hy], VR.but g pv k _ _ ry⟩
    · obtain ⟨c', ov, e, hc', hv'⟩ := F.fr.cell n' j h1 h2
      obtain ⟨o', e', hc'', hd'⟩ := hc'
      refine ⟨c', ov, e, ⟨o', k c' o' (notc n' c' e) e', hc'', hd'⟩, fun w hw => ?_⟩
      rcases getElem?_set_some hw with ⟨hj, hw⟩ | ⟨hj, hw⟩
      · have : n' = n := F.fr.inj n' n j h1 (hj ▸ hΓ)
        subst this; rw [hk'] at h2; cases h2
      · obtain ⟨y, hy, ry⟩ := hv' w hw
        exact ⟨y, hy, VR.but g pv k _ _ ry⟩
    · obtain ⟨ov, o', e', hc'', hd'⟩ := F.fr.cthere n' c' e
      exact ⟨ov, o', k c' o' (notc n' c' e) e', hc'', hd'⟩
    · obtain ⟨t, u, h1, h2, h3⟩ := F.stk
      refine ⟨t, u, h1, h2, h3.but g k fun q => ?_⟩
      obtain ⟨⟨o₁, es, ep, e₁, hd₁, _⟩, o₂, e₂, hc₂⟩ := hn'
      rw [e₁] at e₂; cases e₂
      exact ⟨o₁, e₁, by rw [hc₂, ← ho, q], es, ep, hd₁⟩
  · have hk' : env.kindOf n = some .cell := by unfold Env.kindOf; rw [F.fr.sc]; exact hk
    obtain ⟨c, ov, hc, ⟨o, g, hcl, hd⟩, hv⟩ := F.fr.cell n i hΓ hk'
    have pv : Priv o := ⟨"cell", hcl, by decide, by decide⟩
    unfold storeName
    simp only [hk', F.fr.kind]
    refine wpAny_bind (wpAny_cellOf hc ?_)
    unfold cellSet
    refine wpAny_bind (wpAny_load g ?_)
    rw [hd]
    refine wpAny_update g (h _ ?_ (fun b o' hb hcb e => (Heap.get?_update_other _ _ (Ne.symm (hcb n c hc))).trans e) (fun b o' e => ?_) (fun w y r => VRs.but g pv (fun b o' hb e => (Heap.get?_update_other _ _ (Ne.symm hb)).trans e) _ _ r))
    rotate_left
    · by_cases hb : b = c
      · rw [hb, Heap.get?_update_self (fun o => { o with data := Data.cell (some x) }) g rfl]; rfl
      · rw [show (s.heap.update c fun o => { o with data := .cell (some x) }).get? b = s.heap.get? b from Heap.get?_update_other _ _ (Ne.symm hb), e]; rfl
    have k : ∀ b o', b ≠ c → s.heap.get? b = some o' → (s.heap.update c fun o => { o with data := .cell (some x) }).get? b = some o' := fun b o' hb e => (Heap.get?_update_other _ _ (Ne.symm hb)).trans e
    have gc : (s.heap.update c fun o => { o with data := .cell (some x) }).get? c = some { o with data := .cell (some x) } := Heap.get?_update_self _ g rfl
    obtain ⟨cc, m, hn, hcc, hvn⟩ := F.fr.ns
    have notl : env.locals ≠ c := fun q => by
      obtain ⟨⟨o₁, es, ep, e₁, hd₁, _⟩, _⟩ := hn
      rw [q, g] at e₁; cases e₁; rw [hd₁] at hd; cases hd
    refine ⟨F.post.but (t := s.toks) (F.c0 hcw n c hc) g pv (F.fr.cfresh n c hc).1 (F.fr.cfresh n c hc).2 k, ⟨F.fr.sc, F.fr.kind, F.fr.glob, F.fr.bi, F.fr.frame, ⟨cc, m, ?_, hcc, fun n' j w h1 h2 h3 => ?_⟩, fun n' j h1 h2 => ?_, F.fr.lfresh, fun n' c' e => ?_, F.fr.cfresh, F.fr.apart, F.fr.inj⟩, ?_, F.l0, F.c0⟩
    · obtain ⟨⟨o₁, es, ep, e₁, r₁⟩, o₂, e₂, hc₂⟩ := hn
      exact ⟨⟨o₁, es, ep, k _ _ notl e₁, r₁⟩, o₂, k _ _ notl e₂, hc₂⟩
    · rcases getElem?_set_some h3 with ⟨hj, hw⟩ | ⟨hj, hw⟩
      · have : n' = n := F.fr.inj n' n j h1 (hj ▸ hΓ)
        subst this; rw [hk'] at h2; cases h2
      · obtain ⟨y, hy, ry⟩ := hvn n' j w h1 h2 hw
        exact ⟨y, hy, VR.but g pv k _ _ ry⟩
    · by_cases hne : n' = n
      · subst hne
        refine ⟨c, some x, hc, ⟨_, gc, hcl, rfl⟩, fun w hw => ?_⟩
        rw [hΓ] at h1; cases h1
        rcases getElem?_set_some hw with ⟨_, hw⟩ | ⟨hj, _⟩
        · cases hw; exact ⟨x, rfl, VR.but g pv k _ _ r⟩
        · exact absurd rfl hj
      · obtain ⟨c', ov', e, ⟨o', e', hc'', hd'⟩, hv'⟩ := F.fr.cell n' j h1 h2
        have hcc' : c' ≠ c := fun q => hne (F.fr.apart n' n c (q ▸ e) hc)
        refine ⟨c', ov', e, ⟨o', k c' o' hcc' e', hc'', hd'⟩, fun w hw => ?_⟩
        rcases getElem?_set_some hw with ⟨hj, _⟩ | ⟨_, hw⟩
        · exact absurd (F.fr.inj n' n j h1 (hj ▸ hΓ)) hne
        · obtain ⟨y, hy, ry⟩ := hv' w hw
          exact ⟨y, hy, VR.but g pv k _ _ ry⟩
    · by_cases hcc' : c' = c
      · subst hcc'; exact ⟨some x, _, gc, hcl, rfl⟩
      · obtain ⟨ov', o', e', hc'', hd'⟩ := F.fr.cthere n' c' e
        exact ⟨ov', o', k c' o' hcc' e', hc'', hd'⟩
    · obtain ⟨t, u, h1, h2, h3⟩ := F.stk
      exact ⟨t, u, h1, h2, h3.but g k fun q => by rw [hcl] at q; simp at q⟩
end
end Mine
end
section
namespace Mine
noncomputable section
open PySem PyProof.Rows

/-- names of what the program's numbers stand for -/
structure Nm where
  fnm : List Str
  clm : List Str
  exm : List Str
  glm : List Str
  glv : List V
  tbm : List Str
  atm : List Str
  mtm : List (Nat × Str)
  /-- with classes, exceptions, enumerate -/
  ext : Bool

def isLoc (sc : Scope) (n : Str) : Bool := (sc.names.lookup n == some .local || sc.names.lookup n == some .cell) && !(n == ("__debug__" : Str))
def isGlo (sc : Scope) (n : Str) : Bool := sc.names.lookup n == some .globalImplicit && !(n == ("__debug__" : Str))
def atName (l : List Str) (i : Nat) (n : Str) : Bool := l[i]? == some n && !(n == ("" : Str))

def constEq : V → V → Bool
  | .none, .none => true
  | .bool a, .bool b => a == b
  | .int a, .int b => a == b
  | .str a, .str b => a == b
  | _, _ => false
def constOk : V → Const → Bool
  | .none, .none => true
  | .bool a, .bool b => a == b
  | .int a, .int b => a == b
  | .str a, .str b => b.cps.toList == a
  | _, _ => false
def biName : Bi → Str
  | .len => "len" | .int => "int" | .str => "str" | .tuple => "tuple"
def bmName : Bm → Str
  | .join => "join" | .split => "split"
def tyName : Ty → Option Str
  | .int => some "int" | .bool => some "bool" | .str => some "str" | .tuple => some "tuple"

def relabelS (csc sc : Scope) : Scope :=
  { csc with names := csc.names.map fun (n, k) => if (k == .free && sc.kind == .function && sc.names.lookup n == some .cell) then (n, .cell) else (n, k) }
/-- a comprehension's scope -/
def compOk (csc sc : Scope) (n : Str) (Γ : Gam) (x : Nat) : Bool :=
  csc.kind == .function && csc.names.all (fun p => !(p.2 == .cell)) && csc.names.all (fun p => !(p.2 == .local) || csc.names.lookup p.1 == some .local) && csc.names.lookup n == some .local
    && csc.names.all (fun p => !(p.2 == .free) || (sc.kind == .function && sc.names.lookup p.1 == some .cell && (csc.names.lookup p.1 == some .free) && (Γ.lookup p.1).isSome))
    && Γ.all (fun p => !(p.2 == x)) && csc.names.all (fun p => !(p.2 == .local) || p.1 == n || (Γ.lookup p.1).isNone)
def notSet : Expr → Bool
  | .Set .. => false
  | _ => true
def notSlice : Expr → Bool
  | .Slice .. => false
  | _ => true
def notComp : Expr → Bool
  | .ListComp .. | .SetComp .. | .DictComp .. => false
  | _ => true
def isComp : E → Bool
  | .comp .. => true
  | _ => false
def plainTest (e : E) : Expr → Bool
  | .UnaryOp .. | .BoolOp .. | .IfExp .. => false
  | .Compare .. => match e with | .cmp .. | .cmp2 .. | .inTab .. => true | _ => false
  | _ => true
def isNoneE : E → Bool
  | .const .none => true
  | _ => false
/-- nothing of super() -/
def notSuper : Expr → Bool
  | .Call (.Name id _) [] [] _ => !(id == ("super" : Str))
  | _ => true

-- views of an expression
def asName : Expr → Option Str
  | .Name n _ => some n
  | _ => none
def asConst : Expr → Option Const
  | .Constant c _ _ => some c
  | _ => none
def asBin : Expr → Option (Expr × Operator × Expr)
  | .BinOp l o r _ => some (l, o, r)
  | _ => none
def asNot : Expr → Option Expr
  | .UnaryOp .Not x _ => some x
  | _ => none
def asAnd : Expr → Option (List Expr)
  | .BoolOp .And vs _ => some vs
  | _ => none
def asOr : Expr → Option (List Expr)
  | .BoolOp .Or vs _ => some vs
  | _ => none
def asCmp : Expr → Option (Expr × List CmpOp × List Expr)
  | .Compare l os rs _ => some (l, os, rs)
  | _ => none
def asCall : Expr → Option (Str × List Expr)
  | .Call (.Name n _) as [] _ => some (n, as)
  | _ => none
def asMeth : Expr → Option (Expr × Str × Bool × List Expr)
  | .Call (.Attribute x name apos) as [] pos => some (x, name, apos.endLine == pos.line, as)
  | _ => none
def asSub : Expr → Option (Expr × Expr)
  | .Subscript x i _ => some (x, i)
  | _ => none
def asSlice : Expr → Option (Option Expr × Option Expr)
  | .Slice l u none _ => some (l, u)
  | _ => none
def asList : Expr → Option (List Expr)
  | .List xs _ => some xs
  | _ => none
def asTuple : Expr → Option (List Expr)
  | .Tuple xs _ _ => some xs
  | _ => none
def asComp : Expr → Option (Expr × Str × Expr × List Expr × Scope)
  | .ListComp e [⟨.Name n _, iter, tests, 0⟩] csc _ => some (e, n, iter, tests, csc)
  | _ => none
def one {α : Type} : List α → Option α
  | [x] => some x
  | _ => none
def two {α : Type} : List α → Option (α × α)
  | [x, y] => some (x, y)
  | _ => none

mutual
def chkE (N : Nm) (sc : Scope) (Γ : Gam) : E → Expr → Bool
  | .var i, x => (asName x).any fun n => Γ.lookup n == some i && isLoc sc n
  | .const v, x => (asConst x).any (constOk v)
  | .glob g v, x => (asName x).any fun n => atName N.glm g n && isGlo sc n && (N.glv[g]?).any (constEq v)
  | .bin op a b, x => (asBin x).any fun p => opOf op == p.2.1 && chkE N sc Γ a p.1 && chkE N sc Γ b p.2.2
  | .not a, x => (asNot x).any (chkE N sc Γ a)
  | .and es, x => (asAnd x).any (chkEs N sc Γ es)
  | .cmp op a b, x => (asCmp x).any fun p => (one p.2.1).any fun o => (one p.2.2).any fun r => copOf op == o && notSet r && chkE N sc Γ a p.1 && chkE N sc Γ b r
  | .cmp2 o1 o2 a b c, x => (asCmp x).any fun p => (two p.2.1).any fun o => (two p.2.2).any fun r => copOf o1 == o.1 && copOf o2 == o.2 && notSet r.2 && chkE N sc Γ a p.1 && chkE N sc Γ b r.1 && chkE N sc Γ c r.2
  | .call f args, x => (asCall x).any fun p => atName N.fnm f p.1 && isGlo sc p.1 && chkEs N sc Γ args p.2
  | .bi b args, x => (asCall x).any fun p => biName b == p.1 && isGlo sc p.1 && chkEs N sc Γ args p.2
  | .bm m o args, x => (asMeth x).any fun p => bmName m == p.2.1 && p.2.2.1 && decide (p.2.2.2.length < 30) && notSuper p.1 && chkE N sc Γ o p.1 && chkEs N sc Γ args p.2.2.2
  | .isinst a t, x => (asCall x).any fun p => p.1 == ("isinstance" : Str) && isGlo sc p.1 && (two p.2).any fun r => (asName r.2).any fun tn => tyName t == some tn && isGlo sc tn && chkE N sc Γ a r.1
  | .sub a b, x => (asSub x).any fun p => notSlice p.2 && chkE N sc Γ a p.1 && chkE N sc Γ b p.2
  | .slice _ a lo hi, x => (asSub x).any fun p => chkE N sc Γ a p.1 && (asSlice p.2).any fun r => (r.1.elim (isNoneE lo) (chkE N sc Γ lo)) && (r.2.elim (isNoneE hi) (chkE N sc Γ hi))
  | .list _ es, x => (asList x).any fun xs => decide (xs.length ≤ 1000) && chkEs N sc Γ es xs
  | .tuple es, x => (asTuple x).any fun xs => decide (xs.length ≤ 1000) && chkEs N sc Γ es xs
  | .comp _ x elt it ifs, y => (asComp y).any fun p => compOk p.2.2.2.2 sc p.2.1 Γ x && chkIt N sc Γ it p.2.2.1 && chkE N (relabelS p.2.2.2.2 sc) ((p.2.1, x) :: Γ) elt p.1 && chkCs N (relabelS p.2.2.2.2 sc) ((p.2.1, x) :: Γ) ifs p.2.2.2.1
  | .inTab neg t a, x => (asCmp x).any fun p => (one p.2.1).any fun o => (one p.2.2).any fun r => (asName r).any fun n => o == (if neg then .NotIn else .In) && atName N.tbm t n && isGlo sc n && chkE N sc Γ a p.1
  | .subTab t a, x => (asSub x).any fun p => (asName p.1).any fun n => notSlice p.2 && atName N.tbm t n && isGlo sc n && chkE N sc Γ a p.2
/-- what a loop goes over -/
def chkIt (N : Nm) (sc : Scope) (Γ : Gam) : It → Expr → Bool
  | .range1 a, x => notSet x && (asCall x).any fun p => p.1 == ("range" : Str) && isGlo sc p.1 && (one p.2).any (chkE N sc Γ a)
  | .of e, x => notSet x && chkE N sc Γ e x
def chkEs (N : Nm) (sc : Scope) (Γ : Gam) : List E → List Expr → Bool
  | [], x => x.isEmpty
  | e :: es, x => x.head?.any (chkE N sc Γ e) && chkEs N sc Γ es x.tail
def chkC (N : Nm) (sc : Scope) (Γ : Gam) : C → Expr → Bool
  | .not c, x => (asNot x).any (chkC N sc Γ c)
  | .and cs, x => (asAnd x).any (chkCs N sc Γ cs)
  | .or cs, x => (asOr x).any (chkCs N sc Γ cs)
  | .t e, x => plainTest e x && chkE N sc Γ e x
def chkCs (N : Nm) (sc : Scope) (Γ : Gam) : List C → List Expr → Bool
  | [], x => x.isEmpty
  | e :: es, x => x.head?.any (chkC N sc Γ e) && chkCs N sc Γ es x.tail
end

def asAssign : Stmt → Option (Expr × Expr)
  | .Assign [t] v _ => some (t, v)
  | _ => none
def asIfS : Stmt → Option (Expr × List Stmt × List Stmt)
  | .If t x y _ => some (t, x, y)
  | _ => none
def asFor : Stmt → Option (Expr × Expr × List Stmt)
  | .For t iter b [] _ => some (t, iter, b)
  | _ => none
def asRet : Stmt → Option Expr
  | .Return (some v) _ => some v
  | _ => none
mutual
def chkS (N : Nm) (sc : Scope) (Γ : Gam) : S → Stmt → Bool
  | .assign x e, z => (asAssign z).any fun p => (asName p.1).any fun n => Γ.lookup n == some x && isLoc sc n && chkE N sc Γ e p.2 && (notComp p.2 || isComp e)
  | .ite c a b, z => (asIfS z).any fun p => chkC N sc Γ c p.1 && chkSs N sc Γ a p.2.1 && chkSs N sc Γ b p.2.2
  | .for1 x it body, z => (asFor z).any fun p => (asName p.1).any fun n => Γ.lookup n == some x && isLoc sc n && chkIt N sc Γ it p.2.1 && chkSs N sc Γ body p.2.2
  | .ret e, z => (asRet z).any (chkE N sc Γ e)
  | .raise _ _, _ => true
def chkSs (N : Nm) (sc : Scope) (Γ : Gam) : List S → List Stmt → Bool
  | [], x => x.isEmpty
  | s :: ss, x => x.head?.any (chkS N sc Γ s) && chkSs N sc Γ ss x.tail
end

def parNames (p : Arguments) : List Str := p.args.map (·.arg)
def parOk (sc : Scope) (Γ : Gam) : Nat → List Str → Bool
  | _, [] => true
  | k, n :: r => Γ.lookup n == some k && isLoc sc n && !(r.contains n) && parOk sc Γ (k + 1) r
def nodupN : List Nat → Bool
  | [] => true
  | k :: r => !(r.contains k) && nodupN r
def isNoneV : Value → Bool
  | .none => true
  | _ => false
/-- a function's text -/
def chkF (N : Nm) (F : Fn) (Γ : Gam) (fd : FuncData) : Bool :=
  (match fd.body with | .stmts b => chkSs N fd.scope Γ F.body b | _ => false) && fd.scope.kind == .function && !fd.scope.isGenerator && !fd.scope.isCoroutine
    && fd.closure.isEmpty && fd.globals == mainGlobals && fd.builtins == builtinsNs
    && fd.params.posonlyargs.isEmpty && fd.params.vararg.isNone && fd.params.kwonlyargs.isEmpty && fd.params.kwarg.isNone
    && (parNames fd.params).length == F.npar && parOk fd.scope Γ 0 (parNames fd.params) && nodupN (Γ.map (·.2)) && decide (F.npar ≤ F.nloc) && isNoneV fd.defaults
end
end Mine
end
section
namespace Mine
open PySem PyProof.Rows

theorem any_some {α : Type} {o : Option α} {f : α → Bool} (h : o.any f = true) : ∃ a, o = some a ∧ f a = true := by
  cases o with
  | none => cases h
  | some a => exact ⟨a, rfl, h⟩
theorem constEq_eq : ∀ {v w : V}, constEq v w = true → v = w
  | .none, w, h => by cases w <;> first | rfl | exact absurd h Bool.false_ne_true
  | .bool a, w, h => by
    cases w with
    | bool b => exact congrArg V.bool (beq_iff_eq.mp h)
    | _ => exact absurd h Bool.false_ne_true
  | .int a, w, h => by
    cases w with
    | int b => exact congrArg V.int (beq_iff_eq.mp h)
    | _ => exact absurd h Bool.false_ne_true
  | .str a, w, h => by
    cases w with
    | str b => exact congrArg V.str (beq_iff_eq.mp h)
    | _ => exact absurd h Bool.false_ne_true
  | .tup _, w, h => by cases w <;> exact absurd h Bool.false_ne_true
  | .lst _, w, h => by cases w <;> exact absurd h Bool.false_ne_true
  | .ref _, w, h => by cases w <;> exact absurd h Bool.false_ne_true
theorem one_eq {α : Type} {l : List α} {a : α} (h : one l = some a) : l = [a] := by
  cases l with
  | nil => cases h
  | cons x r => cases r with
    | nil => cases h; rfl
    | cons _ _ => cases h
theorem two_eq {α : Type} {l : List α} {a : α × α} (h : two l = some a) : l = [a.1, a.2] := by
  cases l with
  | nil => cases h
  | cons x r => cases r with
    | nil => cases h
    | cons y r => cases r with
      | nil => cases h; rfl
      | cons _ _ => cases h
theorem asName_eq {x : Expr} {n : Str} (h : asName x = some n) : ∃ p, x = .Name n p := by
  have g : (asName x).isSome = true := by rw [h]; rfl
  cases x <;> first | exact absurd g Bool.false_ne_true | (cases h; exact ⟨_, rfl⟩)
theorem asConst_eq {x : Expr} {n : Const} (h : asConst x = some n) : ∃ k p, x = .Constant n k p := by
  have g : (asConst x).isSome = true := by rw [h]; rfl
  cases x <;> first | exact absurd g Bool.false_ne_true | (cases h; exact ⟨_, _, rfl⟩)
theorem asBin_eq {x : Expr} {q : Expr × Operator × Expr} (h : asBin x = some q) : ∃ p, x = .BinOp q.1 q.2.1 q.2.2 p := by
  have g : (asBin x).isSome = true := by rw [h]; rfl
  cases x <;> first | exact absurd g Bool.false_ne_true | (cases h; exact ⟨_, rfl⟩)
theorem asNot_eq {x y : Expr} (h : asNot x = some y) : ∃ p, x = .UnaryOp .Not y p := by
  have g : (asNot x).isSome = true := by rw [h]; rfl
  cases x with
  | UnaryOp op y p' => cases op <;> first | exact absurd g Bool.false_ne_true | (cases h; exact ⟨_, rfl⟩)
  | _ => exact absurd g Bool.false_ne_true
theorem asAnd_eq {x : Expr} {y : List Expr} (h : asAnd x = some y) : ∃ p, x = .BoolOp .And y p := by
  have g : (asAnd x).isSome = true := by rw [h]; rfl
  cases x with
  | BoolOp op y p' => cases op <;> first | exact absurd g Bool.false_ne_true | (cases h; exact ⟨_, rfl⟩)
  | _ => exact absurd g Bool.false_ne_true
theorem asOr_eq {x : Expr} {y : List Expr} (h : asOr x = some y) : ∃ p, x = .BoolOp .Or y p := by
  have g : (asOr x).isSome = true := by rw [h]; rfl
  cases x with
  | BoolOp op y p' => cases op <;> first | exact absurd g Bool.false_ne_true | (cases h; exact ⟨_, rfl⟩)
  | _ => exact absurd g Bool.false_ne_true
theorem asCmp_eq {x : Expr} {q : Expr × List CmpOp × List Expr} (h : asCmp x = some q) : ∃ p, x = .Compare q.1 q.2.1 q.2.2 p := by
  have g : (asCmp x).isSome = true := by rw [h]; rfl
  cases x <;> first | exact absurd g Bool.false_ne_true | (cases h; exact ⟨_, rfl⟩)
theorem asCall_eq {x : Expr} {q : Str × List Expr} (h : asCall x = some q) : ∃ p p', x = .Call (.Name q.1 p) q.2 [] p' := by
  have g : (asCall x).isSome = true := by rw [h]; rfl
  cases x with
  | Call f as kw p' =>
    cases f with
    | Name n p => cases kw <;> first | exact absurd g Bool.false_ne_true | (cases h; exact ⟨_, _, rfl⟩)
    | _ => exact absurd g Bool.false_ne_true
  | _ => exact absurd g Bool.false_ne_true
theorem asMeth_eq {x : Expr} {q : Expr × Str × Bool × List Expr} (h : asMeth x = some q) : ∃ p p', x = .Call (.Attribute q.1 q.2.1 p) q.2.2.2 [] p' ∧ q.2.2.1 = (p.endLine == p'.line) := by
  have g : (asMeth x).isSome = true := by rw [h]; rfl
  cases x with
  | Call f as kw p' =>
    cases f with
    | Attribute y n p => cases kw <;> first | exact absurd g Bool.false_ne_true | (cases h; exact ⟨_, _, rfl, rfl⟩)
    | _ => exact absurd g Bool.false_ne_true
  | _ => exact absurd g Bool.false_ne_true
theorem asSub_eq {x : Expr} {q : Expr × Expr} (h : asSub x = some q) : ∃ p, x = .Subscript q.1 q.2 p := by
  have g : (asSub x).isSome = true := by rw [h]; rfl
  cases x <;> first | exact absurd g Bool.false_ne_true | (cases h; exact ⟨_, rfl⟩)
theorem asSlice_eq {x : Expr} {q : Option Expr × Option Expr} (h : asSlice x = some q) : ∃ p, x = .Slice q.1 q.2 none p := by
  have g : (asSlice x).isSome = true := by rw [h]; rfl
  cases x with
  | Slice l u st p => cases st <;> first | exact absurd g Bool.false_ne_true | (cases h; exact ⟨_, rfl⟩)
  | _ => exact absurd g Bool.false_ne_true
theorem asList_eq {x : Expr} {q : List Expr} (h : asList x = some q) : ∃ p, x = .List q p := by
  have g : (asList x).isSome = true := by rw [h]; rfl
  cases x <;> first | exact absurd g Bool.false_ne_true | (cases h; exact ⟨_, rfl⟩)
theorem asTuple_eq {x : Expr} {q : List Expr} (h : asTuple x = some q) : ∃ k p, x = .Tuple q k p := by
  have g : (asTuple x).isSome = true := by rw [h]; rfl
  cases x <;> first | exact absurd g Bool.false_ne_true | (cases h; exact ⟨_, _, rfl⟩)
theorem asComp_eq {x : Expr} {q : Expr × Str × Expr × List Expr × Scope} (h : asComp x = some q) : ∃ p p', x = .ListComp q.1 [⟨.Name q.2.1 p, q.2.2.1, q.2.2.2.1, 0⟩] q.2.2.2.2 p' := by
  unfold asComp at h
  split at h
  · cases h; exact ⟨_, _, rfl⟩
  · cases h
theorem asAssign_eq {x : Stmt} {q : Expr × Expr} (h : asAssign x = some q) : ∃ p, x = .Assign [q.1] q.2 p := by
  have g : (asAssign x).isSome = true := by rw [h]; rfl
  cases x with
  | Assign ts v p => cases ts with
    | nil => exact absurd g Bool.false_ne_true
    | cons t r => cases r <;> first | exact absurd g Bool.false_ne_true | (cases h; exact ⟨_, rfl⟩)
  | _ => exact absurd g Bool.false_ne_true
theorem asIfS_eq {x : Stmt} {q : Expr × List Stmt × List Stmt} (h : asIfS x = some q) : ∃ p, x = .If q.1 q.2.1 q.2.2 p := by
  have g : (asIfS x).isSome = true := by rw [h]; rfl
  cases x <;> first | exact absurd g Bool.false_ne_true | (cases h; exact ⟨_, rfl⟩)
theorem asFor_eq {x : Stmt} {q : Expr × Expr × List Stmt} (h : asFor x = some q) : ∃ p, x = .For q.1 q.2.1 q.2.2 [] p := by
  have g : (asFor x).isSome = true := by rw [h]; rfl
  cases x with
  | For t i b oe p => cases oe <;> first | exact absurd g Bool.false_ne_true | (cases h; exact ⟨_, rfl⟩)
  | _ => exact absurd g Bool.false_ne_true
theorem asRet_eq {x : Stmt} {q : Expr} (h : asRet x = some q) : ∃ p, x = .Return (some q) p := by
  have g : (asRet x).isSome = true := by rw [h]; rfl
  cases x with
  | Return v p => cases v <;> first | exact absurd g Bool.false_ne_true | (cases h; exact ⟨_, rfl⟩)
  | _ => exact absurd g Bool.false_ne_true
end Mine
end
section
namespace Mine
open PySem PyProof.Rows

/-- what lies around a step -/
structure Cxt (T : St) (A : Around) (L : Addr) (q : Bool) (d : Nat) (φ : Phi) (η : H) (s : Shared) : Prop where
  hand : q = true → A.handled = none
  depth : A.depth + 4 * d + 4 ≤ recursionLimit
  units : A.units + 20 * d + 20 < cLine
  stk : ∃ top outer, A.frames = some (top :: outer) ∧ top.frame = some L ∧ Stk T φ η (top :: outer) s.heap
  rel : Rel T φ η s.heap

section
variable {T : St} {A : Around} {L : Addr} {q : Bool} {d : Nat} {φ φ' : Phi} {η η' : H} {s s' : Shared} {env : Env} {sc : Scope} {Γ : Gam} {ρ : Rho} {α β : Type}

theorem Cxt.step (X : Cxt T A L q d φ η s) (p : Post T φ η s φ' η' s') : Cxt T A L q d φ' η' s' :=
  ⟨X.hand, X.depth, X.units, let ⟨t, o, h1, h2, h3⟩ := X.stk; ⟨t, o, h1, h2, h3.step p.step⟩, p.rel⟩

theorem Sim.operate {vs : List Value} {t : Sem Value} {r : R β} {Q : QR Value β} (h : Sim T A L φ η s t r Q) : Sim T A L φ η s (PySem.operate vs t) r Q := h.imp id wpAny_operateT
theorem Sim.release {vs ks : List Value} {k : Unit → Sem α} {r : R β} {Q : QR α β} (h : Sim T A L φ η s (k ()) r Q) : Sim T A L φ η s (PySem.release vs ks >>= k) r Q := h.imp id fun h => wpAny_bind (wpAny_release h)
theorem Sim.pureBind {γ : Type} {a : γ} {k : γ → Sem α} {r : R β} {Q : QR α β} (h : Sim T A L φ η s (k a) r Q) : Sim T A L φ η s ((Pure.pure a : Sem γ) >>= k) r Q := h.imp id fun h => wpAny_bind (wpAny_pure h)
theorem Sim.of_eq {t t' : Sem α} {r : R β} {Q : QR α β} (e : t = t') (h : Sim T A L φ η s t' r Q) : Sim T A L φ η s t r Q := e ▸ h
theorem Sim.cast {t : Sem α} {r r' : R β} {Q : QR α β} (h : Sim T A L φ η s t r' Q) (e : r = r') : Sim T A L φ η s t r Q := e ▸ h

/-- an expression -/
def SimE (T : St) (q : Bool) (d : Nat) (call : Nat → List V → H → R V) (sc : Scope) (Γ : Gam) (e : E) (x : Expr) : Prop :=
  ∀ A L φ η s env ρ, Cxt T A L q d φ η s → FR T φ η s.heap L env sc Γ ρ → Sim T A L φ η s (eval x env) (evE T.P q call e ρ η) (QV T)
def SimEs (T : St) (q : Bool) (d : Nat) (call : Nat → List V → H → R V) (sc : Scope) (Γ : Gam) (e : List E) (x : List Expr) : Prop :=
  ∀ A L φ η s env ρ pos, Cxt T A L q d φ η s → FR T φ η s.heap L env sc Γ ρ → Sim T A L φ η s (spliced (backTo pos (starEach x env))) (evEs T.P q call e ρ η) (QVs T)
/-- a test -/
def SimC (T : St) (q : Bool) (d : Nat) (call : Nat → List V → H → R V) (sc : Scope) (Γ : Gam) (c : C) (x : Expr) : Prop :=
  ∀ A L φ η s env ρ, Cxt T A L q d φ η s → FR T φ η s.heap L env sc Γ ρ → Sim T A L φ η s (isTrue x env (eval x env)) (evC T.P q call c ρ η) QB

variable {call : Nat → List V → H → R V}

theorem e_const {v : V} {c : Const} {k : Nat} {pos : Pos} (h : constOk v c = true) : SimE T q d call sc Γ (.const v) (.Constant c k pos) := by
  intro A L φ η s env ρ X F
  show Sim T A L φ η s (constValue env c) (.ok v η) (QV T)
  unfold constOk at h
  split at h
  · exact .pure X.rel (by simp [QV, VR])
  · rw [beq_iff_eq] at h; subst h; exact .pure X.rel (by simp [QV, VR])
  · rw [beq_iff_eq] at h; subst h; exact .ok rfl (wpAny_mkInt ⟨φ, .toks X.rel, by simp [QV, VR]⟩)
  · rename_i a b
    rw [beq_iff_eq] at h; subst h
    exact .ok rfl (wpAny_mkText ⟨φ, .toks X.rel, by simp only [QV, VR]; exact ⟨s.toks, by cases b; simp⟩⟩)
  · cases h

theorem e_bin {op : Op} {a b : E} {l r : Expr} {pos : Pos} (h1 : SimE T q d call sc Γ a l) (h2 : SimE T q d call sc Γ b r) : SimE T q d call sc Γ (.bin op a b) (.BinOp l (opOf op) r pos) := by
  intro A L φ η s env ρ X F
  rw [eval_BinOp]
  refine Sim.bind (h1 A L φ η s env ρ X F) fun v η' φ' x s' _ p hq => ?_
  refine Sim.bind (Sim.holding (h2 A L φ' η' s' env ρ (X.step p) (F.step p.step))) fun w η'' φ'' y s'' _ p' hq' => ?_
  exact .standAt (.operate (sim_bin op p'.rel (VR.step p'.step _ _ hq) hq'))

theorem truth_some {v : V} {b : Bool} (e : truth η v = some b) : v = .bool b := by
  unfold truth at e
  split at e
  · cases e; rfl
  · cases e

/-- the truth of a value -/
theorem sim_truth {v : V} {x : Value} (R : Rel T φ η s.heap) (r : QV T φ η s.heap v x) : Sim T A L φ η s (truthy x) (match truth η v with | some b => .ok b η | none => .fail) QB := by
  cases e : truth η v with
  | none => exact .fail
  | some b =>
    have := truth_some e; subst this
    simp only [QV, VR] at r; subst r
    exact .ok rfl (wpAny_truthy_bool ⟨φ, .refl R, rfl⟩)

theorem e_not {a : E} {x : Expr} {pos : Pos} (h1 : SimE T q d call sc Γ a x) : SimE T q d call sc Γ (.not a) (.UnaryOp .Not x pos) := by
  intro A L φ η s env ρ X F
  rw [eval_UnaryOp]
  refine Sim.bind (h1 A L φ η s env ρ X F) fun v η' φ' x s' _ p hq => ?_
  refine .standAt (.holding ?_)
  show Sim T A L φ' η' s' (unaryOp .Not x) _ (QV T)
  unfold unaryOp
  refine .holding ?_
  show Sim T A L φ' η' s' (do return .bool (!(← truthy x))) _ (QV T)
  cases e : truth η' v with
  | none => exact .fail
  | some b =>
    have := truth_some e; subst this
    simp only [QV, VR] at hq; subst hq
    exact .ok rfl (wpAny_bind (wpAny_truthy_bool (wpAny_pure ⟨φ', .refl p.rel, by simp [QV, VR]⟩)))

theorem es_nil : SimEs T q d call sc Γ [] [] := fun A L φ η s env ρ pos X _ => .pure X.rel (by simp [QVs, VRs])

/-- no star -/
def plainArg : Expr → Bool
  | .Starred .. => false
  | _ => true
theorem starEach_plain {x : Expr} {xs : List Expr} (h : plainArg x = true) : starEach (x :: xs) env = (false, eval x env) :: starEach xs env := by
  cases x <;> first | rfl | cases h

theorem es_cons {e : E} {es : List E} {x : Expr} {xs : List Expr} (hx : plainArg x = true) (h1 : SimE T q d call sc Γ e x) (h2 : SimEs T q d call sc Γ es xs) : SimEs T q d call sc Γ (e :: es) (x :: xs) := by
  intro A L φ η s env ρ pos X F
  rw [starEach_plain hx]
  show Sim T A L φ η s (spliced ((false, eval x env) :: backTo pos (starEach xs env))) _ _
  rw [spliced]
  refine Sim.bind (h1 A L φ η s env ρ X F) fun v η' φ' y s' _ p hq => ?_
  simp only [Bool.false_eq_true, if_false]
  refine .pureBind ?_
  refine Sim.bind (Sim.holding (h2 A L φ' η' s' env ρ pos (X.step p) (F.step p.step))) fun vs η'' φ'' ys s'' _ p' hq' => ?_
  exact .pure p'.rel (by simp only [QVs, VRs]; exact ⟨y, ys, rfl, VR.step p'.step _ _ hq, hq'⟩)
end
end Mine
end
section
namespace Mine
open PySem PyProof.Rows

section
variable {T : St} {A : Around} {L : Addr} {q : Bool} {d : Nat} {φ φ' : Phi} {η η' : H} {s s' : Shared} {env : Env} {sc : Scope} {Γ : Gam} {ρ : Rho} {α β : Type} {call : Nat → List V → H → R V}

/-- single expressions of a list -/
def SimL (T : St) (q : Bool) (d : Nat) (call : Nat → List V → H → R V) (sc : Scope) (Γ : Gam) : List E → List Expr → Prop
  | [], [] => True
  | e :: es, x :: xs => SimE T q d call sc Γ e x ∧ SimL T q d call sc Γ es xs
  | _, _ => False
def SimCL (T : St) (q : Bool) (d : Nat) (call : Nat → List V → H → R V) (sc : Scope) (Γ : Gam) : List C → List Expr → Prop
  | [], [] => True
  | e :: es, x :: xs => SimC T q d call sc Γ e x ∧ SimCL T q d call sc Γ es xs
  | _, _ => False

theorem Sim.assoc {γ δ : Type} {a : Sem γ} {f : γ → Sem δ} {k : δ → Sem α} {r : R β} {Q : QR α β} (h : Sim T A L φ η s (a >>= fun x => f x >>= k) r Q) : Sim T A L φ η s ((a >>= f) >>= k) r Q :=
  h.imp id fun h Γ' p hΓ => by have := h Γ' p hΓ; simpa only [Sem.wp_bind'] using this
theorem Sim.held {γ : Type} {vs : List Value} {a : Sem γ} {k : γ → Sem α} {r : R β} {Q : QR α β} (h : Sim T A L φ η s (a >>= k) r Q) : Sim T A L φ η s (PySem.holding vs a >>= k) r Q :=
  h.imp id fun h Γ' p hΓ => by have := h Γ' p hΓ; simpa only [Sem.wp_bind', Sem.wp_holding] using this

theorem e_and_aux {pos : Pos} : ∀ (es : List E) (xs : List Expr), SimL T q d call sc Γ es xs → ∀ A L φ η s env ρ, Cxt T A L q d φ η s → FR T φ η s.heap L env sc Γ ρ →
    Sim T A L φ η s (boolOp pos .And (evalEach xs env)) (evAnd T.P q call es ρ η) (QV T)
  | [], [], _, A, L, φ, η, s, env, ρ, X, F => .fail
  | [e], [x], h, A, L, φ, η, s, env, ρ, X, F => h.1 A L φ η s env ρ X F
  | e :: e' :: es, x :: x' :: xs, h, A, L, φ, η, s, env, ρ, X, F => by
    show Sim T A L φ η s (do let v ← eval x env; standAt pos; let t ← holding [v] (truthy v); match BoolOp.And, t with | .And, false | .Or, true => pure v | _, _ => boolOp pos .And (evalEach (x' :: xs) env)) _ _
    refine Sim.bind (h.1 A L φ η s env ρ X F) fun v η' φ' y s' _ p hq => .standAt ?_
    cases e : truth η' v with
    | none => exact .fail
    | some b =>
      have := truth_some e; subst this
      have hy : y = .bool b := by simpa only [QV, VR] using hq
      subst hy
      have rest := e_and_aux (pos := pos) (e' :: es) (x' :: xs) h.2 A L φ' η' s' env ρ (X.step p) (F.step p.step)
      cases b with
      | true => exact rest.imp id fun r => wpAny_bind (wpAny_holding (wpAny_truthy_bool r))
      | false => exact .ok rfl (wpAny_bind (wpAny_holding (wpAny_truthy_bool (wpAny_pure ⟨φ', .refl p.rel, hq⟩))))
  | [], _ :: _, h, _, _, _, _, _, _, _, _, _ => h.elim
  | _ :: _, [], h, _, _, _, _, _, _, _, _, _ => h.elim
  | [_], _ :: _ :: _, h, _, _, _, _, _, _, _, _, _ => h.2.elim
  | _ :: _ :: _, [_], h, _, _, _, _, _, _, _, _, _ => h.2.elim
theorem e_and {es : List E} {xs : List Expr} {pos : Pos} (h : SimL T q d call sc Γ es xs) : SimE T q d call sc Γ (.and es) (.BoolOp .And xs pos) := fun A L φ η s env ρ X F => e_and_aux es xs h A L φ η s env ρ X F
theorem marked_off {op : CmpOp} {e : Expr} {t : Sem Value} (h : notSet e = true) : markedBehindIn op e t = t := by
  have : behindInMarks op e = false := by cases e <;> first | rfl | cases h
  unfold markedBehindIn
  rw [this]

theorem e_cmp {op : COp} {a b : E} {l r : Expr} {pos : Pos} (hr : notSet r = true) (h1 : SimE T q d call sc Γ a l) (h2 : SimE T q d call sc Γ b r) : SimE T q d call sc Γ (.cmp op a b) (.Compare l [copOf op] [r] pos) := by
  intro A L φ η s env ρ X F
  show Sim T A L φ η s (do compareChain pos (← eval l env) [copOf op] [markedBehindIn (copOf op) r (eval r env)]) _ _
  rw [marked_off hr]
  refine Sim.bind (h1 A L φ η s env ρ X F) fun v η' φ' x s' _ p hq => ?_
  refine Sim.bind (Sim.holding (h2 A L φ' η' s' env ρ (X.step p) (F.step p.step))) fun w η'' φ'' y s'' _ p' hq' => ?_
  exact .standAt (.operate (sim_cmp op p'.rel (VR.step p'.step _ _ hq) hq' (by have := X.units; omega)))

/-- the truth of a comparison's value -/
theorem Sim.test {t : Sem Value} {o : Option Bool} (h : Sim T A L φ η s t (match o with | some b => .ok (.bool b) η | none => .fail) (QV T)) :
    Sim T A L φ η s (t >>= fun c => PySem.holding [c] (truthy c)) (match o with | some b => .ok b η | none => .fail) QB := by
  cases o with
  | none => exact .fail
  | some b =>
    refine (Sim.bind (g := fun v η' => match v with | .bool b => .ok b η' | _ => .fail) h fun v η' φ' x s' e p r => ?_).cast rfl
    cases e
    simp only [QV, VR] at r; subst r
    exact .ok rfl (wpAny_holding (wpAny_truthy_bool ⟨φ', .refl p.rel, rfl⟩))

theorem c_cmp {op : COp} {a b : E} {l r : Expr} {pos : Pos} (hr : notSet r = true) (h1 : SimE T q d call sc Γ a l) (h2 : SimE T q d call sc Γ b r) : SimC T q d call sc Γ (.t (.cmp op a b)) (.Compare l [copOf op] [r] pos) := by
  intro A L φ η s env ρ X F
  show Sim T A L φ η s (do testChain pos (← eval l env) [copOf op] [markedBehindIn (copOf op) r (eval r env)]) _ _
  rw [marked_off hr]
  have e1 : evC T.P q call (.t (.cmp op a b)) ρ η = (evE T.P q call a ρ η).bind fun x h => (evE T.P q call b ρ h).bind fun y h => match cmpV op h x y with | some b => .ok b h | none => .fail := by
    show ((((evE T.P q call a ρ η).bind fun x h => (evE T.P q call b ρ h).bind fun y h => match cmpV op h x y with | some b => R.ok (V.bool b) h | none => .fail)).bind fun v h => match truth h v with | some b => .ok b h | none => .fail) = _
    cases evE T.P q call a ρ η with
    | ok x h =>
      dsimp only [R.bind]
      cases evE T.P q call b ρ h with
      | ok y h =>
        simp only [R.bind]
        cases cmpV op h x y <;> rfl
      | exc _ _ => rfl
      | fail => rfl
    | exc _ _ => rfl
    | fail => rfl
  rw [e1]
  refine Sim.bind (h1 A L φ η s env ρ X F) fun v η' φ' x s' _ p hq => ?_
  refine Sim.bind (Sim.holding (h2 A L φ' η' s' env ρ (X.step p) (F.step p.step))) fun w η'' φ'' y s'' _ p' hq' => ?_
  refine .standAt ?_
  exact Sim.test (.operate (vs := [x, y]) (sim_cmp op p'.rel (VR.step p'.step _ _ hq) hq' (by have := X.units; omega)))

theorem e_cmp2 {o1 o2 : COp} {a b c : E} {l m r : Expr} {pos : Pos} (hr : notSet r = true) (h1 : SimE T q d call sc Γ a l) (h2 : SimE T q d call sc Γ b m) (h3 : SimE T q d call sc Γ c r) :
    SimE T q d call sc Γ (.cmp2 o1 o2 a b c) (.Compare l [copOf o1, copOf o2] [m, r] pos) := by
  intro A L φ η s env ρ X F
  show Sim T A L φ η s (do compareChain pos (← eval l env) [copOf o1, copOf o2] [eval m env, markedBehindIn (copOf o2) r (eval r env)]) _ _
  rw [marked_off hr]
  refine Sim.bind (h1 A L φ η s env ρ X F) fun v η' φ' x s' _ p hq => ?_
  refine Sim.bind (Sim.holding (h2 A L φ' η' s' env ρ (X.step p) (F.step p.step))) fun w η'' φ'' y s'' _ p' hq' => ?_
  refine .standAt ?_
  have hc := sim_cmp (A := A) (L := L) o1 p'.rel (VR.step p'.step _ _ hq) hq' (by have := X.units; omega)
  cases e : cmpV o1 η'' v w with
  | none => exact .fail
  | some b =>
    rw [e] at hc
    refine (Sim.bind (g := fun z h => if b then (evE T.P q call c ρ h).bind fun z h => match cmpV o2 h w z with | some b => R.ok (V.bool b) h | none => R.fail else R.ok (V.bool b) h) (Sim.holding hc) fun v' η₃ φ₃ c' s₃ e₃ p₃ q₃ => ?_).cast (by cases b <;> rfl)
    cases e₃
    simp only [QV, VR] at q₃; subst q₃
    refine .release ?_
    cases b with
    | false => exact .ok rfl (wpAny_bind (wpAny_holding (wpAny_truthy_bool (wpAny_pure ⟨φ₃, .refl p₃.rel, by simp [QV, VR]⟩))))
    | true =>
      have rest : Sim T A L φ₃ η'' s₃ (compareChain pos y [copOf o2] [eval r env]) ((evE T.P q call c ρ η'').bind fun z h => match cmpV o2 h w z with | some b => R.ok (V.bool b) h | none => R.fail) (QV T) := by
        have pp := (p.trans p').trans p₃
        refine Sim.bind (Sim.holding (h3 A L φ₃ η'' s₃ env ρ (X.step pp) (F.step pp.step))) fun w' η₄ φ₄ y' s₄ _ p₄ q₄ => ?_
        exact .standAt (.operate (sim_cmp o2 p₄.rel (VR.step (p₃.trans p₄).step _ _ hq') q₄ (by have := X.units; omega)))
      exact rest.imp id fun r => wpAny_bind (wpAny_holding (wpAny_truthy_bool r))

theorem c_cmp2 {o1 o2 : COp} {a b c : E} {l m r : Expr} {pos : Pos} (hr : notSet r = true) (h1 : SimE T q d call sc Γ a l) (h2 : SimE T q d call sc Γ b m) (h3 : SimE T q d call sc Γ c r) :
    SimC T q d call sc Γ (.t (.cmp2 o1 o2 a b c)) (.Compare l [copOf o1, copOf o2] [m, r] pos) := by
  intro A L φ η s env ρ X F
  show Sim T A L φ η s (do testChain pos (← eval l env) [copOf o1, copOf o2] [eval m env, markedBehindIn (copOf o2) r (eval r env)]) _ _
  rw [marked_off hr]
  have e1 : evC T.P q call (.t (.cmp2 o1 o2 a b c)) ρ η = (evE T.P q call a ρ η).bind fun x h => (evE T.P q call b ρ h).bind fun y h => match cmpV o1 h x y with
      | some true => (evE T.P q call c ρ h).bind fun z h => match cmpV o2 h y z with | some b => .ok b h | none => .fail
      | some false => .ok false h
      | none => .fail := by
    show ((((evE T.P q call a ρ η).bind fun x h => (evE T.P q call b ρ h).bind fun y h => match cmpV o1 h x y with
      | some true => (evE T.P q call c ρ h).bind fun z h => match cmpV o2 h y z with | some b => R.ok (.bool b) h | none => .fail
      | some false => .ok (.bool false) h
      | none => .fail)).bind fun v h => match truth h v with | some b => .ok b h | none => .fail) = _
    cases evE T.P q call a ρ η with
    | ok x h =>
      dsimp only [R.bind]
      cases evE T.P q call b ρ h with
      | ok y h =>
        simp only [R.bind]
        cases cmpV o1 h x y with
        | none => rfl
        | some b =>
          cases b with
          | false => rfl
          | true =>
            dsimp only
            cases evE T.P q call c ρ h with
            | ok z h => simp only; cases cmpV o2 h y z <;> rfl
            | exc _ _ => rfl
            | fail => rfl
      | exc _ _ => rfl
      | fail => rfl
    | exc _ _ => rfl
    | fail => rfl
  rw [e1]
  refine Sim.bind (h1 A L φ η s env ρ X F) fun v η' φ' x s' _ p hq => ?_
  refine Sim.bind (Sim.holding (h2 A L φ' η' s' env ρ (X.step p) (F.step p.step))) fun w η'' φ'' y s'' _ p' hq' => ?_
  refine .standAt ?_
  have hc := sim_cmp (A := A) (L := L) o1 p'.rel (VR.step p'.step _ _ hq) hq' (by have := X.units; omega)
  cases e : cmpV o1 η'' v w with
  | none => exact .fail
  | some b =>
    rw [e] at hc
    refine (Sim.bind (g := fun z h => if b then (evE T.P q call c ρ h).bind fun z h => match cmpV o2 h w z with | some b => R.ok b h | none => R.fail else R.ok b h) (Sim.holding hc) fun v' η₃ φ₃ c' s₃ e₃ p₃ q₃ => ?_).cast (by cases b <;> rfl)
    cases e₃
    simp only [QV, VR] at q₃; subst q₃
    refine .release ?_
    cases b with
    | false => exact .ok rfl (wpAny_bind (wpAny_holding (wpAny_truthy_bool (wpAny_pure ⟨φ₃, .refl p₃.rel, rfl⟩))))
    | true =>
      have rest : Sim T A L φ₃ η'' s₃ (testChain pos y [copOf o2] [eval r env]) ((evE T.P q call c ρ η'').bind fun z h => match cmpV o2 h w z with | some b => R.ok b h | none => R.fail) QB := by
        have pp := (p.trans p').trans p₃
        refine Sim.bind (Sim.holding (h3 A L φ₃ η'' s₃ env ρ (X.step pp) (F.step pp.step))) fun w' η₄ φ₄ y' s₄ _ p₄ q₄ => ?_
        exact .standAt (Sim.test (.operate (vs := [y, y']) (sim_cmp o2 p₄.rel (VR.step (p₃.trans p₄).step _ _ hq') q₄ (by have := X.units; omega))))
      exact rest.imp id fun r => wpAny_bind (wpAny_holding (wpAny_truthy_bool r))

theorem c_plain {e : E} {x : Expr} (hx : plainTest e x = true) (hc : ∀ l os rs p, x ≠ .Compare l os rs p) (h : SimE T q d call sc Γ e x) : SimC T q d call sc Γ (.t e) x := by
  intro A L φ η s env ρ X F
  have hs : isTrue x env (eval x env) = (do let v ← eval x env; standAt x.pos; holding [v] (truthy v)) := by
    cases x <;> first | rfl | cases hx | exact absurd rfl (hc _ _ _ _)
  rw [hs]
  refine Sim.bind (h A L φ η s env ρ X F) fun v η' φ' y s' _ p hq => .standAt (.holding (sim_truth p.rel hq))

theorem c_not {c : C} {x : Expr} {pos : Pos} (h : SimC T q d call sc Γ c x) : SimC T q d call sc Γ (.not c) (.UnaryOp .Not x pos) := by
  intro A L φ η s env ρ X F
  show Sim T A L φ η s (do return !(← isTrue x env (eval x env))) _ _
  refine Sim.bind (h A L φ η s env ρ X F) fun v η' φ' y s' _ p hq => ?_
  cases hq
  exact .pure p.rel rfl

theorem c_and_aux : ∀ (cs : List C) (xs : List Expr), SimCL T q d call sc Γ cs xs → ∀ A L φ η s env ρ, Cxt T A L q d φ η s → FR T φ η s.heap L env sc Γ ρ → Sim T A L φ η s (allTrue .And xs env) (evCand T.P q call cs ρ η) QB
  | [], [], _, A, L, φ, η, s, env, ρ, X, F => .pure X.rel rfl
  | c :: cs, x :: xs, h, A, L, φ, η, s, env, ρ, X, F => by
    show Sim T A L φ η s (do match BoolOp.And, ← isTrue x env (eval x env) with | .And, false => pure false | .Or, true => pure true | _, _ => allTrue .And xs env) _ _
    refine Sim.bind (h.1 A L φ η s env ρ X F) fun v η' φ' y s' _ p hq => ?_
    cases hq
    cases v with
    | true => exact c_and_aux cs xs h.2 A L φ' η' s' env ρ (X.step p) (F.step p.step)
    | false => exact .pure p.rel rfl
  | [], _ :: _, h, _, _, _, _, _, _, _, _, _ => h.elim
  | _ :: _, [], h, _, _, _, _, _, _, _, _, _ => h.elim
theorem c_or_aux : ∀ (cs : List C) (xs : List Expr), SimCL T q d call sc Γ cs xs → ∀ A L φ η s env ρ, Cxt T A L q d φ η s → FR T φ η s.heap L env sc Γ ρ → Sim T A L φ η s (allTrue .Or xs env) (evCor T.P q call cs ρ η) QB
  | [], [], _, A, L, φ, η, s, env, ρ, X, F => .pure X.rel rfl
  | c :: cs, x :: xs, h, A, L, φ, η, s, env, ρ, X, F => by
    show Sim T A L φ η s (do match BoolOp.Or, ← isTrue x env (eval x env) with | .And, false => pure false | .Or, true => pure true | _, _ => allTrue .Or xs env) _ _
    refine Sim.bind (h.1 A L φ η s env ρ X F) fun v η' φ' y s' _ p hq => ?_
    cases hq
    cases v with
    | false => exact c_or_aux cs xs h.2 A L φ' η' s' env ρ (X.step p) (F.step p.step)
    | true => exact .pure p.rel rfl
  | [], _ :: _, h, _, _, _, _, _, _, _, _, _ => h.elim
  | _ :: _, [], h, _, _, _, _, _, _, _, _, _ => h.elim
theorem c_and {cs : List C} {xs : List Expr} {pos : Pos} (h : SimCL T q d call sc Γ cs xs) : SimC T q d call sc Γ (.and cs) (.BoolOp .And xs pos) := fun A L φ η s env ρ X F => c_and_aux cs xs h A L φ η s env ρ X F
theorem c_or {cs : List C} {xs : List Expr} {pos : Pos} (h : SimCL T q d call sc Γ cs xs) : SimC T q d call sc Γ (.or cs) (.BoolOp .Or xs pos) := fun A L φ η s env ρ X F => c_or_aux cs xs h A L φ η s env ρ X F

theorem e_sub {a b : E} {x i : Expr} {pos : Pos} (hi : notSlice i = true) (h1 : SimE T q d call sc Γ a x) (h2 : SimE T q d call sc Γ b i) : SimE T q d call sc Γ (.sub a b) (.Subscript x i pos) := by
  intro A L φ η s env ρ X F
  rw [eval_Subscript]
  refine Sim.bind (h1 A L φ η s env ρ X F) fun v η' φ' y s' _ p hq => ?_
  refine Sim.bind (Sim.holding (h2 A L φ' η' s' env ρ (X.step p) (F.step p.step))) fun w η'' φ'' z s'' _ p' hq' => .standAt ?_
  exact sim_tail (value := x) (slice := i) (fun o j => by cases i <;> first | rfl | cases hi) p'.rel (VR.step p'.step _ _ hq) hq'

theorem e_slice {mu : Bool} {a lo hi : E} {x : Expr} {l u : Option Expr} {pos pp : Pos} (h1 : SimE T q d call sc Γ a x)
    (h2 : match l with | none => isNoneE lo = true | some e => SimE T q d call sc Γ lo e) (h3 : match u with | none => isNoneE hi = true | some e => SimE T q d call sc Γ hi e) : SimE T q d call sc Γ (.slice mu a lo hi) (.Subscript x (.Slice l u none pp) pos) := by
  intro A L φ η s env ρ X F
  have part : ∀ (o : Option Expr) (e : E) (h : match o with | none => isNoneE e = true | some x => SimE T q d call sc Γ e x) φ η s, Cxt T A L q d φ η s → FR T φ η s.heap L env sc Γ ρ → Sim T A L φ η s (valueOrNone (evalOpt o env)) (evE T.P q call e ρ η) (QV T) := by
    intro o e h φ η s X F
    cases o with
    | none =>
      have : e = .const .none := by
        unfold isNoneE at h; dsimp only at h; split at h
        · rfl
        · cases h
      subst this
      exact .pure X.rel (by simp [QV, VR])
    | some y => exact h A L φ η s env ρ X F
  rw [eval_Subscript]
  refine Sim.bind (h1 A L φ η s env ρ X F) fun v η' φ' y s' _ p hq => ?_
  have X' := X.step p
  have F' := F.step p.step
  show Sim T A L φ' η' s' (holding [y] (do let l ← valueOrNone (evalOpt l env); let u ← holding [l] (valueOrNone (evalOpt u env)); let s ← holding [l, u] (valueOrNone (evalOpt none env)); newFields "slice" [l, u, s]) >>= fun i => do standAt pos; subscriptTail x (.Slice l u none pp) y i) _ _
  refine Sim.held ?_
  refine Sim.assoc ?_
  refine Sim.bind (part l lo h2 φ' η' s' X' F') fun v₁ η₁ φ₁ y₁ s₁ _ p₁ q₁ => ?_
  refine Sim.assoc ?_
  refine Sim.bind (Sim.holding (part u hi h3 φ₁ η₁ s₁ (X'.step p₁) (F'.step p₁.step))) fun v₂ η₂ φ₂ y₂ s₂ _ p₂ q₂ => ?_
  refine Sim.assoc ?_
  refine Sim.held ?_
  refine .pureBind ?_
  exact sim_slice (A := A) (L := L) mu (value := x) (l := l) (u := u) (pp := pp) p₂.rel (VR.step (p₁.trans p₂).step _ _ hq) (VR.step p₂.step _ _ q₁) q₂

theorem evEs_len (P : Prog) : ∀ (es : List E) (ρ : Rho) (η : H) (vs : List V) (η' : H), evEs P q call es ρ η = .ok vs η' → vs.length = es.length
  | [], _, _, _, _, e => by cases e; rfl
  | e :: es, ρ, η, vs, η', h => by
    unfold evEs at h
    cases h1 : evE P q call e ρ η with
    | ok v h1' =>
      rw [h1] at h
      dsimp only [R.bind] at h
      cases h2 : evEs P q call es ρ h1' with
      | ok ws h2' =>
        rw [h2] at h
        dsimp only [R.bind] at h
        cases h
        simp [evEs_len P es ρ h1' ws _ h2]
      | exc _ _ => rw [h2] at h; cases h
      | fail => rw [h2] at h; cases h
    | exc _ _ => rw [h1] at h; cases h
    | fail => rw [h1] at h; cases h

theorem e_list {mu : Bool} {es : List E} {xs : List Expr} {pos : Pos} (hl : es.length ≤ 1000) (h : SimEs T q d call sc Γ es xs) : SimE T q d call sc Γ (.list mu es) (.List xs pos) := by
  intro A L φ η s env ρ X F
  show Sim T A L φ η s (do standAt pos; newList (← spliced (backTo pos (starEach xs env)))) _ _
  refine .standAt (Sim.bind (h A L φ η s env ρ pos X F) fun vs η' φ' ys s' e p hq => ?_)
  obtain ⟨v, η'', φ'', e', p', r⟩ := mk_list mu p.rel (items := ys.toArray) (by simpa using hq) s'.toks
  refine .ok e' (wpAny_newList ⟨φ'', p', r⟩ ?_)
  have h1 := VRs.length hq
  have h2 := evEs_len T.P es ρ η vs η' e
  exact line_le (by omega)

theorem e_tuple {es : List E} {xs : List Expr} {k : Nat} {pos : Pos} (hl : es.length ≤ 1000) (h : SimEs T q d call sc Γ es xs) : SimE T q d call sc Γ (.tuple es) (.Tuple xs k pos) := by
  intro A L φ η s env ρ X F
  show Sim T A L φ η s (do standAt pos; newTuple (← spliced (backTo pos (starEach xs env)))) _ _
  refine .standAt (Sim.bind (h A L φ η s env ρ pos X F) fun vs η' φ' ys s' e p hq => ?_)
  have hv := mk_tup p.rel (items := ys.toArray) (by simpa using hq) s'.toks
  refine .ok rfl (wpAny_newTuple ⟨φ', hv.1, hv.2⟩ ?_)
  have h1 := VRs.length hq
  have h2 := evEs_len T.P es ρ η vs η' e
  exact line_le (by omega)

theorem own_free {n : Nat} {p : Addr × Addr} (R : Rel T φ η s.heap) {xs : List V} (hn : η[n]? = some (.list xs)) (hp : φ[n]? = some p) : ¬ own φ (η.set n .gone) p.1 := by
  rintro ⟨k, p', m, hp', hm, hg, hb⟩
  by_cases e : n = k
  · subst e
    have hlt : n < η.length := (List.getElem?_eq_some_iff.mp hn).1
    rw [List.getElem?_set_self hlt] at hm; cases hm; exact hg rfl
  · rw [List.getElem?_set_ne e] at hm
    have := R.disj n k p p' _ m hp hp' hn hm (by simp) hg e
    rcases hb with hb | hb
    · exact this.1 hb
    · exact this.2.1 hb

end
end Mine
end
section
namespace Mine
open PySem PyProof.Rows

def ItCls (c : String) : Prop := c = "list_iterator" ∨ c = "tuple_iterator" ∨ c = "str_ascii_iterator" ∨ c = "str_iterator" ∨ c = "range_iterator"

/-- where an iterator stands: what it still gives -/
inductive Iter (T : St) (φ : Phi) (η : H) (h : Heap) (I : Addr) (xs : List V) (live : Option (Nat × List V)) : Prop
  | lst (a : Addr) (items : Array Value) (k i : Nat) (all : List V) : xs = all.drop i → live = none → h.get? a = some (listO items k) → ¬ own φ η a → VRs T φ (own φ η) h all items.toList → h.IsListIter I a i → Iter T φ η h I xs live
  | live (n : Nat) (all : List V) (p : Addr × Addr) (i : Nat) : xs = all.drop i → live = some (n, all) → φ[n]? = some p → h.IsListIter I p.1 i → Iter T φ η h I xs live
  | tup (a : Addr) (items : Array Value) (k i : Nat) (all : List V) : xs = all.drop i → live = none → h.get? a = some (tupO items k) → ¬ own φ η a → VRs T φ (own φ η) h all items.toList → h.IsTupleIter I a i → Iter T φ η h I xs live
  | str (ty : String) (x : Str) (t : Tok) (i : Nat) : xs = (x.cps.toList.drop i).map (fun c => .str [c]) → live = none → (ty = "str_ascii_iterator" ∨ ty = "str_iterator") → h.IsStrIter I ty x t i → Iter T φ η h I xs live
  | range (m k : Int) : xs = (List.range k.toNat).map (fun i : Nat => .int (m + i)) → live = none → IsRangeIter h I m k 1 → Iter T φ η h I xs live

section
variable {T : St} {A : Around} {L : Addr} {φ φ' : Phi} {η η' : H} {s s' : Shared} {h h' : Heap} {I : Addr} {xs : List V} {live : Option (Nat × List V)} {E : Value → Shared → Prop}

theorem Iter.obj (x : Iter T φ η h I xs live) : ∃ o c, h.get? I = some o ∧ o.cls = .type c ∧ ItCls c := by
  cases x with
  | lst a items k i all e l g n r it => obtain ⟨o, h1, h2, _⟩ := it; exact ⟨o, _, h1, h2, .inl rfl⟩
  | live n all p i e l hp it => obtain ⟨o, h1, h2, _⟩ := it; exact ⟨o, _, h1, h2, .inl rfl⟩
  | tup a items k i all e l g n r it => obtain ⟨o, h1, h2, _⟩ := it; exact ⟨o, _, h1, h2, .inr (.inl rfl)⟩
  | str ty x t i e l hty it =>
    obtain ⟨o, h1, h2, _⟩ := it
    rcases hty with rfl | rfl
    · exact ⟨o, _, h1, h2, .inr (.inr (.inl rfl))⟩
    · exact ⟨o, _, h1, h2, .inr (.inr (.inr (.inl rfl)))⟩
  | range m k e l it => exact ⟨_, _, it, rfl, .inr (.inr (.inr (.inr rfl)))⟩
theorem ItCls.ne {c : String} (x : ItCls c) : c ≠ "tuple" ∧ c ≠ "list" ∧ c ≠ "frame" ∧ c ≠ "dict" ∧ c ≠ "cell" ∧ c ≠ "traceback" := by
  rcases x with rfl | rfl | rfl | rfl | rfl <;> decide
theorem Iter.priv (x : Iter T φ η h I xs live) : ∃ o, h.get? I = some o ∧ Priv o ∧ (∀ c, o.cls = .type c → c ≠ "frame" ∧ c ≠ "dict" ∧ c ≠ "cell") := by
  obtain ⟨o, c, g, hc, hi⟩ := x.obj
  refine ⟨o, g, ⟨c, hc, hi.ne.1, hi.ne.2.1⟩, fun c' e => ?_⟩
  rw [hc] at e; cases e
  exact ⟨hi.ne.2.2.1, hi.ne.2.2.2.1, hi.ne.2.2.2.2.1⟩

theorem Iter.step (st : Step φ η h φ' η' h') (hI : ¬ own φ η I) (x : Iter T φ η h I xs live) : Iter T φ' η' h' I xs live := by
  have ex : ∀ o, h.get? I = some o → h'.get? I = some o := fun o g => by
    obtain ⟨o', c, g', hc, hi⟩ := x.obj
    rw [g] at g'; cases g'
    exact (st.keep I o hI g).exact (by rw [hc]; simp [hi.ne.2.2.1]) (not_loose hc hi.ne.2.2.2.2.2)
  cases x with
  | lst a items k i all e l g n r it => exact .lst a items k i all e l ((st.keep a _ n g).exact (by simp) (not_loose rfl (by decide))) (st.off n g) (VRs.step st _ _ r) (it.at ex)
  | live n all p i e l hp it => exact .live n all p i e l (get_prefix st.ext hp) (it.at ex)
  | tup a items k i all e l g n r it => exact .tup a items k i all e l ((st.keep a _ n g).exact (by simp) (not_loose rfl (by decide))) (st.off n g) (VRs.step st _ _ r) (it.at ex)
  | str ty x t i e l hty it => exact .str ty x t i e l hty (let ⟨o, h1, h2⟩ := it; ⟨o, ex o h1, h2⟩)
  | range m k e l it => exact .range m k e l (ex _ it)

theorem drop_head {α : Type} {all : List α} {i : Nat} {v : α} {vs : List α} (e : v :: vs = all.drop i) : all[i]? = some v ∧ vs = all.drop (i + 1) := by
  have hi : i < all.length := by
    by_cases h : i < all.length
    · exact h
    · rw [List.drop_eq_nil_of_le (by omega)] at e; cases e
  rw [List.drop_eq_getElem_cons hi] at e
  cases e
  exact ⟨List.getElem?_eq_getElem hi, rfl⟩
theorem drop_nil {α : Type} {all : List α} {i : Nat} (e : [] = all.drop i) : all[i]? = none := List.getElem?_eq_none (List.drop_eq_nil_iff.mp e.symm)

theorem sameBut_keep {a : Addr} (x : Heap.SameBut a h h') : ∀ b o, b ≠ a → h.get? b = some o → h'.get? b = some o := fun b o hb e => (x.2 b hb).trans e

open Classical in
theorem still_some {n : Nat} {all : List V} (e : still η (some (n, all)) = true) : η[n]? = some (.list all) := of_decide_eq_true e

theorem Iter.next {v : V} {vs : List V} {Q : Option Value → Shared → Prop} (R : Rel T φ η s.heap) (x : Iter T φ η s.heap I (v :: vs) live) (hl : still η live = true)
    (hQ : ∀ y h' t, VR T φ (own φ η) h' v y → Iter T φ η h' I vs live → Heap.SameBut I s.heap h' → Q (some y) { s with heap := h', toks := t }) : wpAny T.M A (pyNext (.ref I)) Q E s := by
  obtain ⟨oI, gI, pI, _⟩ := x.priv
  obtain ⟨o', c, g', hc, hi⟩ := x.obj
  rw [gI] at g'; cases g'
  cases x with
  | lst a items k i all e l g n r it =>
    obtain ⟨h1, h2⟩ := drop_head e
    obtain ⟨y, hy, ry⟩ := r.get h1
    have ne : a ≠ I := fun q => by rw [q, gI] at g; cases g; cases hc; exact hi.ne.2.1 rfl
    refine wpAny_pyNext_list_item it ⟨_, g, rfl, k, rfl⟩ (by rw [← Array.getElem?_toList]; exact hy) fun h' it' hs => ?_
    have kk := sameBut_keep hs
    exact hQ y h' s.toks (VR.but gI pI kk _ _ ry) (.lst a items k (i + 1) all h2 l (kk _ _ ne g) n (VRs.but gI pI kk _ _ r) it') hs
  | live n all p i e l hp it =>
    subst l
    have hn := still_some hl
    obtain ⟨_, items, k, g, r⟩ := R.obj n _ p hn hp
    obtain ⟨h1, h2⟩ := drop_head e
    obtain ⟨y, hy, ry⟩ := r.get h1
    refine wpAny_pyNext_list_item it ⟨_, g, rfl, k, rfl⟩ (by rw [← Array.getElem?_toList]; exact hy) fun h' it' hs => ?_
    have kk := sameBut_keep hs
    exact hQ y h' s.toks (VR.but gI pI kk _ _ ry) (.live n all p (i + 1) h2 rfl hp it') hs
  | tup a items k i all e l g n r it =>
    obtain ⟨h1, h2⟩ := drop_head e
    obtain ⟨y, hy, ry⟩ := r.get h1
    have ne : a ≠ I := fun q => by rw [q, gI] at g; cases g; cases hc; exact hi.ne.1 rfl
    refine wpAny_pyNext_tuple_item it ⟨_, g, rfl, k, rfl⟩ (by rw [← Array.getElem?_toList]; exact hy) fun h' it' hs => ?_
    have kk := sameBut_keep hs
    exact hQ y h' s.toks (VR.but gI pI kk _ _ ry) (.tup a items k (i + 1) all h2 l (kk _ _ ne g) n (VRs.but gI pI kk _ _ r) it') hs
  | str ty x t i e l hty it =>
    rw [List.map_drop] at e
    obtain ⟨h1, h2⟩ := drop_head e
    rw [List.getElem?_map, Option.map_eq_some_iff] at h1
    obtain ⟨c, hc', rfl⟩ := h1
    rw [Array.getElem?_toList] at hc'
    rw [← List.map_drop] at h2
    have rv : ∀ h' t, VR T φ (own φ η) h' (V.str [c]) (.str ⟨#[c]⟩ t) := fun h' t => by simp [VR]
    rcases hty with rfl | rfl
    · exact wpAny_pyNext_ascii_item it hc' fun h' it' hs => hQ _ h' _ (rv _ _) (.str _ x t (i + 1) h2 l (.inl rfl) it') hs
    · exact wpAny_pyNext_wide_item it hc' fun h' it' hs => hQ _ h' _ (rv _ _) (.str _ x t (i + 1) h2 l (.inr rfl) it') hs
  | range m k e l it =>
    have hk : 0 < k := by
      by_cases h : 0 < k
      · exact h
      · rw [show k.toNat = 0 by omega] at e; cases e
    obtain ⟨n, hn⟩ : ∃ n, k.toNat = n + 1 := ⟨k.toNat - 1, by omega⟩
    rw [hn, List.range_succ_eq_map, List.map_cons] at e
    simp only [List.cons.injEq] at e
    obtain ⟨rfl, rfl⟩ := e
    refine wpAny_pyNext_range_item it hk fun h' it' hs => hQ _ h' _ (by simp [VR]) (.range (m + 1) (k - 1) ?_ l it') hs
    rw [show (k - 1).toNat = n by omega, List.map_map]
    refine List.map_congr_left fun j _ => ?_
    simp only [Function.comp]; congr 1; push_cast; omega

theorem Iter.fin {Q : Option Value → Shared → Prop} (hh : A.handled = none) (R : Rel T φ η s.heap) (x : Iter T φ η s.heap I [] live) (hl : still η live = true)
    (hQ : ∀ h', Heap.ExtBut I s.heap h' → Q none { s with heap := h' }) : wpAny T.M A (pyNext (.ref I)) Q E s := by
  cases x with
  | lst a items k i all e l g n r it =>
    have h1 := drop_nil e
    have := len_items r
    exact wpAny_pyNext_list_end hh it ⟨_, g, rfl, k, rfl⟩ (Array.getElem?_eq_none (by rw [this]; exact List.getElem?_eq_none_iff.mp h1)) hQ
  | live n all p i e l hp it =>
    subst l
    have hn := still_some hl
    obtain ⟨_, items, k, g, r⟩ := R.obj n _ p hn hp
    have h1 := drop_nil e
    have := len_items r
    exact wpAny_pyNext_list_end hh it ⟨_, g, rfl, k, rfl⟩ (Array.getElem?_eq_none (by rw [this]; exact List.getElem?_eq_none_iff.mp h1)) hQ
  | tup a items k i all e l g n r it =>
    have h1 := drop_nil e
    have := len_items r
    exact wpAny_pyNext_tuple_end hh it ⟨_, g, rfl, k, rfl⟩ (Array.getElem?_eq_none (by rw [this]; exact List.getElem?_eq_none_iff.mp h1)) hQ
  | str ty x t i e l hty it =>
    rw [List.map_drop] at e
    have h1 := drop_nil e
    rw [List.getElem?_map, Option.map_eq_none_iff, Array.getElem?_toList] at h1
    rcases hty with rfl | rfl
    · exact wpAny_pyNext_ascii_end hh it h1 hQ
    · exact wpAny_pyNext_wide_end hh it h1 hQ
  | range m k e l it =>
    refine wpAny_pyNext_range_end hh it ?_ hQ
    by_cases h : k ≤ 0
    · exact h
    · exfalso
      have := congrArg List.length e
      simp at this; omega

theorem Iter.self {Q : Value → Shared → Prop} (x : Iter T φ η s.heap I xs live) (h : Q (.ref I) s) : wpAny T.M A (pyIter (.ref I)) Q E s := by
  cases x with
  | lst a items k i all e l g n r it => exact wpAny_pyIter_listiter it h
  | live n all p i e l hp it => exact wpAny_pyIter_listiter it h
  | tup a items k i all e l g n r it => exact wpAny_pyIter_tupleiter it h
  | str ty x t i e l hty it =>
    rcases hty with rfl | rfl
    · exact wpAny_pyIter_striter_ascii it h
    · exact wpAny_pyIter_striter_wide it h
  | range m k e l it => exact wpAny_pyIter_rangeiter it h

/-- what a loop goes over: a value, or a range -/
def QIt (T : St) : QR Value V := fun φ η h v x => VR T φ (own φ η) h v x ∨
  ∃ r m k t u w, x = .ref r ∧ IsRange h r m k 1 t u w ∧ okR m = true ∧ okR k = true ∧ v = .lst ((List.range (k - m).toNat).map fun i : Nat => .int (m + i))

theorem ok_r {i : Int} (h : okR i = true) : -1000000000000 ≤ i ∧ i < 1000000000000 := by
  unfold okR at h
  simp only [Bool.and_eq_true, decide_eq_true_eq] at h
  exact h

theorem iter_start {v : V} {x : Value} {Q : Value → Shared → Prop} (R : Rel T φ η s.heap) (e : itemsOf η v = some (xs, live)) (r : QIt T φ η s.heap v x)
    (hQ : ∀ I h', s.heap.get? I = none → (∀ b o, s.heap.get? b = some o → h'.get? b = some o) → Iter T φ η h' I xs live → Q (.ref I) { s with heap := h' }) : wpAny T.M A (pyIter x) Q E s := by
  have sz : s.heap.get? s.heap.objs.size = none := Heap.get?_none_of_le (Nat.le_refl _)
  rcases r with r | ⟨rr, m, k, t, u, w, rfl, hr, hm, hk, rfl⟩
  · unfold itemsOf at e
    split at e
    · rename_i ys
      cases e
      simp only [VR] at r
      obtain ⟨a, items, k, rfl, hN, g, r⟩ := r
      have st : Step φ η s.heap φ η (s.heap.push { cls := .type "list_iterator", data := .fields #[.ref a, .int 0 0] }) := .keeps (push_keeps _)
      exact wpAny_pyIter_list ⟨_, g, rfl, k, rfl⟩ (hQ _ _ sz (push_keeps _) (.lst a items k 0 _ rfl rfl (push_keeps _ _ _ g) hN (VRs.step st _ _ r) ⟨_, Heap.get?_push_size _ rfl, rfl, rfl⟩))
    · rename_i ys
      cases e
      simp only [VR] at r
      obtain ⟨a, items, k, rfl, hN, g, r⟩ := r
      have st : Step φ η s.heap φ η (s.heap.push { cls := .type "tuple_iterator", data := .fields #[.ref a, .int 0 0] }) := .keeps (push_keeps _)
      exact wpAny_pyIter_tuple ⟨_, g, rfl, k, rfl⟩ (hQ _ _ sz (push_keeps _) (.tup a items k 0 _ rfl rfl (push_keeps _ _ _ g) hN (VRs.step st _ _ r) ⟨_, Heap.get?_push_size _ rfl, rfl, rfl⟩))
    · rename_i cs
      cases e
      simp only [VR] at r
      obtain ⟨t, rfl⟩ := r
      have hx : (List.map (fun c => V.str [c]) cs) = ((⟨cs.toArray⟩ : Str).cps.toList.drop 0).map (fun c => V.str [c]) := by simp
      cases ha : (⟨cs.toArray⟩ : Str).cps.all (· < 128) with
      | true => exact wpAny_pyIter_ascii ha (hQ _ _ sz (push_keeps _) (.str _ ⟨cs.toArray⟩ t 0 hx rfl (.inl rfl) ⟨_, Heap.get?_push_size _ rfl, rfl, rfl⟩))
      | false => exact wpAny_pyIter_wide ha (hQ _ _ sz (push_keeps _) (.str _ ⟨cs.toArray⟩ t 0 hx rfl (.inr rfl) ⟨_, Heap.get?_push_size _ rfl, rfl, rfl⟩))
    · rename_i n
      split at e
      · rename_i ys hn
        cases e
        simp only [VR] at r
        obtain ⟨p, hp, rfl⟩ := r
        obtain ⟨_, items, k, g, r⟩ := R.obj n _ p hn hp
        exact wpAny_pyIter_list ⟨_, g, rfl, k, rfl⟩ (hQ _ _ sz (push_keeps _) (.live n _ p 0 rfl rfl hp ⟨_, Heap.get?_push_size _ rfl, rfl, rfl⟩))
      · cases e
    · cases e
  · cases e
    have h1 := ok_r hm
    have h2 := ok_r hk
    refine wpAny_pyIter_range hr (small_one (by omega) (by omega) (by omega) (by omega)) (hQ _ _ sz (push_keeps _) (.range m (Builtin.Range.rangeSize m k 1) ?_ rfl (Heap.get?_push_size _ rfl)))
    rw [rangeSize_one]
    split
    · rfl
    · rw [show (k - m).toNat = 0 by omega]; rfl
end
end Mine
end
section
namespace Mine
open PySem PyProof.Rows

structure Sta (A : Around) (q : Bool) (d : Nat) : Prop where
  hand : q = true → A.handled = none
  depth : A.depth + 4 * d + 4 ≤ recursionLimit
  units : A.units + 20 * d + 20 < cLine

/-- neither a frame's names nor its cells -/
def Off (env : Env) (b : Addr) : Prop := b ≠ env.locals ∧ ∀ n c, env.cells.lookup n = some c → b ≠ c
/-- a step in a frame, whose own names may turn -/
structure StepL (env : Env) (φ : Phi) (η : H) (h : Heap) (φ' : Phi) (η' : H) (h' : Heap) : Prop where
  ext : φ <+: φ'
  keep : ∀ b o, ¬ own φ η b → Off env b → h.get? b = some o → StayO o h' b
  osub : ∀ b, own φ' η' b → own φ η b ∨ h.get? b = none
  alive : ∀ b o, h.get? b = some o → (h'.get? b).isSome = true

section
variable {cw : Bool} {T : St} {A : Around} {L : Addr} {q : Bool} {d : Nat} {φ₀ φ φ' φ₁ φ₂ φ₃ : Phi} {η₀ η η' η₁ η₂ η₃ : H} {s₀ s s' : Shared} {h h' h₁ h₂ h₃ : Heap} {env : Env} {sc : Scope} {Γ : Gam} {ρ : Rho} {α β : Type} {I : Addr} {xs : List V} {live : Option (Nat × List V)}

theorem Step.toL (st : Step φ η h φ' η' h') : StepL env φ η h φ' η' h' := ⟨st.ext, fun b o hb _ e => st.keep b o hb e, st.osub, st.alive⟩
theorem StepL.off (st : StepL env φ η h φ' η' h') {a : Addr} {o : Obj} (hN : ¬ own φ η a) (hg : h.get? a = some o) : ¬ own φ' η' a :=
  fun q => (st.osub a q).elim hN fun q => by rw [q] at hg; cases hg
theorem StepL.trans (x : StepL env φ₁ η₁ h₁ φ₂ η₂ h₂) (y : StepL env φ₂ η₂ h₂ φ₃ η₃ h₃) : StepL env φ₁ η₁ h₁ φ₃ η₃ h₃ where
  ext := x.ext.trans y.ext
  keep := fun b o hb ho e => by
    have hb₂ : ¬ own φ₂ η₂ b := x.off hb e
    exact (x.keep b o hb ho e).trans fun o' e' => y.keep b o' hb₂ ho e'
  osub := fun b q => by
    rcases y.osub b q with q | q
    · exact x.osub b q
    · right
      cases e : h₁.get? b with
      | none => rfl
      | some o => have := x.alive b o e; rw [q] at this; cases this
  alive := fun b o e => by
    obtain ⟨o', e'⟩ := Option.isSome_iff_exists.mp (x.alive b o e)
    exact y.alive b o' e'
theorem StepL.refl : StepL env φ η h φ η h := (Step.refl φ η h).toL

theorem FS.cxt (F : FS cw T A L φ₀ η₀ s₀ φ η s env sc Γ ρ) (X : Sta A q d) : Cxt T A L q d φ η s := ⟨X.hand, X.depth, X.units, F.stk, F.post.rel⟩

/-- an object of another kind is none of the frame's own -/
theorem FR.offOf (F : FR T φ η h L env sc Γ ρ) {b : Addr} {o : Obj} (g : h.get? b = some o) (hc : ∀ c, o.cls = .type c → c ≠ "frame" ∧ c ≠ "dict" ∧ c ≠ "cell") : Off env b := by
  refine ⟨fun q => ?_, fun n c e q => ?_⟩
  · obtain ⟨c, m, ⟨_, o', g', ho⟩, hcc, _⟩ := F.ns
    rw [← q, g] at g'; cases g'
    rcases hcc with rfl | rfl
    · exact (hc _ ho).1 rfl
    · exact (hc _ ho).2.1 rfl
  · obtain ⟨ov, o', g', ho, _⟩ := F.cthere n c e
    rw [← q, g] at g'; cases g'
    exact (hc _ ho).2.2 rfl

mutual
theorem VR.stepL (st : StepL env φ η h φ' η' h') (F : FR T φ η h L env sc Γ ρ) : ∀ (v : V) (x : Value), VR T φ (own φ η) h v x → VR T φ' (own φ' η') h' v x
  | .none, _, e => e
  | .bool _, _, e => e
  | .int _, _, e => e
  | .str _, _, e => e
  | .tup xs, x, e => by
    simp only [VR] at e ⊢
    obtain ⟨a, items, n, rfl, hN, hg, hr⟩ := e
    exact ⟨a, items, n, rfl, st.off hN hg, (st.keep a _ hN (F.offOf hg (by intro c q; cases q; decide)) hg).exact (by simp) (not_loose rfl (by decide)), VRs.stepL st F xs _ hr⟩
  | .lst xs, x, e => by
    simp only [VR] at e ⊢
    obtain ⟨a, items, n, rfl, hN, hg, hr⟩ := e
    exact ⟨a, items, n, rfl, st.off hN hg, (st.keep a _ hN (F.offOf hg (by intro c q; cases q; decide)) hg).exact (by simp) (not_loose rfl (by decide)), VRs.stepL st F xs _ hr⟩
  | .ref n, x, e => by
    simp only [VR] at e ⊢
    obtain ⟨p, hp, rfl⟩ := e
    exact ⟨p, get_prefix st.ext hp, rfl⟩
theorem VRs.stepL (st : StepL env φ η h φ' η' h') (F : FR T φ η h L env sc Γ ρ) : ∀ (v : List V) (x : List Value), VRs T φ (own φ η) h v x → VRs T φ' (own φ' η') h' v x
  | [], _, e => e
  | y :: ys, x, e => by
    simp only [VRs] at e ⊢
    obtain ⟨v, r, rfl, h1, h2⟩ := e
    exact ⟨v, r, rfl, VR.stepL st F y v h1, VRs.stepL st F ys r h2⟩
end

theorem Iter.stepL (st : StepL env φ η h φ' η' h') (F : FR T φ η h L env sc Γ ρ) (hI : ¬ own φ η I) (x : Iter T φ η h I xs live) : Iter T φ' η' h' I xs live := by
  have ex : ∀ o, h.get? I = some o → h'.get? I = some o := fun o g => by
    obtain ⟨o', c, g', hc, hi⟩ := x.obj
    rw [g] at g'; cases g'
    exact (st.keep I o hI (F.offOf g (by intro c' q; rw [hc] at q; cases q; exact ⟨hi.ne.2.2.1, hi.ne.2.2.2.1, hi.ne.2.2.2.2.1⟩)) g).exact (by rw [hc]; simp [hi.ne.2.2.1]) (not_loose hc hi.ne.2.2.2.2.2)
  cases x with
  | lst a items k i all e l g n r it => exact .lst a items k i all e l ((st.keep a _ n (F.offOf g (by intro c q; cases q; decide)) g).exact (by simp) (not_loose rfl (by decide))) (st.off n g) (VRs.stepL st F _ _ r) (it.at ex)
  | live n all p i e l hp it => exact .live n all p i e l (get_prefix st.ext hp) (it.at ex)
  | tup a items k i all e l g n r it => exact .tup a items k i all e l ((st.keep a _ n (F.offOf g (by intro c q; cases q; decide)) g).exact (by simp) (not_loose rfl (by decide))) (st.off n g) (VRs.stepL st F _ _ r) (it.at ex)
  | str ty x t i e l hty it => exact .str ty x t i e l hty (let ⟨o, h1, h2⟩ := it; ⟨o, ex o h1, h2⟩)
  | range m k e l it => exact .range m k e l (ex _ it)

/-- a private object that is none of the frame's turns -/
theorem FR.but {o : Obj} (F : FR T φ η h L env sc Γ ρ) (g : h.get? I = some o) (p : Priv o) (ho : Off env I) (k : ∀ b o, b ≠ I → h.get? b = some o → h'.get? b = some o) : FR T φ η h' L env sc Γ ρ where
  sc := F.sc
  kind := F.kind
  glob := F.glob
  bi := F.bi
  frame := F.frame
  ns := by
    obtain ⟨c, m, ⟨⟨o₁, es, ep, e₁, r₁⟩, o₂, e₂, hc₂⟩, hc, hv⟩ := F.ns
    refine ⟨c, m, ⟨⟨o₁, es, ep, k _ _ (Ne.symm ho.1) e₁, r₁⟩, o₂, k _ _ (Ne.symm ho.1) e₂, hc₂⟩, hc, fun n i v h1 h2 h3 => ?_⟩
    obtain ⟨x, e, r⟩ := hv n i v h1 h2 h3
    exact ⟨x, e, VR.but g p k _ _ r⟩
  cell := fun n i h1 h2 => by
    obtain ⟨c, ov, e, ⟨o', e', hc', hd'⟩, hv⟩ := F.cell n i h1 h2
    refine ⟨c, ov, e, ⟨o', k _ _ (Ne.symm (ho.2 n c e)) e', hc', hd'⟩, fun v hr => ?_⟩
    obtain ⟨x, e', r⟩ := hv v hr
    exact ⟨x, e', VR.but g p k _ _ r⟩
  lfresh := F.lfresh
  cthere := fun n c e => let ⟨ov, o', e', hc', hd'⟩ := F.cthere n c e; ⟨ov, o', k _ _ (Ne.symm (ho.2 n c e)) e', hc', hd'⟩
  cfresh := F.cfresh
  apart := F.apart
  inj := F.inj

theorem FS.fresh (F : FS cw T A L φ₀ η₀ s₀ φ η s env sc Γ ρ) (hI : s.heap.get? I = none) : s₀.heap.get? I = none ∧ ¬ own φ η I ∧ T.base.get? I = none := by
  refine ⟨?_, fun o => ?_, ?_⟩
  · cases e : s₀.heap.get? I with
    | none => rfl
    | some o => have := F.post.step.alive I o e; rw [hI] at this; cases this
  · obtain ⟨ob, e, _⟩ := F.post.rel.there o
    rw [hI] at e; cases e
  · cases e : T.base.get? I with
    | none => rfl
    | some o => have := F.post.rel.base I o e; rw [hI] at this; cases this

theorem FS.but {o : Obj} {t : Nat} (F : FS cw T A L φ₀ η₀ s₀ φ η s env sc Γ ρ) (g : s.heap.get? I = some o) (p : Priv o) (hc : ∀ c, o.cls = .type c → c ≠ "frame" ∧ c ≠ "dict" ∧ c ≠ "cell") (h0 : s₀.heap.get? I = none) (ho : ¬ own φ η I) (hb : T.base.get? I = none)
    (k : ∀ b o, b ≠ I → s.heap.get? b = some o → h'.get? b = some o) : FS cw T A L φ₀ η₀ s₀ φ η { s with heap := h', toks := t } env sc Γ ρ :=
  ⟨F.post.but h0 g p ho hb k, F.fr.but g p (F.fr.offOf g hc) k, let ⟨t, u, h1, h2, h3⟩ := F.stk; ⟨t, u, h1, h2, h3.but g k fun q => absurd rfl (hc _ q).1⟩, F.l0, F.c0⟩

theorem StepL.but {o : Obj} (g : h.get? I = some o) (k : ∀ b o, b ≠ I → h.get? b = some o → h'.get? b = some o) (a : (h'.get? I).isSome = true) (st : StepL env φ₀ η₀ h₁ φ η h) (h0 : h₁.get? I = none) : StepL env φ₀ η₀ h₁ φ η h' where
  ext := st.ext
  keep := fun b ob hb ho e => by
    have hne : b ≠ I := fun q => by rw [q, h0] at e; cases e
    exact (st.keep b ob hb ho e).trans fun o' e' => .inl (k b o' hne e')
  osub := st.osub
  alive := fun b ob e => by
    have hne : b ≠ I := fun q => by rw [q, h0] at e; cases e
    obtain ⟨o', e'⟩ := Option.isSome_iff_exists.mp (st.alive b ob e)
    rw [k b o' hne e']; rfl

/-- a statement's end -/
def SimR (T : St) (A : Around) (L : Addr) (φ₀ : Phi) (η₀ : H) (s₀ : Shared) (env : Env) (sc : Scope) (Γ : Gam) (φ : Phi) (η : H) (s : Shared) (t : Sem Flow) (r : RS) : Prop :=
  r = .fail ∨ wpAny T.M A t (fun f s' => ∃ φ' η' ρ', (r = .next ρ' η' ∧ f = .next ∨ ∃ v x, r = .ret v ρ' η' ∧ f = .ret x ∧ VR T φ' (own φ' η') s'.heap v x) ∧ FS true T A L φ₀ η₀ s₀ φ' η' s' env sc Γ ρ' ∧ StepL env φ η s.heap φ' η' s'.heap)
    (fun e s' => ∃ c φ' η' ρ', r = .exc c ρ' η' ∧ FS true T A L φ₀ η₀ s₀ φ' η' s' env sc Γ ρ' ∧ StepL env φ η s.heap φ' η' s'.heap ∧ XR T s'.heap e c L) s

def SimS (T : St) (q : Bool) (d : Nat) (call : Bool → Nat → List V → H → R V) (sc : Scope) (Γ : Gam) (st : S) (x : Stmt) : Prop :=
  ∀ A L φ₀ η₀ s₀ φ η s env ρ, Sta A q d → FS true T A L φ₀ η₀ s₀ φ η s env sc Γ ρ → SimR T A L φ₀ η₀ s₀ env sc Γ φ η s (exec x env) (evS T.P call q st ρ η)
def SimSs (T : St) (q : Bool) (d : Nat) (call : Bool → Nat → List V → H → R V) (sc : Scope) (Γ : Gam) (st : List S) (x : List Stmt) : Prop :=
  ∀ A L φ₀ η₀ s₀ φ η s env ρ, Sta A q d → FS true T A L φ₀ η₀ s₀ φ η s env sc Γ ρ → SimR T A L φ₀ η₀ s₀ env sc Γ φ η s (execs x env) (evSs T.P call q st ρ η)

theorem SimR.expr {t : Sem α} {k : α → Sem Flow} {r : R β} {g : β → H → RS} {Q : QR α β} (F : FS true T A L φ₀ η₀ s₀ φ η s env sc Γ ρ) (h1 : Sim T A L φ η s t r Q)
    (h2 : ∀ v η' φ' x s', r = .ok v η' → FS true T A L φ₀ η₀ s₀ φ' η' s' env sc Γ ρ → Q φ' η' s'.heap v x → SimR T A L φ₀ η₀ s₀ env sc Γ φ' η' s' (k x) (g v η')) : SimR T A L φ₀ η₀ s₀ env sc Γ φ η s (t >>= k) (RS.of ρ r g) := by
  rcases h1 with h1 | h1
  · left; rw [h1]; rfl
  · cases r with
    | fail => left; rfl
    | exc c h =>
      right
      refine wpAny_bind (wpAny_mono h1 (fun x s' ⟨v, η', φ', e, _⟩ => by cases e) fun e s' ⟨c', η', φ', he, hp, hx⟩ => ?_)
      cases he
      exact ⟨c, φ', h, ρ, rfl, F.step hp, hp.step.toL, hx⟩
    | ok v₀ η₀ =>
      by_cases hf : g v₀ η₀ = .fail
      · left; exact hf
      · right
        refine wpAny_bind (wpAny_mono h1 (fun x s' ⟨v, η', φ', e, hp, hq⟩ => ?_) fun e s' ⟨c', η', φ', he, _⟩ => by cases he)
        cases e
        rcases h2 v₀ η₀ φ' x s' rfl (F.step hp) hq with h3 | h3
        · exact absurd h3 hf
        · refine wpAny_mono h3 (fun y s'' ⟨φ₁, η₁, ρ₁, h4, h5, h6⟩ => ⟨φ₁, η₁, ρ₁, h4, h5, hp.step.toL.trans h6⟩) fun e s'' ⟨c', φ₁, η₁, ρ₁, h4, h5, h6, h7⟩ => ⟨c', φ₁, η₁, ρ₁, h4, h5, hp.step.toL.trans h6, h7⟩
theorem SimR.standAt {p : Pos} {k : Unit → Sem Flow} {r : RS} (h : SimR T A L φ₀ η₀ s₀ env sc Γ φ η s (k ()) r) : SimR T A L φ₀ η₀ s₀ env sc Γ φ η s (PySem.standAt p >>= k) r :=
  h.imp id fun h => wpAny_bind (wpAny_standAt h)
theorem SimR.of_eq {t t' : Sem Flow} {r : RS} (e : t = t') (h : SimR T A L φ₀ η₀ s₀ env sc Γ φ η s t' r) : SimR T A L φ₀ η₀ s₀ env sc Γ φ η s t r := e ▸ h

theorem FS.stepL_store (F : FS cw T A L φ₀ η₀ s₀ φ η s env sc Γ ρ) (k : ∀ b o, b ≠ env.locals → (∀ n c, env.cells.lookup n = some c → b ≠ c) → s.heap.get? b = some o → s'.heap.get? b = some o) (a : ∀ b o, s.heap.get? b = some o → (s'.heap.get? b).isSome = true) : StepL env φ η s.heap φ η s'.heap :=
  ⟨List.prefix_refl _, fun b o _ ho e => .inl (k b o ho.1 ho.2 e), fun _ o => .inl o, a⟩

variable {call : Bool → Nat → List V → H → R V}

theorem loc_kind {n : Str} (h : isLoc sc n = true) : sc.names.lookup n = some .local ∨ sc.names.lookup n = some .cell := by
  unfold isLoc at h
  rw [Bool.and_eq_true, Bool.or_eq_true, beq_iff_eq, beq_iff_eq] at h
  exact h.1
theorem loc_store {n : Str} (h : isLoc sc n = true) : sc.names.lookup n = some .local ∨ (sc.names.lookup n = some .cell ∧ true = true) := (loc_kind h).imp id fun x => ⟨x, rfl⟩
theorem loc_debug {n : Str} (h : isLoc sc n = true) : (n == ("__debug__" : Str)) = false := by
  unfold isLoc at h
  rw [Bool.and_eq_true, Bool.not_eq_true'] at h
  exact h.2

/-- a value is stored -/
theorem sim_store {n : Str} {i : Nat} {v : V} {x : Value} {p : Pos} (F : FS true T A L φ₀ η₀ s₀ φ η s env sc Γ ρ) (hΓ : Γ.lookup n = some i) (hn : isLoc sc n = true) (r : VR T φ (own φ η) s.heap v x) :
    SimR T A L φ₀ η₀ s₀ env sc Γ φ η s (do PySem.standAt p; bindName env n x; pure .next) (.next (ρ.set i (some v)) η) :=
  .inr (wpAny_bind (wpAny_standAt (wpAny_bind (wpAny_bindName (F.store hΓ (loc_store hn) r fun s' F' k a _ => wpAny_pure ⟨φ, η, _, .inl ⟨rfl, rfl⟩, F', F.stepL_store k a⟩)))))

theorem s_assign' {x : Nat} {e : E} {n : Str} {v : Expr} {p pos : Pos} (hv : notComp v = true) (hΓ : Γ.lookup n = some x) (hn : isLoc sc n = true) (h : SimE T q d (call q) sc Γ e v) : SimS T q d call sc Γ (.assign x e) (.Assign [.Name n p] v pos) := by
  intro A L φ₀ η₀ s₀ φ η s env ρ X F
  rw [exec_Assign_Name env n p v pos (by cases v <;> first | rfl | cases hv)]
  refine SimR.standAt ?_
  rw [evS]
  exact SimR.expr F (h A L φ η s env ρ (F.cxt X) F.fr) fun w η' φ' y s' _ F' hq => sim_store F' hΓ hn hq

theorem s_ret' {e : E} {v : Expr} {pos : Pos} (h : SimE T q d (call q) sc Γ e v) : SimS T q d call sc Γ (.ret e) (.Return (some v) pos) := by
  intro A L φ₀ η₀ s₀ φ η s env ρ X F
  rw [exec_Return_some]
  refine SimR.standAt ?_
  rw [evS]
  exact SimR.expr F (h A L φ η s env ρ (F.cxt X) F.fr) fun w η' φ' y s' _ F' hq => .inr (wpAny_pure ⟨φ', η', ρ, .inr ⟨w, y, rfl, rfl, hq⟩, F', .refl⟩)

theorem s_ite' {c : C} {a b : List S} {t : Expr} {x y : List Stmt} {pos : Pos} (h0 : SimC T q d (call q) sc Γ c t) (h1 : SimSs T q d call sc Γ a x) (h2 : SimSs T q d call sc Γ b y) : SimS T q d call sc Γ (.ite c a b) (.If t x y pos) := by
  intro A L φ₀ η₀ s₀ φ η s env ρ X F
  rw [exec_If]
  refine SimR.standAt ?_
  rw [evS]
  refine SimR.expr F (h0 A L φ η s env ρ (F.cxt X) F.fr) fun w η' φ' z s' _ F' hq => ?_
  cases hq
  cases w with
  | true => exact h1 A L φ₀ η₀ s₀ φ' η' s' env ρ X F'
  | false => exact h2 A L φ₀ η₀ s₀ φ' η' s' env ρ X F'

theorem ss_nil : SimSs T q d call sc Γ [] [] := fun A L φ₀ η₀ s₀ φ η s env ρ X F => by
  rw [evSs]
  exact .inr (wpAny_execs_nil ⟨φ, η, ρ, .inl ⟨rfl, rfl⟩, F, .refl⟩)
theorem ss_cons {st : S} {ss : List S} {x : Stmt} {xs : List Stmt} (h1 : SimS T q d call sc Γ st x) (h2 : SimSs T q d call sc Γ ss xs) : SimSs T q d call sc Γ (st :: ss) (x :: xs) := by
  intro A L φ₀ η₀ s₀ φ η s env ρ X F
  rw [evSs]
  rcases h1 A L φ₀ η₀ s₀ φ η s env ρ X F with h | h
  · left; rw [h]
  · cases e : evS T.P call q st ρ η with
    | fail => left; rfl
    | next ρ' η' =>
      by_cases hf : evSs T.P call q ss ρ' η' = .fail
      · left; exact hf
      right
      refine wpAny_execs_cons (wpAny_mono h (fun f s' ⟨φ₁, η₁, ρ₁, h4, F₁, st₁⟩ => ?_) fun e' s' ⟨c, φ₁, η₁, ρ₁, h4, _⟩ => by rw [e] at h4; cases h4)
      rw [e] at h4
      rcases h4 with ⟨h4, rfl⟩ | ⟨v, y, h4, _⟩
      · cases h4
        rcases h2 A L φ₀ η₀ s₀ φ₁ η' s' env ρ' X F₁ with h5 | h5
        · exact absurd h5 hf
        · exact wpAny_mono h5 (fun y s'' ⟨φ₁, η₁, ρ₁, h4, h5, h6⟩ => ⟨φ₁, η₁, ρ₁, h4, h5, st₁.trans h6⟩) fun e s'' ⟨c', φ₁, η₁, ρ₁, h4, h5, h6, h7⟩ => ⟨c', φ₁, η₁, ρ₁, h4, h5, st₁.trans h6, h7⟩
      · cases h4
    | ret v ρ' η' =>
      right
      refine wpAny_execs_cons (wpAny_mono h (fun f s' ⟨φ₁, η₁, ρ₁, h4, F₁, st₁⟩ => ?_) fun e' s' ⟨c, φ₁, η₁, ρ₁, h4, _⟩ => by rw [e] at h4; cases h4)
      rw [e] at h4
      rcases h4 with ⟨h4, _⟩ | ⟨v, y, h4, rfl, r⟩
      · cases h4
      · cases h4
        exact ⟨φ₁, η', ρ', .inr ⟨v, y, rfl, rfl, r⟩, F₁, st₁⟩
    | exc c ρ' η' =>
      right
      refine wpAny_execs_cons (wpAny_mono h (fun f s' ⟨φ₁, η₁, ρ₁, h4, F₁, st₁⟩ => ?_) fun e' s' ⟨c, φ₁, η₁, ρ₁, h4, h5⟩ => ⟨c, φ₁, η₁, ρ₁, by rw [e] at h4; exact h4, h5⟩)
      rw [e] at h4
      rcases h4 with ⟨h4, _⟩ | ⟨v, y, h4, _⟩ <;> cases h4

/-- an exception of the body: the frame is noted, the loop is left -/
theorem noted_back {e : Value} {c : Nat} {E : Value → Shared → Prop} (F : FS cw T A L φ₀ η₀ s₀ φ η s env sc Γ ρ) (x : XR T s.heap e c L)
    (h : ∀ s', Post T φ η s φ η s' → XR T s'.heap e c L → E e s') : notedBy T.M A env (fun e s' => cameBackBy T.M A env E e s') e s := by
  obtain ⟨a, rfl, r⟩ := x
  obtain ⟨top, outer, h1, h2, h3⟩ := F.stk
  refine wpAny_mono (note h1 h2 h3 F.fr.frame F.post.rel r) (fun _ s' ⟨p, rn⟩ => ?_) fun _ _ y => y
  exact came_back F.fr.frame p.rel rn fun s'' p' r' => h s'' (p.trans p') ⟨a, rfl, r'⟩

/-- a range is kept -/
theorem QIt.step {v : V} {x : Value} (st : Step φ η h φ' η' h') (R : Rel T φ η h) (r : QIt T φ η h v x) : QIt T φ' η' h' v x := by
  rcases r with r | ⟨a, m, k, t, u, w, rfl, hr, h1⟩
  · exact .inl (VR.step st _ _ r)
  · exact .inr ⟨a, m, k, t, u, w, rfl, (st.keep a _ (R.notFields hr rfl) hr).exact (by simp) (not_loose rfl (by decide)), h1⟩

/-- what a loop goes over -/
def SimIt (T : St) (q : Bool) (d : Nat) (call : Nat → List V → H → R V) (sc : Scope) (Γ : Gam) (e : It) (x : Expr) : Prop :=
  ∀ A L φ η s env ρ, Cxt T A L q d φ η s → FR T φ η s.heap L env sc Γ ρ → Sim T A L φ η s (eval x env) (evIt T.P q call e ρ η) (QIt T)
end
end Mine
end
section
namespace Mine
open PySem PyProof.Rows

section
variable {cw : Bool} {T : St} {A : Around} {L : Addr} {q : Bool} {d : Nat} {φ₀ φ φ' : Phi} {η₀ η η' : H} {s₀ s s' : Shared} {h h' : Heap} {env : Env} {sc : Scope} {Γ : Gam} {ρ : Rho} {α β : Type} {I : Addr} {xs : List V} {live : Option (Nat × List V)} {call : Bool → Nat → List V → H → R V}

/-- an iterator as a frame sees it -/
structure Own (T : St) (s₀ : Shared) (φ : Phi) (η : H) (I : Addr) : Prop where
  z : s₀.heap.get? I = none
  o : ¬ own φ η I
  b : T.base.get? I = none
theorem Own.step (x : Own T s₀ φ η I) (st : StepL env φ η h φ' η' h') (g : (h.get? I).isSome = true) : Own T s₀ φ' η' I := by
  obtain ⟨o, e⟩ := Option.isSome_iff_exists.mp g
  exact ⟨x.z, st.off x.o e, x.b⟩

theorem iter_there (x : Iter T φ η h I xs live) : (h.get? I).isSome = true := by
  obtain ⟨o, c, g, _⟩ := x.obj
  rw [g]; rfl

theorem for_loop {x : Nat} {n : Str} {p : Pos} {body : List S} {b : List Stmt} {E : Value → Shared → Prop} {Q : Flow → Shared → Prop} {tot : RS} (hq : A.handled = none) (X : Sta A q d) (hΓ : Γ.lookup n = some x) (hn : isLoc sc n = true) (hb : SimSs T q d call sc Γ body b) (hf : tot ≠ .fail)
    {φ₁ : Phi} {η₁ : H} {h₁ : Heap}
    (hQ : ∀ f s' φ' η' ρ', (tot = .next ρ' η' ∧ f = .next ∨ ∃ v x, tot = .ret v ρ' η' ∧ f = .ret x ∧ VR T φ' (own φ' η') s'.heap v x) → FS true T A L φ₀ η₀ s₀ φ' η' s' env sc Γ ρ' → StepL env φ₁ η₁ h₁ φ' η' s'.heap → Q f s')
    (hE : ∀ e s' c φ' η' ρ', tot = .exc c ρ' η' → FS true T A L φ₀ η₀ s₀ φ' η' s' env sc Γ ρ' → StepL env φ₁ η₁ h₁ φ' η' s'.heap → XR T s'.heap e c L → E e s')
    (F : FS true T A L φ₀ η₀ s₀ φ η s env sc Γ ρ) (it : Iter T φ η s.heap I xs live) (ow : Own T s₀ φ η I) (hI₁ : h₁.get? I = none) (st : StepL env φ₁ η₁ h₁ φ η s.heap)
    (e : forLoop (still · live) (fun v r h => evSs T.P call q body (r.set x (some v)) h) xs ρ η = tot) :
    codeAny T.M A (.forLoop (.Name n p) (.ref I) b [] env) (fun r s' => match r with | .ok f => Q f s' | .error e => cameBackBy T.M A env E e s') s := by
  refine codeAny_forLoop (fun m s => ∃ φ η ρ xs, m = xs.length ∧ FS true T A L φ₀ η₀ s₀ φ η s env sc Γ ρ ∧ Iter T φ η s.heap I xs live ∧ Own T s₀ φ η I ∧ StepL env φ₁ η₁ h₁ φ η s.heap ∧ forLoop (still · live) (fun v r h => evSs T.P call q body (r.set x (some v)) h) xs ρ η = tot)
    (fun m s hI => ?_) xs.length ⟨φ, η, ρ, xs, rfl, F, it, ow, st, e⟩
  obtain ⟨φ, η, ρ, xs, rfl, F, it, ow, st, e⟩ := hI
  obtain ⟨oI, gI, pI, cI⟩ := it.priv
  cases xs with
  | nil =>
    rw [forLoop] at e
    split at e
    · rename_i hs
      refine it.fin hq F.post.rel hs fun h' he => ?_
      dsimp only
      have k : ∀ b o, b ≠ I → s.heap.get? b = some o → h'.get? b = some o := fun b o hb e => he b o hb e
      have F' := F.but (t := s.toks) gI pI cI ow.z ow.o ow.b k
      refine wpAny_execs_nil (hQ _ _ φ η ρ (.inl ⟨e.symm, rfl⟩) F' ?_)
      refine ⟨st.ext, fun b ob hb ho e => ?_, st.osub, fun b ob e => ?_⟩
      · have hne : b ≠ I := fun q => by rw [q, hI₁] at e; cases e
        exact (st.keep b ob hb ho e).trans fun o' e' => .inl (k b o' hne e')
      · have hne : b ≠ I := fun q => by rw [q, hI₁] at e; cases e
        obtain ⟨o', e'⟩ := Option.isSome_iff_exists.mp (st.alive b ob e)
        show (h'.get? b).isSome = true
        rw [k b o' hne e']; rfl
    · exact absurd e.symm hf
  | cons v vs =>
    rw [forLoop] at e
    split at e
    case isFalse => exact absurd e.symm hf
    rename_i hs
    refine it.next F.post.rel hs fun y h' t ry it' hsame => ?_
    dsimp only
    have k := sameBut_keep hsame
    have F' := F.but (t := t) gI pI cI ow.z ow.o ow.b k
    have gI' := iter_there it'
    have st' : StepL env φ₁ η₁ h₁ φ η h' := st.but gI k gI' hI₁
    refine wpAny_assign_Name (F'.store hΓ (loc_store hn) ry fun s₂ F₂ k₂ a₂ v₂ => ?_)
    have stS := F'.stepL_store k₂ a₂
    have it₂ : Iter T φ η s₂.heap I vs live := it'.stepL stS F'.fr ow.o
    have ow₂ : Own T s₀ φ η I := ow
    have hbody := hb A L φ₀ η₀ s₀ φ η s₂ env _ X F₂
    cases er : evSs T.P call q body (ρ.set x (some v)) η with
    | fail => rw [er] at e; exact absurd e.symm hf
    | next ρ' η' =>
      rw [er] at e hbody
      rcases hbody with hbody | hbody
      · cases hbody
      refine wpAny_mono hbody (fun f s₃ ⟨φ₃, η₃, ρ₃, h4, F₃, st₃⟩ => ?_) fun e' s₃ ⟨c, φ₃, η₃, ρ₃, h4, _⟩ => by cases h4
      rcases h4 with ⟨h4, rfl⟩ | ⟨v, y, h4, _⟩
      · cases h4
        refine ⟨vs.length, Nat.lt_succ_self _, φ₃, _, _, vs, rfl, F₃, it₂.stepL st₃ F₂.fr ow₂.o, ow₂.step st₃ (iter_there it₂), (st'.trans stS).trans st₃, e⟩
      · cases h4
    | ret w ρ' η' =>
      rw [er] at e hbody
      rcases hbody with hbody | hbody
      · cases hbody
      refine wpAny_mono hbody (fun f s₃ ⟨φ₃, η₃, ρ₃, h4, F₃, st₃⟩ => ?_) fun e' s₃ ⟨c, φ₃, η₃, ρ₃, h4, _⟩ => by cases h4
      rcases h4 with ⟨h4, _⟩ | ⟨w', y', h4, rfl, r⟩
      · cases h4
      · cases h4
        exact hQ _ _ φ₃ η' ρ' (.inr ⟨w, y', e.symm, rfl, r⟩) F₃ ((st'.trans stS).trans st₃)
    | exc c ρ' η' =>
      rw [er] at e hbody
      rcases hbody with hbody | hbody
      · cases hbody
      refine wpAny_mono hbody (fun f s₃ ⟨φ₃, η₃, ρ₃, h4, F₃, st₃⟩ => ?_) fun e' s₃ ⟨c', φ₃, η₃, ρ₃, h4, F₃, st₃, xr⟩ => ?_
      · rcases h4 with ⟨h4, _⟩ | ⟨v, y, h4, _⟩ <;> cases h4
      · cases h4
        exact noted_back F₃ xr fun s₄ p₄ xr₄ => hE e' s₄ c φ₃ η' ρ' e.symm (F₃.step p₄) (((st'.trans stS).trans st₃).trans p₄.step.toL) xr₄

theorem s_for1' {x : Nat} {n : Str} {p pos : Pos} {it : It} {iter : Expr} {body : List S} {b : List Stmt} (hset : ∀ env y, foldedSetIterable iter env y = pure y) (hΓ : Γ.lookup n = some x) (hn : isLoc sc n = true) (hi : SimIt T q d (call q) sc Γ it iter) (hb : SimSs T q d call sc Γ body b) :
    SimS T q d call sc Γ (.for1 x it body) (.For (.Name n p) iter b [] pos) := by
  intro A L φ₀ η₀ s₀ φ η s env ρ X F
  rw [evS]
  rcases hi A L φ η s env ρ (F.cxt X) F.fr with h | h
  · left; rw [h]; rfl
  cases ei : evIt T.P q (call q) it ρ η with
  | fail => left; rfl
  | exc c η' =>
    right
    refine wpAny_For (wpAny_mono h (fun y s' ⟨v, η', φ', e, _⟩ => by rw [ei] at e; cases e) fun e s' ⟨c', η', φ', he, hp, hx⟩ => ?_) (hset env)
    rw [ei] at he; cases he
    exact ⟨c, φ', _, ρ, rfl, F.step hp, hp.step.toL, hx⟩
  | ok v η' =>
    show SimR T A L φ₀ η₀ s₀ env sc Γ φ η s _ (match itemsOf η' v with | some (xs, live) => if q = true ∧ xs.length ≤ 100000 then forLoop (still · live) (fun v r h => evSs T.P call q body (r.set x (some v)) h) xs ρ η' else .fail | none => .fail)
    cases e2 : itemsOf η' v with
    | none => left; rfl
    | some pr =>
      obtain ⟨xs, live⟩ := pr
      dsimp only
      split
      case isFalse => left; rfl
      rename_i hql
      by_cases hf : forLoop (still · live) (fun v r h => evSs T.P call q body (r.set x (some v)) h) xs ρ η' = .fail
      · left; exact hf
      right
      refine wpAny_For (wpAny_mono h (fun y s' ⟨v', η₁, φ₁, e, hp, hy⟩ => ?_) fun e s' ⟨c', η', φ', he, _⟩ => by rw [ei] at he; cases he) (hset env)
      rw [ei] at e; cases e
      refine iter_start hp.rel e2 hy fun I h' hI hk it' => ?_
      have F₁ := F.step hp
      obtain ⟨z, o, bb⟩ := F₁.fresh hI
      have p2 : Post T φ₁ η' s' φ₁ η' { s' with heap := h' } := Post.grown (k := s'.toks) hp.rel hk
      have hI₁ : s.heap.get? I = none := by
        cases e : s.heap.get? I with
        | none => rfl
        | some o => have := hp.step.alive I o e; rw [hI] at this; cases this
      exact for_loop (X.hand hql.1) X hΓ hn hb hf (fun f s' φ' η' ρ' h1 h2 h3 => ⟨φ', η', ρ', h1, h2, h3⟩) (fun e s' c φ' η' ρ' h1 h2 h3 h4 => ⟨c, φ', η', ρ', h1, h2, h3, h4⟩) (F₁.step p2) it' ⟨z, o, bb⟩ hI₁ (hp.trans p2).step.toL rfl

end
end Mine
end
section
namespace Mine
open PySem PyProof.Rows

section
variable {M : Model} {A : Around} {E : Value → Shared → Prop} {s : Shared} {env : Env}

/-- what stands behind a comprehension's loop -/
def CompEnd (M : Model) (A : Around) (E : Value → Shared → Prop) (use : Option (Value → Sem Unit)) (Q : Value → Shared → Prop) (acc : Value) (cenv : Env) (r : Result) (s' : Shared) : Prop :=
  match r, use with
  | .ok _, none => ∃ m, s'.heap.Ns cenv.locals m ∧ ∀ h', Heap.SameBut cenv.locals s'.heap h' → Q acc { s' with heap := h' }
  | .ok _, some u => wpAny M A (u acc) (fun _ s'' => ∃ m, s''.heap.Ns cenv.locals m ∧ ∀ h', Heap.SameBut cenv.locals s''.heap h' → Q .none { s'' with heap := h' }) E s'
  | .error x, _ => ∃ m, s'.heap.Ns cenv.locals m ∧ ∀ h', Heap.SameBut cenv.locals s'.heap h' → wpAny M A (passOn "comprehension.variables-let-go" x cenv : Sem Value) (fun _ _ => False) E { s' with heap := h' }

theorem comp_rule {e : Expr} {scope : Scope} {pos : Pos} {newAcc first : Sem Value} {g : Comprehension} {gs : List Comprehension} {cl : List (Str × Addr)} {use : Option (Value → Sem Unit)}
    {Q : Value → Shared → Prop} (hcl : clausesOf e = g :: gs) (hs : ∀ x, foldedSetIterable g.iter env x = pure x) (hclos : closureFor scope env = pure cl)
    (hkind : scope.kind = .function) (hnames : ∀ x ∈ scope.names, x.2 = .local → scope.names.lookup x.1 = some .local)
    (h : wpAny M A first (fun x s₁ => wpAny M A (pyIter x) (fun it s₂ => wpAny M A newAcc (fun acc s₃ =>
      wpAny M A (newFunctionEnv scope env.globals cl [] env.qual none .none (some env)) (fun cenv s₄ =>
        codeAny M A (.compStart e 0 it acc { cenv with scope := relabel scope env }) (CompEnd M A E use Q acc { cenv with scope := relabel scope env }) s₄) E s₃) E s₂) E s₁) E s) :
    wpAny M A (comprehension e scope env pos newAcc false first use) Q E s := by
  unfold comprehension
  rw [hclos, hcl]
  refine wpAny_bind (wpAny_mono h (fun x s₁ h₁ => wpAny_bind (wpAny_standAt (wpAny_bind (wpAny_of_eq (hs x) (wpAny_bind (wpAny_holding (wpAny_mono h₁ (fun it s₂ h₂ =>
    wpAny_standIf (wpAny_bind (wpAny_mono h₂ (fun acc s₃ h₃ => wpAny_bind (wpAny_pure (wpAny_bind (wpAny_mono h₃ (fun cenv s₄ h₄ => ?_) fun _ _ h' => h')))) fun _ _ h' => h')))
      fun _ _ h' => h'))))))) fun _ _ h' => h')
  dsimp only
  have hv : ∀ x ∈ (scope.names.filter fun x => (x.2 == .local || x.2 == .cell) && x.1 != (".0" : Str)).reverse, x.2 = .local → Env.kindOf { cenv with scope := relabel scope env } x.1 = some .local :=
    fun x hx hl => lookup_relabel_local (hnames x (List.mem_filter.mp (List.mem_reverse.mp hx)).1 hl)
  have hv' : ∀ x ∈ (scope.names.filter fun x => (x.2 == .local || x.2 == .cell) && x.1 != (".0" : Str)).reverse.drop 1 ++ (scope.names.filter fun x => (x.2 == .local || x.2 == .cell) && x.1 != (".0" : Str)).reverse.take 1,
      x.2 = .local → Env.kindOf { cenv with scope := relabel scope env } x.1 = some .local := fun x hx hl => by
    rcases List.mem_append.mp hx with h1 | h1
    · exact hv x (List.mem_of_mem_drop h1) hl
    · exact hv x (List.mem_of_mem_take h1) hl
  refine wpAny_holding (wpAny_bind (wpAny_attempt (wpAny_holding (wpAny_run (codeAny_mono h₄ fun r s' hr => ?_)))))
  cases r with
  | ok f =>
    cases use with
    | none =>
      obtain ⟨m, hn, hr⟩ := hr
      exact wpAny_bind (wpAny_holding (wpAny_comp_letGo (cenv := { cenv with scope := relabel scope env }) hkind _ s' m hv hn fun h' m' _ hs' => wpAny_pure (hr h' hs')))
    | some u =>
      refine wpAny_bind (wpAny_rule (wpAny_bind (wpAny_holding (wpAny_mono hr (fun _ s'' hr' => ?_) fun _ _ h' => h'))))
      obtain ⟨m, hn, hr'⟩ := hr'
      exact wpAny_bind (wpAny_comp_letGo (cenv := { cenv with scope := relabel scope env }) hkind _ s'' m hv' hn fun h' m' _ hs' => wpAny_pure (hr' h' hs'))
  | error x =>
    have hr' : ∃ m, s'.heap.Ns cenv.locals m ∧ ∀ h', Heap.SameBut cenv.locals s'.heap h' → wpAny M A (passOn "comprehension.variables-let-go" x { cenv with scope := relabel scope env } : Sem Value) (fun _ _ => False) E { s' with heap := h' } := by cases use <;> exact hr
    obtain ⟨m, hn, hr⟩ := hr'
    exact wpAny_bind (wpAny_holding (wpAny_comp_letGo (cenv := { cenv with scope := relabel scope env }) hkind _ s' m hv hn fun h' m' _ hs' => wpAny_mono (hr h' hs') (fun _ _ f => f.elim) fun _ _ y => y))
end

/-- the cells that a comprehension takes along -/
def closL (env : Env) : List (Str × NameKind) → List (Str × Addr) → List (Str × Addr)
  | [], acc => acc
  | (n, k) :: r, acc => if k == .free then closL env r ((n, (env.cells.lookup n).getD 0) :: acc) else closL env r acc

theorem closure_eq (scope : Scope) (env : Env) (h : ∀ p ∈ scope.names, p.2 = .free → (env.cells.lookup p.1).isSome = true) : closureFor scope env = pure (closL env scope.names []) := by
  have go : ∀ (names : List (Str × NameKind)) (acc : List (Str × Addr)), (∀ p ∈ names, p.2 = .free → (env.cells.lookup p.1).isSome = true) →
      (forIn names acc fun (x : Str × NameKind) (cs : List (Str × Addr)) => (if (x.2 == .free) = true then (do let c ← cellOf env x.1; pure (ForInStep.yield ((x.1, c) :: cs))) else pure (ForInStep.yield cs) : Sem (ForInStep (List (Str × Addr))))) = (pure (closL env names acc) : Sem (List (Str × Addr))) := by
    intro names
    induction names with
    | nil => intro acc _; rfl
    | cons p r ih =>
      intro acc hp
      obtain ⟨n, k⟩ := p
      rw [List.forIn_cons]
      unfold closL
      by_cases hk : (k == NameKind.free) = true
      · have := hp (n, k) List.mem_cons_self (by simpa using hk)
        obtain ⟨c, hc⟩ := Option.isSome_iff_exists.mp this
        have e : cellOf env n = (pure c : Sem Addr) := by unfold cellOf; rw [show env.cells.lookup n = some c from hc]
        rw [if_pos hk, if_pos hk]
        show ((cellOf env n >>= fun c => pure (ForInStep.yield ((n, c) :: acc))) >>= _) = _
        rw [e, show env.cells.lookup n = some c from hc]
        exact ih _ fun p hm => hp p (List.mem_cons_of_mem _ hm)
      · rw [if_neg hk, if_neg hk]
        exact ih _ fun p hm => hp p (List.mem_cons_of_mem _ hm)
  have := go scope.names [] h
  exact (congrArg (fun t : Sem (List (Str × Addr)) => t >>= fun cs => pure cs) this).trans rfl

theorem closL_sub {env : Env} : ∀ (names : List (Str × NameKind)) (acc : List (Str × Addr)), (∀ p ∈ names, p.2 = .free → (env.cells.lookup p.1).isSome = true) → (∀ n c, acc.lookup n = some c → env.cells.lookup n = some c) →
    ∀ n c, (closL env names acc).lookup n = some c → env.cells.lookup n = some c
  | [], acc, _, h, n, c, e => h n c e
  | (m, k) :: r, acc, hp, h, n, c, e => by
    unfold closL at e
    split at e
    · rename_i hk
      refine closL_sub r _ (fun p hm => hp p (List.mem_cons_of_mem _ hm)) (fun n' c' e' => ?_) n c e
      rw [List.lookup_cons] at e'
      cases hb : n' == m with
      | true =>
        rw [hb] at e'; cases e'
        rw [beq_iff_eq.mp hb]
        obtain ⟨c, hc⟩ := Option.isSome_iff_exists.mp (hp (m, k) List.mem_cons_self (by simpa using hk))
        rw [show env.cells.lookup m = some c from hc]; rfl
      | false => rw [hb] at e'; exact h n' c' e'
    · exact closL_sub r acc (fun p hm => hp p (List.mem_cons_of_mem _ hm)) h n c e
theorem closL_acc {env : Env} : ∀ (names : List (Str × NameKind)) (acc : List (Str × Addr)) (n : Str), (acc.lookup n).isSome = true → ((closL env names acc).lookup n).isSome = true
  | [], acc, n, h => h
  | (m, k) :: r, acc, n, h => by
    unfold closL
    split
    · refine closL_acc r _ n ?_
      rw [List.lookup_cons]
      cases n == m
      · exact h
      · rfl
    · exact closL_acc r acc n h
theorem closL_has {env : Env} : ∀ (names : List (Str × NameKind)) (acc : List (Str × Addr)) (n : Str), (n, NameKind.free) ∈ names → ((closL env names acc).lookup n).isSome = true
  | (m, k) :: r, acc, n, h => by
    unfold closL
    rcases List.mem_cons.mp h with e | h
    · cases e
      rw [if_pos (by decide)]
      refine closL_acc r _ _ ?_
      rw [List.lookup_cons, beq_self_eq_true]; rfl
    · split
      · exact closL_has r _ n h
      · exact closL_has r _ n h

theorem lookup_relabelS (csc sc : Scope) (n : Str) : (relabelS csc sc).names.lookup n = (csc.names.lookup n).map fun k => if (k == .free && sc.kind == .function && sc.names.lookup n == some .cell) then NameKind.cell else k := by
  unfold relabelS
  dsimp only
  induction csc.names with
  | nil => rfl
  | cons p r ih =>
    obtain ⟨m, k⟩ := p
    rw [List.map_cons]
    show List.lookup n ((if (k == NameKind.free && sc.kind == .function && sc.names.lookup m == some .cell) = true then (m, NameKind.cell) else (m, k)) :: _) = Option.map _ (List.lookup n ((m, k) :: r))
    by_cases hc : (k == NameKind.free && sc.kind == .function && sc.names.lookup m == some .cell) = true
    · rw [if_pos hc, List.lookup_cons, List.lookup_cons]
      cases hb : n == m with
      | true => have := beq_iff_eq.mp hb; subst this; dsimp only; rw [Option.map_some, if_pos hc]
      | false => exact ih
    · rw [if_neg hc, List.lookup_cons, List.lookup_cons]
      cases hb : n == m with
      | true => have := beq_iff_eq.mp hb; subst this; dsimp only; rw [Option.map_some, if_neg hc]
      | false => exact ih
end Mine
end
section
namespace Mine
open PySem PySem.W PySem.Calls PyProof.Rows

def bnames : List Str := ["len", "int", "str", "tuple", "isinstance", "range", "bool"]

/-- the ground: what the program's names stand for -/
structure Gd (T : St) (N : Nm) where
  K : Frag
  kin : K.In T.base
  fn : Nat → Addr
  bns : ∃ mb, T.base.Ns builtinsNs mb ∧ ∀ x : Str, x ≠ "__name__" → mb x = bootBuiltins x
  nob : ∀ x ∈ bnames, nsIn K mainGlobals x = some none
  fns : ∀ (f : Nat) (n : Str), N.fnm[f]? = some n → n ≠ ("" : Str) → nsIn K mainGlobals n = some (some (.ref (fn f))) ∧ keepIn K (.ref (fn f)) = true
  vals : ∀ (g : Nat) (n : Str) (v : V), N.glm[g]? = some n → N.glv[g]? = some v → ∃ val, nsIn K mainGlobals n = some (some val) ∧ ∀ φ M h, VR T φ M h v val

section
variable {T : St} {N : Nm} {A : Around} {L : Addr} {q : Bool} {d : Nat} {φ φ' : Phi} {η η' : H} {s s' : Shared} {env : Env} {sc : Scope} {Γ : Gam} {ρ : Rho} {α β : Type} {call' : Nat → List V → H → R V}

theorem Gd.here (G : Gd T N) (R : Rel T φ η s.heap) : G.K.In s.heap := G.kin.keeps R.base

/-- a global name -/
theorem name_glob (G : Gd T N) (R : Rel T φ η s.heap) (F : FR T φ η s.heap L env sc Γ ρ) {n : Str} {pos : Pos} {v : Value} {Q : Value → Shared → Prop} {E : Value → Shared → Prop} (hn : isGlo sc n = true) (e : nsIn G.K mainGlobals n = some (some v)) (h : Q v s) :
    wpAny T.M A (eval (.Name n pos) env) Q E s := by
  unfold isGlo at hn
  rw [Bool.and_eq_true, beq_iff_eq, Bool.not_eq_true'] at hn
  refine Name_function_global F.kind (by unfold Env.kindOf; rw [F.sc]; exact hn.1) ?_ hn.2
  unfold loadGlobal
  rw [F.glob]
  refine wpAny_bind ((looks_nsIn (G.here R) e).here ?_)
  exact wpAny_pure h
theorem name_boot (G : Gd T N) (R : Rel T φ η s.heap) (F : FR T φ η s.heap L env sc Γ ρ) {n : Str} {pos : Pos} {v : Value} {Q : Value → Shared → Prop} {E : Value → Shared → Prop} (hn : isGlo sc n = true) (hb : n ∈ bnames) (e : bootBuiltins n = some v) (h : Q v s) :
    wpAny T.M A (eval (.Name n pos) env) Q E s := by
  unfold isGlo at hn
  rw [Bool.and_eq_true, beq_iff_eq, Bool.not_eq_true'] at hn
  refine Name_function_global F.kind (by unfold Env.kindOf; rw [F.sc]; exact hn.1) ?_ hn.2
  obtain ⟨mb, hm, hmb⟩ := G.bns
  unfold loadGlobal
  rw [F.glob, F.bi]
  refine wpAny_bind ((looks_nsIn (G.here R) (G.nob n hb)).here ?_)
  refine wpAny_bind (wpAny_nsGet (hm.keeps R.base) ?_)
  have hne : n ≠ "__name__" := by rintro rfl; revert hb; decide +kernel
  rw [hmb n hne, e]
  exact wpAny_pure h

theorem boot_bi (b : Bi) : biName b ∈ bnames ∧ bootBuiltins (biName b) = some (match b with | .len => .builtin "len" | .int => .type "int" | .str => .type "str" | .tuple => .type "tuple") := by
  cases b <;> exact ⟨by decide +kernel, by decide +kernel⟩

theorem at_name {l : List Str} {i : Nat} {n : Str} (h : atName l i n = true) : l[i]? = some n ∧ n ≠ ("" : Str) := by
  unfold atName at h
  rw [Bool.and_eq_true, beq_iff_eq, Bool.not_eq_true', beq_eq_false_iff_ne] at h
  exact h
theorem e_glob (G : Gd T N) {g : Nat} {v : V} {n : Str} {pos : Pos} (hg : atName N.glm g n = true) (hn : isGlo sc n = true) (hv : (N.glv[g]?).any (constEq v) = true) : SimE T q d call' sc Γ (.glob g v) (.Name n pos) := by
  intro A L φ η s env ρ X F
  obtain ⟨w, hw, hv⟩ := any_some hv
  have hv := constEq_eq hv
  subst hv
  obtain ⟨val, e, r⟩ := G.vals g n v (at_name hg).1 hw
  exact .ok rfl (name_glob G X.rel F hn e ⟨φ, .refl X.rel, r _ _ _⟩)

/-- no star among the arguments -/
def plainArgs (xs : List Expr) : Prop := xs.all plainArg = true
theorem args_plain {xs : List Expr} {pos : Pos} (h : plainArgs xs) : (backTo pos (starEach xs env)).any (·.1) = false ∧ (xs = [] ∨ ∃ t r, backTo pos (starEach xs env) = (false, t) :: r) := by
  unfold plainArgs at h
  induction xs with
  | nil => exact ⟨rfl, .inl rfl⟩
  | cons x xs ih =>
    rw [List.all_cons, Bool.and_eq_true] at h
    rw [starEach_plain h.1]
    refine ⟨?_, .inr ⟨_, _, rfl⟩⟩
    show (false || (backTo pos (starEach xs env)).any (·.1)) = false
    rw [(ih h.2).1]; rfl

theorem evalArgs_none {M : Model} {f : Value} {Q : Args → Shared → Prop} {E : Value → Shared → Prop} (h : wpAny M A (spliced []) (fun vs s' => Q ⟨vs, []⟩ s') E s) : wpAny M A (evalArgs f true [] []) Q E s := by
  unfold evalArgs
  show wpAny M A (spliced [] >>= _) Q E s
  refine wpAny_bind (wpAny_mono h (fun vs s' h' => wpAny_holding ?_) fun _ _ x => x)
  exact wpAny_bind (wpAny_pure (wpAny_bind (wpAny_pure (wpAny_pure h'))))
theorem sim_evalArgs {γ : Type} {f : Value} {xs : List Expr} {pos : Pos} {r : R γ} {Q : QR (List Value) γ} (hp : plainArgs xs) (h1 : Sim T A L φ η s (spliced (backTo pos (starEach xs env))) r Q) :
    Sim T A L φ η s (evalArgs f true (backTo pos (starEach xs env)) []) r (fun φ η h v (a : Args) => Q φ η h v a.pos ∧ a.kw = []) := by
  rcases (args_plain (env := env) (pos := pos) hp).2 with e | ⟨t, r, e⟩
  · subst e
    exact h1.imp id fun h1 => evalArgs_none (wpAny_mono h1 (fun vs s' ⟨v, η', φ', a, b, c⟩ => ⟨v, η', φ', a, b, c, rfl⟩) fun _ _ y => y)
  · rw [e] at h1 ⊢
    exact h1.imp id fun h1 => evalArgs_plain (wpAny_mono h1 (fun vs s' ⟨v, η', φ', a, b, c⟩ => ⟨v, η', φ', a, b, c, rfl⟩) fun _ _ y => y)

/-- a call: the arguments, then the call itself -/
theorem sim_callWithG {γ : Type} {f : Value} {first : List Value} {xs : List Expr} {pos p₀ : Pos} {r : R γ} {g : γ → H → R V} {Q : QR (List Value) γ}
    (hk : ∀ h, (∀ b o, T.base.get? b = some o → h.get? b = some o) → ∃ k, (k = Keeper.frame ∨ k = Keeper.machine ∨ k = Keeper.boundFrame) ∧ Looks T.M h (keeperOf f) k)
    (hp : plainArgs xs) (h : Sim T A L φ η s (spliced (backTo pos (starEach xs env))) r Q)
    (h2 : ∀ v η' φ' ys s', r = .ok v η' → Post T φ η s φ' η' s' → Q φ' η' s'.heap v ys → Sim T A L φ' η' s' (PySem.call f (first ++ ys)) (g v η') (QV T)) :
    Sim T A L φ η s (callWith p₀ f first (backTo pos (starEach xs env)) []) (r.bind g) (QV T) := by
  refine (Sim.nest (Q₂ := QV T) (k := fun a : Args => PySem.call f (first ++ a.pos) a.kw) (sim_evalArgs (f := f) (pos := pos) hp h) fun vs η' φ' a s' e p hq => ?_).imp id fun w => ?_
  · rw [hq.2]; exact h2 vs η' φ' a.pos s' e p hq.1
  · exact callWith_of (P := fun h => ∀ b o, T.base.get? b = some o → h.get? b = some o) (by rw [(args_plain hp).1]; rfl) hk (wpAny_mono w (fun a s₁ ⟨⟨v, η', φ', e, p, hq⟩, w⟩ => ⟨p.rel.base, w⟩) fun _ _ y => y)
theorem sim_callWith {f : Value} {first : List Value} {es : List E} {xs : List Expr} {pos p₀ : Pos} {g : List V → H → R V} (hk : ∀ h, (∀ b o, T.base.get? b = some o → h.get? b = some o) → ∃ k, (k = Keeper.frame ∨ k = Keeper.machine ∨ k = Keeper.boundFrame) ∧ Looks T.M h (keeperOf f) k)
    (hp : plainArgs xs) (h : SimEs T q d call' sc Γ es xs) (X : Cxt T A L q d φ η s) (F : FR T φ η s.heap L env sc Γ ρ)
    (h2 : ∀ vs η' φ' ys s', evEs T.P q call' es ρ η = .ok vs η' → Post T φ η s φ' η' s' → VRs T φ' (own φ' η') s'.heap vs ys → Sim T A L φ' η' s' (PySem.call f (first ++ ys)) (g vs η') (QV T)) :
    Sim T A L φ η s (callWith p₀ f first (backTo pos (starEach xs env)) []) ((evEs T.P q call' es ρ η).bind g) (QV T) :=
  sim_callWithG (Q := QVs T) hk hp (h A L φ η s env ρ pos X F) h2

theorem seq_view {v : V} {x : Value} {xs : List V} (R : Rel T φ η s.heap) (e : seqOf η v = some xs) (r : QV T φ η s.heap v x) :
    ∃ a items k, x = .ref a ∧ (s.heap.get? a = some (listO items k) ∨ s.heap.get? a = some (tupO items k)) ∧ VRs T φ (own φ η) s.heap xs items.toList := by
  unfold seqOf at e
  split at e
  · cases e
    simp only [QV, VR] at r
    obtain ⟨a, items, k, rfl, _, g, r⟩ := r
    exact ⟨a, items, k, rfl, .inr g, r⟩
  · obtain ⟨a, items, k, rfl, g, r⟩ := list_view R e r
    exact ⟨a, items, k, rfl, .inl g, r⟩

/-- len -/
theorem sim_len {v : V} {x : Value} (R : Rel T φ η s.heap) (r : QV T φ η s.heap v x) : Sim T A L φ η s (PySem.call (.builtin "len") [x]) (match lenV η v with | some n => if n ≤ 100000 then .ok (.int n) η else .fail | none => .fail) (QV T) := by
  cases e : lenV η v with
  | none => exact .fail
  | some n =>
    dsimp only
    split
    · rename_i hn
      unfold lenV at e
      split at e
      · rename_i sg
        cases e
        simp only [QV, VR] at r
        obtain ⟨t, rfl⟩ := r
        refine .ok rfl (P.len_str (by rw [str_len]; omega) ⟨φ, .toks R, ?_⟩)
        simp only [QV, VR, str_len]
        exact ⟨_, rfl⟩
      · obtain ⟨xs, e', rfl⟩ := Option.map_eq_some_iff.mp e
        obtain ⟨a, items, k, rfl, g, rr⟩ := seq_view R e' r
        have hsz := len_items rr
        rcases g with g | g
        · refine .ok rfl (call_len_list (isList_of g) (by omega) ⟨φ, .toks R, ?_⟩)
          simp only [QV, VR, hsz]; exact ⟨_, rfl⟩
        · refine .ok rfl (len_tuple ⟨_, g, rfl, k, rfl⟩ (by omega) ⟨φ, .toks R, ?_⟩)
          simp only [QV, VR, hsz]; exact ⟨_, rfl⟩
    · exact .fail

theorem digits_ok {sg : List Nat} (h : (sg.all isDigit && decide (1 ≤ sg.length) && decide (sg.length ≤ 18)) = true) : PySem.intText? ⟨sg.toArray⟩ = some ((readNat sg : Nat) : Int) ∧ (⟨sg.toArray⟩ : Str).length ≤ 640 := by
  rw [Bool.and_eq_true, Bool.and_eq_true, decide_eq_true_eq, decide_eq_true_eq] at h
  obtain ⟨⟨h1, h2⟩, h3⟩ := h
  have hd : NumText.AllDigits (⟨sg.toArray⟩ : Str).cps.toList := by
    intro c hc
    have := List.all_eq_true.mp h1 c (by simpa using hc)
    unfold isDigit at this
    rw [Bool.and_eq_true, decide_eq_true_eq, decide_eq_true_eq] at this
    exact this
  have hv : NumText.digitsVal sg = readNat sg := by
    unfold NumText.digitsVal readNat
    congr 1
    funext a c
    rw [Nat.mul_comm]
  refine ⟨?_, by rw [str_len]; omega⟩
  have := PySem.intText_digits hd (by intro q; rw [show (⟨sg.toArray⟩ : Str).cps.toList = sg by simp] at q; subst q; simp at h2) (by rw [str_len]; omega)
  rw [this]
  simp only [hv]

theorem log_small {i : Int} (h0 : 0 ≤ i) (h1 : i < 10 ^ 9) : i.natAbs.log2 < 1920 := by
  by_cases hz : i.natAbs = 0
  · rw [hz]; decide
  · have : i.natAbs < 2 ^ 30 := by omega
    have := (Nat.log2_lt hz).mpr this
    omega

/-- int of a flag or of figures, str of a number, tuple of a list -/
theorem sim_int {v : V} {x : Value} (R : Rel T φ η s.heap) (r : QV T φ η s.heap v x) : Sim T A L φ η s (PySem.call (.type "int") [x]) (biV .int η [v]) (QV T) := by
  cases v with
  | str sg =>
    show Sim T A L φ η s _ (if sg.all isDigit && decide (1 ≤ sg.length) && decide (sg.length ≤ 18) then Mine.R.ok (V.int (readNat sg)) η else .fail) _
    split
    · rename_i hd
      simp only [QV, VR] at r
      obtain ⟨t, rfl⟩ := r
      obtain ⟨h1, h2⟩ := digits_ok hd
      exact .ok rfl (KIN.call_text h1 h2 ⟨φ, .toks R, by simp [QV, VR]⟩)
    · exact .fail
  | _ => exact .fail

theorem sim_str {v : V} {x : Value} (R : Rel T φ η s.heap) (r : QV T φ η s.heap v x) : Sim T A L φ η s (PySem.call (.type "str") [x]) (biV .str η [v]) (QV T) := by
  cases v with
  | int i =>
    show Sim T A L φ η s _ (if decide (0 ≤ i) && decide (i < 10 ^ 9) then Mine.R.ok (V.str (digitsOf i.toNat)) η else .fail) _
    split
    · rename_i hd
      rw [Bool.and_eq_true, decide_eq_true_eq, decide_eq_true_eq] at hd
      simp only [QV, VR] at r
      obtain ⟨t, rfl⟩ := r
      refine .ok rfl (P.str_of_int (log_small hd.1 hd.2) ⟨φ, .toks R, ?_⟩)
      simp only [QV, VR]
      refine ⟨s.toks, ?_⟩
      obtain ⟨m, rfl⟩ := Int.eq_ofNat_of_zero_le hd.1
      have := KIN.signs_num m
      unfold digitsOf
      rw [show ((m : Int)).toNat = m from rfl, ← this]
    · exact .fail
  | _ => exact .fail

theorem sim_tuple {v : V} {x : Value} (R : Rel T φ η s.heap) (r : QV T φ η s.heap v x) : Sim T A L φ η s (PySem.call (.type "tuple") [x]) (biV .tuple η [v]) (QV T) := by
  show Sim T A L φ η s _ (match seqOf η v with | some xs => if xs.length ≤ 100000 then Mine.R.ok (V.tup xs) η else .fail | none => .fail) _
  cases e : seqOf η v with
  | none => exact .fail
  | some xs =>
    dsimp only
    split
    · rename_i hn
      unfold seqOf at e
      split at e
      · cases e
        have r' := r
        simp only [QV, VR] at r'
        obtain ⟨a, items, k, rfl, _, g, _⟩ := r'
        exact .ok rfl (call_tuple_same (items := items) ⟨_, g, rfl, k, rfl⟩ ⟨φ, .refl R, r⟩)
      · obtain ⟨a, items, k, rfl, g, rr⟩ := list_view R e r
        have hsz := len_items rr
        refine .ok rfl (call_tuple_list (isList_of g) (fun h' hk => ?_) (by rw [hsz]; exact line_le hn))
        have p := Post.grown (k := s.toks) R hk
        have := mk_tup (s := { s with heap := h' }) p.rel (VRs.step p.step _ _ rr) s.toks
        exact ⟨φ, Post.trans p this.1, this.2⟩
    · exact .fail

end
end Mine
end
section
namespace Mine
open PySem PySem.W PySem.Calls PyProof.Rows

theorem join_cps (sep : Str) : ∀ l : List Str, (Str.join sep l).cps.toList = joinL sep.cps.toList (l.map (·.cps.toList))
  | [] => rfl
  | [x] => rfl
  | x :: y :: r => by
    show (x ++ sep ++ Str.join sep (y :: r)).cps.toList = _
    simp only [Str.cps_append, Array.toList_append]
    rw [join_cps sep (y :: r)]
    rfl

theorem splitL_ne (c : Nat) : ∀ s, splitL c s ≠ []
  | [] => by simp [splitL]
  | x :: r => by
    unfold splitL
    split
    · simp
    · split <;> simp
theorem splitL_app (c : Nat) : ∀ (x r : List Nat), c ∉ x → splitL c (x ++ c :: r) = x :: splitL c r
  | [], r, _ => by simp [splitL]
  | y :: x, r, h => by
    have h1 : y ≠ c := fun e => h (by simp [e])
    have h2 : c ∉ x := fun e => h (by simp [e])
    show (if y = c then [] :: splitL c (x ++ c :: r) else match splitL c (x ++ c :: r) with | [] => [[y]] | w :: ws => (y :: w) :: ws) = _
    rw [if_neg h1, splitL_app c x r h2]
theorem splitL_free (c : Nat) : ∀ x : List Nat, c ∉ x → splitL c x = [x]
  | [], _ => rfl
  | y :: x, h => by
    have h1 : y ≠ c := fun e => h (by simp [e])
    have h2 : c ∉ x := fun e => h (by simp [e])
    unfold splitL
    rw [if_neg h1, splitL_free c x h2]
theorem splitL_join (c : Nat) : ∀ parts : List (List Nat), parts ≠ [] → (∀ p ∈ parts, c ∉ p) → splitL c (joinL [c] parts) = parts
  | [], h, _ => absurd rfl h
  | [x], _, h => by simpa [joinL] using splitL_free c x (h x (by simp))
  | x :: y :: r, _, h => by
    show splitL c (x ++ [c] ++ joinL [c] (y :: r)) = _
    rw [List.append_assoc]
    show splitL c (x ++ c :: joinL [c] (y :: r)) = _
    rw [splitL_app c x _ (h x (by simp)), splitL_join c (y :: r) (by simp) fun p hp => h p (by simp [hp])]

theorem split_ne (x y : Str) : Txt.split x y ≠ [] := by
  unfold Txt.split
  split
  · simp
  · split
    · simp
    · rw [StrLaws.partsBetween_eq]
      obtain ⟨p, r, e⟩ := StrLaws.partsFrom_ne x y.length 0 (Builtin.Str.occurrences x y 0 x.length (x.length + 1))
      rw [e]; simp
theorem split_eq (x : Str) (c : Nat) : (Txt.split x ⟨#[c]⟩).map (·.cps.toList) = splitL c x.cps.toList := by
  have h1 := StrLaws.join_split x ⟨#[c]⟩
  have h2 := StrLaws.split_free x c
  have h3 := congrArg (fun z : Str => z.cps.toList) h1
  rw [join_cps] at h3
  rw [← h3]
  refine (splitL_join c _ (by simpa using split_ne x ⟨#[c]⟩) ?_).symm
  intro p hp
  obtain ⟨z, hz, rfl⟩ := List.mem_map.mp hp
  exact h2 z hz

section
variable {T : St} {N : Nm} {A : Around} {L : Addr} {q : Bool} {d : Nat} {φ φ' : Phi} {η η' : H} {s s' : Shared} {env : Env} {sc : Scope} {Γ : Gam} {ρ : Rho} {α β : Type} {call' : Nat → List V → H → R V}

theorem vrs_strs {M : Addr → Prop} {h : Heap} : ∀ (l : List Str) (t : Nat), VRs T φ M h (l.map fun x => V.str x.cps.toList) (strsFrom t l)
  | [], t => by simp [VRs, strsFrom]
  | x :: l, t => by
    simp only [List.map_cons, VRs, strsFrom, VR]
    exact ⟨_, _, rfl, ⟨t, rfl⟩, vrs_strs l (t + 1)⟩

theorem parts_len {x y : Str} (h1 : (decide (x.length < y.length) || decide (Builtin.Str.strKind x < Builtin.Str.strKind y)) = false) (hf : (Builtin.Str.occurrences x y 0 x.length (x.length + 1)).isEmpty = false) :
    Txt.split x y = Builtin.Str.partsBetween x (Builtin.Str.occurrences x y 0 x.length (x.length + 1)) y.length := by
  unfold Txt.split
  rw [if_neg (by rw [h1]; simp), if_neg (by rw [hf]; simp)]

theorem splitL_len (c : Nat) : ∀ s, (splitL c s).length ≤ s.length + 1
  | [] => by simp [splitL]
  | x :: r => by
    have ih := splitL_len c r
    unfold splitL
    split
    · simp; omega
    · split
      · simp
      · rename_i w ws e
        rw [e] at ih
        simp at ih ⊢; omega

/-- split at a sign -/
theorem sim_split {sg : List Nat} {c : Nat} {t u : Tok} (R : Rel T φ η s.heap) (hsz : sg.length ≤ 100000) :
    Sim T A L φ η s (PySem.call (.builtin "str.split") [.str ⟨sg.toArray⟩ t, .str ⟨#[c]⟩ u]) (.ok (.lst ((splitL c sg).map .str)) η) (QV T) := by
  have hx : (⟨sg.toArray⟩ : Str).length = sg.length := str_len sg
  have key := split_eq ⟨sg.toArray⟩ c
  have hv : ∀ tk, VRs T φ (own φ η) s.heap ((splitL c sg).map .str) (strsFrom tk (Txt.split ⟨sg.toArray⟩ ⟨#[c]⟩)) := fun tk => by
    have := vrs_strs (T := T) (φ := φ) (M := own φ η) (h := s.heap) (Txt.split ⟨sg.toArray⟩ ⟨#[c]⟩) tk
    have e : (Txt.split ⟨sg.toArray⟩ ⟨#[c]⟩).map (fun x => V.str x.cps.toList) = (splitL c sg).map .str := by
      have k2 : (Txt.split ⟨sg.toArray⟩ ⟨#[c]⟩).map (·.cps.toList) = splitL c sg := by simpa using key
      rw [← k2, List.map_map]; rfl
    rwa [e] at this
  refine .ok rfl ?_
  cases h1 : (decide ((⟨sg.toArray⟩ : Str).length < (⟨#[c]⟩ : Str).length) || decide (Builtin.Str.strKind ⟨sg.toArray⟩ < Builtin.Str.strKind ⟨#[c]⟩)) with
  | true =>
    refine call_meets F.slot_str_split (typeIs_str _ _ _) F.entry_str_split (F.args_str_split_2 _ _) (meets_str_split_cannot_occur _ _ _ _ h1) ?_
    have e : Txt.split ⟨sg.toArray⟩ ⟨#[c]⟩ = [⟨sg.toArray⟩] := by unfold Txt.split; rw [if_pos h1]
    have hv' := hv t
    rw [e] at hv'
    have := mk_lst R (items := [Value.str ⟨sg.toArray⟩ t].toArray) (by simpa [strsFrom] using hv') s.toks
    exact ⟨φ, this.1, this.2⟩
  | false =>
    cases hf : (Builtin.Str.occurrences ⟨sg.toArray⟩ ⟨#[c]⟩ 0 (⟨sg.toArray⟩ : Str).length ((⟨sg.toArray⟩ : Str).length + 1)).isEmpty with
    | true =>
      refine call_meets F.slot_str_split (typeIs_str _ _ _) F.entry_str_split (F.args_str_split_2 _ _) (meets_str_split_not_found _ _ _ _ h1 rfl hf) ?_
      have e : Txt.split ⟨sg.toArray⟩ ⟨#[c]⟩ = [⟨sg.toArray⟩] := by unfold Txt.split; rw [if_neg (by rw [h1]; simp), if_pos hf]
      have hv' := hv t
      rw [e] at hv'
      have := mk_lst R (items := [Value.str ⟨sg.toArray⟩ t].toArray) (by simpa [strsFrom] using hv') s.toks
      exact ⟨φ, this.1, this.2⟩
    | false =>
      have e := parts_len h1 hf
      have hl : (Builtin.Str.partsBetween ⟨sg.toArray⟩ (Builtin.Str.occurrences ⟨sg.toArray⟩ ⟨#[c]⟩ 0 (⟨sg.toArray⟩ : Str).length ((⟨sg.toArray⟩ : Str).length + 1)) (⟨#[c]⟩ : Str).length).length ≤ 100001 := by
        rw [← e]
        have := congrArg List.length key
        rw [List.length_map] at this
        rw [this]
        have := splitL_len c sg
        simp; omega
      refine call_meets F.slot_str_split (typeIs_str _ _ _) F.entry_str_split (F.args_str_split_2 _ _) (meets_str_split_sep _ _ _ _ h1 rfl hf (by rw [hx]; exact line_le hsz) (Nat.le_trans hl (by decide))) ?_
      have hv' := hv s.toks
      rw [e] at hv'
      have := mk_lst R (items := (strsFrom s.toks (Builtin.Str.partsBetween ⟨sg.toArray⟩ (Builtin.Str.occurrences ⟨sg.toArray⟩ ⟨#[c]⟩ 0 (⟨sg.toArray⟩ : Str).length ((⟨sg.toArray⟩ : Str).length + 1)) (⟨#[c]⟩ : Str).length)).toArray) (by simpa using hv') (s.toks + (Builtin.Str.partsBetween ⟨sg.toArray⟩ (Builtin.Str.occurrences ⟨sg.toArray⟩ ⟨#[c]⟩ 0 (⟨sg.toArray⟩ : Str).length ((⟨sg.toArray⟩ : Str).length + 1)) (⟨#[c]⟩ : Str).length).length)
      exact ⟨φ, this.1, this.2⟩

theorem strs_view {M : Addr → Prop} {h : Heap} : ∀ {xs : List V} {ws : List (List Nat)} {vs : List Value}, strsV xs = some ws → VRs T φ M h xs vs → ∃ l : List (Str × Tok), vs = strValues l ∧ l.map (·.1) = ws.map fun w => ⟨w.toArray⟩
  | [], ws, vs, e, r => by
    cases e
    simp only [VRs] at r
    exact ⟨[], r, rfl⟩
  | x :: xs, ws, vs, e, r => by
    simp only [VRs] at r
    obtain ⟨v, vs', rfl, r1, r2⟩ := r
    unfold strsV at e
    split at e
    · rename_i heq; cases heq
    · rename_i w r' heq
      cases heq
      obtain ⟨ws', e', rfl⟩ := Option.map_eq_some_iff.mp e
      obtain ⟨l, rfl, hl⟩ := strs_view e' r2
      simp only [VR] at r1
      obtain ⟨t, rfl⟩ := r1
      exact ⟨(⟨w.toArray⟩, t) :: l, rfl, by simp [hl]⟩
    · cases e

theorem fold_len (k : Nat) : ∀ (l : List Str) (a : Nat), l.foldl (fun a x => a + x.length + k) a = a + (l.map fun x => x.length + k).sum
  | [], a => by simp
  | x :: l, a => by
    rw [List.foldl_cons, fold_len k l]
    simp [Nat.add_assoc]
theorem joinL_len (sep : List Nat) : ∀ l : List (List Nat), (l.map fun x => x.length + sep.length).sum ≤ (joinL sep l).length + sep.length
  | [] => by simp [joinL]
  | [x] => by simp [joinL]
  | x :: y :: r => by
    have := joinL_len sep (y :: r)
    simp only [List.map_cons, List.sum_cons] at this ⊢
    simp only [joinL, List.length_append]
    omega

/-- join -/
theorem sim_join {sep : List Nat} {t : Tok} {v : V} {x : Value} {ws : List (List Nat)} (R : Rel T φ η s.heap) (r : QV T φ η s.heap v x) (e : (listOf η v).bind strsV = some ws) (hsz : (joinL sep ws).length ≤ 100000) (hs2 : sep.length ≤ 100000) :
    Sim T A L φ η s (PySem.call (.builtin "str.join") [.str ⟨sep.toArray⟩ t, x]) (.ok (.str (joinL sep ws)) η) (QV T) := by
  obtain ⟨xs, e1, e2⟩ := Option.bind_eq_some_iff.mp e
  obtain ⟨a, items, k, rfl, g, rr⟩ := list_view R e1 r
  obtain ⟨l, hl, hw⟩ := strs_view e2 rr
  have hi : items = (strValues l).toArray := by rw [← hl]
  have jn : (Str.join ⟨sep.toArray⟩ (l.map (·.1))) = ⟨(joinL sep ws).toArray⟩ := by
    have := join_cps ⟨sep.toArray⟩ (l.map (·.1))
    rw [hw, List.map_map] at this
    rw [hw]
    apply Str.ext'
    apply Array.toList_inj.mp
    rw [this]
    simp [Function.comp_def]
  have big : Builtin.Str.tooLong ((l.map (·.1)).toArray.foldl (· + ·.length + (⟨sep.toArray⟩ : Str).length) 0) = false := by
    have e3 : (l.map (·.1)).toArray.foldl (· + ·.length + (⟨sep.toArray⟩ : Str).length) 0 = (ws.map fun x => x.length + sep.length).sum := by
      rw [List.foldl_toArray', fold_len, hw, List.map_map, str_len]
      simp [Function.comp_def, str_len]
      simp
    rw [e3]
    unfold Builtin.Str.tooLong
    have := joinL_len sep ws
    have h2 : 200000 ≤ sizeLine := by decide
    simp; omega
  refine .ok rfl (call_meets F.slot_str_join (typeIs_str _ _ _) F.entry_str_join (F.args_str_join_2 _ _) (meets_str_join_list _ _ _ l big) ⟨hi ▸ isList_of g, ?_⟩)
  unfold joinMade
  split
  · rename_i p
    refine ⟨φ, .refl R, ?_⟩
    simp only [QV, VR]
    have : p.1 = ⟨(joinL sep ws).toArray⟩ := jn
    exact ⟨p.2, by rw [this]⟩
  · refine ⟨?_, φ, .toks R, ?_⟩
    · rw [StrLaws.glued_eq_join, jn, str_len]; exact line_le hsz
    · simp only [QV, VR]
      exact ⟨s.toks, by rw [StrLaws.glued_eq_join, jn]⟩

/-- a list grows -/
theorem sim_append {n : Nat} {v : V} {x : Value} {xs : List V} {p : Addr × Addr} (R : Rel T φ η s.heap) (hn : η[n]? = some (.list xs)) (hp : φ[n]? = some p) (hsz : xs.length ≤ 100000) (r : QV T φ η s.heap v x) :
    Sim T A L φ η s (PySem.call (.builtin "list.append") [.ref p.1, x]) (.ok .none (η.set n (.list (xs ++ [v])))) (QV T) := by
  obtain ⟨_, items, k, g, rr⟩ := R.obj n _ p hn hp
  have hl := len_items rr
  refine .ok rfl (call_meets F.slot_list_append ⟨_, g, rfl⟩ F.entry_list_append (F.args_list_append_2 _ _) (list_append p.1 items k x (by rw [hl]; exact line_le hsz)) ⟨g, φ, upd_list R hn hp g (fun a => a.push x) ?_ s.toks, by simp [QV, VR]⟩)
  simp only [Array.toList_push]
  refine rr.append ?_
  simp only [VRs]; exact ⟨x, [], rfl, r, rfl⟩

end
end Mine
end
section
namespace Mine
open PySem PySem.W PySem.Calls PyProof.Rows

section
variable {T : St} {A : Around} {L : Addr} {φ : Phi} {η : H} {s : Shared}
/-- the method's own name -/
def bmId : Bm → String
  | .join => "str.join" | .split => "str.split"
theorem bm_slot (m : Bm) : PlainAttrs "str" ∧ Slot "str" (bmName m) (bmId m) ∧ typeOf (.builtin (bmId m)) = pure (.type "method_descriptor") := by
  cases m with
  | join => exact ⟨F.plainAttrs_str, F.slot_str_join, F.type_str_join⟩
  | split => exact ⟨F.plainAttrs_str, F.slot_str_split, F.type_str_split⟩
theorem sim_bm (m : Bm) {v : V} {x : Value} {vs : List V} {ys : List Value} (R : Rel T φ η s.heap) (r : QV T φ η s.heap v x) (rs : QVs T φ η s.heap vs ys) :
    Sim T A L φ η s (PySem.call (.builtin (bmId m)) (x :: ys)) (bmV m η v vs) (QV T) := by
  unfold bmV
  split
  · -- join
    rename_i sg w
    simp only [QVs, VRs] at rs
    obtain ⟨y, _, rfl, r1, rfl⟩ := rs
    simp only [QV, VR] at r
    obtain ⟨t, rfl⟩ := r
    split
    · rename_i ws e
      split
      · rename_i hsz
        exact sim_join R r1 e hsz.1 hsz.2
      · exact .fail
    · exact .fail
  · -- split
    rename_i sg c
    simp only [QVs, VRs, VR] at rs
    obtain ⟨y, _, rfl, ⟨u, rfl⟩, rfl⟩ := rs
    simp only [QV, VR] at r
    obtain ⟨t, rfl⟩ := r
    split
    · rename_i hsz
      exact sim_split R hsz
    · exact .fail
  · exact .fail
end
end Mine
end
section
namespace Mine
open PySem PySem.W PySem.Calls PyProof.Rows

section
variable {T : St} {A : Around} {L : Addr} {φ : Phi} {η : H} {s : Shared}
def tyStr : Ty → String
  | .int => "int" | .bool => "bool" | .str => "str" | .tuple => "tuple"
/-- isinstance, for the builtin types -/
theorem sim_isinst {v : V} {x : Value} {t : Ty} (R : Rel T φ η s.heap) (r : QV T φ η s.heap v x) :
    Sim T A L φ η s (PySem.call (.builtin "isinstance") [x, .type (tyStr t)]) (match isInst v t with | some b => .ok (.bool b) η | none => .fail) (QV T) := by
  have q0 : ∀ b, ∃ φ', Post T φ η s φ' η s ∧ QV T φ' η s.heap (.bool b) (.bool b) := fun b => ⟨φ, .refl R, by simp [QV, VR]⟩
  have q1 : ∀ b k, ∃ φ', Post T φ η s φ' η { s with toks := k } ∧ QV T φ' η s.heap (.bool b) (.bool b) := fun b k => ⟨φ, .toks R, by simp [QV, VR]⟩
  cases v with
  | str sg =>
    simp only [QV, VR] at r
    obtain ⟨u, rfl⟩ := r
    cases t with
    | str => exact .ok rfl (IsiPair.str_str (q0 _))
    | _ => exact .fail
  | tup xs =>
    simp only [QV, VR] at r
    obtain ⟨a, items, n, rfl, _, g, _⟩ := r
    cases t with
    | tuple => exact .ok rfl (IsiPair.tuple_tuple g rfl (q0 _))
    | _ => exact .fail
  | int i =>
    simp only [QV, VR] at r
    obtain ⟨u, rfl⟩ := r
    cases t with
    | int => exact .ok rfl (IsiPair.int_int (q0 _))
    | bool => exact .ok rfl (IsiPair.int_bool (q1 _ _))
    | _ => exact .fail
  | _ => cases t <;> exact .fail
end
end Mine
end
section
namespace Mine
open PySem PySem.W PySem.Calls PyProof.Rows

section
variable {T : St} {N : Nm} {A : Around} {L : Addr} {q : Bool} {d : Nat} {φ φ' : Phi} {η η' : H} {s s' : Shared} {env : Env} {sc : Scope} {Γ : Gam} {ρ : Rho} {α β : Type} {call' : Nat → List V → H → R V}

def biVal : Bi → Value
  | .len => .builtin "len" | .int => .type "int" | .str => .type "str" | .tuple => .type "tuple"

theorem one_arg {v : V} {ys : List Value} {vs : List V} {h : Heap} (r : VRs T φ (own φ η) h vs ys) (e : vs = [v]) : ∃ y, ys = [y] ∧ VR T φ (own φ η) h v y := by
  subst e
  simp only [VRs] at r
  obtain ⟨y, _, rfl, r1, rfl⟩ := r
  exact ⟨y, rfl, r1⟩

theorem sim_bi (b : Bi) {vs : List V} {ys : List Value} (R : Rel T φ η s.heap) (rs : QVs T φ η s.heap vs ys) : Sim T A L φ η s (PySem.call (biVal b) ys) (biV b η vs) (QV T) := by
  match b, vs, rs with
  | .len, [v], rs =>
    obtain ⟨y, rfl, r⟩ := one_arg rs rfl
    exact sim_len R r
  | .int, [v], rs =>
    obtain ⟨y, rfl, r⟩ := one_arg rs rfl
    exact sim_int R r
  | .str, [v], rs =>
    obtain ⟨y, rfl, r⟩ := one_arg rs rfl
    exact sim_str R r
  | .tuple, [v], rs =>
    obtain ⟨y, rfl, r⟩ := one_arg rs rfl
    exact sim_tuple R r
  | b, [], _ => cases b <;> exact .fail
  | b, v :: w :: r, _ => cases b <;> cases v <;> exact .fail

theorem keep_builtin {id : String} : ∀ h : Heap, (∀ b o, T.base.get? b = some o → h.get? b = some o) → ∃ k, (k = Keeper.frame ∨ k = Keeper.machine ∨ k = Keeper.boundFrame) ∧ Looks T.M h (keeperOf (.builtin id)) k := fun _ _ => ⟨.machine, .inr (.inl rfl), Looks.of_pure rfl⟩
theorem keep_type {t : String} : ∀ h : Heap, (∀ b o, T.base.get? b = some o → h.get? b = some o) → ∃ k, (k = Keeper.frame ∨ k = Keeper.machine ∨ k = Keeper.boundFrame) ∧ Looks T.M h (keeperOf (.type t)) k := fun _ _ => ⟨.machine, .inr (.inl rfl), Looks.of_pure rfl⟩
theorem keep_ref (G : Gd T N) {a : Addr} (hk : keepIn G.K (.ref a) = true) : ∀ h : Heap, (∀ b o, T.base.get? b = some o → h.get? b = some o) → ∃ k, (k = Keeper.frame ∨ k = Keeper.machine ∨ k = Keeper.boundFrame) ∧ Looks T.M h (keeperOf (.ref a)) k :=
  fun h hb => keeps_K hk h (G.kin.keeps hb)

/-- a call of a name -/
theorem sim_named {n : Str} {p pos : Pos} {xs : List Expr} {f : Value} {r : R V} (hf : ∀ (Q : Value → Shared → Prop) (E : Value → Shared → Prop), Q f s → wpAny T.M A (eval (.Name n p) env) Q E s)
    (h : Sim T A L φ η s (callWith pos f [] (backTo pos (starEach xs env)) []) r (QV T)) : Sim T A L φ η s (eval (.Call (.Name n p) xs [] pos) env) r (QV T) := by
  rw [arm_eval_Call_Name']
  exact h.imp id fun h => wpAny_bind (hf _ _ h)

theorem e_bi (G : Gd T N) {b : Bi} {args : List E} {n : Str} {p pos : Pos} {xs : List Expr} (hb : (biName b == n) = true) (hn : isGlo sc n = true) (hp : plainArgs xs) (h : SimEs T q d call' sc Γ args xs) : SimE T q d call' sc Γ (.bi b args) (.Call (.Name n p) xs [] pos) := by
  intro A L φ η s env ρ X F
  rw [beq_iff_eq] at hb; subst hb
  have hB := boot_bi b
  have hv : bootBuiltins (biName b) = some (biVal b) := by rw [hB.2]; cases b <;> rfl
  refine sim_named (f := biVal b) (fun Q E hQ => name_boot G X.rel F hn hB.1 hv hQ) ?_
  refine sim_callWith (by cases b <;> first | exact keep_builtin | exact keep_type) hp h X F fun vs η' φ' ys s' _ p hv => ?_
  exact sim_bi b p.rel hv

/-- what a function's call does -/
def CallOK (T : St) (fn : Nat → Addr) (q : Bool) (d : Nat) (call : Nat → List V → H → R V) : Prop :=
  ∀ f A L φ η s vs ys, Cxt T A L q d φ η s → VRs T φ (own φ η) s.heap vs ys → Sim T A L φ η s (PySem.call (.ref (fn f)) ys) (call f vs η) (QV T)

theorem e_call (G : Gd T N) (hc : CallOK T G.fn q d call') {f : Nat} {args : List E} {n : Str} {p pos : Pos} {xs : List Expr} (hf : atName N.fnm f n = true) (hn : isGlo sc n = true) (hp : plainArgs xs) (h : SimEs T q d call' sc Γ args xs) : SimE T q d call' sc Γ (.call f args) (.Call (.Name n p) xs [] pos) := by
  intro A L φ η s env ρ X F
  obtain ⟨h1, h2⟩ := at_name hf
  obtain ⟨e, hk⟩ := G.fns f n h1 h2
  refine sim_named (f := .ref (G.fn f)) (fun Q E hQ => name_glob G X.rel F hn e hQ) ?_
  refine sim_callWith (keep_ref G hk) hp h X F fun vs η' φ' ys s' _ p hv => ?_
  exact hc f A L φ' η' s' vs ys (X.step p) hv

theorem e_isinst (G : Gd T N) {a : E} {t : Ty} {n tn : Str} {p p' pos : Pos} {x : Expr} (hl : (n == ("isinstance" : Str)) = true) (hn : isGlo sc n = true) (ht : (tyName t == some tn) = true) (htn : isGlo sc tn = true) (hp : plainArg x = true)
    (h : SimE T q d call' sc Γ a x) : SimE T q d call' sc Γ (.isinst a t) (.Call (.Name n p) [x, .Name tn p'] [] pos) := by
  intro A L φ η s env ρ X F
  rw [beq_iff_eq] at hl; subst hl
  rw [beq_iff_eq] at ht
  refine sim_named (f := .builtin "isinstance") (fun Q E hQ => name_boot G X.rel F hn (by decide +kernel) (by decide +kernel) hQ) ?_
  have hs : plainArgs [x, .Name tn p'] := by unfold plainArgs; rw [List.all_cons, hp]; rfl
  have hboot : tn ∈ bnames ∧ bootBuiltins tn = some (.type (tyStr t)) := by
    cases t <;> (simp only [tyName, Option.some.injEq] at ht; subst ht; exact ⟨by decide +kernel, by decide +kernel⟩)
  have hsp : Sim T A L φ η s (spliced (backTo pos (starEach [x, .Name tn p'] env))) (evE T.P q call' a ρ η) (fun φ η h v ys => ∃ y, ys = [y, .type (tyStr t)] ∧ VR T φ (own φ η) h v y) := by
    rw [starEach_plain hp, starEach_plain (x := .Name tn p') rfl]
    refine (h A L φ η s env ρ X F).imp id fun w => spliced_cons (wpAny_mono w (fun y s₁ ⟨v, η', φ', e, p, r⟩ => ?_) fun _ _ z => z)
    exact spliced_cons (name_boot G p.rel (F.step p.step) htn hboot.1 hboot.2 (spliced_nil ⟨v, η', φ', e, p, y, rfl, r⟩))
  refine sim_callWithG (g := fun x h => match isInst x t with | some b => R.ok (V.bool b) h | none => .fail) keep_builtin hs hsp fun v η' φ' ys s' _ p hq => ?_
  obtain ⟨y, rfl, r⟩ := hq
  exact sim_isinst p.rel r

end
end Mine
end
section
namespace Mine
open PySem PyProof.Rows

section
variable {cw : Bool} {T : St} {A : Around} {L : Addr} {q : Bool} {d : Nat} {φ₀ φ φ' φ₁ : Phi} {η₀ η η' η₁ : H} {s₀ s s' s₁ : Shared} {h h' : Heap} {env : Env} {sc csc : Scope} {Γ : Gam} {ρ : Rho} {α β : Type} {I Cc : Addr} {xs : List V} {live : Option (Nat × List V)} {call : Nat → List V → H → R V} {n : Str} {x : Nat}

structure CompOk (csc sc : Scope) (n : Str) (Γ : Gam) (x : Nat) : Prop where
  kind : csc.kind = .function
  nocell : ∀ p ∈ csc.names, p.2 ≠ .cell
  locals : ∀ p ∈ csc.names, p.2 = .local → csc.names.lookup p.1 = some .local
  name : csc.names.lookup n = some .local
  free : ∀ p ∈ csc.names, p.2 = .free → sc.names.lookup p.1 = some .cell ∧ csc.names.lookup p.1 = some .free ∧ (Γ.lookup p.1).isSome = true
  slot : ∀ p ∈ Γ, p.2 ≠ x
  only : ∀ p ∈ csc.names, p.2 = .local → p.1 = n ∨ Γ.lookup p.1 = none
theorem comp_ok (e : compOk csc sc n Γ x = true) : CompOk csc sc n Γ x := by
  unfold compOk at e
  simp only [Bool.and_eq_true, List.all_eq_true, beq_iff_eq, Bool.or_eq_true, Bool.not_eq_true', beq_eq_false_iff_ne, Option.isNone_iff_eq_none] at e
  obtain ⟨⟨⟨⟨⟨⟨h1, h2⟩, h3⟩, h4⟩, h5⟩, h6⟩, h7⟩ := e
  refine ⟨h1, fun p hp => h2 p hp, fun p hp hl => (h3 p hp).resolve_left fun q => q hl, h4, fun p hp hf => ?_, fun p hp => h6 p hp, fun p hp hl => ?_⟩
  · obtain ⟨⟨⟨_, a⟩, b⟩, c⟩ := (h5 p hp).resolve_left fun q => q hf
    exact ⟨a, b, c⟩
  · rcases h7 p hp with (h | h) | h
    · exact absurd hl h
    · exact .inl h
    · exact .inr h

theorem mem_lookup {α : Type} : ∀ {l : List (Str × α)} {n : Str} {c : α}, l.lookup n = some c → (n, c) ∈ l
  | (k, v) :: r, n, c, h => by
    rw [List.lookup_cons] at h
    cases hb : n == k with
    | true => rw [hb] at h; cases h; rw [beq_iff_eq.mp hb]; exact List.mem_cons_self
    | false => rw [hb] at h; exact List.mem_cons_of_mem _ (mem_lookup h)

/-- the frame of a comprehension -/
theorem comp_fr (K : CompOk csc sc n Γ x) (F : FR T φ η h L env sc Γ ρ) (hc : NsAt h Cc "dict" m) (hm : ∀ k, m k = none) (ho : ¬ own φ η Cc) (hb : T.base.get? Cc = none) : FR T φ η h L (compEnvC csc (closL env csc.names []) Cc env) (relabelS csc sc) ((n, x) :: Γ) (ρ.set x none) := by
  have hfree : ∀ p ∈ csc.names, p.2 = .free → (env.cells.lookup p.1).isSome = true := fun p hp hf => by
    obtain ⟨a, _, b⟩ := K.free p hp hf
    obtain ⟨i, hi⟩ := Option.isSome_iff_exists.mp b
    obtain ⟨c, ov, e, _⟩ := F.cell p.1 i hi (by unfold Env.kindOf; rw [F.sc]; exact a)
    rw [e]; rfl
  have hsub := closL_sub csc.names [] hfree (fun n c e => by cases e)
  have hsc : relabel csc env = relabelS csc sc := by rw [← F.sc]; rfl
  have hkd : ∀ k, (compEnvC csc (closL env csc.names []) Cc env).kindOf k = (csc.names.lookup k).map fun kd => if (kd == .free && sc.kind == .function && sc.names.lookup k == some .cell) then NameKind.cell else kd := fun k => by
    show (relabel csc env).names.lookup k = _
    rw [hsc]; exact lookup_relabelS csc sc k
  refine ⟨hsc, K.kind, F.glob, F.bi, F.frame, ⟨"dict", m, hc, .inr rfl, fun k i v h1 h2 h3 => ?_⟩, fun k i h1 h2 => ?_, ⟨ho, hb⟩, fun k c e => F.cthere k c (hsub k c e), fun k c e => F.cfresh k c (hsub k c e), fun k k' c e e' => F.apart k k' c (hsub k c e) (hsub k' c e'), fun k k' i h1 h2 => ?_⟩
  · exfalso
    rw [hkd, Option.map_eq_some_iff] at h2
    obtain ⟨kd, hl, hkd'⟩ := h2
    have hloc : kd = .local := by
      split at hkd'
      · cases hkd'
      · exact hkd'
    subst hloc
    have hmem := mem_lookup hl
    rw [List.lookup_cons] at h1
    cases hb : k == n with
    | true =>
      rw [hb] at h1; cases h1
      rcases getElem?_set_some h3 with ⟨_, e⟩ | ⟨e, _⟩
      · cases e
      · exact e rfl
    | false =>
      rw [hb] at h1
      rcases K.only _ hmem rfl with e | e
      · dsimp only at e; rw [e, beq_self_eq_true] at hb; cases hb
      · dsimp only at e h1; rw [e] at h1; cases h1
  · rw [hkd, Option.map_eq_some_iff] at h2
    obtain ⟨kd, hl, hkd'⟩ := h2
    have hmem := mem_lookup hl
    have hf : kd = .free := by
      split at hkd'
      · rename_i hcond
        simp only [Bool.and_eq_true, beq_iff_eq] at hcond
        exact hcond.1.1
      · exact absurd hkd' (K.nocell _ hmem)
    subst hf
    obtain ⟨a, _, b⟩ := K.free _ hmem rfl
    have hne : (k == n) = false := by
      cases hb : k == n with
      | true => rw [beq_iff_eq.mp hb, K.name] at hl; cases hl
      | false => rfl
    rw [List.lookup_cons, hne] at h1
    obtain ⟨c, ov, e, hcell, hv⟩ := F.cell k i h1 (by unfold Env.kindOf; rw [F.sc]; exact a)
    have hi : i ≠ x := K.slot _ (mem_lookup h1)
    obtain ⟨c', hc'⟩ := Option.isSome_iff_exists.mp (closL_has (env := env) csc.names [] k hmem)
    have := hsub k c' hc'
    rw [e] at this; cases this
    refine ⟨c, ov, hc', hcell, fun v hr => ?_⟩
    rcases getElem?_set_some hr with ⟨e, _⟩ | ⟨_, e⟩
    · exact absurd e hi
    · exact hv v e
  · rw [List.lookup_cons] at h1 h2
    cases hb : k == n with
    | true =>
      rw [hb] at h1; cases h1
      cases hb' : k' == n with
      | true => rw [beq_iff_eq.mp hb, beq_iff_eq.mp hb']
      | false => rw [hb'] at h2; exact absurd rfl (K.slot _ (mem_lookup h2))
    | false =>
      rw [hb] at h1
      cases hb' : k' == n with
      | true => rw [hb'] at h2; cases h2; exact absurd rfl (K.slot _ (mem_lookup h1))
      | false => rw [hb'] at h2; exact F.inj k k' i h1 h2

/-- the tests -/
theorem sim_tests_no {E : Value → Shared → Prop} {Q : Bool → Shared → Prop} : ∀ (ts : List Expr), Q false s → wpAny T.M A (forIn ts false fun c r => if r = true then do let ok ← isTrue c env (eval c env); pure (ForInStep.yield ok) else pure (ForInStep.yield r)) Q E s
  | [], h => wpAny_pure h
  | t :: ts, h => by
    rw [List.forIn_cons]
    exact wpAny_bind (wpAny_pure (sim_tests_no ts h))
theorem sim_tests : ∀ (cs : List C) (ts : List Expr), SimCL T q d call sc Γ cs ts → ∀ φ η s, Cxt T A L q d φ η s → FR T φ η s.heap L env sc Γ ρ →
    Sim T A L φ η s (forIn ts true fun c r => if r = true then do let ok ← isTrue c env (eval c env); pure (ForInStep.yield ok) else pure (ForInStep.yield r)) (evIfs T.P q call cs ρ η) QB
  | [], [], _, φ, η, s, X, F => by rw [evIfs]; exact .pure X.rel rfl
  | c :: cs, t :: ts, hh, φ, η, s, X, F => by
    rw [evIfs, List.forIn_cons, if_pos rfl]
    refine Sim.assoc (Sim.bind (hh.1 A L φ η s env ρ X F) fun v η' φ' y s' _ p hq => ?_)
    cases hq
    refine .pureBind ?_
    cases v with
    | true => exact sim_tests cs ts hh.2 φ' η' s' (X.step p) (F.step p.step)
    | false => exact .ok rfl (sim_tests_no ts ⟨φ', .refl p.rel, rfl⟩)
  | [], _ :: _, hh, _, _, _, _, _ => hh.elim
  | _ :: _, [], hh, _, _, _, _, _ => hh.elim

theorem FS.cxt' (F : FS cw T A L φ₀ η₀ s₀ φ η s env sc Γ ρ) (X : Cxt T A L q d φ₁ η₁ s₁) : Cxt T A L q d φ η s := ⟨X.hand, X.depth, X.units, F.stk, F.post.rel⟩

/-- an exception inside -/
theorem noted {e : Value} {c : Nat} {E : Value → Shared → Prop} (F : FS cw T A L φ₀ η₀ s₀ φ η s env sc Γ ρ) (x : XR T s.heap e c L)
    (h : ∀ a s', e = .ref a → Post T φ η s φ η s' → RN T s'.heap a c (rawInt L) → E e s') : notedBy T.M A env E e s := by
  obtain ⟨a, rfl, r⟩ := x
  obtain ⟨top, outer, h1, h2, h3⟩ := F.stk
  exact wpAny_mono (note h1 h2 h3 F.fr.frame F.post.rel r) (fun _ s' ⟨p, rn⟩ => h a s' rfl p rn) fun _ _ y => y

/-- the loop of a comprehension -/
theorem comp_loop {elt : E} {ifs : List C} {ey iter : Expr} {tests : List Expr} {pos px : Pos} {cenv : Env} {csc' : Scope} {Γ' : Gam} {D : Addr} {N : Nat} {RR : Result → Shared → Prop} {tot : R Unit} {o : Option V}
    (hq : A.handled = none) (X : Cxt T A L q d φ₁ η₁ s₁) (hΓ : Γ'.lookup n = some x) (hn : csc'.names.lookup n = some .local) (he : SimE T q d call csc' Γ' elt ey) (ht : SimCL T q d call csc' Γ' ifs tests) (hf : tot ≠ .fail)
    (hQ : ∀ s' φ' η' o, tot = .ok () η' → φ'[N]? = some (D, D) → FS false T A L φ₁ η₁ s₁ φ' η' s' cenv csc' Γ' (ρ.set x o) → RR (.ok .next) s')
    (hE : ∀ a s' c φ' η' o, tot = .exc c η' → FS false T A L φ₁ η₁ s₁ φ' η' s' cenv csc' Γ' (ρ.set x o) → RN T s'.heap a c (rawInt L) → RR (.error (.ref a)) s')
    (F : FS false T A L φ₁ η₁ s₁ φ η s cenv csc' Γ' (ρ.set x o)) (it : Iter T φ η s.heap I xs live) (ow : Own T s₁ φ η I) (hD : φ[N]? = some (D, D))
    (e : compLoop (still · live) (fun v h' => (evIfs T.P q call ifs (ρ.set x (some v)) h').bind fun t h' => if t then (evE T.P q call elt (ρ.set x (some v)) h').bind fun y h' => (appV h' N y).bind fun _ h' => .ok () h' else .ok () h') xs η = tot) :
    codeAny T.M A (.compLoop (.ListComp ey [⟨.Name n px, iter, tests, 0⟩] csc pos) 0 (.ref I) (.ref D) cenv) RR s := by
  refine codeAny_compLoop_tests (fun m s => ∃ φ η o xs, m = xs.length ∧ FS false T A L φ₁ η₁ s₁ φ η s cenv csc' Γ' (ρ.set x o) ∧ Iter T φ η s.heap I xs live ∧ Own T s₁ φ η I ∧ φ[N]? = some (D, D) ∧
    compLoop (still · live) (fun v h' => (evIfs T.P q call ifs (ρ.set x (some v)) h').bind fun t h' => if t then (evE T.P q call elt (ρ.set x (some v)) h').bind fun y h' => (appV h' N y).bind fun _ h' => .ok () h' else .ok () h') xs η = tot)
    (fun m s hI => ?_) xs.length ⟨φ, η, o, xs, rfl, F, it, ow, hD, e⟩
  obtain ⟨φ, η, o, xs, rfl, F, it, ow, hD, e⟩ := hI
  obtain ⟨oI, gI, pI, cI⟩ := it.priv
  cases xs with
  | nil =>
    rw [compLoop] at e
    split at e
    · rename_i hs
      refine it.fin hq F.post.rel hs fun h' hx => ?_
      dsimp only
      exact hQ _ φ η o e.symm hD (F.but (t := s.toks) gI pI cI ow.z ow.o ow.b fun b o hb e => hx b o hb e)
    · exact absurd e.symm hf
  | cons v vs =>
    rw [compLoop] at e
    split at e
    case isFalse => exact absurd e.symm hf
    rename_i hs
    refine it.next F.post.rel hs fun y h' t ry it' hsame => ?_
    dsimp only
    have k := sameBut_keep hsame
    have F' := F.but (t := t) gI pI cI ow.z ow.o ow.b k
    refine wpAny_assign_Name (F'.store hΓ (.inl hn) ry fun s₂ F₂ k₂ a₂ v₂ => ?_)
    have it₂ : Iter T φ η s₂.heap I vs live := it'.stepL (F'.stepL_store k₂ a₂) F'.fr ow.o
    rw [List.set_set] at F₂
    have htest := sim_tests (A := A) (L := L) (env := cenv) (ρ := ρ.set x (some v)) ifs tests ht φ η s₂ (F₂.cxt' X) F₂.fr
    cases et : evIfs T.P q call ifs (ρ.set x (some v)) η with
    | fail => rw [et] at e; exact absurd e.symm hf
    | exc c η₃ =>
      rw [et] at e htest
      rcases htest with htest | htest
      · cases htest
      refine wpAny_mono htest (fun b s₃ ⟨v, η', φ', e', _⟩ => by cases e') fun e' s₃ ⟨c', η', φ', he', hp, hx⟩ => ?_
      cases he'
      exact noted (F₂.step hp) hx fun a s₄ ea p₄ rn => by subst ea; exact hE a s₄ c φ' _ _ e.symm ((F₂.step hp).step p₄) rn
    | ok tb η₃ =>
      rw [et] at e htest
      rcases htest with htest | htest
      · cases htest
      refine wpAny_mono htest (fun b s₃ ⟨v', η', φ', e', hp, hbq⟩ => ?_) fun e' s₃ ⟨c', η', φ', he', _⟩ => by cases he'
      cases e'; cases hbq
      have F₃ := F₂.step hp
      have it₃ := it₂.step hp.step ow.o
      have ow₃ : Own T s₁ φ' _ I := ow.step (env := cenv) hp.step.toL (iter_there it₂)
      have hD₃ := get_prefix hp.step.ext hD
      cases tb with
      | false =>
        rw [if_neg (by decide)]
        exact ⟨vs.length, Nat.lt_succ_self _, φ', _, _, vs, rfl, F₃, it₃, ow₃, hD₃, e⟩
      | true =>
        rw [if_pos rfl]
        have helt := he A L φ' _ s₃ cenv (ρ.set x (some v)) (F₃.cxt' X) F₃.fr
        simp only [R.bind, if_true] at e
        cases ee : evE T.P q call elt (ρ.set x (some v)) η₃ with
        | fail => rw [ee] at e; exact absurd e.symm hf
        | exc c η₄ =>
          rw [ee] at e helt
          rcases helt with helt | helt
          · cases helt
          refine wpAny_mono helt (fun b s₃ ⟨v, η', φ', e', _⟩ => by cases e') fun e' s₃ ⟨c', η', φ', he', hp, hx⟩ => ?_
          cases he'
          exact noted (F₃.step hp) hx fun a s₄ ea p₄ rn => by subst ea; exact hE a s₄ c φ' _ _ e.symm ((F₃.step hp).step p₄) rn
        | ok w η₄ =>
          rw [ee] at e helt
          rcases helt with helt | helt
          · cases helt
          refine wpAny_mono helt (fun yv s₄ ⟨v', η', φ₄, e', hp₄, rw'⟩ => ?_) fun e' s₃ ⟨c', η', φ', he', _⟩ => by cases he'
          cases e'
          have F₄ := F₃.step hp₄
          have it₄ := it₃.step hp₄.step ow₃.o
          have ow₄ : Own T s₁ φ₄ η₄ I := ow₃.step (env := cenv) hp₄.step.toL (iter_there it₃)
          have hD₄ := get_prefix hp₄.step.ext hD₃
          dsimp only at e
          cases hN : η₄[N]? with
          | none => simp only [appV, hN] at e; exact absurd e.symm hf
          | some mo =>
            cases mo with
            | list ys =>
              by_cases hsz : ys.length ≤ 100000
              case neg => simp only [appV, hN, hsz, if_false] at e; exact absurd e.symm hf
              simp only [appV, hN, hsz, if_true] at e
              rcases sim_append (A := A) (L := L) F₄.post.rel hN hD₄ hsz rw' with ha | ha
              · cases ha
              refine wpAny_mono ha (fun _ s₅ ⟨v₅, η₅, φ₅, e₅, hp₅, _⟩ => ?_) fun e' s₃ ⟨c', η', φ', he', _⟩ => by cases he'
              cases e₅
              exact ⟨vs.length, Nat.lt_succ_self _, φ₅, _, _, vs, rfl, F₄.step hp₅, it₄.step hp₅.step ow₄.o, ow₄.step (env := cenv) hp₅.step.toL (iter_there it₄), get_prefix hp₅.step.ext hD₄, e⟩
            | gone => simp only [appV, hN] at e; exact absurd e.symm hf
end
end Mine
end
section
namespace Mine
open PySem PyProof.Rows

section
variable {cw : Bool} {T : St} {A : Around} {L : Addr} {q : Bool} {d : Nat} {φ₀ φ φ' φ₁ : Phi} {η₀ η η' η₁ : H} {s₀ s s' s₁ : Shared} {h h' : Heap} {env : Env} {sc csc : Scope} {Γ : Gam} {ρ : Rho} {I Cc : Addr} {xs : List V} {live : Option (Nat × List V)} {call : Nat → List V → H → R V} {n : Str} {x : Nat}

theorem new_comp_env {M : Model} {E : Value → Shared → Prop} {g : Addr} {cl : List (Str × Addr)} {qual : Str} {Q : Env → Shared → Prop} (hc : ∀ p ∈ csc.names, p.2 ≠ .cell)
    (hQ : Q (newEnv csc s.heap.objs.size g cl qual none .none (some env) builtinsNs) { s with heap := s.heap.push { cls := .type "dict", data := .dict #[] } }) : wpAny M A (newFunctionEnv csc g cl [] qual none .none (some env)) Q E s := by
  simp only [newFunctionEnv, Option.isSome_some, if_true]
  refine wpAny_bind (wpAny_alloc ?_)
  rw [forIn_yield_id cl (fun x hx c => by
    obtain ⟨name, kind⟩ := x
    have : (kind == NameKind.cell) = false := by simpa using hc _ hx
    simp only [this, Bool.false_eq_true, if_false])]
  refine wpAny_bind (wpAny_pure (wpAny_bind ?_))
  rw [List.forIn_nil]
  exact wpAny_pure (wpAny_pure hQ)

theorem own_none (R : Rel T φ η h) (e : h.get? I = none) : ¬ own φ η I := fun o => by
  obtain ⟨ob, e', _⟩ := R.there o
  rw [e] at e'; cases e'
theorem base_none (R : Rel T φ η h) (e : h.get? I = none) : T.base.get? I = none := by
  cases q : T.base.get? I with
  | none => rfl
  | some o => have := R.base I o q; rw [e] at this; cases this
theorem Step.was_none (st : Step φ η h φ' η' h') (e : h'.get? I = none) : h.get? I = none := by
  cases q : h.get? I with
  | none => rfl
  | some o => have := st.alive I o q; rw [e] at this; cases this

/-- what a comprehension's names are at its end -/
structure Gone (T : St) (s : Shared) (φ' : Phi) (η' : H) (s' : Shared) (cenv : Env) : Prop where
  ns : ∃ c m, NsAt s'.heap cenv.locals c m ∧ (c = "frame" ∨ c = "dict")
  z : s.heap.get? cenv.locals = none
  o : ¬ own φ' η' cenv.locals
  b : T.base.get? cenv.locals = none

theorem comp_core {mu : Bool} {elt : E} {it : It} {ifs : List C} {px pos : Pos} {iter ey : Expr} {tests : List Expr} {RR : Value → Env → Result → Shared → Prop} {E : Value → Shared → Prop} {r : R V} (er : evE T.P q call (.comp mu x elt it ifs) ρ η = r)
    (K : CompOk csc sc n Γ x) (hi : SimIt T q d call sc Γ it iter) (he : SimE T q d call (relabelS csc sc) ((n, x) :: Γ) elt ey) (ht : SimCL T q d call (relabelS csc sc) ((n, x) :: Γ) ifs tests)
    (X : Cxt T A L q d φ η s) (F : FR T φ η s.heap L env sc Γ ρ)
    (hok : ∀ D cenv s' v η' φ', r = .ok v η' → Post T φ η s φ' η' s' → VR T φ' (own φ' η') s'.heap v (.ref D) → Gone T s φ' η' s' cenv → RR (.ref D) cenv (.ok .next) s')
    (herr : ∀ D cenv s' a c η' φ', r = .exc c η' → Post T φ η s φ' η' s' → RN T s'.heap a c (rawInt L) → Gone T s φ' η' s' cenv → cenv.frame = some L → RR (.ref D) cenv (.error (.ref a)) s')
    (hE : ∀ e s' c η' φ', r = .exc c η' → Post T φ η s φ' η' s' → XR T s'.heap e c L → E e s') :
    r = .fail ∨ wpAny T.M A (eval iter env) (fun xv s₁ => wpAny T.M A (pyIter xv) (fun it s₂ => wpAny T.M A (newList []) (fun acc s₃ => wpAny T.M A (newFunctionEnv csc env.globals (closL env csc.names []) [] env.qual none .none (some env)) (fun cenv s₄ =>
      codeAny T.M A (.compStart (.ListComp ey [⟨.Name n px, iter, tests, 0⟩] csc pos) 0 it acc { cenv with scope := relabel csc env }) (RR acc { cenv with scope := relabel csc env }) s₄) E s₃) E s₂) E s₁) E s := by
  by_cases hrf : r = .fail
  · exact .inl hrf
  rw [evE] at er
  rcases hi A L φ η s env ρ X F with hh | hh
  · left; rw [← er, hh]; rfl
  right
  cases ei : evIt T.P q call it ρ η with
  | fail => rw [ei] at er; exact absurd er.symm hrf
  | exc c η' =>
    refine wpAny_mono hh (fun y s' ⟨v, η', φ', e, _⟩ => by rw [ei] at e; cases e) fun e s' ⟨c', η', φ', he, hp, hx⟩ => ?_
    rw [ei] at he; cases he
    rw [ei] at er
    exact hE e s' c _ φ' er.symm hp hx
  | ok v η₁ =>
    rw [ei] at er
    simp only [R.bind] at er
    cases e2 : itemsOf η₁ v with
    | none => rw [e2] at er; exact absurd er.symm hrf
    | some pr =>
      obtain ⟨xs, live⟩ := pr
      rw [e2] at er
      dsimp only at er
      by_cases hql : q = true ∧ xs.length ≤ 100000
      case neg => rw [if_neg hql] at er; exact absurd er.symm hrf
      rw [if_pos hql] at er
      generalize etot : compLoop (still · live) (fun v h' => (evIfs T.P q call ifs (ρ.set x (some v)) h').bind fun t h' => if t then (evE T.P q call elt (ρ.set x (some v)) h').bind fun y h' => (appV h' η₁.length y).bind fun _ h' => .ok () h' else .ok () h') xs (η₁ ++ [.list []]) = tot
      have er' : tot.bind (fun _ h' => endComp mu η₁ h') = r := by rw [← etot, ← er]; rfl
      clear er
      have hf : tot ≠ .fail := fun q => by rw [q] at er'; exact hrf er'.symm
      refine wpAny_mono hh (fun y s₁ ⟨v', η₁', φ₁, e, p₁, hy⟩ => ?_) fun e s' ⟨c', η', φ', he, _⟩ => by rw [ei] at he; cases he
      rw [ei] at e; cases e
      refine iter_start p₁.rel e2 hy fun I hI' hI hk it' => ?_
      have p₂ : Post T φ₁ η₁ s₁ φ₁ η₁ { s₁ with heap := hI' } := Post.grown (k := s₁.toks) p₁.rel hk
      have oI := own_none p₁.rel hI
      have bI := base_none p₁.rel hI
      obtain ⟨vD, ηD, φD, eD, pD, rD⟩ := mk_list (s := { s₁ with heap := hI' }) true p₂.rel (items := #[]) (xs := []) (by simp [VRs]) s₁.toks
      cases eD
      simp only [VR] at rD
      obtain ⟨pp, hpp, ep⟩ := rD
      obtain ⟨e21, itemsD, kD, gD, _⟩ := pD.rel.obj η₁.length (.list []) pp (by rw [List.getElem?_append_right (Nat.le_refl _)]; simp) hpp
      have hDD : φD[η₁.length]? = some (hI'.objs.size, hI'.objs.size) := by
        rw [hpp]
        obtain ⟨p1, p2⟩ := pp
        cases ep
        dsimp only at e21; subst e21; rfl
      refine wpAny_newList (s := { s₁ with heap := hI' }) ?_ (by simp)
      refine new_comp_env K.nocell ?_
      generalize hH : (hI'.push (listO ([] : List Value).toArray 0)) = HD at *
      have pC : Post T φD (η₁ ++ [.list []]) { s₁ with heap := HD } φD (η₁ ++ [.list []]) { s₁ with heap := HD.push { cls := .type "dict", data := .dict #[] } } := Post.grown (s := { s₁ with heap := HD }) (k := s₁.toks) pD.rel (push_keeps _)
      have pAll : Post T φ₁ η₁ s₁ φD (η₁ ++ [.list []]) { s₁ with heap := HD.push { cls := .type "dict", data := .dict #[] } } := (p₂.trans pD).trans pC
      have zC : HD.get? HD.objs.size = none := Heap.get?_none_of_le (Nat.le_refl _)
      have oC := own_none pD.rel zC
      have bC := base_none pD.rel zC
      have z₁ : s₁.heap.get? HD.objs.size = none := (p₂.trans pD).step.was_none zC
      have nsC : NsAt (HD.push { cls := .type "dict", data := .dict #[] }) HD.objs.size "dict" (fun _ => none) := ⟨Heap.Ns.new HD (.type "dict"), _, Heap.get?_push_size _ rfl, rfl⟩
      have fr := comp_fr (m := fun _ => none) K (F.step (p₁.trans pAll).step) nsC (fun _ => rfl) oC bC
      have FSc : FS false T A L φ₁ η₁ s₁ φD (η₁ ++ [.list []]) { s₁ with heap := HD.push { cls := .type "dict", data := .dict #[] } } (compEnvC csc (closL env csc.names []) HD.objs.size env) (relabelS csc sc) ((n, x) :: Γ) (ρ.set x none) :=
        ⟨pAll, fr, let ⟨t, o, h1, h2, h3⟩ := X.stk; ⟨t, o, h1, h2, h3.step (p₁.trans pAll).step⟩, z₁, fun q => by cases q⟩
      have gone : ∀ s' φ' η' o, FS false T A L φ₁ η₁ s₁ φ' η' s' (compEnvC csc (closL env csc.names []) HD.objs.size env) (relabelS csc sc) ((n, x) :: Γ) (ρ.set x o) → Gone T s φ' η' s' (compEnvC csc (closL env csc.names []) HD.objs.size env) := fun s' φ' η' o F' => by
        obtain ⟨c, m, h1, h2, _⟩ := F'.fr.ns
        exact ⟨⟨c, m, h1, h2⟩, p₁.step.was_none z₁, F'.fr.lfresh.1, F'.fr.lfresh.2⟩
      have hI₄ := it'.step (pD.trans pC).step oI
      have loop : codeAny T.M A (.compLoop (.ListComp ey [⟨.Name n px, iter, tests, 0⟩] csc pos) 0 (.ref I) (.ref hI'.objs.size) (compEnvC csc (closL env csc.names []) HD.objs.size env))
          (RR (.ref hI'.objs.size) (compEnvC csc (closL env csc.names []) HD.objs.size env)) { s₁ with heap := HD.push { cls := .type "dict", data := .dict #[] } } := by
        refine comp_loop (s₁ := s₁) (φ₁ := φ₁) (η₁ := η₁) (N := η₁.length) (D := hI'.objs.size) (call := call) (X.hand hql.1) (X.step p₁) (by rw [List.lookup_cons, beq_self_eq_true]) ?_ he ht hf (fun s' φ' η' o eo hD F' => ?_) (fun a s' c φ' η' o eo F' rn => ?_) FSc hI₄
          ⟨hI, fun q => ?_, bI⟩ hDD etot
        · rw [lookup_relabelS, K.name]; rfl
        · rw [eo] at er'
          simp only [R.bind] at er'
          unfold endComp at er'
          cases hN : η'[η₁.length]? with
          | none => rw [hN] at er'; exact absurd er'.symm hrf
          | some mo =>
            rw [hN] at er'
            cases mo with
            | list ys =>
              obtain ⟨_, items, k, g, rr⟩ := F'.post.rel.obj _ _ _ hN hD
              have gn := gone s' φ' η' o F'
              cases mu with
              | true =>
                simp only [if_true] at er'
                exact hok _ _ s' _ _ φ' er'.symm (p₁.trans F'.post) (by simp only [VR]; exact ⟨_, hD, rfl⟩) gn
              | false =>
                simp only [Bool.false_eq_true, if_false] at er'
                split at er'
                · rename_i hc
                  refine hok _ _ s' _ _ φ₁ er'.symm (p₁.trans (F'.post.cut p₁.rel hc.1)) ?_ ⟨gn.ns, gn.z, fun q => gn.o (own_cut F'.post.step.ext hc.1 q), gn.b⟩
                  simp only [VR]
                  have zD : s₁.heap.get? hI'.objs.size = none := p₂.step.was_none (Heap.get?_none_of_le (Nat.le_refl _))
                  exact ⟨_, items, k, rfl, own_none p₁.rel zD, g, F'.post.cutVs p₁.rel hc.1 rr hc.2⟩
                · have fre := F'.post.rel.free (n := η₁.length)
                  have pF : Post T φ' η' s' φ' (η'.set η₁.length .gone) s' := ⟨fre.2, fre.1, rfl, rfl, rfl⟩
                  obtain ⟨c, m, ⟨_, oc, goc, _⟩, _⟩ := gn.ns
                  refine hok _ _ s' _ _ φ' er'.symm ((p₁.trans F'.post).trans pF) ?_ ⟨gn.ns, gn.z, fre.2.off gn.o goc, gn.b⟩
                  simp only [VR]
                  exact ⟨_, items, k, rfl, own_free F'.post.rel hN hD, g, VRs.step fre.2 _ _ rr⟩
            | gone => exact absurd er'.symm hrf
        · rw [eo] at er'
          exact herr _ _ s' a c η' φ' er'.symm (p₁.trans F'.post) rn (gone s' φ' η' o F') F'.fr.frame
        · have gI := iter_there it'
          obtain ⟨o, go⟩ := Option.isSome_iff_exists.mp gI
          exact pD.step.off oI go q
      refine codeAny_compStart_list loop (hI₄.self loop)
end
end Mine
end
section
namespace Mine
open PySem PyProof.Rows

section
variable {cw : Bool} {T : St} {A : Around} {L : Addr} {q : Bool} {d : Nat} {φ₀ φ φ' φ₁ : Phi} {η₀ η η' η₁ : H} {s₀ s s' s₁ : Shared} {h h' : Heap} {env : Env} {sc csc : Scope} {Γ : Gam} {ρ : Rho} {I Cc : Addr} {xs : List V} {live : Option (Nat × List V)} {n : Str} {x : Nat}

theorem Gone.priv {cenv : Env} (g : Gone T s φ' η' s' cenv) : ∃ o, s'.heap.get? cenv.locals = some o ∧ Priv o ∧ (∃ es ep, o.data = .dict es ep) ∧ ∃ m, s'.heap.Ns cenv.locals m := by
  obtain ⟨c, m, ⟨hn, o, go, hc⟩, hcc⟩ := g.ns
  obtain ⟨o', es, ep, go', hd, _⟩ := id hn
  rw [go] at go'; cases go'
  exact ⟨o, go, ⟨c, hc, by rcases hcc with rfl | rfl <;> decide, by rcases hcc with rfl | rfl <;> decide⟩, ⟨es, ep, hd⟩, m, hn⟩
theorem Gone.post {cenv : Env} (g : Gone T s φ' η' s' cenv) (p : Post T φ η s φ' η' s') (hs : Heap.SameBut cenv.locals s'.heap h') : Post T φ η s φ' η' { s' with heap := h' } := by
  obtain ⟨o, go, pv, _⟩ := g.priv
  exact p.but (t := s'.toks) g.z go pv g.o g.b (sameBut_keep hs)
theorem RN.but {a : Addr} {c : Nat} {fl : Value} {o : Obj} {es : Array DictEntry} {ep : Nat} (x : RN T h a c fl) (_ : h.get? Cc = some o) (_ : o.data = .dict es ep) (_ : ∀ b o, b ≠ Cc → h.get? b = some o → h'.get? b = some o) : RN T h' a c fl := x.elim

theorem comp_pass {cenv : Env} {a : Addr} {c : Nat} {E : Value → Shared → Prop} (g : Gone T s φ' η' s' cenv) (p : Post T φ η s φ' η' s') (rn : RN T s'.heap a c (rawInt L)) (hf : cenv.frame = some L) (hE : ∀ s'', Post T φ η s φ' η' s'' → XR T s''.heap (.ref a) c L → E (.ref a) s'') :
    ∃ m, s'.heap.Ns cenv.locals m ∧ ∀ h', Heap.SameBut cenv.locals s'.heap h' → wpAny T.M A (passOn "comprehension.variables-let-go" (.ref a) cenv : Sem Value) (fun _ _ => False) E { s' with heap := h' } := by
  obtain ⟨o, go, pv, ⟨es, ep, hd⟩, m, hn⟩ := g.priv
  refine ⟨m, hn, fun h' hs => ?_⟩
  have p' := g.post p hs
  exact passes hf p'.rel (rn.but go hd (sameBut_keep hs)) fun s'' p'' r => hE s'' (p'.trans p'') ⟨a, rfl, r⟩

theorem cells_some (K : CompOk csc sc n Γ x) (F : FR T φ η h L env sc Γ ρ) : ∀ p ∈ csc.names, p.2 = .free → (env.cells.lookup p.1).isSome = true := fun p hp hf => by
  obtain ⟨a, _, b⟩ := K.free p hp hf
  obtain ⟨i, hi⟩ := Option.isSome_iff_exists.mp b
  obtain ⟨c, ov, e, _⟩ := F.cell p.1 i hi (by unfold Env.kindOf; rw [F.sc]; exact a)
  rw [e]; rfl

theorem e_comp {call : Nat → List V → H → R V} {mu : Bool} {elt : E} {it : It} {ifs : List C} {px pos : Pos} {iter ey : Expr} {tests : List Expr} (hset : ∀ env y, foldedSetIterable iter env y = pure y)
    (K : CompOk csc sc n Γ x) (hi : SimIt T q d call sc Γ it iter) (he : SimE T q d call (relabelS csc sc) ((n, x) :: Γ) elt ey) (ht : SimCL T q d call (relabelS csc sc) ((n, x) :: Γ) ifs tests) :
    SimE T q d call sc Γ (.comp mu x elt it ifs) (.ListComp ey [⟨.Name n px, iter, tests, 0⟩] csc pos) := by
  intro A L φ η s env ρ X F
  rw [eval_ListComp]
  refine Or.elim (comp_core (A := A) (L := L) (mu := mu) (pos := pos) (px := px) (RR := fun acc cenv => CompEnd T.M A (fun e s' => ∃ c η' φ', evE T.P q call (.comp mu x elt it ifs) ρ η = .exc c η' ∧ Post T φ η s φ' η' s' ∧ XR T s'.heap e c L) none
      (fun y s' => ∃ v η' φ', evE T.P q call (.comp mu x elt it ifs) ρ η = .ok v η' ∧ Post T φ η s φ' η' s' ∧ QV T φ' η' s'.heap v y) acc cenv)
      (E := fun e s' => ∃ c η' φ', evE T.P q call (.comp mu x elt it ifs) ρ η = .exc c η' ∧ Post T φ η s φ' η' s' ∧ XR T s'.heap e c L) rfl K hi he ht X F
      (fun D cenv s' v η' φ' e p r g => ?_) (fun D cenv s' a c η' φ' e p rn g hf => ?_) (fun e s' c η' φ' h1 h2 h3 => ⟨c, η', φ', h1, h2, h3⟩)) (fun hh => .inl hh) fun hh => .inr (comp_rule (use := none) rfl (hset env) (closure_eq csc env (cells_some K F)) K.kind K.locals hh)
  · obtain ⟨o, go, pv, _, m, hn⟩ := g.priv
    exact ⟨m, hn, fun h' hs => ⟨v, η', φ', e, g.post p hs, VR.but go pv (sameBut_keep hs) _ _ r⟩⟩
  · exact comp_pass g p rn hf fun s'' p' xr => ⟨c, η', φ', e, p', xr⟩

variable {call : Bool → Nat → List V → H → R V}

theorem s_assign_comp {y : Nat} {t : Str} {mu : Bool} {elt : E} {it : It} {ifs : List C} {px pos p spos : Pos} {iter ey : Expr} {tests : List Expr} (hset : ∀ env y, foldedSetIterable iter env y = pure y) (hΓ : Γ.lookup t = some y) (hn : isLoc sc t = true)
    (K : CompOk csc sc n Γ x) (hi : SimIt T q d (call q) sc Γ it iter) (he : SimE T q d (call q) (relabelS csc sc) ((n, x) :: Γ) elt ey) (ht : SimCL T q d (call q) (relabelS csc sc) ((n, x) :: Γ) ifs tests) :
    SimS T q d call sc Γ (.assign y (.comp mu x elt it ifs)) (.Assign [.Name t p] (.ListComp ey [⟨.Name n px, iter, tests, 0⟩] csc pos) spos) := by
  intro A L φ₀ η₀ s₀ φ η s env ρ X F
  have hsw : ∃ b, swapsWith (.ListComp ey [⟨.Name n px, iter, tests, 0⟩] csc pos) (some (.Name t p)) spos.line env = pure b := ⟨_, rfl⟩
  obtain ⟨b, hsw⟩ := hsw
  cases b with
  | false =>
    rw [exec_Assign_Name env t p _ spos hsw]
    refine SimR.standAt ?_
    rw [evS]
    exact SimR.expr F (e_comp hset K hi he ht A L φ η s env ρ (F.cxt X) F.fr) fun w η' φ' y s' _ F' hq => sim_store F' hΓ hn hq
  | true =>
    rw [exec_Assign_Name_used _ _ _ _ hsw, evS]
    refine SimR.standAt ?_
    generalize er : evE T.P q (call q) (.comp mu x elt it ifs) ρ η = r
    refine Or.elim (comp_core (A := A) (L := L) (mu := mu) (pos := pos) (px := px) (RR := fun acc cenv => CompEnd T.M A (fun e s' => ∃ c η' φ', r = .exc c η' ∧ Post T φ η s φ' η' s' ∧ XR T s'.heap e c L) (some (assign (.Name t p) env))
      (fun _ s' => ∃ v η' φ', r = .ok v η' ∧ FS true T A L φ₀ η₀ s₀ φ' η' s' env sc Γ (ρ.set y (some v)) ∧ StepL env φ η s.heap φ' η' s'.heap) acc cenv)
      (E := fun e s' => ∃ c η' φ', r = .exc c η' ∧ Post T φ η s φ' η' s' ∧ XR T s'.heap e c L) er K hi he ht (F.cxt X) F.fr
      (fun D cenv s' v η' φ' e pp rr g => ?_) (fun D cenv s' a c η' φ' e pp rn g hf => ?_) (fun e s' c η' φ' h1 h2 h3 => ⟨c, η', φ', h1, h2, h3⟩)) (fun hh => .inl (by rw [hh]; rfl)) fun hh => .inr ?_
    · have F' := F.step pp
      refine wpAny_assign_Name (F'.store hΓ (loc_store hn) rr fun s'' F'' k a _ => ?_)
      obtain ⟨o, go, pv, ⟨es, ep, hd⟩, m, hns⟩ := g.priv
      have offC : Off env cenv.locals := by
        refine ⟨fun qq => ?_, fun k c e qq => ?_⟩
        · obtain ⟨c, m, ⟨_, o', g', _⟩, _⟩ := F.fr.ns
          rw [← qq, g.z] at g'; cases g'
        · obtain ⟨ov, o', g', _⟩ := F.fr.cthere k c e
          rw [← qq, g.z] at g'; cases g'
      have go'' : s''.heap.get? cenv.locals = some o := k _ _ offC.1 offC.2 go
      refine ⟨m, ?_, fun h' hs => ⟨v, η', φ', e, ?_, ?_⟩⟩
      · obtain ⟨o₁, es₁, ep₁, g₁, r₁⟩ := hns
        rw [go] at g₁; cases g₁
        exact ⟨o, es₁, ep₁, go'', r₁⟩
      · have kk := sameBut_keep hs
        obtain ⟨t, u, h1, h2, h3⟩ := F''.stk
        obtain ⟨t', u', h1', h2', h3'⟩ := F.stk
        rw [h1] at h1'; cases h1'
        refine ⟨F''.post.but (t := s''.toks) (F.fresh g.z).1 go'' pv g.o g.b kk, F''.fr.but go'' pv offC kk, ⟨t, u, h1, h2, fun env' he' => ?_⟩, F''.l0, F''.c0⟩
        obtain ⟨hk, L', o₁, hf₁, hb₁, ho₁, hg₁, r₁⟩ := h3 env' he'
        obtain ⟨_, L'', o₂, hf₂, _, _, hg₂, _⟩ := h3' env' he'
        rw [hf₁] at hf₂; cases hf₂
        have hne : L' ≠ cenv.locals := fun qq => by rw [qq, g.z] at hg₂; cases hg₂
        exact ⟨hk, L', o₁, hf₁, hb₁, ho₁, kk _ _ hne hg₁, r₁⟩
      · have st₂ : StepL env φ η s.heap φ' η' s''.heap := pp.step.toL.trans (F'.stepL_store k a)
        refine ⟨st₂.ext, fun b ob hb ho e => ?_, st₂.osub, fun b ob e => ?_⟩
        · have hne : b ≠ cenv.locals := fun qq => by rw [qq, g.z] at e; cases e
          exact (st₂.keep b ob hb ho e).trans fun o' e' => .inl (sameBut_keep hs b o' hne e')
        · have hne : b ≠ cenv.locals := fun qq => by rw [qq, g.z] at e; cases e
          obtain ⟨o', e'⟩ := Option.isSome_iff_exists.mp (st₂.alive b ob e)
          show (h'.get? b).isSome = true
          rw [sameBut_keep hs b o' hne e']; rfl
    · exact comp_pass g pp rn hf fun s'' p' xr => ⟨c, η', φ', e, p', xr⟩
    · refine wpAny_bind ?_
      show wpAny _ A (do let _ ← comprehension (.ListComp ey [⟨.Name n px, iter, tests, 0⟩] csc pos) csc env _ (newList []) false (eval iter env) (some (assign (.Name t p) env))) _ _ s
      refine wpAny_bind (wpAny_mono (comp_rule (use := some (assign (.Name t p) env)) rfl (hset env) (closure_eq csc env (cells_some K F.fr)) K.kind K.locals hh)
        (fun _ s' ⟨v, η', φ', e, F', st⟩ => wpAny_pure (wpAny_pure ⟨φ', η', _, .inl ⟨by rw [e]; rfl, rfl⟩, F', st⟩)) fun e s' ⟨c, η', φ', h1, h2, h3⟩ => ⟨c, φ', η', ρ, by rw [h1]; rfl, F.step h2, h2.step.toL, h3⟩)
end
end Mine
end
section
namespace Mine
open PySem PySem.W PyProof.Rows

theorem zip_lookup {β : Type} : ∀ (ns : List Str) (ys : List β) (i : Nat) (n : Str) (y : β), ns.Nodup → ns[i]? = some n → ys[i]? = some y → (ns.zip ys).lookup n = some y
  | m :: ns, z :: ys, 0, n, y, _, h1, h2 => by
    simp at h1 h2; subst h1; subst h2
    rw [List.zip_cons_cons, List.lookup_cons, beq_self_eq_true]
  | m :: ns, z :: ys, i + 1, n, y, hd, h1, h2 => by
    simp only [List.getElem?_cons_succ] at h1 h2
    rw [List.zip_cons_cons, List.lookup_cons]
    have hne : (n == m) = false := by
      rw [beq_eq_false_iff_ne]
      rintro rfl
      exact (List.nodup_cons.mp hd).1 (List.mem_of_getElem? h1)
    rw [hne]
    exact zip_lookup ns ys i n y (List.nodup_cons.mp hd).2 h1 h2
  | [], _, _, _, _, _, h1, _ => by simp at h1
  | _ :: _, [], _, _, _, _, _, h2 => by simp at h2

theorem filterMap_zip {β : Type} (l : List (Str × β)) : ∀ (ns : List Str) (ys : List β), ns.length = ys.length → (∀ (i : Nat) n y, ns[i]? = some n → ys[i]? = some y → l.lookup n = some y) → (ns.filterMap fun n => (l.lookup n).map (n, ·)) = ns.zip ys
  | [], [], _, _ => rfl
  | n :: ns, y :: ys, hl, h => by
    rw [List.filterMap_cons, h 0 n y rfl rfl]
    simp only [Option.map_some, List.zip_cons_cons]
    rw [filterMap_zip l ns ys (by simpa using hl) fun i n y h1 h2 => h (i + 1) n y (by simpa using h1) (by simpa using h2)]
  | [], _ :: _, hl, _ => by simp at hl
  | _ :: _, [], hl, _ => by simp at hl

theorem bind_eq {fd : FuncData} {ys : List Value} (h1 : fd.params.posonlyargs = []) (h2 : fd.params.kwonlyargs = []) (h3 : fd.params.vararg = none) (h4 : fd.params.kwarg = none) (h5 : fd.defaults = .none) (hn : (parNames fd.params).Nodup) (hl : (parNames fd.params).length = ys.length) :
    bindArgs fd ⟨ys, []⟩ = pure ((parNames fd.params).zip ys) := by
  have hs : ∀ n ∈ parNames fd.params, (((parNames fd.params).zip ys).lookup n).isNone = false := fun n hm => by
    obtain ⟨i, hi, rfl⟩ := List.mem_iff_getElem.mp hm
    rw [zip_lookup _ ys i _ (ys[i]'(by omega)) hn (List.getElem?_eq_getElem hi) (List.getElem?_eq_getElem (by omega))]; rfl
  have hm : ((parNames fd.params).filter fun n => (((parNames fd.params).zip ys).lookup n).isNone) = [] := by
    rw [List.filter_eq_nil_iff]
    intro n hn'; rw [hs n hn']; decide
  have hf := filterMap_zip ((parNames fd.params).zip ys) (parNames fd.params) ys hl fun i n y a b => zip_lookup _ _ i n y hn a b
  have hg : ¬ (ys.length > (parNames fd.params).length) := by omega
  unfold parNames at *
  unfold bindArgs
  have pb : ∀ {α β : Type} (a : α) (f : α → Sem β), ((pure a : Sem α) >>= f) = f a := fun _ _ => rfl
  have ns : notAStandIn Value.none = pure () := rfl
  simp only [h1, h2, h3, h4, h5, List.map_nil, List.nil_append, List.append_nil, List.forIn_nil, seqItems?, ns, pb, Option.getD_none, List.drop_nil, List.length_nil, Nat.sub_zero, List.take_length, List.drop_length, List.zip_nil_left, List.zip_nil_right, hm, hf,
    List.isEmpty_nil, Bool.not_true, Bool.false_eq_true, if_false, hg, decide_false, Bool.false_and]
end Mine
end
section
namespace Mine
open PySem PySem.W PyProof.Rows

section
variable {T : St} {N : Nm} {A A₂ : Around} {L : Addr} {q : Bool} {d : Nat} {φ φ' : Phi} {η η' : H} {s s' : Shared} {h : Heap} {env : Env} {sc : Scope} {Γ : Gam} {ρ : Rho}

theorem cells_at : ∀ (names : List (Str × NameKind)) (h : Heap) (lo : Nat) (acc : List (Str × Addr)), (∀ n c, (n, c) ∈ acc → h.get? c = some { cls := .type "cell", data := .cell none } ∧ lo ≤ c) → lo ≤ h.objs.size →
    ∀ n c, (n, c) ∈ cellsFrom h.objs.size names acc → (pushCells h names).get? c = some { cls := .type "cell", data := .cell none } ∧ lo ≤ c
  | [], _, _, _, x, _ => x
  | (name, kind) :: r, h, lo, acc, x, hlo => by
    unfold pushCells cellsFrom
    split
    · have := cells_at r (h.push { cls := .type "cell", data := .cell none }) lo ((name, h.objs.size) :: acc) (fun n c hm => by
          rcases List.mem_cons.mp hm with e | hm
          · cases e; exact ⟨Heap.get?_push_size _ rfl, hlo⟩
          · exact ⟨Heap.get?_push_of_some _ (x n c hm).1, (x n c hm).2⟩) (by rw [Heap.size_push]; omega)
      rwa [Heap.size_push] at this
    · exact cells_at r h lo acc x hlo
theorem cells_acc : ∀ (names : List (Str × NameKind)) (k : Nat) (acc : List (Str × Addr)) (n : Str), (acc.lookup n).isSome = true → ((cellsFrom k names acc).lookup n).isSome = true
  | [], _, _, _, h => h
  | (m, kind) :: r, k, acc, n, h => by
    unfold cellsFrom
    split
    · refine cells_acc r _ _ n ?_
      rw [List.lookup_cons]
      cases n == m
      · exact h
      · rfl
    · exact cells_acc r k acc n h
theorem cells_has : ∀ (names : List (Str × NameKind)) (k : Nat) (acc : List (Str × Addr)) (n : Str), (n, NameKind.cell) ∈ names → ((cellsFrom k names acc).lookup n).isSome = true
  | (m, kind) :: r, k, acc, n, h => by
    unfold cellsFrom
    rcases List.mem_cons.mp h with e | h
    · cases e
      rw [if_pos (by decide)]
      refine cells_acc r _ _ _ ?_
      rw [List.lookup_cons, beq_self_eq_true]; rfl
    · split
      · exact cells_has r _ _ n h
      · exact cells_has r _ _ n h

theorem nodup_inj : ∀ {Γ : Gam}, nodupN (Γ.map (·.2)) = true → ∀ n n' i, Γ.lookup n = some i → Γ.lookup n' = some i → n = n'
  | [], _, _, _, _, h, _ => by cases h
  | (m, j) :: r, hd, n, n', i, h1, h2 => by
    rw [List.map_cons, nodupN, Bool.and_eq_true, Bool.not_eq_true'] at hd
    have notin : ∀ k, r.lookup k = some j → False := fun k hk => by
      have := List.mem_map_of_mem (f := (·.2)) (mem_lookup hk)
      have h3 : (r.map (·.2)).contains j = true := by rw [List.contains_iff_mem]; exact this
      rw [h3] at hd; cases hd.1
    rw [List.lookup_cons] at h1 h2
    cases hb : n == m with
    | true =>
      rw [hb] at h1; cases h1
      cases hb' : n' == m with
      | true => rw [beq_iff_eq.mp hb, beq_iff_eq.mp hb']
      | false => rw [hb'] at h2; exact (notin n' h2).elim
    | false =>
      rw [hb] at h1
      cases hb' : n' == m with
      | true => rw [hb'] at h2; cases h2; exact (notin n h1).elim
      | false => rw [hb'] at h2; exact nodup_inj hd.2 n n' i h1 h2

theorem par_nodup : ∀ (ns : List Str) (k : Nat), parOk sc Γ k ns = true → ns.Nodup
  | [], _, _ => List.nodup_nil
  | n :: r, k, h => by
    unfold parOk at h
    simp only [Bool.and_eq_true, Bool.not_eq_true'] at h
    refine List.nodup_cons.mpr ⟨fun hm => ?_, par_nodup r (k + 1) h.2⟩
    rw [← List.contains_iff_mem, h.1.2] at hm; cases hm

/-- the parameters get their values -/
theorem store_pars {A' : Around} {E : Value → Shared → Prop} {Q : PUnit → Shared → Prop} {s₀ : Shared} {φ₀ : Phi} {η₀ : H} (f : Str × Value → PUnit → Sem (ForInStep PUnit)) (hf : ∀ n v u, f (n, v) u = (do storeName env n v; pure (.yield ⟨⟩))) :
    ∀ (ns : List Str) (vs : List V) (ys : List Value) (dn : Rho) (m : Nat) (s₁ : Shared), parOk sc Γ dn.length ns = true → ns.length = vs.length → VRs T φ (own φ η) s₁.heap vs ys → ns.length ≤ m →
      FS true T A' L φ₀ η₀ s₀ φ η s₁ env sc Γ (dn ++ List.replicate m none) →
      (∀ s₂, FS true T A' L φ₀ η₀ s₀ φ η s₂ env sc Γ (dn ++ vs.map some ++ List.replicate (m - ns.length) none) → Q ⟨⟩ s₂) → wpAny T.M A₂ (forIn (ns.zip ys) ⟨⟩ f) Q E s₁
  | [], [], ys, dn, m, s₁, _, _, r, _, F, h => by
    rw [List.zip_nil_left, List.forIn_nil]
    refine wpAny_pure (h s₁ ?_)
    simpa using F
  | n :: ns, v :: vs, ys, dn, m, s₁, hp, hl, r, hm, F, h => by
    simp only [VRs] at r
    obtain ⟨y, yr, rfl, r1, r2⟩ := r
    unfold parOk at hp
    simp only [Bool.and_eq_true, beq_iff_eq] at hp
    rw [List.zip_cons_cons, List.forIn_cons, hf]
    refine wpAny_bind (wpAny_bind (F.store hp.1.1.1 (loc_store hp.1.1.2) r1 fun s₂ F₂ _ _ hv => wpAny_pure ?_))
    have e : (dn ++ List.replicate m none).set dn.length (some v) = (dn ++ [some v]) ++ List.replicate (m - 1) none := by
      obtain ⟨k, rfl⟩ : ∃ k, m = k + 1 := ⟨m - 1, by simp at hm; omega⟩
      rw [List.set_append_right _ _ (Nat.le_refl _), Nat.sub_self, List.replicate_succ, List.set_cons_zero, Nat.add_sub_cancel, List.append_assoc]; rfl
    rw [e] at F₂
    refine store_pars f hf ns vs yr (dn ++ [some v]) (m - 1) s₂ (by rw [List.length_append]; exact hp.2) (by simpa using hl) (hv _ _ r2) (by simp at hm; omega) F₂ fun s₃ F₃ => h s₃ ?_
    have e2 : m - 1 - ns.length = m - (n :: ns).length := by simp; omega
    rw [e2] at F₃
    simpa using F₃
  | [], _ :: _, _, _, _, _, _, hl, _, _, _, _ => by simp at hl
  | _ :: _, [], _, _, _, _, _, hl, _, _, _, _ => by simp at hl

/-- what a function's text is known to be -/
structure FnOk (N : Nm) (F : Fn) (Γ : Gam) (fd : FuncData) : Prop where
  body : ∃ b, fd.body = .stmts b ∧ chkSs N fd.scope Γ F.body b = true
  kind : fd.scope.kind = .function
  gen : fd.scope.isGenerator = false
  cor : fd.scope.isCoroutine = false
  clo : fd.closure = []
  glob : fd.globals = mainGlobals
  bi : fd.builtins = builtinsNs
  pos : fd.params.posonlyargs = []
  var : fd.params.vararg = none
  kwo : fd.params.kwonlyargs = []
  kwa : fd.params.kwarg = none
  npar : (parNames fd.params).length = F.npar
  par : parOk fd.scope Γ 0 (parNames fd.params) = true
  dup : nodupN (Γ.map (·.2)) = true
  nloc : F.npar ≤ F.nloc
  dfl : fd.defaults = .none
theorem fn_ok {F : Fn} {fd : FuncData} (h : chkF N F Γ fd = true) : FnOk N F Γ fd := by
  unfold chkF at h
  simp only [Bool.and_eq_true, beq_iff_eq, Bool.not_eq_true', List.isEmpty_iff, Option.isNone_iff_eq_none, decide_eq_true_eq] at h
  obtain ⟨⟨⟨⟨⟨⟨⟨⟨⟨⟨⟨⟨⟨⟨⟨h1, h2⟩, h3⟩, h4⟩, h5⟩, h6⟩, h7⟩, h8⟩, h9⟩, h10⟩, h11⟩, h12⟩, h13⟩, h14⟩, h15⟩, h16⟩ := h
  refine ⟨?_, h2, h3, h4, h5, h6, h7, h8, h9, h10, h11, h12, h13, h14, h15, ?_⟩
  · split at h1
    · rename_i b hb; exact ⟨b, hb, h1⟩
    · cases h1
  · unfold isNoneV at h16
    split at h16
    · assumption
    · cases h16

/-- a function's frame -/
theorem new_env {F : Fn} {fd : FuncData} {vs : List V} {ys : List Value} {qual : Str} {a : Addr} {Q : Env → Shared → Prop} {E : Value → Shared → Prop} {l : List Env} (O : FnOk N F Γ fd) (R : Rel T φ η s.heap) (hv : VRs T φ (own φ η) s.heap vs ys) (hl : vs.length = F.npar)
    (hfr : A.frames = some l) (hst : Stk T φ η l s.heap)
    (h : ∀ env L s₁, FS true T (A.deeper env) L φ η s φ η s₁ env fd.scope Γ (vs.map some ++ List.replicate (F.nloc - F.npar) none) → Q env s₁) :
    wpAny T.M A₂ (newFunctionEnv fd.scope fd.globals fd.closure ((parNames fd.params).zip ys) qual (some a) fd.code none fd.builtins) Q E s := by
  rw [O.clo]
  simp only [newFunctionEnv, Option.isSome_none, Bool.false_eq_true, if_false]
  refine wpAny_bind (wpAny_alloc ?_)
  refine wpAny_bind (wpAny_layCells _ (fun name kind cells => by cases hkc : kind == NameKind.cell <;> simp [hkc]) _ _ _ _ ?_)
  generalize hH : s.heap.push { cls := .type "frame", data := .dict #[] } = HF
  have hsz : HF.objs.size = s.heap.objs.size + 1 := by rw [← hH, Heap.size_push]
  have ats := cells_at fd.scope.names HF (s.heap.objs.size + 1) [] (fun _ _ hm => (nomatch hm)) (by omega)
  have oks := (cellsFrom_ok fd.scope.names HF (s.heap.objs.size + 1) [] ⟨fun _ _ hm => (nomatch hm), List.Pairwise.nil⟩ (by omega)).apart
  have kp : ∀ b o, s.heap.get? b = some o → (pushCells HF fd.scope.names).get? b = some o := fun b o e => pushCells_keeps _ _ b o (hH ▸ Heap.get?_push_of_some _ e)
  have gL : (pushCells HF fd.scope.names).get? s.heap.objs.size = some { cls := .type "frame", data := .dict #[] } := pushCells_keeps _ _ _ _ (hH ▸ Heap.get?_push_size _ rfl)
  have zL : s.heap.get? s.heap.objs.size = none := Heap.get?_none_of_le (Nat.le_refl _)
  have zc : ∀ n c, (cellsFrom HF.objs.size fd.scope.names []).lookup n = some c → s.heap.get? c = none := fun n c e => Heap.get?_none_of_le (by have := (ats n c (mem_lookup e)).2; omega)
  have P₁ : Post T φ η s φ η { s with heap := pushCells HF fd.scope.names } := Post.grown (k := s.toks) R kp
  have nsL : NsAt (pushCells HF fd.scope.names) s.heap.objs.size "frame" (fun _ => none) := ⟨(hH ▸ Heap.Ns.new s.heap (.type "frame")).keeps (pushCells_keeps _ _), _, gL, rfl⟩
  have FS₁ : FS true T (A.deeper { scope := fd.scope, locals := s.heap.objs.size, globals := fd.globals, cells := cellsFrom HF.objs.size fd.scope.names [], qual := qual, func := some a, code := fd.code, frame := some s.heap.objs.size, builtins := fd.builtins }) s.heap.objs.size φ η s φ η { s with heap := pushCells HF fd.scope.names }
      { scope := fd.scope, locals := s.heap.objs.size, globals := fd.globals, cells := cellsFrom HF.objs.size fd.scope.names [], qual := qual, func := some a, code := fd.code, frame := some s.heap.objs.size, builtins := fd.builtins } fd.scope Γ ([] ++ List.replicate F.nloc none) := by
    refine ⟨P₁, ⟨rfl, O.kind, O.glob, O.bi, rfl, ⟨"frame", _, nsL, .inl rfl, fun n i v _ _ hr => ?_⟩, fun n i _ hk => ?_, ⟨own_none R zL, base_none R zL⟩, fun n c e => ⟨none, _, (ats n c (mem_lookup e)).1, rfl, rfl⟩, fun n c e => ⟨own_none R (zc n c e), base_none R (zc n c e)⟩, fun n n' c e e' => name_of_addr oks (mem_lookup e) (mem_lookup e'), nodup_inj O.dup⟩,
      ⟨_, l, by show A.frames.map _ = _; rw [hfr]; rfl, rfl, ?_⟩, zL, fun _ n c e => zc n c e⟩
    · rw [List.nil_append, List.getElem?_replicate] at hr
      split at hr <;> cases hr
    · obtain ⟨c, hc⟩ := Option.isSome_iff_exists.mp (cells_has fd.scope.names HF.objs.size [] n (mem_lookup hk))
      refine ⟨c, none, hc, ⟨_, (ats n c (mem_lookup hc)).1, rfl, rfl⟩, fun v hr => ?_⟩
      rw [List.nil_append, List.getElem?_replicate] at hr
      split at hr <;> cases hr
    · intro e he
      rcases List.mem_cons.mp he with rfl | he
      · exact ⟨by rw [show ({ scope := fd.scope, locals := s.heap.objs.size, globals := fd.globals, cells := cellsFrom HF.objs.size fd.scope.names [], qual := qual, func := some a, code := fd.code, frame := some s.heap.objs.size, builtins := fd.builtins } : Env).scope.kind = .function from O.kind]; decide, s.heap.objs.size, _, rfl, base_none R zL, own_none R zL, gL, rfl, #[], _, rfl⟩
      · exact (hst.step P₁.step) e he
  refine wpAny_bind (store_pars _ (fun _ _ _ => rfl) (parNames fd.params) vs ys [] F.nloc _ O.par (by rw [O.npar, hl]) (VRs.step P₁.step _ _ hv) (by rw [O.npar]; exact O.nloc) FS₁ fun s₂ F₂ => wpAny_pure (h _ s.heap.objs.size s₂ ?_))
  rw [O.npar, List.nil_append] at F₂
  exact F₂

/-- the program's functions -/
structure Cod (T : St) (N : Nm) (G : Gd T N) where
  gam : Nat → Gam
  fd : Nat → FuncData
  fns : ∀ f F, T.P.fns[f]? = some F → (∃ o, G.K.lookup (G.fn f) = some o ∧ o.data = .func (fd f)) ∧ chkF N F (gam f) (fd f) = true ∧ codeIn G.K (fd f).code (fd f).qualname = true

theorem R.fin_fail {p : Bool} : fin p η R.fail = .fail := by cases p <;> rfl

/-- a function's call -/
theorem sim_fn0 (G : Gd T N) (Cd : Cod T N G) {f : Nat} {F : Fn} (hF : T.P.fns[f]? = some F) (hb : ∀ b, chkSs N (Cd.fd f).scope (Cd.gam f) F.body b = true → SimSs T q d (callN T.P d) (Cd.fd f).scope (Cd.gam f) F.body b) {vs : List V} {ys : List Value}
    {l : List Env} (Xh : q = true → A.handled = none) (Xd : A.depth + 4 * (d + 1) + 4 ≤ recursionLimit) (Xu : A.units + 20 * (d + 1) + 20 < cLine) (hfr : A.frames = some l) (hst : Stk T φ η l s.heap) (XR' : Rel T φ η s.heap) (hv : VRs T φ (own φ η) s.heap vs ys) :
    callN T.P (d + 1) q f vs η = .fail ∨ codeAny T.M A (.call (.ref (G.fn f)) ⟨ys, []⟩) (fun res s' => match res with
      | .ok (.ret x) => ∃ v η' φ', callN T.P (d + 1) q f vs η = .ok v η' ∧ Post T φ η s φ' η' s' ∧ QV T φ' η' s'.heap v x
      | .ok _ => False
      | .error e => ∃ c η' φ', callN T.P (d + 1) q f vs η = .exc c η' ∧ Post T φ η s φ' η' s' ∧ XR T s'.heap e c L) s := by
  obtain ⟨⟨o, ho, hd⟩, hck, hcode⟩ := Cd.fns f F hF
  have O := fn_ok hck
  obtain ⟨b, hbody, hchk⟩ := O.body
  by_cases hl : vs.length = F.npar
  case neg => left; rw [callN, hF]; exact if_neg hl
  have ec : callN T.P (d + 1) q f vs η = fin F.pure η (ofRS (evSs T.P (callN T.P d) q F.body (vs.map some ++ List.replicate (F.nloc - F.npar) none) η)) := by rw [callN, hF]; exact if_pos hl
  rw [ec]
  have KI := G.here XR'
  have hys : ys.length = vs.length := VRs.length hv
  by_cases hfail : fin F.pure η (ofRS (evSs T.P (callN T.P d) q F.body (vs.map some ++ List.replicate (F.nloc - F.npar) none) η)) = .fail
  · exact .inl hfail
  right
  refine codeAny_call_function (by omega) (KI _ _ ho) hd O.cor O.gen hbody (codeRec_of KI hcode) ?_
  rw [bind_eq O.pos O.kwo O.var O.kwa O.dfl (par_nodup _ _ O.par) (by rw [O.npar, hys, hl])]
  refine wpAny_pure (new_env O XR' hv hl hfr hst fun env L' s₁ F₁ => ⟨T.nolim.keeps F₁.post.rel.base, codeAny_func ?_⟩)
  have X' : Sta (A.deeper env) q d := ⟨Xh, by show A.depth + 1 + 4 * d + 4 ≤ _; omega, by show A.units + 3 + 20 * d + 20 < _; omega⟩
  rcases hb b hchk (A.deeper env) L' φ η s φ η s₁ env _ X' F₁ with hh | hh
  · rw [hh] at hfail
    exact absurd R.fin_fail hfail
  have ends : ∀ v φ' η' s' (y : Value), Post T φ η s φ' η' s' → VR T φ' (own φ' η') s'.heap v y → evSs T.P (callN T.P d) q F.body (vs.map some ++ List.replicate (F.nloc - F.npar) none) η = .next (vs.map some) η' ∨ True → ofRS (evSs T.P (callN T.P d) q F.body (vs.map some ++ List.replicate (F.nloc - F.npar) none) η) = .ok v η' →
      ∃ v' η'' φ'', fin F.pure η (ofRS (evSs T.P (callN T.P d) q F.body (vs.map some ++ List.replicate (F.nloc - F.npar) none) η)) = .ok v' η'' ∧ Post T φ η s φ'' η'' s' ∧ QV T φ'' η'' s'.heap v' y := by
    intro v φ' η' s' y p r _ e
    rw [e] at hfail ⊢
    unfold fin at hfail ⊢
    split
    · rename_i hp
      rw [if_pos hp] at hfail
      dsimp only at hfail ⊢
      split
      · rename_i hc
        exact ⟨v, η, φ, rfl, p.cut XR' hc.1, p.cutV XR' hc.1 r hc.2⟩
      · rename_i hc
        rw [if_neg hc] at hfail
        exact absurd rfl hfail
    · exact ⟨v, η', φ', rfl, p, r⟩
  refine wpAny_mono hh (fun fl s' ⟨φ', η', ρ', h4, F', _⟩ => ?_) fun e s' ⟨c, φ', η', ρ', h4, F', _, xr⟩ => ?_
  · rcases h4 with ⟨h4, rfl⟩ | ⟨v, y, h4, rfl, r⟩
    · exact ends .none φ' η' s' .none F'.post (by simp [VR]) (.inr trivial) (by rw [h4]; rfl)
    · exact ends v φ' η' s' y F'.post r (.inr trivial) (by rw [h4]; rfl)
  · obtain ⟨a, rfl, rz⟩ := xr
    obtain ⟨top', outer', hfr', htop', hst'⟩ := F'.stk
    refine leaves hfr' htop' hst' F'.fr.frame F'.post.rel rz fun s'' p'' rz'' => ?_
    have p := F'.post.trans p''
    rw [h4] at hfail ⊢
    show ∃ c' η'' φ'', fin F.pure η (.exc c η') = .exc c' η'' ∧ _
    change fin F.pure η (.exc c η') ≠ .fail at hfail
    unfold fin at hfail ⊢
    split
    · rename_i hp
      rw [if_pos hp] at hfail
      dsimp only at hfail ⊢
      split
      · rename_i hc
        exact ⟨c, η, φ, rfl, p.cut XR' hc, a, rfl, rz'' L⟩
      · rename_i hc
        rw [if_neg hc] at hfail
        exact absurd rfl hfail
    · exact ⟨c, η', φ', rfl, p, a, rfl, rz'' L⟩

theorem sim_fn (G : Gd T N) (Cd : Cod T N G) {f : Nat} {F : Fn} (hF : T.P.fns[f]? = some F) (hb : ∀ b, chkSs N (Cd.fd f).scope (Cd.gam f) F.body b = true → SimSs T q d (callN T.P d) (Cd.fd f).scope (Cd.gam f) F.body b) {vs : List V} {ys : List Value}
    (X : Cxt T A L q (d + 1) φ η s) (hv : VRs T φ (own φ η) s.heap vs ys) : Sim T A L φ η s (PySem.call (.ref (G.fn f)) ys) (callN T.P (d + 1) q f vs η) (QV T) := by
  obtain ⟨top, outer, hfr, htop, hst⟩ := X.stk
  exact (sim_fn0 G Cd hF hb X.hand X.depth X.units hfr hst X.rel hv).imp id fun h => wpAny_call h
end
end Mine
end
section
namespace Mine
open PySem PySem.W PySem.Calls PyProof.Rows

section
variable {T : St} {N : Nm} {A : Around} {L : Addr} {q : Bool} {d : Nat} {φ φ' : Phi} {η η' : H} {s s' : Shared} {env : Env} {sc : Scope} {Γ : Gam} {ρ : Rho} {α β : Type} {call : Nat → List V → H → R V}

theorem Sim.base {o : Expr} {name : Str} {t : Sem Value} {r : R β} {Q : QR Value β} (ho : notSuper o = true) (h : Sim T A L φ η s t r Q) : Sim T A L φ η s (attributeBase o name env t) r Q := h.imp id fun h => by
  unfold attributeBase
  split
  · rename_i id _ _
    unfold notSuper at ho
    simp only [Bool.not_eq_true', beq_eq_false_iff_ne, ne_eq] at ho
    have : (id != ("super" : Str)) = true := bne_iff_ne.mpr ho
    rw [this]
    simp only [Bool.true_or, if_true]
    exact h
  · exact h

theorem args_form {xs : List Expr} {pos : Pos} (hp : plainArgs xs) (hl : xs.length < 30) : methodCallForm (xs.length + 0) (backTo pos (starEach xs env)) [] = true := by
  unfold methodCallForm
  have : (backTo pos (starEach xs env)).all (!·.1) = true := by
    have := (args_plain (env := env) (pos := pos) hp).1
    rw [List.all_eq_not_any_not]
    simp only [Bool.not_not]
    rw [this]; rfl
  rw [this]
  simp; omega

theorem e_bm {m : Bm} {o : E} {args : List E} {x : Expr} {name : Str} {apos pos : Pos} {xs : List Expr} (hm : (bmName m == name) = true) (hpos : (apos.endLine == pos.line) = true) (hl : xs.length < 30) (ho : notSuper x = true) (hp : plainArgs xs)
    (h1 : SimE T q d call sc Γ o x) (h2 : SimEs T q d call sc Γ args xs) : SimE T q d call sc Γ (.bm m o args) (.Call (.Attribute x name apos) xs [] pos) := by
  intro A L φ η s env ρ X F
  rw [beq_iff_eq] at hm; subst hm
  rw [arm_eval_Call, evE]
  refine Sim.bind (Sim.base ho (h1 A L φ η s env ρ X F)) fun v η' φ' y s' _ p hq => .standAt ?_
  cases v with
  | str sg =>
    have hT : s'.TypeIs y "str" ∧ ∀ a, y = .ref a → ∃ o, s'.heap.get? a = some o ∧ o.dict = none := by
      have hq' := hq
      simp only [QV, VR] at hq'
      obtain ⟨tk, rfl⟩ := hq'
      exact ⟨typeIs_str _ _ _, fun a e => by cases e⟩
    obtain ⟨pa, slot, hty⟩ := bm_slot m
    have form : methodCallForm (xs.length + ([] : List Keyword).length) (backTo pos (starEach xs env)) (backToKw pos (keywordEach [] env)) = true := args_form hp hl
    have main : Sim T A L φ' η' s' (callWith pos (.builtin (bmId m)) [y] (backTo pos (starEach xs env)) []) ((evEs T.P q call args ρ η').bind fun vs h' => bmV m h' (.str sg) vs) (QV T) :=
      sim_callWith keep_builtin hp h2 (X.step p) (F.step p.step) fun vs η'' φ'' ys s'' _ p' hv => sim_bm m p'.rel (VR.step p'.step _ _ hq) hv
    refine main.imp id fun w => ?_
    unfold methodCall
    rw [form]
    refine wpAny_bind (wpAny_holding ?_)
    unfold calleeOf
    rw [if_pos rfl]
    refine getMethod_builtin hT.1 pa slot hty hT.2 ?_
    refine wpAny_bind ?_
    unfold methodCallPos
    rw [hpos]
    exact wpAny_pure w
  | _ => exact .inl rfl

/-- a table's entries -/
def TabR : List (List Nat × List Nat) → List DictEntry → Prop
  | [], es => es = []
  | (k, v) :: r, es => ∃ e es' t u, es = e :: es' ∧ e.key = .str ⟨k.toArray⟩ t ∧ e.val = .str ⟨v.toArray⟩ u ∧ TabR r es'
structure Tbs (T : St) (N : Nm) (G : Gd T N) : Prop where
  tab : ∀ (t : Nat) (n : Str) (tb : List (List Nat × List Nat)), N.tbm[t]? = some n → T.P.tabs[t]? = some tb → ∃ a es k, nsIn G.K mainGlobals n = some (some (.ref a)) ∧ G.K.lookup a = some ⟨.type "dict", none, .dict es k, #[]⟩ ∧ KeysLit T.w.params es.toList ∧ TabR tb es.toList ∧ (a == sysModules) = false

theorem str_eq {a b : List Nat} : ((⟨a.toArray⟩ : Str) == ⟨b.toArray⟩) = (a == b) := by
  by_cases h : a = b
  · subst h; simp
  · have : (⟨a.toArray⟩ : Str) ≠ ⟨b.toArray⟩ := fun q => h (by injection q with q; simpa using q)
    rw [beq_eq_false_iff_ne.mpr this, beq_eq_false_iff_ne.mpr h]
theorem tab_find {sg : List Nat} : ∀ (tb : List (List Nat × List Nat)) (es : List DictEntry), TabR tb es → (∀ p, tb.find? (fun p => p.1 == sg) = some p → ∃ u, (es.find? fun e => Value.isStrOf ⟨sg.toArray⟩ e.key).map (·.val) = some (.str ⟨p.2.toArray⟩ u)) ∧
    ((es.find? fun e => Value.isStrOf ⟨sg.toArray⟩ e.key).map (·.val)).isSome = (tb.any fun p => p.1 == sg)
  | [], es, h => by
    simp only [TabR] at h; subst h
    exact ⟨fun p e => by simp at e, rfl⟩
  | (k, v) :: r, es, h => by
    simp only [TabR] at h
    obtain ⟨e, es', t, u, rfl, hk, hv, hr⟩ := h
    have ih := tab_find (sg := sg) r es' hr
    have e1 : Value.isStrOf ⟨sg.toArray⟩ e.key = (k == sg) := by rw [hk]; exact str_eq
    rw [List.find?_cons, List.find?_cons, List.any_cons, e1]
    cases hb : k == sg with
    | true => exact ⟨fun p ep => by cases ep; exact ⟨u, by rw [Option.map_some, hv]⟩, rfl⟩
    | false => exact ⟨ih.1, by rw [Bool.false_or]; exact ih.2⟩

theorem tab_map (G : Gd T N) (R : Rel T φ η s.heap) {a : Addr} {es : Array DictEntry} {k : Nat} (hl : G.K.lookup a = some ⟨.type "dict", none, .dict es k, #[]⟩) (hk : KeysLit T.w.params es.toList) : s.heap.MapOf (strKind T.prog T.w) a (fun k => findBy Value.isStrOf es k) := mapOf_K (prog := T.prog) (G.here R) hl hk
theorem find_list {es : Array DictEntry} {k : Str} : findBy Value.isStrOf es k = (es.toList.find? fun e => Value.isStrOf k e.key).map (·.val) := by
  obtain ⟨l⟩ := es
  unfold findBy
  rw [List.find?_toArray]

theorem sim_inTab (G : Gd T N) (Tb : Tbs T N G) {neg : Bool} {t : Nat} {n : Str} {v : V} {y : Value} (hn : atName N.tbm t n = true) (R : Rel T φ η s.heap) (hq : QV T φ η s.heap v y) {tb : List (List Nat × List Nat)} (et : T.P.tabs[t]? = some tb) :
    ∃ a, nsIn G.K mainGlobals n = some (some (.ref a)) ∧ Sim T A L φ η s (compareOp (if neg then .NotIn else .In) y (.ref a)) (match (match v with | .str s => some ((tb.any fun p => p.1 == s) != neg) | _ => none) with | some b => .ok (.bool b) η | none => .fail) (QV T) := by
  obtain ⟨a, es, k, h1, h2, h3, h4, h5⟩ := Tb.tab t n tb (at_name hn).1 et
  refine ⟨a, h1, ?_⟩
  cases v with
  | str sg =>
    simp only [QV, VR] at hq
    obtain ⟨tk, rfl⟩ := hq
    have hm := tab_map G R h2 h3
    have hfind := (tab_find (sg := sg) tb es.toList h4).2
    have hb : (findBy Value.isStrOf es ⟨sg.toArray⟩).isSome = (tb.any fun p => p.1 == sg) := by rw [find_list]; exact hfind
    refine .ok rfl ?_
    cases neg with
    | true => exact wpAny_notIn_of (strKind_is _ _ _ _) h5 hm ⟨φ, .toks R, by rw [hb]; simp [QV, VR]⟩
    | false => exact wpAny_in_of (strKind_is _ _ _ _) h5 hm ⟨φ, .toks R, by rw [hb]; simp [QV, VR]⟩
  | _ => exact .fail

theorem tab_ev {neg : Bool} {t : Nat} {v : V} {tb : List (List Nat × List Nat)} (et : T.P.tabs[t]? = some tb) : (match v, T.P.tabs[t]? with | .str s, some tb => R.ok (V.bool ((tb.any fun p => p.1 == s) != neg)) η | _, _ => R.fail) =
    (match (match v with | .str s => some ((tb.any fun p => p.1 == s) != neg) | _ => none) with | some b => .ok (.bool b) η | none => .fail) := by
  rw [et]; cases v <;> rfl

theorem e_inTab (G : Gd T N) (Tb : Tbs T N G) {neg : Bool} {t : Nat} {a : E} {n : Str} {p pos : Pos} {l : Expr} (hn : atName N.tbm t n = true) (hg : isGlo sc n = true) (h : SimE T q d call sc Γ a l) :
    SimE T q d call sc Γ (.inTab neg t a) (.Compare l [if neg then .NotIn else .In] [.Name n p] pos) := by
  intro A L φ η s env ρ X F
  show Sim T A L φ η s (do compareChain pos (← eval l env) [if neg then .NotIn else .In] [markedBehindIn (if neg then .NotIn else .In) (.Name n p) (eval (.Name n p) env)]) _ _
  rw [marked_off rfl, evE]
  refine Sim.bind (h A L φ η s env ρ X F) fun v η' φ' y s' _ pp hq => ?_
  cases et : T.P.tabs[t]? with
  | none => left; cases v <;> rfl
  | some tb =>
    obtain ⟨ad, hns, hs⟩ := sim_inTab (A := A) (L := L) G Tb (neg := neg) hn pp.rel hq et
    rw [← tab_ev et, et] at hs
    have goal := Sim.standAt (p := pos) (k := fun _ => PySem.operate [y, .ref ad] (compareOp (if neg then .NotIn else .In) y (.ref ad))) (Sim.operate hs)
    exact goal.imp id fun w => wpAny_bind (wpAny_holding (name_glob G pp.rel (F.step pp.step) hg hns w))

theorem c_inTab (G : Gd T N) (Tb : Tbs T N G) {neg : Bool} {t : Nat} {a : E} {n : Str} {p pos : Pos} {l : Expr} (hn : atName N.tbm t n = true) (hg : isGlo sc n = true) (h : SimE T q d call sc Γ a l) :
    SimC T q d call sc Γ (.t (.inTab neg t a)) (.Compare l [if neg then .NotIn else .In] [.Name n p] pos) := by
  intro A L φ η s env ρ X F
  show Sim T A L φ η s (do testChain pos (← eval l env) [if neg then .NotIn else .In] [markedBehindIn (if neg then .NotIn else .In) (.Name n p) (eval (.Name n p) env)]) _ _
  rw [marked_off rfl]
  have e1 : evC T.P q call (.t (.inTab neg t a)) ρ η = (evE T.P q call a ρ η).bind fun x h => (match x, T.P.tabs[t]? with | .str s, some tb => R.ok (V.bool ((tb.any fun p => p.1 == s) != neg)) h | _, _ => R.fail).bind fun v h => match truth h v with | some b => .ok b h | none => .fail := by
    rw [evC, evE]
    cases evE T.P q call a ρ η <;> rfl
  rw [e1]
  refine Sim.bind (h A L φ η s env ρ X F) fun v η' φ' y s' _ pp hq => ?_
  cases et : T.P.tabs[t]? with
  | none => left; cases v <;> rfl
  | some tb =>
    obtain ⟨ad, hns, hs⟩ := sim_inTab (A := A) (L := L) G Tb (neg := neg) hn pp.rel hq et
    have goal := Sim.standAt (p := pos) (k := fun _ => PySem.operate [y, .ref ad] (compareOp (if neg then .NotIn else .In) y (.ref ad)) >>= fun c => PySem.holding [c] (truthy c)) (Sim.test (.operate hs))
    rw [← et, tab_ev et]
    refine (goal.cast ?_).imp id fun w => wpAny_bind (wpAny_holding (name_glob G pp.rel (F.step pp.step) hg hns w))
    cases v <;> rfl

theorem e_subTab (G : Gd T N) (Tb : Tbs T N G) {t : Nat} {a : E} {n : Str} {p pos : Pos} {i : Expr} (hi : notSlice i = true) (hn : atName N.tbm t n = true) (hg : isGlo sc n = true) (h : SimE T q d call sc Γ a i) :
    SimE T q d call sc Γ (.subTab t a) (.Subscript (.Name n p) i pos) := by
  intro A L φ η s env ρ X F
  rw [eval_Subscript, evE]
  cases et : T.P.tabs[t]? with
  | none => exact .fail
  | some tb =>
    obtain ⟨ad, es, k, h1, h2, h3, h4, h5⟩ := Tb.tab t n tb (at_name hn).1 et
    have main : Sim T A L φ η s (PySem.holding [.ref ad] (eval i env) >>= fun iv => PySem.standAt pos >>= fun _ => subscriptTail (.Name n p) i (.ref ad) iv) ((evE T.P q call a ρ η).bind fun x h => match x with
        | .str s => (match tb.find? fun p => p.1 == s with | some p => .ok (.str p.2) h | none => .fail)
        | _ => .fail) (QV T) := by
      refine Sim.bind (Sim.holding (h A L φ η s env ρ X F)) fun v η' φ' y s' _ pp hq => .standAt ?_
      cases v with
      | str sg =>
        dsimp only
        cases ef : tb.find? fun p => p.1 == sg with
        | none => exact .fail
        | some pr =>
          simp only [QV, VR] at hq
          obtain ⟨tk, rfl⟩ := hq
          have hm := tab_map G pp.rel h2 h3
          obtain ⟨u, hu⟩ := (tab_find (sg := sg) tb es.toList h4).1 pr ef
          exact .ok rfl (tail_any hm.typeIs slot_dict_getitem.lookup (wpAny_getItem_of (strKind_is _ _ _ _) hm (by rw [find_list]; exact hu) ⟨φ', .toks pp.rel, by simp [QV, VR]⟩) (by cases i <;> first | rfl | cases hi))
      | _ => exact .fail
    exact main.imp id fun w => wpAny_bind (name_glob G X.rel F hg h1 w)

/-- ranges -/
theorem it_of' {e : E} {x : Expr} (h : SimE T q d call sc Γ e x) : SimIt T q d call sc Γ (.of e) x := by
  intro A L φ η s env ρ X F
  rw [evIt]
  exact (h A L φ η s env ρ X F).mono fun φ' η' s' v y _ _ r => .inl r

theorem it_range1 (G : Gd T N) {a : E} {n : Str} {p pos : Pos} {x : Expr} (hl : (n == ("range" : Str)) = true) (hn : isGlo sc n = true) (hp : plainArg x = true) (h : SimE T q d call sc Γ a x) : SimIt T q d call sc Γ (.range1 a) (.Call (.Name n p) [x] [] pos) := by
  intro A L φ η s env ρ X F
  rw [beq_iff_eq] at hl; subst hl
  rw [evIt]
  have hs : plainArgs [x] := by unfold plainArgs; simp [hp]
  have hsp : Sim T A L φ η s (spliced (backTo pos (starEach [x] env))) (evE T.P q call a ρ η) (fun φ η h v ys => ∃ y, ys = [y] ∧ VR T φ (own φ η) h v y) := by
    rw [starEach_plain hp]
    exact (h A L φ η s env ρ X F).imp id fun w => spliced_cons (wpAny_mono w (fun y s₁ ⟨v, η', φ', e, p, r⟩ => spliced_nil ⟨v, η', φ', e, p, y, rfl, r⟩) fun _ _ z => z)
  have main := Sim.nest (Q₂ := QIt T) (k := fun a : Args => PySem.call (.type "range") ([] ++ a.pos) a.kw) (g := fun x h => match x with
      | .int n => if okR n && decide (n.toNat ≤ 100000) then R.ok (.lst ((List.range n.toNat).map fun (i : Nat) => .int i)) h else .fail
      | _ => .fail) (sim_evalArgs (f := .type "range") (pos := pos) hs hsp) fun v η' φ' a s' e p hq => ?_
  · refine main.imp id fun w => ?_
    rw [arm_eval_Call_Name']
    exact wpAny_bind (name_boot G X.rel F hn (by decide +kernel) (by decide +kernel) (callWith_of (P := fun h => ∀ b o, T.base.get? b = some o → h.get? b = some o) (by rw [(args_plain hs).1]; rfl) keep_type (wpAny_mono w (fun a s₁ ⟨⟨v, η', φ', e, p, hq⟩, w⟩ => ⟨p.rel.base, w⟩) fun _ _ y => y)))
  · obtain ⟨⟨y, hy, r⟩, hkw⟩ := hq
    rw [hkw, hy]
    cases v with
    | int i =>
      dsimp only
      split
      case isFalse => exact .fail
      rename_i hc
      rw [Bool.and_eq_true] at hc
      simp only [VR] at r
      obtain ⟨t, rfl⟩ := r
      refine .ok rfl (call_range_1 ⟨φ', Post.grown (s := s') p.rel (push_keeps _), .inr ⟨_, 0, i, _, _, _, rfl, IsRange.new _ _ _ _ _ _ _, rfl, hc.1, ?_⟩⟩)
      simp
    | _ => exact .fail

end
end Mine
end
section
namespace Mine
open PySem PySem.W PySem.Calls PyProof.Rows

section
variable {T : St} {N : Nm} {A : Around} {L : Addr} {q : Bool} {d : Nat} {call : Nat → List V → H → R V}

theorem star_no {sc : Scope} {Γ : Gam} {v : Expr} {p : Pos} (e : E) : chkE N sc Γ e (.Starred v p) = false := by cases e <;> rfl
theorem chk_plain {sc : Scope} {Γ : Gam} {e : E} {x : Expr} (h : chkE N sc Γ e x = true) : plainArg x = true := by
  cases x with
  | Starred v p => rw [star_no] at h; cases h
  | _ => rfl
theorem chkEs_cons {sc : Scope} {Γ : Gam} {e : E} {es : List E} {xs : List Expr} (h : chkEs N sc Γ (e :: es) xs = true) : ∃ y ys, xs = y :: ys ∧ chkE N sc Γ e y = true ∧ chkEs N sc Γ es ys = true := by
  cases xs with
  | nil => exact absurd h Bool.false_ne_true
  | cons y ys => exact ⟨y, ys, rfl, Bool.and_eq_true_iff.mp h⟩
theorem chkEs_nil {sc : Scope} {Γ : Gam} {xs : List Expr} (h : chkEs N sc Γ [] xs = true) : xs = [] := List.isEmpty_iff.mp h
theorem chkCs_cons {sc : Scope} {Γ : Gam} {e : C} {es : List C} {xs : List Expr} (h : chkCs N sc Γ (e :: es) xs = true) : ∃ y ys, xs = y :: ys ∧ chkC N sc Γ e y = true ∧ chkCs N sc Γ es ys = true := by
  cases xs with
  | nil => exact absurd h Bool.false_ne_true
  | cons y ys => exact ⟨y, ys, rfl, Bool.and_eq_true_iff.mp h⟩
theorem chks_plain {sc : Scope} {Γ : Gam} : ∀ {es : List E} {xs : List Expr}, chkEs N sc Γ es xs = true → plainArgs xs ∧ es.length = xs.length
  | [], xs, h => by have := chkEs_nil h; subst this; exact ⟨rfl, rfl⟩
  | e :: es, xs, h => by
    obtain ⟨y, ys, rfl, h1, h2⟩ := chkEs_cons h
    obtain ⟨h3, h4⟩ := chks_plain h2
    refine ⟨?_, by simp [h4]⟩
    unfold plainArgs at h3 ⊢
    rw [List.all_cons, chk_plain h1, h3]; rfl
theorem it_set {sc : Scope} {Γ : Gam} {it : It} {x : Expr} (h : chkIt N sc Γ it x = true) : ∀ env y, foldedSetIterable x env y = pure y := by
  have hn : notSet x = true := by cases it <;> exact (Bool.and_eq_true_iff.mp h).1
  intro env y
  cases x <;> first | rfl | exact absurd hn Bool.false_ne_true

/-- what is shown of the parts -/
def PE (T : St) (N : Nm) (q : Bool) (d : Nat) (call : Nat → List V → H → R V) (e : E) : Prop := (∀ sc Γ x, chkE N sc Γ e x = true → SimE T q d call sc Γ e x) ∧ (∀ sc Γ x, chkE N sc Γ e x = true → plainTest e x = true → SimC T q d call sc Γ (.t e) x)
def PI (T : St) (N : Nm) (q : Bool) (d : Nat) (call : Nat → List V → H → R V) (e : It) : Prop := ∀ sc Γ x, chkIt N sc Γ e x = true → SimIt T q d call sc Γ e x
def PC (T : St) (N : Nm) (q : Bool) (d : Nat) (call : Nat → List V → H → R V) (e : C) : Prop := ∀ sc Γ x, chkC N sc Γ e x = true → SimC T q d call sc Γ e x
def PEs (T : St) (N : Nm) (q : Bool) (d : Nat) (call : Nat → List V → H → R V) (e : List E) : Prop := ∀ sc Γ x, chkEs N sc Γ e x = true → SimEs T q d call sc Γ e x ∧ SimL T q d call sc Γ e x
def PCs (T : St) (N : Nm) (q : Bool) (d : Nat) (call : Nat → List V → H → R V) (e : List C) : Prop := ∀ sc Γ x, chkCs N sc Γ e x = true → SimCL T q d call sc Γ e x
theorem pe_of {e : E} (hn : ∀ l os rs p, plainTest e (.Compare l os rs p) = false) (h : ∀ sc Γ x, chkE N sc Γ e x = true → SimE T q d call sc Γ e x) : PE T N q d call e :=
  ⟨h, fun sc Γ x hc hp => c_plain hp (fun l os rs p e' => by subst e'; rw [hn] at hp; cases hp) (h sc Γ x hc)⟩

variable (G : Gd T N) (Tb : Tbs T N G) (hc : CallOK T G.fn q d call)

theorem m_var (i : Nat) : PE T N q d call (.var i) := pe_of (fun _ _ _ _ => rfl) fun sc Γ x h0 => by
  obtain ⟨n, hn, h⟩ := any_some (o := asName x) h0
  obtain ⟨p, rfl⟩ := asName_eq hn
  rw [Bool.and_eq_true, beq_iff_eq] at h
  exact fun A L φ η s env ρ X F => sim_var F X.rel h.1 (loc_kind h.2) (loc_debug h.2)
theorem m_const (v : V) : PE T N q d call (.const v) := pe_of (fun _ _ _ _ => rfl) fun sc Γ x h0 => by
  obtain ⟨n, hn, h⟩ := any_some (o := asConst x) h0
  obtain ⟨k, p, rfl⟩ := asConst_eq hn
  exact e_const h
include G in
theorem m_glob (g : Nat) (v : V) : PE T N q d call (.glob g v) := pe_of (fun _ _ _ _ => rfl) fun sc Γ x h0 => by
  obtain ⟨n, hn, h⟩ := any_some (o := asName x) h0
  obtain ⟨p, rfl⟩ := asName_eq hn
  simp only [Bool.and_eq_true] at h
  exact e_glob G h.1.1 h.1.2 h.2
theorem m_bin (op : Op) (a b : E) (p_a : PE T N q d call a) (p_b : PE T N q d call b) : PE T N q d call (.bin op a b) := pe_of (fun _ _ _ _ => rfl) fun sc Γ x h0 => by
  obtain ⟨⟨l, o, r⟩, hn, h⟩ := any_some (o := asBin x) h0
  obtain ⟨p, rfl⟩ := asBin_eq hn
  simp only [Bool.and_eq_true, beq_iff_eq] at h
  rw [← h.1.1]
  exact e_bin (p_a.1 _ _ _ h.1.2) (p_b.1 _ _ _ h.2)
theorem m_not (a : E) (p_a : PE T N q d call a) : PE T N q d call (.not a) := pe_of (fun _ _ _ _ => rfl) fun sc Γ x h0 => by
  obtain ⟨n, hn, h⟩ := any_some (o := asNot x) h0
  obtain ⟨p, rfl⟩ := asNot_eq hn
  exact e_not (p_a.1 _ _ _ h)
theorem m_and (es : List E) (p_es : PEs T N q d call es) : PE T N q d call (.and es) := pe_of (fun _ _ _ _ => rfl) fun sc Γ x h0 => by
  obtain ⟨n, hn, h⟩ := any_some (o := asAnd x) h0
  obtain ⟨p, rfl⟩ := asAnd_eq hn
  exact e_and (p_es _ _ _ h).2
theorem m_cmp (op : COp) (a b : E) (p_a : PE T N q d call a) (p_b : PE T N q d call b) : PE T N q d call (.cmp op a b) := And.intro (fun sc Γ x h0 => by
  obtain ⟨⟨l, os, rs⟩, hn, h⟩ := any_some (o := asCmp x) h0
  obtain ⟨p, rfl⟩ := asCmp_eq hn
  obtain ⟨o, ho, h⟩ := any_some h
  obtain ⟨r, hr, h⟩ := any_some h
  dsimp only at ho hr
  rw [one_eq ho, one_eq hr]
  simp only [Bool.and_eq_true, beq_iff_eq] at h
  rw [← h.1.1.1]
  exact e_cmp h.1.1.2 (p_a.1 _ _ _ h.1.2) (p_b.1 _ _ _ h.2)) (fun sc Γ x h0 _ => by
  obtain ⟨⟨l, os, rs⟩, hn, h⟩ := any_some (o := asCmp x) h0
  obtain ⟨p, rfl⟩ := asCmp_eq hn
  obtain ⟨o, ho, h⟩ := any_some h
  obtain ⟨r, hr, h⟩ := any_some h
  dsimp only at ho hr
  rw [one_eq ho, one_eq hr]
  simp only [Bool.and_eq_true, beq_iff_eq] at h
  rw [← h.1.1.1]
  exact c_cmp h.1.1.2 (p_a.1 _ _ _ h.1.2) (p_b.1 _ _ _ h.2))
theorem m_cmp2 (o1 o2 : COp) (a b c : E) (p_a : PE T N q d call a) (p_b : PE T N q d call b) (p_c : PE T N q d call c) : PE T N q d call (.cmp2 o1 o2 a b c) := And.intro (fun sc Γ x h0 => by
  obtain ⟨⟨l, os, rs⟩, hn, h⟩ := any_some (o := asCmp x) h0
  obtain ⟨p, rfl⟩ := asCmp_eq hn
  obtain ⟨o, ho, h⟩ := any_some h
  obtain ⟨r, hr, h⟩ := any_some h
  dsimp only at ho hr
  rw [two_eq ho, two_eq hr]
  simp only [Bool.and_eq_true, beq_iff_eq] at h
  obtain ⟨⟨⟨⟨⟨h1, h2⟩, h3⟩, h4⟩, h5⟩, h6⟩ := h
  rw [← h1, ← h2]
  exact e_cmp2 h3 (p_a.1 _ _ _ h4) (p_b.1 _ _ _ h5) (p_c.1 _ _ _ h6)) (fun sc Γ x h0 _ => by
  obtain ⟨⟨l, os, rs⟩, hn, h⟩ := any_some (o := asCmp x) h0
  obtain ⟨p, rfl⟩ := asCmp_eq hn
  obtain ⟨o, ho, h⟩ := any_some h
  obtain ⟨r, hr, h⟩ := any_some h
  dsimp only at ho hr
  rw [two_eq ho, two_eq hr]
  simp only [Bool.and_eq_true, beq_iff_eq] at h
  obtain ⟨⟨⟨⟨⟨h1, h2⟩, h3⟩, h4⟩, h5⟩, h6⟩ := h
  rw [← h1, ← h2]
  exact c_cmp2 h3 (p_a.1 _ _ _ h4) (p_b.1 _ _ _ h5) (p_c.1 _ _ _ h6))
include G hc in
theorem m_call (f : Nat) (args : List E) (p_args : PEs T N q d call args) : PE T N q d call (.call f args) := pe_of (fun _ _ _ _ => rfl) fun sc Γ x h0 => by
  obtain ⟨q, hn, h⟩ := any_some (o := asCall x) h0
  obtain ⟨p, p', rfl⟩ := asCall_eq hn
  simp only [Bool.and_eq_true] at h
  exact e_call G hc h.1.1 h.1.2 (chks_plain h.2).1 (p_args _ _ _ h.2).1
include G in
theorem m_bi (b : Bi) (args : List E) (p_args : PEs T N q d call args) : PE T N q d call (.bi b args) := pe_of (fun _ _ _ _ => rfl) fun sc Γ x h0 => by
  obtain ⟨q, hn, h⟩ := any_some (o := asCall x) h0
  obtain ⟨p, p', rfl⟩ := asCall_eq hn
  simp only [Bool.and_eq_true] at h
  exact e_bi G h.1.1 h.1.2 (chks_plain h.2).1 (p_args _ _ _ h.2).1
theorem m_bm (m : Bm) (o : E) (args : List E) (p_o : PE T N q d call o) (p_args : PEs T N q d call args) : PE T N q d call (.bm m o args) := pe_of (fun _ _ _ _ => rfl) fun sc Γ x h0 => by
  obtain ⟨q, hn, h⟩ := any_some (o := asMeth x) h0
  obtain ⟨p, p', rfl, hq⟩ := asMeth_eq hn
  simp only [Bool.and_eq_true, decide_eq_true_eq] at h
  obtain ⟨⟨⟨⟨⟨h1, h2⟩, h3⟩, h5⟩, h6⟩, h7⟩ := h
  exact e_bm h1 (hq.symm.trans h2) h3 h5 (chks_plain h7).1 (p_o.1 _ _ _ h6) (p_args _ _ _ h7).1
include G in
theorem m_isinst (a : E) (t : Ty) (p_a : PE T N q d call a) : PE T N q d call (.isinst a t) := pe_of (fun _ _ _ _ => rfl) fun sc Γ x h0 => by
  obtain ⟨⟨n, as⟩, hn, h⟩ := any_some (o := asCall x) h0
  obtain ⟨p, p', rfl⟩ := asCall_eq hn
  simp only [Bool.and_eq_true] at h
  obtain ⟨⟨h1, h2⟩, h⟩ := h
  obtain ⟨r, hr, h⟩ := any_some h
  obtain ⟨tn, ht, h⟩ := any_some h
  obtain ⟨pp, ep⟩ := asName_eq ht
  rw [two_eq hr, ep]
  simp only [Bool.and_eq_true] at h
  exact e_isinst G h1 h2 h.1.1 h.1.2 (chk_plain h.2) (p_a.1 _ _ _ h.2)
theorem m_sub (a b : E) (p_a : PE T N q d call a) (p_b : PE T N q d call b) : PE T N q d call (.sub a b) := pe_of (fun _ _ _ _ => rfl) fun sc Γ x h0 => by
  obtain ⟨q, hn, h⟩ := any_some (o := asSub x) h0
  obtain ⟨p, rfl⟩ := asSub_eq hn
  simp only [Bool.and_eq_true] at h
  exact e_sub h.1.1 (p_a.1 _ _ _ h.1.2) (p_b.1 _ _ _ h.2)
theorem m_slice (mu : Bool) (a lo hi : E) (p_a : PE T N q d call a) (p_lo : PE T N q d call lo) (p_hi : PE T N q d call hi) : PE T N q d call (.slice mu a lo hi) := pe_of (fun _ _ _ _ => rfl) fun sc Γ x h0 => by
  obtain ⟨⟨y, i⟩, hn, h⟩ := any_some (o := asSub x) h0
  obtain ⟨p, rfl⟩ := asSub_eq hn
  simp only [Bool.and_eq_true] at h
  obtain ⟨h1, h⟩ := h
  obtain ⟨⟨l, u⟩, hr, hh⟩ := any_some h
  obtain ⟨pp, rfl⟩ := asSlice_eq hr
  simp only [Bool.and_eq_true] at hh
  refine e_slice (p_a.1 _ _ _ h1) ?_ ?_
  · cases l with
    | none => exact hh.1
    | some e => exact p_lo.1 _ _ _ hh.1
  · cases u with
    | none => exact hh.2
    | some e => exact p_hi.1 _ _ _ hh.2
theorem m_list (mu : Bool) (es : List E) (p_es : PEs T N q d call es) : PE T N q d call (.list mu es) := pe_of (fun _ _ _ _ => rfl) fun sc Γ x h0 => by
  obtain ⟨q, hn, h⟩ := any_some (o := asList x) h0
  obtain ⟨p, rfl⟩ := asList_eq hn
  simp only [Bool.and_eq_true, decide_eq_true_eq] at h
  exact e_list (by rw [(chks_plain h.2).2]; exact h.1) (p_es _ _ _ h.2).1
theorem m_tuple (es : List E) (p_es : PEs T N q d call es) : PE T N q d call (.tuple es) := pe_of (fun _ _ _ _ => rfl) fun sc Γ x h0 => by
  obtain ⟨q, hn, h⟩ := any_some (o := asTuple x) h0
  obtain ⟨k, p, rfl⟩ := asTuple_eq hn
  simp only [Bool.and_eq_true, decide_eq_true_eq] at h
  exact e_tuple (by rw [(chks_plain h.2).2]; exact h.1) (p_es _ _ _ h.2).1
theorem m_comp (mu : Bool) (x : Nat) (elt : E) (it : It) (ifs : List C) (p_elt : PE T N q d call elt) (p_it : PI T N q d call it) (p_ifs : PCs T N q d call ifs) : PE T N q d call (.comp mu x elt it ifs) := pe_of (fun _ _ _ _ => rfl) fun sc Γ y h0 => by
  obtain ⟨q, hn, h⟩ := any_some (o := asComp y) h0
  obtain ⟨p, p', rfl⟩ := asComp_eq hn
  simp only [Bool.and_eq_true] at h
  exact e_comp (it_set h.1.1.2) (comp_ok h.1.1.1) (p_it _ _ _ h.1.1.2) (p_elt.1 _ _ _ h.1.2) (p_ifs _ _ _ h.2)
include G Tb in
theorem m_inTab (neg : Bool) (t : Nat) (a : E) (p_a : PE T N q d call a) : PE T N q d call (.inTab neg t a) := And.intro (fun sc Γ x h0 => by
  obtain ⟨⟨l, os, rs⟩, hn, h⟩ := any_some (o := asCmp x) h0
  obtain ⟨p, rfl⟩ := asCmp_eq hn
  obtain ⟨o, ho, h⟩ := any_some h
  obtain ⟨r, hr, h⟩ := any_some h
  obtain ⟨n, hn', hh⟩ := any_some h
  obtain ⟨p', rfl⟩ := asName_eq hn'
  dsimp only at ho hr
  rw [one_eq ho, one_eq hr]
  simp only [Bool.and_eq_true, beq_iff_eq] at hh
  rw [hh.1.1.1]
  exact e_inTab G Tb hh.1.1.2 hh.1.2 (p_a.1 _ _ _ hh.2)) (fun sc Γ x h0 _ => by
  obtain ⟨⟨l, os, rs⟩, hn, h⟩ := any_some (o := asCmp x) h0
  obtain ⟨p, rfl⟩ := asCmp_eq hn
  obtain ⟨o, ho, h⟩ := any_some h
  obtain ⟨r, hr, h⟩ := any_some h
  obtain ⟨n, hn', hh⟩ := any_some h
  obtain ⟨p', rfl⟩ := asName_eq hn'
  dsimp only at ho hr
  rw [one_eq ho, one_eq hr]
  simp only [Bool.and_eq_true, beq_iff_eq] at hh
  rw [hh.1.1.1]
  exact c_inTab G Tb hh.1.1.2 hh.1.2 (p_a.1 _ _ _ hh.2))
include G Tb in
theorem m_subTab (t : Nat) (a : E) (p_a : PE T N q d call a) : PE T N q d call (.subTab t a) := pe_of (fun _ _ _ _ => rfl) fun sc Γ x h0 => by
  obtain ⟨⟨y, i⟩, hn, h⟩ := any_some (o := asSub x) h0
  obtain ⟨p, rfl⟩ := asSub_eq hn
  obtain ⟨n, hn', hh⟩ := any_some h
  obtain ⟨p', ep⟩ := asName_eq hn'
  dsimp only at ep
  subst ep
  simp only [Bool.and_eq_true] at hh
  obtain ⟨⟨⟨h1, h2⟩, h3⟩, h4⟩ := hh
  exact e_subTab G Tb h1 h2 h3 (p_a.1 _ _ _ h4)
theorem m_of (e : E) (p_e : PE T N q d call e) : PI T N q d call (.of e) := fun sc Γ x h => it_of' (p_e.1 _ _ _ (Bool.and_eq_true_iff.mp h).2)
include G in
theorem m_range1 (a : E) (p_a : PE T N q d call a) : PI T N q d call (.range1 a) := fun sc Γ x h0 => by
  obtain ⟨⟨n, as⟩, hn, h⟩ := any_some (o := asCall x) (Bool.and_eq_true_iff.mp h0).2
  obtain ⟨p, p', rfl⟩ := asCall_eq hn
  simp only [Bool.and_eq_true] at h
  obtain ⟨r, hr, h3⟩ := any_some h.2
  rw [one_eq hr]
  exact it_range1 G h.1.1 h.1.2 (chk_plain h3) (p_a.1 _ _ _ h3)
theorem m_t (e : E) (p_e : PE T N q d call e) : PC T N q d call (.t e) := fun sc Γ x h => p_e.2 _ _ _ (Bool.and_eq_true_iff.mp h).2 (Bool.and_eq_true_iff.mp h).1
theorem m_cnot (c : C) (p_c : PC T N q d call c) : PC T N q d call (.not c) := fun sc Γ x h0 => by
  obtain ⟨n, hn, h⟩ := any_some (o := asNot x) h0
  obtain ⟨p, rfl⟩ := asNot_eq hn
  exact c_not (p_c _ _ _ h)
theorem m_cand (cs : List C) (p_cs : PCs T N q d call cs) : PC T N q d call (.and cs) := fun sc Γ x h0 => by
  obtain ⟨n, hn, h⟩ := any_some (o := asAnd x) h0
  obtain ⟨p, rfl⟩ := asAnd_eq hn
  exact c_and (p_cs _ _ _ h)
theorem m_cor (cs : List C) (p_cs : PCs T N q d call cs) : PC T N q d call (.or cs) := fun sc Γ x h0 => by
  obtain ⟨n, hn, h⟩ := any_some (o := asOr x) h0
  obtain ⟨p, rfl⟩ := asOr_eq hn
  exact c_or (p_cs _ _ _ h)
theorem m_enil : PEs T N q d call [] := fun sc Γ x h0 => by
  have := chkEs_nil h0; subst this; exact ⟨es_nil, trivial⟩
theorem m_econs (e : E) (es : List E) (p_e : PE T N q d call e) (p_es : PEs T N q d call es) : PEs T N q d call (e :: es) := fun sc Γ x h0 => by
  obtain ⟨y, ys, rfl, h1, h2⟩ := chkEs_cons h0
  exact ⟨es_cons (chk_plain h1) (p_e.1 _ _ _ h1) (p_es _ _ _ h2).1, p_e.1 _ _ _ h1, (p_es _ _ _ h2).2⟩
theorem m_cnil : PCs T N q d call [] := fun sc Γ x h0 => by
  have : x = [] := List.isEmpty_iff.mp h0
  subst this; trivial
theorem m_ccons (e : C) (es : List C) (p_e : PC T N q d call e) (p_es : PCs T N q d call es) : PCs T N q d call (e :: es) := fun sc Γ x h0 => by
  obtain ⟨y, ys, rfl, h1, h2⟩ := chkCs_cons h0
  exact ⟨p_e _ _ _ h1, p_es _ _ _ h2⟩

include G Tb hc in
theorem pE (e : E) : PE T N q d call e :=
  E.rec (motive_1 := fun e => PE T N q d call e) (motive_2 := fun e => PI T N q d call e) (motive_3 := fun e => PC T N q d call e) (motive_4 := fun e => PEs T N q d call e) (motive_5 := fun e => PCs T N q d call e)
    m_var
    m_const
    (m_glob G)
    m_bin
    m_not
    m_and
    m_cmp
    m_cmp2
    (m_call G hc)
    (m_bi G)
    m_bm
    (m_isinst G)
    m_sub
    m_slice
    m_list
    m_tuple
    m_comp
    (m_inTab G Tb)
    (m_subTab G Tb)
    m_of
    (m_range1 G)
    m_t
    m_cnot
    m_cand
    m_cor
    m_enil
    m_econs
    m_cnil
    m_ccons e
include G Tb hc in
theorem pI (e : It) : PI T N q d call e :=
  It.rec (motive_1 := fun e => PE T N q d call e) (motive_2 := fun e => PI T N q d call e) (motive_3 := fun e => PC T N q d call e) (motive_4 := fun e => PEs T N q d call e) (motive_5 := fun e => PCs T N q d call e)
    m_var
    m_const
    (m_glob G)
    m_bin
    m_not
    m_and
    m_cmp
    m_cmp2
    (m_call G hc)
    (m_bi G)
    m_bm
    (m_isinst G)
    m_sub
    m_slice
    m_list
    m_tuple
    m_comp
    (m_inTab G Tb)
    (m_subTab G Tb)
    m_of
    (m_range1 G)
    m_t
    m_cnot
    m_cand
    m_cor
    m_enil
    m_econs
    m_cnil
    m_ccons e
include G Tb hc in
theorem pC (e : C) : PC T N q d call e :=
  C.rec (motive_1 := fun e => PE T N q d call e) (motive_2 := fun e => PI T N q d call e) (motive_3 := fun e => PC T N q d call e) (motive_4 := fun e => PEs T N q d call e) (motive_5 := fun e => PCs T N q d call e)
    m_var
    m_const
    (m_glob G)
    m_bin
    m_not
    m_and
    m_cmp
    m_cmp2
    (m_call G hc)
    (m_bi G)
    m_bm
    (m_isinst G)
    m_sub
    m_slice
    m_list
    m_tuple
    m_comp
    (m_inTab G Tb)
    (m_subTab G Tb)
    m_of
    (m_range1 G)
    m_t
    m_cnot
    m_cand
    m_cor
    m_enil
    m_econs
    m_cnil
    m_ccons e
include G Tb hc in
theorem pCs : ∀ e : List C, PCs T N q d call e
  | [] => m_cnil
  | e :: es => m_ccons e es (pC G Tb hc e) (pCs es)
include G Tb hc in
theorem sndE (sc : Scope) (Γ : Gam) (e : E) (x : Expr) (h : chkE N sc Γ e x = true) : SimE T q d call sc Γ e x := (pE G Tb hc e).1 sc Γ x h
include G Tb hc in
theorem sndIt (sc : Scope) (Γ : Gam) (e : It) (x : Expr) (h : chkIt N sc Γ e x = true) : SimIt T q d call sc Γ e x := pI G Tb hc e sc Γ x h
include G Tb hc in
theorem sndC (sc : Scope) (Γ : Gam) (e : C) (x : Expr) (h : chkC N sc Γ e x = true) : SimC T q d call sc Γ e x := pC G Tb hc e sc Γ x h
include G Tb hc in
theorem sndCL (sc : Scope) (Γ : Gam) (e : List C) (x : List Expr) (h : chkCs N sc Γ e x = true) : SimCL T q d call sc Γ e x := pCs G Tb hc e sc Γ x h
end
end Mine
end
section
namespace Mine
open PySem PySem.W PySem.Calls PyProof.Rows

section
variable {T : St} {N : Nm} {A : Around} {L : Addr} {q : Bool} {d : Nat} {φ₀ φ : Phi} {η₀ η : H} {s₀ s : Shared} {env : Env} {sc : Scope} {Γ : Gam} {ρ : Rho} {call : Bool → Nat → List V → H → R V} {α β : Type}

theorem SimR.assoc {γ : Type} {a : Sem α} {f : α → Sem γ} {k : γ → Sem Flow} {r : RS} (h : SimR T A L φ₀ η₀ s₀ env sc Γ φ η s (a >>= fun x => f x >>= k) r) : SimR T A L φ₀ η₀ s₀ env sc Γ φ η s ((a >>= f) >>= k) r :=
  h.imp id fun h Γ' p hΓ => by have := h Γ' p hΓ; simpa only [Sem.wp_bind'] using this

theorem SimR.exprP {t : Sem α} {k : α → Sem Flow} {r : R β} {g : β → H → RS} {Q : QR α β} (F : FS true T A L φ₀ η₀ s₀ φ η s env sc Γ ρ) (h1 : Sim T A L φ η s t r Q)
    (h2 : ∀ v η' φ' x s', r = .ok v η' → Post T φ η s φ' η' s' → FS true T A L φ₀ η₀ s₀ φ' η' s' env sc Γ ρ → Q φ' η' s'.heap v x → SimR T A L φ₀ η₀ s₀ env sc Γ φ' η' s' (k x) (g v η')) : SimR T A L φ₀ η₀ s₀ env sc Γ φ η s (t >>= k) (RS.of ρ r g) :=
  SimR.expr (Q := fun φ' η' h v x => ∃ s', s'.heap = h ∧ Post T φ η s φ' η' s' ∧ Q φ' η' h v x) F (h1.mono fun φ' η' s' v x _ p q => ⟨s', rfl, p, q⟩) fun v η' φ' x s' e F' ⟨s'', es, p, hq⟩ =>
    h2 v η' φ' x s' e ⟨es ▸ p.step, F'.post.rel, F'.post.gens.trans F.post.gens.symm, F'.post.os.trans F.post.os.symm, F'.post.drawn.trans F.post.drawn.symm⟩ F' hq

theorem s_raise0 {c : Nat} {msg : List Nat} {x : Stmt} : SimS T q d call sc Γ (.raise c msg) x := fun _ _ _ _ _ _ _ _ _ _ _ _ => .inl rfl

section
variable (G : Gd T N) (Tb : Tbs T N G) (hc : CallOK T G.fn q d (call q))
include G Tb hc
theorem a_assign {y : Nat} {e : E} {x : Stmt} (h0 : chkS N sc Γ (.assign y e) x = true) : SimS T q d call sc Γ (.assign y e) x := by
  obtain ⟨⟨t, v⟩, hp, h⟩ := any_some (o := asAssign x) h0
  obtain ⟨pos, rfl⟩ := asAssign_eq hp
  obtain ⟨n, hn, hh⟩ := any_some h
  obtain ⟨pn, en⟩ := asName_eq hn
  rw [en]
  simp only [Bool.and_eq_true, beq_iff_eq, Bool.or_eq_true] at hh
  obtain ⟨⟨⟨h1, h2⟩, h3⟩, h4⟩ := hh
  by_cases hcomp : notComp v = true
  · exact s_assign' hcomp h1 h2 (sndE G Tb hc sc Γ e v h3)
  · have h5 := h4.resolve_left hcomp
    cases e with
    | comp mu z elt it ifs =>
      obtain ⟨r, hr, hh⟩ := any_some (o := asComp v) h3
      obtain ⟨p1, p2, ev⟩ := asComp_eq hr
      subst ev
      simp only [Bool.and_eq_true] at hh
      exact s_assign_comp (it_set hh.1.1.2) h1 h2 (comp_ok hh.1.1.1) (sndIt G Tb hc sc Γ it _ hh.1.1.2) (sndE G Tb hc _ _ elt _ hh.1.2) (sndCL G Tb hc _ _ ifs _ hh.2)
    | _ => exact absurd h5 Bool.false_ne_true
theorem a_ret {e : E} {x : Stmt} (h0 : chkS N sc Γ (.ret e) x = true) : SimS T q d call sc Γ (.ret e) x := by
  obtain ⟨v, hp, h⟩ := any_some (o := asRet x) h0
  obtain ⟨pos, rfl⟩ := asRet_eq hp
  exact s_ret' (sndE G Tb hc sc Γ e _ h)
end
variable (G : Gd T N) (Tb : Tbs T N G) (hc : ∀ q, CallOK T G.fn q d (call q))
include G Tb hc

mutual
theorem sndS (q : Bool) (sc : Scope) (Γ : Gam) : ∀ (st : S) (x : Stmt), chkS N sc Γ st x = true → SimS T q d call sc Γ st x
  | .assign y e, x, h0 => a_assign G Tb (hc q) h0
  | .ite c a b, x, h0 => by
    obtain ⟨p, hp, h⟩ := any_some (o := asIfS x) h0
    obtain ⟨pos, rfl⟩ := asIfS_eq hp
    simp only [Bool.and_eq_true] at h
    exact s_ite' (sndC G Tb (hc q) sc Γ c _ h.1.1) (sndSs q sc Γ a _ h.1.2) (sndSs q sc Γ b _ h.2)
  | .for1 y it body, x, h0 => by
    obtain ⟨p, hp, h⟩ := any_some (o := asFor x) h0
    obtain ⟨pos, rfl⟩ := asFor_eq hp
    obtain ⟨n, hn, hh⟩ := any_some h
    obtain ⟨pn, en⟩ := asName_eq hn
    rw [en]
    simp only [Bool.and_eq_true, beq_iff_eq] at hh
    obtain ⟨⟨⟨h1, h2⟩, h3⟩, h4⟩ := hh
    exact s_for1' (it_set h3) h1 h2 (sndIt G Tb (hc q) sc Γ it _ h3) (sndSs q sc Γ body _ h4)
  | .ret e, x, h0 => a_ret G Tb (hc q) h0
  | .raise c m, x, h0 => s_raise0
theorem sndSs (q : Bool) (sc : Scope) (Γ : Gam) : ∀ (st : List S) (x : List Stmt), chkSs N sc Γ st x = true → SimSs T q d call sc Γ st x
  | [], x, h => by
    have : x = [] := List.isEmpty_iff.mp h
    subst this; exact ss_nil
  | st :: ss, [], h => absurd h Bool.false_ne_true
  | st :: ss, x :: xs, h => ss_cons (sndS q sc Γ st x (Bool.and_eq_true_iff.mp h).1) (sndSs q sc Γ ss xs (Bool.and_eq_true_iff.mp h).2)
end
end
end Mine
end
section
namespace Mine
open PySem PySem.W PySem.Calls PyProof.Rows

theorem call_ok {T : St} {N : Nm} (G : Gd T N) (Cd : Cod T N G) (Tb : Tbs T N G) : ∀ d q, CallOK T G.fn q d (callN T.P d q)
  | 0, _ => fun _ _ _ _ _ _ _ _ _ _ => .fail
  | d + 1, q => fun f A L φ η s vs ys X hv => by
    cases hF : T.P.fns[f]? with
    | none => left; rw [callN, hF]
    | some F => exact sim_fn G Cd hF (fun b hb => sndSs G Tb (fun q => call_ok G Cd Tb d q) q _ _ F.body b hb) X hv

theorem Rel.start {T : St} : Rel T [] [] T.base where
  len := rfl
  base := fun _ _ e => e
  obj := fun n m p hm _ => by simp at hm
  fresh := fun b o => by obtain ⟨n, p, m, hp, _⟩ := o; simp at hp
  disj := fun n n' p p' m m' hp => by simp at hp
theorem own_nil {b : Addr} : ¬ own [] [] b := fun o => by obtain ⟨n, p, m, hp, _⟩ := o; simp at hp

theorem wells {P : Params} {h : Heap} : ∀ {vs : List Value} {xs : List Int}, WellAll P h vs (xs.map WData.int) → ∀ T, VRs T [] (own [] []) h (xs.map V.int) vs
  | _, [], w, T => by cases w; simp [VRs]
  | _, x :: xs, w, T => by
    rw [List.map_cons] at w
    cases w with
    | cons a b =>
      cases a
      rw [List.map_cons]
      simp only [VRs]
      exact ⟨_, _, rfl, by simp [VR], wells b T⟩

/-- the law's call -/
theorem law_good {T : St} {N : Nm} (G : Gd T N) (Cd : Cod T N G) (Tb : Tbs T N G) {s : Shared} (hs : s.heap = T.base) {P : Params} {f d : Nat} {l : Addr} {xs : List Int} (hd : d ≤ 20) (hw : Well P s.heap (.ref l) (.list (xs.map WData.int)))
    (hp : callN T.P (d + 1) true f [.lst (xs.map .int)] [] = .ok (.bool true) []) :
    codeAny T.M callerA (.call (.ref (G.fn f)) ⟨[.ref l], []⟩) (fun r s' => r = .ok (.ret (.bool true)) ∧ (∀ b o, s.heap.get? b = some o → s'.heap.get? b = some o) ∧ s'.os = s.os ∧ s'.gens = s.gens) s := by
  obtain ⟨F, hF⟩ : ∃ F, T.P.fns[f]? = some F := by
    cases e : T.P.fns[f]? with
    | none => rw [callN, e] at hp; cases hp
    | some F => exact ⟨F, rfl⟩
  have hv : VRs T [] (own [] []) s.heap [.lst (xs.map .int)] [.ref l] := by
    cases hw with
    | list g w =>
      simp only [VRs, VR]
      exact ⟨_, _, rfl, ⟨l, _, _, rfl, own_nil, g, wells w T⟩, rfl⟩
  have R : Rel T [] [] s.heap := hs ▸ Rel.start
  have h1 : callerA.depth + 4 * (d + 1) + 4 ≤ recursionLimit := by
    have : callerA.depth + 100 ≤ recursionLimit := by decide +kernel
    omega
  have h2 : callerA.units + 20 * (d + 1) + 20 < cLine := by
    have : callerA.units + 500 < cLine := by decide +kernel
    omega
  rcases sim_fn0 (A := callerA) (L := 0) (q := true) (d := d) G Cd hF (fun b hb => sndSs G Tb (fun q => call_ok G Cd Tb d q) true _ _ F.body b hb) (l := []) (fun _ => rfl) h1 h2 rfl (fun _ he => by cases he) R hv with h | h
  · rw [hp] at h; cases h
  · refine codeAny_mono h fun r s' hr => ?_
    cases r with
    | ok fl =>
      cases fl with
      | ret x =>
        obtain ⟨v, η', φ', e, p, q⟩ := hr
        rw [hp] at e; cases e
        simp only [QV, VR] at q; subst q
        exact ⟨rfl, fun b o e => p.rel.base b o (hs ▸ e), p.os, p.gens⟩
      | _ => exact hr.elim
    | error e =>
      obtain ⟨c, η', φ', e, _⟩ := hr
      rw [hp] at e; cases e
end Mine
end
section
namespace Mine
noncomputable section
open PySem PySem.W PySem.Calls PyProof.Rows

/-- where a function lies -/
def fnA (K : Frag) (N : Nm) (f : Nat) : Addr := match N.fnm[f]? with
  | some n => (match nsIn K mainGlobals n with | some (some (.ref a)) => a | _ => 0)
  | none => 0
def fnO (K : Frag) (N : Nm) (f : Nat) : Option FuncData := match K.lookup (fnA K N f) with
  | some ⟨_, _, .func fd, _⟩ => some fd
  | _ => none
def okFn (K : Frag) (N : Nm) (g : Gam) (F : Fn) (f : Nat) : Bool := match fnO K N f with
  | some fd => chkF N F g fd && codeIn K fd.code fd.qualname
  | none => false
def okFns (K : Frag) (N : Nm) : Nat → List Fn → List Gam → Bool
  | _, [], _ => true
  | k, F :: Fs, g :: gs => okFn K N g F k && okFns K N (k + 1) Fs gs
  | _, _ :: _, [] => false
def okName (K : Frag) (n : Str) : Bool := n == ("" : Str) || (match nsIn K mainGlobals n with | some (some (.ref a)) => keepIn K (.ref a) | _ => false)
def valOk : V → Value → Bool
  | .none, .none => true
  | .bool a, .bool b => a == b
  | .int a, .int b _ => a == b
  | .str a, .str b _ => b.cps.toList == a
  | _, _ => false
def okVal (K : Frag) (n : Str) (v : V) : Bool := match nsIn K mainGlobals n with | some (some val) => valOk v val | _ => false
def okVals (K : Frag) : List Str → List V → Bool
  | n :: ns, v :: vs => okVal K n v && okVals K ns vs
  | _, [] => true
  | [], _ => false
def okBoot (K : Frag) (n : Str) : Bool := match nsIn K mainGlobals n with | some none => true | _ => false

section
variable {T : St} {N : Nm} {K : Frag}
theorem valOk_VR {φ : Phi} {M : Addr → Prop} {h : Heap} {v : V} {val : Value} (e : valOk v val = true) : VR T φ M h v val := by
  cases v with
  | none => cases val <;> first | rfl | exact absurd e Bool.false_ne_true
  | bool a =>
    cases val with
    | bool b => exact congrArg Value.bool (beq_iff_eq.mp e).symm
    | _ => exact absurd e Bool.false_ne_true
  | int a =>
    cases val with
    | int b t => exact ⟨t, by rw [beq_iff_eq.mp (show (a == b) = true from e)]⟩
    | _ => exact absurd e Bool.false_ne_true
  | str a =>
    cases val with
    | str b t => exact ⟨t, by cases b; rw [← beq_iff_eq.mp (show (_ == a) = true from e)]⟩
    | _ => exact absurd e Bool.false_ne_true
  | _ => exact absurd e Bool.false_ne_true
theorem okVals_get : ∀ {ns : List Str} {vs : List V}, okVals K ns vs = true → ∀ (g : Nat) n v, ns[g]? = some n → vs[g]? = some v → okVal K n v = true
  | n :: ns, v :: vs, h, 0, _, _, h1, h2 => by
    rw [okVals, Bool.and_eq_true] at h
    simp at h1 h2; subst h1; subst h2; exact h.1
  | n :: ns, v :: vs, h, g + 1, _, _, h1, h2 => by
    rw [okVals, Bool.and_eq_true] at h
    exact okVals_get h.2 g _ _ (by simpa using h1) (by simpa using h2)
  | _, [], _, _, _, _, _, h2 => by simp at h2
  | [], _ :: _, _, _, _, _, h1, _ => by simp at h1

def gdOf (T : St) (N : Nm) (K : Frag) (kin : K.In T.base) (bns : ∃ mb, T.base.Ns builtinsNs mb ∧ ∀ x : Str, x ≠ "__name__" → mb x = bootBuiltins x) (h1 : N.fnm.all (okName K) = true) (h2 : bnames.all (okBoot K) = true) (h3 : okVals K N.glm N.glv = true) : Gd T N where
  K := K
  kin := kin
  fn := fnA K N
  bns := bns
  nob := fun x hx => by
    have := List.all_eq_true.mp h2 x hx
    unfold okBoot at this
    split at this
    · assumption
    · cases this
  fns := fun f n hf hn => by
    have := List.all_eq_true.mp h1 n (List.mem_of_getElem? hf)
    unfold okName at this
    rw [beq_eq_false_iff_ne.mpr hn, Bool.false_or] at this
    unfold fnA
    rw [hf]
    dsimp only
    split at this
    · rename_i a e
      rw [e]; exact ⟨rfl, this⟩
    · cases this
  vals := fun g n v hg hv => by
    have := okVals_get h3 g n v hg hv
    unfold okVal at this
    split at this
    · rename_i val e
      exact ⟨val, e, fun φ M h => valOk_VR this⟩
    · cases this

theorem okFns_get : ∀ {k : Nat} {Fs : List Fn} {gs : List Gam}, okFns K N k Fs gs = true → ∀ (f : Nat) F, Fs[f]? = some F → okFn K N (gs.getD f []) F (k + f) = true
  | k, F :: Fs, g :: gs, h, 0, _, h1 => by
    rw [okFns, Bool.and_eq_true] at h
    simp at h1; subst h1; exact h.1
  | k, F :: Fs, g :: gs, h, f + 1, _, h1 => by
    rw [okFns, Bool.and_eq_true] at h
    have := okFns_get h.2 f _ (by simpa using h1)
    rw [show k + (f + 1) = k + 1 + f by omega]
    simpa using this
  | _, [], _, _, _, _, h1 => by simp at h1
  | _, _ :: _, [], h, _, _, _ => by rw [okFns] at h; cases h

def codOf (G : Gd T N) (hfn : G.fn = fnA G.K N) (gams : List Gam) (h : okFns G.K N 0 T.P.fns gams = true) : Cod T N G where
  gam := fun f => gams.getD f []
  fd := fun f => (fnO G.K N f).getD default
  fns := fun f F hF => by
    have := okFns_get h f F hF
    rw [Nat.zero_add] at this
    unfold okFn at this
    split at this
    · rename_i fd e
      rw [Bool.and_eq_true] at this
      rw [e]
      refine ⟨?_, this⟩
      rw [hfn]
      unfold fnO at e
      split at e
      · rename_i o hl
        cases e
        exact ⟨_, hl, rfl⟩
      · cases e
    · cases this

/-- the globals' name means what the fragment says -/
theorem ns_agrees {h : Heap} {a : Addr} {m : Str → Option Value} {n : Str} {r : Option Value} (X : K.In h) (hn : h.Ns a m) (e : nsIn K a n = some r) : m n = r := by
  obtain ⟨o, es, ep, ho, hd, hk, hm⟩ := hn
  unfold nsIn at e
  split at e
  · rename_i c dd es' ep' sl hl
    have := X _ _ hl
    rw [ho] at this; cases this
    cases hd
    rw [← hm]
    unfold nsFind findBy
    split at e
    · rename_i en he
      cases e
      obtain ⟨l⟩ := es
      simp only [List.find?_toArray] at *
      rw [he]; rfl
    · rename_i he
      split at e
      · cases e
      · cases e
        obtain ⟨l⟩ := es
        simp only [List.find?_toArray] at *
        rw [he]; rfl
  · cases e
end
end
end Mine
end
section
set_option linter.all false
namespace Mine.Law

theorem dig_lt {d : Nat} (h : d < 10) : (Nat.digitChar d).toNat = 48 + d := by
  match d, h with
  | 0, _ | 1, _ | 2, _ | 3, _ | 4, _ | 5, _ | 6, _ | 7, _ | 8, _ | 9, _ => rfl

theorem digitsOf_step (n : Nat) : digitsOf n = if n < 10 then [48 + n] else digitsOf (n / 10) ++ [48 + n % 10] := by
  unfold digitsOf
  rw [Nat.toDigits_eq_if (by decide)]
  split
  · rw [List.map_cons, List.map_nil, dig_lt (by assumption)]
  · rw [List.map_append, List.map_cons, List.map_nil, dig_lt (Nat.mod_lt _ (by decide))]

theorem digits_all : ∀ n : Nat, ∀ c ∈ digitsOf n, 48 ≤ c ∧ c ≤ 57 := by
  intro n
  induction n using Nat.strongRecOn with
  | ind n ih =>
    intro c hc
    rw [digitsOf_step] at hc
    split at hc
    · simp at hc; omega
    · rw [List.mem_append, List.mem_singleton] at hc
      rcases hc with hc | hc
      · exact ih (n / 10) (by omega) c hc
      · omega
theorem digits_read : ∀ n : Nat, readNat (digitsOf n) = n := by
  intro n
  induction n using Nat.strongRecOn with
  | ind n ih =>
    rw [digitsOf_step]
    split
    · simp [readNat]
    · have := ih (n / 10) (by omega)
      unfold readNat at this ⊢
      rw [List.foldl_append, this]
      simp; omega
theorem digits_len : ∀ (k n : Nat), n < 10 ^ (k + 1) → (digitsOf n).length ≤ k + 1 := by
  intro k
  induction k with
  | zero => intro n h; rw [digitsOf_step, if_pos (by simpa using h)]; simp
  | succ k ih =>
    intro n h
    rw [digitsOf_step]
    split
    · simp
    · rw [List.length_append, List.length_singleton]
      have := ih (n / 10) (by rw [Nat.pow_succ] at h; omega)
      omega
theorem digits_pos (n : Nat) : 1 ≤ (digitsOf n).length := by
  rw [digitsOf_step]; split <;> simp
theorem digits_head : ∀ n : Nat, 0 < n → ∃ c r, digitsOf n = c :: r ∧ c ≠ 48 := by
  intro n
  induction n using Nat.strongRecOn with
  | ind n ih =>
    intro h
    rw [digitsOf_step]
    split
    · exact ⟨48 + n, [], rfl, by omega⟩
    · obtain ⟨c, r, e, hc⟩ := ih (n / 10) (by omega) (by omega)
      exact ⟨c, r ++ [48 + n % 10], by rw [e]; rfl, hc⟩

theorem splitL_none : ∀ (w : List Nat), (∀ c ∈ w, c ≠ 32) → splitL 32 w = [w]
  | [], _ => rfl
  | x :: r, h => by
    rw [splitL, if_neg (h x List.mem_cons_self), splitL_none r fun c hc => h c (List.mem_cons_of_mem _ hc)]
theorem splitL_app : ∀ (w r : List Nat), (∀ c ∈ w, c ≠ 32) → splitL 32 (w ++ 32 :: r) = w :: splitL 32 r
  | [], r, _ => by rw [List.nil_append, splitL, if_pos rfl]
  | x :: w, r, h => by
    rw [List.cons_append, splitL, if_neg (h x List.mem_cons_self), splitL_app w r fun c hc => h c (List.mem_cons_of_mem _ hc)]
theorem split_join : ∀ (w : List Nat) (ws : List (List Nat)), (∀ x ∈ w :: ws, ∀ c ∈ x, c ≠ 32) → splitL 32 (joinL [32] (w :: ws)) = w :: ws
  | w, [], h => by rw [joinL]; exact splitL_none w (h w List.mem_cons_self)
  | w, y :: ws, h => by
    rw [joinL, List.append_assoc]
    show splitL 32 (w ++ 32 :: joinL [32] (y :: ws)) = _
    rw [splitL_app w _ (h w List.mem_cons_self), split_join y ws fun x hx => h x (List.mem_cons_of_mem _ hx)]

theorem strsV_map : ∀ ws : List (List Nat), strsV (ws.map .str) = some ws
  | [] => rfl
  | w :: ws => by rw [List.map_cons, strsV, strsV_map ws]; rfl

/-- a comprehension whose elements leave the heap as it is -/
theorem compLoop_map {still : H → Bool} {step : V → H → R Unit} {h : H} {f : V → V} (hs : ∀ ys, still (h ++ [.list ys]) = true) : ∀ (xs acc : List V), (∀ v ∈ xs, ∀ ys, ys.length < acc.length + xs.length → step v (h ++ [.list ys]) = .ok () (h ++ [.list (ys ++ [f v])])) → compLoop still step xs (h ++ [.list acc]) = .ok () (h ++ [.list (acc ++ xs.map f)])
  | [], acc, _ => by rw [compLoop, if_pos (hs acc)]; simp
  | v :: vs, acc, e => by
    rw [compLoop, if_pos (hs acc), e v List.mem_cons_self acc (by simp)]
    show compLoop still step vs (h ++ [.list (acc ++ [f v])]) = _
    rw [compLoop_map hs vs (acc ++ [f v]) fun w hw ys hl => e w (List.mem_cons_of_mem _ hw) ys (by simp at hl ⊢; omega)]
    simp
theorem app_at {h : H} {ys : List V} {y : V} (hl : ys.length ≤ 100000) : appV (h ++ [.list ys]) h.length y = .ok .none (h ++ [.list (ys ++ [y])]) := by
  have e : (h ++ [M.list ys])[h.length]? = some (.list ys) := by rw [List.getElem?_append_right (Nat.le_refl _)]; simp
  simp only [appV, e, hl, if_true]
  rw [List.set_append_right _ _ (Nat.le_refl _)]; simp
theorem endComp_cut {h : H} {ys : List V} (hu : V.refsUnder h.length ys = true) : endComp false h (h ++ [.list ys]) = .ok (.lst ys) h := by
  have e : (h ++ [M.list ys])[h.length]? = some (.list ys) := by rw [List.getElem?_append_right (Nat.le_refl _)]; simp
  unfold endComp
  rw [e]
  simp [hu]
theorem endComp_mu {h : H} {ys : List V} : endComp true h (h ++ [.list ys]) = .ok (.ref h.length) (h ++ [.list ys]) := by
  have e : (h ++ [M.list ys])[h.length]? = some (.list ys) := by rw [List.getElem?_append_right (Nat.le_refl _)]; simp
  unfold endComp
  rw [e]; rfl
section
variable {P : Prog} {q : Bool} {call : Nat → List V → H → R V} {r : Rho} {h : H} {α β : Type}
theorem bind_ok {a : α} {f : α → H → R β} : (R.ok a h).bind f = f a h := (rfl)
theorem of_ok {a : α} {f : α → H → RS} : RS.of r (R.ok a h) f = f a h := (rfl)
theorem bV_add {a b : Int} : binV .add h (.int a) (.int b) = .ok (.int (a + b)) h := (rfl)
theorem bV_sub {a b : Int} : binV .sub h (.int a) (.int b) = .ok (.int (a - b)) h := (rfl)
theorem bV_mul {a b : Int} : binV .mul h (.int a) (.int b) = if okInt a || okInt b then .ok (.int (a * b)) h else .fail := (rfl)
theorem bV_div {a b : Int} : binV .div h (.int a) (.int b) = if b ≠ 0 ∧ b.natAbs < 1073741824 then .ok (.int (a.fdiv b)) h else .fail := (rfl)
theorem bV_mod {a b : Int} : binV .mod h (.int a) (.int b) = if b ≠ 0 then .ok (.int (a.fmod b)) h else .fail := (rfl)
theorem bV_tup {a b : List V} : binV .add h (.tup a) (.tup b) = if a.length + b.length ≤ 100000 then .ok (.tup (a ++ b)) h else .fail := (rfl)
theorem bV_lst {a b : List V} : binV .add h (.lst a) (.lst b) = if a.length + b.length ≤ 100000 then .ok (.lst (a ++ b)) h else .fail := (rfl)
theorem mkL_f {xs : List V} : mkList false xs h = .ok (.lst xs) h := (rfl)
theorem gI_lst {xs : List V} {k : Int} : getItem h (.lst xs) (.int k) = if okIdx k then xs[k.toNat]? else none := (rfl)
theorem gI_tup {xs : List V} {k : Int} : getItem h (.tup xs) (.int k) = if okIdx k then xs[k.toNat]? else none := (rfl)
theorem gI_str {xs : List Nat} {k : Int} : getItem h (.str xs) (.int k) = if okIdx k then charOf xs k.toNat else none := (rfl)
theorem cV_lt {a b : Int} : cmpV .lt h (.int a) (.int b) = some (decide (a < b)) := (rfl)
theorem cV_le {a b : Int} : cmpV .le h (.int a) (.int b) = some (decide (a ≤ b)) := (rfl)
theorem cV_eqI {a b : Int} : cmpV .eq h (.int a) (.int b) = some (a == b) := (rfl)
theorem cV_neI {a b : Int} : cmpV .ne h (.int a) (.int b) = some (!(a == b)) := (rfl)
theorem cV_eqS {a b : List Nat} : cmpV .eq h (.str a) (.str b) = some (a == b) := (rfl)
theorem cV_neS {a b : List Nat} : cmpV .ne h (.str a) (.str b) = some (!(a == b)) := (rfl)
theorem tr_b {b : Bool} : truth h (.bool b) = some b := (rfl)
end
section
variable {P : Prog} {q : Bool} {call : Nat → List V → H → R V} {cl : Bool → Nat → List V → H → R V} {r : Rho} {h : H} {α β : Type} {a b c : E} {es : List E}
theorem ev_var {i : Nat} : evE P q call (.var i) r h = match r[i]? with | some (some v) => .ok v h | _ => .fail := (rfl)
theorem ev_const {v : V} : evE P q call (.const v) r h = .ok v h := (rfl)
theorem ev_glob {g : Nat} {v : V} : evE P q call (.glob g v) r h = .ok v h := (rfl)
theorem ev_bin {op : Op} : evE P q call (.bin op a b) r h = (evE P q call a r h).bind fun x h => (evE P q call b r h).bind fun y h => binV op h x y := (rfl)
theorem ev_not : evE P q call (.not a) r h = (evE P q call a r h).bind fun x h => match truth h x with | some b => .ok (.bool (!b)) h | none => .fail := (rfl)
theorem ev_and : evE P q call (.and es) r h = evAnd P q call es r h := (rfl)
theorem ev_cmp {op : COp} : evE P q call (.cmp op a b) r h = (evE P q call a r h).bind fun x h => (evE P q call b r h).bind fun y h => match cmpV op h x y with | some b => .ok (.bool b) h | none => .fail := (rfl)
theorem ev_cmp2 {op1 op2 : COp} : evE P q call (.cmp2 op1 op2 a b c) r h = (evE P q call a r h).bind fun x h => (evE P q call b r h).bind fun y h => match cmpV op1 h x y with
      | some true => (evE P q call c r h).bind fun z h => match cmpV op2 h y z with | some b => .ok (.bool b) h | none => .fail
      | some false => .ok (.bool false) h
      | none => .fail := (rfl)
theorem ev_call {f : Nat} : evE P q call (.call f es) r h = (evEs P q call es r h).bind fun vs h => call f vs h := (rfl)
theorem ev_bi {f : Bi} : evE P q call (.bi f es) r h = (evEs P q call es r h).bind fun vs h => biV f h vs := (rfl)
theorem ev_bm {m : Bm} : evE P q call (.bm m a es) r h = (evE P q call a r h).bind fun x h => if isS x then (evEs P q call es r h).bind fun vs h' => bmV m h' x vs else .fail := (rfl)
theorem ev_isinst {t : Ty} : evE P q call (.isinst a t) r h = (evE P q call a r h).bind fun x h => match isInst x t with | some b => .ok (.bool b) h | none => .fail := (rfl)
theorem ev_sub : evE P q call (.sub a b) r h = (evE P q call a r h).bind fun x h => (evE P q call b r h).bind fun y h => match getItem h x y with | some v => .ok v h | none => .fail := (rfl)
theorem ev_slice {mu : Bool} : evE P q call (.slice mu a b c) r h = (evE P q call a r h).bind fun x h => (evE P q call b r h).bind fun y h => (evE P q call c r h).bind fun z h => sliceV mu h x y z := (rfl)
theorem ev_list {mu : Bool} : evE P q call (.list mu es) r h = (evEs P q call es r h).bind fun vs h => mkList mu vs h := (rfl)
theorem ev_tuple : evE P q call (.tuple es) r h = (evEs P q call es r h).bind fun vs h => .ok (.tup vs) h := (rfl)
theorem ev_inTab {neg : Bool} {t : Nat} : evE P q call (.inTab neg t a) r h = (evE P q call a r h).bind fun x h => match x, P.tabs[t]? with
      | .str s, some tb => .ok (.bool ((tb.any fun p => p.1 == s) != neg)) h
      | _, _ => .fail := (rfl)
theorem ev_subTab {t : Nat} : evE P q call (.subTab t a) r h = match P.tabs[t]? with
      | some tb => (evE P q call a r h).bind fun x h => match x with
        | .str s => (match tb.find? fun p => p.1 == s with | some p => .ok (.str p.2) h | none => .fail)
        | _ => .fail
      | none => .fail := (rfl)
theorem ev_comp {x : Nat} {elt : E} {it : It} {ifs : List C} {v : V} {h₁ : H} {xs : List V} {live : Option (Nat × List V)} {f : V → V} (e : evIt P true call it r h = .ok v h₁) (hi : itemsOf h₁ v = some (xs, live)) (hl : xs.length ≤ 100000) (hs : ∀ ys, still (h₁ ++ [.list ys]) live = true)
    (hf : ∀ y ∈ xs, ∀ h, evIfs P true call ifs (r.set x (some y)) h = .ok true h ∧ evE P true call elt (r.set x (some y)) h = .ok (f y) h) (hu : V.refsUnder h₁.length (xs.map f) = true) : evE P true call (.comp false x elt it ifs) r h = .ok (.lst (xs.map f)) h₁ := by
  rw [evE, e, bind_ok, hi]
  show (if true = true ∧ xs.length ≤ 100000 then _ else _) = _
  rw [if_pos ⟨rfl, hl⟩, compLoop_map (f := f) hs xs [] fun y hy ys hys => ?_]
  · rw [bind_ok, List.nil_append, endComp_cut hu]
  · rw [(hf y hy _).1, bind_ok, if_pos rfl, (hf y hy _).2, bind_ok, app_at (by simp at hys; omega)]; rfl
theorem es_n : evEs P q call [] r h = .ok [] h := (rfl)
theorem es_c : evEs P q call (a :: es) r h = (evE P q call a r h).bind fun v h => (evEs P q call es r h).bind fun vs h => .ok (v :: vs) h := (rfl)
theorem and_1 : evAnd P q call [a] r h = evE P q call a r h := (rfl)
theorem and_2 : evAnd P q call (a :: b :: es) r h = (evE P q call a r h).bind fun v h => match truth h v with
      | some true => evAnd P q call (b :: es) r h
      | some false => .ok v h
      | none => .fail := (rfl)
theorem c_t : evC P q call (.t a) r h = (evE P q call a r h).bind fun v h => match truth h v with | some b => .ok b h | none => .fail := (rfl)
theorem c_n {t : C} : evC P q call (.not t) r h = (evC P q call t r h).bind fun b h => .ok (!b) h := (rfl)
theorem c_a {ts : List C} : evC P q call (.and ts) r h = evCand P q call ts r h := (rfl)
theorem c_o {ts : List C} : evC P q call (.or ts) r h = evCor P q call ts r h := (rfl)
theorem ca_n : evCand P q call [] r h = .ok true h := (rfl)
theorem ca_c {t : C} {ts : List C} : evCand P q call (t :: ts) r h = (evC P q call t r h).bind fun b h => if b then evCand P q call ts r h else .ok false h := (rfl)
theorem co_n : evCor P q call [] r h = .ok false h := (rfl)
theorem co_c {t : C} {ts : List C} : evCor P q call (t :: ts) r h = (evC P q call t r h).bind fun b h => if b then .ok true h else evCor P q call ts r h := (rfl)
theorem if_n : evIfs P q call [] r h = .ok true h := (rfl)
theorem if_c {t : C} {ts : List C} : evIfs P q call (t :: ts) r h = (evC P q call t r h).bind fun b h => if b then evIfs P q call ts r h else .ok false h := (rfl)
theorem it_of : evIt P q call (.of a) r h = evE P q call a r h := (rfl)
theorem it_r1 : evIt P q call (.range1 a) r h = (evE P q call a r h).bind fun x h => match x with
      | .int n => if okR n && decide (n.toNat ≤ 100000) then .ok (.lst ((List.range n.toNat).map fun (i : Nat) => .int i)) h else .fail
      | _ => .fail := (rfl)
theorem it_range {n : Int} {h' : H} (e : evE P q call a r h = .ok (.int n) h') (hn : (okR n && decide (n.toNat ≤ 100000)) = true) : evIt P q call (.range1 a) r h = .ok (.lst ((List.range n.toNat).map fun (i : Nat) => .int i)) h' := by
  rw [it_r1, e, bind_ok]
  exact if_pos hn
theorem s_assign {x : Nat} : evS P cl q (.assign x a) r h = RS.of r (evE P q (cl q) a r h) fun v h => .next (r.set x (some v)) h := (rfl)
theorem s_ret : evS P cl q (.ret a) r h = RS.of r (evE P q (cl q) a r h) fun v h => .ret v r h := (rfl)
theorem s_ite {t : C} {x y : List S} : evS P cl q (.ite t x y) r h = RS.of r (evC P q (cl q) t r h) fun t h => if t then evSs P cl q x r h else evSs P cl q y r h := (rfl)
theorem s_for1 {x : Nat} {it : It} {body : List S} {v : V} {h₁ : H} {xs : List V} {live : Option (Nat × List V)} (e : evIt P true (cl true) it r h = .ok v h₁) (hi : itemsOf h₁ v = some (xs, live)) (hl : xs.length ≤ 100000) :
    evS P cl true (.for1 x it body) r h = forLoop (still · live) (fun v r h => evSs P cl true body (r.set x (some v)) h) xs r h₁ := by
  rw [evS, e, of_ok, hi]
  show (if true = true ∧ xs.length ≤ 100000 then _ else _) = _
  rw [if_pos ⟨rfl, hl⟩]
theorem ss_n : evSs P cl q [] r h = .next r h := (rfl)
theorem ss_c {x : S} {xs : List S} : evSs P cl q (x :: xs) r h = match evS P cl q x r h with
      | .next r' h' => evSs P cl q xs r' h'
      | x => x := (rfl)
theorem ss_next {x : S} {xs : List S} {r' : Rho} {h' : H} (e : evS P cl q x r h = .next r' h') : evSs P cl q (x :: xs) r h = evSs P cl q xs r' h' := by rw [ss_c, e]
end
end Mine.Law
end
section
set_option linter.all false
set_option linter.unusedSimpArgs false
namespace Mine.Law
noncomputable section
/-- shown(row): 0 row, 1 *number -/
def fn0 : Fn := { npar := 1, nloc := 2, pure := true, body := [.ret (.bm .join (.const (.str [32])) [(.bin .add (.list false [(.sub (.var 0) (.const (.int 0)))]) (.comp false 1 (.bi .str [(.var 1)]) (.of (.slice false (.var 0) (.const (.int 1)) (.const .none))) []))])] }
/-- number_of(word): 0 word, 1 sign -/
def fn1 : Fn := { npar := 1, nloc := 2, pure := true, body := [.ite (.or [(.not (.t (.cmp2 .le .le (.const (.int 1)) (.bi .len [(.var 0)]) (.glob 1 (.int 6))))), (.and [(.t (.cmp .eq (.sub (.var 0) (.const (.int 0))) (.const (.str [48])))), (.t (.cmp .ne (.var 0) (.const (.str [48]))))])]) [.raise 1 [110, 111, 32, 110, 117, 109, 98, 101, 114]] [],
      .for1 1 (.of (.var 0)) [.ite (.t (.cmp .notIn (.var 1) (.glob 0 (.str [48, 49, 50, 51, 52, 53, 54, 55, 56, 57])))) [.raise 1 [110, 111, 32, 110, 117, 109, 98, 101, 114]] []],
      .ret (.bi .int [(.var 0)])] }
/-- read_row(line): 0 line, 1 words, 2 *word -/
def fn2 : Fn := { npar := 1, nloc := 3, pure := true, body := [.assign 1 (.bm .split (.var 0) [(.const (.str [32]))]),
      .ite (.or [(.t (.inTab true 0 (.sub (.var 1) (.const (.int 0))))), (.t (.cmp .ne (.bi .len [(.var 1)]) (.bin .add (.bi .len [(.subTab 0 (.sub (.var 1) (.const (.int 0))))]) (.const (.int 1)))))]) [.raise 1 [110, 111, 32, 114, 111, 119]] [],
      .ret (.bi .tuple [(.bin .add (.list false [(.sub (.var 1) (.const (.int 0)))]) (.comp false 2 (.call 1 [(.var 2)]) (.of (.slice false (.var 1) (.const (.int 1)) (.const .none))) []))])] }
/-- _law_cell_at(_law_script, _law_k): 0 _law_script, 1 _law_k -/
def fn3 : Fn := { npar := 2, nloc := 2, pure := true, body := [.ite (.t (.cmp .lt (.var 1) (.bi .len [(.var 0)]))) [.ret (.sub (.var 0) (.var 1))] [],
      .ret (.const (.int 0))] }
/-- _law_whole(_law_found): 0 _law_found -/
def fn4 : Fn := { npar := 1, nloc := 1, pure := true, body := [.ret (.and [(.isinst (.var 0) .int), (.not (.isinst (.var 0) .bool))])] }
/-- _law_mixed(_law_cell): 0 _law_cell -/
def fn5 : Fn := { npar := 1, nloc := 1, pure := true, body := [.ret (.bin .mod (.bin .mul (.var 0) (.const (.int 48271))) (.const (.int 2147483647)))] }
/-- _law_number_by(_law_cell): 0 _law_cell -/
def fn6 : Fn := { npar := 1, nloc := 1, pure := true, body := [.ret (.sub (.list false [(.bin .mod (.bin .div (.var 0) (.const (.int 4))) (.const (.int 10))), (.bin .sub (.const (.int 999999)) (.bin .mod (.bin .div (.var 0) (.const (.int 4))) (.const (.int 3)))), (.bin .mod (.bin .div (.var 0) (.const (.int 4))) (.const (.int 1000000))), (.bin .mod (.call 5 [(.var 0)]) (.const (.int 1000000)))]) (.bin .mod (.var 0) (.const (.int 4))))] }
/-- law(_law_script): 0 _law_script, 1 _law_word, 2 _law_many, 3 _law_numbers, 4 _law_row, 5 _law_text, 6 _law_found, 7 _law_k, 8 *_law_k, 9 *_law_number -/
def fn7 : Fn := { npar := 1, nloc := 10, pure := true, body := [.assign 1 (.sub (.list false [(.const (.str [115, 101, 116])), (.const (.str [99, 111, 112, 121])), (.const (.str [97, 100, 100])), (.const (.str [115, 117, 98])), (.const (.str [102, 101, 116, 99, 104])), (.const (.str [115, 116, 111, 114, 101])), (.const (.str [108, 101, 115, 115])), (.const (.str [106, 117, 109, 112])), (.const (.str [116, 101, 108, 108]))]) (.bin .mod (.call 3 [(.var 0), (.const (.int 0))]) (.const (.int 9)))),
      .assign 2 (.sub (.list false [(.const (.int 2)), (.const (.int 2)), (.const (.int 3)), (.const (.int 3)), (.const (.int 2)), (.const (.int 2)), (.const (.int 3)), (.const (.int 1)), (.const (.int 1))]) (.bin .mod (.call 3 [(.var 0), (.const (.int 0))]) (.const (.int 9)))),
      .assign 3 (.comp false 8 (.call 6 [(.call 3 [(.var 0), (.bin .add (.const (.int 1)) (.var 8))])]) (.range1 (.var 2)) []),
      .assign 4 (.bin .add (.tuple [(.var 1)]) (.bi .tuple [(.var 3)])),
      .assign 5 (.call 0 [(.var 4)]),
      .ite (.or [(.not (.t (.isinst (.var 5) .str))), (.t (.cmp .ne (.var 5) (.bm .join (.const (.str [32])) [(.bin .add (.list false [(.var 1)]) (.comp false 9 (.bi .str [(.var 9)]) (.of (.var 3)) []))])))]) [.ret (.const (.bool false))] [],
      .assign 6 (.call 2 [(.var 5)]),
      .ite (.or [(.not (.t (.isinst (.var 6) .tuple))), (.t (.cmp .ne (.bi .len [(.var 6)]) (.bin .add (.const (.int 1)) (.var 2)))), (.not (.t (.isinst (.sub (.var 6) (.const (.int 0))) .str))), (.t (.cmp .ne (.sub (.var 6) (.const (.int 0))) (.var 1)))]) [.ret (.const (.bool false))] [],
      .for1 7 (.range1 (.var 2)) [.ite (.or [(.not (.t (.call 4 [(.sub (.var 6) (.bin .add (.const (.int 1)) (.var 7)))]))), (.t (.cmp .ne (.sub (.var 6) (.bin .add (.const (.int 1)) (.var 7))) (.sub (.var 3) (.var 7))))]) [.ret (.const (.bool false))] []],
      .ret (.const (.bool true))] }
def prog : Prog := { fns := [fn0, fn1, fn2, fn3, fn4, fn5, fn6, fn7], tabs := [[([115, 101, 116], [98, 110]), ([99, 111, 112, 121], [98, 98]), ([97, 100, 100], [98, 98, 98]), ([115, 117, 98], [98, 98, 98]), ([102, 101, 116, 99, 104], [98, 98]), ([115, 116, 111, 114, 101], [98, 98]), ([108, 101, 115, 115], [98, 98, 112]), ([106, 117, 109, 112], [112]), ([116, 101, 108, 108], [98])]] }
def lawId : Nat := 7

theorem call_of {P : Prog} {d : Nat} {q : Bool} {f : Nat} {vs : List V} {F : Fn} {v : V} {ρ : Rho} {h : H} (hf : P.fns[f]? = some F) (hn : vs.length = F.npar) (hr : v.refUnder h.length = true)
    (e : evSs P (callN P d) q F.body (vs.map some ++ List.replicate (F.nloc - F.npar) none) h = .ret v ρ h) : callN P (d + 1) q f vs h = .ok v h := by
  rw [callN, hf]
  show (if vs.length = F.npar then _ else _) = _
  rw [if_pos hn, e]
  show fin F.pure h (.ok v h) = _
  unfold fin
  split
  · dsimp only; rw [if_pos ⟨List.take_length, hr⟩]
  · rfl

def cellAt (xs : List Int) (k : Nat) : Int := xs.getD k 0
theorem c3 (xs : List Int) (hx : xs.length ≤ 63) (k : Int) (hk : 0 ≤ k) (hk' : k < 1000) (d : Nat) (h : H) : callN prog (d + 1) true 3 [.lst (xs.map .int), .int k] h = .ok (.int (cellAt xs k.toNat)) h := by
  refine call_of (F := fn3) (ρ := [some (.lst (xs.map .int)), some (.int k)]) rfl rfl rfl ?_
  simp only [fn3, evSs, evS, evC, evE, evEs, R.bind, RS.of, biV, lenV, seqOf, listOf, List.map_cons, List.map_nil, List.cons_append, List.nil_append, List.getElem?_cons_zero, List.getElem?_cons_succ, Nat.sub_self, List.replicate_zero, List.append_nil, Option.map_some, List.length_map, cmpV, truth]
  rw [if_pos (by omega)]
  simp only [cmpV, truth]
  by_cases hlt : k < xs.length
  · simp only [hlt, decide_true, evSs, evS, evE, R.bind, RS.of, getItem, okIdx, if_true]
    have : k.toNat < xs.length := by omega
    have h1 : k < 1000000 := by omega
    simp [hk, h1, this, cellAt, List.getD]
  · simp only [hlt, decide_false, evSs, evS, evE, RS.of, Bool.false_eq_true, if_false]
    have : xs[k.toNat]? = none := List.getElem?_eq_none (by omega)
    simp [cellAt, List.getD, this]

theorem c4 (i : Int) (d : Nat) : callN prog (d + 1) true 4 [.int i] [] = .ok (.bool true) [] :=
  call_of (F := fn4) (ρ := [some (.int i)]) rfl rfl rfl rfl
theorem c5 (i : Int) (d : Nat) (h : H) : callN prog (d + 1) true 5 [.int i] h = .ok (.int ((i * 48271).fmod 2147483647)) h := by
  refine call_of (F := fn5) (ρ := [some (.int i)]) rfl rfl rfl ?_
  simp [fn5, evSs, evS, evE, R.bind, RS.of, binV, deref, okInt]

def numBy (i : Int) : Int :=
  let r := i.fmod 4
  if r = 0 then (i.fdiv 4).fmod 10 else if r = 1 then 999999 - (i.fdiv 4).fmod 3 else if r = 2 then (i.fdiv 4).fmod 1000000 else ((i * 48271).fmod 2147483647).fmod 1000000
theorem numBy_lt (i : Int) : 0 ≤ numBy i ∧ numBy i < 1000000 := by
  have h1 := Int.fmod_nonneg_of_pos (i.fdiv 4) (show (0:Int) < 10 by decide)
  have h2 := Int.fmod_lt_of_pos (i.fdiv 4) (show (0:Int) < 10 by decide)
  have h3 := Int.fmod_nonneg_of_pos (i.fdiv 4) (show (0:Int) < 3 by decide)
  have h4 := Int.fmod_lt_of_pos (i.fdiv 4) (show (0:Int) < 3 by decide)
  have h5 := Int.fmod_nonneg_of_pos (i.fdiv 4) (show (0:Int) < 1000000 by decide)
  have h6 := Int.fmod_lt_of_pos (i.fdiv 4) (show (0:Int) < 1000000 by decide)
  have h7 := Int.fmod_nonneg_of_pos ((i * 48271).fmod 2147483647) (show (0:Int) < 1000000 by decide)
  have h8 := Int.fmod_lt_of_pos ((i * 48271).fmod 2147483647) (show (0:Int) < 1000000 by decide)
  unfold numBy
  dsimp only
  split
  · omega
  · split
    · omega
    · split <;> omega
theorem c6 (i : Int) (d : Nat) (h₀ : H) : callN prog (d + 2) true 6 [.int i] h₀ = .ok (.int (numBy i)) h₀ := by
  refine call_of (F := fn6) (ρ := [some (.int i)]) rfl rfl rfl ?_
  have h1 := Int.fmod_nonneg_of_pos i (show (0:Int) < 4 by decide)
  have h2 := Int.fmod_lt_of_pos i (show (0:Int) < 4 by decide)
  have hc : i.fmod 4 = 0 ∨ i.fmod 4 = 1 ∨ i.fmod 4 = 2 ∨ i.fmod 4 = 3 := by omega
  rcases hc with h | h | h | h <;> simp [fn6, ev_var, ev_const, ev_glob, ev_bin, ev_not, ev_and, ev_cmp, ev_cmp2, ev_call, ev_bi, ev_bm, ev_isinst, ev_sub, ev_slice, ev_list, ev_tuple, ev_inTab, ev_subTab, es_n, es_c, and_1, and_2, c_t, c_n, c_a, c_o, ca_n, ca_c, co_n, co_c, if_n, if_c, it_of, s_assign, s_ret, s_ite, ss_n, ss_c, bind_ok, of_ok, bV_add, bV_sub, bV_div, bV_mod, bV_tup, bV_lst, mkL_f, gI_lst, gI_tup, gI_str, cV_lt, cV_le, cV_eqI, cV_neI, cV_eqS, cV_neS, tr_b, c5, h, numBy, okIdx]

theorem numbers_in {is : List Int} (hi : ∀ i ∈ is, 0 ≤ i ∧ i < 1000000) {v : V} (hv : v ∈ is.map V.int) : ∃ i, v = .int i ∧ 0 ≤ i ∧ i < 1000000 := by
  obtain ⟨i, h, rfl⟩ := List.mem_map.mp hv
  exact ⟨i, rfl, hi i h⟩
/-- a row's text -/
def wordsOf (w : List Nat) (is : List Int) : List (List Nat) := w :: is.map fun i => digitsOf i.toNat
def textOf (w : List Nat) (is : List Int) : List Nat := joinL [32] (wordsOf w is)
theorem joinL_len : ∀ (ws : List (List Nat)), (∀ w ∈ ws, w.length ≤ 10) → (joinL [32] ws).length ≤ 11 * ws.length
  | [], _ => by simp [joinL]
  | [x], h => by have := h x (by simp); simp [joinL]; omega
  | x :: y :: r, h => by
    have h1 := h x (by simp)
    have h2 := joinL_len (y :: r) fun w hw => h w (List.mem_cons_of_mem _ hw)
    simp only [joinL, List.length_append, List.length_cons, List.length_nil] at *
    omega
theorem words_len {w : List Nat} {is : List Int} (hw : w.length ≤ 10) (hi : ∀ i ∈ is, 0 ≤ i ∧ i < 1000000) : ∀ x ∈ wordsOf w is, x.length ≤ 10 := by
  intro x hx
  rcases List.mem_cons.mp hx with rfl | hx
  · exact hw
  · obtain ⟨i, h, rfl⟩ := List.mem_map.mp hx
    have := hi i h
    have := digits_len 5 i.toNat (by omega)
    omega
def strOf : V → V
  | .int i => .str (digitsOf i.toNat)
  | v => v
theorem strs_of (w : List Nat) (is : List Int) : (V.str w :: (is.map V.int).map strOf) = (wordsOf w is).map V.str := by
  simp [wordsOf, strOf, Function.comp_def]
theorem text_ok {w : List Nat} {is : List Int} (hw : w.length ≤ 10) (hi : ∀ i ∈ is, 0 ≤ i ∧ i < 1000000) (hn : is.length ≤ 10) : (textOf w is).length ≤ 100000 := by
  have := joinL_len _ (words_len hw hi)
  simp only [wordsOf, List.length_cons, List.length_map] at this
  unfold textOf wordsOf; omega
theorem bm_join {w : List Nat} {is : List Int} {h : H} (hw : w.length ≤ 10) (hi : ∀ i ∈ is, 0 ≤ i ∧ i < 1000000) (hn : is.length ≤ 10) : bmV .join h (.str [32]) [.lst (V.str w :: (is.map V.int).map strOf)] = .ok (.str (textOf w is)) h := by
  rw [strs_of]
  show (match (some ((wordsOf w is).map V.str)).bind strsV with | some ws => if (joinL [32] ws).length ≤ 100000 ∧ [32].length ≤ 100000 then R.ok (V.str (joinL [32] ws)) h else .fail | none => .fail) = _
  rw [Option.bind_some, strsV_map]
  exact if_pos ⟨text_ok hw hi hn, by simp⟩
theorem sl_tup {h : H} {mu : Bool} {xs : List V} {k : Int} : sliceV mu h (.tup xs) (.int k) .none = if 1 ≤ k ∧ k.toNat ≤ xs.length ∧ xs.length ≤ 100000 then .ok (.tup (xs.drop k.toNat)) h else .fail := (rfl)
theorem str_i {h : H} {i : Int} : biV .str h [.int i] = if decide (0 ≤ i) && decide (i < 10 ^ 9) then .ok (.str (digitsOf i.toNat)) h else .fail := (rfl)

theorem str_elt {h : H} {i : Int} {r : Rho} {x : Nat} {q : Bool} {call : Nat → List V → H → R V} (h1 : 0 ≤ i) (h2 : i < 1000000) (hx : x < r.length) : evE prog q call (.bi .str [(.var x)]) (r.set x (some (.int i))) h = .ok (strOf (.int i)) h := by
  have h3 : i < 1000000000 := by omega
  simp [ev_var, ev_const, ev_glob, ev_bin, ev_not, ev_and, ev_cmp, ev_cmp2, ev_call, ev_bi, ev_bm, ev_isinst, ev_sub, ev_slice, ev_list, ev_tuple, ev_inTab, ev_subTab, es_n, es_c, and_1, and_2, c_t, c_n, c_a, c_o, ca_n, ca_c, co_n, co_c, if_n, if_c, it_of, s_assign, s_ret, s_ite, ss_n, ss_c, bind_ok, of_ok, bV_add, bV_sub, bV_div, bV_mod, bV_tup, bV_lst, mkL_f, gI_lst, gI_tup, gI_str, cV_lt, cV_le, cV_eqI, cV_neI, cV_eqS, cV_neS, tr_b, str_i, h1, h3, strOf, hx]

theorem strs_under (n : Nat) : ∀ is : List Int, V.refsUnder n ((is.map V.int).map strOf) = true
  | [] => rfl
  | i :: is => by rw [List.map_cons, List.map_cons, V.refsUnder, strs_under n is]; rfl
theorem c0 (w : List Nat) (is : List Int) (hw : w.length ≤ 10) (hi : ∀ i ∈ is, 0 ≤ i ∧ i < 1000000) (hn : is.length ≤ 10) (d : Nat) : callN prog (d + 1) true 0 [.tup (.str w :: is.map .int)] [] = .ok (.str (textOf w is)) [] := by
  refine call_of (F := fn0) (ρ := [some (.tup (.str w :: is.map .int)), none]) rfl rfl rfl ?_
  have hl : is.length ≤ 100000 := by omega
  have hl2 : is.length + 1 ≤ 100000 := by omega
  have hl4 : 1 + is.length ≤ 100000 := by omega
  have hl3 : (1 : Int) ≤ (is.length : Int) + 1 := by omega
  have hc := ev_comp (P := prog) (call := callN prog d true) (r := [some (V.tup (V.str w :: is.map V.int)), none]) (h := []) (x := 1) (elt := .bi .str [(.var 1)]) (it := .of (.slice false (.var 0) (.const (.int 1)) (.const .none))) (ifs := [])
    (v := .tup (is.map V.int)) (h₁ := []) (xs := is.map V.int) (live := none) (f := strOf)
    (by simp [ev_var, ev_const, ev_glob, ev_bin, ev_not, ev_and, ev_cmp, ev_cmp2, ev_call, ev_bi, ev_bm, ev_isinst, ev_sub, ev_slice, ev_list, ev_tuple, ev_inTab, ev_subTab, es_n, es_c, and_1, and_2, c_t, c_n, c_a, c_o, ca_n, ca_c, co_n, co_c, if_n, if_c, it_of, s_assign, s_ret, s_ite, ss_n, ss_c, bind_ok, of_ok, bV_add, bV_sub, bV_div, bV_mod, bV_tup, bV_lst, mkL_f, gI_lst, gI_tup, gI_str, cV_lt, cV_le, cV_eqI, cV_neI, cV_eqS, cV_neS, tr_b, sl_tup, hl, hl2, hl3]) rfl (by simpa using hl) (fun _ => rfl) (fun y hy h => ⟨if_n, by
      obtain ⟨i, rfl, h1, h2⟩ := numbers_in hi hy
      exact str_elt h1 h2 (by simp)⟩) (strs_under _ _)
  simp [fn0, ev_var, ev_const, ev_glob, ev_bin, ev_not, ev_and, ev_cmp, ev_cmp2, ev_call, ev_bi, ev_bm, ev_isinst, ev_sub, ev_slice, ev_list, ev_tuple, ev_inTab, ev_subTab, es_n, es_c, and_1, and_2, c_t, c_n, c_a, c_o, ca_n, ca_c, co_n, co_c, if_n, if_c, it_of, s_assign, s_ret, s_ite, ss_n, ss_c, bind_ok, of_ok, bV_add, bV_sub, bV_div, bV_mod, bV_tup, bV_lst, mkL_f, gI_lst, gI_tup, gI_str, cV_lt, cV_le, cV_eqI, cV_neI, cV_eqS, cV_neS, tr_b, isS, okIdx, hl, hl2, hl4, hc, bm_join hw hi hn, -List.map_map]

theorem len_s {h : H} {s : List Nat} : biV .len h [.str s] = if s.length ≤ 100000 then .ok (.int s.length) h else .fail := (rfl)
theorem int_s {h : H} {s : List Nat} : biV .int h [.str s] = if s.all isDigit && decide (1 ≤ s.length) && decide (s.length ≤ 18) then .ok (.int (readNat s)) h else .fail := (rfl)
theorem in_s {h : H} {s : List Nat} {c : Nat} : cmpV .notIn h (.str [c]) (.str s) = some (!s.contains c) := (rfl)

theorem for_keep {still : H → Bool} {step : V → Rho → H → RS} {h : H} {I : Rho → Prop} (hs : still h = true) : ∀ (xs : List V) (r : Rho), I r → (∀ v ∈ xs, ∀ r, I r → ∃ r', step v r h = .next r' h ∧ I r') → ∃ r', forLoop still step xs r h = .next r' h ∧ I r'
  | [], r, hI, _ => ⟨r, by rw [forLoop, if_pos hs], hI⟩
  | v :: vs, r, hI, e => by
    obtain ⟨r', e1, h1⟩ := e v List.mem_cons_self r hI
    obtain ⟨r'', e2, h2⟩ := for_keep hs vs r' h1 fun w hw => e w (List.mem_cons_of_mem _ hw)
    exact ⟨r'', by rw [forLoop, if_pos hs, e1]; exact e2, h2⟩

theorem c1 (n : Nat) (hn : n < 1000000) (d : Nat) (h : H) : callN prog (d + 1) true 1 [.str (digitsOf n)] h = .ok (.int n) h := by
  have hl := digits_len 5 n (by omega)
  have hp := digits_pos n
  have ha := digits_all n
  obtain ⟨c, t, e⟩ : ∃ c t, digitsOf n = c :: t := by cases hdd : digitsOf n with | nil => rw [hdd] at hp; simp at hp | cons c t => exact ⟨c, t, rfl⟩
  have hz : (c == 48 && !(c :: t == [48])) = false := by
    by_cases h0 : n = 0
    · subst h0; rw [digitsOf_step] at e; cases e; rfl
    · obtain ⟨c', t', e', hc'⟩ := digits_head n (by omega)
      rw [e] at e'; cases e'
      simp [hc']
  have hfor : ∃ r', forLoop (fun x => still x none) (fun v r h => evSs prog (callN prog d) true [.ite (.t (.cmp .notIn (.var 1) (.glob 0 (.str [48, 49, 50, 51, 52, 53, 54, 55, 56, 57])))) [.raise 1 [110, 111, 32, 110, 117, 109, 98, 101, 114]] []] (r.set 1 (some v)) h) ((digitsOf n).map fun c => V.str [c]) [some (.str (digitsOf n)), none] h = .next r' h ∧ (r'[0]? = some (some (.str (digitsOf n))) ∧ r'.length = 2) := by
    refine for_keep rfl _ _ ⟨rfl, rfl⟩ fun v hv r hr => ?_
    obtain ⟨c, hc, rfl⟩ := List.mem_map.mp hv
    have := ha c hc
    have hin : [48, 49, 50, 51, 52, 53, 54, 55, 56, 57].contains c = true := by
      have : c = 48 ∨ c = 49 ∨ c = 50 ∨ c = 51 ∨ c = 52 ∨ c = 53 ∨ c = 54 ∨ c = 55 ∨ c = 56 ∨ c = 57 := by omega
      rcases this with rfl | rfl | rfl | rfl | rfl | rfl | rfl | rfl | rfl | rfl <;> rfl
    refine ⟨r.set 1 (some (.str [c])), ?_, by simp [hr.1], by simp [hr.2]⟩
    have h1 : 1 < r.length := by omega
    simp only [ev_var, ev_const, ev_glob, ev_bin, ev_not, ev_and, ev_cmp, ev_cmp2, ev_call, ev_bi, ev_bm, ev_isinst, ev_sub, ev_slice, ev_list, ev_tuple, ev_inTab, ev_subTab, es_n, es_c, and_1, and_2, c_t, c_n, c_a, c_o, ca_n, ca_c, co_n, co_c, if_n, if_c, it_of, s_assign, s_ret, s_ite, ss_n, ss_c, bind_ok, of_ok, bV_add, bV_sub, bV_div, bV_mod, bV_tup, bV_lst, mkL_f, gI_lst, gI_tup, gI_str, cV_lt, cV_le, cV_eqI, cV_neI, cV_eqS, cV_neS, tr_b, in_s, hin, List.getElem?_set_self h1, Bool.not_true, Bool.false_eq_true, if_false]
  obtain ⟨r', hf, hr0, hr1⟩ := hfor
  refine call_of (F := fn1) (ρ := r') rfl rfl rfl ?_
  have hfs := s_for1 (P := prog) (cl := callN prog d) (r := [some (.str (digitsOf n)), none]) (h := h) (x := 1) (it := .of (.var 0)) (body := [.ite (.t (.cmp .notIn (.var 1) (.glob 0 (.str [48, 49, 50, 51, 52, 53, 54, 55, 56, 57])))) [.raise 1 [110, 111, 32, 110, 117, 109, 98, 101, 114]] []])
    (v := .str (digitsOf n)) (h₁ := h) (xs := (digitsOf n).map fun c => V.str [c]) (live := none) (by simp [ev_var, ev_const, ev_glob, ev_bin, ev_not, ev_and, ev_cmp, ev_cmp2, ev_call, ev_bi, ev_bm, ev_isinst, ev_sub, ev_slice, ev_list, ev_tuple, ev_inTab, ev_subTab, es_n, es_c, and_1, and_2, c_t, c_n, c_a, c_o, ca_n, ca_c, co_n, co_c, if_n, if_c, it_of, s_assign, s_ret, s_ite, ss_n, ss_c, bind_ok, of_ok, bV_add, bV_sub, bV_div, bV_mod, bV_tup, bV_lst, mkL_f, gI_lst, gI_tup, gI_str, cV_lt, cV_le, cV_eqI, cV_neI, cV_eqS, cV_neS, tr_b]) rfl (by simp; omega)
  rw [hf] at hfs
  have hl1 : (digitsOf n).length ≤ 100000 := by omega
  have hl2 : (1 : Int) ≤ ((digitsOf n).length : Int) := by omega
  have hl3 : ((digitsOf n).length : Int) ≤ 6 := by omega
  have hl4 : (digitsOf n).length ≤ 18 := by omega
  have hall : (digitsOf n).all isDigit = true := by
    rw [List.all_eq_true]; intro c hc
    have := ha c hc
    simp [isDigit, this]
  have hg : charOf (digitsOf n) 0 = some (.str [c]) := by rw [e]; rfl
  have hcond : evC prog true (callN prog d true) (.or [(.not (.t (.cmp2 .le .le (.const (.int 1)) (.bi .len [(.var 0)]) (.glob 1 (.int 6))))), (.and [(.t (.cmp .eq (.sub (.var 0) (.const (.int 0))) (.const (.str [48])))), (.t (.cmp .ne (.var 0) (.const (.str [48]))))])]) [some (.str (digitsOf n)), none] h = .ok false h := by
    rw [← e] at hz
    have hk : (([c] : List Nat) == [48]) = (c == 48) := by simp
    simp only [ev_var, ev_const, ev_glob, ev_bin, ev_not, ev_and, ev_cmp, ev_cmp2, ev_call, ev_bi, ev_bm, ev_isinst, ev_sub, ev_slice, ev_list, ev_tuple, ev_inTab, ev_subTab, es_n, es_c, and_1, and_2, c_t, c_n, c_a, c_o, ca_n, ca_c, co_n, co_c, if_n, if_c, it_of, s_assign, s_ret, s_ite, ss_n, ss_c, bind_ok, of_ok, bV_add, bV_sub, bV_div, bV_mod, bV_tup, bV_lst, mkL_f, gI_lst, gI_tup, gI_str, cV_lt, cV_le, cV_eqI, cV_neI, cV_eqS, cV_neS, tr_b, len_s, okIdx, hl1, hl2, hl3, hg, List.getElem?_cons_zero, decide_true, if_true, Bool.not_true, Bool.false_eq_true, if_false, hk, Int.toNat_zero, Int.le_refl, show ((0 : Int) < 1000000) = True from by simp, Bool.and_self]
    cases h48 : (c == 48) with
    | false => rfl
    | true => rw [h48] at hz; simp only [Bool.true_and] at hz; simp only [if_true, hz]; rfl
  show evSs prog (callN prog d) true fn1.body [some (.str (digitsOf n)), none] h = _
  have hs0 : evS prog (callN prog d) true (.ite (.or [(.not (.t (.cmp2 .le .le (.const (.int 1)) (.bi .len [(.var 0)]) (.glob 1 (.int 6))))), (.and [(.t (.cmp .eq (.sub (.var 0) (.const (.int 0))) (.const (.str [48])))), (.t (.cmp .ne (.var 0) (.const (.str [48]))))])]) [.raise 1 [110, 111, 32, 110, 117, 109, 98, 101, 114]] []) [some (.str (digitsOf n)), none] h = .next [some (.str (digitsOf n)), none] h := by
    rw [s_ite, hcond, of_ok, ss_n]; rfl
  unfold fn1
  rw [ss_next hs0, ss_next hfs]
  simp only [ev_var, ev_const, ev_glob, ev_bin, ev_not, ev_and, ev_cmp, ev_cmp2, ev_call, ev_bi, ev_bm, ev_isinst, ev_sub, ev_slice, ev_list, ev_tuple, ev_inTab, ev_subTab, es_n, es_c, and_1, and_2, c_t, c_n, c_a, c_o, ca_n, ca_c, co_n, co_c, if_n, if_c, it_of, s_assign, s_ret, s_ite, ss_n, ss_c, bind_ok, of_ok, bV_add, bV_sub, bV_div, bV_mod, bV_tup, bV_lst, mkL_f, gI_lst, gI_tup, gI_str, cV_lt, cV_le, cV_eqI, cV_neI, cV_eqS, cV_neS, tr_b, hr0, int_s, hall, hp, hl4, digits_read, decide_true, Bool.and_self, if_true]

theorem c1' (i : Int) (h1 : 0 ≤ i) (h2 : i < 1000000) (d : Nat) (h : H) : callN prog (d + 1) true 1 [.str (digitsOf i.toNat)] h = .ok (.int i) h := by
  rw [c1 i.toNat (by omega)]
  congr 2; omega

theorem okIdx_of {k : Int} (h0 : 0 ≤ k) (h1 : k < 1000000) : okIdx k = true := by
  unfold okIdx; rw [Bool.and_eq_true, decide_eq_true_eq, decide_eq_true_eq]; exact ⟨h0, h1⟩
theorem okR_of {k : Int} (h0 : -1000000000000 ≤ k) (h1 : k < 1000000000000) : okR k = true := by
  unfold okR; rw [Bool.and_eq_true, decide_eq_true_eq, decide_eq_true_eq]; exact ⟨h0, h1⟩
theorem okInt_of {k : Int} (h0 : -1000000000000 ≤ k) (h1 : k < 1000000000000) : okInt k = true := by
  unfold okInt; rw [Bool.and_eq_true, decide_eq_true_eq, decide_eq_true_eq]; omega
def words : List (List Nat) := [[115, 101, 116], [99, 111, 112, 121], [97, 100, 100], [115, 117, 98], [102, 101, 116, 99, 104], [115, 116, 111, 114, 101], [108, 101, 115, 115], [106, 117, 109, 112], [116, 101, 108, 108]]
def manies : List Nat := [2, 2, 3, 3, 2, 2, 3, 1, 1]
/-- a word and how many numbers it has -/
def WM (w : List Nat) (m : Nat) : Prop := ∃ k, k < 9 ∧ words[k]? = some w ∧ manies[k]? = some m
theorem WM.cases {w : List Nat} {m : Nat} (x : WM w m) : w.length ≤ 10 ∧ (∀ c ∈ w, c ≠ 32) ∧ m ≤ 3 ∧ ∃ tb f, prog.tabs[0]? = some tb ∧ (tb.any fun p => p.1 == w) = true ∧ (tb.find? fun p => p.1 == w) = some (w, f) ∧ f.length = m := by
  obtain ⟨k, hk, h1, h2⟩ := x
  match k, hk with
  | 0, _ | 1, _ | 2, _ | 3, _ | 4, _ | 5, _ | 6, _ | 7, _ | 8, _ => cases h1; cases h2; exact ⟨by decide, by decide, by decide, _, _, rfl, rfl, rfl, rfl⟩

theorem sl_lst {h : H} {xs : List V} {k : Int} (hx : xs.length ≤ 100000) (hk : 0 ≤ k) : sliceV false h (.lst xs) (.int k) .none = .ok (.lst (xs.drop (min k.toNat xs.length))) h := by
  show (if xs.length ≤ 100000 then mkList false (sliceL xs (if k < 0 then _ else min k.toNat xs.length) xs.length) h else R.fail) = _
  rw [if_pos hx, if_neg (by omega), mkL_f]
  congr 2
  unfold sliceL
  rw [List.take_of_length_le (by simp)]
theorem split_s {h : H} {s : List Nat} {c : Nat} : bmV .split h (.str s) [.str [c]] = if s.length ≤ 100000 then .ok (.lst ((splitL c s).map .str)) h else .fail := (rfl)
theorem len_l {h : H} {xs : List V} : biV .len h [.lst xs] = if xs.length ≤ 100000 then .ok (.int xs.length) h else .fail := (rfl)
theorem len_t {h : H} {xs : List V} : biV .len h [.tup xs] = if xs.length ≤ 100000 then .ok (.int xs.length) h else .fail := (rfl)
theorem tup_l {h : H} {xs : List V} : biV .tuple h [.lst xs] = if xs.length ≤ 100000 then .ok (.tup xs) h else .fail := (rfl)
def readOf : V → V
  | .str s => .int (readNat s)
  | v => v
theorem read_all {is : List Int} (hi : ∀ i ∈ is, 0 ≤ i ∧ i < 1000000) : ((is.map fun i => digitsOf i.toNat).map V.str).map readOf = is.map V.int := by
  rw [List.map_map, List.map_map]
  refine List.map_congr_left fun i hm => ?_
  have := hi i hm
  simp only [Function.comp, readOf, digits_read]
  congr 1; omega
theorem ints_under (n : Nat) : ∀ is : List Int, V.refsUnder n (is.map V.int) = true
  | [] => rfl
  | i :: is => by rw [List.map_cons, V.refsUnder, ints_under n is]; rfl

theorem c2 (w : List Nat) (m : Nat) (hw : WM w m) (is : List Int) (hm : is.length = m) (hi : ∀ i ∈ is, 0 ≤ i ∧ i < 1000000) (d : Nat) : callN prog (d + 2) true 2 [.str (textOf w is)] [] = .ok (.tup (.str w :: is.map .int)) [] := by
  obtain ⟨hwl, hw32, hm3, tb, f, htb, hany, hfind, hf⟩ := hw.cases
  have hsp : splitL 32 (textOf w is) = wordsOf w is := by
    unfold textOf wordsOf
    refine split_join _ _ fun x hx c hc => ?_
    rcases List.mem_cons.mp hx with rfl | hx
    · exact hw32 c hc
    · obtain ⟨i, _, rfl⟩ := List.mem_map.mp hx
      have := digits_all _ c hc
      omega
  have htl := text_ok hwl hi (by omega)
  refine call_of (F := fn2) (ρ := [some (.str (textOf w is)), some (.lst ((wordsOf w is).map .str)), none]) rfl rfl (by rw [V.refUnder, V.refsUnder, ints_under]; rfl) ?_
  have hl : is.length ≤ 100000 := by omega
  have hl2 : is.length + 1 ≤ 100000 := by omega
  have hl4 : 1 + is.length ≤ 100000 := by omega
  have hfl : f.length ≤ 100000 := by omega
  have hfi : f.length = is.length := by omega
  have hc := ev_comp (P := prog) (call := callN prog (d + 1) true) (r := [some (.str (textOf w is)), some (.lst ((wordsOf w is).map .str)), none]) (h := []) (x := 2) (elt := .call 1 [(.var 2)]) (it := .of (.slice false (.var 1) (.const (.int 1)) (.const .none))) (ifs := [])
    (v := .lst ((is.map fun i => digitsOf i.toNat).map V.str)) (h₁ := []) (xs := (is.map fun i => digitsOf i.toNat).map V.str) (live := none) (f := readOf)
    (by
      simp only [ev_var, ev_const, ev_glob, ev_bin, ev_not, ev_and, ev_cmp, ev_cmp2, ev_call, ev_bi, ev_bm, ev_isinst, ev_sub, ev_slice, ev_list, ev_tuple, ev_inTab, ev_subTab, es_n, es_c, and_1, and_2, c_t, c_n, c_a, c_o, ca_n, ca_c, co_n, co_c, if_n, if_c, it_of, s_assign, s_ret, s_ite, ss_n, ss_c, bind_ok, of_ok, bV_add, bV_sub, bV_div, bV_mod, bV_tup, bV_lst, mkL_f, gI_lst, gI_tup, gI_str, cV_lt, cV_le, cV_eqI, cV_neI, cV_eqS, cV_neS, tr_b, List.getElem?_cons_succ, List.getElem?_cons_zero]
      rw [sl_lst (by simp [wordsOf]; omega) (by decide)]
      simp [wordsOf]) rfl (by simpa using hl) (fun _ => rfl) (fun y hy h => ⟨if_n, by
      obtain ⟨s, hs, rfl⟩ := List.mem_map.mp hy
      obtain ⟨i, hs', rfl⟩ := List.mem_map.mp hs
      have := hi i hs'
      simp only [ev_var, ev_const, ev_glob, ev_bin, ev_not, ev_and, ev_cmp, ev_cmp2, ev_call, ev_bi, ev_bm, ev_isinst, ev_sub, ev_slice, ev_list, ev_tuple, ev_inTab, ev_subTab, es_n, es_c, and_1, and_2, c_t, c_n, c_a, c_o, ca_n, ca_c, co_n, co_c, if_n, if_c, it_of, s_assign, s_ret, s_ite, ss_n, ss_c, bind_ok, of_ok, bV_add, bV_sub, bV_div, bV_mod, bV_tup, bV_lst, mkL_f, gI_lst, gI_tup, gI_str, cV_lt, cV_le, cV_eqI, cV_neI, cV_eqS, cV_neS, tr_b, List.set_cons_succ, List.set_cons_zero, List.getElem?_cons_succ, List.getElem?_cons_zero, c1' i this.1 this.2, readOf, digits_read]
      congr 2; omega⟩) (by rw [read_all hi]; exact ints_under _ _)
  rw [read_all hi] at hc
  have hget : ((wordsOf w is).map V.str)[0]? = some (.str w) := rfl
  have hwn : ((wordsOf w is).map V.str).length = is.length + 1 := by simp [wordsOf]
  have hi0 : okIdx 0 = true := rfl
  have hs1 : evS prog (callN prog (d + 1)) true (.assign 1 (.bm .split (.var 0) [(.const (.str [32]))])) [some (.str (textOf w is)), none, none] [] = .next [some (.str (textOf w is)), some (.lst ((wordsOf w is).map .str)), none] [] := by
    simp [ev_var, ev_const, ev_glob, ev_bin, ev_not, ev_and, ev_cmp, ev_cmp2, ev_call, ev_bi, ev_bm, ev_isinst, ev_sub, ev_slice, ev_list, ev_tuple, ev_inTab, ev_subTab, es_n, es_c, and_1, and_2, c_t, c_n, c_a, c_o, ca_n, ca_c, co_n, co_c, if_n, if_c, it_of, s_assign, s_ret, s_ite, ss_n, ss_c, bind_ok, of_ok, bV_add, bV_sub, bV_div, bV_mod, bV_tup, bV_lst, mkL_f, gI_lst, gI_tup, gI_str, cV_lt, cV_le, cV_eqI, cV_neI, cV_eqS, cV_neS, tr_b, isS, split_s, htl, hsp]
  have hs2 : evS prog (callN prog (d + 1)) true (.ite (.or [(.t (.inTab true 0 (.sub (.var 1) (.const (.int 0))))), (.t (.cmp .ne (.bi .len [(.var 1)]) (.bin .add (.bi .len [(.subTab 0 (.sub (.var 1) (.const (.int 0))))]) (.const (.int 1)))))]) [.raise 1 [110, 111, 32, 114, 111, 119]] [])
      [some (.str (textOf w is)), some (.lst ((wordsOf w is).map .str)), none] [] = .next [some (.str (textOf w is)), some (.lst ((wordsOf w is).map .str)), none] [] := by
    simp only [ev_var, ev_const, ev_glob, ev_bin, ev_not, ev_and, ev_cmp, ev_cmp2, ev_call, ev_bi, ev_bm, ev_isinst, ev_sub, ev_slice, ev_list, ev_tuple, ev_inTab, ev_subTab, es_n, es_c, and_1, and_2, c_t, c_n, c_a, c_o, ca_n, ca_c, co_n, co_c, if_n, if_c, it_of, s_assign, s_ret, s_ite, ss_n, ss_c, bind_ok, of_ok, bV_add, bV_sub, bV_div, bV_mod, bV_tup, bV_lst, mkL_f, gI_lst, gI_tup, gI_str, cV_lt, cV_le, cV_eqI, cV_neI, cV_eqS, cV_neS, tr_b, List.getElem?_cons_succ, List.getElem?_cons_zero, hi0, Int.toNat_zero, hget, htb, hany, hfind, len_l, len_s, hwn, hl2, hfl, hfi, hl, if_true]
    simp [ev_var, ev_const, ev_glob, ev_bin, ev_not, ev_and, ev_cmp, ev_cmp2, ev_call, ev_bi, ev_bm, ev_isinst, ev_sub, ev_slice, ev_list, ev_tuple, ev_inTab, ev_subTab, es_n, es_c, and_1, and_2, c_t, c_n, c_a, c_o, ca_n, ca_c, co_n, co_c, if_n, if_c, it_of, s_assign, s_ret, s_ite, ss_n, ss_c, bind_ok, of_ok, bV_add, bV_sub, bV_div, bV_mod, bV_tup, bV_lst, mkL_f, gI_lst, gI_tup, gI_str, cV_lt, cV_le, cV_eqI, cV_neI, cV_eqS, cV_neS, tr_b]
  show evSs prog (callN prog (d + 1)) true fn2.body [some (.str (textOf w is)), none, none] [] = _
  unfold fn2
  rw [ss_next hs1, ss_next hs2]
  simp [ev_var, ev_const, ev_glob, ev_bin, ev_not, ev_and, ev_cmp, ev_cmp2, ev_call, ev_bi, ev_bm, ev_isinst, ev_sub, ev_slice, ev_list, ev_tuple, ev_inTab, ev_subTab, es_n, es_c, and_1, and_2, c_t, c_n, c_a, c_o, ca_n, ca_c, co_n, co_c, if_n, if_c, it_of, s_assign, s_ret, s_ite, ss_n, ss_c, bind_ok, of_ok, bV_add, bV_sub, bV_div, bV_mod, bV_tup, bV_lst, mkL_f, gI_lst, gI_tup, gI_str, cV_lt, cV_le, cV_eqI, cV_neI, cV_eqS, cV_neS, tr_b, hc, hi0, hget, tup_l, hl4, hl2]

section
variable {xs : List Int} {k m : Nat} {w : List Nat} {is : List Int}
theorem t_s1 (hx : xs.length ≤ 63) (hk : (cellAt xs 0).fmod 9 = k) (hk9 : k < 9) (hw : words[k]? = some w) : evS prog (callN prog 4) true (.assign 1 (.sub (.list false [(.const (.str [115, 101, 116])), (.const (.str [99, 111, 112, 121])), (.const (.str [97, 100, 100])), (.const (.str [115, 117, 98])), (.const (.str [102, 101, 116, 99, 104])), (.const (.str [115, 116, 111, 114, 101])), (.const (.str [108, 101, 115, 115])), (.const (.str [106, 117, 109, 112])), (.const (.str [116, 101, 108, 108]))]) (.bin .mod (.call 3 [(.var 0), (.const (.int 0))]) (.const (.int 9)))))
    [some (V.lst (xs.map V.int)), none, none, none, none, none, none, none, none, none] [] = .next [some (V.lst (xs.map V.int)), some (V.str w), none, none, none, none, none, none, none, none] [] := by
  have hcell := c3 xs hx 0 (by decide) (by decide) 3 []
  have okk : okIdx k = true := okIdx_of (by omega) (by omega)
  have tk : (k : Int).toNat = k := Int.toNat_natCast k
  have hg : (words.map V.str)[k]? = some (V.str w) := by rw [List.getElem?_map, hw]; rfl
  simp only [words, List.map_cons, List.map_nil] at hg
  simp only [ev_var, ev_const, ev_glob, ev_bin, ev_not, ev_and, ev_cmp, ev_cmp2, ev_call, ev_bi, ev_bm, ev_isinst, ev_sub, ev_slice, ev_list, ev_tuple, ev_inTab, ev_subTab, es_n, es_c, and_1, and_2, c_t, c_n, c_a, c_o, ca_n, ca_c, co_n, co_c, if_n, if_c, it_of, s_assign, s_ret, s_ite, ss_n, ss_c, bind_ok, of_ok, bV_add, bV_sub, bV_div, bV_mod, bV_tup, bV_lst, mkL_f, gI_lst, gI_tup, gI_str, cV_lt, cV_le, cV_eqI, cV_neI, cV_eqS, cV_neS, tr_b, List.getElem?_cons_zero, hcell, Int.toNat_zero, hk, okk, tk, hg, if_true, ne_eq, not_false_eq_true, show ((9 : Int) = 0) = False from by simp, List.set_cons_succ, List.set_cons_zero]
theorem t_s2 (hx : xs.length ≤ 63) (hk : (cellAt xs 0).fmod 9 = k) (hk9 : k < 9) (hm : manies[k]? = some m) : evS prog (callN prog 4) true (.assign 2 (.sub (.list false [(.const (.int 2)), (.const (.int 2)), (.const (.int 3)), (.const (.int 3)), (.const (.int 2)), (.const (.int 2)), (.const (.int 3)), (.const (.int 1)), (.const (.int 1))]) (.bin .mod (.call 3 [(.var 0), (.const (.int 0))]) (.const (.int 9)))))
    [some (V.lst (xs.map V.int)), some (V.str w), none, none, none, none, none, none, none, none] [] = .next [some (V.lst (xs.map V.int)), some (V.str w), some (.int m), none, none, none, none, none, none, none] [] := by
  have hcell := c3 xs hx 0 (by decide) (by decide) 3 []
  have okk : okIdx k = true := okIdx_of (by omega) (by omega)
  have tk : (k : Int).toNat = k := Int.toNat_natCast k
  have hg : (manies.map fun m : Nat => V.int m)[k]? = some (.int m) := by rw [List.getElem?_map, hm]; rfl
  simp only [manies, List.map_cons, List.map_nil] at hg
  simp only [ev_var, ev_const, ev_glob, ev_bin, ev_not, ev_and, ev_cmp, ev_cmp2, ev_call, ev_bi, ev_bm, ev_isinst, ev_sub, ev_slice, ev_list, ev_tuple, ev_inTab, ev_subTab, es_n, es_c, and_1, and_2, c_t, c_n, c_a, c_o, ca_n, ca_c, co_n, co_c, if_n, if_c, it_of, s_assign, s_ret, s_ite, ss_n, ss_c, bind_ok, of_ok, bV_add, bV_sub, bV_div, bV_mod, bV_tup, bV_lst, mkL_f, gI_lst, gI_tup, gI_str, cV_lt, cV_le, cV_eqI, cV_neI, cV_eqS, cV_neS, tr_b, List.getElem?_cons_zero, hcell, Int.toNat_zero, hk, okk, tk, if_true, ne_eq, not_false_eq_true, show ((9 : Int) = 0) = False from by simp, List.set_cons_succ, List.set_cons_zero]
  erw [hg]
  rfl
theorem t_hr (hm3 : m ≤ 3) : evIt prog true (callN prog 4 true) (.range1 (.var 2)) [some (V.lst (xs.map V.int)), some (V.str w), some (.int m), none, none, none, none, none, none, none] [] = .ok (.lst ((List.range m).map fun (i : Nat) => .int i)) [] := by
  have h1 : (okR m && decide ((m : Int).toNat ≤ 100000)) = true := by rw [okR_of (by omega) (by omega), Int.toNat_natCast, decide_eq_true (by omega)]; rfl
  have tk : (m : Int).toNat = m := Int.toNat_natCast m
  rw [it_range (h' := []) (by simp only [ev_var, ev_const, ev_glob, ev_bin, ev_not, ev_and, ev_cmp, ev_cmp2, ev_call, ev_bi, ev_bm, ev_isinst, ev_sub, ev_slice, ev_list, ev_tuple, ev_inTab, ev_subTab, es_n, es_c, and_1, and_2, c_t, c_n, c_a, c_o, ca_n, ca_c, co_n, co_c, if_n, if_c, it_of, s_assign, s_ret, s_ite, ss_n, ss_c, bind_ok, of_ok, bV_add, bV_sub, bV_div, bV_mod, bV_tup, bV_lst, mkL_f, gI_lst, gI_tup, gI_str, cV_lt, cV_le, cV_eqI, cV_neI, cV_eqS, cV_neS, tr_b, List.getElem?_cons_succ, List.getElem?_cons_zero]) h1, tk]
theorem t_s3 (hx : xs.length ≤ 63) (hm3 : m ≤ 3) (his : is = (List.range m).map fun j => numBy (cellAt xs (1 + j))) : evS prog (callN prog 4) true (.assign 3 (.comp false 8 (.call 6 [(.call 3 [(.var 0), (.bin .add (.const (.int 1)) (.var 8))])]) (.range1 (.var 2)) []))
    [some (V.lst (xs.map V.int)), some (V.str w), some (.int m), none, none, none, none, none, none, none] [] = .next [some (V.lst (xs.map V.int)), some (V.str w), some (.int m), some (V.lst (is.map V.int)), none, none, none, none, none, none] [] := by
  have hr := t_hr (xs := xs) (w := w) hm3
  have he : ((List.range m).map fun (i : Nat) => V.int i).map (fun v => match v with | .int j => V.int (numBy (cellAt xs (1 + j).toNat)) | v => v) = is.map V.int := by
    rw [his]; simp only [List.map_map]
    refine List.map_congr_left fun j _ => ?_
    simp only [Function.comp]
    congr 3
  have hc := ev_comp (ifs := []) (x := 8) (elt := .call 6 [(.call 3 [(.var 0), (.bin .add (.const (.int 1)) (.var 8))])]) hr (xs := (List.range m).map fun (i : Nat) => .int i) (live := none) (f := fun v => match v with | .int j => .int (numBy (cellAt xs (1 + j).toNat)) | v => v) rfl (by simp; omega) (fun _ => rfl) (fun y hy h => ⟨if_n, by
    obtain ⟨j, hj, rfl⟩ := List.mem_map.mp hy
    rw [List.mem_range] at hj
    have := c3 xs hx (1 + j) (by omega) (by omega) 3 h
    simp only [ev_var, ev_const, ev_glob, ev_bin, ev_not, ev_and, ev_cmp, ev_cmp2, ev_call, ev_bi, ev_bm, ev_isinst, ev_sub, ev_slice, ev_list, ev_tuple, ev_inTab, ev_subTab, es_n, es_c, and_1, and_2, c_t, c_n, c_a, c_o, ca_n, ca_c, co_n, co_c, if_n, if_c, it_of, s_assign, s_ret, s_ite, ss_n, ss_c, bind_ok, of_ok, bV_add, bV_sub, bV_div, bV_mod, bV_tup, bV_lst, mkL_f, gI_lst, gI_tup, gI_str, cV_lt, cV_le, cV_eqI, cV_neI, cV_eqS, cV_neS, tr_b, List.set_cons_succ, List.set_cons_zero, List.getElem?_cons_succ, List.getElem?_cons_zero, this, c6]⟩) (by rw [he]; exact ints_under _ _)
  rw [he] at hc
  simp only [s_assign, hc, of_ok, List.set_cons_succ, List.set_cons_zero]
theorem t_s4 (hm3 : m ≤ 3) (hisl : is.length = m) : evS prog (callN prog 4) true (.assign 4 (.bin .add (.tuple [(.var 1)]) (.bi .tuple [(.var 3)])))
    [some (V.lst (xs.map V.int)), some (V.str w), some (.int m), some (V.lst (is.map V.int)), none, none, none, none, none, none] [] = .next [some (V.lst (xs.map V.int)), some (V.str w), some (.int m), some (V.lst (is.map V.int)), some (V.tup (V.str w :: is.map V.int)), none, none, none, none, none] [] := by
  have h1 : m ≤ 100000 := by omega
  have h2 : 1 + m ≤ 100000 := by omega
  simp [ev_var, ev_const, ev_glob, ev_bin, ev_not, ev_and, ev_cmp, ev_cmp2, ev_call, ev_bi, ev_bm, ev_isinst, ev_sub, ev_slice, ev_list, ev_tuple, ev_inTab, ev_subTab, es_n, es_c, and_1, and_2, c_t, c_n, c_a, c_o, ca_n, ca_c, co_n, co_c, if_n, if_c, it_of, s_assign, s_ret, s_ite, ss_n, ss_c, bind_ok, of_ok, bV_add, bV_sub, bV_div, bV_mod, bV_tup, bV_lst, mkL_f, gI_lst, gI_tup, gI_str, cV_lt, cV_le, cV_eqI, cV_neI, cV_eqS, cV_neS, tr_b, tup_l, hisl, h1, h2]
theorem t_s5 (hwl : w.length ≤ 10) (hi : ∀ i ∈ is, 0 ≤ i ∧ i < 1000000) (hm3 : m ≤ 3) (hisl : is.length = m) : evS prog (callN prog 4) true (.assign 5 (.call 0 [(.var 4)]))
    [some (V.lst (xs.map V.int)), some (V.str w), some (.int m), some (V.lst (is.map V.int)), some (V.tup (V.str w :: is.map V.int)), none, none, none, none, none] [] = .next [some (V.lst (xs.map V.int)), some (V.str w), some (.int m), some (V.lst (is.map V.int)), some (V.tup (V.str w :: is.map V.int)), some (V.str (textOf w is)), none, none, none, none] [] := by
  have := c0 w is hwl hi (by omega) 3
  simp only [ev_var, ev_const, ev_glob, ev_bin, ev_not, ev_and, ev_cmp, ev_cmp2, ev_call, ev_bi, ev_bm, ev_isinst, ev_sub, ev_slice, ev_list, ev_tuple, ev_inTab, ev_subTab, es_n, es_c, and_1, and_2, c_t, c_n, c_a, c_o, ca_n, ca_c, co_n, co_c, if_n, if_c, it_of, s_assign, s_ret, s_ite, ss_n, ss_c, bind_ok, of_ok, bV_add, bV_sub, bV_div, bV_mod, bV_tup, bV_lst, mkL_f, gI_lst, gI_tup, gI_str, cV_lt, cV_le, cV_eqI, cV_neI, cV_eqS, cV_neS, tr_b, List.getElem?_cons_succ, List.getElem?_cons_zero, this, List.set_cons_succ, List.set_cons_zero]
theorem t_s6 (hwl : w.length ≤ 10) (hi : ∀ i ∈ is, 0 ≤ i ∧ i < 1000000) (hm3 : m ≤ 3) (hisl : is.length = m) : evS prog (callN prog 4) true (.ite (.or [(.not (.t (.isinst (.var 5) .str))), (.t (.cmp .ne (.var 5) (.bm .join (.const (.str [32])) [(.bin .add (.list false [(.var 1)]) (.comp false 9 (.bi .str [(.var 9)]) (.of (.var 3)) []))])))]) [.ret (.const (.bool false))] [])
    [some (V.lst (xs.map V.int)), some (V.str w), some (.int m), some (V.lst (is.map V.int)), some (V.tup (V.str w :: is.map V.int)), some (V.str (textOf w is)), none, none, none, none] [] = .next [some (V.lst (xs.map V.int)), some (V.str w), some (.int m), some (V.lst (is.map V.int)), some (V.tup (V.str w :: is.map V.int)), some (V.str (textOf w is)), none, none, none, none] [] := by
  have hc := ev_comp (P := prog) (call := callN prog 4 true) (r := [some (V.lst (xs.map V.int)), some (V.str w), some (.int m), some (V.lst (is.map V.int)), some (V.tup (V.str w :: is.map V.int)), some (V.str (textOf w is)), none, none, none, none]) (h := []) (x := 9) (elt := .bi .str [(.var 9)]) (it := .of (.var 3)) (ifs := [])
    (v := (V.lst (is.map V.int))) (h₁ := []) (xs := is.map V.int) (live := none) (f := strOf) (by simp [ev_var, ev_const, ev_glob, ev_bin, ev_not, ev_and, ev_cmp, ev_cmp2, ev_call, ev_bi, ev_bm, ev_isinst, ev_sub, ev_slice, ev_list, ev_tuple, ev_inTab, ev_subTab, es_n, es_c, and_1, and_2, c_t, c_n, c_a, c_o, ca_n, ca_c, co_n, co_c, if_n, if_c, it_of, s_assign, s_ret, s_ite, ss_n, ss_c, bind_ok, of_ok, bV_add, bV_sub, bV_div, bV_mod, bV_tup, bV_lst, mkL_f, gI_lst, gI_tup, gI_str, cV_lt, cV_le, cV_eqI, cV_neI, cV_eqS, cV_neS, tr_b]) rfl (by simp; omega) (fun _ => rfl) (fun y hy h => ⟨if_n, by
      obtain ⟨i, rfl, h1, h2⟩ := numbers_in hi hy
      exact str_elt h1 h2 (by simp)⟩) (strs_under _ _)
  have h2 : 1 + is.length ≤ 100000 := by omega
  have hT : isInst (V.str (textOf w is)) .str = some true := rfl
  simp [ev_var, ev_const, ev_glob, ev_bin, ev_not, ev_and, ev_cmp, ev_cmp2, ev_call, ev_bi, ev_bm, ev_isinst, ev_sub, ev_slice, ev_list, ev_tuple, ev_inTab, ev_subTab, es_n, es_c, and_1, and_2, c_t, c_n, c_a, c_o, ca_n, ca_c, co_n, co_c, if_n, if_c, it_of, s_assign, s_ret, s_ite, ss_n, ss_c, bind_ok, of_ok, bV_add, bV_sub, bV_div, bV_mod, bV_tup, bV_lst, mkL_f, gI_lst, gI_tup, gI_str, cV_lt, cV_le, cV_eqI, cV_neI, cV_eqS, cV_neS, tr_b, hT, hc, isS, h2, bm_join hwl hi (show is.length ≤ 10 by omega), -List.map_map]
theorem t_s7 (wm : WM w m) (hi : ∀ i ∈ is, 0 ≤ i ∧ i < 1000000) (hisl : is.length = m) : evS prog (callN prog 4) true (.assign 6 (.call 2 [(.var 5)]))
    [some (V.lst (xs.map V.int)), some (V.str w), some (.int m), some (V.lst (is.map V.int)), some (V.tup (V.str w :: is.map V.int)), some (V.str (textOf w is)), none, none, none, none] [] = .next [some (V.lst (xs.map V.int)), some (V.str w), some (.int m), some (V.lst (is.map V.int)), some (V.tup (V.str w :: is.map V.int)), some (V.str (textOf w is)), some (V.tup (V.str w :: is.map V.int)), none, none, none] [] := by
  have := c2 w m wm is hisl hi 2
  simp only [ev_var, ev_const, ev_glob, ev_bin, ev_not, ev_and, ev_cmp, ev_cmp2, ev_call, ev_bi, ev_bm, ev_isinst, ev_sub, ev_slice, ev_list, ev_tuple, ev_inTab, ev_subTab, es_n, es_c, and_1, and_2, c_t, c_n, c_a, c_o, ca_n, ca_c, co_n, co_c, if_n, if_c, it_of, s_assign, s_ret, s_ite, ss_n, ss_c, bind_ok, of_ok, bV_add, bV_sub, bV_div, bV_mod, bV_tup, bV_lst, mkL_f, gI_lst, gI_tup, gI_str, cV_lt, cV_le, cV_eqI, cV_neI, cV_eqS, cV_neS, tr_b, List.getElem?_cons_succ, List.getElem?_cons_zero, this, List.set_cons_succ, List.set_cons_zero]
theorem t_s8 (hm3 : m ≤ 3) (hisl : is.length = m) : evS prog (callN prog 4) true (.ite (.or [(.not (.t (.isinst (.var 6) .tuple))), (.t (.cmp .ne (.bi .len [(.var 6)]) (.bin .add (.const (.int 1)) (.var 2)))), (.not (.t (.isinst (.sub (.var 6) (.const (.int 0))) .str))), (.t (.cmp .ne (.sub (.var 6) (.const (.int 0))) (.var 1)))]) [.ret (.const (.bool false))] [])
    [some (V.lst (xs.map V.int)), some (V.str w), some (.int m), some (V.lst (is.map V.int)), some (V.tup (V.str w :: is.map V.int)), some (V.str (textOf w is)), some (V.tup (V.str w :: is.map V.int)), none, none, none] [] = .next [some (V.lst (xs.map V.int)), some (V.str w), some (.int m), some (V.lst (is.map V.int)), some (V.tup (V.str w :: is.map V.int)), some (V.str (textOf w is)), some (V.tup (V.str w :: is.map V.int)), none, none, none] [] := by
  have hT : isInst (V.tup (V.str w :: is.map V.int)) .tuple = some true := rfl
  have hW : isInst (.str w) .str = some true := rfl
  have hi0 : okIdx 0 = true := rfl
  have h1 : m + 1 ≤ 100000 := by omega
  have h3 : (m : Int) + 1 = 1 + m := by omega
  simp [ev_var, ev_const, ev_glob, ev_bin, ev_not, ev_and, ev_cmp, ev_cmp2, ev_call, ev_bi, ev_bm, ev_isinst, ev_sub, ev_slice, ev_list, ev_tuple, ev_inTab, ev_subTab, es_n, es_c, and_1, and_2, c_t, c_n, c_a, c_o, ca_n, ca_c, co_n, co_c, if_n, if_c, it_of, s_assign, s_ret, s_ite, ss_n, ss_c, bind_ok, of_ok, bV_add, bV_sub, bV_div, bV_mod, bV_tup, bV_lst, mkL_f, gI_lst, gI_tup, gI_str, cV_lt, cV_le, cV_eqI, cV_neI, cV_eqS, cV_neS, tr_b, hT]
  simp [ev_var, ev_const, ev_glob, ev_bin, ev_not, ev_and, ev_cmp, ev_cmp2, ev_call, ev_bi, ev_bm, ev_isinst, ev_sub, ev_slice, ev_list, ev_tuple, ev_inTab, ev_subTab, es_n, es_c, and_1, and_2, c_t, c_n, c_a, c_o, ca_n, ca_c, co_n, co_c, if_n, if_c, it_of, s_assign, s_ret, s_ite, ss_n, ss_c, bind_ok, of_ok, bV_add, bV_sub, bV_div, bV_mod, bV_tup, bV_lst, mkL_f, gI_lst, gI_tup, gI_str, cV_lt, cV_le, cV_eqI, cV_neI, cV_eqS, cV_neS, tr_b, len_t, hisl, h1, hi0, hW, h3]
theorem t_s9 (hm3 : m ≤ 3) (hisl : is.length = m) : ∃ r', evS prog (callN prog 4) true (.for1 7 (.range1 (.var 2)) [.ite (.or [(.not (.t (.call 4 [(.sub (.var 6) (.bin .add (.const (.int 1)) (.var 7)))]))), (.t (.cmp .ne (.sub (.var 6) (.bin .add (.const (.int 1)) (.var 7))) (.sub (.var 3) (.var 7))))]) [.ret (.const (.bool false))] []])
    [some (V.lst (xs.map V.int)), some (V.str w), some (.int m), some (V.lst (is.map V.int)), some (V.tup (V.str w :: is.map V.int)), some (V.str (textOf w is)), some (V.tup (V.str w :: is.map V.int)), none, none, none] [] = .next r' [] := by
  have hr : evIt prog true (callN prog 4 true) (.range1 (.var 2)) [some (V.lst (xs.map V.int)), some (V.str w), some (.int m), some (V.lst (is.map V.int)), some (V.tup (V.str w :: is.map V.int)), some (V.str (textOf w is)), some (V.tup (V.str w :: is.map V.int)), none, none, none] [] = .ok (.lst ((List.range m).map fun (i : Nat) => .int i)) [] := by
    have h1 : (okR m && decide ((m : Int).toNat ≤ 100000)) = true := by rw [okR_of (by omega) (by omega), Int.toNat_natCast, decide_eq_true (by omega)]; rfl
    have tk : (m : Int).toNat = m := Int.toNat_natCast m
    rw [it_range (h' := []) (by simp only [ev_var, ev_const, ev_glob, ev_bin, ev_not, ev_and, ev_cmp, ev_cmp2, ev_call, ev_bi, ev_bm, ev_isinst, ev_sub, ev_slice, ev_list, ev_tuple, ev_inTab, ev_subTab, es_n, es_c, and_1, and_2, c_t, c_n, c_a, c_o, ca_n, ca_c, co_n, co_c, if_n, if_c, it_of, s_assign, s_ret, s_ite, ss_n, ss_c, bind_ok, of_ok, bV_add, bV_sub, bV_div, bV_mod, bV_tup, bV_lst, mkL_f, gI_lst, gI_tup, gI_str, cV_lt, cV_le, cV_eqI, cV_neI, cV_eqS, cV_neS, tr_b, List.getElem?_cons_succ, List.getElem?_cons_zero]) h1, tk]
  rw [s_for1 hr (xs := (List.range m).map fun (i : Nat) => .int i) (live := none) rfl (by simp; omega)]
  obtain ⟨r', e, _⟩ := for_keep (I := fun r => r.length = 10 ∧ r[3]? = some (some (V.lst (is.map V.int))) ∧ r[6]? = some (some (V.tup (V.str w :: is.map V.int)))) (still := fun x => still x none) (h := [])
    (step := fun v r h => evSs prog (callN prog 4) true [.ite (.or [(.not (.t (.call 4 [(.sub (.var 6) (.bin .add (.const (.int 1)) (.var 7)))]))), (.t (.cmp .ne (.sub (.var 6) (.bin .add (.const (.int 1)) (.var 7))) (.sub (.var 3) (.var 7))))]) [.ret (.const (.bool false))] []] (r.set 7 (some v)) h) rfl
    ((List.range m).map fun (i : Nat) => V.int i) [some (V.lst (xs.map V.int)), some (V.str w), some (.int m), some (V.lst (is.map V.int)), some (V.tup (V.str w :: is.map V.int)), some (V.str (textOf w is)), some (V.tup (V.str w :: is.map V.int)), none, none, none] ⟨rfl, rfl, rfl⟩ fun v hv r hr => by
      obtain ⟨j, hj, rfl⟩ := List.mem_map.mp hv
      rw [List.mem_range] at hj
      refine ⟨r.set 7 (some (.int j)), ?_, by simp [hr.1], by simp [hr.2.1], by simp [hr.2.2]⟩
      have h7 : (r.set 7 (some (V.int j)))[7]? = some (some (.int j)) := List.getElem?_set_self (by omega)
      have h6 : (r.set 7 (some (V.int j)))[6]? = some (some (V.tup (V.str w :: is.map V.int))) := by rw [List.getElem?_set_ne (by decide)]; exact hr.2.2
      have h3 : (r.set 7 (some (V.int j)))[3]? = some (some (V.lst (is.map V.int))) := by rw [List.getElem?_set_ne (by decide)]; exact hr.2.1
      have hji : is[j]? = some (is[j]'(by omega)) := List.getElem?_eq_getElem (by omega)
      have g1 : okIdx (1 + (j : Int)) = true := okIdx_of (by omega) (by omega)
      have g2 : okIdx (j : Int) = true := okIdx_of (by omega) (by omega)
      have t1 : (1 + (j : Int)).toNat = j + 1 := by omega
      have t2 : (j : Int).toNat = j := Int.toNat_natCast j
      simp only [ev_var, ev_const, ev_glob, ev_bin, ev_not, ev_and, ev_cmp, ev_cmp2, ev_call, ev_bi, ev_bm, ev_isinst, ev_sub, ev_slice, ev_list, ev_tuple, ev_inTab, ev_subTab, es_n, es_c, and_1, and_2, c_t, c_n, c_a, c_o, ca_n, ca_c, co_n, co_c, if_n, if_c, it_of, s_assign, s_ret, s_ite, ss_n, ss_c, bind_ok, of_ok, bV_add, bV_sub, bV_div, bV_mod, bV_tup, bV_lst, mkL_f, gI_lst, gI_tup, gI_str, cV_lt, cV_le, cV_eqI, cV_neI, cV_eqS, cV_neS, tr_b, h7, h6, h3, g1, g2, t1, t2, List.getElem?_cons_succ, List.getElem?_map, hji, Option.map_some, if_true, c4]
      simp [ev_var, ev_const, ev_glob, ev_bin, ev_not, ev_and, ev_cmp, ev_cmp2, ev_call, ev_bi, ev_bm, ev_isinst, ev_sub, ev_slice, ev_list, ev_tuple, ev_inTab, ev_subTab, es_n, es_c, and_1, and_2, c_t, c_n, c_a, c_o, ca_n, ca_c, co_n, co_c, if_n, if_c, it_of, s_assign, s_ret, s_ite, ss_n, ss_c, bind_ok, of_ok, bV_add, bV_sub, bV_div, bV_mod, bV_tup, bV_lst, mkL_f, gI_lst, gI_tup, gI_str, cV_lt, cV_le, cV_eqI, cV_neI, cV_eqS, cV_neS, tr_b]
  exact ⟨r', e⟩
end
theorem law_true (xs : List Int) (hx : xs.length ≤ 63) : callN prog 5 true 7 [.lst (xs.map .int)] [] = .ok (.bool true) [] := by
  have h9 := Int.fmod_nonneg_of_pos (cellAt xs 0) (show (0:Int) < 9 by decide)
  have h9' := Int.fmod_lt_of_pos (cellAt xs 0) (show (0:Int) < 9 by decide)
  obtain ⟨k, hk⟩ : ∃ k : Nat, (cellAt xs 0).fmod 9 = k := ⟨((cellAt xs 0).fmod 9).toNat, by omega⟩
  have hk9 : k < 9 := by omega
  obtain ⟨w, hw⟩ : ∃ w, words[k]? = some w := ⟨words[k]'hk9, List.getElem?_eq_getElem hk9⟩
  obtain ⟨m, hm⟩ : ∃ m, manies[k]? = some m := ⟨manies[k]'hk9, List.getElem?_eq_getElem hk9⟩
  have wm : WM w m := ⟨k, hk9, hw, hm⟩
  obtain ⟨hwl, hw32, hm3, -⟩ := wm.cases
  obtain ⟨is, his⟩ : ∃ is : List Int, is = (List.range m).map fun j => numBy (cellAt xs (1 + j)) := ⟨_, rfl⟩
  have hisl : is.length = m := by rw [his]; simp
  have hi : ∀ i ∈ is, 0 ≤ i ∧ i < 1000000 := fun i h => by
    rw [his] at h
    obtain ⟨j, _, rfl⟩ := List.mem_map.mp h
    exact numBy_lt _
  obtain ⟨r', s9⟩ := t_s9 (xs := xs) (w := w) hm3 hisl
  refine call_of (F := fn7) (ρ := r') rfl rfl rfl ?_
  show evSs prog (callN prog 4) true fn7.body [some (V.lst (xs.map V.int)), none, none, none, none, none, none, none, none, none] [] = _
  unfold fn7
  rw [ss_next (t_s1 hx hk hk9 hw), ss_next (t_s2 hx hk hk9 hm), ss_next (t_s3 hx hm3 his), ss_next (t_s4 hm3 hisl), ss_next (t_s5 hwl hi hm3 hisl), ss_next (t_s6 hwl hi hm3 hisl), ss_next (t_s7 wm hi hisl), ss_next (t_s8 hm3 hisl), ss_next s9]
  rw [ss_c, s_ret, ev_const, of_ok]
end
end Mine.Law
end
open PySem PySem.W PyProof.Rows
set_option Elab.async false
set_option maxRecDepth 100000
set_option maxHeartbeats 8000000
namespace Mine.Law
def nms : Nm := { fnm := ["shown", "number_of", "read_row", "_law_cell_at", "_law_whole", "_law_mixed", "_law_number_by", "law"], clm := [], exm := ["LineError", "BadRow"], glm := ["FIGURES", "MOST_FIGURES"], glv := [(.str [48, 49, 50, 51, 52, 53, 54, 55, 56, 57]), (.int 6)], tbm := ["FORMS"], atm := [], mtm := [], ext := false }
def gam0 : Gam := [("row", 0)]
def gam1 : Gam := [("word", 0), ("sign", 1)]
def gam2 : Gam := [("line", 0), ("words", 1)]
def gam3 : Gam := [("_law_script", 0), ("_law_k", 1)]
def gam4 : Gam := [("_law_found", 0)]
def gam5 : Gam := [("_law_cell", 0)]
def gam6 : Gam := [("_law_cell", 0)]
def gam7 : Gam := [("_law_script", 0), ("_law_word", 1), ("_law_many", 2), ("_law_numbers", 3), ("_law_row", 4), ("_law_text", 5), ("_law_found", 6), ("_law_k", 7)]
def gams : List Gam := [gam0, gam1, gam2, gam3, gam4, gam5, gam6, gam7]
end Mine.Law
namespace Mine
open_top hd01 for PySem.Challenge.rw_uf030028_01
end Mine
namespace Mine.Law
theorem k1 (p : Params) : nms.fnm.all (okName (Mine.hd01.heap_39 p)) = true := by rfl
theorem k2 (p : Params) : bnames.all (okBoot (Mine.hd01.heap_39 p)) = true := by rfl
theorem k3 (p : Params) : okVals (Mine.hd01.heap_39 p) nms.glm nms.glv = true := by rfl
theorem k4 (p : Params) : okFns (Mine.hd01.heap_39 p) nms 0 prog.fns gams = true := by rfl
theorem k5 (p : Params) : ∃ a es k, nsIn (Mine.hd01.heap_39 p) mainGlobals "FORMS" = some (some (.ref a)) ∧ (Mine.hd01.heap_39 p).lookup a = some ⟨.type "dict", none, .dict es k, #[]⟩ ∧ KeysLit p es.toList ∧ (∀ tb, prog.tabs[0]? = some tb → TabR tb es.toList) ∧ (a == sysModules) = false := by
  refine ⟨_, _, _, rfl, rfl, ?_, ?_, rfl⟩
  · repeat (first | exact trivial | refine ⟨⟨_, _, rfl, rfl⟩, ?_⟩)
  · intro tb e
    cases e
    repeat (first | exact rfl | refine ⟨_, _, _, _, rfl, rfl, rfl, ?_⟩)

theorem tabs_ok (p : Params) (T : St) (hP : T.P = prog) (hw : T.w.params = p) (G : Gd T nms) (hK : G.K = Mine.hd01.heap_39 p) : Tbs T nms G := ⟨fun t n tb hn ht => by
  rw [hP] at ht
  obtain ⟨a, es, k, h1, h2, h3, h4, h5⟩ := k5 p
  match t, hn, ht with
  | 0, hn, ht =>
    cases hn
    rw [hK, hw]
    exact ⟨a, es, k, h1, h2, h3, h4 tb ht, h5⟩
  | t + 1, hn, _ => simp [nms] at hn⟩

theorem ofPy_ints (xs : List Int) : ofPy (PyData.list (xs.map PyData.int)) = .list (xs.map WData.int) := by
  rw [ofPy, ofPys_eq, List.map_map]; rfl
theorem post_true (args : List WData) : PySem.Challenge.rw_uf030028_01.row.claim.post args (.bool true) args = true := by
  refine postW_of (X := true) ?_ ?_ rfl
  · first | rfl | decide | (simp [WShape.has]; done)
  · show WTm.value [] (WTm.eq .res (.lit (.bool true))) _ = some (.bool true)
    simp only [WTm.value]
    have e : same (WData.bool true) (WData.bool true) = true := by first | decide +kernel | (unfold same; rfl) | (simp [same]; done)
    simp [e]
end Mine.Law

set_option maxRecDepth 100000 in
set_option maxHeartbeats 8000000 in
theorem PySem.Challenge.cw_uf030028_01_holds : PySem.Challenge.rw_uf030028_01.Holds := by
  refine Mine.hd01 ?_
  k_fill
  intro w s₀ s₁ mg mb G Y fa o pm cd doc dV kV ho hd hcd hD hmg hg args vals as hpre hlay hrd hwl hlo
  have KX := kIn_of Y
  refine Ground.open G ?_
  intro T B D TE TW
  wrow_args hpre hlay hrd hwl hlo
  refine enter_call ?_
  w_top on
  refine codeAny_mono ?_ (fun _ _ g => GoodW.toG g)
  rename_i xs hs1 hs2 hs3 hs4 hs5 la1 la2 l vs la3 hL ra w1 r0 hI hr hlen htr
  have hlen' : xs.length ≤ 63 := by omega
  have hfa := Mine.ns_agrees KX T.g (n := "law") (r := some (.ref (Mine.fnA (Mine.hd01.heap_39 w.params) Mine.Law.nms 7))) rfl
  have hfa' : fa = Mine.fnA (Mine.hd01.heap_39 w.params) Mine.Law.nms 7 := by
    have h2 : mg "law" = some (.ref fa) := hmg
    rw [hfa] at h2; cases h2; rfl
  subst hfa'
  let St₁ : Mine.St := { prog := PySem.Challenge.rw_uf030028_01.row.prog, w := w, P := Mine.Law.prog, base := s₁.heap, nolim := T.nolimit }
  let G₁ : Mine.Gd St₁ Mine.Law.nms := Mine.gdOf St₁ Mine.Law.nms (Mine.hd01.heap_39 w.params) KX ⟨mb, T.b, T.builtins⟩ (Mine.Law.k1 _) (Mine.Law.k2 _) (Mine.Law.k3 _)
  let C₁ : Mine.Cod St₁ Mine.Law.nms G₁ := Mine.codOf G₁ rfl Mine.Law.gams (Mine.Law.k4 _)
  have Tb := Mine.Law.tabs_ok w.params St₁ rfl rfl G₁ rfl
  have main := Mine.law_good (T := St₁) G₁ C₁ Tb (s := s₁) rfl (P := w.params) (f := 7) (d := 4) (l := l) (xs := xs) (by decide) (by rw [← Mine.Law.ofPy_ints]; exact w1) (Mine.Law.law_true xs hlen')
  refine codeAny_mono main fun r s' hr => ?_
  obtain ⟨rfl, hk, hos, hgens⟩ := hr
  refine ⟨.inl ⟨_, .bool true, [], rfl, fun _ => ?_, .bool true, ?_, fun _ => ⟨List.nodup_nil, fun a ha => by cases ha⟩⟩, hk, hos, hgens.trans hg⟩
  · rfl
  · exact Mine.Law.post_true _
