import PyProof.Rows.All
import PyProof.Calls
import PyProof.Ns1
import PyProof.Seq
import PyProof.SliceList
import PyProof.Cells
import PyProof.StrWalks
import PyProof.CompFree
import PyProof.DictKinds
import PyProof.DictList
import PyProof.DictIter
import PyProof.DictTable
import PyProof.DictWalks
import PyProof.EqAt
import PyProof.EqKinds
import PyProof.NeKinds
import PyProof.ExcBaseAll.Exception
import PyProof.StationsW
import PyProof.WalksMore
import PyProof.RangeFor
import PyProof.InstStoreFacts
import PyProof.IsiTupleOf
import PyProof.LetGo
import PyProof.Rows.OwnQ
import PyProof.Rows.CatchBare
import PyProof.Rows.Chain
import PyProof.Rows.Nodes
import PyProof.Rows.StrTemp
import PyProof.Rows.PlainObj
import PyProof.Rows.PlainNoArg
import PyProof.Rows.ExtendIn
import ObjForm.Fk.InstStore
import ObjForm.Fk.ObjNew
import ObjForm.Fk.InstLoad
import Open.Line
import KE.KDictOf
import Wide.FinOn
import Wide.All
import PySem.Challenge.RW_uf010008_11
set_option Elab.async false
set_option linter.all false
namespace U
open PySem
set_option genSizeOf false
/-- abstract values: tokens forgotten, texts as lists of code points -/
inductive AV where
  | none
  | bool (b : Bool)
  | int (i : Int)
  | str (s : List Nat)
  | ref (a : Addr)
abbrev Txt := List Nat
set_option genInjectivity false in
inductive AO where
  | list (vs : List AV)
  | tup (vs : List AV)
  | dict (es : List (Txt × AV))
  | flist (vs : List AV)
  | fdict (es : List (Txt × AV))
  | inst (c : String) (d : Addr)
  | attrs (es : List (Txt × AV))
  | exc (c : String) (d : Option Addr)
/-- the abstract heap -/
abbrev Hp := Addr → Option AO
abbrev Loc := List (Option AV)
abbrev Post := AV → Hp → Prop
abbrev XPost := Addr → Hp → Prop
abbrev SPost := Loc → Hp → Prop
abbrev SX := Loc → Addr → Hp → Prop
noncomputable def setH (σ : Hp) (a : Addr) (o : AO) : Hp := fun b => if b = a then some o else σ b
noncomputable def dset (es : List (Txt × AV)) (k : Txt) (v : AV) : List (Txt × AV) :=
  if es.any (fun e => e.1 == k) then es.map (fun e => if e.1 == k then (e.1, v) else e) else es ++ [(k, v)]
noncomputable def tooLong : Nat := 1000000
set_option genInjectivity false in
structure Kx where
  fn : Bool → Nat → String → List AV → Hp → Post → XPost → Prop
  /-- a name that the class's objects alone hold -/
  att : String → Txt → Prop
  /-- a method of the class, and the function -/
  mth : String → Txt → String → Prop
  /-- an exception of the text's own -/
  exc : String → Prop
  /-- a name that its objects alone hold -/
  xat : String → Txt → Prop
  /-- its maker -/
  xin : String → String → Prop
noncomputable def AV.scal : AV → Bool
  | .ref _ => false
  | _ => true
noncomputable def b2i (b : Bool) : Int := match b with
  | true => 1
  | false => 0
/-- == of values that are no objects -/
noncomputable def eqS : AV → AV → Bool
  | .none, .none => true
  | .bool a, .bool b => a == b
  | .int a, .int b => a == b
  | .int a, .bool b => a == b2i b
  | .bool a, .int b => b2i a == b
  | .str s, .str t => s == t
  | _, _ => false
/-- kinds of objects that == tells apart -/
noncomputable def AO.kind : AO → Nat
  | .list _ | .flist _ => 1
  | .tup _ => 2
  | .dict _ | .fdict _ => 3
  | _ => 0
noncomputable def AO.seq? : AO → Option (List AV)
  | .list vs | .flist vs | .tup vs => some vs
  | _ => none
noncomputable def AO.map? : AO → Option (List (Txt × AV))
  | .dict es | .fdict es => some es
  | _ => none
/-- item by item -/
inductive EqVs (R : AV → AV → Bool → Prop) : List AV → List AV → Bool → Prop where
  | nil : EqVs R [] [] true
  | cons {x y xs ys b r} : R x y b → EqVs R xs ys r → EqVs R (x :: xs) (y :: ys) (b && r)
/-- the second one's entries sought in the first; no objects -/
inductive EqD (ys : List (Txt × AV)) : List (Txt × AV) → Bool → Prop where
  | nil : EqD ys [] true
  | miss {k v es} : ys.lookup k = none → EqD ys ((k, v) :: es) false
  | hit {k v v' es r} : ys.lookup k = some v' → v.scal = true → v'.scal = true → EqD ys es r → EqD ys ((k, v) :: es) (eqS v v' && r)
/-- x == y gives b, the items by R -/
inductive EqStep (σ : Hp) (R : AV → AV → Bool → Prop) : AV → AV → Bool → Prop where
  | scal {x y} : x.scal = true → y.scal = true → EqStep σ R x y (eqS x y)
  | refL {a o y} : σ a = some o → o.kind = 1 ∨ o.kind = 2 → y.scal = true → EqStep σ R (.ref a) y false
  | refR {a o x} : σ a = some o → o.kind = 1 ∨ o.kind = 2 ∨ (o.kind = 3 ∧ ∃ k, x = .str k) → x.scal = true → EqStep σ R x (.ref a) false
  | kinds {a b o p} : σ a = some o → σ b = some p → (o.kind = 1 ∧ p.kind = 2) ∨ (o.kind = 2 ∧ p.kind = 1) → EqStep σ R (.ref a) (.ref b) false
  | same {a o} : σ a = some o → o.kind = 1 ∨ o.kind = 2 → EqStep σ R (.ref a) (.ref a) true
  | lens {a b o p xs ys} : a ≠ b → σ a = some o → σ b = some p → o.kind = p.kind → o.seq? = some xs → p.seq? = some ys → xs.length ≠ ys.length → (o.kind = 1 ∨ xs = [] ∨ ys = []) → EqStep σ R (.ref a) (.ref b) false
  | seqs {a b o p xs ys r} : a ≠ b → σ a = some o → σ b = some p → o.kind = p.kind → o.seq? = some xs → p.seq? = some ys → xs.length = ys.length → EqVs R xs ys r → EqStep σ R (.ref a) (.ref b) r
/-- x == y gives b, at most n levels deep, no dicts -/
noncomputable def EqV (σ : Hp) : Nat → AV → AV → Bool → Prop
  | 0 => EqStep σ fun _ _ _ => False
  | n + 1 => EqStep σ (EqV σ n)
/-- or two dicts -/
inductive EqW1 (σ : Hp) : AV → AV → Bool → Prop where
  | plain {x y b} : EqV σ 98 x y b → EqW1 σ x y b
  | lensD {a b o p xs ys} : a ≠ b → σ a = some o → σ b = some p → o.map? = some xs → p.map? = some ys → xs.length ≠ ys.length → EqW1 σ (.ref a) (.ref b) false
  | maps {a b o p xs ys r} : a ≠ b → σ a = some o → σ b = some p → o.map? = some xs → p.map? = some ys → xs.length = ys.length → EqD ys xs r → EqW1 σ (.ref a) (.ref b) r
/-- or two lists with such things in them -/
inductive EqW (σ : Hp) : AV → AV → Bool → Prop where
  | one {x y b} : EqW1 σ x y b → EqW σ x y b
  | lists {a b o p xs ys r} : a ≠ b → σ a = some o → σ b = some p → o.kind = 1 → p.kind = 1 → o.seq? = some xs → p.seq? = some ys → xs.length = ys.length → EqVs (EqW1 σ) xs ys r → EqW σ (.ref a) (.ref b) r
noncomputable def cut {α : Type} (xs : List α) (lo hi st : Option Int) : List α :=
  (sliceRange (sliceBounds lo hi st xs.length).1 (sliceBounds lo hi st xs.length).2.1 (sliceBounds lo hi st xs.length).2.2).filterMap (xs[·]?)
noncomputable def kO (o : Option AO) : Option String := match o with
  | some (.list _) | some (.flist _) => some "list"
  | some (.tup _) => some "tuple"
  | some (.dict _) | some (.fdict _) => some "dict"
  | _ => none
noncomputable def kindIs (σ : Hp) : AV → Option String
  | .none => some "NoneType"
  | .bool _ => some "bool"
  | .int _ => some "int"
  | .str _ => some "str"
  | .ref a => kO (σ a)
noncomputable def isOf (k : String) (ts : List String) : Bool := ts.any fun t => t == k || (t == "int" && k == "bool")
/-- the figures of a number -/
noncomputable def figs (i : Int) : Txt := (toString i).toList.map Char.toNat
noncomputable def joinT (sep : Txt) : List Txt → Txt
  | [] => []
  | [x] => x
  | x :: r => x ++ sep ++ joinT sep r
set_option genInjectivity false in
/-- an item of a loop: one value, or two that are not yet a tuple -/
inductive It where
  | one (v : AV)
  | two (a b : AV)
noncomputable def setAll : Loc → List Nat → List AV → Loc
  | ρ, i :: is, v :: vs => setAll (ρ.set i (some v)) is vs
  | ρ, _, _ => ρ
set_option genInjectivity false in
/-- what a loop needs: nothing; an object that stays as it is; a dict that is walked -/
inductive Gd where
  | no
  | keep (a : Addr) (o : AO)
  | ice (a : Addr) (es : List (Txt × AV))
noncomputable def gOk (g : Gd) (σ : Hp) : Prop := match g with
  | .no => True
  | .keep a o => σ a = some o
  | .ice a es => σ a = some (.fdict es)
noncomputable def Gd.iced : Gd → Bool
  | .ice .. => true
  | _ => false
noncomputable def rangeOf (lo hi : Int) : List It := (List.range (hi - lo).toNat).map fun (k : Nat) => It.one (.int (lo + (k : Int)))
noncomputable def maskL : List Bool → Loc → Loc
  | c :: cs, v :: vs => (match c with | true => v | false => none) :: maskL cs vs
  | _, _ => []
end U
namespace U
open PySem
set_option genSizeOf false
set_option genInjectivity false
noncomputable def OkP {α : Type} (o : Option α) (k : α → Prop) : Prop := match o with
  | some v => k v
  | none => False
noncomputable def WifP (b : Bool) (p q : Prop) : Prop := match b with
  | true => p
  | false => q
noncomputable def NewO (σ : Hp) (o : AO) (Q : Post) : Prop := ∀ a, σ a = none → Q (.ref a) (setH σ a o)
noncomputable def SetO (σ : Hp) (a : Addr) (o : AO) (k : Hp → Prop) : Prop := k (setH σ a o)
noncomputable def locAt : Loc → Nat → Option AV
  | [], _ => none
  | x :: _, 0 => x
  | _ :: r, i + 1 => locAt r i
noncomputable def TruP (v : AV) (k : Bool → Prop) : Prop := match v with
  | .none => k false
  | .bool b => k b
  | .int i => k (i != 0)
  | _ => False
noncomputable def OneP (vs : List AV) (f : AV → Prop) : Prop := match vs with
  | [x] => f x
  | _ => False
noncomputable def TwoP (vs : List AV) (f : AV → AV → Prop) : Prop := match vs with
  | [x, y] => f x y
  | _ => False
noncomputable def IntP (x : AV) (f : Int → Prop) : Prop := match x with
  | .int i => f i
  | _ => False
noncomputable def IIP (vs : List AV) (f : Int → Int → Prop) : Prop := TwoP vs fun x y => IntP x fun a => IntP y fun b => f a b
noncomputable def BoolP (x : AV) (f : Bool → Prop) : Prop := match x with
  | .bool i => f i
  | _ => False
noncomputable def StrP (x : AV) (f : Txt → Prop) : Prop := match x with
  | .str i => f i
  | _ => False
noncomputable def RefP (x : AV) (f : Addr → Prop) : Prop := match x with
  | .ref i => f i
  | _ => False
noncomputable def NonP (x : AV) (p : Prop) : Prop := match x with
  | .none => p
  | _ => False
noncomputable def AddR (σ : Hp) (o p : AO) (Q : Post) : Prop := match o, p with
  | .tup xs, .tup ys => (xs ≠ [] ∧ ys ≠ [] ∧ xs.length + ys.length < tooLong) ∧ NewO σ (.tup (xs ++ ys)) Q
  | .list xs, .list ys => xs.length + ys.length < tooLong ∧ NewO σ (.list (xs ++ ys)) Q
  | _, _ => False
noncomputable def AddP (σ : Hp) (x y : AV) (Q : Post) : Prop := match x with
  | .int a => IntP y fun b => Q (.int (a + b)) σ
  | .str a => StrP y fun b => a.length + b.length < tooLong ∧ Q (.str (a ++ b)) σ
  | .ref a => RefP y fun b => OkP (σ a) fun o => OkP (σ b) fun p => AddR σ o p Q
  | _ => False
noncomputable def isN : AV → Bool
  | .none => true
  | _ => false
noncomputable def EqP (σ : Hp) (x y : AV) (k : Bool → Prop) : Prop := match x.scal && y.scal with
  | true => k (eqS x y)
  | false => ∃ b, EqW σ x y b ∧ k b
noncomputable def NeP (x y : AV) (k : Bool → Prop) : Prop := match x.scal && y.scal with
  | true => k (!(eqS x y))
  | false => False
noncomputable def seqP (o : AO) (k : List AV → Prop) (k' : List (Txt × AV) → Prop) : Prop := match o with
  | .list xs | .flist xs | .tup xs => k xs
  | .dict es | .fdict es => k' es
  | _ => False
noncomputable def InS (σ : Hp) (xs : List AV) (x : AV) (k : Bool → Prop) : Prop := ∃ e : AV → Bool, (∀ y ∈ xs, EqV σ 99 y x (e y)) ∧ k (xs.any e)
noncomputable def oneC (s : Txt) (k : Nat → Prop) : Prop := match s with
  | [c] => k c
  | _ => False
noncomputable def InP (σ : Hp) (x y : AV) (k : Bool → Prop) : Prop := match y with
  | .str t => StrP x fun s => oneC s fun c => k (t.contains c)
  | .ref a => OkP (σ a) fun o => seqP o (fun xs => InS σ xs x k) (fun es => StrP x fun kk => k (es.lookup kk).isSome)
  | _ => False
noncomputable def LenP (σ : Hp) (x : AV) (k : Nat → Prop) : Prop := match x with
  | .str s => k s.length
  | .ref a => OkP (σ a) fun o => seqP o (fun xs => k xs.length) (fun es => k es.length)
  | _ => False
noncomputable def itemL {α : Type} (xs : List α) (i : Int) : Option α := if i.natAbs < 2 ^ 62 then (seqIndex? i xs.length).bind (xs[·]?) else none
noncomputable def ItemP (σ : Hp) (x y : AV) (Q : Post) : Prop := match x with
  | .ref a => OkP (σ a) fun o => seqP o (fun xs => IntP y fun i => OkP (itemL xs i) fun v => Q v σ) (fun es => StrP y fun kk => OkP (es.lookup kk) fun v => Q v σ)
  | .str s => IntP y fun i => OkP (itemL s i) fun c => Q (.str [c]) σ
  | _ => False
noncomputable def PartP (x : AV) (k : Option Int → Prop) : Prop := match x with
  | .none => k none
  | .int i => k (some i)
  | _ => False
noncomputable def SqP (o : AO) (k k' : List AV → Prop) : Prop := match o with
  | .list xs | .flist xs => k xs
  | .tup xs => k' xs
  | _ => False
noncomputable def SliP (σ : Hp) (x l h t : AV) (Q : Post) : Prop := match x with
  | .ref a => OkP (σ a) fun o => SqP o (fun xs => PartP l fun lo => PartP h fun hi => PartP t fun st => (st ≠ some 0 ∧ xs.length < tooLong) ∧ NewO σ (.list (cut xs lo hi st)) Q)
      fun xs => NonP l (IntP h fun i => NonP t ((0 ≤ i ∧ i.toNat < xs.length ∧ xs.length < tooLong) ∧ NewO σ (.tup (xs.take i.toNat)) Q))
  | .str s => PartP l fun lo => PartP h fun hi => NonP t (s.length < tooLong ∧ Q (.str (cut s lo hi none)) σ)
  | _ => False
noncomputable def OwnL (o : AO) (k : List AV → Prop) : Prop := match o with
  | .list xs => k xs
  | _ => False
noncomputable def DicP (o : AO) (k : List (Txt × AV) → Prop) : Prop := match o with
  | .dict es | .fdict es => k es
  | _ => False
noncomputable def TupP (o : AO) (k : List AV → Prop) : Prop := match o with
  | .tup xs => k xs
  | _ => False
noncomputable def strs? : List AV → Option (List Txt)
  | [] => some []
  | .str s :: r => (strs? r).map (s :: ·)
  | _ => none
noncomputable def bools? : List AV → Option (List Bool)
  | [] => some []
  | .bool s :: r => (bools? r).map (s :: ·)
  | _ => none
noncomputable def ThreeP (vs : List AV) (f : AV → AV → AV → Prop) : Prop := match vs with
  | [x, y, z] => f x y z
  | _ => False
noncomputable def FourP (vs : List AV) (f : AV → AV → AV → AV → Prop) : Prop := match vs with
  | [x, y, z, u] => f x y z u
  | _ => False
noncomputable def InstP (o : AO) (k : String → Addr → Prop) : Prop := match o with
  | .inst c d => k c d
  | _ => False
noncomputable def AttP (o : AO) (k : List (Txt × AV) → Prop) : Prop := match o with
  | .attrs es => k es
  | _ => False
noncomputable def ExcP (o : AO) (k : String → Option Addr → Prop) : Prop := match o with
  | .exc c d => k c d
  | _ => False
/-- an object of a class: the class, the place of its attributes, its attributes -/
noncomputable def ObjP (σ : Hp) (v : AV) (k : String → Addr → List (Txt × AV) → Prop) : Prop := RefP v fun a => OkP (σ a) fun o => InstP o fun c d => OkP (σ d) fun oa => AttP oa fun es => k c d es
noncomputable def initT : Txt := [95, 95, 105, 110, 105, 116, 95, 95]
/-- one operation: what must hold so that it gives -/
noncomputable def Op : Type := Hp → List AV → Post → Prop
namespace Op
noncomputable def add : Op := fun σ vs Q => TwoP vs fun x y => AddP σ x y Q
noncomputable def sub : Op := fun σ vs Q => IIP vs fun a b => Q (.int (a - b)) σ
noncomputable def mul : Op := fun σ vs Q => IIP vs fun a b => (a.natAbs < 2 ^ 64 ∨ b.natAbs < 2 ^ 64) ∧ Q (.int (a * b)) σ
noncomputable def fdiv : Op := fun σ vs Q => IIP vs fun a b => (b ≠ 0 ∧ b.natAbs < 1073741824) ∧ Q (.int (Int.fdiv a b)) σ
noncomputable def mod : Op := fun σ vs Q => IIP vs fun a b => b ≠ 0 ∧ Q (.int (Int.fmod a b)) σ
noncomputable def neg : Op := fun σ vs Q => OneP vs fun x => IntP x fun i => Q (.int (-i)) σ
noncomputable def not : Op := fun σ vs Q => OneP vs fun v => TruP v fun b => Q (.bool !b) σ
noncomputable def eq : Op := fun σ vs Q => TwoP vs fun x y => EqP σ x y fun b => Q (.bool b) σ
noncomputable def ne : Op := fun σ vs Q => TwoP vs fun x y => NeP x y fun b => Q (.bool b) σ
noncomputable def lt : Op := fun σ vs Q => IIP vs fun a b => Q (.bool (decide (a < b))) σ
noncomputable def le : Op := fun σ vs Q => IIP vs fun a b => Q (.bool (decide (a ≤ b))) σ
noncomputable def gt : Op := fun σ vs Q => IIP vs fun a b => Q (.bool (decide (b < a))) σ
noncomputable def ge : Op := fun σ vs Q => IIP vs fun a b => Q (.bool (decide (b ≤ a))) σ
noncomputable def is : Op := fun σ vs Q => TwoP vs fun x y => NonP y (Q (.bool (isN x)) σ)
noncomputable def isnot : Op := fun σ vs Q => TwoP vs fun x y => NonP y (Q (.bool !(isN x)) σ)
noncomputable def isin : Op := fun σ vs Q => TwoP vs fun x y => InP σ x y fun b => Q (.bool b) σ
noncomputable def notin : Op := fun σ vs Q => TwoP vs fun x y => InP σ x y fun b => Q (.bool !b) σ
noncomputable def len : Op := fun σ vs Q => OneP vs fun x => LenP σ x fun n => n < tooLong ∧ Q (.int (n : Int)) σ
noncomputable def isinst (ts : List String) : Op := fun σ vs Q => OneP vs fun v => OkP (kindIs σ v) fun q => Q (.bool (isOf q ts)) σ
noncomputable def toInt : Op := fun σ vs Q => OneP vs fun x => BoolP x fun b => Q (.int (b2i b)) σ
noncomputable def toStr : Op := fun σ vs Q => OneP vs fun x => IntP x fun i => i.natAbs < 10 ^ 9 ∧ Q (.str (figs i)) σ
noncomputable def toDict : Op := fun σ vs Q => OneP vs fun x => RefP x fun a => OkP (σ a) fun o => DicP o fun es => es.length < tooLong ∧ NewO σ (.dict es) Q
noncomputable def min : Op := fun σ vs Q => IIP vs fun a b => Q (.int (if b < a then b else a)) σ
noncomputable def max : Op := fun σ vs Q => IIP vs fun a b => Q (.int (if a < b then b else a)) σ
noncomputable def all : Op := fun σ vs Q => OneP vs fun x => RefP x fun a => OkP (σ a) fun o => OwnL o fun xs => OkP (bools? xs) fun bs => Q (.bool (bs.all id)) σ
noncomputable def item : Op := fun σ vs Q => TwoP vs fun x y => ItemP σ x y Q
noncomputable def slice : Op := fun σ vs Q => FourP vs fun x l h t => SliP σ x l h t Q
noncomputable def mkList : Op := fun σ vs Q => vs.length < tooLong ∧ NewO σ (.list vs) Q
noncomputable def mkTup : Op := fun σ vs Q => vs.length < tooLong ∧ NewO σ (.tup vs) Q
noncomputable def mkDict0 : Op := fun σ vs Q => vs.length = 0 ∧ NewO σ (.dict []) Q
end Op
/-- a method of a plain object -/
structure BOp where
  self : String
  p : Op
namespace BOp
noncomputable def append : BOp := ⟨"list", fun σ vs Q => TwoP vs fun x v => RefP x fun a => OkP (σ a) fun o => OwnL o fun xs => xs.length < tooLong ∧ SetO σ a (.list (xs ++ [v])) fun σ' => Q .none σ'⟩
noncomputable def get : BOp := ⟨"dict", fun σ vs Q => ThreeP vs fun x y v => RefP x fun a => StrP y fun kk => OkP (σ a) fun o => DicP o fun es => Q ((es.lookup kk).getD v) σ⟩
noncomputable def index : BOp := ⟨"list", fun σ vs Q => TwoP vs fun x y => RefP x fun a => StrP y fun kk => OkP (σ a) fun o => OwnL o fun xs => OkP (strs? xs) fun ss => OkP (ss.findIdx? (· == kk)) fun j => ss.length < tooLong ∧ Q (.int (j : Int)) σ⟩
noncomputable def join : BOp := ⟨"str", fun σ vs Q => TwoP vs fun x y => StrP x fun sep => RefP y fun a => OkP (σ a) fun o => OwnL o fun xs => OkP (strs? xs) fun ss => (ss.map List.length).sum + ss.length * sep.length < tooLong ∧ Q (.str (joinT sep ss)) σ⟩
noncomputable def extend : BOp := ⟨"list", fun σ vs Q => TwoP vs fun x y => RefP x fun a => RefP y fun b => OkP (σ a) fun o => OwnL o fun xs => OkP (σ b) fun p => OwnL p fun ys => xs.length + ys.length < tooLong ∧ SetO σ a (.list (xs ++ ys)) fun σ' => Q .none σ'⟩
noncomputable def pop : BOp := ⟨"list", fun σ vs Q => OneP vs fun x => RefP x fun a => OkP (σ a) fun o => OwnL o fun xs => OkP xs.getLast? fun v => xs.length < tooLong ∧ SetO σ a (.list xs.dropLast) fun σ' => Q v σ'⟩
end BOp
noncomputable def bindIt (σ : Hp) : List Nat → It → Loc → Option Loc
  | [i], .one v, ρ => some (ρ.set i (some v))
  | [i, j], .two a b, ρ => some ((ρ.set i (some a)).set j (some b))
  | is, .one (.ref t), ρ => if 2 ≤ is.length then (match σ t with | some (.tup vs) => if vs.length = is.length then some (setAll ρ is vs) else none | _ => none) else none
  | _, _, _ => none
noncomputable def pIn (g : Gd) (σ : Hp) (Q : Hp → Prop) : Prop := match g with
  | .ice a es => Q (setH σ a (.fdict es))
  | .no => Q σ
  | .keep .. => Q σ
noncomputable def pOut (g : Gd) (σ : Hp) (Q : Hp → Prop) : Prop := match g with
  | .ice a es => Q (setH σ a (.dict es))
  | .no => Q σ
  | .keep .. => Q σ
noncomputable def pCompL (step : Loc → Hp → (Option AV → Hp → Prop) → Prop) (is : List Nat) (ρ : Loc) (g : Gd) : List It → List AV → Hp → Post → Prop
  | [], acc, σ, Q => gOk g σ ∧ pOut g σ fun σ' => NewO σ' (.list acc) Q
  | it :: r, acc, σ, Q => gOk g σ ∧ acc.length < tooLong ∧ ∃ ρ', bindIt σ is it ρ = some ρ' ∧ step ρ' σ fun v σ' => pCompL step is ρ g r (match v with | some v => acc ++ [v] | none => acc) σ' Q
noncomputable def itP (a : Addr) (o : AO) (Q : List It → Gd → Prop) : Prop := match o with
  | .list vs => Q (vs.map .one) (.keep a (.list vs))
  | .flist vs => Q (vs.map .one) (.keep a (.flist vs))
  | .tup vs => Q (vs.map .one) (.keep a (.tup vs))
  | .dict es => Q (es.map fun e => .one (.str e.1)) (.ice a es)
  | _ => False
noncomputable def pIters (σ : Hp) (v : AV) (Q : List It → Gd → Prop) : Prop := match v with
  | .ref a => OkP (σ a) fun o => itP a o Q
  | .str s => (∀ c ∈ s, c < 128) ∧ Q (s.map fun c => .one (.str [c])) .no
  | _ => False
noncomputable def rngP (vs : List AV) (Q : List It → Gd → Prop) : Prop := match vs with
  | [x] => IntP x fun hi => hi.natAbs < tooLong ∧ Q (rangeOf 0 hi) .no
  | [x, y] => IntP x fun lo => IntP y fun hi => (lo.natAbs < tooLong ∧ hi.natAbs < tooLong) ∧ Q (rangeOf lo hi) .no
  | _ => False
/-- trees: what must hold so that they give -/
noncomputable def PE : Type := Kx → Bool → Nat → Loc → Hp → Post → XPost → Prop
noncomputable def PI : Type := Kx → Bool → Nat → Loc → Hp → (List It → Gd → Hp → Prop) → XPost → Prop
noncomputable def Tgt : Type := Kx → Bool → Nat → AV → Loc → Hp → SPost → XPost → Prop
noncomputable def PS : Type := Kx → Bool → Nat → Loc → Hp → SPost → Post → SX → Prop
noncomputable def pEs (K : Kx) (hd : Bool) (d : Nat) : List PE → Loc → Hp → (List AV → Hp → Prop) → XPost → Prop
  | [], _, σ, Q, _ => Q [] σ
  | e :: es, ρ, σ, Q, X => e K hd d ρ σ (fun v σ' => pEs K hd d es ρ σ' (fun vs σ'' => Q (v :: vs) σ'') X) X
noncomputable def pC (K : Kx) (hd : Bool) (d : Nat) (c : Option PE) (ρ : Loc) (σ : Hp) (Q : Bool → Hp → Prop) (X : XPost) : Prop := match c with
  | none => Q true σ
  | some e => e K hd d ρ σ (fun v σ' => TruP v fun t => Q t σ') X
namespace PE
noncomputable def lit (v : AV) : PE := fun _ _ _ _ σ Q _ => Q v σ
noncomputable def loc (i : Nat) : PE := fun _ _ _ ρ σ Q _ => OkP (locAt ρ i) fun v => Q v σ
noncomputable def prim (op : Op) (es : List PE) : PE := fun K hd d ρ σ Q X => pEs K hd d es ρ σ (fun vs σ' => op σ' vs Q) X
noncomputable def bm (op : BOp) (o : PE) (es : List PE) : PE := fun K hd d ρ σ Q X => o K hd d ρ σ (fun v σ₁ => kindIs σ₁ v = some op.self ∧ pEs K hd d es ρ σ₁ (fun vs σ' => op.p σ' (v :: vs) Q) X) X
noncomputable def and (a b : PE) : PE := fun K hd d ρ σ Q X => a K hd d ρ σ (fun v σ' => TruP v fun t => WifP t (b K hd d ρ σ' Q X) (Q v σ')) X
noncomputable def or (a b : PE) : PE := fun K hd d ρ σ Q X => a K hd d ρ σ (fun v σ' => TruP v fun t => WifP t (Q v σ') (b K hd d ρ σ' Q X)) X
noncomputable def ite (c a b : PE) : PE := fun K hd d ρ σ Q X => c K hd d ρ σ (fun v σ' => TruP v fun t => WifP t (a K hd d ρ σ' Q X) (b K hd d ρ σ' Q X)) X
noncomputable def cmp2 (o₁ o₂ : Op) (a b c : PE) : PE := fun K hd d ρ σ Q X => a K hd d ρ σ (fun x σ₁ => b K hd d ρ σ₁ (fun y σ₂ => o₁ σ₂ [x, y] fun v σ₃ => TruP v fun t =>
      WifP t (c K hd d ρ σ₃ (fun z σ₄ => o₂ σ₄ [y, z] Q) X) (Q v σ₃)) X) X
noncomputable def fn (f : String) (es : List PE) : PE := fun K hd d ρ σ Q X => pEs K hd d es ρ σ (fun vs σ' => d ≠ 0 ∧ K.fn hd (d - 1) f vs σ' Q X) X
noncomputable def attr (n : Txt) (o : PE) : PE := fun K hd d ρ σ Q X => o K hd d ρ σ (fun v σ' => ObjP σ' v fun c _ es => K.att c n ∧ OkP (es.lookup n) fun u => Q u σ') X
noncomputable def meth (m : Txt) (f : String) (o : PE) (es : List PE) : PE := fun K hd d ρ σ Q X => o K hd d ρ σ (fun v σ₁ => ObjP σ₁ v fun c _ as => (K.mth c m f ∧ as.lookup m = none) ∧ pEs K hd d es ρ σ₁ (fun vs σ' => d ≠ 0 ∧ K.fn hd (d - 1) f (v :: vs) σ' Q X) X) X
/-- a new object of a class: its maker runs on it -/
noncomputable def new (c f : String) (es : List PE) : PE := fun K hd d ρ σ Q X => (2 ≤ d ∧ K.mth c initT f) ∧ pEs K hd d es ρ σ (fun vs σ' => ∀ a dd, σ' a = none → σ' dd = none → a ≠ dd →
      K.fn hd (d - 2) f (.ref a :: vs) (setH (setH σ' dd (.attrs [])) a (.inst c dd)) (fun r σ'' => r = .none ∧ Q (.ref a) σ'') X) X
/-- a dict of fixed keys: it is made before its values are -/
noncomputable def dict (ks : List Txt) (es : List PE) : PE := fun K hd d ρ σ Q X => ∀ a, σ a = none → pEs K hd d es ρ (setH σ a (.dict [])) (fun vs σ' => (vs.length = ks.length ∧ σ' a = some (.dict [])) ∧ SetO σ' a (.dict (ks.zip vs)) fun σ'' => Q (.ref a) σ'') X
noncomputable def comp (cap : List Bool) (ts : List Nat) (it : PI) (cond : Option PE) (elt : PE) : PE := fun K hd d ρ σ Q X => ρ.length = cap.length ∧ it K hd d ρ σ (fun its g σ₁ => pIn g σ₁ fun σ₁ =>
      pCompL (fun ρ' σ' k => pC K hd d cond ρ' σ' (fun t σ'' => WifP t (elt K hd d ρ' σ'' (fun v => k (some v)) fun a σ => g.iced = false ∧ X a σ) (k none σ'')) fun a σ => g.iced = false ∧ X a σ) ts (maskL cap ρ ++ ts.map fun _ => none) g its [] σ₁ Q) X
end PE
namespace PI
noncomputable def val (e : PE) : PI := fun K hd d ρ σ Q X => e K hd d ρ σ (fun v σ' => pIters σ' v fun its g => Q its g σ') X
noncomputable def range (es : List PE) : PI := fun K hd d ρ σ Q X => pEs K hd d es ρ σ (fun vs σ' => rngP vs fun its g => Q its g σ') X
end PI
noncomputable def pForL (body : Loc → Hp → SPost → Prop) (is : List Nat) (g : Gd) : List It → Loc → Hp → SPost → Prop
  | [], ρ, σ, Q => gOk g σ ∧ pOut g σ fun σ' => Q ρ σ'
  | it :: r, ρ, σ, Q => gOk g σ ∧ ∃ ρ', bindIt σ is it ρ = some ρ' ∧ body ρ' σ fun ρ'' σ' => pForL body is g r ρ'' σ' Q
noncomputable def ix (i : Int) (n : Nat) : Option Nat := if 0 ≤ i ∧ i < n ∧ i.natAbs < 2 ^ 62 then some i.toNat else none
noncomputable def stoP (a : Addr) (o : AO) (y v : AV) (σ : Hp) (k : Hp → Prop) : Prop := match o with
  | .list vs => IntP y fun i => OkP (ix i vs.length) fun j => SetO σ a (.list (vs.set j v)) k
  | .dict es => StrP y fun i => es.length < tooLong ∧ SetO σ a (.dict (dset es i v)) k
  | _ => False
noncomputable def StoP (x y v : AV) (σ : Hp) (k : Hp → Prop) : Prop := RefP x fun a => OkP (σ a) fun o => stoP a o y v σ k
namespace Tgt
noncomputable def name (i : Nat) : Tgt := fun _ _ _ v ρ σ Q _ => Q (ρ.set i (some v)) σ
noncomputable def tup (is : List Nat) : Tgt := fun _ _ _ v ρ σ Q _ => RefP v fun t => OkP (σ t) fun o => TupP o fun vs => vs.length = is.length ∧ Q (setAll ρ is vs) σ
noncomputable def item (o i : PE) : Tgt := fun K hd d v ρ σ Q X => o K hd d ρ σ (fun x σ₁ => i K hd d ρ σ₁ (fun y σ₂ => StoP x y v σ₂ fun σ₃ => Q ρ σ₃) X) X
noncomputable def attr (o : PE) (n : Txt) : Tgt := fun K hd d v ρ σ Q X => o K hd d ρ σ (fun x σ₁ => ObjP σ₁ x fun c dd es => (K.att c n ∧ es.length < tooLong) ∧ SetO σ₁ dd (.attrs (dset es n v)) fun σ' => Q ρ σ') X
end Tgt
noncomputable def pSs (K : Kx) (hd : Bool) (d : Nat) : List PS → Loc → Hp → SPost → Post → SX → Prop
  | [], ρ, σ, Qn, _, _ => Qn ρ σ
  | s :: r, ρ, σ, Qn, Qr, X => s K hd d ρ σ (fun ρ' σ' => pSs K hd d r ρ' σ' Qn Qr X) Qr X
namespace PS
noncomputable def expr (e : PE) : PS := fun K hd d ρ σ Qn _ X => e K hd d ρ σ (fun _ σ' => Qn ρ σ') (X ρ)
noncomputable def ret (e : PE) : PS := fun K hd d ρ σ _ Qr X => e K hd d ρ σ Qr (X ρ)
noncomputable def assign (t : Tgt) (e : PE) : PS := fun K hd d ρ σ Qn _ X => e K hd d ρ σ (fun v σ' => t K hd d v ρ σ' Qn (X ρ)) (X ρ)
noncomputable def iff (c : PE) (a b : List PS) : PS := fun K hd d ρ σ Qn Qr X => c K hd d ρ σ (fun v σ' => TruP v fun t => WifP t (pSs K hd d a ρ σ' Qn Qr X) (pSs K hd d b ρ σ' Qn Qr X)) (X ρ)
noncomputable def «for» (is : List Nat) (it : PI) (body : List PS) : PS := fun K hd d ρ σ Qn Qr X => it K hd d ρ σ (fun its g σ' => pIn g σ' fun σ' => pForL (fun ρ' σ'' k => pSs K hd d body ρ' σ'' k (fun v σ => g.iced = false ∧ Qr v σ) (fun ρ a σ => g.iced = false ∧ X ρ a σ)) is g its ρ σ' Qn) (X ρ)
noncomputable def «while» (c : PE) (body : List PS) : PS := fun K hd d ρ σ Qn Qr X => ∃ I : Nat → Loc → Hp → Prop, (∃ n, I n ρ σ) ∧ ∀ n ρ' σ', I n ρ' σ' →
      c K hd d ρ' σ' (fun v σ'' => TruP v fun t => WifP t (pSs K hd d body ρ' σ'' (fun ρ₁ σ₁ => ∃ m, m < n ∧ I m ρ₁ σ₁) Qr X) (Qn ρ' σ'')) (X ρ')
/-- raise C(..): C an exception without a maker of its own -/
noncomputable def raise (c : String) (es : List PE) : PS := fun K hd d ρ σ _ _ X => K.exc c ∧ pEs K hd d es ρ σ (fun vs σ' => vs.length < tooLong ∧ ∀ a, σ' a = none → X ρ a (setH σ' a (.exc c none))) (X ρ)
/-- except C: C itself alone may come -/
noncomputable def «try» (body : List PS) (c : String) (handler : List PS) : PS := fun K hd d ρ σ Qn Qr X => pSs K hd d body ρ σ Qn Qr (fun ρ' a σ' => OkP (σ' a) fun o => ExcP o fun c' _ => (c' = c ∧ K.exc c) ∧ pSs K true d handler ρ' σ' Qn Qr (fun _ _ _ => False))
end PS
structure Fn where
  np : Nat
  names : Nat
  body : List PS
noncomputable def args1 (n : Nat) (vs : List AV) : Loc := vs.map some ++ List.replicate (n - vs.length) none
/-- what a law's text offers: its functions -/
structure Tab (K : Kx) (tab : List (String × Fn)) : Prop where
  ent : ∀ n fn, (n, fn) ∈ tab → ∀ {d vs σ Q X}, vs.length = fn.np → pSs K false d fn.body (args1 fn.names vs) σ (fun _ σ' => Q .none σ') Q (fun _ a σ' => X a σ') → K.fn false d n vs σ Q X
theorem setH_here (σ : Hp) (a : Addr) (o : AO) : setH σ a o a = some o := if_pos rfl
theorem setH_ne {σ : Hp} {a b : Addr} {o : AO} (h : b ≠ a) : setH σ a o b = σ b := if_neg h
theorem setH_old {σ : Hp} {a b : Addr} {o p : AO} (h : σ b = some p) (h' : σ a = none) : setH σ a o b = some p := by
  rw [setH_ne fun e => by rw [e, h'] at h; cases h]; exact h
end U
namespace U
open PySem
set_option genSizeOf false
set_option genInjectivity false
noncomputable def toS (s : Txt) : Str := ⟨s.toArray⟩
noncomputable def AV.is : AV → Value → Prop
  | .none, v => v = .none
  | .bool b, v => v = .bool b
  | .int i, v => ∃ t, v = .int i t
  | .str s, v => ∃ t, v = .str (toS s) t
  | .ref a, v => v = .ref a
/-- two lists, item by item -/
inductive All2 {α β : Type} (R : α → β → Prop) : List α → List β → Prop where
  | nil : All2 R [] []
  | cons {x y xs ys} : R x y → All2 R xs ys → All2 R (x :: xs) (y :: ys)
structure Cx where
  prog : Program
  w : World
  base : Heap
  gens : Array GenState
  os : OsState
  /-- the addresses of the text's own classes -/
  clsAt : String → Option Addr
  /-- the addresses of the text's functions, and of its classes' -/
  fnAt : String → Option Addr
noncomputable def Ent (kv : Txt × AV) (c : Str × Value) : Prop := c.1 = toS kv.1 ∧ kv.2.is c.2
abbrev seqObj (T : String) (cs : Array Value) (n : Nat) : Obj := ⟨.type T, none, .seq cs n, #[]⟩
noncomputable def SeqOb (T : String) (ob : Obj) (vs : List AV) : Prop := ∃ cs n, ob = seqObj T cs n ∧ All2 AV.is vs cs.toList
noncomputable def DicOb (C : Cx) (ob : Obj) (es : List (Txt × AV)) : Prop := ∃ kvs, All2 Ent es kvs ∧ ∀ (h : Heap) b, h.get? b = some ob → h.DictOf (strKind C.prog C.w) b kvs
/-- the attributes of an object: names and values, in no order -/
noncomputable def AttM (es : List (Txt × AV)) (m : Str → Option Value) : Prop := ∀ k, (es.lookup k = none → m (toS k) = none) ∧ ∀ v, es.lookup k = some v → ∃ cv, m (toS k) = some cv ∧ v.is cv
noncomputable def AttOb (ob : Obj) (es : List (Txt × AV)) : Prop := ob.cls = .type "dict" ∧ ob.dict = none ∧ ∃ m, AttM es m ∧ ∀ (h : Heap) b, h.get? b = some ob → h.Ns1 b m
/-- an entry of a traceback -/
noncomputable def IsTb (o : Obj) : Prop := o.cls = .type "traceback" ∧ ∃ ts, o.data = .fields ts ∧ 4 < ts.size
noncomputable def TbOk (C : Cx) (h : Heap) (vs : Array Value) : Prop := vs[1]? = some .none ∨ ∃ T o, vs[1]? = some (.ref T) ∧ h.get? T = some o ∧ IsTb o ∧ C.base.get? T = none
noncomputable def ExOb (C : Cx) (h : Heap) (ob : Obj) (c : String) (d : Option Addr) : Prop := ∃ ca vs, C.clsAt c = some ca ∧ ob.cls = .ref ca ∧ ob.dict = d ∧ ob.data = .fields vs ∧ 4 < vs.size ∧ vs[2]? = some .none ∧ TbOk C h vs
/-- the concrete object bears the abstract one -/
noncomputable def Ob (C : Cx) (h : Heap) (a : Addr) (ob : Obj) : AO → Prop
  | .list vs => SeqOb "list" ob vs
  | .flist vs => SeqOb "list" ob vs
  | .tup vs => SeqOb "tuple" ob vs
  | .dict es => DicOb C ob es ∧ (a == sysModules) = false
  | .fdict es => DicOb C ob es ∧ (a == sysModules) = false
  | .inst c d => ∃ ca, C.clsAt c = some ca ∧ ob.cls = .ref ca ∧ ob.dict = some d ∧ ∀ k, ob.data ≠ .cls k
  | .attrs es => AttOb ob es
  | .exc c d => ExOb C h ob c d
noncomputable def Is (C : Cx) (h : Heap) (a : Addr) (o : AO) : Prop := ∃ ob, h.get? a = some ob ∧ Ob C h a ob o
noncomputable def AO.mut : AO → Bool
  | .list _ | .dict _ | .attrs _ | .exc .. => true
  | _ => false
structure Fx where
  hx : Option Addr
  env : Env
  names : List Str
  fs : List Env
/-- what is kept: (true) things that σ knows nothing of, (false) dicts that are walked -/
abbrev Kept := Bool → Addr → Obj → Prop
structure Hid (z : Bool) (o o' : Obj) : Prop where
  cls : o'.cls = o.cls
  data : o'.data = o.data
  same : (z = false ∨ ∀ es n, o.data ≠ .dict es n) → o' = o
  noTb : ¬ IsTb o
theorem Hid.refl {z : Bool} {o : Obj} (h : ¬ IsTb o) : Hid z o o := ⟨rfl, rfl, fun _ => rfl, h⟩
noncomputable def FZ (z : Bool) (x : Option AO) : Prop := match z with
  | true => x = none
  | false => ∃ es, x = some (.fdict es)
/-- where the names of the frame stand -/
structure Locs (env : Env) (names : List Str) (ρ : Loc) (h : Heap) (m cm : Str → Option Value) : Prop where
  ns : h.Ns env.locals m
  cell : ∀ x c, env.cells.lookup x = some c → h.IsCell c (cm x)
  val : ∀ (i : Nat) x v, names[i]? = some x → ρ[i]? = some (some v) → ∃ cv, v.is cv ∧
    ((env.kindOf x = some .local ∧ m x = some cv) ∨ (env.kindOf x = some .cell ∧ (env.cells.lookup x).isSome = true ∧ cm x = some cv))
noncomputable def IsD (o : Obj) : Prop := ∃ es n, o.data = .dict es n
/-- the state, the frame at hand aside -/
structure StB (C : Cx) (P : Kept) (hx : Option Addr) (fs : List Env) (σ : Hp) (s : Shared) : Prop where
  base : ∀ b o, C.base.get? b = some o → s.heap.get? b = some o
  hid : ∀ z b o, P z b o → (∃ o', s.heap.get? b = some o' ∧ Hid z o o') ∧ FZ z (σ b)
  rel : ∀ b o, σ b = some o → Is C s.heap b o
  nb : ∀ b o, σ b = some o → o.mut = true → C.base.get? b = none
  go : s.gens = C.gens ∧ s.os = C.os
  frs : ∀ e ∈ fs, e.scope.kind ≠ .module ∧ ∃ L o, e.frame = some L ∧ s.heap.get? L = some o ∧ IsD o ∧ C.base.get? L = none ∧ σ L = none
  hand : ∀ x, hx = some x → ∃ c d, σ x = some (.exc c d)
noncomputable def Own (env : Env) (b : Addr) : Prop := b = env.locals ∨ ∃ x, env.cells.lookup x = some b
structure St (C : Cx) (P : Kept) (f : Fx) (ρ : Loc) (σ : Hp) (s : Shared) : Prop extends StB C P f.hx f.fs σ s where
  locs : ∃ m cm, Locs f.env f.names ρ s.heap m cm
  own : ∀ b, Own f.env b → σ b = none ∧ C.base.get? b = none ∧ ∀ z o, ¬ P z b o
/-- an address that the frame knows nothing of -/
structure Off (C : Cx) (P : Kept) (f : Fx) (b : Addr) : Prop where
  base : C.base.get? b = none
  P : ∀ z o, ¬ P z b o
  own : ¬ Own f.env b
  fr : ∀ e ∈ f.fs, e.frame ≠ some b
/-- an object stays, but for the slots of a frame -/
noncomputable def Kp (fs : List Env) (b : Addr) (o o' : Obj) : Prop := o' = o ∨ ((∃ e ∈ fs, e.frame = some b) ∧ IsD o ∧ ∃ sl, o' = { o with slots := sl })
end U
namespace U
open PySem
theorem clash {α : Type} {x : Option α} {a : α} {p : Prop} (h : x = some a) (h' : x = none) : p := by rw [h] at h'; cases h'
theorem same {α : Type} {x : Option α} {a b : α} (h : x = some a) (h' : x = some b) : a = b := Option.some.inj (h.symm.trans h')
theorem neN {σ : Hp} {a b : Addr} {p : AO} (h : σ b = some p) (h' : σ a = none) : b ≠ a := fun e => clash h (by rw [e]; exact h')
theorem neO {σ : Hp} {a b : Addr} {p q : AO} (h : σ b = some p) (h' : σ a = some q) (hne : q ≠ p) : b ≠ a := fun e => hne (same h' (by rw [← e]; exact h))
theorem seqOb_noTb {T : String} {ob : Obj} {vs : List AV} (x : SeqOb T ob vs) : ¬ IsTb ob := fun ⟨_, _, t, _⟩ => by obtain ⟨cs, n, rfl, _⟩ := x; cases t
theorem isD_noTb {ob : Obj} (x : IsD ob) : ¬ IsTb ob := fun ⟨_, _, t, _⟩ => by obtain ⟨es, n, e⟩ := x; rw [e] at t; cases t
theorem dicOb_isD {C : Cx} {h : Heap} {b : Addr} {ob : Obj} {es : List (Txt × AV)} (g : h.get? b = some ob) (x : DicOb C ob es) : IsD ob := by
  obtain ⟨kvs, _, k⟩ := x
  obtain ⟨o, es, ep, e1, _, e2, _⟩ := k _ _ g
  rw [← same g e1] at e2; exact ⟨es, ep, e2⟩
theorem attOb_isD {h : Heap} {b : Addr} {ob : Obj} {es : List (Txt × AV)} (g : h.get? b = some ob) (x : AttOb ob es) : IsD ob := by
  obtain ⟨_, _, m, _, k⟩ := x
  obtain ⟨o, es, ep, e1, e2, _⟩ := k _ _ g
  rw [← same g e1] at e2; exact ⟨es, ep, e2⟩
theorem Ob.noTb {C : Cx} {h : Heap} {b : Addr} {ob : Obj} {o : AO} (g : h.get? b = some ob) (x : Ob C h b ob o) : ¬ IsTb ob := by
  cases o with
  | list _ => exact seqOb_noTb x
  | flist _ => exact seqOb_noTb x
  | tup _ => exact seqOb_noTb x
  | dict _ => exact isD_noTb (dicOb_isD g x.1)
  | fdict _ => exact isD_noTb (dicOb_isD g x.1)
  | attrs _ => exact isD_noTb (attOb_isD g x)
  | inst _ _ => obtain ⟨ca, _, e, _⟩ := x; exact fun ⟨t, _⟩ => nomatch (e.symm.trans t)
  | exc _ _ => obtain ⟨ca, vs, _, e, _⟩ := x; exact fun ⟨t, _⟩ => nomatch (e.symm.trans t)
/-- entries of tracebacks stay such -/
noncomputable def TbK (h h' : Heap) : Prop := ∀ T o, h.get? T = some o → IsTb o → ∃ o', h'.get? T = some o' ∧ IsTb o'
theorem Ob.keep {C : Cx} {h h' : Heap} (k : TbK h h') {b : Addr} {ob : Obj} {o : AO} (x : Ob C h b ob o) : Ob C h' b ob o := by
  cases o with
  | exc _ _ =>
    obtain ⟨ca, vs, e1, e2, e3, e4, e5, e6, e7⟩ := x
    exact ⟨ca, vs, e1, e2, e3, e4, e5, e6, e7.imp id fun ⟨T, o, t1, t2, t3, t4⟩ => let ⟨o', t5, t6⟩ := k T o t2 t3; ⟨T, o', t1, t5, t6, t4⟩⟩
  | _ => exact x
theorem Is.noTb {C : Cx} {h : Heap} {b : Addr} {ob : Obj} {o : AO} (x : Is C h b o) (g : h.get? b = some ob) : ¬ IsTb ob := by
  obtain ⟨ob', g', x⟩ := x
  rw [same g g']; exact x.noTb g'
theorem Locs.keep {env : Env} {names : List Str} {ρ : Loc} {h h' : Heap} {m cm : Str → Option Value} (L : Locs env names ρ h m cm) (k : ∀ b o, Own env b → h.get? b = some o → ∃ o', h'.get? b = some o' ∧ o'.data = o.data) : Locs env names ρ h' m cm where
  ns := let ⟨o, es, ep, e, e1, r⟩ := L.ns; let ⟨o', e', d⟩ := k _ o (.inl rfl) e; ⟨o', es, ep, e', d.trans e1, r⟩
  cell := fun x c hc => let ⟨o, e, e1⟩ := L.cell x c hc; let ⟨o', e', d⟩ := k _ o (.inr ⟨x, hc⟩) e; ⟨o', e', d.trans e1⟩
  val := L.val
theorem Locs.noTb {env : Env} {names : List Str} {ρ : Loc} {h : Heap} {m cm : Str → Option Value} (L : Locs env names ρ h m cm) {b : Addr} {o : Obj} (hb : Own env b) (e : h.get? b = some o) : ¬ IsTb o := by
  rintro ⟨_, ts, t, _⟩
  rcases hb with rfl | ⟨x, hx⟩
  · obtain ⟨o', es, ep, e', e'', _⟩ := L.ns
    rw [same e e', e''] at t; cases t
  · obtain ⟨o', e', e''⟩ := L.cell x b hx
    rw [same e e', e''] at t; cases t
theorem Locs.has {env : Env} {names : List Str} {ρ : Loc} {h : Heap} {m cm : Str → Option Value} (L : Locs env names ρ h m cm) {b : Addr} (hb : Own env b) : ∃ o, h.get? b = some o := by
  rcases hb with rfl | ⟨x, hx⟩
  · obtain ⟨o', es, ep, e', _⟩ := L.ns; exact ⟨o', e'⟩
  · obtain ⟨o', e', _⟩ := L.cell x b hx; exact ⟨o', e'⟩
section
variable {C : Cx} {P P' : Kept} {hx : Option Addr} {fs : List Env} {f : Fx} {ρ : Loc} {σ σ' : Hp} {s s' : Shared} {a : Addr} {o o' : AO}
theorem StB.frNone (S : StB C P hx fs σ s) {b : Addr} (h : ∃ e ∈ fs, e.frame = some b) : σ b = none ∧ C.base.get? b = none := by
  obtain ⟨e, he, h⟩ := h
  obtain ⟨_, L, o, h2, _, _, h5, h6⟩ := S.frs e he
  rw [← same h h2] at h5 h6; exact ⟨h6, h5⟩
/-- the state goes on: what lies in T may have turned -/
theorem StB.step (S : StB C P hx fs σ s) (T : Addr → Prop) (hT : ∀ b, T b → C.base.get? b = none ∧ ∀ z o, ¬ P z b o)
    (hF : ∀ e ∈ fs, ∀ L, e.frame = some L → T L → ∃ o, s'.heap.get? L = some o ∧ IsD o)
    (keep : ∀ b o, ¬ T b → s.heap.get? b = some o → ∃ o', s'.heap.get? b = some o' ∧ Kp fs b o o')
    (tb : ∀ b o, T b → s.heap.get? b = some o → IsTb o → ∃ o', s'.heap.get? b = some o' ∧ IsTb o')
    (hσ : ∀ b o, σ' b = some o → (¬ T b ∧ σ b = some o) ∨ (Is C s'.heap b o ∧ C.base.get? b = none ∧ (∀ z o, ¬ P z b o) ∧ ∀ e ∈ fs, e.frame ≠ some b))
    (hk : ∀ b es, ¬ T b → σ b = some (.fdict es) → σ' b = some (.fdict es))
    (hh : ∀ x c d, hx = some x → σ x = some (.exc c d) → ∃ c d, σ' x = some (.exc c d))
    (hg : s'.gens = s.gens) (ho : s'.os = s.os) : StB C P hx fs σ' s' := by
  have ex : ∀ b o, ¬ T b → (¬ ∃ e ∈ fs, e.frame = some b) → s.heap.get? b = some o → s'.heap.get? b = some o := fun b o h1 h2 h3 => by
    obtain ⟨o', h4, h5 | h5⟩ := keep b o h1 h3
    · rw [← h5]; exact h4
    · exact absurd h5.1 h2
  have tbk : TbK s.heap s'.heap := fun b o h1 h2 => by
    by_cases q : T b
    · exact tb b o q h1 h2
    · obtain ⟨o', h4, h5 | h5⟩ := keep b o q h1
      · exact ⟨o', h4, h5 ▸ h2⟩
      · exact absurd h2 (isD_noTb h5.2.1)
  have no : ∀ b, σ b = none → ((∃ z o, P z b o) ∨ ∃ e ∈ fs, e.frame = some b) → σ' b = none := fun b h1 h2 => by
    cases q : σ' b with
    | none => rfl
    | some o =>
      rcases hσ b o q with q | ⟨_, _, q1, q2⟩
      · exact clash q.2 h1
      · rcases h2 with ⟨z, o, h2⟩ | ⟨e, he, h2⟩
        · exact absurd h2 (q1 z o)
        · exact absurd h2 (q2 e he)
  refine ⟨fun b o e => ?_, fun z b o p => ?_, fun b o e => ?_, fun b o e hm => ?_, ⟨hg.trans S.go.1, ho.trans S.go.2⟩, fun e he => ?_, fun x h => ?_⟩
  · exact ex b o (fun ht => clash e (hT b ht).1) (fun h => clash e (S.frNone h).2) (S.base b o e)
  · obtain ⟨⟨o', g, H⟩, fz⟩ := S.hid z b o p
    have nT : ¬ T b := fun ht => (hT b ht).2 z o p
    obtain ⟨o'', g', k⟩ := keep b o' nT g
    refine ⟨⟨o'', g', ?_⟩, ?_⟩
    · rcases k with rfl | ⟨h1, ⟨es, n, h2⟩, sl, rfl⟩
      · exact H
      · refine ⟨H.cls, H.data, fun q => ?_, H.noTb⟩
        rcases q with rfl | q
        · obtain ⟨es, e⟩ := fz; exact clash e (S.frNone h1).1
        · exact absurd (H.data.symm.trans h2) (q es n)
    · cases z with
      | true => exact no b fz (.inl ⟨_, _, p⟩)
      | false => obtain ⟨es, e⟩ := fz; exact ⟨es, hk b es nT e⟩
  · rcases hσ b o e with ⟨h1, h2⟩ | h
    · obtain ⟨ob, g, x⟩ := S.rel b o h2
      exact ⟨ob, ex b ob h1 (fun h => clash h2 (S.frNone h).1) g, x.keep tbk⟩
    · exact h.1
  · rcases hσ b o e with h | h
    · exact S.nb b o h.2 hm
    · exact h.2.1
  · obtain ⟨h1, L, o, h2, h3, h4, h5, h6⟩ := S.frs e he
    have h6' := no L h6 (.inr ⟨e, he, h2⟩)
    by_cases q : T L
    · obtain ⟨o', q1, q2⟩ := hF e he L h2 q
      exact ⟨h1, L, o', h2, q1, q2, h5, h6'⟩
    · obtain ⟨o', q1, q2⟩ := keep L o q h3
      refine ⟨h1, L, o', h2, q1, ?_, h5, h6'⟩
      rcases q2 with rfl | ⟨_, _, sl, rfl⟩
      · exact h4
      · exact h4
  · obtain ⟨c, d, e⟩ := S.hand x h
    exact hh x c d h e
theorem St.step (S : St C P f ρ σ s) (T : Addr → Prop) (hT : ∀ b, T b → Off C P f b)
    (keep : ∀ b o, ¬ T b → s.heap.get? b = some o → ∃ o', s'.heap.get? b = some o' ∧ Kp f.fs b o o')
    (tb : ∀ b o, T b → s.heap.get? b = some o → IsTb o → ∃ o', s'.heap.get? b = some o' ∧ IsTb o')
    (hσ : ∀ b o, σ' b = some o → (¬ T b ∧ σ b = some o) ∨ (Is C s'.heap b o ∧ Off C P f b))
    (hk : ∀ b es, ¬ T b → σ b = some (.fdict es) → σ' b = some (.fdict es))
    (hh : ∀ x c d, f.hx = some x → σ x = some (.exc c d) → ∃ c d, σ' x = some (.exc c d))
    (hg : s'.gens = s.gens) (ho : s'.os = s.os) : St C P f ρ σ' s' where
  toStB := S.toStB.step T (fun b h => ⟨(hT b h).base, (hT b h).P⟩) (fun e he L h t => absurd h ((hT L t).fr e he)) keep tb (fun b o e => (hσ b o e).imp id fun x => ⟨x.1, x.2.base, x.2.P, x.2.fr⟩) hk hh hg ho
  locs := let ⟨m, cm, L⟩ := S.locs; ⟨m, cm, L.keep fun b o hb e => by
    obtain ⟨o', g, k⟩ := keep b o (fun h => (hT b h).own hb) e
    refine ⟨o', g, ?_⟩
    rcases k with rfl | ⟨_, _, sl, rfl⟩
    · rfl
    · rfl⟩
  own := fun b hb => ⟨by
    cases q : σ' b with
    | none => rfl
    | some o =>
      rcases hσ b o q with h | h
      · exact clash h.2 (S.own b hb).1
      · exact absurd hb h.2.own, (S.own b hb).2⟩
theorem StB.newNone (S : StB C P hx fs σ s) (e : s.heap.get? a = none) : σ a = none := by
  cases q : σ a with
  | none => rfl
  | some o => obtain ⟨ob, g, _⟩ := S.rel a o q; exact clash g e
theorem StB.newBase (S : StB C P hx fs σ s) (e : s.heap.get? a = none) : C.base.get? a = none := by
  cases q : C.base.get? a with
  | none => rfl
  | some o => exact clash (S.base a o q) e
theorem StB.newP (S : StB C P hx fs σ s) (e : s.heap.get? a = none) (z : Bool) (o : Obj) : ¬ P z a o := fun h => by obtain ⟨⟨o', g, _⟩, _⟩ := S.hid z a o h; exact clash g e
theorem St.offNew (S : St C P f ρ σ s) (e : s.heap.get? a = none) : Off C P f a where
  base := S.newBase e
  P := S.newP e
  own := fun h => by obtain ⟨m, cm, L⟩ := S.locs; obtain ⟨o, g⟩ := L.has h; exact clash g e
  fr := fun en he h => by
    obtain ⟨_, L, o', e1, e2, _⟩ := S.frs en he
    rw [← same h e1] at e2; exact clash e2 e
theorem St.off (S : St C P f ρ σ s) (e : σ a = some o) (hm : o.mut = true) : Off C P f a where
  base := S.nb a o e hm
  P := fun z o' h => by
    have q := (S.hid z a o' h).2
    cases z with
    | true => exact clash e q
    | false => obtain ⟨es, q⟩ := q; rw [same e q] at hm; cases hm
  own := fun h => clash e (S.own a h).1
  fr := fun en he h => clash e (S.frNone ⟨en, he, h⟩).1
/-- nothing that matters has turned -/
theorem St.keeps (S : St C P f ρ σ s) (keep : ∀ b o, s.heap.get? b = some o → s'.heap.get? b = some o) (hg : s'.gens = s.gens := by rfl) (ho : s'.os = s.os := by rfl) : St C P f ρ σ s' :=
  S.step (fun _ => False) (fun _ h => h.elim) (fun b o _ e => ⟨o, keep b o e, .inl rfl⟩) (fun _ _ h => h.elim) (fun _ _ e => .inl ⟨id, e⟩) (fun _ _ _ e => e) (fun _ c d _ e => ⟨c, d, e⟩) hg ho
theorem St.tok (S : St C P f ρ σ s) (t : Nat) : St C P f ρ σ { s with toks := t } := S.keeps fun _ _ e => e
/-- one address beside the frame may have turned -/
theorem St.junk (S : St C P f ρ σ s) (hi : Off C P f a) (hn : σ a = none) (hc : ∀ o, s.heap.get? a = some o → ¬ IsTb o)
    (keep : ∀ b o, b ≠ a → s.heap.get? b = some o → s'.heap.get? b = some o) (hg : s'.gens = s.gens := by rfl) (ho : s'.os = s.os := by rfl) : St C P f ρ σ s' :=
  S.step (· = a) (fun b h => h ▸ hi) (fun b o h e => ⟨o, keep b o h e, .inl rfl⟩) (fun b o h e t => absurd t (hc o (h ▸ e))) (fun b o e => .inl ⟨(fun h => neN e hn h), e⟩) (fun _ _ _ e => e) (fun _ c d _ e => ⟨c, d, e⟩) hg ho
theorem setH_cases {σ : Hp} {a b : Addr} {o p : AO} (e : setH σ a o b = some p) : (b = a ∧ p = o) ∨ (b ≠ a ∧ σ b = some p) := by
  by_cases h : b = a
  · subst h; rw [setH_here] at e; exact .inl ⟨rfl, (Option.some.inj e).symm⟩
  · rw [setH_ne h] at e; exact .inr ⟨h, e⟩
/-- a new object -/
theorem St.new (S : St C P f ρ σ s) (keep : ∀ b o, s.heap.get? b = some o → s'.heap.get? b = some o) (ha : s.heap.get? a = none) (hi : Is C s'.heap a o)
    (hg : s'.gens = s.gens := by rfl) (ho : s'.os = s.os := by rfl) : St C P f ρ (setH σ a o) s' :=
  S.step (fun _ => False) (fun _ h => h.elim) (fun b o _ e => ⟨o, keep b o e, .inl rfl⟩) (fun _ _ h => h.elim)
    (fun b p e => (setH_cases e).elim (fun q => .inr (by rw [q.1, q.2]; exact ⟨hi, S.offNew ha⟩)) fun q => .inl ⟨id, q.2⟩)
    (fun _ _ _ e => setH_old e (S.newNone ha)) (fun _ c d _ e => ⟨c, d, setH_old e (S.newNone ha)⟩) hg ho
/-- an object of the frame's own has turned -/
theorem St.upd (S : St C P f ρ σ s) (e : σ a = some o) (hm : o.mut = true) (hx : ∀ c d, o ≠ .exc c d) (keep : ∀ b o, b ≠ a → s.heap.get? b = some o → s'.heap.get? b = some o)
    (hi : Is C s'.heap a o') (hg : s'.gens = s.gens := by rfl) (ho : s'.os = s.os := by rfl) : St C P f ρ (setH σ a o') s' :=
  S.step (· = a) (fun b h => h ▸ S.off e hm) (fun b o h g => ⟨o, keep b o h g, .inl rfl⟩) (fun b ob h g t => absurd t ((S.rel a o e).noTb (h ▸ g)))
    (fun b p q => (setH_cases q).elim (fun q => .inr (by rw [q.1, q.2]; exact ⟨hi, S.off e hm⟩)) fun q => .inl q)
    (fun _ _ h g => (setH_ne h).trans g) (fun x c d _ g => ⟨c, d, (setH_ne (neO g e (hx c d))).trans g⟩) hg ho
/-- one more thing that is kept -/
noncomputable def Kept.add (P : Kept) (z : Bool) (I : Addr) (o : Obj) : Kept := fun z' b q => P z' b q ∨ (z' = z ∧ b = I ∧ q = o)
theorem St.less (S : St C P' f ρ σ s) (h : ∀ z b o, P z b o → P' z b o) : St C P f ρ σ s :=
  { S with hid := fun z b o p => S.hid z b o (h z b o p), own := fun b hb => let ⟨h1, h2, h3⟩ := S.own b hb; ⟨h1, h2, fun z o p => h3 z o (h z b o p)⟩ }
theorem St.unhide {z : Bool} {I : Addr} {q : Obj} (S : St C (P.add z I q) f ρ σ s) : St C P f ρ σ s := S.less fun _ _ _ => .inl
theorem St.hide (S : St C P f ρ σ s) {I : Addr} {q : Obj} (hO : Off C P f I) (hn : σ I = none) (ho : s.heap.get? I = some q) (ht : ¬ IsTb q) : St C (P.add true I q) f ρ σ s :=
  { S with
    hid := fun z b o p => p.elim (S.hid z b o) fun ⟨h1, h2, h3⟩ => by subst h1 h2 h3; exact ⟨⟨_, ho, .refl ht⟩, hn⟩
    own := fun b hb => let ⟨h1, h2, h3⟩ := S.own b hb; ⟨h1, h2, fun z o p => p.elim (h3 z o) fun q => hO.own (q.2.1 ▸ hb)⟩ }
theorem St.hidden {I : Addr} {q : Obj} (S : St C (P.add true I q) f ρ σ s) (hd : ¬ IsD q) : σ I = none ∧ s.heap.get? I = some q := by
  obtain ⟨⟨o', h2, h3⟩, h1⟩ := S.hid true I q (.inr ⟨rfl, rfl, rfl⟩)
  rw [h3.same (.inr fun es n e => hd ⟨es, n, e⟩)] at h2
  exact ⟨h1, h2⟩
/-- σ turns alone -/
theorem St.retag (S : St C P f ρ σ s) (e : σ a = some o) (hx : ∀ c d, o ≠ .exc c d) (hi : Is C s.heap a o') (hb : o'.mut = true → C.base.get? a = none)
    (hP : ∀ z b q, P' z b q → (b ≠ a ∧ P z b q) ∨ (z = false ∧ b = a ∧ s.heap.get? a = some q ∧ ∃ es, o' = .fdict es)) : St C P' f ρ (setH σ a o') s where
  base := S.base
  hid := fun z b q p => by
    rcases hP z b q p with ⟨h1, h2⟩ | ⟨rfl, rfl, h1, es, rfl⟩
    · obtain ⟨h3, h4⟩ := S.hid z b q h2
      exact ⟨h3, by rw [setH_ne h1]; exact h4⟩
    · exact ⟨⟨q, h1, .refl (hi.noTb h1)⟩, es, setH_here _ _ _⟩
  rel := fun b p q => by
    rcases setH_cases q with ⟨rfl, rfl⟩ | ⟨_, q⟩
    · exact hi
    · exact S.rel b p q
  nb := fun b p q hm => by
    rcases setH_cases q with ⟨rfl, rfl⟩ | ⟨_, q⟩
    · exact hb hm
    · exact S.nb b p q hm
  go := S.go
  frs := fun en he => let ⟨h1, L, o, h2, h3, h4, h5, h6⟩ := S.frs en he; ⟨h1, L, o, h2, h3, h4, h5, (setH_ne (neN e h6).symm).trans h6⟩
  hand := fun x h => let ⟨c, d, g⟩ := S.hand x h; ⟨c, d, (setH_ne (neO g e (hx c d))).trans g⟩
  locs := S.locs
  own := fun b hb => let ⟨h1, h2, h3⟩ := S.own b hb; ⟨(setH_ne (neN e h1).symm).trans h1, h2, fun z q p => by
    rcases hP z b q p with h | ⟨_, rfl, _⟩
    · exact h3 z q h.2
    · exact clash e h1⟩
/-- what the frame's own things are -/
noncomputable def OwnP (P : Kept) (env : Env) (s : Shared) : Kept := fun z b o => P z b o ∨ (z = true ∧ Own env b ∧ s.heap.get? b = some o)
theorem St.toB (S : St C P f ρ σ s) : StB C (OwnP P f.env s) f.hx f.fs σ s :=
  { S.toStB with hid := fun z b o p => p.elim (S.hid z b o) fun ⟨h1, h2, h3⟩ => let ⟨_, _, L⟩ := S.locs; h1 ▸ ⟨⟨o, h3, .refl (L.noTb h2 h3)⟩, (S.own b h2).1⟩ }
theorem St.ofB (S : St C P f ρ σ s) (B : StB C (OwnP P f.env s) f.hx f.fs σ' s') : St C P f ρ σ' s' :=
  { B with
    hid := fun z b o h => B.hid z b o (.inl h)
    locs := let ⟨m, cm, L⟩ := S.locs; ⟨m, cm, L.keep fun b o hb e => let ⟨⟨o', e', H⟩, _⟩ := B.hid true b o (.inr ⟨rfl, hb, e⟩); ⟨o', e', H.data⟩⟩
    own := fun b hb => by
      obtain ⟨m, cm, L⟩ := S.locs
      obtain ⟨o, g⟩ := L.has hb
      exact ⟨(B.hid true b o (.inr ⟨rfl, hb, g⟩)).2, (S.own b hb).2⟩ }
end
end U
namespace U
open PySem PyProof.Rows
namespace All2
variable {α β : Type} {R : α → β → Prop}
theorem length {xs : List α} {ys : List β} (h : All2 R xs ys) : xs.length = ys.length := by
  induction h with
  | nil => rfl
  | cons _ _ ih => exact congrArg (· + 1) ih
theorem append {xs xs' : List α} {ys ys' : List β} (h : All2 R xs ys) (h' : All2 R xs' ys') : All2 R (xs ++ xs') (ys ++ ys') := by
  induction h with
  | nil => exact h'
  | cons h1 _ ih => exact .cons h1 ih
theorem get {xs : List α} {ys : List β} (h : All2 R xs ys) {i : Nat} {x : α} (e : xs[i]? = some x) : ∃ y, ys[i]? = some y ∧ R x y := by
  induction h generalizing i with
  | nil => cases e
  | cons h1 _ ih => cases i with
    | zero => exact ⟨_, rfl, Option.some.inj e ▸ h1⟩
    | succ n => exact ih e
theorem set {xs : List α} {ys : List β} (h : All2 R xs ys) {i : Nat} {x : α} {y : β} (r : R x y) : All2 R (xs.set i x) (ys.set i y) := by
  induction h generalizing i with
  | nil => exact .nil
  | cons h1 t ih => cases i with
    | zero => exact .cons r t
    | succ n => exact .cons h1 ih
theorem pick {xs : List α} {ys : List β} (h : All2 R xs ys) (is : List Nat) : All2 R (is.filterMap (xs[·]?)) (is.filterMap (ys[·]?)) := by
  induction is with
  | nil => exact .nil
  | cons i is ih =>
    rw [List.filterMap_cons, List.filterMap_cons]
    cases e : xs[i]? with
    | none =>
      rw [List.getElem?_eq_none_iff] at e
      rw [List.getElem?_eq_none_iff.mpr (h.length ▸ e)]; exact ih
    | some x =>
      obtain ⟨y, hy, r⟩ := h.get e
      rw [hy]; exact .cons r ih
theorem one {x : α} {ys : List β} {G : List β → Prop} (h : All2 R [x] ys) (k : ∀ y, R x y → G [y]) : G ys := by
  cases h with | cons h1 h2 => cases h2; exact k _ h1
theorem two {x x' : α} {ys : List β} {G : List β → Prop} (h : All2 R [x, x'] ys) (k : ∀ y y', R x y → R x' y' → G [y, y']) : G ys := by
  cases h with | cons h1 h2 => exact h2.one (G := fun l => G (_ :: l)) fun y r => k _ y h1 r
end All2
theorem toS_append (a b : Txt) : toS (a ++ b) = toS a ++ toS b := Str.ext' (by rw [Str.cps_append]; simp [toS])
theorem toS_length (a : Txt) : (toS a).length = a.length := by simp [toS, Str.length]
theorem toS_inj {a b : Txt} (h : toS a = toS b) : a = b := by
  have := congrArg (fun s => s.cps.toList) h
  simpa [toS] using this
theorem toS_beq (a b : Txt) : (toS a == toS b) = (a == b) := by
  by_cases h : a = b
  · subst h; rw [beq_self_eq_true, beq_self_eq_true]
  · rw [beq_eq_false_iff_ne.mpr h, beq_eq_false_iff_ne.mpr fun e => h (toS_inj e)]
theorem toS_ofString (x : String) : toS (x.toList.map Char.toNat) = Str.ofString x := by rw [Str.ofString_eq_toList]; rfl
theorem tooLong_lt {n : Nat} (h : n < tooLong) : n ≤ sizeLine := by rw [sizeLine_eq]; exact Nat.le_trans (Nat.le_of_lt h) (by decide)
theorem tooLong_fit {n : Nat} (h : n < tooLong) : ((n : Nat) : Int) < 2 ^ 63 := Int.lt_trans (Int.ofNat_lt.mpr h) (by decide)
theorem is_int {i : Int} {t : Tok} : (AV.int i).is (.int i t) := ⟨t, rfl⟩
theorem is_str {x : Txt} {t : Tok} : (AV.str x).is (.str (toS x) t) := ⟨t, rfl⟩
theorem is_bool {b : Bool} : (AV.bool b).is (.bool b) := rfl
theorem is_none : AV.none.is .none := rfl
section
variable {x y : AV} {u v : Value}
theorem intE {f : Int → Prop} {G : Value → Prop} (h : IntP x f) (hx : x.is u) (k : ∀ i t, f i → G (.int i t)) : G u := by
  cases x <;> first | exact h.elim | (obtain ⟨t, rfl⟩ := hx; exact k _ t h)
theorem strE {f : Txt → Prop} {G : Value → Prop} (h : StrP x f) (hx : x.is u) (k : ∀ i t, f i → G (.str (toS i) t)) : G u := by
  cases x <;> first | exact h.elim | (obtain ⟨t, rfl⟩ := hx; exact k _ t h)
theorem boolE {f : Bool → Prop} {G : Value → Prop} (h : BoolP x f) (hx : x.is u) (k : ∀ i, f i → G (.bool i)) : G u := by
  cases x <;> first | exact h.elim | (cases hx; exact k _ h)
theorem refE {f : Addr → Prop} {G : Value → Prop} (h : RefP x f) (hx : x.is u) (k : ∀ i, f i → G (.ref i)) : G u := by
  cases x <;> first | exact h.elim | (cases hx; exact k _ h)
theorem nonE {p : Prop} {G : Value → Prop} (h : NonP x p) (hx : x.is u) (k : p → G .none) : G u := by
  cases x <;> first | exact h.elim | (cases hx; exact k h)
theorem iiE {f : Int → Int → Prop} {G : Value → Value → Prop} (h : IIP [x, y] f) (hx : x.is u) (hy : y.is v) (k : ∀ a b t t', f a b → G (.int a t) (.int b t')) : G u v :=
  intE (G := fun u => G u v) (f := fun a => IntP y fun b => f a b) h hx fun a t h => intE h hy fun b t' h => k a b t t' h
theorem okE {α : Type} {o : Option α} {k : α → Prop} {p : Prop} (h : OkP o k) (g : ∀ v, o = some v → k v → p) : p := by
  cases o with
  | none => exact h.elim
  | some v => exact g v rfl h
variable {vs : List AV} {cvs : List Value}
theorem oneE {f : AV → Prop} {G : List Value → Prop} (h : OneP vs f) (hv : All2 AV.is vs cvs) (k : ∀ x u, x.is u → f x → G [u]) : G cvs := by
  match vs, hv, h with
  | [x], hv, h => exact hv.one fun u hu => k x u hu h
theorem twoE {f : AV → AV → Prop} {G : List Value → Prop} (h : TwoP vs f) (hv : All2 AV.is vs cvs) (k : ∀ x y u v, x.is u → y.is v → f x y → G [u, v]) : G cvs := by
  match vs, hv, h with
  | [x, y], hv, h => exact hv.two fun u v hu hv => k x y u v hu hv h
theorem threeE {f : AV → AV → AV → Prop} {G : List Value → Prop} (h : ThreeP vs f) (hv : All2 AV.is vs cvs) (k : ∀ x y z u v w, x.is u → y.is v → z.is w → f x y z → G [u, v, w]) : G cvs := by
  match vs, hv, h with
  | [x, y, z], .cons h1 hv, h => exact hv.two (G := fun l => G (_ :: l)) fun u v hu hv => k x y z _ u v h1 hu hv h
end
section
variable {C : Cx} {P : Kept} {f : Fx} {ρ : Loc} {σ : Hp} {s : Shared} {A : Around} {E : Value → Shared → Prop} {Q : Post} {a : Addr}
noncomputable def RV (C : Cx) (P : Kept) (f : Fx) (ρ : Loc) (Q : Post) : Value → Shared → Prop := fun v s' => ∃ av σ', av.is v ∧ St C P f ρ σ' s' ∧ Q av σ'
noncomputable def RX (C : Cx) (P : Kept) (f : Fx) (ρ : Loc) (X : XPost) : Value → Shared → Prop := fun x s' => ∃ a σ' c d, x = .ref a ∧ St C P f ρ σ' s' ∧ σ' a = some (.exc c d) ∧ X a σ'
theorem rv {v : Value} {av : AV} (hv : av.is v) (S : St C P f ρ σ s) (q : Q av σ) : RV C P f ρ Q v s := ⟨av, σ, hv, S, q⟩
theorem fresh_size (h : Heap) : h.get? h.objs.size = none := by
  cases q : h.get? h.objs.size with
  | none => rfl
  | some o => exact absurd (Heap.lt_size q) (Nat.lt_irrefl _)
/-- a new object by a push -/
theorem rv_new {o : AO} {ob : Obj} {tk : Nat} (S : St C P f ρ σ s) (q : NewO σ o Q) (hi : ∀ h : Heap, h.get? s.heap.objs.size = some ob → Ob C h s.heap.objs.size ob o) (hf : ob.isFreed = false) :
    RV C P f ρ Q (.ref s.heap.objs.size) { s with heap := s.heap.push ob, toks := tk } :=
  have g := Heap.get?_push_size s.heap hf
  rv (av := .ref _) rfl (S.new (s' := { s with heap := s.heap.push ob, toks := tk }) (fun _ _ e => Heap.get?_push_of_some _ e) (fresh_size _) ⟨ob, g, hi _ g⟩) (q _ (S.newNone (fresh_size _)))
theorem rv_seq {T : String} {o : AO} {vs : List AV} {cs : List Value} {tk : Nat} (ho : ∀ h a ob, Ob C h a ob o = SeqOb T ob vs) (S : St C P f ρ σ s) (q : NewO σ o Q) (h : All2 AV.is vs cs) :
    RV C P f ρ Q (.ref s.heap.objs.size) { s with heap := s.heap.push { cls := .type T, data := .seq cs.toArray }, toks := tk } :=
  rv_new S q (fun _ _ => by rw [ho]; exact ⟨_, _, rfl, h⟩) rfl
theorem rv_list {vs : List AV} {cs : List Value} {tk : Nat} (S : St C P f ρ σ s) (q : NewO σ (.list vs) Q) (h : All2 AV.is vs cs) :
    RV C P f ρ Q (.ref s.heap.objs.size) { s with heap := s.heap.push { cls := .type "list", data := .seq cs.toArray }, toks := tk } := rv_seq (fun _ _ _ => rfl) S q h
theorem rv_tup {vs : List AV} {cs : List Value} {tk : Nat} (S : St C P f ρ σ s) (q : NewO σ (.tup vs) Q) (h : All2 AV.is vs cs) :
    RV C P f ρ Q (.ref s.heap.objs.size) { s with heap := s.heap.push { cls := .type "tuple", data := .seq cs.toArray }, toks := tk } := rv_seq (fun _ _ _ => rfl) S q h
/-- the object as it stands -/
theorem St.at {o : AO} {T : String} {xs : List AV} {p : Prop} (S : St C P f ρ σ s) (e : σ a = some o) (ho : ∀ ob, Ob C s.heap a ob o → SeqOb T ob xs) (k : ∀ cs n, s.heap.get? a = some (seqObj T cs n) → All2 AV.is xs cs.toList → p) : p := by
  obtain ⟨ob, g, x⟩ := S.rel a o e
  obtain ⟨cs, n, rfl, h⟩ := ho ob x
  exact k cs n g h
noncomputable def BinOk (C : Cx) (op : Op) (b : Operator) : Prop := ∀ {P f ρ σ s A E Q x y u v}, St C P f ρ σ s → op σ [x, y] Q → x.is u → y.is v → wpAny (model C.prog C.w) A (binaryOp b u v) (RV C P f ρ Q) E s
theorem intBits_le {a : Int} (h : a.natAbs < 2 ^ 64) : Builtin.Int.intBits a ≤ 64 := by
  unfold Builtin.Int.intBits
  split
  · exact Nat.zero_le _
  · rename_i hz
    exact (Nat.log2_lt fun e => hz (by rw [Int.natAbs_eq_zero.mp e]; rfl)).mpr h
theorem app_size {xs ys : List AV} {cs ds : Array Value} (r1 : All2 AV.is xs cs.toList) (r2 : All2 AV.is ys ds.toList) (hl : xs.length + ys.length < tooLong) : cs.size + ds.size ≤ sizeLine := by
  rw [show cs.size = xs.length from r1.length.symm, show ds.size = ys.length from r2.length.symm]; exact tooLong_lt hl
theorem app_arr (cs ds : Array Value) : cs ++ ds = (cs.toList ++ ds.toList).toArray := by simp
theorem add_seqs {o p : AO} {b : Addr} (S : St C P f ρ σ s) (e1 : σ a = some o) (e2 : σ b = some p) (h : AddR σ o p Q) : wpAny (model C.prog C.w) A (binaryOp .Add (.ref a) (.ref b)) (RV C P f ρ Q) E s := by
  cases o <;> cases p <;> first | exact h.elim | skip
  · refine S.at e1 (fun _ x => x) fun cs n g1 r1 => S.at e2 (fun _ x => x) fun ds m g2 r2 => ?_
    refine concat_meets ⟨_, g1, rfl⟩ ⟨_, g2, rfl⟩ noFill_list_add seq_list_add PySem.F.slot_list_add PySem.F.entry_list_add (PySem.F.args_list_add_2 _ _) (list_addW a b cs ds n m none none #[] #[] (app_size r1 r2 h.1)) ⟨g1, g2, ?_⟩
    rw [app_arr]; exact rv_list S h.2 (r1.append r2)
  · refine S.at e1 (fun _ x => x) fun cs n g1 r1 => S.at e2 (fun _ x => x) fun ds m g2 r2 => ?_
    refine concat_meets ⟨_, g1, rfl⟩ ⟨_, g2, rfl⟩ noFill_tuple_add seq_tuple_add PySem.F.slot_tuple_add PySem.F.entry_tuple_add (PySem.F.args_tuple_add_2 _ _)
      (tuple_addW2 a b cs ds n m none none #[] #[] (fun e => h.1.1 ?_) (fun e => h.1.2.1 ?_) (app_size r1 r2 h.1.2.2)) ⟨g1, g2, ?_⟩
    · rw [← List.length_eq_zero_iff, r1.length, Array.length_toList]; simpa using e
    · rw [← List.length_eq_zero_iff, r2.length, Array.length_toList]; simpa using e
    · rw [app_arr]; exact rv_tup S h.2 (r1.append r2)
theorem bin_add : BinOk C .add .Add := fun {P f ρ σ s A E Q x y u v} S h hx hy => by
  cases x with
  | int a => obtain ⟨t, rfl⟩ := hx; apply intE (x := y) h hy; exact fun b t' q => add_int (rv is_int (S.tok _) q)
  | str a => obtain ⟨t, rfl⟩ := hx; apply strE (x := y) h hy; exact fun b t' q => add_str (fun t'' tk => rv (toS_append .. ▸ is_str) (S.tok tk) q.2) (by rw [toS_length, toS_length]; exact tooLong_lt q.1)
  | ref a => cases hx; apply refE (x := y) h hy; exact fun b q => okE q fun o e1 q => okE q fun p e2 q => add_seqs S e1 e2 q
  | none => exact h.elim
  | bool _ => exact h.elim
theorem bin_sub : BinOk C .sub .Sub := fun S h hx hy => by apply iiE h hx hy; exact fun _ _ _ _ q => sub_int (rv is_int (S.tok _) q)
theorem bin_mul : BinOk C .mul .Mult := fun S h hx hy => by apply iiE h hx hy; exact fun _ _ _ _ q => mul_int (rv is_int (S.tok _) q.2) (q.1.elim (fun h => .of_left (intBits_le h)) fun h => .of_right (intBits_le h))
theorem bin_fdiv : BinOk C .fdiv .FloorDiv := fun S h hx hy => by apply iiE h hx hy; exact fun _ _ _ _ q => floordiv_int q.1.1 (rv is_int (S.tok _) q.2) (.inl (PyProof.noPylong_small q.1.2))
theorem bin_mod : BinOk C .mod .Mod := fun S h hx hy => by apply iiE h hx hy; exact fun _ _ _ _ q => mod_int' q.1 (rv is_int (S.tok _) q.2)
end
end U
namespace U
open PySem PyProof.Rows PySem.SeqAt
theorem kind_seq' {o : AO} (h : o.kind = 1 ∨ o.kind = 2) : ∃ xs, o.seq? = some xs := by
  cases o <;> first | exact ⟨_, rfl⟩ | exact nomatch h
theorem kind_map' {o : AO} (h : o.kind = 3) : ∃ es, o.map? = some es := by
  cases o <;> first | exact ⟨_, rfl⟩ | exact nomatch h
section
variable {C : Cx} {σ : Hp} {s : Shared} {A : Around} {h : Heap} {a b : Addr}
theorem seqP_of {o : AO} {xs : List AV} (e : o.seq? = some xs) : seqP o (· = xs) fun _ => False := by
  cases o <;> first | exact Option.some.inj e | exact nomatch e
theorem mapP_of {o : AO} {es : List (Txt × AV)} (e : o.map? = some es) : seqP o (fun _ => False) (· = es) := by
  cases o <;> first | exact Option.some.inj e | exact nomatch e
/-- a list, a tuple, or a dict -/
theorem Is.view {o : AO} {k : List AV → Prop} {k' : List (Txt × AV) → Prop} {p : Prop} (x : Is C h a o) (e : seqP o k k')
    (k1 : ∀ xs cs, o.kind = 1 → h.IsList a cs → All2 AV.is xs cs.toList → k xs → p) (k2 : ∀ xs cs, o.kind = 2 → h.IsTuple a cs → All2 AV.is xs cs.toList → k xs → p)
    (k3 : ∀ es kvs, o.kind = 3 → h.DictOf (strKind C.prog C.w) a kvs → All2 Ent es kvs → (a == sysModules) = false → k' es → p) : p := by
  obtain ⟨ob, g, x⟩ := x
  cases o with
  | list xs => obtain ⟨cs, n, rfl, r⟩ := x; exact k1 xs cs rfl ⟨_, g, rfl, n, rfl⟩ r e
  | flist xs => obtain ⟨cs, n, rfl, r⟩ := x; exact k1 xs cs rfl ⟨_, g, rfl, n, rfl⟩ r e
  | tup xs => obtain ⟨cs, n, rfl, r⟩ := x; exact k2 xs cs rfl ⟨_, g, rfl, n, rfl⟩ r e
  | dict es => obtain ⟨⟨kvs, r, d⟩, m⟩ := x; exact k3 es kvs rfl (d _ _ g) r m e
  | fdict es => obtain ⟨⟨kvs, r, d⟩, m⟩ := x; exact k3 es kvs rfl (d _ _ g) r m e
  | _ => exact e.elim
theorem Is.sq {o : AO} {xs : List AV} {p : Prop} (x : Is C h a o) (e : o.seq? = some xs)
    (k1 : ∀ cs, o.kind = 1 → h.IsList a cs → All2 AV.is xs cs.toList → p) (k2 : ∀ cs, o.kind = 2 → h.IsTuple a cs → All2 AV.is xs cs.toList → p) : p :=
  x.view (seqP_of e) (fun _ cs k l r q => k1 cs k l (q ▸ r)) (fun _ cs k l r q => k2 cs k l (q ▸ r)) fun _ _ _ _ _ _ => False.elim
theorem Is.map {o : AO} {es : List (Txt × AV)} (x : Is C h a o) (e : o.map? = some es) : ∃ kvs, h.DictOf (strKind C.prog C.w) a kvs ∧ All2 Ent es kvs ∧ (a == sysModules) = false :=
  x.view (mapP_of e) (fun _ _ _ _ _ => False.elim) (fun _ _ _ _ _ => False.elim) fun _ kvs _ d r m q => ⟨kvs, d, q ▸ r, m⟩
/-- == of two values, both as a tree and as a truth -/
structure Same (A : Around) (s : Shared) (u v : Value) (b : Bool) : Prop where
  rc : RcAt A s u v b
  eq : EqAt A s u v b
theorem Same.of {x : AV} {u v : Value} {b : Bool} (hx : x.is u) (rc : RcAt A s u v b) (hid : u = v → b = true) : Same A s u v b := ⟨rc, fun prog w E Q q => by
  unfold eqBool
  refine wpAny_holding (wpAny_ite_split (fun hab => ?_) fun _ => ?_)
  · rw [hid (eq_of_beq hab)] at q
    exact wpAny_bind (wpAny_rule (wpAny_pure q))
  · have key : wpAny (model prog w) A (richCompare .Eq u v >>= truthOfDropped) Q E s := wpAny_bind (rc prog w E _ (wpAny_truthy_bool q))
    cases x <;> first | (cases hx; exact key) | (obtain ⟨_, rfl⟩ := hx; exact key)⟩
theorem str_declines_dict (b : Str) (u : Tok) (l : Addr) (es : Array DictEntry) (n : Nat) (dd : Option Addr) (sl : Array (Option Value)) :
    Meets (Builtin.«str.__eq__» ⟨[.str b u, .ref l], []⟩) (fun _ R s => s.heap.get? l = some { cls := .type "dict", dict := dd, data := .dict es n, slots := sl } ∧ R (.ok (.ret .notImplemented)) s) :=
  .of_wp fun prog w A R s h => by obtain ⟨hp, g, d, tk, os⟩ := s; obtain ⟨hl, h⟩ := h; wp_walk using AutoSeq1.wpAny_loadPart' hl, wpAny_load hl; exact ⟨_, rfl, h⟩
theorem dict_declines_str (b : Str) (u : Tok) (l : Addr) (es : Array DictEntry) (n : Nat) (dd : Option Addr) (sl : Array (Option Value)) :
    Meets (Builtin.«dict.__eq__» ⟨[.ref l, .str b u], []⟩) (fun _ R s => s.heap.get? l = some { cls := .type "dict", dict := dd, data := .dict es n, slots := sl } ∧ R (.ok (.ret .notImplemented)) s) :=
  .of_wp fun prog w A R s h => by obtain ⟨hp, g, d, tk, os⟩ := s; obtain ⟨hl, h⟩ := h; wp_walk using AutoSeq1.wpAny_loadPart' hl, wpAny_load hl; exact wpAny_of_eq F.sub_str_dict (wpAny_bind (wpAny_rule (wpAny_pure ⟨_, rfl, h⟩)))
theorem rc_str_dict {l : Addr} {kvs : List (Str × Value)} (b : Str) (u : Tok) (hl : s.heap.DictOf (strKind C.prog C.w) l kvs) (hu : A.units < cLine) : RcAt A s (.str b u) (.ref l) false := fun prog w E Q h => by
  obtain ⟨⟨cls, dd, data, sl⟩, es, n, ho, ⟨hc, _, _⟩, hd, _⟩ := id hl
  simp only at hc hd
  subst hc hd
  exact rc_eq_decline_or (k := false) (typeIs_str s b u) ⟨_, ho, rfl⟩ (by decide) F.sub_dict_str F.slot_str_eq F.slot_dict_eq_refl
    (fun _ hq => call_meets F.slot_str_eq (typeIs_str s b u) F.entry_str_eq (F.args_str_eq_2 _ _) (str_declines_dict b u l es n dd sl) ⟨ho, hq⟩)
    (fun _ hq => call_meets F.slot_dict_eq_refl ⟨_, ho, rfl⟩ F.entry_dict_eq (F.args_dict_eq_2 _ _) (dict_declines_str b u l es n dd sl) ⟨ho, hq⟩)
    (fun _ hq => wpAny_of_eq (rfl : isSame (.str b u) (.ref l) = pure false) hq) (.inr hu) h
/-- a value that is no object -/
theorem scalE {x : AV} {u : Value} {G : AV → Value → Prop} (sx : x.scal = true) (hx : x.is u) (k0 : G .none .none) (k1 : ∀ b, G (.bool b) (.bool b)) (k2 : ∀ i t, G (.int i) (.int i t)) (k3 : ∀ i t, G (.str i) (.str (toS i) t)) : G x u := by
  cases x with
  | none => cases hx; exact k0
  | bool b => cases hx; exact k1 b
  | int i => obtain ⟨t, rfl⟩ := hx; exact k2 i t
  | str i => obtain ⟨t, rfl⟩ := hx; exact k3 i t
  | ref a => cases sx
theorem scal2 {x y : AV} {u v : Value} {R : Value → Value → Bool → Prop} (hx : x.is u) (hy : y.is v) (sx : x.scal = true) (sy : y.scal = true) {g : Bool → Bool}
    (nn : R .none .none (g true)) (nb : ∀ b, R .none (.bool b) (g false)) (ni : ∀ i t, R .none (.int i t) (g false)) (ns : ∀ i t, R .none (.str i t) (g false))
    (bn : ∀ b, R (.bool b) .none (g false)) (bb : ∀ b c, R (.bool b) (.bool c) (g (b == c))) (bi : ∀ b i t, R (.bool b) (.int i t) (g (b2i b == i))) (bs : ∀ b i t, R (.bool b) (.str i t) (g false))
    (i_n : ∀ i t, R (.int i t) .none (g false)) (ib : ∀ i t b, R (.int i t) (.bool b) (g (i == b2i b))) (ii : ∀ i t j u, R (.int i t) (.int j u) (g (i == j))) (is : ∀ i t j u, R (.int i t) (.str j u) (g false))
    (sn : ∀ i t, R (.str i t) .none (g false)) (sb : ∀ i t b, R (.str i t) (.bool b) (g false)) (si : ∀ i t j u, R (.str i t) (.int j u) (g false)) (ss : ∀ i t j u, R (.str i t) (.str j u) (g (i == j))) : R u v (g (eqS x y)) := by
  have st : ∀ i j, g (eqS (.str i) (.str j)) = g (toS i == toS j) := fun i j => congrArg g (toS_beq i j).symm
  apply scalE (G := fun x u => R u v (g (eqS x y))) sx hx
  · exact scalE (G := fun y v => R .none v (g (eqS .none y))) sy hy nn nb ni fun i t => ns _ t
  · exact fun b => scalE (G := fun y v => R (.bool b) v (g (eqS (.bool b) y))) sy hy (bn b) (bb b) (bi b) fun i t => bs b _ t
  · exact fun i t => scalE (G := fun y v => R (.int i t) v (g (eqS (.int i) y))) sy hy (i_n i t) (ib i t) (ii i t) fun j u => is i t _ u
  · exact fun i t => scalE (G := fun y v => R (.str (toS i) t) v (g (eqS (.str i) y))) sy hy (sn _ t) (sb _ t) (si _ t) fun j u => by rw [st]; exact ss _ t _ u
theorem eqS_self {x y : AV} {u : Value} (hx : x.is u) (hy : y.is u) (sx : x.scal = true) (sy : y.scal = true) : eqS x y = true :=
  scal2 (R := fun u v r => u = v → r = true) (g := id) hx hy sx sy (fun _ => rfl) (fun _ => nofun) (fun _ _ => nofun) (fun _ _ => nofun) (fun _ => nofun) (fun b c e => by cases e; exact beq_self_eq_true _) (fun _ _ _ => nofun) (fun _ _ _ => nofun)
    (fun _ _ => nofun) (fun _ _ _ => nofun) (fun i t j u e => by cases e; exact beq_self_eq_true _) (fun _ _ _ _ => nofun) (fun _ _ => nofun) (fun _ _ _ => nofun) (fun _ _ _ _ => nofun) (fun i t j u e => by cases e; exact beq_self_eq_true _) rfl
theorem ite_b2i (b : Bool) : (if b = true then (1 : Int) else 0) = b2i b := by cases b <;> rfl
theorem same_scal {x y : AV} {u v : Value} (hx : x.is u) (hy : y.is v) (sx : x.scal = true) (sy : y.scal = true) : Same A s u v (eqS x y) :=
  .of hx (scal2 (R := RcAt A s) (g := id) hx hy sx sy .none_none .none_bool .none_int .none_str .bool_none .bool_bool (fun b i t => ite_b2i b ▸ RcAt.bool_int b i t) .bool_str .int_none (fun i t b => ite_b2i b ▸ RcAt.int_bool i t b) .int_int .int_str .str_none .str_bool .str_int .str_str)
    fun e => eqS_self hx (e ▸ hy) sx sy
theorem ne_scal {x y : AV} {u v : Value} (hx : x.is u) (hy : y.is v) (sx : x.scal = true) (sy : y.scal = true) : RcNeAt A s u v (!eqS x y) :=
  scal2 (R := RcNeAt A s) (g := not) hx hy sx sy .none_none .none_bool .none_int .none_str .bool_none .bool_bool (fun b i t => ite_b2i b ▸ RcNeAt.bool_int b i t) .bool_str .int_none (fun i t b => ite_b2i b ▸ RcNeAt.int_bool i t b) .int_int .int_str .str_none .str_bool .str_int .str_str
theorem same_refL {o : AO} {y : AV} {v : Value} (hy : y.is v) (x : Is C s.heap a o) (k : o.kind = 1 ∨ o.kind = 2) (sy : y.scal = true) (hu : A.units < cLine) : Same A s (.ref a) v false := by
  obtain ⟨xs, e⟩ := kind_seq' k
  refine x.sq e (fun cs _ h _ => ?_) fun cs _ h _ => ?_
  · exact scalE (G := fun _ v => Same A s (.ref a) v false) sy hy (.of (x := .ref a) rfl (.list_none h hu) nofun) (fun _ => .of (x := .ref a) rfl (.list_bool _ h hu) nofun) (fun _ _ => .of (x := .ref a) rfl (.list_int _ _ h hu) nofun) fun _ _ => .of (x := .ref a) rfl (.list_str _ _ h hu) nofun
  · exact scalE (G := fun _ v => Same A s (.ref a) v false) sy hy (.of (x := .ref a) rfl (.tuple_none h hu) nofun) (fun _ => .of (x := .ref a) rfl (.tuple_bool _ h hu) nofun) (fun _ _ => .of (x := .ref a) rfl (.tuple_int _ _ h hu) nofun) fun _ _ => .of (x := .ref a) rfl (.tuple_str _ _ h hu) nofun
theorem same_refR {o : AO} {y : AV} {v : Value} (hy : y.is v) (x : Is C s.heap a o) (k : o.kind = 1 ∨ o.kind = 2 ∨ (o.kind = 3 ∧ ∃ k, y = .str k)) (sy : y.scal = true) (hu : A.units < cLine) : Same A s v (.ref a) false := by
  have go : (o.kind = 1 ∨ o.kind = 2) → Same A s v (.ref a) false := fun k => by
    obtain ⟨xs, e⟩ := kind_seq' k
    refine x.sq e (fun cs _ h _ => ?_) fun cs _ h _ => ?_
    · exact scalE (G := fun _ v => Same A s v (.ref a) false) sy hy (.of is_none (.none_list h hu) nofun) (fun _ => .of is_bool (.bool_list _ h hu) nofun) (fun _ _ => .of is_int (.int_list _ _ h hu) nofun) fun _ _ => .of is_str (.str_list _ _ h hu) nofun
    · exact scalE (G := fun _ v => Same A s v (.ref a) false) sy hy (.of is_none (.none_tuple h hu) nofun) (fun _ => .of is_bool (.bool_tuple _ h hu) nofun) (fun _ _ => .of is_int (.int_tuple _ _ h hu) nofun) fun _ _ => .of is_str (.str_tuple _ _ h hu) nofun
  rcases k with k | k | ⟨k, q, rfl⟩
  · exact go (.inl k)
  · exact go (.inr k)
  · obtain ⟨es, e⟩ := kind_map' k
    obtain ⟨kvs, h, _⟩ := x.map e
    obtain ⟨t', rfl⟩ := hy
    exact .of is_str (rc_str_dict _ _ h hu) nofun
/-- item by item, as a function of the place -/
theorem EqVs.places {R : AV → AV → Bool → Prop} {xs ys : List AV} {r : Bool} (h : EqVs R xs ys r) :
    ∃ e : Nat → Bool, (∀ j x y, xs[j]? = some x → ys[j]? = some y → R x y (e j)) ∧ (List.range xs.length).all e = r := by
  induction h with
  | nil => exact ⟨fun _ => true, (fun j x y h => nomatch h), rfl⟩
  | @cons x y xs ys b r h1 _ ih =>
    obtain ⟨e, p, q⟩ := ih
    refine ⟨Nat.rec b fun j _ => e j, fun j x' y' hx hy => ?_, ?_⟩
    · cases j with
      | zero => rw [← Option.some.inj hx, ← Option.some.inj hy]; exact h1
      | succ n => exact p n x' y' hx hy
    · rw [List.length_cons, List.range_succ_eq_map, List.all_cons, List.all_map, ← q]; rfl
theorem all2_at {R : AV → AV → Bool → Prop} {xs ys : List AV} {cs ds : Array Value} {e : Nat → Bool} (hx : All2 AV.is xs cs.toList) (hy : All2 AV.is ys ds.toList)
    (he : ∀ j x y, xs[j]? = some x → ys[j]? = some y → R x y (e j)) (j : Nat) (h1 : j < cs.size) (h2 : j < ds.size) :
    ∃ x y, x.is cs[j] ∧ y.is ds[j] ∧ R x y (e j) := by
  have ex : xs[j]? = some (xs[j]'(hx.length ▸ h1)) := List.getElem?_eq_getElem _
  have ey : ys[j]? = some (ys[j]'(hy.length ▸ h2)) := List.getElem?_eq_getElem _
  obtain ⟨u, eu, hu⟩ := hx.get ex
  obtain ⟨v, ev, hv⟩ := hy.get ey
  have a1 : cs.toList[j]? = some cs[j] := by rw [Array.getElem?_toList, Array.getElem?_eq_getElem h1]
  have a2 : ds.toList[j]? = some ds[j] := by rw [Array.getElem?_toList, Array.getElem?_eq_getElem h2]
  exact ⟨_, _, same eu a1 ▸ hu, same ev a2 ▸ hv, he j _ _ ex ey⟩
theorem all_true (n : Nat) : (List.range n).all (fun _ => true) = true := List.all_eq_true.mpr fun _ _ => rfl
theorem range_all {e : Nat → Bool} {n m : Nat} {r : Bool} (h : (List.range n).all e = r) (hn : n = m) : (List.range m).all e = r := hn ▸ h
/-- == without dicts within, under every program and world -/
theorem eq_strong (rel : ∀ b o, σ b = some o → Is C s.heap b o) : ∀ (n : Nat) (A : Around), A.units + n + 1 < cLine → ∀ {x y : AV} {u v : Value} {b : Bool}, EqV σ n x y b → x.is u → y.is v → Same A s u v b := by
  have step : ∀ (R : AV → AV → Bool → Prop) (A : Around), A.units < cLine → (∀ {x y : AV} {u v : Value} {b : Bool}, R x y b → x.is u → y.is v → EqAt A.in1 s u v b) →
      ∀ {x y : AV} {u v : Value} {b : Bool}, EqStep σ R x y b → x.is u → y.is v → Same A s u v b := by
    intro R A hu hR x y u v b h hx hy
    cases h with
    | scal sx sy => exact same_scal hx hy sx sy
    | refL e k sy => cases hx; exact same_refL hy (rel _ _ e) k sy hu
    | refR e k sx => cases hy; exact same_refR hx (rel _ _ e) k sx hu
    | kinds e1 e2 k =>
      cases hx; cases hy
      refine .of (x := .ref _) rfl ?_ fun q => ?_
      · rcases k with ⟨k1, k2⟩ | ⟨k1, k2⟩
        · obtain ⟨xs, q1⟩ := kind_seq' (.inl k1)
          obtain ⟨ys, q2⟩ := kind_seq' (.inr k2)
          refine (rel _ _ e1).sq q1 (fun cs _ h1 _ => (rel _ _ e2).sq q2 (fun _ k => ?_) fun ds _ h2 _ => .list_tuple h1 h2 hu) fun _ k => ?_
          · exact nomatch k2.symm.trans k
          · exact nomatch k1.symm.trans k
        · obtain ⟨xs, q1⟩ := kind_seq' (.inr k1)
          obtain ⟨ys, q2⟩ := kind_seq' (.inl k2)
          refine (rel _ _ e1).sq q1 (fun _ k => ?_) fun cs _ h1 _ => (rel _ _ e2).sq q2 (fun ds _ h2 _ => .tuple_list h1 h2 hu) fun _ k => ?_
          · exact nomatch k1.symm.trans k
          · exact nomatch k2.symm.trans k
      · cases q
        rw [same e1 e2] at k
        rcases k with ⟨k1, k2⟩ | ⟨k1, k2⟩ <;> exact nomatch k1.symm.trans k2
    | same e k =>
      cases hx; cases hy
      refine .of (x := .ref _) rfl ?_ fun _ => rfl
      obtain ⟨xs, q⟩ := kind_seq' k
      refine (rel _ _ e).sq q (fun cs _ h1 _ => ?_) fun cs _ h1 _ => ?_
      · have := RcAt.lists (e := fun _ => true) h1 h1 rfl hu fun j _ _ => EqAt.same _
        rwa [all_true] at this
      · have := RcAt.tuples (e := fun _ => true) h1 h1 hu fun j _ _ => EqAt.same _
        rwa [all_true, Bool.true_and, beq_self_eq_true] at this
    | lens hne e1 e2 k q1 q2 hl hk =>
      cases hx; cases hy
      refine .of (x := .ref _) rfl ?_ fun q => absurd (by injection q) hne
      refine (rel _ _ e1).sq q1 (fun cs k1 h1 r1 => (rel _ _ e2).sq q2 (fun ds k2 h2 r2 => ?_) fun _ k2 => ?_) fun cs k1 h1 r1 => (rel _ _ e2).sq q2 (fun _ k2 => ?_) fun ds k2 h2 r2 => ?_
      · exact .lists_lengths h1 h2 (bne_iff_ne.mpr fun e => hl (r1.length.trans (e.trans r2.length.symm))) hu
      · exact nomatch k1.symm.trans (k.trans k2)
      · exact nomatch k1.symm.trans (k.trans k2)
      · have z : Nat.min cs.size ds.size = 0 := by
          rcases hk with hk | rfl | rfl
          · exact nomatch k1.symm.trans hk
          · rw [show cs.size = 0 from r1.length.symm]; exact Nat.zero_min _
          · rw [show ds.size = 0 from r2.length.symm]; exact Nat.min_zero _
        have := RcAt.tuples (e := fun _ => true) h1 h2 hu fun j g1 g2 => absurd (Nat.lt_min.mpr ⟨g1, g2⟩) (by show ¬ j < Nat.min cs.size ds.size; rw [z]; exact Nat.not_lt_zero _)
        rwa [all_true, Bool.true_and, show (cs.size == ds.size) = false from beq_eq_false_iff_ne.mpr fun e => hl (r1.length.trans (e.trans r2.length.symm))] at this
    | seqs hne e1 e2 k q1 q2 hl hr =>
      cases hx; cases hy
      refine .of (x := .ref _) rfl ?_ fun q => absurd (by injection q) hne
      obtain ⟨e, he, hall⟩ := hr.places
      have it : ∀ {cs ds : Array Value}, All2 AV.is _ cs.toList → All2 AV.is _ ds.toList → ∀ j (g1 : j < cs.size) (g2 : j < ds.size), EqAt A.in1 s cs[j] ds[j] (e j) := fun r1 r2 j g1 g2 => by
        obtain ⟨x, y, ix, iy, rr⟩ := all2_at r1 r2 he j g1 g2
        exact hR rr ix iy
      refine (rel _ _ e1).sq q1 (fun cs k1 h1 r1 => (rel _ _ e2).sq q2 (fun ds k2 h2 r2 => ?_) fun _ k2 => ?_) fun cs k1 h1 r1 => (rel _ _ e2).sq q2 (fun _ k2 => ?_) fun ds k2 h2 r2 => ?_
      · have := RcAt.lists (e := e) h1 h2 (r1.length.symm.trans (hl.trans r2.length)) hu (it r1 r2)
        rwa [range_all (m := cs.size) hall r1.length] at this
      · exact nomatch k1.symm.trans (k.trans k2)
      · exact nomatch k1.symm.trans (k.trans k2)
      · have es : cs.size = ds.size := r1.length.symm.trans (hl.trans r2.length)
        have := RcAt.tuples (e := e) h1 h2 hu (it r1 r2)
        rwa [es, Nat.min_self, range_all (m := ds.size) hall (r1.length.trans es), beq_self_eq_true, Bool.and_true] at this
  intro n
  induction n with
  | zero => intro A hu x y u v b h hx hy; exact step _ A (by omega) (fun h => h.elim) h hx hy
  | succ n ih => intro A hu x y u v b h hx hy; exact step _ A (by omega) (fun h' hx' hy' => (ih A.in1 (by show A.units + 1 + n + 1 < cLine; omega) h' hx' hy').eq) h hx hy
end
end U
namespace U
open PySem PyProof.Rows PySem.SeqAt
/-- truth -/
noncomputable def Tr : AV → Bool → Prop
  | .none, b => b = false
  | .bool c, b => b = c
  | .int i, b => b = (i != 0)
  | _, _ => False
theorem Tr.of {x : AV} {k : Bool → Prop} (h : TruP x k) : ∃ t, Tr x t ∧ k t := by
  cases x <;> first | exact h.elim | exact ⟨_, rfl, h⟩
theorem Tr.get {x : AV} {k : Bool → Prop} {t : Bool} (h : Tr x t) (q : TruP x k) : k t := by
  cases x <;> first | exact q.elim | (cases h; exact q)
/-- the abstract value of a value -/
noncomputable def ofV : Value → AV
  | .bool b => .bool b
  | .int i _ => .int i
  | .str s _ => .str s.cps.toList
  | .ref a => .ref a
  | _ => .none
theorem ofV_of {av : AV} {v : Value} (h : av.is v) : ofV v = av := by
  cases av with
  | none => cases h; rfl
  | bool b => cases h; rfl
  | int i => obtain ⟨t, rfl⟩ := h; rfl
  | str x => obtain ⟨t, rfl⟩ := h; rfl
  | ref a => cases h; rfl
section
variable {C : Cx} {P : Kept} {f : Fx} {ρ : Loc} {σ : Hp} {s : Shared} {A : Around} {E : Value → Shared → Prop} {Q : Post}
theorem ps_truth {v : Value} {av : AV} {b : Bool} {QB : Bool → Shared → Prop} (hv : av.is v) (ht : Tr av b) (q : QB b s) : wpAny (model C.prog C.w) A (truthy v) QB E s := by
  cases av with
  | none => cases hv; cases ht; exact truthy_none q
  | bool b => cases hv; cases ht; exact wpAny_truthy_bool q
  | int i => obtain ⟨t, rfl⟩ := hv; cases ht; exact truthy_int q
  | str x => cases ht
  | ref a => cases ht
theorem is_none_beq {av : AV} {v : Value} (h : av.is v) : (v == Value.none) = isN av := by
  cases av with
  | none => cases h; rfl
  | bool b => cases h; rfl
  | int i => obtain ⟨t, rfl⟩ := h; rfl
  | str x => obtain ⟨t, rfl⟩ := h; rfl
  | ref a => cases h; rfl
theorem contains_one (x : Txt) (c : Nat) : (!(Builtin.Str.occurrences (toS x) (toS [c]) 0 (toS x).length 1).isEmpty) = x.contains c := by
  rw [show toS [c] = ⟨#[c]⟩ from rfl, StrLaws.found_one]
  rw [Bool.eq_iff_iff, decide_eq_true_eq]
  simp [toS]
theorem All2.mem {α β : Type} {R : α → β → Prop} {xs : List α} {ys : List β} (h : All2 R xs ys) {y : β} (hy : y ∈ ys) : ∃ x ∈ xs, R x y := by
  induction h with
  | nil => cases hy
  | cons h1 _ ih =>
    rcases List.mem_cons.mp hy with rfl | hy
    · exact ⟨_, .head _, h1⟩
    · obtain ⟨x, hx, r⟩ := ih hy; exact ⟨x, .tail _ hx, r⟩
theorem any_ofV {xs : List AV} {cs : List Value} {e : AV → Bool} (r : All2 AV.is xs cs) : cs.any (fun y => e (ofV y)) = xs.any e := by
  induction r with
  | nil => rfl
  | cons h1 _ ih => rw [List.any_cons, List.any_cons, ih, ofV_of h1]
theorem in_key (rel : ∀ b o, σ b = some o → Is C s.heap b o) (hu : A.units + 200 < cLine) {x : AV} {u : Value} (hx : x.is u) {xs : List AV} {cs : Array Value} {e : AV → Bool} (he : ∀ y ∈ xs, EqV σ 99 y x (e y)) (r : All2 AV.is xs cs.toList) :
    (∀ y, y ∈ cs → EqAt A.in1 s y u (e (ofV y))) ∧ cs.any (fun y => e (ofV y)) = xs.any e := by
  refine ⟨fun y hy => ?_, by rw [← Array.any_toList]; exact any_ofV r⟩
  obtain ⟨av, hav, ha⟩ := r.mem (Array.mem_toList_iff.mpr hy)
  rw [ofV_of ha]
  exact (eq_strong rel 99 A.in1 (Nat.lt_of_le_of_lt (by show A.units + 1 + 99 + 1 ≤ A.units + 200; omega) hu) (he av hav) ha hx).eq
theorem ent_lookup {es : List (Txt × AV)} {kvs : List (Str × Value)} (h : All2 Ent es kvs) (k : Txt) :
    (es.lookup k = none ∧ valueAt kvs (toS k) = none) ∨ ∃ v cv, es.lookup k = some v ∧ valueAt kvs (toS k) = some cv ∧ v.is cv := by
  induction h with
  | nil => exact .inl ⟨rfl, rfl⟩
  | @cons e kv es kvs h1 _ ih =>
    obtain ⟨k', v⟩ := e
    obtain ⟨q, cv⟩ := kv
    obtain ⟨e1, e2⟩ := h1
    cases (show q = toS k' from e1)
    by_cases hk : k = k'
    · subst hk
      exact .inr ⟨v, cv, by simp [List.lookup], by simp [valueAt], e2⟩
    · have h1 : (k == k') = false := beq_eq_false_iff_ne.mpr hk
      have h2 : ¬ toS k' = toS k := fun e => hk (toS_inj e).symm
      have e1 : List.lookup k ((k', v) :: es) = es.lookup k := by simp [List.lookup, h1]
      have e2 : valueAt ((toS k', cv) :: kvs) (toS k) = valueAt kvs (toS k) := by simp [valueAt, h2]
      rw [e1, e2]; exact ih
theorem ent_some {es : List (Txt × AV)} {kvs : List (Str × Value)} (h : All2 Ent es kvs) (k : Txt) : (valueAt kvs (toS k)).isSome = (es.lookup k).isSome := by
  rcases ent_lookup h k with ⟨g1, g2⟩ | ⟨w, cv, g1, g2, _⟩ <;> rw [g1, g2] <;> rfl
/-- comparisons -/
noncomputable def CmpOk (C : Cx) (op : Op) (c : CmpOp) : Prop := ∀ {P f ρ σ s A E Q x y u v}, St C P f ρ σ s → A.units + 200 < cLine → op σ [x, y] Q → x.is u → y.is v → wpAny (model C.prog C.w) A (compareOp c u v) (RV C P f ρ Q) E s
theorem cmp_lt : CmpOk C .lt .Lt := fun S _ h hx hy => by apply iiE h hx hy; exact fun _ _ _ _ q => lt_int (rv is_bool S q)
theorem cmp_le : CmpOk C .le .LtE := fun S _ h hx hy => by apply iiE h hx hy; exact fun _ _ _ _ q => P.le_int (rv is_bool S q)
theorem cmp_gt : CmpOk C .gt .Gt := fun S _ h hx hy => by apply iiE h hx hy; exact fun _ _ _ _ q => gt_int (rv is_bool S q)
theorem cmp_ge : CmpOk C .ge .GtE := fun S _ h hx hy => by apply iiE h hx hy; exact fun _ _ _ _ q => P.ge_int (rv is_bool S q)
theorem cmp_is : CmpOk C .is .Is := fun {P f ρ σ s A E Q x y u v} S _ h hx hy => by
  apply nonE (x := y) h hy
  intro q
  show wpAny _ A (do return Value.bool (← isSame u .none)) _ E s
  exact wpAny_bind (wpAny_of_eq (isSame_none u) (wpAny_pure (is_none_beq hx ▸ rv is_bool S q)))
theorem cmp_isnot : CmpOk C .isnot .IsNot := fun {P f ρ σ s A E Q x y u v} S _ h hx hy => by
  apply nonE (x := y) h hy
  intro q
  show wpAny _ A (do return Value.bool (!(← isSame u .none))) _ E s
  exact wpAny_bind (wpAny_of_eq (isSame_none u) (wpAny_pure (is_none_beq hx ▸ rv is_bool S q)))
theorem cmp_ne : CmpOk C .ne .NotEq := fun {P f ρ σ s A E Q x y u v} S _ h hx hy => by
  have h : NeP x y fun b => Q (.bool b) σ := h
  unfold NeP at h
  split at h
  · rename_i e
    obtain ⟨e1, e2⟩ := Bool.and_eq_true_iff.mp e
    exact ne_scal hx hy e1 e2 _ _ _ _ (rv is_bool S h)
  · exact h.elim
theorem oneE' {s : Txt} {k : Nat → Prop} {G : Txt → Prop} (h : oneC s k) (g : ∀ c, k c → G [c]) : G s := by
  match s, h with
  | [c], h => exact g c h
/-- x in y, and not in -/
theorem in_both {x y : AV} {u v : Value} {k : Bool → Prop} (S : St C P f ρ σ s) (hu : A.units + 200 < cLine) (h : InP σ x y k) (hx : x.is u) (hy : y.is v) :
    (∀ {Q : Value → Shared → Prop}, (∀ b tk, k b → Q (.bool b) { s with toks := tk }) → wpAny (model C.prog C.w) A (compareOp .In u v) Q E s) ∧ (∀ {Q : Value → Shared → Prop}, (∀ b tk, k b → Q (.bool !b) { s with toks := tk }) → wpAny (model C.prog C.w) A (compareOp .NotIn u v) Q E s) := by
  cases y with
  | str t =>
    obtain ⟨t', rfl⟩ := hy
    apply strE (x := x) h hx
    intro i t'' h
    apply oneE' h
    intro c q
    exact ⟨fun k => PySem.P.in_str (contains_one .. ▸ k _ _ q), fun k => PySem.P.notIn_str (contains_one .. ▸ k _ _ q)⟩
  | ref a =>
    cases hy
    refine okE h fun o e h => (S.rel a o e).view h (fun xs cs _ l r h => ?_) (fun xs cs _ l r h => ?_) fun es kvs _ d r m h => ?_
    · obtain ⟨e, he, q⟩ := h
      obtain ⟨k1, k2⟩ := in_key S.rel hu hx he r
      exact ⟨fun k => in_listAt (fun y => e (ofV y)) l k1 (k2 ▸ k _ s.toks q), fun k => notIn_listAt (fun y => e (ofV y)) l k1 (k2 ▸ k _ s.toks q)⟩
    · obtain ⟨e, he, q⟩ := h
      obtain ⟨k1, k2⟩ := in_key S.rel hu hx he r
      exact ⟨fun k => in_tupleAt (fun y => e (ofV y)) l k1 (k2 ▸ k _ s.toks q), fun k => notIn_tupleAt (fun y => e (ofV y)) l k1 (k2 ▸ k _ s.toks q)⟩
    · apply strE (x := x) h hx
      intro i t q
      exact ⟨fun k => wpAny_in_of (strKind_is C.prog C.w (toS i) t) m d.mapOf (ent_some r i ▸ k _ _ q), fun k => wpAny_notIn_of (strKind_is C.prog C.w (toS i) t) m d.mapOf (ent_some r i ▸ k _ _ q)⟩
  | none => exact h.elim
  | bool _ => exact h.elim
  | int _ => exact h.elim
theorem cmp_in : CmpOk C .isin .In := fun {P f ρ σ s A E Q x y u v} S hu h hx hy => (in_both S hu (x := x) (y := y) (k := fun b => Q (.bool b) σ) h hx hy).1 fun _ _ q => rv is_bool (S.tok _) q
theorem cmp_notin : CmpOk C .notin .NotIn := fun {P f ρ σ s A E Q x y u v} S hu h hx hy => (in_both S hu (x := x) (y := y) (k := fun b => Q (.bool !b) σ) h hx hy).2 fun _ _ q => rv is_bool (S.tok _) q
end
end U
namespace U
open PySem PyProof.Rows PySem.SeqAt
/-- what the world behind the law is known to be -/
noncomputable def Cx.Ok (C : Cx) : Prop := C.base.NoLimit
noncomputable def CallOk (C : Cx) (nh : Bool) (op : Op) (c : Value) : Prop := ∀ {P f ρ σ s A E Q vs cvs}, St C P f ρ σ s → (nh = true → A.handled = none) → op σ vs Q → All2 AV.is vs cvs → wpAny (model C.prog C.w) A (call c cvs) (RV C P f ρ Q) E s
section
variable {C : Cx} {P : Kept} {f : Fx} {ρ : Loc} {σ : Hp} {s : Shared} {A : Around} {E : Value → Shared → Prop} {Q : Post} {a : Addr}
theorem St.limit (S : St C P f ρ σ s) (hC : C.Ok) : s.heap.NoLimit := Heap.NoLimit.keeps hC S.base
theorem St.notSys (S : St C P f ρ σ s) (hC : C.Ok) {a : Addr} (h : s.heap.objs.size ≤ a) : (a == sysModules) = false :=
  beq_eq_false_iff_ne.mpr (Nat.ne_of_gt (Nat.lt_of_lt_of_le (modules_low (S.limit hC)) h))
theorem call_len : CallOk C false .len (.builtin "len") := fun {P f ρ σ s A E Q vs cvs} S _ h hv => by
  apply oneE h hv
  intro x u hx h
  cases x with
  | str x =>
    obtain ⟨t, rfl⟩ := hx
    refine PySem.P.len_str (by rw [toS_length]; exact Int.not_le.mpr (tooLong_fit h.1)) ?_
    rw [toS_length]; exact rv is_int (S.tok _) h.2
  | ref a =>
    cases hx
    refine okE h fun o e h => (S.rel a o e).view h (fun xs cs _ l r h => ?_) (fun xs cs _ l r h => ?_) fun es kvs _ d r m h => ?_
    · have e : xs.length = cs.size := r.length
      rw [e] at h
      exact Calls.call_len_list l (tooLong_fit h.1) (rv is_int (S.tok _) h.2)
    · have e : xs.length = cs.size := r.length
      rw [e] at h
      exact len_tuple (t := a) (items := cs) (by obtain ⟨o, h, k⟩ := l; exact ⟨o, h, k⟩) (tooLong_fit h.1) (rv is_int (S.tok _) h.2)
    · rw [r.length] at h
      exact call_len_dict m d (tooLong_fit h.1) (rv is_int (S.tok _) h.2)
  | none => exact h.elim
  | bool _ => exact h.elim
  | int _ => exact h.elim
theorem call_toInt : CallOk C false .toInt (.type "int") := fun {P f ρ σ s A E Q vs cvs} S _ h hv => by
  apply oneE h hv
  intro x u hx h
  apply boolE h hx
  exact fun b q => call_int_bool ((show b2i b = if b = true then 1 else 0 by cases b <;> rfl) ▸ rv is_int (S.tok _) q)
theorem call_toStr : CallOk C false .toStr (.type "str") := fun {P f ρ σ s A E Q vs cvs} S _ h hv => by
  apply oneE h hv
  intro x u hx h
  apply intE h hx
  intro i t q
  refine PySem.P.str_of_int ?_ ?_
  · by_cases h0 : i.natAbs = 0
    · rw [h0]; decide
    · exact Nat.lt_trans ((Nat.log2_lt h0).mpr (Nat.lt_trans q.1 (by decide : 10 ^ 9 < 2 ^ 30))) (by decide)
  · rw [← toS_ofString]; exact rv is_str (S.tok _) q.2
theorem rv_if {c : Prop} [Decidable c] {i j : Int} {t u : Tok} (S : St C P f ρ σ s) (q : Q (.int (if c then i else j)) σ) : RV C P f ρ Q (if c then .int i t else .int j u) s := by
  by_cases h : c
  · rw [if_pos h] at q ⊢; exact rv is_int S q
  · rw [if_neg h] at q ⊢; exact rv is_int S q
theorem call_min : CallOk C true .min (.builtin "min") := fun {P f ρ σ s A E Q vs cvs} S hh h hv => by
  apply twoE h hv
  intro x y u v hx hy h
  apply iiE h hx hy
  intro i j t t' q
  refine min_two_ints (hh rfl) fun h' tk hk => rv_if (S.keeps hk) q
theorem call_max : CallOk C true .max (.builtin "max") := fun {P f ρ σ s A E Q vs cvs} S hh h hv => by
  apply twoE h hv
  intro x y u v hx hy h
  apply iiE h hx hy
  intro i j t t' q
  refine max_two_ints (hh rfl) fun h' tk hk => rv_if (S.keeps hk) q
theorem bools_ok : ∀ {vs : List AV} {ss : List Bool}, bools? vs = some ss → vs = ss.map .bool
  | [], ss, h => by cases h; rfl
  | v :: r, ss, h => by
    cases v <;> first | exact nomatch (show none = some ss from h) | skip
    obtain ⟨t, q, rfl⟩ := Option.map_eq_some_iff.mp h
    rw [bools_ok q]; rfl
theorem strs_ok : ∀ {vs : List AV} {ss : List Txt}, strs? vs = some ss → vs = ss.map .str
  | [], ss, h => by cases h; rfl
  | v :: r, ss, h => by
    cases v <;> first | exact nomatch (show none = some ss from h) | skip
    obtain ⟨t, q, rfl⟩ := Option.map_eq_some_iff.mp h
    rw [strs_ok q]; rfl
theorem map_at {α : Type} {g : α → AV} {bs : List α} {l : List Value} (h : All2 AV.is (bs.map g) l) {i : Nat} {v : Value} (e : l[i]? = some v) : ∃ b, bs[i]? = some b ∧ (g b).is v := by
  have hi : i < bs.length := by
    have := (List.getElem?_eq_some_iff.mp e).1
    rw [← h.length, List.length_map] at this; exact this
  obtain ⟨y, hy, r⟩ := h.get (i := i) (x := g bs[i]) (by rw [List.getElem?_map, List.getElem?_eq_getElem hi]; rfl)
  exact ⟨bs[i], List.getElem?_eq_getElem hi, same e hy ▸ r⟩
theorem range_all' (bs : List Bool) : (List.range bs.length).all (fun i => bs[i]?.getD true) = bs.all id := by
  induction bs with
  | nil => rfl
  | cons b bs ih => rw [List.length_cons, List.range_succ_eq_map, List.all_cons, List.all_map, List.all_cons, ← ih]; rfl
theorem ownE {k : List AV → Prop} {p : Prop} (S : St C P f ρ σ s) (h : OkP (σ a) fun o => OwnL o k) (g : ∀ xs cs n, σ a = some (.list xs) → s.heap.get? a = some (seqObj "list" cs n) → All2 AV.is xs cs.toList → k xs → p) : p := by
  refine okE h fun o e h => ?_
  cases o with
  | list xs => exact S.at e (fun _ x => x) fun cs n h1 h2 => g xs cs n e h1 h2 h
  | _ => exact h.elim
theorem dicE {k : List (Txt × AV) → Prop} {p : Prop} (S : St C P f ρ σ s) (h : OkP (σ a) fun o => DicP o k) (g : ∀ es kvs, s.heap.DictOf (strKind C.prog C.w) a kvs → All2 Ent es kvs → (a == sysModules) = false → k es → p) : p := by
  refine okE h fun o e h => (S.rel a o e).view (k := fun _ => False) (k' := k) (by cases o <;> first | exact h | exact h.elim) (fun _ _ _ _ _ => False.elim) (fun _ _ _ _ _ => False.elim) fun es kvs _ d r m q => g es kvs d r m q
theorem call_all : CallOk C true .all (.builtin "all") := fun {P f ρ σ s A E Q vs cvs} S hh h hv => by
  apply oneE h hv
  intro x u hx h
  apply refE h hx
  intro a h
  refine ownE S h fun xs cs n _ g r h => okE h fun bs e q => ?_
  rw [bools_ok e] at r
  have l : bs.length = cs.size := by rw [← List.length_map (f := AV.bool)]; exact r.length
  refine call_all_walk (wpAny_pyIter_list ⟨_, g, rfl, n, rfl⟩ ?_)
  refine ⟨_, _, _, _, _, _, fun i => bs[i]?.getD true, rfl, Walks.list (A := A.in1) (hh rfl) _ a (Nat.ne_of_lt (Heap.lt_size g)) cs, ⟨⟨_, Heap.get?_push_size _ rfl, rfl, rfl⟩, ⟨_, Heap.get?_push_of_some _ g, rfl, n, rfl⟩⟩, ?_, ?_⟩
  · intro i v s' Q' E' hP hQ
    obtain ⟨b, q1, q2⟩ := map_at r (i := i) (v := v) (by rw [Array.getElem?_toList]; exact hP)
    cases q2
    simp only [q1, Option.getD_some] at hQ
    exact wpAny_truthy_bool hQ
  · intro h' tk hk
    rw [← l, range_all']
    exact rv is_bool (S.keeps (s' := { s with heap := h', toks := tk }) fun b o e => hk b o (fun h => Nat.ne_of_lt (Heap.lt_size e) (List.mem_singleton.mp h)) (Heap.get?_push_of_some _ e)) q
theorem call_append : CallOk C false BOp.append.p (.builtin "list.append") := fun {P f ρ σ s A E Q vs cvs} S _ h hv => by
  apply twoE h hv
  intro x y u v hx hy h
  apply refE h hx
  intro a h
  refine ownE S h fun xs cs n e g r h => ?_
  refine wpAny_list_append_plain (items := cs) ⟨n, g⟩ (fun h' hp' hs' => ?_) (by rw [show cs.size = xs.length from r.length.symm]; exact tooLong_lt h.1)
  obtain ⟨n', g'⟩ := hp'
  refine rv is_none (S.upd (s' := { s with heap := h' }) (o' := .list (xs ++ [y])) e rfl (fun c d => nofun) (fun b o hb e => (hs'.2 b hb).trans e) ⟨_, g', _, n', rfl, ?_⟩) h.2
  rw [Array.toList_push]; exact r.append (.cons hy .nil)
theorem call_get : CallOk C false BOp.get.p (.builtin "dict.get") := fun {P f ρ σ s A E Q vs cvs} S _ h hv => by
  apply threeE h hv
  intro x y z u v w hx hy hz h
  apply refE h hx
  intro a h
  apply strE h hy
  intro k t h
  refine dicE S h fun es kvs d r m q => ?_
  refine call_meetsIn F.slot_dict_get d.typeIs F.entry_dict_get (F.args_dict_get_3 _ _ _) (meets_dict_get_default (strKind C.prog C.w) a (strKind_is C.prog C.w (toS k) t) m w) ⟨_, d.mapOf, ?_⟩
  rcases ent_lookup r k with ⟨g1, g2⟩ | ⟨y, cv, g1, g2, g3⟩
  · rw [g2]; rw [g1] at q; exact rv hz (S.tok _) q
  · rw [g2]; rw [g1] at q; exact rv g3 (S.tok _) q
theorem call_toDict (hC : C.Ok) : CallOk C false .toDict (.type "dict") := fun {P f ρ σ s A E Q vs cvs} S _ h hv => by
  apply oneE h hv
  intro x u hx h
  apply refE h hx
  intro a h
  refine dicE S h fun es kvs d r m q => ?_
  refine kt_call_dict m d (by rw [← r.length]; exact tooLong_lt q.1) fun h' hd hs => ?_
  obtain ⟨o, es', ep, e1, e2⟩ := id hd
  exact rv (av := .ref _) rfl (S.new (s' := { s with heap := h' }) (o := .dict es) (fun b o' e => (hs.2 b (Nat.ne_of_lt (Heap.lt_size e))).trans (Heap.get?_push_of_some _ e)) (fresh_size _) ⟨o, e1, ⟨kvs, r, fun _ _ e => ⟨o, es', ep, e, e2⟩⟩, S.notSys hC (Nat.le_refl _)⟩) (q.2 _ (S.newNone (fresh_size _)))
theorem strsAre_of {ss : List Txt} {l : List Value} (h : All2 AV.is (ss.map .str) l) : StrsAre l (ss.map toS) := by
  induction ss generalizing l with
  | nil => cases h; exact .nil
  | cons x ss ih => cases h with
    | cons h1 h2 => obtain ⟨t, rfl⟩ := h1; exact .cons _ _ (ih h2)
theorem join_toS (sep : Txt) (ss : List Txt) : Txt.join (toS sep) (ss.map toS) = toS (joinT sep ss) := by
  show Builtin.Str.glued _ _ = _
  rw [StrLaws.glued_eq_join]
  induction ss with
  | nil => rfl
  | cons x r ih => cases r with
    | nil => rfl
    | cons y r =>
      show toS x ++ toS sep ++ Str.join (toS sep) ((y :: r).map toS) = toS (x ++ sep ++ joinT sep (y :: r))
      rw [ih, toS_append, toS_append]
theorem call_join : CallOk C false BOp.join.p (.builtin "str.join") := fun {P f ρ σ s A E Q vs cvs} S _ h hv => by
  apply twoE h hv
  intro x y u v hx hy h
  apply strE h hx
  intro sep t h
  apply refE h hy
  intro a h
  refine ownE S h fun xs cs n _ g r h => okE h fun ss e q => ?_
  rw [strs_ok e] at r
  refine join_list (D := a) (items := cs) ⟨_, g, rfl, n, rfl⟩ (strsAre_of r) ?_ fun t' k => ?_
  · rw [List.map_map, toS_length, List.length_map, show (List.map ((fun x : Str => x.length) ∘ toS) ss) = ss.map List.length from List.map_congr_left fun x _ => toS_length x]
    exact Nat.le_of_lt (Nat.lt_of_lt_of_le q.1 (by decide))
  · rw [join_toS]; exact rv is_str (S.tok _) q.2
noncomputable def strIs (k : Txt) (v : Value) : Bool := match v with
  | .str x _ => x == toS k
  | _ => false
theorem call_index : CallOk C false BOp.index.p (.builtin "list.index") := fun {P f ρ σ s A E Q vs cvs} S _ h hv => by
  apply twoE h hv
  intro x y u v hx hy h
  apply refE h hx
  intro a h
  apply strE h hy
  intro k t h
  refine ownE S h fun xs cs n _ g r h => okE h fun ss e h => okE h fun j hj q => ?_
  rw [strs_ok e] at r
  have l : ss.length = cs.size := by rw [← List.length_map (f := AV.str)]; exact r.length
  obtain ⟨hlt, hhit, hno⟩ := List.findIdx?_eq_some_iff_getElem.mp hj
  have hfit : (j : Int) < 2 ^ 63 - 1 := Int.lt_trans (Int.ofNat_lt.mpr (Nat.lt_trans hlt q.1)) (by decide)
  have at' : ∀ i (h : i < cs.size), ∃ t, cs[i] = .str (toS (ss[i]'(l ▸ h))) t := fun i h => by
    obtain ⟨x, ex, t, ec⟩ := map_at r (i := i) (v := cs[i]) (by rw [Array.getElem?_toList]; exact Array.getElem?_eq_getElem h)
    exact ⟨t, by rw [ec, same ex (List.getElem?_eq_getElem (l ▸ h))]⟩
  have at2 : ∀ i (h : i < cs.size), strIs k cs[i] = (ss[i]'(l ▸ h) == k) := fun i h => by
    obtain ⟨t, e⟩ := at' i h
    rw [e]; exact toS_beq _ _
  refine call_meets F.slot_list_index ⟨_, g, rfl⟩ F.entry_list_index (F.args_list_index_2 _ _)
    (MeetsSeq.list_index a cs n (.str (toS k) t) (strIs k) (fun y hy => ?_) j (l ▸ hlt) hfit ?_ ?_) ⟨g, rv is_int (S.tok _) q.2⟩
  · obtain ⟨i, hi, rfl⟩ := Array.mem_iff_getElem.mp hy
    obtain ⟨t', e⟩ := at' i hi
    rw [e]
    intro prog w A' E' s' Q' hq
    exact EqAt.str_str _ t' (toS k) t prog w E' Q' hq
  · rw [at2]; exact hhit
  · intro m hm hmj; rw [at2]; simpa using hno m hmj
end
end U
namespace U
open PySem PyProof.Rows PySem.SeqAt
section
variable {C : Cx} {P : Kept} {f : Fx} {ρ : Loc} {σ : Hp} {s : Shared} {A : Around} {E : Value → Shared → Prop} {Q : Post} {a : Addr}
/-- a value by its kind -/
theorem kindE {x : AV} {u : Value} {k : String} {G : String → Value → Prop} (S : St C P f ρ σ s) (hv : x.is u) (hk : kindIs σ x = some k) (k0 : G "NoneType" .none) (k1 : ∀ b, G "bool" (.bool b)) (k2 : ∀ i t, G "int" (.int i t)) (k3 : ∀ i t, G "str" (.str i t))
    (k4 : ∀ a o, s.heap.get? a = some o → o.cls = .type "list" → o.dict = none → G "list" (.ref a)) (k5 : ∀ a o, s.heap.get? a = some o → o.cls = .type "tuple" → o.dict = none → G "tuple" (.ref a)) (k6 : ∀ a o, s.heap.get? a = some o → o.cls = .type "dict" → o.dict = none → G "dict" (.ref a)) : G k u := by
  cases x with
  | none => cases hv; cases hk; exact k0
  | bool b => cases hv; cases hk; exact k1 b
  | int i => obtain ⟨t, rfl⟩ := hv; cases hk; exact k2 i t
  | str i => obtain ⟨t, rfl⟩ := hv; cases hk; exact k3 _ t
  | ref a =>
    cases hv
    have hk : kO (σ a) = some k := hk
    cases e : σ a with
    | none => rw [e] at hk; cases hk
    | some o =>
      rw [e] at hk
      obtain ⟨ob, g, x⟩ := S.rel a o e
      cases o <;> first | exact nomatch (show none = some k from hk) | cases (show some _ = some k from hk)
      · obtain ⟨cs, n, rfl, r⟩ := x; exact k4 a _ g rfl rfl
      · obtain ⟨cs, n, rfl, r⟩ := x; exact k5 a _ g rfl rfl
      · obtain ⟨⟨kvs, _, d⟩, _⟩ := x; obtain ⟨o, es, ep, g', ⟨c, d, _⟩, _⟩ := d _ _ g; exact k6 a o g' c d
      · obtain ⟨cs, n, rfl, r⟩ := x; exact k4 a _ g rfl rfl
      · obtain ⟨⟨kvs, _, d⟩, _⟩ := x; obtain ⟨o, es, ep, g', ⟨c, d, _⟩, _⟩ := d _ _ g; exact k6 a o g' c d
/-- a type that isinstance asks for -/
structure AnsT (t : String) : Prop where
  ty : typeOf (.type t) = pure (.type "type")
  n : isSubtype (.type "NoneType") (.type t) = pure (isOf "NoneType" [t])
  b : isSubtype (.type "bool") (.type t) = pure (isOf "bool" [t])
  i : isSubtype (.type "int") (.type t) = pure (isOf "int" [t])
  s : isSubtype (.type "str") (.type t) = pure (isOf "str" [t])
  l : isSubtype (.type "list") (.type t) = pure (isOf "list" [t])
  u : isSubtype (.type "tuple") (.type t) = pure (isOf "tuple" [t])
  d : isSubtype (.type "dict") (.type t) = pure (isOf "dict" [t])
theorem ans_str : AnsT "str" := ⟨F.isi_meta_str, F.sub_NoneType_str, F.sub_bool_str, F.sub_int_str, F.sub_str_str, F.sub_list_str, F.sub_tuple_str, F.sub_dict_str⟩
theorem ans_int : AnsT "int" := ⟨F.isi_meta_int, F.sub_NoneType_int, F.sub_bool_int, F.sub_int_int, F.sub_str_int, F.sub_list_int, F.sub_tuple_int, F.sub_dict_int⟩
theorem ans_bool : AnsT "bool" := ⟨F.isi_meta_bool, F.sub_NoneType_bool, F.sub_bool_bool, F.sub_int_bool, F.sub_str_bool, F.sub_list_bool, F.sub_tuple_bool, F.sub_dict_bool⟩
theorem ans_tuple : AnsT "tuple" := ⟨F.isi_meta_tuple, F.sub_NoneType_tuple, F.sub_bool_tuple, F.sub_int_tuple, F.sub_str_tuple, F.sub_list_tuple, F.sub_tuple_tuple, F.sub_dict_tuple⟩
theorem ans_list : AnsT "list" := ⟨F.isi_meta_list, F.sub_NoneType_list, F.sub_bool_list, F.sub_int_list, F.sub_str_list, F.sub_list_list, F.sub_tuple_list, F.sub_dict_list⟩
theorem ans_dict : AnsT "dict" := ⟨F.isi_meta_dict, F.sub_NoneType_dict, F.sub_bool_dict, F.sub_int_dict, F.sub_str_dict, F.sub_list_dict, F.sub_tuple_dict, F.sub_dict_dict⟩
theorem isOf_ne {k t : String} (h : isOf k [t] = false) : (Value.type k == Value.type t) = false := by
  rw [beq_eq_false_iff_ne]; intro e; cases e; simp [isOf] at h
theorem ans_if {x : Value} {k t : String} (T : AnsT t) (h : isSubtype (.type k) (.type t) = pure (isOf k [t])) (hf : (Value.type k == Value.type t) = false → isSubtype (.type k) (.type t) = pure false → Answers (fun s => s.TypeIs x k) x (.type t) false) : Answers (fun s => s.TypeIs x k) x (.type t) (isOf k [t]) := by
  cases e : isOf k [t] with
  | true => exact .of_true T.ty (e ▸ h)
  | false => exact hf (isOf_ne e) (e ▸ h)
theorem ans_of {x : AV} {u : Value} {k t : String} (S : St C P f ρ σ s) (hx : x.is u) (hk : kindIs σ x = some k) (T : AnsT t) : Answers (fun s => s.TypeIs u k) u (.type t) (isOf k [t]) :=
  kindE (G := fun k u => Answers (fun s => s.TypeIs u k) u (.type t) (isOf k [t])) S hx hk
    (ans_if T T.n fun h1 h2 => .of_false_none h1 T.ty h2) (fun _ => ans_if T T.b fun h1 h2 => .of_false_bool h1 T.ty h2) (fun _ _ => ans_if T T.i fun h1 h2 => .of_false_int h1 T.ty h2) (fun _ _ => ans_if T T.s fun h1 h2 => .of_false_str h1 T.ty h2)
    (fun _ _ _ _ _ => ans_if T T.l fun h1 h2 => .of_false_list h1 T.ty h2) (fun _ _ _ _ _ => ans_if T T.u fun h1 h2 => .of_false_tuple h1 T.ty h2) fun _ _ _ _ _ => ans_if T T.d fun h1 h2 => .of_false_dict h1 T.ty h2
theorem kind_is {x : AV} {u : Value} {k : String} (S : St C P f ρ σ s) (hx : x.is u) (hk : kindIs σ x = some k) : s.TypeIs u k :=
  kindE (G := fun k u => s.TypeIs u k) S hx hk rfl (fun _ => rfl) (fun _ _ => typeIs_int _ _ _) (fun _ _ => typeIs_str _ _ _) (fun _ o g c _ => ⟨o, g, c⟩) (fun _ o g c _ => ⟨o, g, c⟩) fun _ o g c _ => ⟨o, g, c⟩
theorem isi_one {x : AV} {u : Value} {k t : String} {Q : Value → Shared → Prop} (T : AnsT t) (S : St C P f ρ σ s) (hx : x.is u) (hk : kindIs σ x = some k) (h : ∀ tk, Q (.bool (isOf k [t])) { s with toks := tk }) : wpAny (model C.prog C.w) A (call (.builtin "isinstance") [u, .type t]) Q E s :=
  call_isinstance (S := fun _ R s => s.TypeIs u k ∧ ∀ tk, R (.ok (.ret (.bool (isOf k [t])))) { s with toks := tk }) (fun _ _ _ _ _ hs => isinstance_outer (ans_of S hx hk T _ _ _ _ _ _ _ hs) (Shared.TypeIs.not_mainsLoader hs.1)) ⟨kind_is S hx hk, h⟩
theorem ans_all {x : AV} {u : Value} {k : String} (S : St C P f ρ σ s) (hx : x.is u) (hk : kindIs σ x = some k) : ∀ {ts : List String}, (∀ t ∈ ts, AnsT t) → AnswersAll (fun s => s.TypeIs u k) u (ts.map Value.type) (ts.map fun t => isOf k [t])
  | [], _ => trivial
  | _ :: _, h => ⟨ans_of S hx hk (h _ (.head _)), ans_all S hx hk fun t ht => h t (.tail _ ht)⟩
theorem isOf_any (k : String) (ts : List String) : (ts.map fun t => isOf k [t]).any id = isOf k ts := by
  induction ts with
  | nil => rfl
  | cons t r ih => rw [List.map_cons, List.any_cons, ih]; simp [isOf]
/-- an item, by getItem -/
noncomputable def GetR (C : Cx) (P : Kept) (f : Fx) (ρ : Loc) (Q : Post) (A : Around) (E : Value → Shared → Prop) (s : Shared) (u v : Value) : Prop :=
  (∃ T id, s.TypeIs u T ∧ typeLookup (.type T) "__getitem__" = pure (some (.builtin id))) ∧ wpAny (model C.prog C.w) A (getItem u v) (RV C P f ρ Q) E s
theorem itemL_some {α : Type} {xs : List α} {i : Int} {v : α} (h : itemL xs i = some v) : ∃ j, i.natAbs < 2 ^ 62 ∧ seqIndex? i xs.length = some j ∧ xs[j]? = some v := by
  unfold itemL at h
  split at h
  · rename_i h2
    obtain ⟨j, h3, h4⟩ := Option.bind_eq_some_iff.mp h
    exact ⟨j, h2, h3, h4⟩
  · cases h
theorem seqIndex_cases {k : Int} {n j : Nat} (h : seqIndex? k n = some j) : (0 ≤ k ∧ k.toNat = j) ∨ (k < 0 ∧ 0 ≤ k + n ∧ (k + n).toNat = j) := by
  unfold seqIndex? at h
  dsimp only at h
  by_cases h0 : k < 0
  · rw [if_pos h0] at h
    split at h
    · rename_i hc
      simp only [Bool.and_eq_true, decide_eq_true_eq] at hc
      exact .inr ⟨h0, hc.1, Option.some.inj h⟩
    · cases h
  · rw [if_neg h0] at h
    split at h
    · exact .inl ⟨Int.not_lt.mp h0, Option.some.inj h⟩
    · cases h
theorem ps_item {x y : AV} {u v : Value} (S : St C P f ρ σ s) (h : ItemP σ x y Q) (hx : x.is u) (hy : y.is v) : GetR C P f ρ Q A E s u v := by
  cases x with
  | ref a =>
    cases hx
    refine okE h fun o e h => (S.rel a o e).view h (fun xs cs _ l r h => ?_) (fun xs cs _ l r h => ?_) fun es kvs _ d r m h => ?_
    · apply intE h hy
      intro k t h
      refine okE h fun w hw q => ?_
      obtain ⟨j, hk, hj, hw⟩ := itemL_some hw
      obtain ⟨cw, ew, hcw⟩ := r.get hw
      have hk' : (k.natAbs : Int) < 2 ^ 62 := by exact_mod_cast hk
      rw [Array.getElem?_toList] at ew
      refine ⟨⟨_, _, l.typeIs, slot_list_getitem.lookup⟩, ?_⟩
      rcases seqIndex_cases hj with ⟨h0, rfl⟩ | ⟨h0, h1, rfl⟩
      · exact wpAny_getItem_list l h0 (by omega) ew (rv hcw S q)
      · have e : xs.length = cs.size := r.length
        rw [e] at ew h1
        exact wpAny_getItem_list_neg l h0 (by omega) (by omega) ew (rv hcw S q)
    · apply intE h hy
      intro k t h
      refine okE h fun w hw q => ?_
      obtain ⟨j, hk, hj, hw⟩ := itemL_some hw
      obtain ⟨cw, ew, hcw⟩ := r.get hw
      have hk' : (k.natAbs : Int) < 2 ^ 62 := by exact_mod_cast hk
      rw [Array.getElem?_toList] at ew
      have e : xs.length = cs.size := r.length
      have l' : IsTup s.heap a cs := by obtain ⟨o, h, k⟩ := l; exact ⟨o, h, k⟩
      exact ⟨⟨_, _, l'.typeIs, slot_tuple_getitem.lookup⟩, getItem_tuple l' (by omega) (by omega) (e ▸ hj) ew (rv hcw S q)⟩
    · apply strE h hy
      intro k t h
      refine okE h fun w hw q => ?_
      rcases ent_lookup r k with ⟨g1, _⟩ | ⟨w', cv, g1, g2, g3⟩
      · exact clash hw g1
      · rw [same hw g1] at q
        exact ⟨⟨_, _, d.typeIs, slot_dict_getitem.lookup⟩, wpAny_getItem_of (strKind_is C.prog C.w (toS k) t) d.mapOf g2 (rv g3 (S.tok _) q)⟩
  | str x =>
    obtain ⟨t, rfl⟩ := hx
    apply intE h hy
    intro k t' h
    refine okE h fun c hc q => ?_
    obtain ⟨j, hk, hj, hc⟩ := itemL_some hc
    have hk' : (k.natAbs : Int) < 2 ^ 62 := by exact_mod_cast hk
    refine ⟨⟨_, _, typeIs_str s _ _, F.slot_str_getitem.lookup⟩, PySem.P.getItem_str (c := c) ?_ ?_ (rv (av := .str [c]) is_str (S.tok _) q)⟩
    · simp only [Bool.or_eq_false_iff, decide_eq_false_iff_not]; constructor <;> omega
    · rw [toS_length, hj]; simpa [toS] using hc
  | none => exact h.elim
  | bool _ => exact h.elim
  | int _ => exact h.elim
theorem partE {x : AV} {u : Value} {k : Option Int → Prop} {G : Value → Prop} (h : PartP x k) (hx : x.is u) (g : ∀ l, IsPart u l → (∃ p : Option (Int × Tok), u = partValue p ∧ p.map (·.1) = l) → k l → G u) : G u := by
  cases x with
  | none => cases hx; exact g none .none ⟨none, rfl, rfl⟩ h
  | int i => obtain ⟨t, rfl⟩ := hx; exact g (some i) (.int _ _) ⟨some (i, t), rfl, rfl⟩ h
  | bool _ => exact h.elim
  | str _ => exact h.elim
  | ref _ => exact h.elim
theorem cut_pick (cs : Array Value) (lo hi st : Option Int) : slicePick cs lo hi st = (cut cs.toList lo hi st).toArray := by
  unfold slicePick cut
  simp only [Array.length_toList, Array.getElem?_toList]
theorem cut_all2 {xs : List AV} {cs : List Value} (h : All2 AV.is xs cs) (lo hi st : Option Int) : All2 AV.is (cut xs lo hi st) (cut cs lo hi st) := by
  unfold cut; rw [h.length]; exact h.pick _
theorem cut_toS (x : Txt) (lo hi st : Option Int) : (((Builtin.Str.strSliceIndices lo hi (st.getD 1) (toS x).length).filterMap ((toS x).cps[·]?)).toArray : Array Nat) = (cut x lo hi st).toArray := by
  have : (fun i : Nat => (toS x).cps[i]?) = fun i => x[i]? := funext fun i => List.getElem?_toArray
  rw [this, toS_length]
  rfl
theorem range_pick {α : Type} (xs : List α) : (List.range xs.length).filterMap (xs[·]?) = xs := by
  induction xs with
  | nil => rfl
  | cons x r ih => rw [List.length_cons, List.range_succ_eq_map, List.filterMap_cons, List.filterMap_map]; exact congrArg (x :: ·) ih
theorem cut_whole {α : Type} (xs : List α) (lo hi : Option Int)
    (hl : (sliceRange (sliceBounds lo hi none xs.length).1 (sliceBounds lo hi none xs.length).2.1 (sliceBounds lo hi none xs.length).2.2).length = xs.length) : cut xs lo hi none = xs := by
  unfold cut
  generalize e1 : (sliceBounds lo hi none xs.length).1 = a at hl ⊢
  generalize e2 : (sliceBounds lo hi none xs.length).2.1 = b at hl ⊢
  have e3 : (sliceBounds lo hi none xs.length).2.2 = 1 := rfl
  rw [e3] at hl ⊢
  have ha : 0 ≤ a := by
    subst e1; unfold sliceBounds; dsimp only; rw [show (none : Option Int).getD 1 = 1 from rfl]
    split
    · simp
    · simp; omega
  have hb : b ≤ xs.length := by
    subst e2; unfold sliceBounds; dsimp only; rw [show (none : Option Int).getD 1 = 1 from rfl]
    split
    · simp
    · simp only [show (1 : Int) > 0 from by decide, if_true]; omega
  unfold sliceRange at hl ⊢
  rw [if_pos (by decide), List.length_map, List.length_range] at hl
  rw [if_pos (by decide)]
  have ea : (List.range (if a < b then (b - a + 1 - 1) / 1 else 0).toNat).map (fun k : Nat => (a + 1 * (k : Int)).toNat) = List.range xs.length := by
    rw [hl]
    by_cases hlt : a < b
    · rw [if_pos hlt] at hl
      have e0 : a = 0 := by omega
      rw [e0]
      exact (List.map_congr_left fun k _ => by show ((0 : Int) + 1 * (k : Int)).toNat = k; omega).trans (List.map_id' _)
    · rw [if_neg hlt] at hl
      rw [← hl]; rfl
  rw [ea]; exact range_pick xs
theorem sqE {k k' : List AV → Prop} {p : Prop} (S : St C P f ρ σ s) (h : OkP (σ a) fun o => SqP o k k') (g : ∀ xs cs, s.heap.IsList a cs → All2 AV.is xs cs.toList → k xs → p) (g' : ∀ xs cs, IsTup s.heap a cs → All2 AV.is xs cs.toList → k' xs → p) : p := by
  refine okE h fun o e h => ?_
  cases o with
  | list xs => exact S.at e (fun _ x => x) fun cs n h1 h2 => g xs cs ⟨_, h1, rfl, n, rfl⟩ h2 h
  | flist xs => exact S.at e (fun _ x => x) fun cs n h1 h2 => g xs cs ⟨_, h1, rfl, n, rfl⟩ h2 h
  | tup xs => exact S.at e (fun _ x => x) fun cs n h1 h2 => g' xs cs ⟨_, h1, rfl, n, rfl⟩ h2 h
  | _ => exact h.elim
theorem All2.take {α β : Type} {R : α → β → Prop} {xs : List α} {ys : List β} (h : All2 R xs ys) : ∀ n, All2 R (xs.take n) (ys.take n) := by
  induction h with
  | nil => intro n; rw [List.take_nil, List.take_nil]; exact .nil
  | cons r _ ih => intro n; cases n with
    | zero => exact .nil
    | succ n => exact .cons r (ih n)
theorem pick_to (xs : Array Value) (b : Nat) (hb : b ≤ xs.size) : ((List.range b).filterMap fun (k : Nat) => xs[((0 : Int) + (k : Int) * 1).toNat]?) = xs.toList.take b := by
  have e : (fun (k : Nat) => xs[((0 : Int) + (k : Int) * 1).toNat]?) = fun k => xs.toList[k]? := by
    funext k
    have : ((0 : Int) + (k : Int) * 1).toNat = k := by omega
    rw [this, Array.getElem?_toList]
  rw [e]
  induction b with
  | zero => rfl
  | succ b ih => rw [List.range_succ, List.filterMap_append, ih (Nat.le_of_succ_le hb), List.filterMap_cons, List.getElem?_eq_getElem (i := b) (l := xs.toList) hb, List.take_succ_eq_append_getElem (l := xs.toList) hb]; rfl
theorem slice_to {sl : Addr} {b n : Nat} {u : Tok} {Q : Int × Int × Nat → Shared → Prop} (hs : s.heap.IsSliceOf sl .none (.int b u) .none) (hb : b ≤ n) (h : Q (0, 1, b) s) :
    wpAny (model C.prog C.w) A (Builtin.Slice.sliceApplied (.ref sl) (pure (n : Int))) Q E s := by
  obtain ⟨os, hos, hcs, hds⟩ := id hs
  unfold Builtin.Slice.sliceApplied Builtin.Slice.sliceFields
  refine wpAny_bind (wpAny_bind (wpAny_field hos hds (x := .none) rfl (wpAny_bind (wpAny_field hos hds (x := .int b u) rfl (wpAny_bind (wpAny_field hos hds (x := .none) rfl (wpAny_pure ?_)))))))
  refine wpAny_bind (slicePart_none ?_)
  show wpAny _ _ (if ((1 : Int) == 0) = true then _ else _) _ _ s
  rw [if_neg (by decide)]
  refine wpAny_bind (slicePart_none (wpAny_bind (slicePart_int (wpAny_bind (wpAny_pure ?_)))))
  have e1 : Builtin.Slice.sliceAdjust none (some (b : Int)) 1 (n : Int) = (0, (b : Int)) := by
    unfold Builtin.Slice.sliceAdjust
    simp only [show ¬ ((1 : Int) < 0) by decide, show ¬ ((b : Int) < 0) by omega, if_false]
    congr 1; omega
  have e2 : Builtin.Slice.slicePlaces 0 (b : Int) 1 = b := by
    unfold Builtin.Slice.slicePlaces
    simp only [show (1 : Int) > 0 by decide, if_true, Int.ediv_one]
    split <;> omega
  show wpAny _ _ (match Builtin.Slice.sliceAdjust none (some (b : Int)) 1 (n : Int) with | (lo, hi) => pure (lo, (1 : Int), Builtin.Slice.slicePlaces lo hi 1)) _ _ s
  rw [e1]
  show wpAny _ _ (pure ((0 : Int), (1 : Int), Builtin.Slice.slicePlaces 0 (b : Int) 1)) _ _ s
  rw [e2]
  exact wpAny_pure h
theorem item_to {t sl : Addr} {items : Array Value} {b : Nat} {u : Tok} {Q : Value → Shared → Prop} (ht : IsTup s.heap t items) (hs : s.heap.IsSliceOf sl .none (.int b u) .none) (hb : b < items.size)
    (h : Q (.ref s.heap.objs.size) { s with heap := s.heap.push { cls := .type "tuple", data := .seq (items.toList.take b).toArray } }) (hsz : items.size ≤ sizeLine) : wpAny (model C.prog C.w) A (getItem (.ref t) (.ref sl)) Q E s := by
  have hok : sizeOk (.seq (items.toList.take b).toArray) := by
    show (items.toList.take b).toArray.size ≤ sizeLine
    rw [List.size_toArray, List.length_take]; omega
  obtain ⟨os, hos, hcs, hds⟩ := id hs
  have hTs : s.TypeIs (.ref sl) "slice" := ⟨os, hos, hcs⟩
  unfold getItem
  refine wpAny_holding (wpAny_bind (wpAny_sequenceKey ht.typeIs (by decide) ?_))
  refine wpAny_bind (wpAny_callSpecial?_slot (name := Str.ofString "__getitem__") ht.typeIs slot_tuple_getitem
    (wpAny_call_entry slot_tuple_getitem ht.typeIs entry_tuple_getitem ?_ (args_tuple_getitem _ _)))
  show wpAny _ _ (Builtin.Tuple.tupleItemsOf (.ref t) >>= _) _ _ s
  refine wpAny_bind (tupleItemsOf_ ht ?_)
  refine wpAny_bind (wpAny_typeOf hTs ?_)
  rw [if_pos (by decide)]
  refine wpAny_bind (slice_to hs (Nat.le_of_lt hb) ?_)
  have hno : ¬ (((0 : Int) == 0 && (1 : Int) == 1 && b == items.size) = true) := by
    simp only [Bool.and_eq_true, beq_iff_eq]; omega
  show wpAny _ _ (if ((0 : Int) == 0 && (1 : Int) == 1 && b == items.size) = true then _ else _) _ _ s
  rw [if_neg hno, pick_to items b (Nat.le_of_lt hb)]
  exact wpAny_bind (m := Builtin.Tuple.tupleExact _) (wpAny_newObj_type (wpAny_pure ⟨_, rfl, wpAny_pure h⟩) hok)
/-- a slice, its object made -/
theorem ps_slice {x l h t : AV} {u v1 v2 v3 : Value} {sl : Addr} (S : St C P f ρ σ s) (hp : SliP σ x l h t Q) (hx : x.is u) (h1 : l.is v1) (h2 : h.is v2) (h3 : t.is v3) (hs : s.heap.IsSliceOf sl v1 v2 v3) : GetR C P f ρ Q A E s u (.ref sl) := by
  cases x with
  | ref a =>
    cases hx
    refine sqE S hp (fun xs cs g r hp => ?_) fun xs cs g r hp => by
      revert hs
      apply nonE hp h1
      intro hp
      apply intE hp h2
      intro i tk hp
      apply nonE hp h3
      intro q hs
      obtain ⟨b, rfl⟩ : ∃ b : Nat, i = b := ⟨i.toNat, (Int.toNat_of_nonneg q.1.1).symm⟩
      have e : xs.length = cs.size := r.length
      exact ⟨⟨_, _, g.typeIs, slot_tuple_getitem.lookup⟩, item_to g hs (e ▸ q.1.2.1) (rv_tup S q.2 (r.take _)) (e ▸ tooLong_lt q.1.2.2)⟩
    revert hs
    apply partE hp h1
    intro lo p1 _ hp
    apply partE hp h2
    intro hi p2 _ hp
    apply partE hp h3
    intro st p3 _ q hs
    refine ⟨⟨_, _, g.typeIs, slot_list_getitem.lookup⟩, wpAny_getItem_list_slice g hs p1 p2 p3 q.1.1 ?_ (by rw [show cs.size = xs.length from r.length.symm]; exact tooLong_lt q.1.2)⟩
    rw [cut_pick]; exact rv_list S q.2 (cut_all2 r lo hi st)
  | str x =>
    obtain ⟨tk, rfl⟩ := hx
    have hp : PartP l fun lo => PartP h fun hi => NonP t (x.length < tooLong ∧ Q (.str (cut x lo hi none)) σ) := hp
    revert hs
    apply partE hp h1
    intro lo _ p1 hp
    apply partE hp h2
    intro hi _ p2 hp
    apply nonE hp h3
    intro q hs
    obtain ⟨q1, rfl, m1⟩ := p1
    obtain ⟨q2, rfl, m2⟩ := p2
    refine ⟨⟨_, _, typeIs_str s _ _, F.slot_str_getitem.lookup⟩, wpAny_getItem_str_slice (st := none) hs rfl ?_⟩
    unfold sliceMade slicePicked
    rw [m1, m2]
    split
    · rename_i hc
      simp only [Bool.and_eq_true, beq_iff_eq] at hc
      rw [cut_whole x lo hi (by rw [← toS_length x]; exact hc.2)] at q
      exact rv is_str S q.2
    · refine ⟨?_, ?_⟩
      · have h1 := sliceIndices_le lo hi (toS x).length
        have h2 := List.length_filterMap_le ((toS x).cps[·]?) (Builtin.Str.strSliceIndices lo hi 1 (toS x).length)
        show (List.filterMap ((toS x).cps[·]?) (Builtin.Str.strSliceIndices lo hi 1 (toS x).length)).toArray.size ≤ sizeLine
        rw [List.size_toArray]
        exact Nat.le_trans h2 (Nat.le_trans h1 (by rw [toS_length]; exact tooLong_lt q.1))
      · rw [show (Option.map (fun x : Int × Tok => x.1) none).getD 1 = (none : Option Int).getD 1 from rfl, cut_toS x lo hi none]
        exact rv (av := .str (cut x lo hi none)) is_str (S.tok _) q.2
  | none => exact hp.elim
  | bool _ => exact hp.elim
  | int _ => exact hp.elim
end
end U
namespace U
open PySem PyProof.Rows PySem.SeqAt
section
variable {C : Cx} {P : Kept} {f : Fx} {ρ : Loc} {σ : Hp} {s : Shared} {E : Value → Shared → Prop} {Q : Post}
/-- == in this very program and world -/
structure SameC (C : Cx) (A : Around) (s : Shared) (u v : Value) (b : Bool) : Prop where
  rc : ∀ (E : Value → Shared → Prop) (Q : Value → Shared → Prop), Q (.bool b) s → wpAny (model C.prog C.w) A (richCompare .Eq u v) Q E s
  eq : ∀ (E : Value → Shared → Prop) (Q : Bool → Shared → Prop), Q b s → wpAny (model C.prog C.w) A (eqBool u v) Q E s
theorem Same.toC {A : Around} {u v : Value} {b : Bool} (h : Same A s u v b) : SameC C A s u v b := ⟨fun E Q q => h.rc _ _ E Q q, fun E Q q => h.eq _ _ E Q q⟩
theorem SameC.refs {A : Around} {l b : Addr} {k : Bool} (hne : l ≠ b) (h : ∀ (E : Value → Shared → Prop) (Q : Value → Shared → Prop), Q (.bool k) s → wpAny (model C.prog C.w) A (richCompare .Eq (.ref l) (.ref b)) Q E s) :
    SameC C A s (.ref l) (.ref b) k := ⟨h, fun E Q q => by
  unfold eqBool
  refine wpAny_holding (wpAny_ite_split (fun hab => absurd (by have := eq_of_beq hab; injection this) hne) fun _ => ?_)
  exact wpAny_bind (h E _ (wpAny_truthy_bool q))⟩
/-- the list's loop, from place i on -/
theorem list_loop {A : Around} {R : Result → Shared → Prop} {l b : Addr} {xs ys : Array Value} {n m : Nat} {dd de : Option Addr} {sl sm : Array (Option Value)} (hl : s.heap.get? l = some ⟨.type "list", dd, .seq xs n, sl⟩) (hb : s.heap.get? b = some ⟨.type "list", de, .seq ys m, sm⟩) (hsz : xs.size = ys.size)
    (e : Nat → Bool) (he : ∀ j (h1 : j < xs.size) (h2 : j < ys.size), SameC C A.in1 s xs[j] ys[j] (e j)) :
    ∀ k i : Nat, xs.size - i = k → R (.ok (.ret (.bool (((List.range xs.size).drop i).all e)))) s →
      wpAny (model C.prog C.w) A.in1 (Builtin.«list.__eq__.loop» ⟨[.ref l, .ref b, rawInt i, rawInt 2], []⟩)
        (fun fin s' => match fin with | .done f => R (.ok f) s' | .again c' => c'.quiet = true ∧ codeAny (model C.prog C.w) A c' R s') (fun e s' => R (.error e) s') s := by
  obtain ⟨hp, g, d, tk, os⟩ := s
  have hl : hp.get? l = some ⟨.type "list", dd, .seq xs n, sl⟩ := hl
  have hb : hp.get? b = some ⟨.type "list", de, .seq ys m, sm⟩ := hb
  intro k
  induction k with
  | zero =>
    intro i hk h
    wp_walk using AutoSeq1.wpAny_loadPart' hl, AutoSeq1.wpAny_loadPart' hb
    have hi1 : xs[((i : Nat) : Int).toNat]? = none := by simp; omega
    have hi2 : ys[((i : Nat) : Int).toNat]? = none := by simp; omega
    have hd : (List.range xs.size).drop i = [] := by simp; omega
    rw [hd] at h
    rw [hi1, hi2]
    wp_walk using AutoSeq1.wpAny_loadPart' hl, AutoSeq1.wpAny_loadPart' hb
    show R (.ok (.ret (.bool (xs.size == ys.size)))) _
    rw [hsz]
    simpa using h
  | succ k ih =>
    intro i hk h
    wp_walk using AutoSeq1.wpAny_loadPart' hl, AutoSeq1.wpAny_loadPart' hb
    have hlt : i < xs.size := by omega
    have hlt2 : i < ys.size := by omega
    have hi1 : xs[((i : Nat) : Int).toNat]? = some xs[i] := by simp [hlt]
    have hi2 : ys[((i : Nat) : Int).toNat]? = some ys[i] := by simp [hlt2]
    have hd : (List.range xs.size).drop i = i :: (List.range xs.size).drop (i + 1) := by simp [List.drop_eq_getElem_cons, hlt]
    have hc : ((i : Int) + 1) = ((i + 1 : Nat) : Int) := by push_cast; rfl
    rw [hd, List.all_cons] at h
    rw [hi1, hi2]
    refine wpAny_bind ((he i hlt hlt2).eq _ _ ?_)
    cases hb' : e i with
    | true =>
      rw [hb'] at h
      wp_walk
      rw [hc]
      exact ⟨plainId_quiet MeetsSeq3.plain_eq_loop _, codeAny_builtin MeetsSeq3.entry_eq_loop (by
        rw [Around.under_plainId MeetsSeq3.plain_eq_loop _]
        exact ih (i + 1) (by omega) (by simpa using h))⟩
    | false =>
      rw [hb'] at h
      wp_walk using AutoSeq1.wpAny_loadPart' hl, AutoSeq1.wpAny_loadPart' hb
      rw [hi1, hi2]
      wp_walk
      simpa using h
theorem lists_C {A : Around} {l b : Addr} {xs ys : Array Value} (hl : s.heap.IsList l xs) (hb : s.heap.IsList b ys) (hsz : xs.size = ys.size) (hu : A.units < cLine)
    {e : Nat → Bool} (he : ∀ j (h1 : j < xs.size) (h2 : j < ys.size), SameC C A.in1 s xs[j] ys[j] (e j)) (E : Value → Shared → Prop) (Q : Value → Shared → Prop) (q : Q (.bool ((List.range xs.size).all e)) s) :
    wpAny (model C.prog C.w) A (richCompare .Eq (.ref l) (.ref b)) Q E s := by
  obtain ⟨⟨c, dd, dt, sl⟩, hl, hc, n, hd⟩ := hl
  obtain ⟨⟨c', de, dt', sm⟩, hb, hc', m, hd'⟩ := hb
  cases (show c = _ from hc); cases (show c' = _ from hc'); cases (show dt = _ from hd); cases (show dt' = _ from hd')
  refine wpAny_richCompare_same_room (op := .Eq) (T := "list") ⟨_, hl, rfl⟩ ⟨_, hb, rfl⟩ F.slot_list_eq ?_ hu
  refine wpAny_call (codeAny_call_builtin F.slot_list_eq.plain F.entry_list_eq (F.slot_list_eq.check _ _ _ _ _ _ _ _ ⟨_, hl, rfl⟩ (F.args_list_eq_2 _ _) ?_))
  have key := list_loop (A := A) (R := wants (fun v s' => v ≠ .notImplemented ∧ Q v s') E) hl hb hsz e he _ 0 rfl ⟨(fun x => nomatch x), by simpa using q⟩
  obtain ⟨hp, g, d, tk, os⟩ := s
  have hl : hp.get? l = some ⟨.type "list", dd, .seq xs n, sl⟩ := hl
  have hb : hp.get? b = some ⟨.type "list", de, .seq ys m, sm⟩ := hb
  have f3 := AutoSeq1.sub_list_list
  have hne : ¬ (xs.size != ys.size) = true := by simp [hsz]
  wp_walk using AutoSeq1.wpAny_loadPart' hl, AutoSeq1.wpAny_loadPart' hb
  exact ⟨plainId_quiet MeetsSeq3.plain_eq_loop _, codeAny_builtin MeetsSeq3.entry_eq_loop (by rw [Around.under_plainId MeetsSeq3.plain_eq_loop _]; exact key)⟩
/-- one entry of a dict sought in another: t -/
inductive Turn (ys : List (Txt × AV)) (k : Txt) (v : AV) : Bool → Prop
  | no : ys.lookup k = none → Turn ys k v false
  | yes {v'} : ys.lookup k = some v' → v.scal = true → v'.scal = true → Turn ys k v (eqS v v')
theorem EqD.turn {ys es : List (Txt × AV)} {k : Txt} {v : AV} {r : Bool} (h : EqD ys ((k, v) :: es) r) : ∃ t, Turn ys k v t ∧ (t = false → r = false) ∧ (t = true → EqD ys es r) := by
  cases h with
  | miss e => exact ⟨_, .no e, fun _ => rfl, fun q => nomatch q⟩
  | hit e s1 s2 g =>
    refine ⟨_, .yes e s1 s2, fun q => by rw [q]; rfl, fun q => ?_⟩
    rw [q, Bool.true_and]; exact g
theorem turn_ok {A : Around} {b : Addr} {ob : Obj} {en : DictEntry} {es : Array DictEntry} {ep : Nat} {ys : List (Txt × AV)} {kws : List (Str × Value)} {k : Txt} {v : AV} {t : Bool} {Q : Bool → Shared → Prop} (hob : s.heap.get? b = some ob) (hdb : ob.data = .dict es ep)
    (hk : KeysOf (strKind C.prog C.w) es) (hp : Pairs (strKind C.prog C.w) es.toList kws) (hy : All2 Ent ys kws) (key : (strKind C.prog C.w).is (toS k) en.key = true) (hh : en.hash = (strKind C.prog C.w).hash (toS k)) (hv : v.is en.val) (T : Turn ys k v t) (q : Q t s) :
    wpAny (model C.prog C.w) A (holding [en.key, en.val] do
      let some j ← dictFind b en.key en.hash | pure false
      let some f := (← dictEntries b)[j]? | unsupported "internal:dict-equal"
      holding [f.val] (eqBool en.val f.val)) Q E s := by
  have seek : (match es.findIdx? fun e => (strKind C.prog C.w).is (toS k) e.key with | some i => es[i]?.map (·.val) | none => none) = valueAt kws (toS k) := by
    refine (findBy_of_findIdx? (strKind C.prog C.w).is es (toS k)).symm.trans ?_
    rw [← hp.find, findBy]
    obtain ⟨l⟩ := es
    rw [List.find?_toArray]
  rw [hh]
  refine wpAny_holding (wpAny_bind (wpAny_dictFind_of key hob hdb hk ?_))
  cases e : es.findIdx? fun e => (strKind C.prog C.w).is (toS k) e.key with
  | none =>
    rw [e] at seek
    cases T with
    | no _ => exact wpAny_pure q
    | yes g _ _ =>
      rcases ent_lookup hy k with ⟨g', _⟩ | ⟨_, cw, _, g2, _⟩
      · rw [g] at g'; cases g'
      · rw [g2] at seek; cases seek
  | some i =>
    have hi : i < es.size := (Array.findIdx?_eq_some_iff_getElem.mp e).1
    rw [e] at seek
    simp only [Array.getElem?_eq_getElem hi, Option.map_some] at seek
    refine wpAny_bind (wpAny_dictEntries hob hdb ?_)
    rw [Array.getElem?_eq_getElem hi]
    rcases ent_lookup hy k with ⟨g1, g2⟩ | ⟨v₁, cw, g1, g2, g3⟩
    · rw [g2] at seek; cases seek
    · rw [g2] at seek
      have ev : es[i].val = cw := Option.some.inj seek
      cases T with
      | no g => rw [g] at g1; cases g1
      | yes g s1 s2 =>
        rw [g] at g1; cases g1
        refine wpAny_holding ?_
        rw [ev]
        exact (same_scal hv g3 s1 s2).eq _ _ _ _ q
theorem pairs_ok {A : Around} {nm : String} {a b : Addr} {xs ys : List (Txt × AV)} {kvs kws : List (Str × Value)} {r : Bool} {Q : Bool → Shared → Prop} (na : (a == sysModules) = false) (nb : (b == sysModules) = false) (da : s.heap.DictOf (strKind C.prog C.w) a kvs) (db : s.heap.DictOf (strKind C.prog C.w) b kws)
    (hx : All2 Ent xs kvs) (hy : All2 Ent ys kws) (hr : (xs.length ≠ ys.length ∧ r = false) ∨ (xs.length = ys.length ∧ EqD ys xs r)) (q : Q r s) : wpAny (model C.prog C.w) A (Builtin.Dict.samePairs nm a b) Q E s := by
  obtain ⟨oa, es, ep, hoa, _, hda, hka, hpa, _⟩ := da
  obtain ⟨ob, fs, ep', hob, _, hdb, hkb, hpb, _⟩ := db
  have sa : es.size = xs.length := by rw [hx.length, ← hpa.length, Array.length_toList]
  have sb : fs.size = ys.length := by rw [hy.length, ← hpb.length, Array.length_toList]
  unfold Builtin.Dict.samePairs Builtin.Dict.showsAll
  simp only [na, nb, Bool.false_eq_true, if_false]
  refine wpAny_bind (wpAny_pure (wpAny_bind (wpAny_pure (wpAny_bind (wpAny_dictEntries hoa hda (wpAny_bind (wpAny_dictEntries hob hdb ?_)))))))
  rcases hr with ⟨hl, rfl⟩ | ⟨hl, hE⟩
  · rw [if_pos (by rw [sa, sb]; simpa using hl)]
    exact wpAny_bind (wpAny_rule (wpAny_pure q))
  rw [if_neg (by rw [sa, sb, hl]; simp)]
  refine wpAny_bind (wpAny_dictEpoch hoa hda (wpAny_bind ?_))
  rw [Std.Legacy.Range.forIn_eq_forIn_range']
  simp only [Std.Legacy.Range.size, Nat.sub_zero, Nat.add_sub_cancel, Nat.div_one]
  refine wpAny_forIn_list _ (fun rest c s' => s' = s ∧ c = (none, ()) ∧ ∃ i, i + rest.length = xs.length ∧ rest = List.range' i rest.length ∧ EqD ys (xs.drop i) r) _ ?_ ?_ _ _ ⟨rfl, rfl, 0, by simp [sa], by simp, hE⟩
  · rintro n rest c s' ⟨rfl, rfl, i, hlen, hrest, hD⟩
    rw [List.length_cons, List.range'_succ] at hrest
    injection hrest with e1 e2
    subst e1
    rw [List.length_cons] at hlen
    have hn : n < xs.length := by omega
    have hn' : n < es.size := by omega
    refine wpAny_bind (wpAny_dictEntries hoa hda ?_)
    rw [Array.getElem?_eq_getElem hn']
    obtain ⟨kv, hkv, hent⟩ : ∃ kv, kvs[n]? = some kv ∧ Ent xs[n] kv := by
      obtain ⟨kv, h1, h2⟩ := hx.get (List.getElem?_eq_getElem hn)
      exact ⟨kv, h1, h2⟩
    obtain ⟨k, v⟩ := kv
    obtain ⟨hkey, hval⟩ := hpa.get? (i := n) (e := es[n]) (by rw [Array.getElem?_toList]; exact Array.getElem?_eq_getElem hn') hkv
    obtain ⟨k', hk', hh⟩ := hka es[n] (Array.getElem_mem hn')
    have ekk : k' = k := (strKind C.prog C.w).inj _ _ _ hk' hkey
    have ek : k = toS xs[n].1 := hent.1
    subst ekk
    rw [ek] at hkey hh
    rw [List.drop_eq_getElem_cons hn] at hD
    obtain ⟨t, hT, hf, ht⟩ := hD.turn
    refine wpAny_bind (turn_ok hob hdb hkb hpb hy hkey hh (by rw [hval]; exact hent.2) hT ?_)
    cases t with
    | false =>
      rw [hf rfl] at q
      exact wpAny_pure (wpAny_pure q)
    | true =>
      refine wpAny_bind (wpAny_dictEpoch hoa hda ?_)
      rw [if_neg (by simp)]
      exact wpAny_pure ⟨rfl, rfl, n + 1, by omega, e2, ht rfl⟩
  · rintro c s' ⟨rfl, rfl, i, hlen, _, hD⟩
    have : i = xs.length := by simpa using hlen
    rw [this, List.drop_length] at hD
    cases hD
    exact wpAny_pure q
theorem dicts_eq {A : Around} {a b : Addr} {xs ys : List (Txt × AV)} {kvs kws : List (Str × Value)} {r : Bool} {Q : Value → Shared → Prop} (na : (a == sysModules) = false) (nb : (b == sysModules) = false) (da : s.heap.DictOf (strKind C.prog C.w) a kvs) (db : s.heap.DictOf (strKind C.prog C.w) b kws)
    (hu : A.units < cLine) (hx : All2 Ent xs kvs) (hy : All2 Ent ys kws) (hr : (xs.length ≠ ys.length ∧ r = false) ∨ (xs.length = ys.length ∧ EqD ys xs r)) (q : Q (.bool r) s) : wpAny (model C.prog C.w) A (richCompare .Eq (.ref a) (.ref b)) Q E s := by
  refine wpAny_richCompare_same_room (op := .Eq) da.typeIs db.typeIs PySem.F.slot_dict_eq (wpAny_call_entry PySem.F.slot_dict_eq da.typeIs PySem.F.entry_dict_eq ?_ (PySem.F.args_dict_eq_2 _ _)) hu
  show wpAny _ _ (Builtin.Dict.dictSlotArgs "__eq__" ⟨[.ref a, .ref b], []⟩ >>= _) _ _ s
  unfold Builtin.Dict.dictSlotArgs
  refine wpAny_bind (wpAny_bind (wpAny_notOrdered_dict da.typeIs ?_))
  refine wpAny_pure (wpAny_bind (wpAny_isInstance (T := "dict") db.typeIs PySem.F.sub_dict_dict ?_))
  simp only [Bool.not_true, Bool.false_eq_true, if_false]
  refine wpAny_bind (wpAny_pure (wpAny_bind (wpAny_pure (wpAny_bind (pairs_ok na nb da db hx hy hr ?_)))))
  refine wpAny_pure ⟨_, rfl, ?_, by simpa using q⟩
  exact fun x => nomatch x
theorem eq_w1 (rel : ∀ b o, σ b = some o → Is C s.heap b o) {A : Around} (hu : A.units + 100 < cLine) {x y : AV} {u v : Value} {b : Bool} (h : EqW1 σ x y b) (hx : x.is u) (hy : y.is v) : SameC C A s u v b := by
  cases h with
  | plain h => exact (eq_strong rel 98 A (by omega) h hx hy).toC
  | @lensD a b o p xs ys hne e1 e2 q1 q2 hl =>
    cases hx; cases hy
    obtain ⟨kvs, h1, r1, n1⟩ := (rel _ _ e1).map q1
    obtain ⟨kws, h2, r2, n2⟩ := (rel _ _ e2).map q2
    exact .refs hne fun E Q q => dicts_eq n1 n2 h1 h2 (by omega) r1 r2 (.inl ⟨hl, rfl⟩) q
  | @maps a b o p xs ys r hne e1 e2 q1 q2 hl hr =>
    cases hx; cases hy
    obtain ⟨kvs, h1, r1, n1⟩ := (rel _ _ e1).map q1
    obtain ⟨kws, h2, r2, n2⟩ := (rel _ _ e2).map q2
    exact .refs hne fun E Q q => dicts_eq n1 n2 h1 h2 (by omega) r1 r2 (.inr ⟨hl, hr⟩) q
theorem cmp_eq : CmpOk C .eq .Eq := fun {P f ρ σ s A E Q x y u v} S hu h hx hy => by
  show wpAny _ _ (richCompare .Eq u v) _ _ s
  have h : EqP σ x y fun b => Q (.bool b) σ := h
  unfold EqP at h
  split at h
  · rename_i e
    obtain ⟨e1, e2⟩ := Bool.and_eq_true_iff.mp e
    exact (same_scal hx hy e1 e2).rc _ _ _ _ (rv is_bool S h)
  · obtain ⟨b, h, q⟩ := h
    cases h with
    | one h => exact (eq_w1 S.rel (by omega) h hx hy).rc _ _ (rv is_bool S q)
    | @lists a b o p xs ys r hne e1 e2 k1 k2 q1 q2 hl hr =>
      cases hx; cases hy
      obtain ⟨e, he, hall⟩ := hr.places
      refine (S.rel _ _ e1).sq q1 (fun cs _ g1 r1 => (S.rel _ _ e2).sq q2 (fun ds _ g2 r2 => ?_) fun _ k => ?_) fun _ k => ?_
      · have l1 : xs.length = cs.size := r1.length
        refine lists_C g1 g2 (l1.symm.trans (hl.trans r2.length)) (by omega) (e := e) (fun j h1 h2 => ?_) _ _ ?_
        · obtain ⟨x, y, ix, iy, rr⟩ := all2_at r1 r2 he j h1 h2
          exact eq_w1 S.rel (by show A.units + 1 + 100 < cLine; omega) rr ix iy
        · rw [← l1, hall]; exact rv is_bool S q
      · exact nomatch k2.symm.trans k
      · exact nomatch k1.symm.trans k
end
end U
namespace U
open PySem PyProof.Rows
set_option genSizeOf false
set_option genInjectivity false
/-- what a global name stands for -/
inductive GK where
  | fn (n : String)
  | typ (n : String)
  | bi (n : String)
  | val (v : AV)
  | cls (n : String)
noncomputable def GK.is (C : Cx) : GK → Value → Prop
  | .fn n, v => ∃ a, C.fnAt n = some a ∧ v = .ref a
  | .typ t, v => v = .type t
  | .bi b, v => v = .builtin b
  | .val a, v => a.is v
  | .cls c, v => ∃ a, C.clsAt c = some a ∧ v = .ref a
structure Tc where
  hd : Bool
  names : List Str
  kinds : List (Str × NameKind)
  g : List (Str × GK)
/-- the frame at hand: what does not turn -/
structure Fr (tc : Tc) (f : Fx) (A : Around) (d : Nat) : Prop where
  names : f.names = tc.names
  kinds : f.env.scope.names = tc.kinds
  glob : f.env.globals = mainGlobals
  blt : f.env.builtins = builtinsNs
  hd : f.hx.isSome = tc.hd
  cells : ∀ x, tc.kinds.lookup x = some .cell → (f.env.cells.lookup x).isSome = true
  depth : A.depth + d < 1000
  units : A.units + 16 * d + 400 < cLine
  hand : A.handled = f.hx.map .ref
  frames : A.frames = some f.fs
  kind : f.env.scope.kind = .function
  apart : ∀ x y c, f.env.cells.lookup x = some c → f.env.cells.lookup y = some c → x = y
  top : ∃ e r, f.fs = e :: r ∧ e.frame = f.env.frame
noncomputable def GOk (C : Cx) (g : List (Str × GK)) : Prop := ∃ mg mb, C.base.Ns mainGlobals mg ∧ C.base.Ns builtinsNs mb ∧
  ∀ x k, g.lookup x = some k → ∃ v, k.is C v ∧ (mg x = some v ∨ mg x = none ∧ mb x = some v)
/-- what a call gives, the frame at hand aside -/
noncomputable def RB (C : Cx) (P : Kept) (hx : Option Addr) (fs : List Env) (Q : Post) (X : XPost) : Result → Shared → Prop := fun r s' => match r with
  | .ok (.ret v) => ∃ av σ', av.is v ∧ StB C P hx fs σ' s' ∧ Q av σ'
  | .ok _ => False
  | .error e => ∃ a σ' c d, e = .ref a ∧ StB C P hx fs σ' s' ∧ σ' a = some (.exc c d) ∧ X a σ'
structure ABk (A : Around) (hx : Option Addr) (fs : List Env) (d : Nat) : Prop where
  depth : A.depth + d + 1 < 1000
  units : A.units + 16 * d + 416 < cLine
  hand : A.handled = hx.map .ref
  frames : A.frames = some fs
noncomputable def AttC (C : Cx) (c : String) (n : Txt) : Prop := ∀ a, C.clsAt c = some a → ∃ N mN, ClsAt C.base a N mN ∧ mN "__getattribute__" = none ∧ mN "__setattr__" = none ∧ mN (toS n) = none ∧ typeLookup (.type "object") (toS n) = pure none
noncomputable def MthC (C : Cx) (c : String) (m : Txt) (f : String) : Prop := ∀ a, C.clsAt c = some a → ∃ N mN b ob fd, ClsAt C.base a N mN ∧ mN "__getattribute__" = none ∧ mN "__getattr__" = none ∧ mN (toS m) = some (.ref b) ∧ C.base.get? b = some ob ∧ ob.cls = .type "function" ∧ ob.data = .func fd ∧ C.fnAt f = some b ∧ ∃ y, typeLookup (.type "object") (toS m) = pure y
noncomputable def ExcC (C : Cx) (c : String) : Prop := ∀ a, C.clsAt c = some a → ∃ x bmB newId mg B initId, OwnClsQ x a bmB newId mg C.base ∧ ExcBaseFacts B newId initId bmB
structure KOk (C : Cx) (K : Kx) : Prop where
  fn : ∀ {hd d f a vs cvs σ Q X P hx fs s A}, C.fnAt f = some a → K.fn hd d f vs σ Q X → hx.isSome = hd → StB C P hx fs σ s → All2 AV.is vs cvs → ABk A hx fs d → (∃ e r, fs = e :: r) →
    codeAny (model C.prog C.w) A (.call (.ref a) ⟨cvs, []⟩) (RB C P hx fs Q X) s
  att : ∀ {c n}, K.att c n → AttC C c n
  mth : ∀ {c m f}, K.mth c m f → MthC C c m f
  exc : ∀ {c}, K.exc c → ExcC C c
/-- what is known of the world, the functions and the names -/
structure Env' (C : Cx) (K : Kx) (g : List (Str × GK)) : Prop where
  c : C.Ok
  k : KOk C K
  g : GOk C g
  f : ∀ n a, C.fnAt n = some a → ∃ o fd, C.base.get? a = some o ∧ o.data = .func fd
section
variable {C : Cx} {K : Kx} {P : Kept} {f : Fx} {d : Nat} {ρ : Loc} {σ : Hp} {s : Shared} {A : Around} {Q : Post} {X : XPost} {tc : Tc} {M : Model} {E : Value → Shared → Prop}
noncomputable def SE (C : Cx) (K : Kx) (tc : Tc) (e : Expr) (pe : PE) : Prop := ∀ {P f d ρ σ s A Q X}, Fr tc f A d → St C P f ρ σ s → pe K tc.hd d ρ σ Q X →
  wpAny (model C.prog C.w) A (eval e f.env) (RV C P f ρ Q) (RX C P f ρ X) s
noncomputable def RT (C : Cx) (P : Kept) (f : Fx) (ρ : Loc) (Q : Post) : Bool → Shared → Prop := fun b s' => ∃ av σ', Tr av b ∧ St C P f ρ σ' s' ∧ Q av σ'
noncomputable def HasT (Q : Post) : Prop := ∀ v σ', Q v σ' → ∃ t, Tr v t
noncomputable def ST (C : Cx) (K : Kx) (tc : Tc) (e : Expr) (pe : PE) : Prop := ∀ {P f d ρ σ s A Q X} {whole : Sem Value}, whole = eval e f.env → Fr tc f A d → St C P f ρ σ s → HasT Q → pe K tc.hd d ρ σ Q X →
  wpAny (model C.prog C.w) A (isTrue e f.env whole) (RT C P f ρ Q) (RX C P f ρ X) s
theorem fit {α : Type} {t : Sem α} {Q Q' : α → Shared → Prop} (h : wpAny M A t Q E s) (hQ : ∀ a s, Q a s → Q' a s) : wpAny M A t Q' E s := wpAny_mono h hQ fun _ _ x => x
theorem fitv {t : Sem Value} {Q' : Value → Shared → Prop} (h : wpAny M A t (RV C P f ρ Q) E s) (k : ∀ v s₁ av σ₁, av.is v → St C P f ρ σ₁ s₁ → Q av σ₁ → Q' v s₁) : wpAny M A t Q' E s :=
  fit h fun v s₁ ⟨av, σ₁, hv, S, q⟩ => k v s₁ av σ₁ hv S q
theorem fitt {t : Sem Bool} {Q' : Bool → Shared → Prop} (h : wpAny M A t (RT C P f ρ Q) E s) (k : ∀ b s₁ av σ₁, Tr av b → St C P f ρ σ₁ s₁ → Q av σ₁ → Q' b s₁) : wpAny M A t Q' E s :=
  fit h fun v s₁ ⟨av, σ₁, hv, S, q⟩ => k v s₁ av σ₁ hv S q
theorem hasT (k : Bool → Hp → AV → Prop) : HasT fun v σ' => TruP v fun t => k t σ' v := fun _ _ h => let ⟨t, e, _⟩ := Tr.of h; ⟨t, e⟩
/-- a condition -/
theorem cond {c : Expr} {pc : PE} {kb : Bool → Hp → Prop} {Q' : Bool → Shared → Prop} (hc : ST C K tc c pc) (H : Fr tc f A d) (S : St C P f ρ σ s) (w : pc K tc.hd d ρ σ (fun v σ' => TruP v fun t => kb t σ') X)
    (k : ∀ b s₁ σ₁, St C P f ρ σ₁ s₁ → kb b σ₁ → Q' b s₁) : wpAny (model C.prog C.w) A (isTrue c f.env (eval c f.env)) Q' (RX C P f ρ X) s :=
  fitt (hc rfl H S (hasT fun t σ' _ => kb t σ') w) fun b s₁ _ σ₁ e S₁ q => k b s₁ σ₁ S₁ (e.get q)
/-- plain truth -/
theorem st_plain {e : Expr} {pe : PE} (h : SE C K tc e pe) (he : ∀ env whole, isTrue e env whole = (do let v ← whole; standAt e.pos; holding [v] (truthy v))) : ST C K tc e pe := by
  intro P f d ρ σ s A Q X whole hw H S hq w
  subst hw
  refine isTrue_plain (fitv (h H S w) fun v s₁ av σ₁ hv S₁ q => ?_) (he _ _)
  obtain ⟨t, e⟩ := hq _ _ q
  exact ps_truth hv e ⟨av, σ₁, e, S₁, q⟩
abbrev Both (C : Cx) (K : Kx) (tc : Tc) (e : Expr) (pe : PE) : Prop := SE C K tc e pe ∧ ST C K tc e pe
theorem plain {e : Expr} {pe : PE} (h : SE C K tc e pe) (he : ∀ env whole, isTrue e env whole = (do let v ← whole; standAt e.pos; holding [v] (truthy v))) : Both C K tc e pe := ⟨h, st_plain h he⟩
theorem se_int {i : Int} {k : Nat} {pos : Pos} : SE C K tc (.Constant (.int i) k pos) (.lit (.int i)) := fun _ S w => wpAny_Constant_int (rv (av := .int i) ⟨_, rfl⟩ (S.tok _) w)
theorem se_str {x : Str} {k : Nat} {pos : Pos} : SE C K tc (.Constant (.str x) k pos) (.lit (.str x.cps.toList)) := fun _ S w =>
  wpAny_Constant_str (rv (av := .str x.cps.toList) ⟨_, rfl⟩ (S.tok _) w)
theorem se_bool {b : Bool} {k : Nat} {pos : Pos} : SE C K tc (.Constant (.bool b) k pos) (.lit (.bool b)) := fun _ S w => wpAny_Constant_bool (rv (av := .bool b) rfl S w)
theorem se_none {k : Nat} {pos : Pos} : SE C K tc (.Constant .none k pos) (.lit .none) := fun _ S w => wpAny_Constant_none (rv (av := .none) rfl S w)
theorem locAt_get : ∀ {ρ : Loc} {i : Nat} {v : AV}, locAt ρ i = some v → ρ[i]? = some (some v)
  | _ :: _, 0, _, h => congrArg some h
  | _ :: r, i + 1, _, h => locAt_get (ρ := r) (i := i) h
theorem se_loc {x : Str} {pos : Pos} {i : Nat} (hi : tc.names[i]? = some x) (hd : (x == ("__debug__" : Str)) = false) : SE C K tc (.Name x pos) (.loc i) := fun {P f d ρ σ s A Q X} H S w => by
  refine okE w fun v hv q => ?_
  obtain ⟨m, cm, L⟩ := S.locs
  obtain ⟨cv, hcv, h⟩ := L.val i x v (by rw [H.names]; exact hi) (locAt_get hv)
  refine wpAny_Name ?_ hd
  rcases h with ⟨h1, h2⟩ | ⟨h1, h2, h3⟩
  · exact wpAny_loadName_local H.kind h1 L.ns h2 (rv hcv S q)
  · obtain ⟨c, hc⟩ := Option.isSome_iff_exists.mp h2
    exact wpAny_loadName_cell H.kind h1 hc (h3 ▸ L.cell x c hc) (rv hcv S q)
/-- a global name -/
structure Gl (tc : Tc) (x : Str) (k : GK) : Prop where
  kind : tc.kinds.lookup x = some .globalImplicit
  g : tc.g.lookup x = some k
  nd : (x == ("__debug__" : Str)) = false
theorem ld_glob {x : Str} {pos : Pos} {k : GK} {Q : Value → Shared → Prop} (hg : GOk C tc.g) (H : Fr tc f A d) (G : Gl tc x k) (S : St C P f ρ σ s) (h : ∀ v, k.is C v → Q v s) : wpAny (model C.prog C.w) A (eval (.Name x pos) f.env) Q E s := by
  obtain ⟨mg, mb, h1, h2, h3⟩ := hg
  obtain ⟨v, hv, h4⟩ := h3 x k G.g
  refine Calls.Name_function_global H.kind (by rw [Env.kindOf, H.kinds]; exact G.kind) ?_ G.nd
  have n1 : s.heap.Ns f.env.globals mg := by rw [H.glob]; exact h1.keeps S.base
  have n2 : s.heap.Ns f.env.builtins mb := by rw [H.blt]; exact h2.keeps S.base
  rcases h4 with h4 | ⟨h4, h5⟩
  · exact Calls.loadGlobal_global n1 h4 (h v hv)
  · exact Calls.loadGlobal_builtin n1 h4 n2 h5 (h v hv)
theorem se_glob {x : Str} {pos : Pos} {v : AV} (hg : GOk C tc.g) (G : Gl tc x (.val v)) : SE C K tc (.Name x pos) (.lit v) := fun H S w => ld_glob hg H G S fun _ hv => rv hv S w
theorem se_bin {l r : Expr} {bop : Operator} {op : Op} {pos : Pos} {a b : PE} (ha : SE C K tc l a) (hb : SE C K tc r b) (ho : BinOk C op bop) : SE C K tc (.BinOp l bop r pos) (.prim op [a, b]) := fun H S w =>
  wpAny_BinOp (fitv (ha H S w) fun _ _ _ _ hv S₁ q => fitv (hb H S₁ q) fun _ _ _ _ hv' S₂ q => ho S₂ q hv hv')
theorem se_neg {x : Expr} {pos : Pos} {a : PE} (h : SE C K tc x a) : SE C K tc (.UnaryOp .USub x pos) (.prim .neg [a]) := fun H S w =>
  UnaryOp_ (fitv (h H S w) fun v _ av _ hv S₁ q => by apply intE (x := av) q hv; exact fun _ _ q => PyProof.Rows.neg_int (rv is_int (S₁.tok _) q))
theorem se_not {x : Expr} {pos : Pos} {a : PE} (h : SE C K tc x a) : SE C K tc (.UnaryOp .Not x pos) (.prim .not [a]) := fun {P f d ρ σ s A Q X} H S w =>
  UnaryOp_ (fitv (h H S w) fun _ _ _ σ₁ hv S₁ q => let ⟨_, e, q⟩ := Tr.of (k := fun b => Q (.bool !b) σ₁) q; not_of (ps_truth hv e (rv (av := .bool _) rfl S₁ q)))
theorem st_not {x : Expr} {pos : Pos} {a : PE} (h : ST C K tc x a) : ST C K tc (.UnaryOp .Not x pos) (.prim .not [a]) := by
  intro P f d ρ σ s A Q X whole hw H S hq w
  exact isTrue_not (fitt (h rfl H S (hasT fun t σ' _ => Q (.bool !t) σ') w) fun b s₁ av σ₁ e S₁ q => ⟨.bool !b, σ₁, rfl, S₁, e.get q⟩)
theorem se_ite {c x y : Expr} {pos : Pos} {pc px py : PE} (hc : ST C K tc c pc) (hx : SE C K tc x px) (hy : SE C K tc y py) : SE C K tc (.IfExp c x y pos) (.ite pc px py) := fun H S w =>
  IfExp_ (cond hc H S w fun b _ _ S₁ q => by cases b; exact hy H S₁ q; exact hx H S₁ q)
theorem st_ite {c x y : Expr} {pos : Pos} {pc px py : PE} (hc : ST C K tc c pc) (hx : ST C K tc x px) (hy : ST C K tc y py) : ST C K tc (.IfExp c x y pos) (.ite pc px py) := fun _ H S hq w =>
  isTrue_IfExp (cond hc H S w fun b _ _ S₁ q => by cases b; exact hy rfl H S₁ hq q; exact hx rfl H S₁ hq q)
theorem se_and {x y : Expr} {rest : List Expr} {pos : Pos} {a b : PE} (hx : SE C K tc x a) (hy : SE C K tc (.BoolOp .And (y :: rest) pos) b) : SE C K tc (.BoolOp .And (x :: y :: rest) pos) (.and a b) := fun H S w =>
  BoolOp_and (fitv (hx H S w) fun _ _ _ _ hv S₁ q => let ⟨t, e, q⟩ := Tr.of q; ps_truth hv e (by cases t; exact rv hv S₁ q; exact hy H S₁ q))
theorem se_or {x y : Expr} {rest : List Expr} {pos : Pos} {a b : PE} (hx : SE C K tc x a) (hy : SE C K tc (.BoolOp .Or (y :: rest) pos) b) : SE C K tc (.BoolOp .Or (x :: y :: rest) pos) (.or a b) := fun H S w =>
  BoolOp_or (fitv (hx H S w) fun _ _ _ _ hv S₁ q => let ⟨t, e, q⟩ := Tr.of q; ps_truth hv e (by cases t; exact hy H S₁ q; exact rv hv S₁ q))
theorem se_one {op : BoolOp} {x : Expr} {pos : Pos} {a : PE} (hx : SE C K tc x a) : SE C K tc (.BoolOp op [x] pos) a := fun H S w => BoolOp_one (hx H S w)
theorem st_and {x y : Expr} {rest : List Expr} {pos : Pos} {a b : PE} (hx : ST C K tc x a) (hy : ST C K tc (.BoolOp .And (y :: rest) pos) b) : ST C K tc (.BoolOp .And (x :: y :: rest) pos) (.and a b) := by
  intro P f d ρ σ s A Q X whole hw H S hq w
  refine isTrue_and (fitt (hx rfl H S (hasT fun t σ' v => WifP t (b K tc.hd d ρ σ' Q X) (Q v σ')) w) fun c s₁ av σ₁ e S₁ q => ?_)
  have q := e.get q
  cases c with
  | true =>
    have := hy rfl H S₁ hq q
    rw [arm_isTrue_BoolOp] at this
    rw [if_pos rfl, arm_isTrue_BoolOp]; exact this
  | false => exact ⟨av, σ₁, e, S₁, q⟩
theorem st_or {x y : Expr} {rest : List Expr} {pos : Pos} {a b : PE} (hx : ST C K tc x a) (hy : ST C K tc (.BoolOp .Or (y :: rest) pos) b) : ST C K tc (.BoolOp .Or (x :: y :: rest) pos) (.or a b) := by
  intro P f d ρ σ s A Q X whole hw H S hq w
  refine isTrue_or (fitt (hx rfl H S (hasT fun t σ' v => WifP t (Q v σ') (b K tc.hd d ρ σ' Q X)) w) fun c s₁ av σ₁ e S₁ q => ?_)
  have q := e.get q
  cases c with
  | true => exact ⟨av, σ₁, e, S₁, q⟩
  | false =>
    have := hy rfl H S₁ hq q
    rw [arm_isTrue_BoolOp] at this
    rw [if_neg Bool.false_ne_true, arm_isTrue_BoolOp]; exact this
theorem st_one {op : BoolOp} {x : Expr} {pos : Pos} {a : PE} (hx : ST C K tc x a) : ST C K tc (.BoolOp op [x] pos) a := by
  intro P f d ρ σ s A Q X whole hw H S hq w
  cases op with
  | And => exact isTrue_and (fit (hx rfl H S hq w) fun c s₁ h => by cases c; exact h; exact isTrue_and_nil h)
  | Or => exact isTrue_or (fit (hx rfl H S hq w) fun c s₁ h => by cases c; exact isTrue_or_nil h; exact h)
theorem Fr.u200 (H : Fr tc f A d) : A.units + 200 < cLine := by have := H.units; omega
theorem se_cmp {l r : Expr} {cop : CmpOp} {op : Op} {pos : Pos} {a b : PE} (ha : SE C K tc l a) (hb : SE C K tc r b) (ho : CmpOk C op cop) (hm : behindInMarks cop r = false) : SE C K tc (.Compare l [cop] [r] pos) (.prim op [a, b]) := fun H S w =>
  wpAny_Compare1 (fitv (ha H S w) fun _ _ _ _ hv S₁ q => fitv (hb H S₁ q) fun _ _ _ _ hv' S₂ q => ho S₂ H.u200 q hv hv') hm
theorem tru_of {op : Op} {cop : CmpOp} {x y : AV} {u v : Value} (ho : CmpOk C op cop) (H : Fr tc f A d) (S : St C P f ρ σ s) (hq : HasT Q) (q : op σ [x, y] Q) (hx : x.is u) (hy : y.is v) :
    wpAny (model C.prog C.w) A (compareOp cop u v) (fun w s₁ => wpAny (model C.prog C.w) A (truthy w) (RT C P f ρ Q) E s₁) E s :=
  fitv (ho S H.u200 q hx hy) fun _ _ av σ₁ hu S₃ q => let ⟨_, e⟩ := hq _ _ q; ps_truth hu e ⟨av, σ₁, e, S₃, q⟩
theorem st_cmp {l r : Expr} {cop : CmpOp} {op : Op} {pos : Pos} {a b : PE} (ha : SE C K tc l a) (hb : SE C K tc r b) (ho : CmpOk C op cop) (hm : behindInMarks cop r = false) : ST C K tc (.Compare l [cop] [r] pos) (.prim op [a, b]) := fun _ H S hq w =>
  wpAny_isTrue_Compare1 (fitv (ha H S w) fun _ _ _ _ hv S₁ q => fitv (hb H S₁ q) fun _ _ _ _ hv' S₂ q => tru_of ho H S₂ hq q hv hv') hm
theorem se_cmp2 {l r r' : Expr} {c₁ c₂ : CmpOp} {o₁ o₂ : Op} {pos : Pos} {a b c : PE} (ha : SE C K tc l a) (hb : SE C K tc r b) (hc : SE C K tc r' c) (h₁ : CmpOk C o₁ c₁) (h₂ : CmpOk C o₂ c₂)
    (hm : lastMarks [c₁, c₂] [r, r'] = false) : SE C K tc (.Compare l [c₁, c₂] [r, r'] pos) (.cmp2 o₁ o₂ a b c) := fun H S w =>
  Compare_chain (fitv (ha H S w) fun _ _ _ _ hv S₁ q => chain_link (fitv (hb H S₁ q) fun _ _ _ _ hv' S₂ q => fitv (h₁ S₂ H.u200 q hv hv') fun _ _ _ _ hu S₃ q => let ⟨t, e, q⟩ := Tr.of q
    ps_truth hu e (by cases t; exact rv hu S₃ q; exact chain_last (fitv (hc H S₃ q) fun _ _ _ _ hv'' S₄ q => h₂ S₄ H.u200 q hv' hv'')))) hm
theorem st_cmp2 {l r r' : Expr} {c₁ c₂ : CmpOp} {o₁ o₂ : Op} {pos : Pos} {a b c : PE} (ha : SE C K tc l a) (hb : SE C K tc r b) (hc : SE C K tc r' c) (h₁ : CmpOk C o₁ c₁) (h₂ : CmpOk C o₂ c₂)
    (hm : lastMarks [c₁, c₂] [r, r'] = false) : ST C K tc (.Compare l [c₁, c₂] [r, r'] pos) (.cmp2 o₁ o₂ a b c) := fun _ H S hq w =>
  isTrue_chain (fitv (ha H S w) fun _ _ _ _ hv S₁ q => test_link (fitv (hb H S₁ q) fun _ _ _ _ hv' S₂ q => fitv (h₁ S₂ H.u200 q hv hv') fun _ _ av σ₃ hu S₃ q => let ⟨t, e, q⟩ := Tr.of q
    ps_truth hu e (by cases t; exact ⟨av, σ₃, e, S₃, q⟩; exact test_last (fitv (hc H S₃ q) fun _ _ _ _ hv'' S₄ q => tru_of h₂ H S₄ hq q hv' hv'')))) hm
theorem se_pow {a b : Int} {k k' : Nat} {p p' pos : Pos} (h1 : 2 ≤ a) (h2 : 1 ≤ b) (h3 : ¬ Builtin.Int.intTooBig (((Builtin.Int.intBits a : Nat) : Int) * b) = true) :
    SE C K tc (.BinOp (.Constant (.int a) k p) .Pow (.Constant (.int b) k' p') pos) (.lit (.int (a ^ b.toNat))) := fun H S w => by
  refine wpAny_BinOp (wpAny_Constant_int (wpAny_Constant_int ?_))
  refine AutoIntOps.pow_4 (by omega) ?_ ?_ ?_ h3 ?_
  · rw [beq_iff_eq]; omega
  · rw [Bool.or_eq_true, beq_iff_eq, beq_iff_eq]; omega
  · rw [beq_iff_eq]; omega
  · exact rv (av := .int (a ^ b.toNat)) ⟨_, rfl⟩ (S.keeps fun _ _ e => e) w
end
end U
namespace U
open PySem PyProof.Rows
section
variable {C : Cx} {K : Kx} {P : Kept} {f : Fx} {d : Nat} {ρ : Loc} {σ : Hp} {s : Shared} {A : Around} {Q : Post} {X : XPost} {tc : Tc} {M : Model} {E : Value → Shared → Prop}
noncomputable def notStar : Expr → Bool
  | .Starred .. => false
  | _ => true
theorem backTo_cons {e : Expr} {es : List Expr} {env : Env} {pos : Pos} (h : notStar e = true) : backTo pos (starEach (e :: es) env) = (false, eval e env) :: backTo pos (starEach es env) := by
  have : starEach (e :: es) env = (false, eval e env) :: starEach es env := by cases e <;> first | rfl | cases h
  rw [this]; rfl
noncomputable def RVs (C : Cx) (P : Kept) (f : Fx) (ρ : Loc) (Q : List AV → Hp → Prop) : List Value → Shared → Prop := fun vs s' => ∃ avs σ', All2 AV.is avs vs ∧ St C P f ρ σ' s' ∧ Q avs σ'
noncomputable def SEs (C : Cx) (K : Kx) (tc : Tc) (es : List Expr) (pes : List PE) : Prop := es.all notStar = true ∧ ∀ {P f d ρ σ s A Q X} (pos : Pos), Fr tc f A d → St C P f ρ σ s → pEs K tc.hd d pes ρ σ Q X →
  wpAny (model C.prog C.w) A (spliced (backTo pos (starEach es f.env))) (RVs C P f ρ Q) (RX C P f ρ X) s
theorem ses_nil : SEs C K tc [] [] := ⟨rfl, fun _ _ S w => Calls.spliced_nil ⟨[], _, .nil, S, w⟩⟩
theorem ses_cons {e : Expr} {es : List Expr} {pe : PE} {pes : List PE} (he : SE C K tc e pe) (hn : notStar e = true) (hes : SEs C K tc es pes) : SEs C K tc (e :: es) (pe :: pes) := ⟨by rw [List.all_cons, hn, hes.1]; rfl, fun pos H S w => by
  rw [backTo_cons hn]
  exact Calls.spliced_cons (fitv (he H S w) fun v s₁ av σ₁ hv S₁ q => fit (hes.2 pos H S₁ q) fun vs s₂ ⟨avs, σ₂, hvs, S₂, q⟩ => ⟨av :: avs, σ₂, .cons hv hvs, S₂, q⟩)⟩
theorem star_any {es : List Expr} {env : Env} {pos : Pos} (h : es.all notStar = true) : (backTo pos (starEach es env)).any (·.1) = false := by
  induction es with
  | nil => rfl
  | cons e es ih =>
    rw [List.all_cons, Bool.and_eq_true] at h
    rw [backTo_cons h.1]; exact ih h.2
theorem star_all {α : Type} {l : List (Bool × α)} (h : l.any (·.1) = false) : l.all (fun x => !x.1) = true := by
  rw [← List.not_any_eq_all_not, h]; rfl
/-- the arguments of a call -/
theorem args_of {es : List Expr} {env : Env} {pos : Pos} {fv : Value} {Q : Args → Shared → Prop} (hn : es.all notStar = true)
    (h : wpAny M A (spliced (backTo pos (starEach es env))) (fun vs s' => Q ⟨vs, []⟩ s') E s) : wpAny M A (evalArgs fv true (backTo pos (starEach es env)) []) Q E s := by
  cases es with
  | nil =>
    unfold evalArgs
    show wpAny M A (spliced (backTo pos (starEach [] env)) >>= _) Q E s
    refine wpAny_bind (fit h fun vs s' h' => ?_)
    exact wpAny_holding (wpAny_bind (wpAny_pure (wpAny_bind (wpAny_pure (wpAny_pure h')))))
  | cons e es =>
    rw [List.all_cons, Bool.and_eq_true] at hn
    rw [backTo_cons hn.1] at h ⊢
    exact Calls.evalArgs_plain h
theorem args_e {es : List Expr} {pes : List PE} {pos : Pos} {fv : Value} {Qs : List AV → Hp → Prop} {Q : Args → Shared → Prop} (hes : SEs C K tc es pes) (H : Fr tc f A d) (S : St C P f ρ σ s) (w : pEs K tc.hd d pes ρ σ Qs X)
    (k : ∀ vs s₁ avs σ₁, All2 AV.is avs vs → St C P f ρ σ₁ s₁ → Qs avs σ₁ → Q ⟨vs, []⟩ s₁) : wpAny (model C.prog C.w) A (evalArgs fv true (backTo pos (starEach es f.env)) []) Q (RX C P f ρ X) s :=
  args_of hes.1 (fit (hes.2 pos H S w) fun vs s₁ ⟨avs, σ₁, hvs, S₁, q⟩ => k vs s₁ avs σ₁ hvs S₁ q)
theorem no_hand (H : Fr tc f A d) (h : tc.hd = false) : A.handled = none := by
  have := H.hd; rw [h] at this
  rw [H.hand]; cases q : f.hx with
  | none => rfl
  | some x => rw [q] at this; cases this
theorem se_bi {x : Str} {p pos : Pos} {id : String} {nh : Bool} {op : Op} {es : List Expr} {pes : List PE} (hg : GOk C tc.g) (G : Gl tc x (.bi id)) (ho : CallOk C nh op (.builtin id)) (hh : nh = true → tc.hd = false) (hes : SEs C K tc es pes) : SE C K tc (.Call (.Name x p) es [] pos) (.prim op pes) := fun H S w =>
  wpAny_Call_NameR (ld_glob hg H G S fun v hv => by cases hv; exact Calls.callWith_builtin (star_any hes.1) (args_e hes H S w fun _ _ _ _ hvs S₁ q => ho S₁ (fun h => no_hand H (hh h)) q hvs))
theorem se_ty {x : Str} {p pos : Pos} {id : String} {nh : Bool} {op : Op} {es : List Expr} {pes : List PE} (hg : GOk C tc.g) (G : Gl tc x (.typ id)) (ho : CallOk C nh op (.type id)) (hh : nh = true → tc.hd = false) (hes : SEs C K tc es pes) : SE C K tc (.Call (.Name x p) es [] pos) (.prim op pes) := fun H S w =>
  wpAny_Call_NameR (ld_glob hg H G S fun v hv => by cases hv; exact PySem.callWith_type (star_any hes.1) (args_e hes H S w fun _ _ _ _ hvs S₁ q => ho S₁ (fun h => no_hand H (hh h)) q hvs))
/-- isinstance, of one type -/
theorem se_isinst {x y : Str} {p py pos : Pos} {t : String} {e : Expr} {pe : PE} (hg : GOk C tc.g) (G : Gl tc x (.bi "isinstance")) (G' : Gl tc y (.typ t)) (ht : AnsT t) (hn : notStar e = true) (he : SE C K tc e pe) : SE C K tc (.Call (.Name x p) [e, .Name y py] [] pos) (.prim (.isinst [t]) [pe]) := fun {P f d ρ σ s A Q X} H S w => by
  refine wpAny_Call_NameR (ld_glob hg H G S fun v hv => ?_)
  cases hv
  have hn2 : [e, Expr.Name y py].all notStar = true := by rw [List.all_cons, hn]; rfl
  refine Calls.callWith_builtin (star_any hn2) (args_of hn2 ?_)
  rw [backTo_cons hn, backTo_cons rfl]
  refine Calls.spliced_cons (fitv (he H S w) fun v s₁ av σ₁ hv S₁ q => Calls.spliced_cons (ld_glob hg H G' S₁ fun v' hv' => ?_))
  cases hv'
  exact Calls.spliced_nil (okE q fun k hk q => isi_one ht S₁ hv hk fun tk => rv is_bool (S₁.tok _) q)
/-- a call of a function of the text: what it gives -/
theorem run_fn {n : String} {a : Addr} {avs : List AV} {vs : List Value} {d' : Nat} {A' : Around} (HX : KOk C K) (ha : C.fnAt n = some a) (H : Fr tc f A d) (hA : ABk A' f.hx f.fs d') (S : St C P f ρ σ s) (hv : All2 AV.is avs vs) (q : K.fn tc.hd d' n avs σ Q X) :
    wpAny (model C.prog C.w) A' (call (.ref a) vs) (RV C P f ρ Q) (RX C P f ρ X) s := by
  refine wpAny_call (codeAny_mono (HX.fn ha q H.hd S.toB hv hA (let ⟨e, r, h, _⟩ := H.top; ⟨e, r, h⟩)) ?_)
  intro r s' h
  match r with
  | .ok (.ret v) => obtain ⟨av, σ', hv, B, q⟩ := h; exact ⟨av, σ', hv, S.ofB B, q⟩
  | .ok .next => exact h
  | .ok .brk => exact h
  | .ok .cont => exact h
  | .error e => obtain ⟨a, σ', c, dd, rfl, B, hc, q⟩ := h; exact ⟨a, σ', c, dd, rfl, S.ofB B, hc, q⟩
theorem Fr.abk {d' : Nat} (H : Fr tc f A (d' + 1)) : ABk A f.hx f.fs d' := ⟨H.depth, by have := H.units; omega, H.hand, H.frames⟩
/-- a function of the text -/
theorem se_fn {x : Str} {p pos : Pos} {n : String} {es : List Expr} {pes : List PE} {g : List (Str × GK)} (HX : Env' C K g) (hg : tc.g = g) (G : Gl tc x (.fn n)) (hes : SEs C K tc es pes) : SE C K tc (.Call (.Name x p) es [] pos) (.fn n pes) := fun {P f d ρ σ s A Q X} H S w => by
  refine wpAny_Call_NameR (ld_glob (hg ▸ HX.g) H G S fun v hv => ?_)
  obtain ⟨a, ha, rfl⟩ := hv
  obtain ⟨o, fd, e1, e2⟩ := HX.f n a ha
  refine Calls.callWith_function (o := o) (fd := fd) (args_e hes H S w fun vs s₁ avs σ₁ hvs S₁ q => ?_)
  obtain ⟨hd, q⟩ := q
  obtain ⟨d', rfl⟩ := Nat.exists_eq_succ_of_ne_zero hd
  exact ⟨⟨S₁.base _ _ e1, e2⟩, run_fn HX.k ha H H.abk S₁ hvs q⟩
/-- the method of a plain object -/
structure BmOk (C : Cx) (op : BOp) (n : Str) (id : String) : Prop where
  pl : PlainAttrs op.self
  sl : Slot op.self n id
  ty : typeOf (.builtin id) = pure (.type "method_descriptor")
  ok : CallOk C false op.p (.builtin id)
theorem bm_append : BmOk C .append "append" "list.append" := ⟨F.plainAttrs_list, F.slot_list_append, F.type_list_append, call_append⟩
theorem bm_get : BmOk C .get "get" "dict.get" := ⟨F.plainAttrs_dict, F.slot_dict_get, F.type_dict_get, call_get⟩
theorem bm_join : BmOk C .join "join" "str.join" := ⟨F.plainAttrs_str, F.slot_str_join, F.type_str_join, call_join⟩
theorem bm_index : BmOk C .index "index" "list.index" := ⟨F.plainAttrs_list, F.slot_list_index, F.type_list_index, call_index⟩
theorem kind_type {x : AV} {u : Value} {T : String} (S : St C P f ρ σ s) (hv : x.is u) (hk : kindIs σ x = some T) : s.TypeIs u T ∧ ∀ a, u = .ref a → ∃ o, s.heap.get? a = some o ∧ o.dict = none :=
  kindE (G := fun T u => s.TypeIs u T ∧ ∀ a, u = .ref a → ∃ o, s.heap.get? a = some o ∧ o.dict = none) S hv hk ⟨rfl, nofun⟩ (fun _ => ⟨rfl, nofun⟩) (fun _ _ => ⟨typeIs_int _ _ _, nofun⟩) (fun _ _ => ⟨typeIs_str _ _ _, nofun⟩)
    (fun _ o g c d => ⟨⟨o, g, c⟩, fun _ e => by cases e; exact ⟨o, g, d⟩⟩) (fun _ o g c d => ⟨⟨o, g, c⟩, fun _ e => by cases e; exact ⟨o, g, d⟩⟩) fun _ o g c d => ⟨⟨o, g, c⟩, fun _ e => by cases e; exact ⟨o, g, d⟩⟩
noncomputable def baseOk : Expr → Bool
  | .Call (.Name _ _) [] [] _ => false
  | _ => true
theorem base_of {o : Expr} {name : Str} {env : Env} {w : Sem Value} (h : baseOk o = true) : attributeBase o name env w = w := by
  unfold attributeBase
  split
  · cases h
  · rfl
theorem se_bm {o : Expr} {name : Str} {apos pos : Pos} {op : BOp} {id : String} {po : PE} {es : List Expr} {pes : List PE} (hb : BmOk C op name id) (hbase : baseOk o = true) (hline : (apos.endLine == pos.line) = true)
    (hl : es.length < 30) (ho : SE C K tc o po) (hes : SEs C K tc es pes) : SE C K tc (.Call (.Attribute o name apos) es [] pos) (.bm op po pes) := fun {P f d ρ σ s A Q X} H S w => by
  refine wpAny_Call_method_late (base_of hbase) ?_ hline rfl (fitv (ho H S w) fun v s₁ av σ₁ hv S₁ q => ?_)
  · rw [star_all (star_any hes.1)]; simpa [backToKw, keywordEach] using hl
  · obtain ⟨k1, k2⟩ := kind_type S₁ hv q.1
    exact ⟨op.self, id, hb.pl, hb.sl, hb.ty, k1, k2, Calls.callWith_builtin (star_any hes.1) (args_e hes H S₁ q.2 fun _ _ _ _ hvs S₂ q => hb.ok S₂ nofun q (.cons hv hvs))⟩
/-- displays -/
theorem se_list {es : List Expr} {pes : List PE} {pos : Pos} (hes : SEs C K tc es pes) : SE C K tc (.List es pos) (.prim .mkList pes) := fun H S w =>
  wpAny_List_spliced (fit (hes.2 pos H S w) fun _ _ ⟨_, _, hvs, S₁, q⟩ => ⟨by rw [← hvs.length]; exact Nat.le_trans (Nat.le_of_lt q.1) (by decide), rv_list S₁ q.2 hvs⟩)
theorem se_tup {es : List Expr} {pes : List PE} {pos : Pos} {k} (hes : SEs C K tc es pes) : SE C K tc (.Tuple es k pos) (.prim .mkTup pes) := fun H S w =>
  wpAny_Tuple_spliced (fit (hes.2 pos H S w) fun _ _ ⟨_, _, hvs, S₁, q⟩ => ⟨by rw [← hvs.length]; exact Nat.le_trans (Nat.le_of_lt q.1) (by decide), rv_tup S₁ q.2 hvs⟩)
theorem se_dict0 {pos : Pos} (hC : C.Ok) : SE C K tc (.Dict [] [] pos) (.prim .mkDict0 []) := fun _ S w =>
  wpAny_Dict_empty (rv_new S w.2 (fun _ _ => ⟨⟨[], .nil, fun _ _ e => ⟨_, #[], 0, e, ⟨rfl, rfl, rfl⟩, rfl, (fun _ h => absurd h (by simp)), .nil, .nil⟩⟩, S.notSys hC (Nat.le_refl _)⟩) rfl)
noncomputable def noSlice : Expr → Bool
  | .Slice .. => false
  | _ => true
theorem se_item {x y : Expr} {pos : Pos} {px py : PE} (hx : SE C K tc x px) (hy : SE C K tc y py) (hs : noSlice y = true) : SE C K tc (.Subscript x y pos) (.prim .item [px, py]) := fun {P f d ρ σ s A Q X} H S w => by
  rw [eval_Subscript]
  refine wpAny_bind (fitv (hx H S w) fun v s₁ av σ₁ hv S₁ q => wpAny_bind (wpAny_holding (fitv (hy H S₁ q) fun v' s₂ av' σ₂ hv' S₂ q => wpAny_bind (wpAny_standAt ?_))))
  obtain ⟨⟨T, id, t1, t2⟩, g⟩ := ps_item (x := av) (y := av') S₂ q hv hv'
  exact tail_any (value := x) (slice := y) (ops := [v, v']) t1 t2 g (by unfold subscripted; cases y <;> first | rfl | cases hs)
noncomputable def SP (C : Cx) (K : Kx) (tc : Tc) : Option Expr → PE → Prop
  | none, pe => pe = .lit .none
  | some e, pe => SE C K tc e pe
theorem sp_of {e : Option Expr} {pe : PE} (h : SP C K tc e pe) (H : Fr tc f A d) (S : St C P f ρ σ s) (w : pe K tc.hd d ρ σ Q X) : wpAny (model C.prog C.w) A (evalPart e f.env) (RV C P f ρ Q) (RX C P f ρ X) s := by
  cases e with
  | none => cases h; exact wpAny_pure (rv (av := .none) rfl S w)
  | some e => exact h H S w
theorem se_slice {x : Expr} {l h t : Option Expr} {p pos : Pos} {px pl ph pt : PE} (hx : SE C K tc x px) (hl : SP C K tc l pl) (hh : SP C K tc h ph) (htt : SP C K tc t pt) :
    SE C K tc (.Subscript x (.Slice l h t p) pos) (.prim .slice [px, pl, ph, pt]) := fun {P f d ρ σ s A Q X} H S w => by
  rw [eval_Subscript]
  refine wpAny_bind (fitv (hx H S w) fun v s₁ av σ₁ hv S₁ q => wpAny_bind (wpAny_holding (wpAny_Slice (fitv (sp_of hl H S₁ q) fun v1 s₂ a1 σ₂ h1 S₂ q => fitv (sp_of hh H S₂ q) fun v2 s₃ a2 σ₃ h2 S₃ q => fitv (sp_of htt H S₃ q) fun v3 s₄ a3 σ₄ h3 S₄ q => wpAny_bind (wpAny_standAt ?_)))))
  have S₅ : St C P f ρ σ₄ { s₄ with heap := s₄.heap.push { cls := .type "slice", data := .fields #[v1, v2, v3] } } := S₄.keeps fun b o e => Heap.get?_push_of_some _ e
  obtain ⟨⟨T, id, t1, t2⟩, g⟩ := ps_slice (x := av) (l := a1) (h := a2) (t := a3) S₅ q hv h1 h2 h3 (Heap.IsSliceOf.new ..)
  exact tail_any (value := x) (slice := .Slice l h t p) (ops := match t with | none => [_, v] | some _ => [v, _]) t1 t2 g (by unfold subscripted; cases t <;> rfl)
end
end U
namespace U
open PySem PyProof.Rows
section
variable {C : Cx} {K : Kx} {P : Kept} {f : Fx} {d : Nat} {ρ : Loc} {σ : Hp} {s s' : Shared} {A : Around} {tc : Tc} {a : Addr} {c : String} {dd : Option Addr}
theorem tb_none (S : St C P f ρ σ s) {b : Addr} {o : Obj} (h : s.heap.get? b = some o) (t : IsTb o) : σ b = none := by
  cases q : σ b with
  | none => rfl
  | some ao => exact absurd t ((S.rel b ao q).noTb h)
theorem St.offTb (S : St C P f ρ σ s) {b : Addr} {o : Obj} (h : s.heap.get? b = some o) (t : IsTb o) (hb : C.base.get? b = none) : Off C P f b where
  base := hb
  P := fun z q p => by
    obtain ⟨⟨o', g, H⟩, _⟩ := S.hid z b q p
    rw [same h g] at t
    exact H.noTb ⟨H.cls ▸ t.1, H.data ▸ t.2⟩
  own := fun hO => by obtain ⟨m, cm, L⟩ := S.locs; exact L.noTb hO h t
  fr := fun e he q => by
    obtain ⟨_, L, o', h1, h2, h3, _⟩ := S.frs e he
    rw [← same q h1, h] at h2
    exact isD_noTb h3 (Option.some.inj h2 ▸ t)
/-- an exception is noted: its own record, entries of its traceback and the slots of frames turn -/
theorem St.tb (S : St C P f ρ σ s) (T : Addr → Prop) (ha : σ a = some (.exc c dd)) (hT : ∀ b, T b → ∃ o, s.heap.get? b = some o ∧ IsTb o ∧ C.base.get? b = none) (hT' : ∀ b, T b → ∃ o, s'.heap.get? b = some o ∧ IsTb o)
    (keep : ∀ b o, b ≠ a → ¬ T b → s.heap.get? b = some o → ∃ o', s'.heap.get? b = some o' ∧ Kp f.fs b o o')
    (hi : Is C s'.heap a (.exc c dd)) (hg : s'.gens = s.gens := by rfl) (ho : s'.os = s.os := by rfl) : St C P f ρ σ s' := by
  have off := S.off ha rfl
  refine S.step (fun b => b = a ∨ T b) (fun b h => ?_) (fun b o h e => keep b o (fun q => h (.inl q)) (fun q => h (.inr q)) e) (fun b o h e t => ?_) (fun b o e => ?_) (fun _ _ _ e => e) (fun _ c d _ e => ⟨c, d, e⟩) hg ho
  · rcases h with rfl | h
    · exact off
    · obtain ⟨o, h1, h2, h3⟩ := hT b h; exact S.offTb h1 h2 h3
  · rcases h with rfl | h
    · exact absurd t ((S.rel b _ ha).noTb e)
    · exact hT' b h
  · by_cases hb : b = a
    · subst hb; rw [same e ha]; exact .inr ⟨hi, off⟩
    · refine .inl ⟨fun h => h.elim hb fun h => ?_, e⟩
      obtain ⟨o', h1, h2, _⟩ := hT b h
      exact clash e (tb_none S h1 h2)
/-- there is an entry -/
noncomputable def Tb (h : Heap) (a : Addr) : Prop := ∃ oe vs T, h.get? a = some oe ∧ oe.data = .fields vs ∧ vs[1]? = some (.ref T)
theorem funFrames (S : St C P f ρ σ s) : ∀ l : List Env, (∀ e ∈ l, e ∈ f.fs) → s.heap.FunFrames C.base l
  | [], _ => trivial
  | e :: r, h => by
    obtain ⟨h1, L, o, h2, h3, ⟨es, n, h4⟩, h5, h6⟩ := S.frs e (h e (.head _))
    exact ⟨h1, ⟨L, o, h2, h5, h3, fun vs q => by rw [h4] at q; cases q⟩, funFrames S r fun e he => h e (.tail _ he)⟩
theorem tb_set {o : Obj} {x : Value} (t : IsTb o) : IsTb (o.mapFields (·.setIfInBounds 3 x)) := by
  obtain ⟨h1, ts, h2, h3⟩ := t
  exact ⟨(Obj.cls_mapFields _ _).trans h1, _, Obj.data_mapFields h2 _, by rw [Array.size_setIfInBounds]; exact h3⟩
theorem tb_freed {o : Obj} (t : IsTb o) : o.isFreed = false := let ⟨_, _, h, _⟩ := t; Obj.isFreed_of_fields h
/-- the entry at the head turns -/
theorem St.entry (S : St C P f ρ σ s) {T : Addr} {oe o : Obj} {vs : Array Value} {x : Value} (ha : σ a = some (.exc c dd)) (he : s.heap.get? a = some oe) (hd : oe.data = .fields vs) (h1 : vs[1]? = some (.ref T))
    (hT : s.heap.get? T = some o) (t : IsTb o) (hb : C.base.get? T = none) : St C P f ρ σ { s with heap := s.heap.update T (Obj.mapFields (·.setIfInBounds 3 x)) } ∧ T ≠ a := by
  have hTa : T ≠ a := fun q => clash ha (q ▸ tb_none S hT t)
  have hself := Heap.get?_update_self (Obj.mapFields (·.setIfInBounds 3 x)) hT (tb_freed (tb_set t))
  refine ⟨S.tb (fun b => b = T) ha (fun b h => by rw [h]; exact ⟨o, hT, t, hb⟩) (fun b h => by rw [h]; exact ⟨_, hself, tb_set t⟩) (fun b o _ hne e => ⟨o, (Heap.get?_update_other _ _ (Ne.symm hne)).trans e, .inl rfl⟩) ?_, hTa⟩
  obtain ⟨ob, e0, ca, vs', e1, e3, e4, e5, e6, e7, _⟩ := S.rel a _ ha
  cases same he e0
  rw [hd] at e5; cases e5
  exact ⟨oe, (Heap.get?_update_other _ _ hTa).trans he, ca, vs, e1, e3, e4, hd, e6, e7, .inr ⟨T, _, h1, hself, tb_set t, hb⟩⟩
theorem note_of {Q : Unit → Shared → Prop} {E : Value → Shared → Prop} (H : Fr tc f A d) (S : St C P f ρ σ s) (ha : σ a = some (.exc c dd))
    (h : ∀ s', St C P f ρ σ s' → Tb s'.heap a → Q () s') : wpAny (model C.prog C.w) A (noteFrame (.ref a) f.env) Q E s := by
  obtain ⟨e, r, t1, t2⟩ := H.top
  obtain ⟨_, L, _, hL, _⟩ := S.frs e (by rw [t1]; exact .head _)
  rw [t2] at hL
  -- the new entry
  have new : ∀ {s : Shared} {head : Value} {hadNext : Bool}, St C P f ρ σ s →
      wpAny (model C.prog C.w) A (do let fr ← PySem.frameOf f.env; let pl ← entryPlaceOf L hadNext; let b ← EntryCells.newEntry head fr .none (rawInt L) .none pl; setField (.ref a) 1 b) Q E s := by
    intro s head hadNext S
    have hfo : PySem.frameOf f.env = PySem.frameOf e := by unfold PySem.frameOf; rw [t2]
    rw [hfo]
    refine wpAny_bind (wpAny_frameOf_fun (base := C.base) (L := L) (outer := r) (by rw [H.frames, t1]) (funFrames S _ fun x hx => by rw [t1]; exact hx) (by rw [t2, hL]) fun h₁ hs₁ => ?_)
    refine wpAny_bind (wpAny_entryPlaceOf fun pl hpl => ?_)
    unfold EntryCells.newEntry newFields
    refine wpAny_bind (wpAny_newObj_type ?_ (hpl.sizeOk5 _ _ _ _ _))
    generalize hob : (Obj.mk (.type "traceback") none (.fields ([head, .ref L, .none, rawInt L, .none] ++ (if pl.isEmpty then List.replicate 6 Value.none else pl)).toArray) #[]) = ob
    have tob : IsTb ob := by
      subst hob
      refine ⟨rfl, _, rfl, ?_⟩
      simp only [List.size_toArray, List.length_append, List.length_cons, List.length_nil]
      rcases hpl with rfl | ⟨_, _, _, _, _, _, _, rfl⟩ <;> simp
    have kp : ∀ b o, s.heap.get? b = some o → ∃ o', h₁.get? b = some o' ∧ Kp f.fs b o o' := fun b o g => by
      by_cases hb : b ∈ (e :: r).filterMap (·.frame)
      · obtain ⟨en, he, hf⟩ := List.mem_filterMap.mp hb
        rw [← t1] at he
        obtain ⟨sl, g'⟩ := hs₁.2.2 b o g
        obtain ⟨_, L', o', f1, f2, f3, _⟩ := S.frs en he
        rw [← same hf f1, g] at f2
        exact ⟨_, g', .inr ⟨⟨en, he, hf⟩, Option.some.inj f2 ▸ f3, sl, rfl⟩⟩
      · exact ⟨o, (hs₁.2.1 b hb).trans g, .inl rfl⟩
    obtain ⟨oe, e2, ca, vs, e1, e3, e4, e5, e6, e7, _⟩ := S.rel a _ ha
    have he₁ : h₁.get? a = some oe := by
      obtain ⟨o', g, k⟩ := kp a oe e2
      rcases k with rfl | ⟨k, _⟩
      · exact g
      · exact clash ha (S.frNone k).1
    have he₂ := Heap.get?_push_of_some (h := h₁) ob he₁
    have hsz : 1 < vs.size := Nat.lt_trans (by decide) e6
    have hd₃ := Obj.data_mapFields e5 (·.setIfInBounds 1 (Value.ref h₁.objs.size))
    have he₃ := Heap.get?_update_self (Obj.mapFields (·.setIfInBounds 1 (Value.ref h₁.objs.size))) he₂ (Obj.isFreed_of_fields hd₃)
    have hTa : a ≠ h₁.objs.size := Nat.ne_of_lt (Heap.lt_size he₁)
    have hT₃ := (Heap.get?_update_other (h₁.push ob) (Obj.mapFields (·.setIfInBounds 1 (Value.ref h₁.objs.size))) hTa).trans (Heap.get?_push_size h₁ (tb_freed tob))
    have h1 : (vs.setIfInBounds 1 (Value.ref h₁.objs.size))[1]? = some (.ref h₁.objs.size) := by rw [Array.getElem?_setIfInBounds_self_of_lt hsz]
    refine wpAny_setField he₂ e5 hsz (h _ (S.tb (a := a) (fun _ => False) ha (fun _ h => h.elim) (fun _ h => h.elim) (fun b o hb _ g => ?_) ⟨_, he₃, ca, _, e1, (Obj.cls_mapFields _ _).trans e3, ?_, hd₃, by rw [Array.size_setIfInBounds]; exact e6, ?_, .inr ⟨h₁.objs.size, ob, h1, hT₃, tob, ?_⟩⟩) ⟨_, _, _, he₃, hd₃, h1⟩)
    · obtain ⟨o', g', k⟩ := kp b o g
      exact ⟨o', (Heap.get?_update_other _ _ (Ne.symm hb)).trans (Heap.get?_push_of_some _ g'), k⟩
    · rw [← e4]; unfold Obj.mapFields; split <;> rfl
    · rw [Array.getElem?_setIfInBounds_ne (by decide)]; exact e7
    · cases q : C.base.get? h₁.objs.size with
      | none => rfl
      | some o =>
        obtain ⟨sl, q''⟩ := hs₁.2.2 _ _ (S.base _ _ q)
        exact absurd (Heap.lt_size q'') (Nat.lt_irrefl _)
  obtain ⟨oe, e2, ca, vs, e1, e3, e4, e5, e6, e7, e8⟩ := S.rel a _ ha
  unfold noteFrame
  simp only [hL]
  rcases e8 with e8 | ⟨T, o, t1, t2, t3, t4⟩
  · refine wpAny_bind (wpAny_field e2 e5 e8 ?_)
    rw [if_neg (by decide)]
    exact new S
  · refine wpAny_bind (wpAny_field e2 e5 t1 ?_)
    rw [if_pos (show (Value.ref T != Value.none) = true from rfl)]
    obtain ⟨_, ts, d1, d2⟩ := id t3
    refine wpAny_bind (wpAny_field t2 d1 (Array.getElem?_eq_getElem (Nat.lt_trans (by decide) d2)) ?_)
    split
    · exact wpAny_pure (h _ S ⟨oe, vs, T, e2, e5, t1⟩)
    · exact wpAny_bind (wpAny_setField t2 d1 (Nat.lt_trans (by decide) d2) (new (S.entry ha e2 e5 t1 t2 t3 t4).1))
theorem flight_of {fr : Option Addr} {Q : Unit → Shared → Prop} {E : Value → Shared → Prop} (S : St C P f ρ σ s) (ha : σ a = some (.exc c dd))
    (h : ∀ s', St C P f ρ σ s' → Q () s') : wpAny (model C.prog C.w) A (setFlight (.ref a) fr) Q E s := by
  obtain ⟨oe, e2, ca, vs, e1, e3, e4, e5, e6, e7, e8⟩ := S.rel a _ ha
  unfold setFlight
  rcases e8 with e8 | ⟨T, o, t1, t2, t3, t4⟩
  · refine wpAny_bind (wpAny_field e2 e5 e8 ?_)
    rw [if_neg (by decide)]
    exact wpAny_pure (h _ S)
  · refine wpAny_bind (wpAny_field e2 e5 t1 ?_)
    rw [if_pos (show (Value.ref T != Value.none) = true from rfl)]
    obtain ⟨_, ts, d1, d2⟩ := id t3
    exact wpAny_setField t2 d1 (Nat.lt_trans (by decide) d2) (h _ (S.entry ha e2 e5 t1 t2 t3 t4).1)
/-- an exception with an entry -/
noncomputable def RXt (C : Cx) (P : Kept) (f : Fx) (ρ : Loc) (X : XPost) : Value → Shared → Prop := fun x s' => ∃ a σ' c d, x = .ref a ∧ St C P f ρ σ' s' ∧ σ' a = some (.exc c d) ∧ Tb s'.heap a ∧ X a σ'
theorem noted_of {X : XPost} {e : Value} {E : Value → Shared → Prop} (H : Fr tc f A d) (h : RX C P f ρ X e s) (hE : ∀ s', RXt C P f ρ X e s' → E e s') : notedBy (model C.prog C.w) A f.env E e s := by
  obtain ⟨a, σ, c, dd, rfl, S, ha, q⟩ := h
  exact note_of H S ha fun s' S' t => hE s' ⟨a, σ, c, dd, rfl, S', ha, t, q⟩
theorem came_of {X : XPost} {e : Value} {E : Value → Shared → Prop} {env : Env} (h : RXt C P f ρ X e s) (hE : ∀ s', RX C P f ρ X e s' → E e s') : cameBackBy (model C.prog C.w) A env E e s := by
  obtain ⟨a, σ, c, dd, rfl, S, ha, ⟨oe, vs, T, t1, t2, t3⟩, q⟩ := h
  unfold cameBackBy
  refine wpAny_bind (wpAny_field t1 t2 t3 ?_)
  rw [if_neg (show ¬ ((Value.ref T == Value.none) = true) from Bool.false_ne_true)]
  exact flight_of S ha fun s' S' => hE s' ⟨a, σ, c, dd, rfl, S', ha, q⟩
end
end U
namespace U
open PySem PyProof.Rows
section
variable {C : Cx} {K : Kx} {P : Kept} {f : Fx} {d : Nat} {ρ ρ' : Loc} {σ : Hp} {s s' : Shared} {A : Around} {tc : Tc} {I a : Addr} {vs : List AV}
/-- a value that a walk gives -/
noncomputable def ItIs (h : Heap) : It → Value → Prop
  | .one v, cv => v.is cv
  | .two a b, cv => ∃ t ca cb n, cv = .ref t ∧ h.get? t = some ⟨.type "tuple", none, .seq #[ca, cb] n, #[]⟩ ∧ a.is ca ∧ b.is cb
/-- a walk over things -/
structure Wkr (C : Cx) (A : Around) (I : Addr) (its : List It) (G : Heap → Prop) (W : Nat → Heap → Prop) : Prop where
  obj : ∀ i h, W i h → ∃ o, h.get? I = some o ∧ ¬ IsTb o ∧ ¬ IsD o ∧ ∀ h', h'.get? I = some o → W i h'
  item : ∀ i it (s : Shared) (Q : Option Value → Shared → Prop) (E : Value → Shared → Prop), its[i]? = some it → W i s.heap → G s.heap →
    (∀ v h' tk, ItIs h' it v → W (i + 1) h' → (∀ b o, b ≠ I → s.heap.get? b = some o → h'.get? b = some o) → Q (some v) { s with heap := h', toks := tk }) → wpAny (model C.prog C.w) A (pyNext (.ref I)) Q E s
  done : ∀ (s : Shared) (Q : Option Value → Shared → Prop) (E : Value → Shared → Prop), W its.length s.heap → G s.heap →
    (∀ h' tk, (∀ b o, b ≠ I → s.heap.get? b = some o → h'.get? b = some o) → Q none { s with heap := h', toks := tk }) → wpAny (model C.prog C.w) A (pyNext (.ref I)) Q E s
  self : ∀ i (s : Shared) (Q : Value → Shared → Prop) (E : Value → Shared → Prop), W i s.heap → Q (.ref I) s → wpAny (model C.prog C.w) A (pyIter (.ref I)) Q E s
theorem obj_of {o : Obj} {t : String} {vs : Array Value} (h : o.cls = .type t) (ht : t ≠ "traceback") (hd : o.data = .fields vs) : ¬ IsTb o ∧ ¬ IsD o :=
  ⟨fun q => ht (by have := h.symm.trans q.1; injection this), fun ⟨_, _, q⟩ => by rw [hd] at q; cases q⟩
theorem map_get {α β : Type} {g : α → β} {xs : List α} {i : Nat} {y : β} (h : (xs.map g)[i]? = some y) : ∃ x, xs[i]? = some x ∧ g x = y := by
  rw [List.getElem?_map] at h; exact Option.map_eq_some_iff.mp h
noncomputable def SeqAt' (T : String) (a : Addr) (vs : List AV) (h : Heap) : Prop := ∃ cs n, h.get? a = some (seqObj T cs n) ∧ All2 AV.is vs cs.toList
theorem seq_none {cs : Array Value} (r : All2 AV.is vs cs.toList) : cs[(vs.map It.one).length]? = none := by
  rw [List.length_map, r.length, Array.length_toList]; exact Array.getElem?_eq_none (Nat.le_refl _)
theorem wkr_list (hh : A.handled = none) : Wkr C A I (vs.map .one) (SeqAt' "list" a vs) (fun i h => h.IsListIter I a i) where
  self := fun _ _ _ _ hw q => wpAny_pyIter_listiter hw q
  obj := fun i h ⟨o, h1, h2, h3⟩ => let q := obj_of h2 (by decide) h3; ⟨o, h1, q.1, q.2, fun h' e => ⟨o, e, h2, h3⟩⟩
  item := fun i it s Q E hi hw ⟨cs, n, g1, g2⟩ hQ => by
    obtain ⟨v, q, rfl⟩ := map_get hi
    obtain ⟨cv, e, r⟩ := g2.get q
    exact wpAny_pyNext_list_item hw ⟨_, g1, rfl, n, rfl⟩ (x := cv) (by rw [← Array.getElem?_toList]; exact e) fun h' w' sb => hQ cv h' s.toks r w' fun b o hb e => (sb.2 b hb).trans e
  done := fun s Q E hw ⟨cs, n, g1, g2⟩ hQ => wpAny_pyNext_list_end hh hw ⟨_, g1, rfl, n, rfl⟩ (seq_none g2) fun h' eb => hQ h' s.toks fun b o hb e => eb b o hb e
theorem wkr_tup (hh : A.handled = none) : Wkr C A I (vs.map .one) (SeqAt' "tuple" a vs) (fun i h => h.IsTupleIter I a i) where
  self := fun _ _ _ _ hw q => wpAny_pyIter_tupleiter hw q
  obj := fun i h ⟨o, h1, h2, h3⟩ => let q := obj_of h2 (by decide) h3; ⟨o, h1, q.1, q.2, fun h' e => ⟨o, e, h2, h3⟩⟩
  item := fun i it s Q E hi hw ⟨cs, n, g1, g2⟩ hQ => by
    obtain ⟨v, q, rfl⟩ := map_get hi
    obtain ⟨cv, e, r⟩ := g2.get q
    exact wpAny_pyNext_tuple_item hw ⟨_, g1, rfl, n, rfl⟩ (x := cv) (by rw [← Array.getElem?_toList]; exact e) fun h' w' sb => hQ cv h' s.toks r w' fun b o hb e => (sb.2 b hb).trans e
  done := fun s Q E hw ⟨cs, n, g1, g2⟩ hQ => wpAny_pyNext_tuple_end hh hw ⟨_, g1, rfl, n, rfl⟩ (seq_none g2) fun h' eb => hQ h' s.toks fun b o hb e => eb b o hb e
theorem toS_get (x : Txt) (j : Nat) : (toS x).cps[j]? = x[j]? := List.getElem?_toArray
theorem wkr_str {x : Txt} {t : Tok} (hh : A.handled = none) : Wkr C A I (x.map fun c => .one (.str [c])) (fun _ => True) (fun i h => h.IsStrIter I "str_ascii_iterator" (toS x) t i) where
  self := fun _ _ _ _ hw q => wpAny_pyIter_striter_ascii hw q
  obj := fun i h ⟨o, h1, h2, h3⟩ => let q := obj_of h2 (by decide) h3; ⟨o, h1, q.1, q.2, fun h' e => ⟨o, e, h2, h3⟩⟩
  item := fun i it s Q E hi hw _ hQ => by
    obtain ⟨c, q, rfl⟩ := map_get hi
    exact wpAny_pyNext_ascii_item hw (c := c) (by rw [toS_get]; exact q) fun h' w' sb => hQ _ h' _ ⟨_, rfl⟩ w' fun b o hb e => (sb.2 b hb).trans e
  done := fun s Q E hw _ hQ => wpAny_pyNext_ascii_end hh hw (by rw [toS_get, List.length_map]; exact List.getElem?_eq_none (Nat.le_refl _)) fun h' eb => hQ h' s.toks fun b o hb e => eb b o hb e
theorem wkr_range {lo hi : Int} (hh : A.handled = none) : Wkr C A I (rangeOf lo hi) (fun _ => True) (fun i h => IsRangeIter h I (lo + i) ((hi - lo).toNat - (i : Int)) 1) where
  self := fun _ _ _ _ hw q => wpAny_pyIter_rangeiter hw q
  obj := fun i h e => let q := obj_of (t := "range_iterator") rfl (by decide) rfl; ⟨_, e, q.1, q.2, fun h' e' => e'⟩
  item := fun i it s Q E hi' hw _ hQ => by
    obtain ⟨k, q, rfl⟩ := map_get hi'
    obtain ⟨hl, hk⟩ := List.getElem?_eq_some_iff.mp q
    rw [List.getElem_range] at hk; subst hk
    rw [List.length_range] at hl
    refine wpAny_pyNext_range_item hw (by omega) fun h' w' sb => hQ _ h' _ ⟨_, rfl⟩ ?_ fun b o hb e => (sb.2 b hb).trans e
    have e1 : lo + (i : Int) + 1 = lo + ((i + 1 : Nat) : Int) := Int.add_assoc _ _ _
    have e2 : ((hi - lo).toNat : Int) - (i : Int) - 1 = ((hi - lo).toNat : Int) - ((i + 1 : Nat) : Int) := Int.sub_sub _ _ _
    rw [e1, e2] at w'; exact w'
  done := fun s Q E hw _ hQ => by
    rw [show (rangeOf lo hi).length = (hi - lo).toNat by rw [rangeOf, List.length_map, List.length_range]] at hw
    exact wpAny_pyNext_range_end hh hw (by omega) fun h' eb => hQ h' s.toks fun b o hb e => eb b o hb e
theorem wkr_dict {es : List (Txt × AV)} {kvs : List (Str × Value)} {ep : Nat} (hh : A.handled = none) (r : All2 Ent es kvs) :
    Wkr C A I (es.map fun e => .one (.str e.1)) (fun h => h.DictAt (strKind C.prog C.w) a kvs ep) (fun i h => h.IsKeyIter I a i kvs.length ep) where
  self := fun _ _ _ _ hw q => wpAny_pyIter_keyiter hw q
  obj := fun i h ⟨o, h1, h2, h3⟩ => let q := obj_of h2 (by decide) h3; ⟨o, h1, q.1, q.2, fun h' e => ⟨o, e, h2, h3⟩⟩
  item := fun i it s Q E hi hw g hQ => by
    obtain ⟨e, q, rfl⟩ := map_get hi
    obtain ⟨⟨k, v⟩, h1, h2, _⟩ := r.get q
    cases (show k = _ from h2)
    refine wpAny_pyNext_dict_item hw g h1 fun key h' hk w' sb => ?_
    obtain ⟨t, rfl⟩ := Value.isStrOf_shape hk
    exact hQ _ h' s.toks ⟨t, rfl⟩ w' fun b o hb e => (sb.2 b hb).trans e
  done := fun s Q E hw g hQ => wpAny_pyNext_dict_end hh hw g (by rw [List.length_map, r.length]; exact List.getElem?_eq_none (Nat.le_refl _)) fun h' eb => hQ h' s.toks fun b o hb e => eb b o hb e
/-- the frame's own names turn -/
theorem St.relocs (S : St C P f ρ σ s) {b₀ : Addr} (hb : Own f.env b₀) (keep : ∀ b o, b ≠ b₀ → s.heap.get? b = some o → s'.heap.get? b = some o)
    (hfr : ∀ e ∈ f.fs, e.frame = some b₀ → ∃ o, s'.heap.get? b₀ = some o ∧ IsD o) (hl : ∃ m cm, Locs f.env f.names ρ' s'.heap m cm) (hg : s'.gens = s.gens := by rfl) (ho : s'.os = s.os := by rfl) : St C P f ρ' σ s' where
  toStB := S.toStB.step (· = b₀) (fun b h => h ▸ (S.own _ hb).2) (fun e he L h t => t ▸ hfr e he (t ▸ h)) (fun b o h e => ⟨o, keep b o h e, .inl rfl⟩) (fun b o h e t => by
    obtain ⟨m, cm, L⟩ := S.locs
    rw [show b = b₀ from h] at e
    exact absurd t (L.noTb hb e)) (fun b o e => .inl ⟨neN e (S.own _ hb).1, e⟩) (fun _ _ _ e => e) (fun _ c d _ e => ⟨c, d, e⟩) hg ho
  locs := hl
  own := S.own
theorem Locs.ncl {env : Env} {names : List Str} {h : Heap} {m cm : Str → Option Value} (L : Locs env names ρ h m cm) {y : Str} {c : Addr} (hc : env.cells.lookup y = some c) : c ≠ env.locals := fun q => by
  obtain ⟨o, e1, e2⟩ := L.cell y c hc
  obtain ⟨o', es, ep, h1, h2, _⟩ := L.ns
  rw [q, h1] at e1; cases e1; rw [e2] at h2; cases h2
theorem set_cases {ρ : Loc} {i j : Nat} {v w : AV} (h : (ρ.set i (some v))[j]? = some (some w)) : (j = i ∧ w = v) ∨ (j ≠ i ∧ ρ[j]? = some (some w)) := by
  by_cases hj : j = i
  · subst hj
    rw [List.getElem?_set_self'] at h
    cases q : ρ[j]? with
    | none => rw [q] at h; cases h
    | some _ => rw [q] at h; cases h; exact .inl ⟨rfl, rfl⟩
  · rw [List.getElem?_set_ne (Ne.symm hj)] at h; exact .inr ⟨hj, h⟩
/-- a name that may be stored -/
structure Tn (tc : Tc) (x : Str) (i : Nat) : Prop where
  here : tc.names[i]? = some x
  uniq : ∀ j, tc.names[j]? = some x → j = i
  kind : tc.kinds.lookup x = some .local ∨ tc.kinds.lookup x = some .cell
/-- a name is stored -/
theorem store_tn {x : Str} {i : Nat} {v : AV} {cv : Value} {Q : Unit → Shared → Prop} {E : Value → Shared → Prop} (H : Fr tc f A d) (hn : Tn tc x i) (S : St C P f ρ σ s) (hv : v.is cv)
    (h : ∀ s', St C P f (ρ.set i (some v)) σ s' → Q () s') : wpAny (model C.prog C.w) A (storeName f.env x cv) Q E s := by
  obtain ⟨m, cm, L⟩ := S.locs
  have hk : f.env.kindOf x = tc.kinds.lookup x := by rw [Env.kindOf, H.kinds]
  have nm : ∀ j y, f.names[j]? = some y → (j = i → y = x) ∧ (j ≠ i → y ≠ x) := fun j y e => by
    rw [H.names] at e
    exact ⟨fun q => same (q ▸ e) hn.here, fun q q' => q (hn.uniq j (q' ▸ e))⟩
  rcases hn.kind with hk' | hk' <;> rw [← hk] at hk'
  · refine wpAny_storeName_local hk' L.ns (fun h' hn' sb => h _ ?_) (by rw [H.kind]; rfl)
    refine S.relocs (.inl rfl) (fun b o hb e => (sb.2 b hb).trans e) (fun e he hf => ?_) ⟨_, cm, hn', fun y c hc => ?_, fun j y w hy hw => ?_⟩
    · obtain ⟨o, es, ep, h1, h2, _⟩ := hn'
      exact ⟨o, h1, es, ep, h2⟩
    · obtain ⟨o, e1, e2⟩ := L.cell y c hc
      exact ⟨o, (sb.2 c (L.ncl hc)).trans e1, e2⟩
    · rcases set_cases hw with ⟨q, rfl⟩ | ⟨q, hw⟩
      · rw [(nm j y hy).1 q]; exact ⟨cv, hv, .inl ⟨hk', by simp⟩⟩
      · obtain ⟨cw, h1, h2⟩ := L.val j y w hy hw
        exact ⟨cw, h1, h2.imp (fun h => ⟨h.1, by simp [(nm j y hy).2 q, h.2]⟩) id⟩
  · obtain ⟨c, hc⟩ := Option.isSome_iff_exists.mp (H.cells x (hk ▸ hk'))
    refine wpAny_storeName_cell H.kind hk' hc (L.cell x c hc) fun h' hn' sb => h _ ?_
    refine S.relocs (.inr ⟨x, hc⟩) (fun b o hb e => (sb.2 b hb).trans e) (fun e he hf => ?_) ⟨m, fun y => if y = x then some cv else cm y, ?_, fun y c' hc' => ?_, fun j y w hy hw => ?_⟩
    · obtain ⟨_, L', o, h1, h2, ⟨_, _, h3⟩, _⟩ := S.frs e he
      obtain ⟨o', e1, e2⟩ := L.cell x c hc
      rw [← same hf h1] at h2
      rw [same h2 e1, e2] at h3; cases h3
    · obtain ⟨o, es, ep, h1, h2, r⟩ := L.ns
      exact ⟨o, es, ep, (sb.2 _ (L.ncl hc).symm).trans h1, h2, r⟩
    · by_cases hy : y = x
      · rw [hy, hc] at hc'; cases hc'; rw [if_pos hy]; exact hn'
      · obtain ⟨o, e1, e2⟩ := L.cell y c' hc'
        exact ⟨o, (sb.2 c' (fun q => hy (H.apart y x c' hc' (by rw [q]; exact hc)))).trans e1, by rw [if_neg hy]; exact e2⟩
    · rcases set_cases hw with ⟨q, rfl⟩ | ⟨q, hw⟩
      · rw [(nm j y hy).1 q]; exact ⟨cv, hv, .inr ⟨hk', by rw [hc]; rfl, if_pos rfl⟩⟩
      · obtain ⟨cw, h1, h2⟩ := L.val j y w hy hw
        exact ⟨cw, h1, h2.imp id (fun h => ⟨h.1, h.2.1, by rw [if_neg ((nm j y hy).2 q)]; exact h.2.2⟩)⟩
end
end U
namespace U
open PySem PyProof.Rows
section
variable {C : Cx} {K : Kx} {P : Kept} {f : Fx} {d : Nat} {ρ ρ' : Loc} {σ : Hp} {s s' : Shared} {A : Around} {tc : Tc} {E : Value → Shared → Prop} {a : Addr}
/-- what a statement gives -/
noncomputable def RF (C : Cx) (P : Kept) (f : Fx) (Qn : SPost) (Qr : Post) : Flow → Shared → Prop := fun fl s' => match fl with
  | .next => ∃ ρ' σ', St C P f ρ' σ' s' ∧ Qn ρ' σ'
  | .ret v => ∃ ρ' av σ', av.is v ∧ St C P f ρ' σ' s' ∧ Qr av σ'
  | _ => False
noncomputable def RSX (C : Cx) (P : Kept) (f : Fx) (X : SX) : Value → Shared → Prop := fun e s' => ∃ ρ', RX C P f ρ' (X ρ') e s'
noncomputable def SS (C : Cx) (K : Kx) (tc : Tc) (st : Stmt) (ps : PS) : Prop := ∀ {P f d ρ σ s A Qn Qr X}, Fr tc f A d → St C P f ρ σ s → ps K tc.hd d ρ σ Qn Qr X →
  wpAny (model C.prog C.w) A (exec st f.env) (RF C P f Qn Qr) (RSX C P f X) s
noncomputable def SSs (C : Cx) (K : Kx) (tc : Tc) (sts : List Stmt) (pss : List PS) : Prop := ∀ {P f d ρ σ s A Qn Qr X}, Fr tc f A d → St C P f ρ σ s → pSs K tc.hd d pss ρ σ Qn Qr X →
  wpAny (model C.prog C.w) A (execs sts f.env) (RF C P f Qn Qr) (RSX C P f X) s
theorem sss_nil : SSs C K tc [] [] := fun _ S w => wpAny_execs_nil ⟨_, _, S, w⟩
theorem sss_cons {st : Stmt} {sts : List Stmt} {ps : PS} {pss : List PS} (h : SS C K tc st ps) (hs : SSs C K tc sts pss) : SSs C K tc (st :: sts) (ps :: pss) := fun H S w =>
  wpAny_execs_cons (fit (h H S w) fun fl s₁ r => by
    cases fl with
    | next => obtain ⟨ρ₁, σ₁, S₁, q⟩ := r; exact hs H S₁ q
    | _ => exact r)
theorem rsx {X : SX} {α : Type} {t : Sem α} {Q : α → Shared → Prop} {M : Model} (h : wpAny M A t Q (RX C P f ρ (X ρ)) s) : wpAny M A t Q (RSX C P f X) s :=
  wpAny_mono h (fun _ _ x => x) fun _ _ x => ⟨ρ, x⟩
theorem ss_ret {e : Expr} {pe : PE} {pos : Pos} (h : SE C K tc e pe) : SS C K tc (.Return (some e) pos) (.ret pe) := fun H S w =>
  wpAny_Return_some (rsx (fitv (h H S w) fun _ _ av σ₁ hv S₁ q => ⟨_, av, σ₁, hv, S₁, q⟩))
noncomputable def notComp : Expr → Bool
  | .ListComp .. | .SetComp .. | .DictComp .. => false
  | _ => true
theorem swaps_no {e : Expr} {t : Option Expr} {n : Nat} {env : Env} (h : notComp e = true) : swapsWith e t n env = pure false := by
  cases e <;> first | rfl | cases h
theorem ss_expr {e : Expr} {pe : PE} {pos : Pos} (h : SE C K tc e pe) (hn : notComp e = true) : SS C K tc (.Expr e pos) (.expr pe) := fun H S w =>
  wpAny_Expr_any (rsx (fitv (h H S w) fun _ _ _ σ₁ _ S₁ q => ⟨_, σ₁, S₁, q⟩)) (by unfold interactive; rw [H.kind]; rfl) (swaps_no hn)
theorem ss_pass {pos : Pos} : SS C K tc (.Pass pos) (.expr (.lit .none)) := fun _ S w => by
  show wpAny _ _ (standAt pos >>= fun _ => pure Flow.next) _ _ _
  exact wpAny_bind (wpAny_standAt (wpAny_pure ⟨_, _, S, w⟩))
theorem ss_if {c : Expr} {a b : List Stmt} {pc : PE} {pa pb : List PS} {pos : Pos} (hc : ST C K tc c pc) (ha : SSs C K tc a pa) (hb : SSs C K tc b pb) : SS C K tc (.If c a b pos) (.iff pc pa pb) := fun H S w =>
  wpAny_If (rsx (cond hc H S w fun c _ _ S₁ q => by cases c; exact hb H S₁ q; exact ha H S₁ q))
theorem ss_name {x : Str} {i : Nat} {p pos : Pos} {e : Expr} {pe : PE} (hn : Tn tc x i) (h : SE C K tc e pe) (hc : notComp e = true) : SS C K tc (.Assign [.Name x p] e pos) (.assign (.name i) pe) := fun H S w =>
  wpAny_Assign_Name (rsx (fitv (h H S w) fun _ _ _ _ hv S₁ q => store_tn H hn S₁ hv fun _ S' => ⟨_, _, S', q⟩)) (swaps_no hc)
theorem ent_dec {e : Txt × AV} {c : Str × Value} (k : Txt) (h : Ent e c) : decide (c.1 = toS k) = (e.1 == k) := by
  rw [h.1]
  by_cases q : e.1 = k
  · rw [q, beq_self_eq_true]; exact decide_eq_true rfl
  · rw [beq_eq_false_iff_ne.mpr q]; exact decide_eq_false fun h => q (toS_inj h)
theorem ent_map {es : List (Txt × AV)} {kvs : List (Str × Value)} (r : All2 Ent es kvs) (k : Txt) {v : AV} {cv : Value} (hv : v.is cv) : All2 Ent (es.map fun e => if e.1 == k then (e.1, v) else e) (kvs.map fun kv => if kv.1 = toS k then (kv.1, cv) else kv) := by
  induction r with
  | nil => exact .nil
  | @cons e c es kvs h hr ih =>
    refine .cons ?_ ih
    show Ent (if e.1 == k then (e.1, v) else e) (if c.1 = toS k then (c.1, cv) else c)
    by_cases q : e.1 = k
    · rw [if_pos (beq_iff_eq.mpr q), if_pos (h.1.trans (congrArg toS q))]; exact ⟨h.1, hv⟩
    · rw [if_neg fun x => q (beq_iff_eq.mp x), if_neg fun x => q (toS_inj (h.1.symm.trans x))]; exact h
theorem ent_stored {es : List (Txt × AV)} {kvs : List (Str × Value)} (r : All2 Ent es kvs) (k : Txt) {v : AV} {cv : Value} (hv : v.is cv) : All2 Ent (dset es k v) (stored kvs (toS k) cv) := by
  have hany : kvs.any (fun kv => kv.1 = toS k) = es.any (fun e => e.1 == k) := by
    induction r with
    | nil => rfl
    | cons h hr ih => rw [List.any_cons, List.any_cons, ih, ent_dec k h]
  unfold dset stored
  rw [hany]
  split
  · exact ent_map r k hv
  · exact r.append (.cons ⟨rfl, hv⟩ .nil)
theorem ps_setDict {es : List (Txt × AV)} {k : Txt} {t : Tok} {v : AV} {cv : Value} {Q : Unit → Shared → Prop} (S : St C P f ρ σ s) (ha : σ a = some (.dict es)) (hl : es.length < tooLong)
    (hv : v.is cv) (h : ∀ s', St C P f ρ (setH σ a (.dict (dset es k v))) s' → Q () s') : wpAny (model C.prog C.w) A (setItem (.ref a) (.str (toS k) t) cv) Q E s := by
  obtain ⟨ob, g, ⟨kvs, h2, h1⟩, h3⟩ := S.rel a _ ha
  refine wpAny_setItem_pairs (k := toS k) (strKind_is C.prog C.w (toS k) t) (h1 _ _ g) (fun h' hm sb => h _ ?_) (by rw [← h2.length]; exact tooLong_lt hl)
  obtain ⟨o', es', ep, e1, e2⟩ := id hm
  exact S.upd (o' := .dict (dset es k v)) ha rfl (fun c d => nofun) (fun b o hb e => (sb.2 b hb).trans e) ⟨o', e1, ⟨_, ent_stored h2 k hv, fun _ _ e => ⟨o', es', ep, e, e2⟩⟩, h3⟩
theorem ix_some {i : Int} {n j : Nat} (h : ix i n = some j) : i = (j : Int) ∧ j < n ∧ j < 2 ^ 62 := by
  unfold ix at h
  split at h
  · rename_i q
    obtain ⟨k, rfl⟩ := Int.eq_ofNat_of_zero_le q.1
    have : k = j := Option.some.inj h
    subst this
    exact ⟨rfl, Int.ofNat_lt.mp q.2.1, q.2.2⟩
  · cases h
set_option maxRecDepth 100000 in
theorem ps_setList {vs : List AV} {j : Nat} {i : Int} {t : Tok} {v : AV} {cv : Value} {Q : Unit → Shared → Prop} (S : St C P f ρ σ s) (ha : σ a = some (.list vs)) (hi : i = (j : Int)) (hj : j < vs.length) (hf : j < 2 ^ 62)
    (hv : v.is cv) (h : ∀ s', St C P f ρ (setH σ a (.list (vs.set j v))) s' → Q () s') : wpAny (model C.prog C.w) A (setItem (.ref a) (.int i t) cv) Q E s := by
  refine S.at ha (fun _ x => x) fun cs n h1 h2 => ?_
  have hj' : j < cs.size := Nat.lt_of_lt_of_eq hj h2.length
  have fin := h _ (S.upd (s' := { s with heap := s.heap.update a (Obj.mapSeq (·.setIfInBounds j cv)) }) (o' := .list (vs.set j v)) ha rfl (fun c d => nofun) (fun b o hb e => (Heap.get?_update_other _ _ (Ne.symm hb)).trans e) ⟨_, Heap.get?_update_self (Obj.mapSeq (·.setIfInBounds j cv)) h1 rfl, cs.setIfInBounds j cv, _, rfl, by rw [Array.toList_setIfInBounds]; exact h2.set hv⟩)
  have hl' : s.heap.IsList a cs := ⟨_, h1, rfl, n, rfl⟩
  have hfit : i < 2 ^ 63 := by omega
  have h0 : 0 ≤ i := hi ▸ Int.natCast_nonneg j
  unfold setItem
  refine wpAny_holding ?_
  refine wpAny_bind (wpAny_sequenceKey hl'.typeIs (by decide) ?_)
  refine wpAny_bind (wpAny_callSpecial?_slot (name := Str.ofString "__setitem__") hl'.typeIs PySem.F.slot_list_setitem (wpAny_call_entry PySem.F.slot_list_setitem hl'.typeIs PySem.F.entry_list_setitem ?_ (PySem.F.args_list_setitem_3 _ _ _)))
  show wpAny _ _ (Builtin.List.listSubscript? (.int i t) >>= _) _ _ s
  refine wpAny_bind (wpAny_listSubscript_int (fitsIndex_of h0 hfit) ?_)
  clear hfit hf h0
  subst hi
  show wpAny _ _ ((seqItemAt a j >>= fun r => pure (r.map (j, ·))) >>= _) _ _ s
  refine wpAny_bind (wpAny_bind (wpAny_seqItemAt h1 rfl (wpAny_pure ?_)))
  rw [Array.getElem?_eq_getElem hj']
  show wpAny _ _ (setSeqItemAt a j cv >>= _) _ _ s
  refine wpAny_bind (wpAny_setSeqItemAt h1 rfl ?_)
  first
    | exact wpAny_pure ⟨.none, rfl, wpAny_pure fin⟩
    | exact wpAny_bind (wpAny_pure (wpAny_pure ⟨.none, rfl, wpAny_pure fin⟩))
theorem ps_set {x y v : AV} {u w cv : Value} {k : Hp → Prop} {Q : Unit → Shared → Prop} (S : St C P f ρ σ s) (h : StoP x y v σ k) (hx : x.is u) (hy : y.is w) (hv : v.is cv) (q : ∀ s' σ', St C P f ρ σ' s' → k σ' → Q () s') : wpAny (model C.prog C.w) A (setItem u w cv) Q E s := by
  apply refE h hx
  intro a h
  refine okE h fun o e h => ?_
  cases o with
  | list vs =>
    apply intE (x := y) h hy
    intro i t h
    refine okE h fun j hj h' => ?_
    obtain ⟨h0, h1, h2⟩ := ix_some hj
    exact ps_setList S e h0 h1 h2 hv fun s' S' => q s' _ S' h'
  | dict es =>
    apply strE (x := y) h hy
    intro i t h
    exact ps_setDict S e h.1 hv fun s' S' => q s' _ S' h.2
  | _ => exact h.elim
theorem ss_item {o i e : Expr} {p pos : Pos} {po pi pe : PE} (he : SE C K tc e pe) (ho : SE C K tc o po) (hi : SE C K tc i pi) (hc : notComp e = true) : SS C K tc (.Assign [.Subscript o i p] e pos) (.assign (.item po pi) pe) := fun H S w =>
  wpAny_Assign_Subscript (rsx (fitv (he H S w) fun _ _ _ _ hv S₁ q => rsx (fitv (ho H S₁ q) fun _ _ _ _ hx S₂ q => rsx (fitv (hi H S₂ q) fun _ _ _ _ hy S₃ q => ps_set S₃ q hx hy hv fun s' σ' S' q => ⟨_, _, S', q⟩)))) (swaps_no hc)
/-- how the walk's ground follows from the state -/
noncomputable def GOf (C : Cx) (g : Gd) (G : Heap → Prop) (σ : Hp) (s : Shared) : Prop := match g with
  | .no => ∀ h, G h
  | .keep a o => ∀ h, Is C h a o → G h
  | .ice a es => σ a = some (.dict es) ∧ ∃ od, s.heap.get? a = some od ∧ ∀ h, h.get? a = some od → G h
/-- a thing that can be walked -/
noncomputable def Src (C : Cx) (A : Around) (x : Value) (its : List It) (g : Gd) (σ : Hp) (s : Shared) : Prop := ∀ {Q : Value → Shared → Prop} {E : Value → Shared → Prop},
  (∀ I W G h', Wkr C A I its G W → W 0 h' → s.heap.get? I = none → (∀ b o, s.heap.get? b = some o → h'.get? b = some o) → GOf C g G σ s → Q (.ref I) { s with heap := h' }) → wpAny (model C.prog C.w) A (pyIter x) Q E s
theorem seqAt_of {T : String} {vs : List AV} {h : Heap} (x : ∃ ob, h.get? a = some ob ∧ SeqOb T ob vs) : SeqAt' T a vs h := let ⟨_, g, cs, n, e, r⟩ := x; ⟨cs, n, e ▸ g, r⟩
theorem src_of {x : AV} {u : Value} {k : List It → Gd → Prop} (S : St C P f ρ σ s) (hh : A.handled = none) (hi : pIters σ x k) (hv : x.is u) : ∃ its g, Src C A u its g σ s ∧ k its g := by
  cases x with
  | ref a =>
    cases hv
    refine okE hi fun o e hi => ?_
    have push : ∀ (ob : Obj) b o, s.heap.get? b = some o → (s.heap.push ob).get? b = some o := fun ob b o e => Heap.get?_push_of_some _ e
    cases o with
    | list vs => exact S.at e (fun _ x => x) fun cs n h1 h2 => ⟨_, .keep a (.list vs), fun h => wpAny_pyIter_list ⟨_, h1, rfl, n, rfl⟩ (h _ _ _ _ (wkr_list hh) ⟨_, Heap.get?_push_size _ rfl, rfl, rfl⟩ (fresh_size _) (push _) fun _ => seqAt_of), hi⟩
    | flist vs => exact S.at e (fun _ x => x) fun cs n h1 h2 => ⟨_, .keep a (.flist vs), fun h => wpAny_pyIter_list ⟨_, h1, rfl, n, rfl⟩ (h _ _ _ _ (wkr_list hh) ⟨_, Heap.get?_push_size _ rfl, rfl, rfl⟩ (fresh_size _) (push _) fun _ => seqAt_of), hi⟩
    | tup vs => exact S.at e (fun _ x => x) fun cs n h1 h2 => ⟨_, .keep a (.tup vs), fun h => wpAny_pyIter_tuple ⟨_, h1, rfl, n, rfl⟩ (h _ _ _ _ (wkr_tup hh) ⟨_, Heap.get?_push_size _ rfl, rfl, rfl⟩ (fresh_size _) (push _) fun _ => seqAt_of), hi⟩
    | dict es =>
      obtain ⟨ob, g, ⟨kvs, h2, h1⟩, h3⟩ := S.rel _ _ e
      obtain ⟨ep, h4⟩ := (h1 _ _ g).dictAt
      obtain ⟨o, es', e1, e2⟩ := id h4
      exact ⟨_, .ice a es, fun h => wpAny_pyIter_dict h3 h4 (h _ _ _ _ (wkr_dict (ep := ep) hh h2) ⟨_, Heap.get?_push_size _ rfl, rfl, rfl⟩ (fresh_size _) (push _) ⟨e, o, e1, fun h e' => ⟨o, es', e', e2⟩⟩), hi⟩
    | _ => exact hi.elim
  | str x =>
    obtain ⟨t, rfl⟩ := hv
    exact ⟨_, .no, fun h => wpAny_pyIter_ascii (by simpa [toS] using hi.1) (h _ _ _ _ (wkr_str (t := t) hh) ⟨_, Heap.get?_push_size _ rfl, rfl, rfl⟩ (fresh_size _) (fun b o e => Heap.get?_push_of_some _ e) fun _ => trivial), hi.2⟩
  | none => exact hi.elim
  | bool _ => exact hi.elim
  | int _ => exact hi.elim
noncomputable def SI (C : Cx) (K : Kx) (tc : Tc) (e : Expr) (pi : PI) : Prop := ∀ {P f d ρ σ s A Q X}, Fr tc f A d → St C P f ρ σ s → pi K tc.hd d ρ σ Q X →
  wpAny (model C.prog C.w) A (eval e f.env) (fun x s₁ => ∃ its g σ₁, St C P f ρ σ₁ s₁ ∧ Src C A x its g σ₁ s₁ ∧ Q its g σ₁) (RX C P f ρ X) s
theorem si_val {e : Expr} {pe : PE} (hd : tc.hd = false) (h : SE C K tc e pe) : SI C K tc e (.val pe) := fun H S w =>
  fitv (h H S w) fun _ _ _ σ₁ hv S₁ q => let ⟨its, g, h1, h2⟩ := src_of S₁ (no_hand H hd) q hv; ⟨its, g, σ₁, S₁, h1, h2⟩
theorem src_range {lo hi : Int} {t u v : Tok} {r : Addr} (hh : A.handled = none) (h1 : lo.natAbs < tooLong) (h2 : hi.natAbs < tooLong) (hr : IsRange s.heap r lo hi 1 t u v) : Src C A (.ref r) (rangeOf lo hi) .no σ s := by
  intro Q E h
  have b1 : (lo.natAbs : Int) < 1000000 := Int.ofNat_lt.mpr h1
  have b2 : (hi.natAbs : Int) < 1000000 := Int.ofNat_lt.mpr h2
  have sz : Builtin.Range.rangeSize lo hi 1 = ((hi - lo).toNat : Int) := by rw [rangeSize_one]; split <;> omega
  refine wpAny_pyIter_range hr (small_one (by omega) (by omega) (by omega) (by omega)) (h _ _ _ _ (wkr_range (lo := lo) (hi := hi) hh) ?_ (fresh_size _) (fun b o e => Heap.get?_push_of_some _ e) fun _ => trivial)
  rw [sz]
  have := Heap.get?_push_size s.heap (o := { cls := .type "range_iterator", data := .fields #[rawInt lo, rawInt ((hi - lo).toNat : Int), rawInt 1] }) rfl
  simpa [IsRangeIter] using this
theorem si_range {x : Str} {p pos : Pos} {es : List Expr} {pes : List PE} (hg : GOk C tc.g) (G : Gl tc x (.typ "range")) (hd : tc.hd = false) (hes : SEs C K tc es pes) : SI C K tc (.Call (.Name x p) es [] pos) (.range pes) := fun {P f d ρ σ s A Q X} H S w => by
  refine wpAny_Call_NameR (ld_glob hg H G S fun v hv => ?_)
  cases hv
  have hh := no_hand H hd
  refine PySem.callWith_type (star_any hes.1) (args_e hes H S w fun vs s₁ avs σ₁ hvs S₁ q => ?_)
  match avs, hvs, q with
  | [x], hvs, q =>
    apply hvs.one
    intro u hu
    apply intE (x := x) q hu
    intro hi t q
    exact call_range_1 ⟨_, _, σ₁, S₁.keeps fun b o e => Heap.get?_push_of_some _ e, src_range hh (by decide) q.1 (IsRange.new ..), q.2⟩
  | [x, y], hvs, q =>
    apply hvs.two
    intro u v hu hv
    apply iiE (x := x) (y := y) q hu hv
    intro lo hi t t' q
    exact call_range_2 ⟨_, _, σ₁, S₁.keeps fun b o e => Heap.get?_push_of_some _ e, src_range hh q.1.1 q.1.2 (IsRange.new ..), q.2⟩
end
end U
namespace U
open PySem PyProof.Rows
section
variable {C : Cx} {K : Kx} {P P' : Kept} {f : Fx} {d : Nat} {ρ ρ' : Loc} {σ : Hp} {s s' : Shared} {A : Around} {tc : Tc}
theorem RXt.less {X : XPost} {e : Value} (h : RXt C P' f ρ X e s) (k : ∀ z b o, P z b o → P' z b o) : RXt C P f ρ X e s := let ⟨a, σ, c, d, h1, h2, h3⟩ := h; ⟨a, σ, c, d, h1, h2.less k, h3⟩
/-- what is left of a loop at place j -/
theorem drop_at {its : List It} {j : Nat} (hj : j ≤ its.length) : (j = its.length ∧ its.drop j = []) ∨ ∃ it, its[j]? = some it ∧ its.drop j = it :: its.drop (j + 1) ∧ j < its.length := by
  rcases Nat.eq_or_lt_of_le hj with h | h
  · exact .inl ⟨h, by rw [h]; exact List.drop_length⟩
  · exact .inr ⟨its[j], List.getElem?_eq_getElem h, List.drop_eq_getElem_cons h, h⟩
theorem bind_one {i : Nat} {it : It} {v : Value} {h : Heap} (e : bindIt σ [i] it ρ = some ρ') (hv : ItIs h it v) : ∃ av : AV, av.is v ∧ ρ' = ρ.set i (some av) := by
  cases it with
  | one av => exact ⟨av, hv, by cases av <;> exact (Option.some.inj e).symm⟩
  | two a b => cases e
theorem loop_name {x : Str} {i : Nat} {p : Pos} {body : List Stmt} {pb : List PS} {I : Addr} {its : List It} {G : Heap → Prop} {W : Nat → Heap → Prop} {g : Gd} {Qn : SPost} {Qr : Post} {X : SX} {R : Result → Shared → Prop}
    (hn : Tn tc x i) (hb : SSs C K tc body pb) (wk : Wkr C A I its G W) (H : Fr tc f A d) (hO : Off C P f I)
    (hG : ∀ ρ σ s, St C P f ρ σ s → gOk g σ → G s.heap)
    (hEnd : ∀ ρ σ s, St C P f ρ σ s → gOk g σ → (pOut g σ fun σ' => Qn ρ σ') → R (.ok .next) s)
    (hRet : ∀ ρ av v σ s, av.is v → St C P f ρ σ s → Qr av σ → R (.ok (.ret v)) s)
    (hErr : ∀ ρ e s, RXt C P f ρ (X ρ) e s → R (.error e) s)
    (S : St C P f ρ σ s) (hI : σ I = none) (hw : W 0 s.heap) (q : pForL (fun ρ' σ'' k => pSs K tc.hd d pb ρ' σ'' k Qr X) [i] g its ρ σ Qn) :
    codeAny (model C.prog C.w) A (.forLoop (.Name x p) (.ref I) body [] f.env) R s := by
  refine codeAny_forLoop (fun n s => ∃ j ρ σ, n = its.length - j ∧ j ≤ its.length ∧ St C P f ρ σ s ∧ σ I = none ∧ W j s.heap ∧ pForL (fun ρ' σ'' k => pSs K tc.hd d pb ρ' σ'' k Qr X) [i] g (its.drop j) ρ σ Qn)
    ?_ its.length ⟨0, ρ, σ, rfl, Nat.zero_le _, S, hI, hw, q⟩
  rintro n s ⟨j, ρ, σ, rfl, hj, S, hI, hw, q⟩
  obtain ⟨o₀, ho₀, ht₀, _⟩ := wk.obj j _ hw
  have jk : ∀ h' tk, (∀ b o, b ≠ I → s.heap.get? b = some o → h'.get? b = some o) → St C P f ρ σ { s with heap := h', toks := tk } := fun h' tk keep => S.junk hO hI (fun o e => same ho₀ e ▸ ht₀) keep
  rcases drop_at hj with ⟨rfl, e⟩ | ⟨it, hit, e, hlt⟩
  · rw [e] at q
    exact wk.done s _ _ hw (hG _ _ _ S q.1) fun h' tk keep => wpAny_execs_nil (hEnd _ _ _ (jk h' tk keep) q.1 q.2)
  · rw [e] at q
    obtain ⟨q1, ρ', hbind, q2⟩ := q
    refine wk.item j it s _ _ hit hw (hG _ _ _ S q1) fun v h' tk hv hw' keep => ?_
    obtain ⟨o, ho, hto, hdo, hback⟩ := wk.obj (j + 1) _ hw'
    obtain ⟨av, hav, rfl⟩ := bind_one hbind hv
    refine wpAny_assign_Name (store_tn H hn ((jk h' tk keep).hide hO hI ho hto) hav fun s₂ S₃ => ?_)
    refine wpAny_mono (hb H S₃ q2) (fun fl s₃ r => ?_) fun e s₃ ⟨ρ₃, r⟩ => noted_of H r fun s₄ r' => hErr _ _ _ (r'.less fun _ _ _ => .inl)
    cases fl with
    | next =>
      obtain ⟨ρ₃, σ₃, S₄, q⟩ := r
      obtain ⟨k1, k2⟩ := S₄.hidden hdo
      exact ⟨its.length - (j + 1), Nat.sub_lt_sub_left hlt (Nat.lt_succ_self j), j + 1, ρ₃, σ₃, rfl, hlt, S₄.unhide, k1, hback _ k2, q⟩
    | ret v => obtain ⟨ρ₃, av', σ₃, hv', S₄, q⟩ := r; exact hRet _ _ _ _ _ hv' S₄.unhide q
    | brk => exact r.elim
    | cont => exact r.elim
noncomputable def notSet : Expr → Bool
  | .Set .. => false
  | _ => true
theorem folded_no {e : Expr} {env : Env} (h : notSet e = true) : ∀ x, foldedSetIterable e env x = pure x := by
  intro x; cases e <;> first | rfl | cases h
theorem ss_for {x : Str} {i : Nat} {p pos : Pos} {iter : Expr} {pi : PI} {body : List Stmt} {pb : List PS} (hn : Tn tc x i) (hs : notSet iter = true) (hi : SI C K tc iter pi) (hb : SSs C K tc body pb) :
    SS C K tc (.For (.Name x p) iter body [] pos) (.for [i] pi pb) := fun {P f d ρ σ s A Qn Qr X} H S w => by
  refine wpAny_For (rsx (fit (hi H S w) fun xv s₁ ⟨its, g, σ₁, S₁, src, q⟩ => ?_)) (folded_no hs)
  refine src fun I W G h' wk w0 hI keep hG => ?_
  have S₂ : St C P f ρ σ₁ { s₁ with heap := h' } := S₁.keeps keep
  have hO := S₁.offNew hI
  have hn' := S₁.newNone hI
  have key : ∀ {P' : Kept} {σ' : Hp}, (∀ z b o, P z b o → P' z b o) → Off C P' f I → (∀ ρ σ s, St C P' f ρ σ s → gOk g σ → G s.heap) → (∀ ρ σ s, St C P' f ρ σ s → gOk g σ → (pOut g σ fun σ' => Qn ρ σ') → RF C P f Qn Qr .next s) →
      St C P' f ρ σ' { s₁ with heap := h' } → σ' I = none → pForL (fun ρ' σ'' k => pSs K tc.hd d pb ρ' σ'' k (fun v σ => g.iced = false ∧ Qr v σ) fun ρ a σ => g.iced = false ∧ X ρ a σ) [i] g its ρ σ' Qn → codeAny (model C.prog C.w) A (.forLoop (.Name x p) (.ref I) body [] f.env)
        (fun r s' => match r with | .ok f' => RF C P f Qn Qr f' s' | .error e => cameBackBy (model C.prog C.w) A f.env (RSX C P f X) e s') { s₁ with heap := h' } := fun hP hO hG hE S hI q =>
    loop_name (X := fun ρ a σ => g.iced = false ∧ X ρ a σ) hn hb wk H hO hG hE (fun _ _ _ _ _ hv S q => ⟨_, _, _, hv, S.less hP, q.2⟩)
      (fun ρ e s h => came_of (h.less hP) fun s' h' => ⟨ρ, let ⟨a, σ, c, d, h1, h2, h3, h4⟩ := h'; ⟨a, σ, c, d, h1, h2, h3, h4.2⟩⟩) S hI w0 q
  cases g with
  | no => exact key (fun _ _ _ h => h) hO (fun _ _ _ _ _ => hG _) (fun _ _ _ S _ q => ⟨_, _, S, q⟩) S₂ hn' q
  | keep a o => exact key (fun _ _ _ h => h) hO (fun _ _ _ S h => hG _ (S.rel _ _ h)) (fun _ _ _ S _ q => ⟨_, _, S, q⟩) S₂ hn' q
  | ice a es =>
    obtain ⟨hσ, od, hod, hG⟩ := hG
    have hIa : I ≠ a := fun h => clash hod (h ▸ hI)
    have off := S₁.off hσ rfl
    refine key (P' := P.add false a od) (σ' := setH σ₁ a (.fdict es)) (fun _ _ _ => .inl) ⟨hO.base, fun z o h => h.elim (hO.P z o) fun h => hIa h.2.1, hO.own, hO.fr⟩ (fun _ _ _ S _ => ?_) (fun ρ σ s S hk q => ⟨ρ, _, S.retag (o' := .dict es) hk (fun c d => nofun) (show Is C s.heap a (.dict es) from S.rel a (.fdict es) hk) (fun _ => off.base) fun z b o h => .inl ⟨fun e => off.P z o (e ▸ h), .inl h⟩, q⟩)
      (S₂.retag (o' := .fdict es) hσ (fun c d => nofun) (show Is C h' a (.fdict es) from S₂.rel a (.dict es) hσ) nofun fun z b o h => h.elim (fun h => .inl ⟨fun e => off.P z o (e ▸ h), h⟩) fun h => .inr ⟨h.1, h.2.1, by rw [h.2.2]; exact keep a od hod, es, rfl⟩) ((setH_ne hIa).trans hn') q
    obtain ⟨⟨o', g1, g2⟩, _⟩ := S.hid false a od (.inr ⟨rfl, rfl, rfl⟩)
    exact hG _ (g2.same (.inl rfl) ▸ g1)
theorem ss_while {c : Expr} {body : List Stmt} {pc : PE} {pb : List PS} {pos : Pos} (hc : ST C K tc c pc) (hb : SSs C K tc body pb) : SS C K tc (.While c body [] pos) (.while pc pb) := fun {P f d ρ σ s A Qn Qr X} H S w => by
  obtain ⟨I, ⟨n, hI⟩, hw⟩ := w
  refine wpAny_While (codeAny_whileLoop (fun n s => ∃ ρ σ, St C P f ρ σ s ∧ I n ρ σ) ?_ n ⟨ρ, σ, S, hI⟩)
  rintro n s ⟨ρ, σ, S, hI⟩
  have err : ∀ ρ e s, RX C P f ρ (X ρ) e s → notedBy (model C.prog C.w) A f.env (cameBackBy (model C.prog C.w) A f.env (RSX C P f X)) e s := fun ρ e s r => noted_of H r fun s₄ r' => came_of r' fun s' h' => ⟨ρ, h'⟩
  refine wpAny_mono (cond hc H S (hw n ρ σ hI) fun b s₁ σ₁ S₁ q => ?_) (fun _ _ x => x) (err ρ)
  cases b with
  | true =>
    refine wpAny_mono (hb H S₁ q) (fun fl s₂ r => ?_) fun e s₃ ⟨ρ₃, r⟩ => err ρ₃ e s₃ r
    cases fl with
    | next => obtain ⟨ρ₂, σ₂, S₂, m, hm, hI⟩ := r; exact ⟨m, hm, ρ₂, σ₂, S₂, hI⟩
    | ret v => exact r
    | brk => exact r.elim
    | cont => exact r.elim
  | false => exact wpAny_execs_nil ⟨_, _, S₁, q⟩
end
end U
namespace U
open PySem PyProof.Rows
/-- the cells that a comprehension takes along -/
noncomputable def clOf (cells : List (Str × Addr)) : List (Str × NameKind) → List (Str × Addr) → List (Str × Addr)
  | [], acc => acc
  | (n, k) :: r, acc => clOf cells r (if k == .free then match cells.lookup n with | some c => (n, c) :: acc | none => acc else acc)
theorem closure_of {scope : Scope} {env : Env} (h : ∀ x, (x, NameKind.free) ∈ scope.names → (env.cells.lookup x).isSome = true) : closureFor scope env = pure (clOf env.cells scope.names []) := by
  unfold closureFor
  have gen : ∀ (l : List (Str × NameKind)) (acc : List (Str × Addr)), (∀ x, (x, NameKind.free) ∈ l → (env.cells.lookup x).isSome = true) →
      (forIn l acc (fun x cs => do
        let (name, kind) := x
        if kind == .free then
          let c ← cellOf env name
          pure (ForInStep.yield ((name, c) :: cs))
        else pure (ForInStep.yield cs)) : Sem (List (Str × Addr))) = pure (clOf env.cells l acc) := by
    intro l
    induction l with
    | nil => intro acc _; rfl
    | cons y l ih =>
      intro acc hl
      obtain ⟨n, k⟩ := y
      rw [List.forIn_cons]
      by_cases hk : (k == NameKind.free) = true
      · obtain ⟨c, hc⟩ := Option.isSome_iff_exists.mp (hl n (by rw [beq_iff_eq.mp hk]; exact .head _))
        simp only [hk, if_true, cellOf, hc, clOf]
        exact ih _ fun x hx => hl x (.tail _ hx)
      · simp only [hk, clOf]
        exact ih _ fun x hx => hl x (.tail _ hx)
  have := gen scope.names [] h
  simpa using this
theorem cl_sub {cells : List (Str × Addr)} : ∀ (names : List (Str × NameKind)) (acc : List (Str × Addr)), (∀ x c, acc.lookup x = some c → cells.lookup x = some c) → ∀ x c, (clOf cells names acc).lookup x = some c → cells.lookup x = some c
  | [], acc, h, x, c, e => h x c e
  | (n, k) :: r, acc, h, x, c, e => by
    simp only [clOf] at e
    refine cl_sub r _ ?_ x c e
    intro y b hy
    split at hy
    · split at hy
      · rename_i c' hc'
        rw [List.lookup_cons] at hy
        split at hy
        · rename_i q; rw [beq_iff_eq.mp q, hc']; exact hy
        · exact h y b hy
      · exact h y b hy
    · exact h y b hy
theorem cl_has {cells : List (Str × Addr)} {x : Str} (hx : (cells.lookup x).isSome = true) : ∀ (names : List (Str × NameKind)) (acc : List (Str × Addr)), ((x, NameKind.free) ∈ names ∨ (acc.lookup x).isSome = true) → ((clOf cells names acc).lookup x).isSome = true
  | [], acc, h => h.elim (fun h => by cases h) id
  | (n, k) :: r, acc, h => by
    simp only [clOf]
    refine cl_has hx r _ ?_
    rcases h with h | h
    · rcases List.mem_cons.mp h with q | q
      · cases q
        obtain ⟨c, hc⟩ := Option.isSome_iff_exists.mp hx
        exact .inr (by simp [hc])
      · exact .inl q
    · refine .inr ?_
      split
      · split
        · rw [List.lookup_cons]; split
          · rfl
          · exact h
        · exact h
      · exact h
theorem cl_none {cells : List (Str × Addr)} {x : Str} : ∀ (names : List (Str × NameKind)) (acc : List (Str × Addr)), (x, NameKind.free) ∉ names → (clOf cells names acc).lookup x = acc.lookup x
  | [], acc, h => rfl
  | (n, k) :: r, acc, h => by
    simp only [clOf]
    rw [cl_none r _ fun q => h (.tail _ q)]
    split
    · rename_i hk
      split
      · rw [List.lookup_cons]; split
        · rename_i q
          rw [beq_iff_eq.mp hk, beq_iff_eq.mp q] at h
          exact absurd (.head _) h
        · rfl
      · rfl
    · rfl
/-- the names' kinds within a comprehension -/
noncomputable def compKinds (kinds names : List (Str × NameKind)) : List (Str × NameKind) := names.map fun (n, k) => if (k == .free && kinds.lookup n == some .cell) then (n, .cell) else (n, k)
section
variable {C : Cx} {K : Kx} {P : Kept} {f : Fx} {d : Nat} {ρ ρ' : Loc} {σ σ' : Hp} {s s' : Shared} {A : Around} {tc : Tc}
theorem relabel_names (H : Fr tc f A d) (scope : Scope) : (relabel scope f.env).names = compKinds tc.kinds scope.names := by
  unfold relabel compKinds
  simp only [H.kind, Env.kindOf, H.kinds, beq_self_eq_true, Bool.and_true]
theorem compKinds_cell {kinds : List (Str × NameKind)} {x : Str} : ∀ {names : List (Str × NameKind)}, (∀ y ∈ names, y.2 ≠ .cell) → (compKinds kinds names).lookup x = some .cell → (x, NameKind.free) ∈ names ∧ kinds.lookup x = some .cell
  | [], _, h => by cases h
  | (n, k) :: r, hc, h => by
    unfold compKinds at h
    rw [List.map_cons] at h
    by_cases hq : (x == n) = true
    · by_cases hk : (k == .free && kinds.lookup n == some .cell) = true
      · have e := beq_iff_eq.mp hq; subst e
        rw [Bool.and_eq_true, beq_iff_eq, beq_iff_eq] at hk
        exact ⟨hk.1 ▸ .head _, hk.2⟩
      · simp only [hk, Bool.false_eq_true, if_false, List.lookup_cons, hq] at h
        exact absurd (Option.some.inj h) (hc (n, k) (.head _))
    · have : (compKinds kinds r).lookup x = some .cell := by
        unfold compKinds
        by_cases hk : (k == .free && kinds.lookup n == some .cell) = true
        · simpa only [hk, if_true, List.lookup_cons, hq] using h
        · simpa only [hk, Bool.false_eq_true, if_false, List.lookup_cons, hq] using h
      have := compKinds_cell (fun y hy => hc y (.tail _ hy)) this
      exact ⟨.tail _ this.1, this.2⟩
theorem St.forget (S : St C P f ρ σ s) (h : ∀ (i : Nat) (v : AV), ρ'[i]? = some (some v) → ρ[i]? = some (some v)) : St C P f ρ' σ s :=
  { S with locs := let ⟨m, cm, L⟩ := S.locs; ⟨m, cm, L.ns, L.cell, fun i x v hx hv => L.val i x v hx (h i v hv)⟩ }
/-- a hidden list comes forth -/
theorem St.adopt (S : St C P f ρ σ s) {D : Addr} {o : AO} (hO : Off C P f D) (hn : σ D = none) (hi : Is C s.heap D o) : St C P f ρ (setH σ D o) s :=
  S.step (fun _ => False) (fun _ h => h.elim) (fun b o _ e => ⟨o, e, .inl rfl⟩) (fun _ _ h => h.elim)
    (fun b p e => (setH_cases e).elim (fun q => .inr (by rw [q.1, q.2]; exact ⟨hi, hO⟩)) fun q => .inl ⟨id, q.2⟩) (fun _ _ _ e => setH_old e hn) (fun _ c d _ e => ⟨c, d, setH_old e hn⟩) rfl rfl
noncomputable def maskN : List Bool → List Str → List Str
  | c :: cs, x :: xs => (match c with | true => x | false => Str.ofString "") :: maskN cs xs
  | _, _ => []
theorem maskN_of : ∀ {cap : List Bool} {names : List Str} {i : Nat}, cap[i]? = some true → (maskN cap names)[i]? = names[i]?
  | [], _, _, h => nomatch h
  | _ :: _, [], _, _ => rfl
  | c :: cap, y :: ρ, 0, h => by cases (show some c = some true from h); rfl
  | c :: cap, y :: ρ, i + 1, h => maskN_of (cap := cap) (names := ρ) (i := i) h
theorem maskL_of {v : AV} : ∀ {cap : List Bool} {ρ : Loc} {i : Nat}, cap[i]? = some true → ρ[i]? = some (some v) → (maskL cap ρ)[i]? = some (some v)
  | [], _, _, h, _ => nomatch h
  | _ :: _, [], _, _, h => nomatch h
  | c :: cap, y :: ρ, 0, h, h' => by cases (show some c = some true from h); exact h'
  | c :: cap, y :: ρ, i + 1, h, h' => maskL_of (cap := cap) (ρ := ρ) (i := i) h h'
theorem maskL_get {v : AV} : ∀ {cap : List Bool} {ρ : Loc} {i : Nat}, (maskL cap ρ)[i]? = some (some v) → cap[i]? = some true ∧ ρ[i]? = some (some v)
  | [], _, _, h => by cases ‹Loc› <;> exact nomatch h
  | _ :: _, [], _, h => nomatch h
  | c :: cap, y :: ρ, 0, h => by
    cases c with
    | true => exact ⟨rfl, h⟩
    | false => exact nomatch (Option.some.inj h)
  | c :: cap, y :: ρ, i + 1, h => maskL_get (cap := cap) (ρ := ρ) (i := i) h
theorem maskL_len : ∀ {cap : List Bool} {ρ : Loc}, ρ.length = cap.length → (maskL cap ρ).length = cap.length
  | [], ρ, _ => by cases ρ <;> rfl
  | _ :: _, [], h => nomatch h
  | c :: cap, v :: ρ, h => congrArg (· + 1) (maskL_len (cap := cap) (ρ := ρ) (Nat.succ.inj h))
theorem app_left {α : Type} {l m : List α} {i : Nat} {x : α} (h : l[i]? = some x) : (l ++ m)[i]? = some x := by
  rw [List.getElem?_append_left (List.getElem?_eq_some_iff.mp h).1]; exact h
theorem app_none {l : Loc} {ts : List Str} {i : Nat} {v : AV} (h : (l ++ ts.map fun _ => none)[i]? = some (some v)) : l[i]? = some (some v) := by
  rcases Nat.lt_or_ge i l.length with q | q
  · rwa [List.getElem?_append_left q] at h
  · rw [List.getElem?_append_right q] at h
    obtain ⟨_, _, e⟩ := map_get h; cases e
/-- what must be so of a comprehension's scope -/
structure CompOk (tc : Tc) (scope : Scope) (cap : List Bool) : Prop where
  kind : scope.kind = .function
  nocell : ∀ y ∈ scope.names, y.2 ≠ .cell
  free : ∀ x, (x, NameKind.free) ∈ scope.names → tc.kinds.lookup x = some .cell
  locs : ∀ x ∈ scope.names, x.2 = .local → scope.names.lookup x.1 = some .local
  caps : ∀ (i : Nat) x, tc.names[i]? = some x → (cap[i]? = some true ↔ (x, NameKind.free) ∈ scope.names)
  capLen : cap.length = tc.names.length
  capKind : ∀ (i : Nat) x, tc.names[i]? = some x → cap[i]? = some true → (compKinds tc.kinds scope.names).lookup x = some .cell
noncomputable def compTc (tc : Tc) (scope : Scope) (cap : List Bool) (ts : List Str) : Tc := { hd := tc.hd, names := maskN cap tc.names ++ ts, kinds := compKinds tc.kinds scope.names, g := tc.g }
noncomputable def Fx.comp (f : Fx) (scope : Scope) (L : Addr) (names : List Str) : Fx := { f with env := compEnvC scope (clOf f.env.cells scope.names []) L f.env, names := names }
/-- the frame's own things that a comprehension does not see -/
noncomputable def CompP (P : Kept) (env env' : Env) (s : Shared) : Kept := fun z b o => P z b o ∨ (z = true ∧ Own env b ∧ ¬ Own env' b ∧ s.heap.get? b = some o)
theorem cl_cell {scope : Scope} {x : Str} {c : Addr} (h : (clOf f.env.cells scope.names []).lookup x = some c) : f.env.cells.lookup x = some c := cl_sub scope.names [] (fun _ _ q => nomatch q) x c h
theorem clHas (H : Fr tc f A d) {scope : Scope} {cap : List Bool} (ok : CompOk tc scope cap) {x : Str} (h : (x, NameKind.free) ∈ scope.names) : ∃ c, (clOf f.env.cells scope.names []).lookup x = some c :=
  Option.isSome_iff_exists.mp (cl_has (H.cells x (ok.free x h)) scope.names [] (.inl h))
theorem Fr.comp (H : Fr tc f A d) {scope : Scope} {cap : List Bool} {ts : List Str} {L : Addr} (ok : CompOk tc scope cap) : Fr (compTc tc scope cap ts) (f.comp scope L (maskN cap tc.names ++ ts)) A d where
  names := rfl
  kinds := relabel_names H scope
  glob := H.glob
  blt := H.blt
  hd := H.hd
  cells := fun x h => let ⟨c, hc⟩ := clHas H ok (compKinds_cell ok.nocell h).1; Option.isSome_iff_exists.mpr ⟨c, hc⟩
  depth := H.depth
  units := H.units
  hand := H.hand
  frames := H.frames
  kind := ok.kind
  apart := fun x y c h1 h2 => H.apart x y c (cl_cell h1) (cl_cell h2)
  top := H.top
theorem St.enterC (S : St C P f ρ σ s) (H : Fr tc f A d) {scope : Scope} {cap : List Bool} {ts : List Str} {L : Addr} (ok : CompOk tc scope cap) (hρ : ρ.length = cap.length)
    (hL : s'.heap.Ns L fun _ => none) (hLn : s.heap.get? L = none) (keep : ∀ b o, s.heap.get? b = some o → s'.heap.get? b = some o) (hg : s'.gens = s.gens := by rfl) (ho : s'.os = s.os := by rfl) :
    St C (CompP P f.env (f.comp scope L (maskN cap tc.names ++ ts)).env s) (f.comp scope L (maskN cap tc.names ++ ts)) (maskL cap ρ ++ ts.map fun _ => none) σ s' := by
  have Sk : St C P f ρ σ s' := S.keeps keep hg ho
  have hO := S.offNew hLn
  obtain ⟨m, cm, Lc⟩ := S.locs
  refine { Sk.toStB with hid := fun z b o p => p.elim (Sk.hid z b o) fun ⟨h1, h2, _, h3⟩ => h1 ▸ ⟨⟨o, keep _ _ h3, .refl (Lc.noTb h2 h3)⟩, (S.own b h2).1⟩, locs := ⟨_, cm, hL, fun x c hc => ?_, fun i x v hx hv => ?_⟩, own := fun b hb => ?_ }
  · obtain ⟨o, e1, e2⟩ := Lc.cell x c (cl_cell hc)
    exact ⟨o, keep _ _ e1, e2⟩
  · obtain ⟨hc, hv⟩ := maskL_get (app_none hv)
    have hin : i < tc.names.length := by rw [← ok.capLen]; exact (List.getElem?_eq_some_iff.mp hc).1
    have hxn := List.getElem?_eq_getElem hin
    have hxx : x = tc.names[i] := same hx (app_left ((maskN_of hc).trans hxn))
    rw [← hxx] at hxn
    have hfr := (ok.caps i _ hxn).mp hc
    obtain ⟨c, c2⟩ := clHas H ok hfr
    obtain ⟨cv, h1, h2⟩ := Lc.val i x v (by rw [H.names]; exact hxn) hv
    refine ⟨cv, h1, .inr ⟨?_, Option.isSome_iff_exists.mpr ⟨c, c2⟩, ?_⟩⟩
    · show (relabel scope f.env).names.lookup x = some .cell
      rw [relabel_names H]; exact ok.capKind i _ hxn hc
    · rcases h2 with ⟨h2, _⟩ | ⟨_, _, h2⟩
      · rw [Env.kindOf, H.kinds, ok.free x hfr] at h2; cases h2
      · exact h2
  · have nP : (∀ z o, ¬ P z b o) → ∀ z o, ¬ CompP P f.env (f.comp scope L (maskN cap tc.names ++ ts)).env s z b o := fun h z o p => p.elim (h z o) fun p => p.2.2.1 hb
    rcases id hb with rfl | ⟨x, hx⟩
    · exact ⟨S.newNone hLn, hO.base, nP hO.P⟩
    · obtain ⟨h1, h2, h3⟩ := S.own b (.inr ⟨x, cl_cell hx⟩)
      exact ⟨h1, h2, nP h3⟩
theorem St.leaveC (S : St C P f ρ σ s) (H : Fr tc f A d) {scope : Scope} {cap : List Bool} {ts : List Str} {L : Addr} (ok : CompOk tc scope cap) (hLn : s.heap.get? L = none)
    (B : St C (CompP P f.env (f.comp scope L (maskN cap tc.names ++ ts)).env s) (f.comp scope L (maskN cap tc.names ++ ts)) (maskL cap ρ ++ ts.map fun _ => none) σ' s') : St C P f ρ σ' s' := by
  obtain ⟨m, cm, Lc⟩ := S.locs
  obtain ⟨m', cm', Lc'⟩ := B.locs
  have hid : ∀ b, Own f.env b → ¬ Own (f.comp scope L (maskN cap tc.names ++ ts)).env b → ∀ o, s.heap.get? b = some o → (∃ o', s'.heap.get? b = some o' ∧ o'.data = o.data) ∧ σ' b = none := fun b h1 h2 o g => by
    obtain ⟨⟨o', e', hd⟩, h⟩ := B.hid true b o (.inr ⟨rfl, h1, h2, g⟩)
    exact ⟨⟨o', e', hd.data⟩, h⟩
  have nL : ∀ b, Own f.env b → b ≠ L := fun b h q => by obtain ⟨o, g⟩ := Lc.has h; exact clash g (q ▸ hLn)
  have nloc : ¬ Own (f.comp scope L (maskN cap tc.names ++ ts)).env f.env.locals := fun h => h.elim (nL _ (.inl rfl)) fun ⟨x, hx⟩ => Lc.ncl (cl_cell hx) rfl
  refine { B.toStB with hid := fun z b o h => B.hid z b o (.inl h), locs := ⟨m, fun x => if ((clOf f.env.cells scope.names []).lookup x).isSome then cm' x else cm x, ?_, fun x c hc => ?_, fun i x v hx hv => ?_⟩, own := fun b hb => ⟨?_, (S.own b hb).2⟩ }
  · obtain ⟨o, es, ep, e, e1, r⟩ := Lc.ns
    obtain ⟨⟨o', e', hd⟩, _⟩ := hid _ (.inl rfl) nloc o e
    exact ⟨o', es, ep, e', hd.trans e1, r⟩
  · cases q : (clOf f.env.cells scope.names []).lookup x with
    | some c' =>
      rw [← same hc (cl_cell q)] at q
      exact Lc'.cell x c q
    | none =>
      obtain ⟨o, e, e1⟩ := Lc.cell x c hc
      obtain ⟨⟨o', e', hd⟩, _⟩ := hid c (.inr ⟨x, hc⟩) (fun h => h.elim (nL c (.inr ⟨x, hc⟩)) fun ⟨y, hy⟩ => by rw [H.apart y x c (cl_cell hy) hc] at hy; exact clash hy q) o e
      exact ⟨o', e', hd.trans e1⟩
  · obtain ⟨cv, h1, h2⟩ := Lc.val i x v hx hv
    rcases h2 with h2 | ⟨h2, h3, h4⟩
    · exact ⟨cv, h1, .inl h2⟩
    · rw [H.names] at hx
      by_cases hc : cap[i]? = some true
      · obtain ⟨cv', g1, g2⟩ := Lc'.val i x v (app_left ((maskN_of hc).trans hx)) (app_left (maskL_of hc hv))
        obtain ⟨c, c2⟩ := clHas H ok ((ok.caps i x hx).mp hc)
        refine ⟨cv', g1, .inr ⟨h2, h3, ?_⟩⟩
        rcases g2 with ⟨g2, _⟩ | ⟨_, _, g2⟩
        · have : (relabel scope f.env).names.lookup x = some .local := g2
          rw [relabel_names H, ok.capKind i x hx hc] at this; cases this
        · rw [if_pos (Option.isSome_iff_exists.mpr ⟨c, c2⟩)]; exact g2
      · refine ⟨cv, h1, .inr ⟨h2, h3, ?_⟩⟩
        rw [if_neg (by rw [cl_none scope.names [] fun q => hc ((ok.caps i x hx).mpr q)]; exact Bool.false_ne_true)]; exact h4
  · by_cases h : Own (f.comp scope L (maskN cap tc.names ++ ts)).env b
    · exact (B.own b h).1
    · obtain ⟨o, g⟩ := Lc.has hb; exact (hid b hb h o g).2
end
end U
namespace U
open PySem PyProof.Rows
section
variable {C : Cx} {K : Kx} {P : Kept} {f : Fx} {d : Nat} {ρ ρ' : Loc} {σ σ' : Hp} {s s' : Shared} {A : Around} {tc : Tc}
noncomputable def SC (C : Cx) (K : Kx) (tc : Tc) : List Expr → Option PE → Prop
  | [], none => True
  | [c], some pc => ST C K tc c pc
  | _, _ => False
theorem sc_of {ifs : List Expr} {pc : Option PE} {Qb : Bool → Hp → Prop} {X : XPost} {Q' : Bool → Shared → Prop} (h : SC C K tc ifs pc) (H : Fr tc f A d) (S : St C P f ρ σ s) (w : pC K tc.hd d pc ρ σ Qb X) (k : ∀ b s₁ σ₁, St C P f ρ σ₁ s₁ → Qb b σ₁ → Q' b s₁) :
    wpAny (model C.prog C.w) A (forIn ifs true fun c r => if r = true then do let ok ← isTrue c f.env (eval c f.env); pure (ForInStep.yield ok) else pure (ForInStep.yield r)) Q' (RX C P f ρ X) s := by
  match ifs, pc, h with
  | [], none, _ => exact wpAny_pure (k true s σ S w)
  | [c], some pc, h => exact wpAny_tests_one (cond h H S w k)
/-- the loop: where it stands -/
structure CI (C : Cx) (K : Kx) (P : Kept) (f : Fx) (ρ : Loc) (I D : Addr) (its : List It) (W : Nat → Heap → Prop) (g : Gd) (step : Loc → Hp → (Option AV → Hp → Prop) → Prop) (i : Nat) (Q : Post) (j : Nat) (σ : Hp) (acc : List AV) (cs : Array Value) (n : Nat) (s : Shared) : Prop where
  le : j ≤ its.length
  st : St C P f ρ σ s
  hI : σ I = none
  hW : W j s.heap
  hD : σ D = none
  ho : s.heap.get? D = some (seqObj "list" cs n)
  all : All2 AV.is acc cs.toList
  q : pCompL step [i] ρ g (its.drop j) acc σ Q
theorem comp_loop {x : Str} {i : Nat} {px pos : Pos} {elt iter : Expr} {ifs : List Expr} {pe : PE} {pc : Option PE} {scope : Scope} {I D : Addr} {its : List It} {G : Heap → Prop} {W : Nat → Heap → Prop} {g : Gd} {Q : Post} {X : XPost} {R : Result → Shared → Prop} {cs : Array Value} {n : Nat}
    (hn : Tn tc x i) (he : SE C K tc elt pe) (hc : SC C K tc ifs pc) (wk : Wkr C A I its G W) (H : Fr tc f A d) (hO : Off C P f I) (hD : Off C P f D) (hID : D ≠ I) (hρ : ∀ v, ρ[i]? ≠ some (some v))
    (hG : ∀ ρ σ s, St C P f ρ σ s → gOk g σ → G s.heap)
    (hEnd : ∀ σ s acc cs n, St C P f ρ σ s → σ D = none → s.heap.get? D = some (seqObj "list" cs n) → All2 AV.is acc cs.toList → gOk g σ → (pOut g σ fun σ' => NewO σ' (.list acc) Q) → R (.ok .next) s)
    (hErr : ∀ e s, RXt C P f ρ X e s → R (.error e) s)
    (h0 : CI C K P f ρ I D its W g (fun ρ' σ' k => pC K tc.hd d pc ρ' σ' (fun t σ'' => WifP t (pe K tc.hd d ρ' σ'' (fun v => k (some v)) X) (k none σ'')) X) i Q 0 σ [] cs n s) :
    codeAny (model C.prog C.w) A (.compLoop (.ListComp elt [⟨.Name x px, iter, ifs, 0⟩] scope pos) 0 (.ref I) (.ref D) f.env) R s := by
  generalize hst : (fun (ρ' : Loc) (σ' : Hp) (k : Option AV → Hp → Prop) => pC K tc.hd d pc ρ' σ' (fun t σ'' => WifP t (pe K tc.hd d ρ' σ'' (fun v => k (some v)) X) (k none σ'')) X) = step at h0
  refine codeAny_compLoop_tests (fun m s => ∃ j σ acc cs n, m = its.length - j ∧ CI C K P f ρ I D its W g step i Q j σ acc cs n s) ?_ its.length ⟨0, σ, [], cs, n, rfl, h0⟩
  rintro m s ⟨j, σ, acc, cs, n, rfl, ⟨hj, S, hI, hw, hDn, hDo, hall, q⟩⟩
  obtain ⟨o₀, ho₀, ht₀, _⟩ := wk.obj j _ hw
  have jk : ∀ h' tk, (∀ b o, b ≠ I → s.heap.get? b = some o → h'.get? b = some o) → St C P f ρ σ { s with heap := h', toks := tk } := fun h' tk keep => S.junk hO hI (fun o e => same ho₀ e ▸ ht₀) keep
  rcases drop_at hj with ⟨rfl, e⟩ | ⟨it, hit, e, hlt⟩
  · rw [e] at q
    exact wk.done s _ _ hw (hG _ _ _ S q.1) fun h' tk keep => hEnd σ _ acc cs n (jk h' tk keep) hDn (keep D _ hID hDo) hall q.1 q.2
  · rw [e] at q
    obtain ⟨q1, qlen, ρ', hbind, q2⟩ := q
    have q2 := Eq.mpr (congrFun (congrFun (congrFun hst _) _) _) q2
    refine wk.item j it s _ _ hit hw (hG _ _ _ S q1) fun v h' tk hv hw' keep => ?_
    obtain ⟨o, ho, hto, hdo, hback⟩ := wk.obj (j + 1) _ hw'
    have hDb : ¬ IsTb (seqObj "list" cs n) := seqOb_noTb ⟨cs, n, rfl, hall⟩
    have hDd : ¬ IsD (seqObj "list" cs n) := fun ⟨_, _, h⟩ => nomatch h
    have S₂ := ((jk h' tk keep).hide hO hI ho hto).hide (I := D) (q := seqObj "list" cs n) ⟨hD.base, fun z q p => p.elim (hD.P z q) fun p => hID p.2.1, hD.own, hD.fr⟩ hDn (keep D _ hID hDo) hDb
    obtain ⟨av, hav, rfl⟩ := bind_one hbind hv
    have forg : ∀ {P : Kept} {σ : Hp} {s : Shared}, St C P f (ρ.set i (some av)) σ s → St C P f ρ σ s := fun S => S.forget fun k v hk => by
      rw [List.getElem?_set_ne fun h => hρ v (by rw [h]; exact hk)]; exact hk
    have herr : ∀ e s', RX C ((P.add true I o).add true D (seqObj "list" cs n)) f (ρ.set i (some av)) X e s' → notedBy (model C.prog C.w) A f.env (fun e s' => R (.error e) s') e s' := fun e s' r =>
      noted_of H r fun s₄ r' => hErr _ _ (let ⟨a, σ, c, dd, h1, h2, h3⟩ := r'; ⟨a, σ, c, dd, h1, (forg h2).unhide.unhide, h3⟩)
    have less : its.length - (j + 1) < its.length - j := Nat.sub_lt_sub_left hlt (Nat.lt_succ_self j)
    refine wpAny_assign_Name (store_tn H hn S₂ hav fun s₂ S₃ => wpAny_mono (sc_of hc H S₃ q2 fun ok s₃ σ₃ S₄ q3 => ?_) (fun _ _ x => x) herr)
    cases ok with
    | false =>
      obtain ⟨d1, d2⟩ := S₄.hidden hDd
      obtain ⟨i1, i2⟩ := S₄.unhide.hidden hdo
      exact ⟨_, less, j + 1, σ₃, acc, cs, n, rfl, hlt, forg S₄.unhide.unhide, i1, hback _ i2, d1, d2, hall, q3⟩
    | true =>
      refine wpAny_mono (fitv (he H S₄ q3) fun w s₄ aw σ₄ hw S₅ q4 => ?_) (fun _ _ x => x) herr
      obtain ⟨d1, d2⟩ := S₅.hidden hDd
      refine wpAny_list_append_plain (items := cs) ⟨n, d2⟩ (fun h₅ hp sb => ?_) (by rw [show cs.size = acc.length from hall.length.symm]; exact tooLong_lt qlen)
      obtain ⟨n', g'⟩ := hp
      have S₇ := S₅.unhide.junk (s' := { s₄ with heap := h₅ }) (a := D) ⟨hD.base, fun z q p => p.elim (hD.P z q) fun p => hID p.2.1, hD.own, hD.fr⟩ d1 (fun o e => same d2 e ▸ hDb) (fun b o hb e => (sb.2 b hb).trans e)
      obtain ⟨i1, i2⟩ := S₇.hidden hdo
      exact ⟨_, less, j + 1, σ₄, acc ++ [aw], cs.push w, n', rfl, hlt, forg S₇.unhide, i1, hback _ i2, d1, g', by rw [Array.toList_push]; exact hall.append (.cons hw .nil), q4⟩
theorem ns_noTb {L : Addr} {m : Str → Option Value} {o : Obj} (h : s.heap.Ns L m) (e : s.heap.get? L = some o) : ¬ IsTb o := by
  obtain ⟨o', es, ep, h1, h2, _⟩ := h
  exact isD_noTb (same e h1 ▸ ⟨es, ep, h2⟩)
/-- the whole comprehension; what is done with the list is told by `fin` -/
theorem comp_core {x : Str} {i : Nat} {px pos p' : Pos} {elt iter : Expr} {ifs : List Expr} {pe : PE} {pc : Option PE} {pi : PI} {scope : Scope} {cap : List Bool} {use : Option (Value → Sem Unit)} {Q : Post} {X : XPost} {QV : Value → Shared → Prop} {E : Value → Shared → Prop}
    (ok : CompOk tc scope cap) (hn : Tn (compTc tc scope cap [x]) x i) (hi : i = tc.names.length) (hs : notSet iter = true) (hit : SI C K tc iter pi) (he : SE C K (compTc tc scope cap [x]) elt pe) (hc : SC C K (compTc tc scope cap [x]) ifs pc)
    (H : Fr tc f A d) (S : St C P f ρ σ s) (hE : ∀ e s, RX C P f ρ X e s → E e s)
    (fin : ∀ (D L : Addr) σ s, St C P f ρ σ s → Off C P f L → σ L = none → (∃ m, s.heap.Ns L m) → Q (.ref D) σ → match (generalizing := false) use with
      | none => ∀ h', Heap.SameBut L s.heap h' → QV (.ref D) { s with heap := h' }
      | some u => wpAny (model C.prog C.w) A (u (.ref D)) (fun _ s'' => ∃ m, s''.heap.Ns L m ∧ ∀ h', Heap.SameBut L s''.heap h' → QV .none { s'' with heap := h' }) E s)
    (w : PE.comp cap [i] pi pc pe K tc.hd d ρ σ Q X) :
    wpAny (model C.prog C.w) A (comprehension (.ListComp elt [⟨.Name x px, iter, ifs, 0⟩] scope pos) scope f.env p' (newList []) false (eval iter f.env) use) QV E s := by
  obtain ⟨hρ, w⟩ := w
  refine wpAny_comprehension_free rfl (folded_no hs) (closure_of fun x h => H.cells x (ok.free x h)) ok.kind ok.locs (wpAny_mono (hit H S w) ?_ hE)
  rintro xv s₁ ⟨its, g, σ₁, S₁, src, q⟩
  refine src fun I W G h' wk w0 hI keep hG => ?_
  obtain ⟨P', σ', hP, hOI, hIn, S₂, hG', hout, q⟩ : ∃ (P' : Kept) (σ' : Hp), (∀ z b o, P z b o → P' z b o) ∧ Off C P' f I ∧ σ' I = none ∧ St C P' f ρ σ' { s₁ with heap := h' } ∧ (∀ {P'' f' ρ σ s}, (∀ z b o, P' z b o → P'' z b o) → St C P'' f' ρ σ s → gOk g σ → G s.heap) ∧
      (∀ {σ s} {k : Hp → Prop}, St C P' f ρ σ s → gOk g σ → pOut g σ k → ∃ σ'', St C P f ρ σ'' s ∧ k σ'' ∧ ∀ b, σ b = none → σ'' b = none) ∧
      pCompL (fun ρ' σ' k => pC K tc.hd d pc ρ' σ' (fun t σ'' => WifP t (pe K tc.hd d ρ' σ'' (fun v => k (some v)) fun a σ => g.iced = false ∧ X a σ) (k none σ'')) fun a σ => g.iced = false ∧ X a σ) [i] (maskL cap ρ ++ [i].map fun _ => none) g its [] σ' Q := by
    have S₂ : St C P f ρ σ₁ { s₁ with heap := h' } := S₁.keeps keep
    have hO := S₁.offNew hI
    have hn' := S₁.newNone hI
    cases g with
    | no => exact ⟨P, σ₁, fun _ _ _ h => h, hO, hn', S₂, fun _ _ _ => hG _, fun S _ q => ⟨_, S, q, fun _ h => h⟩, q⟩
    | keep a o => exact ⟨P, σ₁, fun _ _ _ h => h, hO, hn', S₂, fun _ S h => hG _ (S.rel _ _ h), fun S _ q => ⟨_, S, q, fun _ h => h⟩, q⟩
    | ice a es =>
      obtain ⟨hσ, od, hod, hG⟩ := hG
      have hIa : I ≠ a := fun h => clash hod (h ▸ hI)
      have off := S₁.off hσ rfl
      refine ⟨P.add false a od, setH σ₁ a (.fdict es), fun _ _ _ => .inl, ⟨hO.base, fun z o h => h.elim (hO.P z o) fun h => hIa h.2.1, hO.own, hO.fr⟩, (setH_ne hIa).trans hn',
        S₂.retag (o' := .fdict es) hσ (fun c d => nofun) (show Is C h' a (.fdict es) from S₂.rel a (.dict es) hσ) nofun fun z b o h => h.elim (fun h => .inl ⟨fun e => off.P z o (e ▸ h), h⟩) fun h => .inr ⟨h.1, h.2.1, by rw [h.2.2]; exact keep a od hod, es, rfl⟩,
        fun hP S _ => ?_, fun {σ s k} S hk q => ⟨_, S.retag (o' := .dict es) hk (fun c d => nofun) (show Is C s.heap a (.dict es) from S.rel a (.fdict es) hk) (fun _ => off.base) fun z b o h => .inl ⟨fun e => off.P z o (e ▸ h), .inl h⟩, q, fun b hb => (setH_ne (neN hk hb).symm).trans hb⟩, q⟩
      obtain ⟨⟨o', g1, g2⟩, _⟩ := S.hid false a od (hP _ _ _ (.inr ⟨rfl, rfl, rfl⟩))
      exact hG _ (g2.same (.inl rfl) ▸ g1)
  have lessO : ∀ {b}, Off C P' f b → Off C P f b := fun h => ⟨h.base, fun z o p => h.P z o (hP _ _ _ p), h.own, h.fr⟩
  refine wpAny_newList (wpAny_newFunctionEnv ok.nocell (by intro y hy; cases hy) (fun h₁ hns sb => ?_) ok.kind)
  dsimp only at hns sb ⊢
  -- the new objects
  generalize hD : h'.objs.size = D at hns sb ⊢
  have hDn : h'.get? D = none := hD ▸ fresh_size _
  have hDp : (h'.push { cls := .type "list", data := .seq ([] : List Value).toArray }).get? D = some (seqObj "list" #[] 0) := hD ▸ Heap.get?_push_size _ rfl
  generalize hH2 : h'.push { cls := .type "list", data := .seq ([] : List Value).toArray } = H2 at hns sb hDp ⊢
  have keep2 : ∀ b o, h'.get? b = some o → H2.get? b = some o := fun b o e => hH2 ▸ Heap.get?_push_of_some _ e
  generalize hL : H2.objs.size = L at hns sb ⊢
  have hLn : H2.get? L = none := hL ▸ fresh_size _
  clear hD hH2 hL
  have keep3 : ∀ b o, H2.get? b = some o → h₁.get? b = some o := fun b o e => (sb.2 b (fun q => clash e (q ▸ hLn))).trans (Heap.get?_push_of_some _ e)
  obtain ⟨oI, hIo, _, _, hback⟩ := wk.obj 0 _ w0
  have hDL : D ≠ L := fun q => clash hDp (q ▸ hLn)
  have hID : D ≠ I := fun q => clash hIo (q ▸ hDn)
  have hIL : I ≠ L := fun q => clash (keep2 _ _ hIo) (q ▸ hLn)
  have W1 := hback _ (keep3 _ _ (keep2 _ _ hIo))
  -- states
  have S₃ : St C P' f ρ σ' { s₁ with heap := H2 } := S₂.keeps (s' := { s₁ with heap := H2 }) keep2
  have hOD : Off C P' f D := S₂.offNew hDn
  have hOL : Off C P' f L := S₃.offNew hLn
  have S₄ := S₃.enterC (s' := { s₁ with heap := h₁, toks := s₁.toks + ([] : List (Str × Value)).length }) (ts := [x]) H ok hρ hns hLn keep3
  have lv : ∀ {σ s}, St C _ (f.comp scope L (maskN cap tc.names ++ [x])) (maskL cap ρ ++ [x].map fun _ => none) σ s → St C P' f ρ σ s := fun B => S₃.leaveC H ok hLn B
  have offC : ∀ b, Off C P' f b → b ≠ L → Off C (CompP P' f.env (f.comp scope L (maskN cap tc.names ++ [x])).env { s₁ with heap := H2 }) (f.comp scope L (maskN cap tc.names ++ [x])) b := fun b hb hbL =>
    ⟨hb.base, fun z o p => p.elim (hb.P z o) fun p => hb.own p.2.1, fun h => h.elim hbL fun ⟨y, hy⟩ => hb.own (.inr ⟨y, cl_cell hy⟩), hb.fr⟩
  have loop : codeAny (model C.prog C.w) A (.compLoop (.ListComp elt [⟨.Name x px, iter, ifs, 0⟩] scope pos) 0 (.ref I) (.ref D) (compEnvC scope (clOf f.env.cells scope.names []) L f.env))
      (compPost (model C.prog C.w) A E use QV (.ref D) L) { s₁ with heap := h₁, toks := s₁.toks + ([] : List (Str × Value)).length } := by
    refine comp_loop (g := g) (Q := Q) (X := fun a σ => g.iced = false ∧ X a σ) hn he hc wk (H.comp (L := L) ok) (offC I hOI hIL) (offC D hOD hDL) hID (fun v h => ?_) (fun ρ σ s S h => hG' (fun _ _ _ => .inl) S h) (fun σ s acc cs n B hDσ hDo hall hgk hq => ?_) ?_ ⟨Nat.zero_le _, S₄, hIn, W1, S₂.newNone hDn, keep3 _ _ hDp, .nil, q⟩
    · rw [hi, ← ok.capLen] at h
      have := (List.getElem?_eq_some_iff.mp (app_none h)).1
      rw [maskL_len hρ] at this
      exact Nat.lt_irrefl _ this
    · obtain ⟨m, cm, Lc⟩ := B.locs
      obtain ⟨σ'', S', hq, hno⟩ := hout (lv B) hgk hq
      have fn := fin D L _ s (S'.adopt (o := .list acc) (lessO hOD) (hno _ hDσ) ⟨_, hDo, cs, n, rfl, hall⟩) (lessO hOL) ((setH_ne (Ne.symm hDL)).trans (hno _ (B.own L (.inl rfl)).1)) ⟨m, Lc.ns⟩ (hq D (hno _ hDσ))
      cases use with
      | none => exact ⟨m, Lc.ns, fn⟩
      | some u => exact fn
    · rintro e s ⟨a, σ, c, dd, rfl, B, ha, ⟨oe, vs, T, t1, t2, t3⟩, hX⟩
      obtain ⟨m, cm, Lc⟩ := B.locs
      refine ⟨m, Lc.ns, fun h₂ sb₂ cenv' _ => ?_⟩
      have hLσ : σ L = none := (B.own L (.inl rfl)).1
      have S₅ : St C P' f ρ σ { s with heap := h₂ } := (lv B).junk (s' := { s with heap := h₂ }) hOL hLσ (fun o e => ns_noTb Lc.ns e) (fun b o hb e => (sb₂.2 b hb).trans e)
      unfold PySem.passOn
      refine wpAny_bind (wpAny_field ((sb₂.2 a (neN ha hLσ)).trans t1) t2 t3 ?_)
      rw [if_neg (show ¬ ((Value.ref T == Value.none) = true) from Bool.false_ne_true)]
      exact wpAny_bind (flight_of S₅ ha fun s' S' => wpAny_throw (hE _ _ ⟨a, σ, c, dd, rfl, S'.less hP, ha, hX.2⟩))
  exact codeAny_compStart_list loop (wk.self 0 _ _ _ W1 loop)
theorem se_comp {x : Str} {i : Nat} {px pos : Pos} {elt iter : Expr} {ifs : List Expr} {pe : PE} {pc : Option PE} {pi : PI} {scope : Scope} {cap : List Bool}
    (ok : CompOk tc scope cap) (hn : Tn (compTc tc scope cap [x]) x i) (hi : i = tc.names.length) (hs : notSet iter = true) (hit : SI C K tc iter pi) (he : SE C K (compTc tc scope cap [x]) elt pe) (hc : SC C K (compTc tc scope cap [x]) ifs pc) :
    SE C K tc (.ListComp elt [⟨.Name x px, iter, ifs, 0⟩] scope pos) (.comp cap [i] pi pc pe) := fun H S w => by
  rw [eval_ListComp]
  exact comp_core (use := none) ok hn hi hs hit he hc H S (fun _ _ x => x) (fun D L σ s S hO hL ⟨m, hns⟩ hq h' sb => rv (av := .ref D) rfl (S.junk (s' := { s with heap := h' }) hO hL (fun o e => ns_noTb hns e) (fun b o hb e => (sb.2 b hb).trans e)) hq) w
theorem exec_Assign_comp {x y : Str} {px py pos spos : Pos} {elt iter : Expr} {ifs : List Expr} {scope : Scope} {env : Env} {Q : Flow → Shared → Prop} {E : Value → Shared → Prop}
    (h1 : wpAny (model C.prog C.w) A (comprehension (.ListComp elt [⟨.Name x px, iter, ifs, 0⟩] scope pos) scope env (firstIterPos [⟨.Name x px, iter, ifs, 0⟩] pos) (newList []) false (eval iter env) none)
      (fun v s₁ => wpAny (model C.prog C.w) A (storeName env y v) (fun _ => Q .next) E s₁) E s)
    (h2 : wpAny (model C.prog C.w) A (comprehension (.ListComp elt [⟨.Name x px, iter, ifs, 0⟩] scope pos) scope env (firstIterPos [⟨.Name x px, iter, ifs, 0⟩] pos) (newList []) false (eval iter env) (some (assign (.Name y py) env)))
      (fun _ s₁ => Q .next s₁) E s) :
    wpAny (model C.prog C.w) A (exec (.Assign [.Name y py] (.ListComp elt [⟨.Name x px, iter, ifs, 0⟩] scope pos) spos) env) Q E s := by
  have e : ∃ b, swapsWith (.ListComp elt [⟨.Name x px, iter, ifs, 0⟩] scope pos) (some (.Name y py)) spos.line env = pure b := ⟨_, rfl⟩
  obtain ⟨b, e⟩ := e
  cases b with
  | false => exact wpAny_Assign_Name (by rw [eval_ListComp]; exact h1) e
  | true =>
    rw [exec_Assign_Name_used y py _ spos e]
    refine wpAny_bind (wpAny_standAt (wpAny_bind ?_))
    show wpAny _ _ (comprehension _ _ _ _ _ _ _ _ >>= _) _ _ _
    exact wpAny_bind (fit h2 fun _ s₁ h => wpAny_pure (wpAny_pure h))
theorem ss_comp {x y : Str} {i j : Nat} {px py pos spos : Pos} {elt iter : Expr} {ifs : List Expr} {pe : PE} {pc : Option PE} {pi : PI} {scope : Scope} {cap : List Bool}
    (ok : CompOk tc scope cap) (hn : Tn (compTc tc scope cap [x]) x i) (hi : i = tc.names.length) (hs : notSet iter = true) (hit : SI C K tc iter pi) (he : SE C K (compTc tc scope cap [x]) elt pe) (hc : SC C K (compTc tc scope cap [x]) ifs pc)
    (hj : Tn tc y j) : SS C K tc (.Assign [.Name y py] (.ListComp elt [⟨.Name x px, iter, ifs, 0⟩] scope pos) spos) (.assign (.name j) (.comp cap [i] pi pc pe)) := fun {P f d ρ σ s A Qn Qr X} H S w => by
  refine exec_Assign_comp ?_ ?_
  · exact comp_core (use := none) ok hn hi hs hit he hc H S (fun _ _ x => ⟨ρ, x⟩) (fun D L σ s S hO hL ⟨m, hns⟩ hq h' sb =>
      store_tn (v := .ref D) H hj (S.junk (s' := { s with heap := h' }) hO hL (fun o e => ns_noTb hns e) (fun b o hb e => (sb.2 b hb).trans e)) rfl fun s' S' => ⟨_, _, S', hq⟩) w
  · refine comp_core (use := some (assign (.Name y py) f.env)) ok hn hi hs hit he hc H S (fun _ _ x => ⟨ρ, x⟩) (fun D L σ s S hO hL ⟨m, hns⟩ hq => ?_) w
    obtain ⟨o, es, ep, h1, h2, h3⟩ := id hns
    refine wpAny_assign_Name (store_tn (v := .ref D) H hj (S.hide hO hL h1 (ns_noTb hns h1)) rfl fun s' S₁ => ?_)
    obtain ⟨⟨o', k2, k3⟩, k1⟩ := S₁.hid true L o (.inr ⟨rfl, rfl, rfl⟩)
    have hns' : s'.heap.Ns L m := ⟨o', es, ep, k2, k3.data.trans h2, h3⟩
    exact ⟨m, hns', fun h' sb => ⟨_, _, S₁.unhide.junk (s' := { s' with heap := h' }) hO k1 (fun o e => ns_noTb hns' e) (fun b o hb e => (sb.2 b hb).trans e), hq⟩⟩
noncomputable def notTup : Expr → Bool
  | .Tuple .. => false
  | _ => true
theorem swapped_no {e : Expr} {elts : List Expr} {k : Nat} {p : Pos} {env : Env} (h : notTup e = true) : swappedStores [.Tuple elts k p] e env = pure none := by
  cases e <;> first | rfl | cases h
theorem ss_tup2 {x y : Str} {i j k : Nat} {px py tp pos : Pos} {e : Expr} {pe : PE} (hd : tc.hd = false) (hx : Tn tc x i) (hy : Tn tc y j) (he : SE C K tc e pe) (hc : notComp e = true) (ht' : notTup e = true) :
    SS C K tc (.Assign [.Tuple [.Name x px, .Name y py] k tp] e pos) (.assign (.tup [i, j]) pe) := fun {P f d ρ σ s A Qn Qr X} H S w => by
  refine Assign_Tuple (rsx (fitv (he H S w) fun v s₁ av σ₁ hv S₁ q => ?_)) (by unfold swapsWithSole; exact swaps_no hc) (swapped_no ht')
  apply refE q hv
  intro t q
  refine okE q fun o e1 q => ?_
  cases o <;> first | exact q.elim | skip
  rename_i vs
  refine S₁.at e1 (fun _ x => x) fun cs n h1 h2 => ?_
  match vs, q, h2 with
  | [a, b], q, h2 =>
    obtain ⟨ca, cb, hcs, hca, hcb⟩ : ∃ ca cb, cs.toList = [ca, cb] ∧ a.is ca ∧ b.is cb := by
      generalize cs.toList = l at h2
      apply h2.two; exact fun ca cb h1 h2 => ⟨ca, cb, rfl, h1, h2⟩
    have hsz : cs.size = 2 := by rw [← Array.length_toList, hcs]; rfl
    show wpAny _ _ (standAt tp >>= fun _ => unpack (.ref t) (assignEach [.Name x px, .Name y py] f.env)) _ _ _
    refine wpAny_bind (wpAny_standAt ?_)
    show wpAny _ _ (holding [.ref t] (unpackItems (.ref t) 2 none) >>= fun items => assignInOrder [assign (.Name x px) f.env, assign (.Name y py) f.env] items) _ _ _
    refine wpAny_bind (wpAny_holding ?_)
    have hu := unpackItems_tuple (prog := C.prog) (w := C.w) (E := RSX C P f X) (Q := fun items s₂ => wpAny (model C.prog C.w) A (assignInOrder [assign (.Name x px) f.env, assign (.Name y py) f.env] items) (fun _ => RF C P f Qn Qr .next) (RSX C P f X) s₂) (no_hand H hd) (⟨_, h1, rfl, n, rfl⟩ : IsTup s₁.heap t cs) (fun h' hext => ?_)
    · rw [hsz] at hu; exact hu
    · rw [hcs]
      have S₂ : St C P f ρ σ₁ { s₁ with heap := h' } := S₁.keeps fun b o e => hext b o (Nat.ne_of_lt (Heap.lt_size e)) e
      show wpAny _ _ (holding [cb] (assign (.Name x px) f.env ca) >>= fun _ => assignInOrder [assign (.Name y py) f.env] [cb]) _ _ _
      refine wpAny_bind (wpAny_holding (wpAny_assign_Name (store_tn H hx S₂ hca fun s₃ S₃ => ?_)))
      show wpAny _ _ (holding [] (assign (.Name y py) f.env cb) >>= fun _ => pure ()) _ _ _
      exact wpAny_bind (wpAny_holding (wpAny_assign_Name (store_tn H hy S₃ hcb fun s₄ S₄ => wpAny_pure ⟨_, _, S₄, q.2⟩)))
  | [], q, _ => exact nomatch q.1
  | [_], q, _ => exact nomatch q.1
  | _ :: _ :: _ :: _, q, _ => exact nomatch q.1
end
end U
namespace U
open PySem PyProof.Rows
theorem apart_ne {α : Type} : ∀ {cells : List (Str × α)}, cells.Pairwise (fun x y => x.2 ≠ y.2) → ∀ {x y : Str} {c c' : α}, cells.lookup x = some c → cells.lookup y = some c' → x ≠ y → c ≠ c'
  | [], _, _, _, _, _, h, _, _ => nomatch h
  | (z, b) :: r, hp, x, y, c, c', h1, h2, hne => by
    rw [List.pairwise_cons] at hp
    rw [List.lookup_cons] at h1 h2
    cases q1 : x == z with
    | true =>
      rw [q1] at h1
      cases q2 : y == z with
      | true => exact absurd ((beq_iff_eq.mp q1).trans (beq_iff_eq.mp q2).symm) hne
      | false => rw [q2] at h2; rw [← Option.some.inj h1]; exact hp.1 (y, c') (mem_of_lookup h2)
    | false =>
      rw [q1] at h1
      cases q2 : y == z with
      | true => rw [q2] at h2; rw [← Option.some.inj h2]; exact fun q => hp.1 (x, c) (mem_of_lookup h1) q.symm
      | false => rw [q2] at h2; exact apart_ne hp.2 h1 h2 hne
theorem zip_binds : ∀ (names : List Str) (vs : List Value) (L : List (Str × Value)), names.length = vs.length → (∀ p ∈ names.zip vs, L.lookup p.1 = some p.2) → names.filterMap (fun n => (L.lookup n).map (n, ·)) = names.zip vs
  | [], _, _, _, _ => rfl
  | n :: names, [], _, h, _ => by simp at h
  | n :: names, v :: vs, L, h, hl => by
    have h1 := hl (n, v) (.head _)
    simp only [List.filterMap_cons, h1, Option.map_some, List.zip_cons_cons]
    rw [zip_binds names vs L (by simpa using h) fun p hp => hl p (.tail _ hp)]
theorem zip_lookup : ∀ (names : List Str) (vs : List Value), names.Nodup → ∀ p ∈ names.zip vs, (names.zip vs).lookup p.1 = some p.2
  | [], _, _, p, h => by simp at h
  | n :: names, [], _, p, h => by simp at h
  | n :: names, v :: vs, hn, p, h => by
    rw [List.zip_cons_cons] at h ⊢
    rw [List.nodup_cons] at hn
    rcases List.mem_cons.mp h with q | q
    · subst q; simp
    · have hne : (p.1 == n) = false := beq_eq_false_iff_ne.mpr fun e => hn.1 (e ▸ (List.of_mem_zip q).1)
      rw [List.lookup_cons, hne]
      exact zip_lookup names vs hn.2 p q
/-- a plain function's parameters -/
structure Plain (fd : FuncData) (ps : List Str) : Prop where
  po : fd.params.posonlyargs = []
  args : fd.params.args.map (·.arg) = ps
  va : fd.params.vararg = none
  ko : fd.params.kwonlyargs = []
  kw : fd.params.kwarg = none
  df : fd.defaults = .none
  nodup : ps.Nodup
theorem no_miss {ps : List Str} {cvs : List Value} (hn : ps.Nodup) (hl : ps.length = cvs.length) : (ps.filter fun n => ((ps.zip cvs).lookup n).isNone) = [] := by
  rw [List.filter_eq_nil_iff]
  intro n hn'
  obtain ⟨i, hi, e⟩ := List.getElem_of_mem hn'
  have : (n, cvs[i]'(hl ▸ hi)) ∈ ps.zip cvs := List.mem_iff_getElem?.mpr ⟨i, List.getElem?_zip_eq_some.mpr ⟨e ▸ List.getElem?_eq_getElem hi, List.getElem?_eq_getElem _⟩⟩
  rw [zip_lookup ps cvs hn _ this]; exact Bool.false_ne_true
theorem bind_plain {fd : FuncData} {ps : List Str} (h : Plain fd ps) {cvs : List Value} (hl : ps.length = cvs.length) : bindArgs fd ⟨cvs, []⟩ = pure (ps.zip cvs) := by
  have hz := zip_lookup ps cvs h.nodup
  have hmiss := no_miss h.nodup hl
  unfold bindArgs
  simp only [h.po, h.args, h.va, h.ko, h.kw, h.df, List.map_nil, List.nil_append, List.forIn_nil, List.append_nil]
  have hd : (seqItems? .none) = (pure none : Sem (Option (Array Value))) := rfl
  rw [hd]
  simp only [pure_bind, Option.getD_none, List.length_nil, Nat.zero_sub, List.drop_nil, Nat.sub_zero, List.take_length, List.drop_length, List.zip_nil_left]
  rw [hmiss]
  simp [hl, zip_binds ps cvs _ hl hz]
theorem bindL_not {k : Str → Option NameKind} {x : Str} : ∀ (bs : List (Str × Value)) (m : Str → Option Value), x ∉ bs.map (·.1) → bindL k bs m x = m x
  | [], _, _ => rfl
  | (n, v) :: r, m, h => by
    unfold bindL
    rw [bindL_not r _ fun q => h (.tail _ q)]
    have hne : x ≠ n := fun q => h (q ▸ .head _)
    split <;> simp [hne]
theorem bindC_not {k : Str → Option NameKind} {x : Str} : ∀ (bs : List (Str × Value)) (m : Str → Option Value), x ∉ bs.map (·.1) → bindC k bs m x = m x
  | [], _, _ => rfl
  | (n, v) :: r, m, h => by
    unfold bindC
    rw [bindC_not r _ fun q => h (.tail _ q)]
    have hne : x ≠ n := fun q => h (q ▸ .head _)
    split <;> simp [hne]
theorem bindL_get {k : Str → Option NameKind} {x : Str} {v : Value} (hk : k x = some .local) : ∀ (bs : List (Str × Value)) (m : Str → Option Value), (bs.map (·.1)).Nodup → (x, v) ∈ bs → bindL k bs m x = some v
  | [], _, _, h => by cases h
  | (n, w) :: r, m, hn, h => by
    rw [List.map_cons, List.nodup_cons] at hn
    unfold bindL
    rcases List.mem_cons.mp h with q | q
    · cases q
      rw [bindL_not r _ hn.1]; simp [hk]
    · exact bindL_get hk r _ hn.2 q
theorem bindC_get {k : Str → Option NameKind} {x : Str} {v : Value} (hk : k x ≠ some .local) : ∀ (bs : List (Str × Value)) (m : Str → Option Value), (bs.map (·.1)).Nodup → (x, v) ∈ bs → bindC k bs m x = some v
  | [], _, _, h => by cases h
  | (n, w) :: r, m, hn, h => by
    rw [List.map_cons, List.nodup_cons] at hn
    unfold bindC
    rcases List.mem_cons.mp h with q | q
    · cases q
      rw [bindC_not r _ hn.1]; simp [hk]
    · exact bindC_get hk r _ hn.2 q
theorem cellsFrom_has {x : Str} : ∀ (names : List (Str × NameKind)) (n : Nat) (acc : List (Str × Addr)), (x, NameKind.cell) ∈ names ∨ (acc.lookup x).isSome = true → ((cellsFrom n names acc).lookup x).isSome = true
  | [], _, _, h => h.elim (fun h => by cases h) id
  | (y, k) :: r, n, acc, h => by
    unfold cellsFrom
    by_cases hk : (k == .cell) = true
    · rw [if_pos hk]
      refine cellsFrom_has r (n + 1) _ ?_
      by_cases hy : (x == y) = true
      · exact .inr (by rw [List.lookup_cons, hy]; rfl)
      · refine h.imp (fun e => ?_) fun e => ?_
        · rcases List.mem_cons.mp e with q | q
          · cases q; simp at hy
          · exact q
        · rw [List.lookup_cons]; simpa only [hy] using e
    · rw [if_neg hk]
      refine cellsFrom_has r n acc (h.imp (fun e => ?_) id)
      rcases List.mem_cons.mp e with q | q
      · cases q; simp at hk
      · exact q
section
variable {C : Cx} {K : Kx} {P : Kept} {d : Nat} {σ : Hp} {s s' : Shared} {A : Around} {tc : Tc} {hx : Option Addr} {fs : List Env}
theorem above_none {h : Heap} {a : Addr} (ha : h.objs.size ≤ a) : h.get? a = none := by
  cases q : h.get? a with
  | none => rfl
  | some o => exact absurd (Heap.lt_size q) (Nat.not_lt.mpr ha)
/-- what is known of a function of the text -/
structure FnOk (C : Cx) (tc : Tc) (a : Addr) (ps : List Str) (body : List Stmt) : Prop where
  fn : ∃ o fd, C.base.get? a = some o ∧ o.data = .func fd ∧ C.base.CodeRec fd.code fd.qualname ∧ fd.body = .stmts body ∧ Plain fd ps ∧ fd.closure = [] ∧ fd.globals = mainGlobals ∧ fd.builtins = builtinsNs ∧
    fd.scope.names = tc.kinds ∧ fd.scope.kind = .function ∧ fd.scope.isCoroutine = false ∧ fd.scope.isGenerator = false
  pre : ∀ (i : Nat) x, ps[i]? = some x → tc.names[i]? = some x
  kinds : ∀ x ∈ ps, tc.kinds.lookup x = some .local ∨ tc.kinds.lookup x = some .cell
/-- the law's own functions, as the model has them -/
noncomputable def semFn (C : Cx) (hd : Bool) (d : Nat) (n : String) (vs : List AV) (σ : Hp) (Q : Post) (X : XPost) : Prop := ∀ {a cvs P hx fs s A}, C.fnAt n = some a → hx.isSome = hd → StB C P hx fs σ s → All2 AV.is vs cvs → ABk A hx fs d → (∃ e r, fs = e :: r) →
    codeAny (model C.prog C.w) A (.call (.ref a) ⟨cvs, []⟩) (RB C P hx fs Q X) s
theorem arg_at {vs : List AV} {n i : Nat} {v : AV} (h : (args1 n vs)[i]? = some (some v)) : vs[i]? = some v := by
  unfold args1 at h
  rcases Nat.lt_or_ge i (vs.map some).length with q | q
  · rw [List.getElem?_append_left q] at h
    obtain ⟨w, h1, h2⟩ := map_get h
    rw [h1, Option.some.inj h2]
  · rw [List.getElem?_append_right q, List.getElem?_replicate] at h
    split at h <;> cases h
/-- the frame of a call -/
structure Ent' (tc : Tc) (ps : List Str) (env : Env) (s : Shared) : Prop where
  kindOf : ∀ x, env.kindOf x = tc.kinds.lookup x
  loc : env.locals = s.heap.objs.size
  fr : env.frame = some s.heap.objs.size
  cells : ∀ x, tc.kinds.lookup x = some .cell → (env.cells.lookup x).isSome = true
  names : env.scope.names = tc.kinds
  kind : env.scope.kind = .function
  gl : env.globals = mainGlobals
  bl : env.builtins = builtinsNs
  pre : ∀ (i : Nat) x, ps[i]? = some x → tc.names[i]? = some x
  kinds : ∀ x ∈ ps, tc.kinds.lookup x = some .local ∨ tc.kinds.lookup x = some .cell
  nodup : ps.Nodup
theorem StB.enter {env : Env} {ps : List Str} {vs : List AV} {cvs : List Value} {n : Nat} (E : Ent' tc ps env s) (B : StB C P hx fs σ s) (hv : All2 AV.is vs cvs) (hl : ps.length = vs.length)
    (hns : s'.heap.Ns env.locals (bindL env.kindOf (ps.zip cvs) fun _ => none)) (hcell : ∀ x c, env.cells.lookup x = some c → s'.heap.IsCell c (bindC env.kindOf (ps.zip cvs) (fun _ => none) x)) (keep : ∀ b o, s.heap.get? b = some o → s'.heap.get? b = some o)
    (hnew : ∀ x c, env.cells.lookup x = some c → s.heap.get? c = none) (hg : s'.gens = s.gens) (ho : s'.os = s.os) : St C P ⟨hx, env, tc.names, env :: fs⟩ (args1 n vs) σ s' := by
  have hLn : s.heap.get? env.locals = none := by rw [E.loc]; exact fresh_size _
  have hlen : ps.length = cvs.length := hl.trans hv.length
  have B' : StB C P hx fs σ s' := B.step (fun _ => False) (fun _ h => h.elim) (fun _ _ _ _ h => h.elim) (fun b o _ e => ⟨o, keep b o e, .inl rfl⟩) (fun _ _ h => h.elim) (fun _ _ e => .inl ⟨id, e⟩) (fun _ _ _ e => e) (fun _ c d _ e => ⟨c, d, e⟩) hg ho
  refine { B' with frs := fun e he => ?_, locs := ⟨_, _, hns, hcell, fun i x v hx hv' => ?_⟩, own := fun b hb => ?_ }
  · rcases List.mem_cons.mp he with rfl | q
    · obtain ⟨o, es, ep, e1, e2, _⟩ := hns
      exact ⟨by rw [E.kind]; exact nofun, e.locals, o, by rw [E.fr, E.loc], e1, ⟨es, ep, e2⟩, B.newBase hLn, B.newNone hLn⟩
    · exact B'.frs e q
  · obtain ⟨cv, hcv, hr⟩ := hv.get (arg_at hv')
    have hi : i < ps.length := by rw [hlen]; exact (List.getElem?_eq_some_iff.mp hcv).1
    have hxp := List.getElem?_eq_getElem hi
    rw [same (E.pre i _ hxp) hx] at hxp
    have hmem : (x, cv) ∈ ps.zip cvs := List.mem_iff_getElem?.mpr ⟨i, List.getElem?_zip_eq_some.mpr ⟨hxp, hcv⟩⟩
    have nodup : ((ps.zip cvs).map (·.1)).Nodup := by rw [List.map_fst_zip (Nat.le_of_eq hlen)]; exact E.nodup
    refine ⟨cv, hr, ?_⟩
    rcases E.kinds x (List.of_mem_zip hmem).1 with k | k
    · exact .inl ⟨(E.kindOf x).trans k, bindL_get ((E.kindOf x).trans k) _ _ nodup hmem⟩
    · exact .inr ⟨(E.kindOf x).trans k, E.cells x k, bindC_get (by rw [E.kindOf, k]; exact nofun) _ _ nodup hmem⟩
  · have : s.heap.get? b = none := by
      rcases hb with rfl | ⟨x, hx⟩
      · exact hLn
      · exact hnew x b hx
    exact ⟨B.newNone this, B.newBase this, B.newP this⟩
/-- into a function -/
theorem enter_code {a : Addr} {ps : List Str} {body : List Stmt} {pss : List PS} {vs : List AV} {cvs : List Value} {Q : Post} {X : XPost} {n : Nat} (hC : C.Ok) (hf : FnOk C tc a ps body) (hb : SSs C K tc body pss) (hx' : hx.isSome = tc.hd) (B : StB C P hx fs σ s)
    (hv : All2 AV.is vs cvs) (hl : ps.length = vs.length) (hA : ABk A hx fs d) (w : pSs K tc.hd d pss (args1 n vs) σ (fun _ σ' => Q .none σ') Q (fun _ a σ' => X a σ')) :
    codeAny (model C.prog C.w) A (.call (.ref a) ⟨cvs, []⟩) (RB C P hx fs Q X) s := by
  obtain ⟨o, fd, h1, h2, h3, h4, h5, h6, h7, h8, h9, h10, h11, h12⟩ := hf.fn
  have cellsOk : ∀ n x, tc.kinds.lookup x = some .cell → ((cellsFrom n fd.scope.names []).lookup x).isSome = true := fun n x h => cellsFrom_has _ _ _ (.inl (by rw [h9]; exact mem_of_lookup h))
  refine codeAny_call_cells (o := o) (fd := fd) (body := body) (binds := ps.zip cvs) (Nat.lt_of_le_of_lt (Nat.le_add_right _ (d + 1)) hA.depth) (B.base _ _ h1) h2 (Heap.NoLimit.keeps hC B.base) ?_ h4 (bind_plain h5 (hl.trans hv.length)) h6 (fun x hx => ?_) (fun s₁ I => ?_) h11 h12 h10
  · obtain ⟨c, o, vs, t, e1, e2, e3⟩ := h3
    exact ⟨c, o, vs, t, e1, B.base _ _ e2, e3⟩
  · rw [h9]
    exact (hf.kinds x.1 (List.of_mem_zip hx).1).imp id fun h => ⟨h, by rw [← h9]; exact cellsOk _ _ h⟩
  · obtain ⟨⟨⟨h', tk, hs₁⟩, hns, keep, fresh⟩, hcell, hap, habove⟩ := I
    have hgens : s₁.gens = s.gens := by rw [hs₁]
    have hos : s₁.os = s.os := by rw [hs₁]
    clear hs₁
    have En : Ent' tc ps (callEnvC fd s.heap.objs.size a) s := ⟨fun x => by show fd.scope.names.lookup x = _; rw [h9], rfl, rfl, fun x h => cellsOk _ x h, h9, h10, h7, h8, hf.pre, hf.kinds, h5.nodup⟩
    generalize callEnvC fd s.heap.objs.size a = env at *
    have S₁ := B.enter (s' := s₁) (n := n) En hv hl hns hcell keep (fun x c hc => above_none (Nat.le_of_lt (En.loc ▸ habove x c (mem_of_lookup hc)))) hgens hos
    have H : Fr tc ⟨hx, env, tc.names, env :: fs⟩ (A.deeper env) d := ⟨rfl, En.names, En.gl, En.bl, hx', En.cells, by have := hA.depth; show A.depth + 1 + d < 1000; omega, by have := hA.units; show A.units + 3 + 16 * d + 400 < cLine; omega, hA.hand, by show A.frames.map (env :: ·) = some (env :: fs); rw [hA.frames]; rfl, En.kind,
      fun x y c e1 e2 => Classical.byContradiction fun hne => apart_ne hap e1 e2 hne rfl, ⟨env, fs, rfl, rfl⟩⟩
    have drop : ∀ {ρ σ s}, St C P ⟨hx, env, tc.names, env :: fs⟩ ρ σ s → StB C P hx fs σ s := fun S => { S.toStB with frs := fun e he => S.frs e (.tail _ he) }
    refine wpAny_mono (hb H S₁ w) (fun fl s₂ r => ?_) fun e s₂ ⟨ρ', b, σ', c, dd, e0, S', hb', q⟩ => ?_
    · cases fl with
      | next => obtain ⟨ρ', σ', S', q⟩ := r; exact ⟨.none, σ', rfl, drop S', q⟩
      | ret v => obtain ⟨ρ', av, σ', hv', S', q⟩ := r; exact ⟨av, σ', hv', drop S', q⟩
      | brk => exact r.elim
      | cont => exact r.elim
    · subst e0
      unfold leaving
      exact wpAny_bind (note_of H S' hb' fun s₃ S₃ _ => flight_of S₃ hb' fun s₄ S₄ => ⟨b, σ', c, dd, rfl, drop S₄, hb', q⟩)
end
end U
namespace U
open PySem PyProof.Rows
theorem lookup_mem {α β : Type} [BEq α] [LawfulBEq α] {l : List (α × β)} {x : α} {y : β} (h : l.lookup x = some y) : (x, y) ∈ l := by
  induction l with
  | nil => cases h
  | cons p r ih =>
    obtain ⟨a, b⟩ := p
    rw [List.lookup_cons] at h
    split at h
    · rename_i q; cases h; rw [beq_iff_eq.mp q]; exact .head _
    · exact .tail _ (ih h)
theorem lookup_map_ne {n k : Txt} (v : AV) (h : (k == n) = false) : ∀ es : List (Txt × AV), (es.map fun e => if e.1 == n then (e.1, v) else e).lookup k = es.lookup k
  | [] => rfl
  | (x, u) :: r => by
    rw [List.map_cons, List.lookup_cons]
    by_cases q : (x == n) = true
    · rw [if_pos q, List.lookup_cons, beq_iff_eq.mp q, h]; exact lookup_map_ne v h r
    · rw [if_neg q, List.lookup_cons, lookup_map_ne v h r]
theorem lookup_map_here {n : Txt} (v : AV) : ∀ es : List (Txt × AV), es.any (fun e => e.1 == n) = true → (es.map fun e => if e.1 == n then (e.1, v) else e).lookup n = some v
  | [], h => nomatch h
  | (x, u) :: r, h => by
    rw [List.map_cons]
    by_cases q : (x == n) = true
    · rw [if_pos q, List.lookup_cons, beq_iff_eq.mp q, beq_self_eq_true]
    · rw [if_neg q, List.lookup_cons, show (n == x) = false from beq_eq_false_iff_ne.mpr fun e => q (beq_iff_eq.mpr e.symm)]
      refine lookup_map_here v r ?_
      rw [List.any_cons] at h
      exact (Bool.or_eq_true_iff.mp h).resolve_left q
theorem lookup_app_ne {n k : Txt} {v : AV} (h : (k == n) = false) : ∀ es : List (Txt × AV), (es ++ [(n, v)]).lookup k = es.lookup k
  | [] => by rw [List.nil_append, List.lookup_cons, h]
  | (x, u) :: r => by rw [List.cons_append, List.lookup_cons, List.lookup_cons, lookup_app_ne h r]
theorem lookup_app_here {n : Txt} {v : AV} : ∀ es : List (Txt × AV), es.any (fun e => e.1 == n) = false → (es ++ [(n, v)]).lookup n = some v
  | [], _ => by rw [List.nil_append, List.lookup_cons, beq_self_eq_true]
  | (x, u) :: r, h => by
    rw [List.any_cons, Bool.or_eq_false_iff] at h
    rw [List.cons_append, List.lookup_cons, show (n == x) = false from beq_eq_false_iff_ne.mpr fun e => beq_eq_false_iff_ne.mp h.1 e.symm]; exact lookup_app_here r h.2
theorem dset_here (es : List (Txt × AV)) (n : Txt) (v : AV) : (dset es n v).lookup n = some v := by
  unfold dset
  by_cases q : es.any (fun e => e.1 == n) = true
  · rw [if_pos q]; exact lookup_map_here v es q
  · rw [if_neg q]; exact lookup_app_here es (Bool.eq_false_iff.mpr q)
theorem dset_ne {es : List (Txt × AV)} {n k : Txt} (v : AV) (h : k ≠ n) : (dset es n v).lookup k = es.lookup k := by
  have h : (k == n) = false := beq_eq_false_iff_ne.mpr h
  unfold dset
  split
  · exact lookup_map_ne v h es
  · exact lookup_app_ne h es
theorem AttM.set {es : List (Txt × AV)} {m : Str → Option Value} {n : Txt} {v : AV} {cv : Value} (h : AttM es m) (hv : v.is cv) : AttM (dset es n v) (fun y => if y = toS n then some cv else m y) := fun k => by
  by_cases hk : k = n
  · subst hk
    rw [dset_here]
    exact ⟨nofun, fun w e => ⟨cv, if_pos rfl, Option.some.inj e ▸ hv⟩⟩
  · rw [dset_ne v hk, show (fun y => if y = toS n then some cv else m y) (toS k) = m (toS k) from if_neg fun e => hk (toS_inj e)]; exact h k
theorem AttM.within {es : List (Txt × AV)} {m : Str → Option Value} (h : AttM es m) : Within m (es.map fun e => toS e.1) := fun y hy => by
  cases q : es.lookup y.cps.toList with
  | none => exact absurd ((h y.cps.toList).1 q) hy
  | some v => exact List.mem_map.mpr ⟨(y.cps.toList, v), lookup_mem q, rfl⟩
section
variable {C : Cx} {K : Kx} {P : Kept} {f : Fx} {d : Nat} {ρ : Loc} {σ : Hp} {s s' : Shared} {A : Around} {Q : Post} {X : XPost} {tc : Tc} {E : Value → Shared → Prop}
/-- an object of a class, as it stands -/
structure InstAt (C : Cx) (σ : Hp) (h : Heap) (a : Addr) (c : String) (dd ca : Addr) (es : List (Txt × AV)) (m : Str → Option Value) (ob : Obj) : Prop where
  hi : σ a = some (.inst c dd)
  as : σ dd = some (.attrs es)
  cls : C.clsAt c = some ca
  obj : h.get? a = some ob
  od : ob.dict = some dd
  nc : ∀ k, ob.data ≠ .cls k
  am : AttM es m
  i : h.InstFk a ca m
theorem objE {x : AV} {u : Value} {k : String → Addr → List (Txt × AV) → Prop} {G : Value → Prop} (S : St C P f ρ σ s) (h : ObjP σ x k) (hx : x.is u) (g : ∀ a c dd ca es m ob, InstAt C σ s.heap a c dd ca es m ob → k c dd es → G (.ref a)) : G u := by
  apply refE h hx
  intro a h
  refine okE h fun o e h => ?_
  cases o <;> first | exact h.elim | skip
  rename_i c dd
  refine okE h fun o e' h => ?_
  cases o <;> first | exact h.elim | skip
  rename_i es
  obtain ⟨ob, g1, ca, hca, o1, o2, o3⟩ := S.rel _ _ e
  obtain ⟨od, g2, c1, c2, m, hm, hn⟩ := S.rel _ _ e'
  exact g a c dd ca es m ob ⟨e, e', hca, g1, o2, o3, hm, ⟨_, g1, o1, o3, .inr ⟨dd, o2, neO e' e nofun, hn _ _ g2, od, g2, c1, c2⟩⟩⟩ h
theorem handed {x : AV} {v : Value} (h : x.is v) : handedOut v = pure v := by
  cases x <;> first | (cases h; rfl) | (obtain ⟨_, rfl⟩ := h; rfl)
theorem ps_attr {x : AV} {u : Value} {n : Txt} (hk : KOk C K) (S : St C P f ρ σ s) (h : ObjP σ x fun c _ es => K.att c n ∧ OkP (es.lookup n) fun u => Q u σ) (hx : x.is u) : wpAny (model C.prog C.w) A (getAttr u (toS n) true) (RV C P f ρ Q) E s := by
  apply objE S h hx
  intro a c dd ca es m ob I q
  obtain ⟨N, mN, X, q1, q2, q3, q4⟩ := hk.att q.1 ca I.cls
  refine okE q.2 fun v hv q => ?_
  obtain ⟨cv, e, hcv⟩ := (I.am n).2 v hv
  obtain ⟨nm, qq, bs, sn, sub, col, dd', k0, k1, k2, k3, k5, hC⟩ := (X.keeps S.base).obj
  have hq := rv (Q := Q) hcv (S.tok (s.toks + 1)) q
  obtain ⟨hh, g, dr, t, os⟩ := s
  exact load_attrFk hC (X.keeps S.base).ns q1 q3 q4 I.i e (handed hcv) hq
theorem se_attr {o : Expr} {n : Txt} {pos : Pos} {po : PE} (hk : KOk C K) (ho : SE C K tc o po) (hb : baseOk o = true) : SE C K tc (.Attribute o (toS n) pos) (.attr n po) := fun H S w => by
  rw [arm_eval_Attribute, base_of hb]
  exact wpAny_bind (fitv (ho H S w) fun _ _ _ _ hv S₁ q => wpAny_bind (wpAny_standAt (wpAny_bind (wpAny_holding (fit (ps_attr hk S₁ q hv) fun r s₂ h => wpAny_bind (wpAny_letTemporaryGo (wpAny_pure h)))))))
theorem ps_setattr {x v : AV} {u cv : Value} {n : Txt} {k : Hp → Prop} {Q : Unit → Shared → Prop} (hk : KOk C K) (S : St C P f ρ σ s) (h : ObjP σ x fun c dd es => (K.att c n ∧ es.length < tooLong) ∧ SetO σ dd (.attrs (dset es n v)) k) (hx : x.is u) (hv : v.is cv)
    (q : ∀ s' σ', St C P f ρ σ' s' → k σ' → Q () s') : wpAny (model C.prog C.w) A (setAttr u (toS n) cv) Q E s := by
  apply objE S h hx
  intro a c dd ca es m ob I q'
  obtain ⟨N, mN, X, q1, q2, q3, q4⟩ := hk.att q'.1.1 ca I.cls
  obtain ⟨nm, qq, bs, sn, sub, col, dd', k0, k1, k2, k3, k5, hC⟩ := (X.keeps S.base).obj
  have hne : a ≠ ca := fun e => by
    have := hC; rw [← e, I.obj] at this; exact I.nc _ (congrArg Obj.data (Option.some.inj this))
  have upd : ∀ h' tk, h'.InstFk a ca (fun y => if y = toS n then some cv else m y) → (∀ b o, b ≠ a → (∀ o₀ dx, s.heap.get? a = some o₀ → o₀.dict = some dx → b ≠ dx) → s.heap.get? b = some o → h'.get? b = some o) →
      (∀ o₀, s.heap.get? a = some o₀ → ∃ o₁, h'.get? a = some o₁ ∧ o₁.cls = o₀.cls ∧ o₁.data = o₀.data ∧ o₁.slots = o₀.slots ∧ ∀ dx, o₀.dict = some dx → o₁.dict = some dx) → Q () { s with heap := h', toks := tk } := fun h' tk I' keep same' => by
    obtain ⟨o₁, e1, e2, e3, e4, e5⟩ := same' _ I.obj
    have e6 := e5 dd I.od
    have e7 : o₁ = ob := by
      obtain ⟨c1, c2, c3, c4⟩ := o₁
      obtain ⟨b1, b2, b3, b4⟩ := ob
      cases (show c1 = _ from e2); cases (show c3 = _ from e3); cases (show c4 = _ from e4); cases (show c2 = _ from e6); cases (show b2 = _ from I.od); rfl
    rw [e7] at e1 e6
    clear e5 e2 e3 e4
    obtain ⟨o', f1, f2, f3, f4⟩ := I'
    rw [← same e1 f1] at f4
    refine q _ _ (S.upd (o' := .attrs (dset es n v)) I.as rfl (fun _ _ => nofun) (fun b o hb e => ?_) ?_) q'.2
    · by_cases hba : b = a
      · rw [hba, I.obj] at e; rw [hba]; exact e ▸ e1
      · exact keep b o hba (fun o₀ dx g1 g2 => by rw [← same I.obj g1, I.od] at g2; cases g2; exact hb) e
    · rcases f4 with ⟨h0, _⟩ | ⟨d', h1, h2, h3, od, h4, h5, h6⟩
      · exact clash e6 h0
      · cases same e6 h1
        refine ⟨od, h4, h5, h6, _, I.am.set hv, fun h b e => ?_⟩
        obtain ⟨o₂, es₂, ep₂, r1, r2⟩ := h3
        exact ⟨o₂, es₂, ep₂, same h4 r1 ▸ e, r2⟩
  have hl : (es.map fun e => toS e.1).length ≤ sizeLine := by rw [List.length_map]; exact tooLong_lt q'.1.2
  obtain ⟨hh, g, dr, t, os⟩ := s
  exact store_attrFk PySem.F.store_object hC (X.keeps S.base).ns q2 q3 q4 hne I.i upd I.am.within hl
theorem ss_attr {o e : Expr} {n : Txt} {p pos : Pos} {po pe : PE} (hk : KOk C K) (he : SE C K tc e pe) (ho : SE C K tc o po) (hc : notComp e = true) : SS C K tc (.Assign [.Attribute o (toS n) p] e pos) (.assign (.attr po n) pe) := fun H S w =>
  plainObj_wpAny_Assign_Attribute (rsx (fitv (he H S w) fun _ _ _ _ hv S₁ q => rsx (fitv (ho H S₁ q) fun _ _ _ _ hx S₂ q => ps_setattr hk S₂ q hx hv fun s' σ' S' q => ⟨_, _, S', q⟩))) (swaps_no hc)
theorem se_meth {o : Expr} {m : Txt} {fnm : String} {apos pos : Pos} {po : PE} {es : List Expr} {pes : List PE} (hk : KOk C K) (hbase : baseOk o = true) (hline : (apos.endLine == pos.line) = true) (hl : es.length < 30)
    (ho : SE C K tc o po) (hes : SEs C K tc es pes) : SE C K tc (.Call (.Attribute o (toS m) apos) es [] pos) (.meth m fnm po pes) := fun {P f d ρ σ s A Q X} H S w => by
  rw [arm_eval_Call, base_of hbase]
  refine wpAny_bind (fitv (ho H S w) fun v s₁ av σ₁ hv S₁ q => wpAny_bind (wpAny_standAt ?_))
  have hv0 := hv
  revert hv0
  apply objE S₁ q hv
  intro a c dd ca as mA oi I q hv0
  obtain ⟨N, mN, b, ob, fd, X', q1, q2, q3, q4, q5, q6, q7, y, q8⟩ := hk.mth q.1.1 ca I.cls
  obtain ⟨nm, qq, bs, sn, sub, col, dd', k0, k1, k2, k3, k5, hC⟩ := (X'.keeps S₁.base).obj
  have hform : methodCallForm (es.length + ([] : List Keyword).length) (backTo pos (starEach es f.env)) (backToKw pos (keywordEach [] f.env)) = true := by
    show (_ && _ && _) = true
    rw [star_all (star_any hes.1)]; simpa [backToKw, keywordEach] using hl
  have hpos : methodCallPos true o f.env apos pos = pure pos := by unfold methodCallPos; simp [hline]
  unfold methodCall
  rw [hform]
  have tail : wpAny (model C.prog C.w) A (callWith pos (.ref b) [.ref a] (backTo pos (starEach es f.env)) []) (RV C P f ρ Q) (RX C P f ρ X) s₁ :=
    Calls.callWith_function (o := ob) (fd := fd) (args_e hes H S₁ q.2 fun vs s₂ avs σ₂ hvs S₂ q => by
      obtain ⟨hd, q⟩ := q
      obtain ⟨d', rfl⟩ := Nat.exists_eq_succ_of_ne_zero hd
      exact ⟨⟨S₂.base _ _ q4, q6⟩, run_fn hk q7 H H.abk S₂ (.cons hv0 hvs) q⟩)
  have hb := S₁.base b ob q4
  have hns := (X'.keeps S₁.base).ns
  have hno := (I.am m).1 q.1.2
  clear q
  obtain ⟨hh, g, dr, t, os⟩ := s₁
  exact wpAny_bind (wpAny_holding (method_ofFk hC hns q1 q2 q3 hb q5 q8 I.i hno (wpAny_bind (wpAny_of_eq hpos tail))))
end
end U
namespace U
open PySem PyProof.Rows
section
variable {C : Cx} {K : Kx} {P : Kept} {f : Fx} {d : Nat} {ρ : Loc} {σ : Hp} {s s' : Shared} {A : Around} {Q : Post} {X : XPost} {tc : Tc} {E : Value → Shared → Prop}
theorem callWith_c {a N : Addr} {mN : Str → Option Value} {pos : Pos} {args : List (Bool × Sem Value)} {Q : Value → Shared → Prop} (X : ClsAt C.base a N mN) (hst : args.any (·.1) = false)
    (h : wpAny (model C.prog C.w) A (evalArgs (.ref a) true args []) (fun as s₁ => as.kw = [] ∧ (∀ b o, C.base.get? b = some o → s₁.heap.get? b = some o) ∧ wpAny (model C.prog C.w) A (call (.ref a) as.pos) Q E s₁) E s) :
    wpAny (model C.prog C.w) A (callWith pos (.ref a) [] args []) Q E s := by
  unfold callWith
  refine wpAny_bind (wpAny_holding (fit h fun as s₁ h₁ => ?_))
  obtain ⟨apos, akw⟩ := as
  obtain ⟨e, hk, hc⟩ := h₁
  cases (show akw = [] from e)
  obtain ⟨hh, g, d, t, os⟩ := s₁
  obtain ⟨nm, q, bs, sn, sub, col, dd, k0, k1, k2, k3, k5, hC⟩ := (X.keeps hk).obj
  have f1 := tc_lookup
  have hT : (⟨hh, g, d, t, os⟩ : Shared).TypeIs (.ref a) "type" := ⟨_, hC, rfl⟩
  refine wpAny_bind (wpAny_standAt ?_)
  simp only [hst]
  refine wpAny_bind (wpAny_keeperOf_exc hC ?_)
  exact wpAny_bind (fit hc fun r s' hr => wpAny_bind (wpAny_holding (wpAny_point (wpAny_pure hr))))
theorem se_new {x : Str} {p pos : Pos} {c fnm : String} {es : List Expr} {pes : List PE} (hk : KOk C K) (hg : GOk C tc.g) (G : Gl tc x (.cls c)) (hes : SEs C K tc es pes) :
    SE C K tc (.Call (.Name x p) es [] pos) (.new c fnm pes) := fun {P f d ρ σ s A Q X} H S w => by
  obtain ⟨⟨hd, hm⟩, w⟩ := w
  refine wpAny_Call_NameR (ld_glob hg H G S fun v hv => ?_)
  obtain ⟨ca, ha, rfl⟩ := hv
  obtain ⟨N', mN', b, ob, fd, X', q1, q2, q3, q4, q5, q6, q7, y, q8⟩ := hk.mth hm ca ha
  refine callWith_c X' (star_any hes.1) (args_e hes H S w fun vs s₁ avs σ₁ hvs S₁ q => ⟨rfl, S₁.base, ?_⟩)
  obtain ⟨nm, qq, bs, sn, sub, col, dd', k0, k1, k2, k3, k5, hC⟩ := (X'.keeps S₁.base).obj
  obtain ⟨d', rfl⟩ : ∃ d', d = d' + 2 := ⟨d - 2, (Nat.sub_add_cancel hd).symm⟩
  have hb := S₁.base b ob q4
  have hns := (X'.keeps S₁.base).ns
  have key : ∀ h' x dx, Heap.MadeObjFk s₁.heap h' x dx ca → wpAny (model C.prog C.w) (A.under (.builtin "type.__call__" ⟨.ref ca :: vs, []⟩)) (call (.ref b) (.ref x :: vs)) (fun r s' => r = .none ∧ RV C P f ρ Q (.ref x) s') (RX C P f ρ X) { s₁ with heap := h' } := fun h' x dx M => by
    obtain ⟨ox, i1, i2, i3, i4⟩ := M.inst
    have i5 := M.dict ox i1
    rcases i4 with ⟨h0, _⟩ | ⟨d₂, j1, j2, j3, j4⟩
    · exact clash i5 h0
    · cases same i5 j1
      obtain ⟨od, j5, j6, j7⟩ := j4
      have S₂ := S₁.new (s' := { s₁ with heap := h' }) (a := dx) (o := .attrs []) M.keeps M.newD ⟨od, j5, j6, j7, fun _ => none, fun _ => ⟨fun _ => rfl, nofun⟩, fun h b e => by
        obtain ⟨o₂, es₂, ep₂, r1, r2⟩ := j3
        exact ⟨o₂, es₂, ep₂, same j5 r1 ▸ e, r2⟩⟩
      have hx0 := S₁.newNone M.newX
      have S₃ := S₂.adopt (D := x) (o := .inst c dx) (S₁.offNew M.newX) ((setH_ne (Ne.symm j2)).trans hx0) ⟨ox, i1, ca, ha, i2, i5, i3⟩
      refine fitv (run_fn hk q7 H ⟨?_, ?_, H.hand, H.frames⟩ S₃ (.cons (x := AV.ref x) (y := Value.ref x) rfl hvs) (q x dx hx0 (S₁.newNone M.newD) (Ne.symm j2))) fun v s₂ av σ₂ hv S₄ q => ?_
      · show A.depth + 1 + d' + 1 < 1000
        have := H.depth; omega
      · show A.units + 1 + 16 * d' + 416 < cLine
        have := H.units; omega
      · obtain ⟨rfl, q⟩ := q
        exact ⟨hv, rv (av := .ref x) rfl S₄ q⟩
  obtain ⟨hh, g, dr, t, os⟩ := s₁
  exact wpAny_call_obj_initFk PySem.F.objNew hC hns q3 hb q5 key
theorem ss_raise {x : Str} {np cpos pos : Pos} {c : String} {es : List Expr} {pes : List PE} (hk : KOk C K) (hg : GOk C tc.g) (hd : tc.hd = false) (G : Gl tc x (.cls c)) (hes : SEs C K tc es pes) :
    SS C K tc (.Raise (some (.Call (.Name x np) es [] cpos)) none pos) (.raise c pes) := fun {P f d ρ σ s A Qn Qr X} H S w => by
  have hcl : ∃ ca, C.clsAt c = some ca := by
    obtain ⟨mg, mb, _, _, h3⟩ := hg
    obtain ⟨v, ⟨a, ha, _⟩, _⟩ := h3 x _ G.g
    exact ⟨a, ha⟩
  obtain ⟨ca, hca⟩ := hcl
  obtain ⟨y, bmB, newId, mg, B, initId, O, F⟩ := hk.exc w.1 ca hca
  obtain ⟨bm, N, nm, q, bs, hdct, sn, sub, ab, col, dd, k0, k1, k2, k3, k5, mN, hC, hN, hq, T⟩ := O.obj
  refine wpAny_Raise_call_subT (C := ca) (N := N) (nm := nm) (q := q) (bs := bs) (hdct := hdct) (sn := sn) (sub := sub) (ab := ab) (col := col) (dd := dd) (k0 := k0) (k1 := k1) (k2 := k2) (k3 := k3) (k5 := k5) F (T.tail.hasType F.hasBase) (no_hand H hd) (star_any hes.1) (hq _ (.head _)) (ld_glob hg H G S fun v hv => ?_)
  obtain ⟨a, ha, rfl⟩ := hv
  cases same ha hca
  refine ⟨rfl, rsx (args_e hes H S w.2 fun vs s₁ avs σ₁ hvs S₁ q => ⟨rfl, by rw [← hvs.length]; exact tooLong_lt q.1, S₁.base _ _ hC, hN.keeps S₁.base, T.tail.keeps S₁.base, fun h' e M => ?_⟩)⟩
  obtain ⟨t, m1, m2, m3⟩ := M.there
  exact ⟨ρ, e, _, c, none, rfl, S₁.new (s' := { s₁ with heap := h' }) (o := .exc c none) M.keeps M.new ⟨_, m1, ca, _, ha, rfl, rfl, rfl, Nat.lt_succ_of_lt (Nat.lt_succ_self 4), rfl, .inl rfl⟩, setH_here _ _ _, q.2 e (S₁.newNone M.new)⟩
/-- while an exception is handled -/
noncomputable def Tc.on (tc : Tc) : Tc := { tc with hd := true }
theorem ss_try {x : Str} {np hpos pos : Pos} {c : String} {body : List Stmt} {b₀ : Stmt} {suite : List Stmt} {pb ph : List PS} (hk : KOk C K) (hg : GOk C tc.g) (hd : tc.hd = false) (G : Gl tc x (.cls c)) (hb : SSs C K tc body pb) (hh : SSs C K tc.on (b₀ :: suite) ph) :
    SS C K tc (.Try body [.ExceptHandler (some (.Name x np)) none (b₀ :: suite) hpos] [] [] pos) (.try pb c ph) := fun {P f d ρ σ s A Qn Qr X} H S w => by
  refine wpAny_Try_except (wpAny_mono (hb H S w) (fun fl s₁ r => ?_) fun e s₁ r => ?_)
  · cases fl with
    | next => exact wpAny_execs_nil r
    | _ => exact r
  · obtain ⟨ρ', a, σ', c', dd, rfl, S', ha, q⟩ := r
    have q : OkP (σ' a) fun o => ExcP o fun c' _ => (c' = c ∧ K.exc c) ∧ pSs K true d ph ρ' σ' Qn Qr (fun _ _ _ => False) := q
    rw [ha] at q
    obtain ⟨⟨e0, hexc⟩, q'⟩ := q
    subst e0
    have hx0 : f.hx = none := by
      have := H.hd; rw [hd] at this
      cases h : f.hx with
      | none => rfl
      | some x => rw [h] at this; cases this
    have H' : Fr tc.on { f with hx := some a } (A.mark (some (.ref a))) d := { H with hd := rfl, hand := rfl }
    have on : ∀ {σ s}, σ a = some (.exc c' dd) → St C P f ρ' σ s → St C P { f with hx := some a } ρ' σ s := fun ha S => { S with hand := fun x h => by cases h; exact ⟨c', dd, ha⟩ }
    have off : ∀ {ρ σ s}, St C P { f with hx := some a } ρ σ s → St C P f ρ σ s := fun S => { S with hand := fun x h => by rw [hx0] at h; cases h }
    refine note_of H S' ha fun s₂ S₂ _ => flight_of S₂ ha fun s₃ S₃ => ?_
    obtain ⟨ob, g1, ca, vs, e1, e2, _⟩ := S₃.rel a _ ha
    obtain ⟨y, bmB, newId, mg, B, initId, O, F⟩ := hk.exc hexc ca e1
    refine handleBy_own (C := ca) (x := y) (mg := mg) (newId := newId) F.hasBase (ld_glob (tc := tc.on) (f := { f with hx := some a }) hg H' ⟨G.kind, G.g, G.nd⟩ (on ha S₃) fun v hv => ?_)
    obtain ⟨a', ha', rfl⟩ := hv
    cases same e1 ha'
    refine ⟨rfl, O.keeps S₃.base, ⟨ob, g1, e2⟩, flight_of (on ha S₃) ha fun s₄ S₄ => ?_⟩
    refine wpAny_mono (hh (f := { f with hx := some a }) H' S₄ q') (fun fl s₅ r => ?_) fun e s₅ h => by obtain ⟨_, _, _, _, _, _, _, _, h⟩ := h; exact h.elim
    cases fl with
    | next => obtain ⟨ρ₃, σ₃, S₅, q⟩ := r; exact ⟨ρ₃, σ₃, off S₅, q⟩
    | ret v => obtain ⟨ρ₃, av, σ₃, hv, S₅, q⟩ := r; exact ⟨ρ₃, av, σ₃, hv, off S₅, q⟩
    | brk => exact r.elim
    | cont => exact r.elim
end
end U
namespace U
open PySem PyProof.Rows
section
variable {C : Cx} {K : Kx} {P : Kept} {f : Fx} {d : Nat} {ρ : Loc} {σ : Hp} {s s' : Shared} {A : Around} {Q : Post} {X : XPost} {tc : Tc} {a : Addr}
theorem seq_upd {xs xs' : List AV} {cs : Array Value} {n : Nat} (fn : Array Value → Array Value) (S : St C P f ρ σ s) (e : σ a = some (.list xs)) (g : s.heap.get? a = some (seqObj "list" cs n)) (r : All2 AV.is xs' (fn cs).toList) :
    St C P f ρ (setH σ a (.list xs')) { s with heap := s.heap.update a (Obj.mapSeq fn) } :=
  S.upd (s' := { s with heap := s.heap.update a (Obj.mapSeq fn) }) (o' := .list xs') e rfl (fun c d => nofun) (fun b o hb e => ((Heap.SameBut.update (f := Obj.mapSeq fn) (a := a) s.heap).2 b hb).trans e) ⟨_, Heap.get?_update_self _ g rfl, _, _, rfl, r⟩
theorem call_extend : CallOk C false BOp.extend.p (.builtin "list.extend") := fun {P f ρ σ s A E Q vs cvs} S _ h hv => by
  apply twoE h hv
  intro x y u v hx hy h
  apply refE h hx
  intro a h
  apply refE h hy
  intro b h
  refine ownE S h fun xs cs n e g r h => ownE S h fun ys ds m _ g' r' q => ?_
  have hz : cs.size + ds.size ≤ sizeLine := app_size r r' q.1
  refine call_meets F.slot_list_extend ⟨_, g, rfl⟩ F.entry_list_extend (F.args_list_extend_2 _ _) (AutoSeq1.list_extend_list_list_0 a cs n b ds m (extend_door hz) (Nat.le_trans (Nat.le_add_right _ _) hz) (Nat.le_succ_of_le hz)) ⟨g, g', rv is_none (seq_upd (fun x => x ++ ds) S e g ?_) q.2⟩
  rw [Array.toList_append]; exact r.append r'
theorem call_pop : CallOk C false BOp.pop.p (.builtin "list.pop") := fun {P f ρ σ s A E Q vs cvs} S _ h hv => by
  apply oneE h hv
  intro x u hx h
  apply refE h hx
  intro a h
  refine ownE S h fun xs cs n e g r h => okE h fun v hl q => ?_
  have l : xs.length = cs.size := r.length
  rw [List.getLast?_eq_getElem?] at hl
  obtain ⟨y, hy, hvy⟩ := r.get hl
  rw [l, Array.getElem?_toList] at hy
  refine call_meets F.slot_list_pop ⟨_, g, rfl⟩ F.entry_list_pop (F.args_list_pop_1 _) (MeetsSeq.list_pop_last a cs n y hy (l ▸ tooLong_lt q.1)) ⟨g, rv hvy (seq_upd (fun xs => xs.eraseIdxIfInBounds (cs.size - 1)) S e g ?_) q.2⟩
  rw [Array.toList_eraseIdxIfInBounds, List.eraseIdx_eq_take_drop_succ, List.drop_of_length_le (by rw [Array.length_toList]; omega), List.append_nil, List.dropLast_eq_take, l]
  exact r.take _
theorem bm_extend : BmOk C .extend "extend" "list.extend" := ⟨F.plainAttrs_list, F.slot_list_extend, F.type_list_extend, call_extend⟩
theorem bm_pop : BmOk C .pop "pop" "list.pop" := ⟨F.plainAttrs_list, F.slot_list_pop, F.type_list_pop, call_pop⟩
/-- isinstance, of several types -/
inductive GlTs (tc : Tc) : List Expr → List String → Prop where
  | nil : GlTs tc [] []
  | cons {y p t es ts} : Gl tc y (.typ t) → AnsT t → GlTs tc es ts → GlTs tc (.Name y p :: es) (t :: ts)
theorem GlTs.ans {es : List Expr} {ts : List String} (h : GlTs tc es ts) : ∀ t ∈ ts, AnsT t := by
  induction h with
  | nil => nofun
  | cons _ T _ ih => intro t ht; rcases List.mem_cons.mp ht with q | q
                     · exact q ▸ T
                     · exact ih t q
theorem GlTs.load {es : List Expr} {ts : List String} {pos : Pos} {E : Value → Shared → Prop} {Q : List Value → Shared → Prop} (hg : GOk C tc.g) (H : Fr tc f A d) (h : GlTs tc es ts) : ∀ {s : Shared}, St C P f ρ σ s → (∀ s', St C P f ρ σ s' → Q (ts.map .type) s') → wpAny (model C.prog C.w) A (spliced (backTo pos (starEach es f.env))) Q E s := by
  induction h generalizing Q with
  | nil => intro s S q; exact Calls.spliced_nil (q s S)
  | cons G _ _ ih => intro s S q; rw [backTo_cons rfl]; exact Calls.spliced_cons (ld_glob hg H G S fun v hv => by cases hv; exact ih S fun s' S' => q s' S')
theorem se_isinstT {x : Str} {p tp pos : Pos} {k : Nat} {ts : List String} {e : Expr} {es : List Expr} {pe : PE} (hg : GOk C tc.g) (G : Gl tc x (.bi "isinstance")) (G' : GlTs tc es ts) (hl : ts.length < 30) (hn : notStar e = true) (he : SE C K tc e pe) : SE C K tc (.Call (.Name x p) [e, .Tuple es k tp] [] pos) (.prim (.isinst ts) [pe]) := fun {P f d ρ σ s A Q X} H S w => by
  refine wpAny_Call_NameR (ld_glob hg H G S fun v hv => ?_)
  cases hv
  have hn2 : [e, Expr.Tuple es k tp].all notStar = true := by rw [List.all_cons, hn]; rfl
  refine Calls.callWith_builtin (star_any hn2) (args_of hn2 ?_)
  rw [backTo_cons hn, backTo_cons rfl]
  refine Calls.spliced_cons (fitv (he H S w) fun v s₁ av σ₁ hv S₁ q => Calls.spliced_cons (wpAny_Tuple_spliced (G'.load hg H S₁ fun s₂ S₂ => ⟨?_, ?_⟩)))
  · rw [List.length_map]; exact Nat.le_trans (Nat.le_of_lt hl) (by decide)
  · have S₃ : St C P f ρ σ₁ { s₂ with heap := s₂.heap.push { cls := .type "tuple", data := .seq (ts.map Value.type).toArray } } := S₂.keeps fun b o e => Heap.get?_push_of_some _ e
    exact Calls.spliced_nil (okE q fun k hk q => IsiPair.tupleOf (ans_all S₃ hv hk G'.ans) (kind_is S₃ hv hk) (Heap.get?_push_size _ rfl) fun tk => by rw [isOf_any]; exact rv is_bool (S₃.tok _) q)
/-- a dict of fixed keys -/
noncomputable def KeyC (e : Option Expr) (k : Txt) : Prop := ∃ n p, e = some (.Constant (.str (toS k)) n p)
theorem pairs_e {keys : List (Option Expr)} {ks : List Txt} {pos : Pos} (H : Fr tc f A d) (hk : All2 KeyC keys ks) : ∀ {values : List Expr} {pes : List PE} {Qs : List AV → Hp → Prop} {Q' : List (Value × Value) → Shared → Prop} {s : Shared} {σ : Hp}, All2 (SE C K tc) values pes → keys.length = values.length → St C P f ρ σ s → pEs K tc.hd d pes ρ σ Qs X →
    (∀ vs s₁ avs σ₁ kvs, Carries (strKind C.prog C.w) vs kvs → avs.length = ks.length → All2 Ent (ks.zip avs) kvs → St C P f ρ σ₁ s₁ → Qs avs σ₁ → Q' vs s₁) → wpAny (model C.prog C.w) A (evalPairs (pairTrees keys values f.env pos)) Q' (RX C P f ρ X) s := by
  induction hk with
  | nil =>
    intro values pes Qs Q' s σ hv hl S w q
    cases hv with
    | nil => exact pairTrees_nil_walk (q [] s [] σ [] trivial rfl .nil S w)
    | cons _ _ => cases hl
  | @cons ke k keys ks hk _ ih =>
    intro values pes Qs Q' s σ hv hl S w q
    cases hv with
    | nil => cases hl
    | cons he hr =>
      obtain ⟨n, p, rfl⟩ := hk
      refine pairTrees_cons_walk (wpAny_Constant_str ?_)
      refine fitv (he H (S.tok _) w) fun vv s₂ av σ₂ hvv S₂ q₂ => ih hr (Nat.succ.inj hl) S₂ q₂ fun vs s₃ avs σ₃ kvs h1 h2 h3 S₃ q₃ => ?_
      exact q _ _ (av :: avs) σ₃ ((toS k, vv) :: kvs) ⟨strKind_is C.prog C.w (toS k) _, rfl, h1⟩ (congrArg Nat.succ h2) (.cons ⟨rfl, hvv⟩ h3) S₃ q₃
theorem ent_keys {ks : List Txt} : ∀ {avs : List AV} {kvs : List (Str × Value)}, avs.length = ks.length → All2 Ent (ks.zip avs) kvs → kvs.map (·.1) = ks.map toS := by
  induction ks with
  | nil => intro avs kvs _ h; cases h; rfl
  | cons k ks ih =>
    intro avs kvs hl h
    cases avs with
    | nil => cases hl
    | cons v avs => cases h with
      | cons e r => rw [List.map_cons, List.map_cons, ih (Nat.succ.inj hl) r, e.1]
theorem se_dict {keys : List (Option Expr)} {ks : List Txt} {values : List Expr} {pes : List PE} {pos : Pos} (hC : C.Ok) (hk : All2 KeyC keys ks) (hv : All2 (SE C K tc) values pes) (hl : keys.length = values.length) (hn : ks.Nodup) (h0 : keys ≠ []) (h15 : keys.length ≤ 15) :
    SE C K tc (.Dict keys values pos) (.dict ks pes) := fun {P f d ρ σ s A Q X} H S w => by
  have hall : keys.all (·.isSome) = true := by
    clear h0 h15 hl w
    induction hk with
    | nil => rfl
    | cons h _ ih => obtain ⟨n, p, rfl⟩ := h; rw [List.all_cons, ih (List.nodup_cons.mp hn).2]; rfl
  refine wpAny_Dict_walk (knd := strKind C.prog C.w) hall hl h0 h15 ?_
  have S₀ := S.new (s' := { s with heap := s.heap.push { cls := .type "dict", data := .dict #[] } }) (a := s.heap.objs.size) (o := .dict []) (fun _ _ e => Heap.get?_push_of_some _ e) (fresh_size _)
    ⟨_, Heap.get?_push_size _ rfl, ⟨[], .nil, fun _ _ e => ⟨_, #[], 0, e, ⟨rfl, rfl, rfl⟩, rfl, (fun _ h => absurd h (by simp)), .nil, .nil⟩⟩, S.notSys hC (Nat.le_refl _)⟩
  refine pairs_e H hk hv hl S₀ (w _ (S.newNone (fresh_size _))) fun vs s₁ avs σ₁ kvs h1 h2 h3 S₁ q => ⟨kvs, h1, ?_, fun h' hd hs => ?_⟩
  · obtain ⟨ob, g, ⟨kv0, r, D⟩, _⟩ := S₁.rel _ _ q.1.2
    cases r; exact D _ _ g
  · rw [merged_nil_of_nodup kvs (by rw [ent_keys h2 h3]; exact List.Pairwise.map toS (fun a b h e => h (toS_inj e)) hn)] at hd
    obtain ⟨o, es', ep, e1, e2⟩ := id hd
    refine rv (av := .ref _) rfl (S₁.upd (s' := { s₁ with heap := h', toks := s₁.toks + vs.length }) (o' := .dict (ks.zip avs)) q.1.2 rfl (fun c d => nofun) (fun b o hb e => (hs.2 b hb).trans e) ⟨o, e1, ⟨kvs, h3, fun _ _ e => ⟨o, es', ep, e, e2⟩⟩, S.notSys hC (Nat.le_refl _)⟩) q.2
end
end U
namespace U
open PySem PyProof.Rows
/-- where a name stands -/
noncomputable def tnOf (tc : Tc) (x : Str) : Option Nat := match tc.names.findIdx? (· == x) with
  | some i => if !(tc.names.drop (i + 1)).contains x && (tc.kinds.lookup x == some .local || tc.kinds.lookup x == some .cell) then some i else none
  | none => none
theorem tnOf_ok {tc : Tc} {x : Str} {i : Nat} (h : tnOf tc x = some i) : Tn tc x i := by
  unfold tnOf at h
  split at h
  · rename_i j hj
    split at h
    · rename_i hc
      cases h
      rw [Bool.and_eq_true, Bool.or_eq_true, beq_iff_eq, beq_iff_eq] at hc
      obtain ⟨h1, h2⟩ := hc
      rw [List.findIdx?_eq_some_iff_getElem] at hj
      obtain ⟨hlt, hj1, hj2⟩ := hj
      refine ⟨by rw [List.getElem?_eq_getElem hlt, beq_iff_eq.mp hj1], fun k hk => ?_, h2⟩
      rcases Nat.lt_trichotomy k i with q | q | q
      · have := hj2 k q
        rw [List.getElem?_eq_getElem (Nat.lt_trans q hlt)] at hk
        rw [Option.some.inj hk] at this
        simp at this
      · exact q
      · have : x ∈ tc.names.drop (i + 1) := List.mem_iff_getElem?.mpr ⟨k - (i + 1), by rw [List.getElem?_drop, Nat.add_sub_cancel' q]; exact hk⟩
        simp [this] at h1
    · cases h
  · cases h
noncomputable def nodupB : List Str → Bool
  | [] => true
  | x :: r => !r.contains x && nodupB r
theorem nodupB_ok : ∀ {l : List Str}, nodupB l = true → l.Nodup
  | [], _ => .nil
  | x :: r, h => by
    unfold nodupB at h
    rw [Bool.and_eq_true] at h
    refine List.nodup_cons.mpr ⟨fun q => ?_, nodupB_ok h.2⟩
    have := h.1; simp [q] at this
noncomputable def isFree (scope : Scope) (x : Str) : Bool := scope.names.any fun p => p.1 == x && p.2 == .free
theorem isFree_iff {scope : Scope} {x : Str} : isFree scope x = true ↔ (x, NameKind.free) ∈ scope.names := by
  unfold isFree
  rw [List.any_eq_true]
  constructor
  · rintro ⟨⟨y, k⟩, hm, h⟩
    simp only [Bool.and_eq_true, beq_iff_eq] at h
    rw [← h.1, ← h.2]; exact hm
  · exact fun h => ⟨_, h, by simp⟩
noncomputable def compCap (tc : Tc) (scope : Scope) : List Bool := tc.names.map fun x => isFree scope x
noncomputable def compChk (tc : Tc) (scope : Scope) : Bool := scope.kind == .function && scope.names.all (fun p => !(p.2 == .cell)) && scope.names.all (fun p => !(p.2 == .free) || (tc.kinds.lookup p.1 == some .cell && (compKinds tc.kinds scope.names).lookup p.1 == some .cell)) &&
  scope.names.all (fun p => !(p.2 == .local) || scope.names.lookup p.1 == some .local)
theorem compChk_ok {tc : Tc} {scope : Scope} (h : compChk tc scope = true) : CompOk tc scope (compCap tc scope) := by
  unfold compChk at h
  simp only [Bool.and_eq_true, beq_iff_eq, List.all_eq_true, Bool.or_eq_true, Bool.not_eq_true', beq_eq_false_iff_ne] at h
  obtain ⟨⟨⟨h1, h2⟩, h3⟩, h5⟩ := h
  have cap : ∀ (i : Nat) x, tc.names[i]? = some x → (compCap tc scope)[i]? = some (isFree scope x) := fun i x hx => by unfold compCap; rw [List.getElem?_map, hx]; rfl
  refine ⟨h1, fun y hy => h2 y hy, fun x hx => ?_, fun x hx hl => ?_, fun i x hx => ?_, List.length_map _, fun i x hx hc => ?_⟩
  · exact ((h3 _ hx).resolve_left fun q => q rfl).1
  · exact (h5 _ hx).resolve_left fun q => q hl
  · rw [cap i x hx, Option.some.injEq]; exact isFree_iff
  · rw [cap i x hx, Option.some.injEq] at hc
    exact ((h3 _ (isFree_iff.mp hc)).resolve_left fun q => q rfl).2
section
variable {C : Cx} {K : Kx} {g : List (Str × GK)} (X : Env' C K g) {tc : Tc} (hg : tc.g = g)
/-- a tree and its rule -/
abbrev CE (C : Cx) (K : Kx) (tc : Tc) (e : Expr) := Option { pe : PE // Both C K tc e pe }
abbrev CEs (C : Cx) (K : Kx) (tc : Tc) (es : List Expr) := Option { pes : List PE // SEs C K tc es pes }
noncomputable def glOf (tc : Tc) (x : Str) : Option { k : GK // Gl tc x k } := match h : tc.g.lookup x with
  | some k => if h2 : (tc.kinds.lookup x == some .globalImplicit && !(x == ("__debug__" : Str))) = true then some ⟨k, by
      rw [Bool.and_eq_true, beq_iff_eq, Bool.not_eq_true'] at h2; exact ⟨h2.1, h, h2.2⟩⟩ else none
  | none => none
noncomputable def trConst (c : Const) (k : Nat) (p : Pos) : CE C K tc (.Constant c k p) := match c with
  | .int i => some ⟨.lit (.int i), plain se_int fun _ _ => rfl⟩
  | .str x => some ⟨.lit (.str x.cps.toList), plain se_str fun _ _ => rfl⟩
  | .bool b => some ⟨.lit (.bool b), plain se_bool fun _ _ => rfl⟩
  | .none => some ⟨.lit .none, plain se_none fun _ _ => rfl⟩
  | _ => none
include X hg in
theorem gok : GOk C tc.g := hg ▸ X.g
noncomputable def trLoc (x : Str) (p : Pos) : CE C K tc (.Name x p) := match h : tc.names.findIdx? (· == x) with
  | some i => if h2 : (x == ("__debug__" : Str)) = false then some ⟨.loc i, plain (se_loc (by
      obtain ⟨hlt, hi, _⟩ := List.findIdx?_eq_some_iff_getElem.mp h
      rw [List.getElem?_eq_getElem hlt, beq_iff_eq.mp hi]) h2) fun _ _ => rfl⟩ else none
  | none => none
noncomputable def trName (x : Str) (p : Pos) : CE C K tc (.Name x p) := match glOf tc x with
  | some ⟨.val v, G⟩ => some ⟨.lit v, plain (se_glob (gok X hg) G) fun _ _ => rfl⟩
  | some _ => none
  | none => trLoc x p
noncomputable def opB (b : Operator) : Option { o : Op // BinOk C o b } := match b with
  | .Add => some ⟨.add, bin_add⟩
  | .Sub => some ⟨.sub, bin_sub⟩
  | .Mult => some ⟨.mul, bin_mul⟩
  | .FloorDiv => some ⟨.fdiv, bin_fdiv⟩
  | .Mod => some ⟨.mod, bin_mod⟩
  | _ => none
noncomputable def opC (b : CmpOp) : { o : Op // CmpOk C o b } := match b with
  | .Eq => ⟨.eq, cmp_eq⟩
  | .NotEq => ⟨.ne, cmp_ne⟩
  | .Lt => ⟨.lt, cmp_lt⟩
  | .LtE => ⟨.le, cmp_le⟩
  | .Gt => ⟨.gt, cmp_gt⟩
  | .GtE => ⟨.ge, cmp_ge⟩
  | .Is => ⟨.is, cmp_is⟩
  | .IsNot => ⟨.isnot, cmp_isnot⟩
  | .In => ⟨.isin, cmp_in⟩
  | .NotIn => ⟨.notin, cmp_notin⟩
noncomputable def powOk (a b : Int) : Bool := decide (2 ≤ a) && decide (1 ≤ b) && !Builtin.Int.intTooBig (((Builtin.Int.intBits a : Nat) : Int) * b)
theorem pow_both {a b : Int} {k k' : Nat} {p p' pos : Pos} (h : powOk a b = true) : Both C K tc (.BinOp (.Constant (.int a) k p) .Pow (.Constant (.int b) k' p') pos) (.lit (.int (a ^ b.toNat))) := by
  unfold powOk at h
  simp only [Bool.and_eq_true, decide_eq_true_eq, Bool.not_eq_true'] at h
  exact plain (se_pow h.1.1 h.1.2 (by rw [h.2]; exact Bool.false_ne_true)) fun _ _ => rfl
noncomputable def trPow (l : Expr) (op : Operator) (r : Expr) (p : Pos) : CE C K tc (.BinOp l op r p) := match l, op, r with
  | .Constant (.int a) _ _, .Pow, .Constant (.int b) _ _ => if h : powOk a b = true then some ⟨.lit (.int (a ^ b.toNat)), pow_both h⟩ else none
  | _, _, _ => none
variable (F : (e : Expr) → CE C K tc e)
noncomputable def trEs : (es : List Expr) → CEs C K tc es
  | [] => some ⟨[], ses_nil⟩
  | e :: es => if h : notStar e = true then (F e).bind fun a => (trEs es).bind fun as => some ⟨a.1 :: as.1, ses_cons a.2.1 h as.2⟩ else none
noncomputable def trBin (l : Expr) (op : Operator) (r : Expr) (p : Pos) : CE C K tc (.BinOp l op r p) := match opB (C := C) op with
  | some o => (F l).bind fun a => (F r).bind fun b => some ⟨.prim o.1 [a.1, b.1], plain (se_bin a.2.1 b.2.1 o.2) fun _ _ => rfl⟩
  | none => trPow l op r p
noncomputable def trUn (op : UnaryOp) (x : Expr) (p : Pos) : CE C K tc (.UnaryOp op x p) := match op with
  | .Not => (F x).bind fun a => some ⟨.prim .not [a.1], se_not a.2.1, st_not a.2.2⟩
  | .USub => (F x).bind fun a => some ⟨.prim .neg [a.1], plain (se_neg a.2.1) fun _ _ => rfl⟩
  | _ => none
noncomputable def trBool (op : BoolOp) (p : Pos) : (es : List Expr) → CE C K tc (.BoolOp op es p)
  | [] => none
  | [x] => (F x).bind fun a => some ⟨a.1, se_one a.2.1, st_one a.2.2⟩
  | x :: y :: r => (F x).bind fun a => (trBool op p (y :: r)).bind fun b => match op, b with
    | .And, b => some ⟨.and a.1 b.1, se_and a.2.1 b.2.1, st_and a.2.2 b.2.2⟩
    | .Or, b => some ⟨.or a.1 b.1, se_or a.2.1 b.2.1, st_or a.2.2 b.2.2⟩
noncomputable def trCmp (l : Expr) (os : List CmpOp) (rs : List Expr) (p : Pos) : CE C K tc (.Compare l os rs p) := match os, rs with
  | [o], [r] => if h : behindInMarks o r = false then (F l).bind fun a => (F r).bind fun b => some ⟨.prim (opC (C := C) o).1 [a.1, b.1], se_cmp a.2.1 b.2.1 (opC o).2 h, st_cmp a.2.1 b.2.1 (opC o).2 h⟩ else none
  | [o, o'], [r, r'] => if h : lastMarks [o, o'] [r, r'] = false then (F l).bind fun a => (F r).bind fun b => (F r').bind fun c => some ⟨.cmp2 (opC (C := C) o).1 (opC (C := C) o').1 a.1 b.1 c.1, se_cmp2 a.2.1 b.2.1 c.2.1 (opC o).2 (opC o').2 h, st_cmp2 a.2.1 b.2.1 c.2.1 (opC o).2 (opC o').2 h⟩ else none
  | _, _ => none
noncomputable def isiOf (t : String) : Option (PLift (AnsT t)) :=
  if h : t = "str" then some ⟨h ▸ ans_str⟩ else if h : t = "int" then some ⟨h ▸ ans_int⟩ else if h : t = "bool" then some ⟨h ▸ ans_bool⟩ else if h : t = "tuple" then some ⟨h ▸ ans_tuple⟩ else if h : t = "list" then some ⟨h ▸ ans_list⟩ else if h : t = "dict" then some ⟨h ▸ ans_dict⟩ else none
noncomputable def trTs (tc : Tc) : (es : List Expr) → Option { ts : List String // GlTs tc es ts }
  | [] => some ⟨[], .nil⟩
  | .Name y _ :: r => (match glOf tc y with
    | some ⟨.typ t, G⟩ => (isiOf t).bind fun h => (trTs tc r).bind fun ts => some ⟨t :: ts.1, .cons G h.down ts.2⟩
    | _ => none)
  | _ => none
noncomputable def trIsi {x : Str} {p pos : Pos} (G : Gl tc x (.bi "isinstance")) (es : List Expr) : CE C K tc (.Call (.Name x p) es [] pos) := match es with
  | [e, .Name y _] => (match glOf tc y with
    | some ⟨.typ t, G'⟩ => (isiOf t).bind fun h => if hn : notStar e = true then (F e).bind fun a => some ⟨.prim (.isinst [t]) [a.1], plain (se_isinst (gok X hg) G G' h.down hn a.2.1) fun _ _ => rfl⟩ else none
    | _ => none)
  | [e, .Tuple es _ _] => if hn : notStar e = true then (trTs tc es).bind fun ts => if hl : ts.1.length < 30 then (F e).bind fun a => some ⟨.prim (.isinst ts.1) [a.1], plain (se_isinstT (gok X hg) G ts.2 hl hn a.2.1) fun _ _ => rfl⟩ else none else none
  | _ => none
structure Bi (C : Cx) (c : Value) where
  nh : Bool
  op : Op
  ok : CallOk C nh op c
noncomputable def biOf (id : String) : Option (Bi C (.builtin id)) :=
  if h : id = "len" then some ⟨false, .len, h ▸ call_len⟩ else if h : id = "min" then some ⟨true, .min, h ▸ call_min⟩ else if h : id = "max" then some ⟨true, .max, h ▸ call_max⟩ else if h : id = "all" then some ⟨true, .all, h ▸ call_all⟩ else none
noncomputable def tyOf (hC : C.Ok) (id : String) : Option (Bi C (.type id)) :=
  if h : id = "int" then some ⟨false, .toInt, h ▸ call_toInt⟩ else if h : id = "str" then some ⟨false, .toStr, h ▸ call_toStr⟩ else if h : id = "dict" then some ⟨false, .toDict, h ▸ call_toDict hC⟩ else none
theorem hd_ok {nh hd : Bool} (h : (!nh || !hd) = true) : nh = true → hd = false := by
  intro e; subst e; cases hd
  · rfl
  · exact absurd h (by decide)
variable (ms : List (Str × String))
noncomputable def trCallG {x : Str} {k : GK} {p pos : Pos} (G : Gl tc x k) (es : List Expr) : CE C K tc (.Call (.Name x p) es [] pos) := match k, G with
  | .bi id, G => if h : id = "isinstance" then trIsi X hg F (h ▸ G) es else (biOf (C := C) id).bind fun b => if h : (!b.nh || !tc.hd) = true then (trEs F es).bind fun as => some ⟨.prim b.op as.1, plain (se_bi (gok X hg) G b.ok (hd_ok h) as.2) fun _ _ => rfl⟩ else none
  | .typ id, G => (tyOf (C := C) X.c id).bind fun b => if h : (!b.nh || !tc.hd) = true then (trEs F es).bind fun as => some ⟨.prim b.op as.1, plain (se_ty (gok X hg) G b.ok (hd_ok h) as.2) fun _ _ => rfl⟩ else none
  | .fn f, G => (trEs F es).bind fun as => some ⟨.fn f as.1, plain (se_fn X hg G as.2) fun _ _ => rfl⟩
  | .cls c, G => (ms.lookup x).bind fun fnm => (trEs F es).bind fun as => some ⟨.new c fnm as.1, plain (se_new X.k (gok X hg) G as.2) fun _ _ => rfl⟩
  | _, _ => none
structure Bm (C : Cx) (n : Str) where
  op : BOp
  id : String
  ok : BmOk C op n id
noncomputable def bmOf (n : Str) : Option (Bm C n) :=
  if h : n = "append" then some ⟨_, _, h ▸ bm_append⟩ else if h : n = "get" then some ⟨_, _, h ▸ bm_get⟩ else if h : n = "join" then some ⟨_, _, h ▸ bm_join⟩ else if h : n = "index" then some ⟨_, _, h ▸ bm_index⟩ else if h : n = "extend" then some ⟨_, _, h ▸ bm_extend⟩ else if h : n = "pop" then some ⟨_, _, h ▸ bm_pop⟩ else none
theorem bm_chk {o : Expr} {a b : Pos} {es : List Expr} (h : (baseOk o && (a.endLine == b.line) && decide (es.length < 30)) = true) : baseOk o = true ∧ (a.endLine == b.line) = true ∧ es.length < 30 := by
  simp only [Bool.and_eq_true, decide_eq_true_eq] at h; exact ⟨h.1.1, h.1.2, h.2⟩
noncomputable def trMeth (o : Expr) (name : Str) (apos : Pos) (es : List Expr) (pos : Pos) : CE C K tc (.Call (.Attribute o name apos) es [] pos) :=
  if h : (baseOk o && (apos.endLine == pos.line) && decide (es.length < 30)) = true then (F o).bind fun a => (trEs F es).bind fun as => match bmOf (C := C) name with
    | some b => some ⟨.bm b.op a.1 as.1, plain (se_bm b.ok (bm_chk h).1 (bm_chk h).2.1 (bm_chk h).2.2 a.2.1 as.2) fun _ _ => rfl⟩
    | none => (ms.lookup name).bind fun fnm => some ⟨.meth name.cps.toList fnm a.1 as.1, plain (se_meth (m := name.cps.toList) X.k (bm_chk h).1 (bm_chk h).2.1 (bm_chk h).2.2 a.2.1 as.2) fun _ _ => rfl⟩ else none
noncomputable def trCall (f : Expr) (es : List Expr) (pos : Pos) : CE C K tc (.Call f es [] pos) := match f with
  | .Name x _ => (glOf tc x).bind fun k => trCallG X hg F ms k.2 es
  | .Attribute o name apos => trMeth X F ms o name apos es pos
  | _ => none
noncomputable def trKs : (ks : List (Option Expr)) → Option { ts : List Txt // All2 KeyC ks ts }
  | [] => some ⟨[], .nil⟩
  | some (.Constant (.str x) n p) :: r => (trKs r).bind fun ts => some ⟨x.cps.toList :: ts.1, .cons ⟨n, p, rfl⟩ ts.2⟩
  | _ => none
noncomputable def trVs : (es : List Expr) → Option { pes : List PE // All2 (SE C K tc) es pes }
  | [] => some ⟨[], .nil⟩
  | e :: r => (F e).bind fun a => (trVs r).bind fun as => some ⟨a.1 :: as.1, .cons a.2.1 as.2⟩
noncomputable def trDict (ks : List (Option Expr)) (es : List Expr) (p : Pos) : CE C K tc (.Dict ks es p) := (trKs ks).bind fun ts => (trVs F es).bind fun as => if h : ks.length = es.length ∧ ts.1.Nodup ∧ 0 < ks.length ∧ ks.length ≤ 15 then
    some ⟨.dict ts.1 as.1, plain (se_dict X.c ts.2 as.2 h.1 h.2.1 (List.ne_nil_of_length_pos h.2.2.1) h.2.2.2) fun _ _ => rfl⟩ else none
noncomputable def trP (e : Option Expr) : Option { pe : PE // SP C K tc e pe } := match e with
  | none => some ⟨.lit .none, rfl⟩
  | some e => (F e).bind fun a => some ⟨a.1, a.2.1⟩
noncomputable def trSub (x y : Expr) (p : Pos) : CE C K tc (.Subscript x y p) := match y with
  | .Slice l h t _ => (F x).bind fun a => (trP F l).bind fun l => (trP F h).bind fun h => (trP F t).bind fun t => some ⟨.prim .slice [a.1, l.1, h.1, t.1], plain (se_slice a.2.1 l.2 h.2 t.2) fun _ _ => rfl⟩
  | y => if h : noSlice y = true then (F x).bind fun a => (F y).bind fun b => some ⟨.prim .item [a.1, b.1], plain (se_item a.2.1 b.2.1 h) fun _ _ => rfl⟩ else none
noncomputable def trI (e : Expr) : Option { pi : PI // SI C K tc e pi } := if hd : tc.hd = false then
    match e with
    | .Call (.Name x p) es [] pos => (match glOf tc x with
      | some ⟨.typ t, G⟩ => if h : t = "range" then (trEs F es).bind fun as => some ⟨.range as.1, si_range (gok X hg) (h ▸ G) hd as.2⟩ else none
      | _ => (F (.Call (.Name x p) es [] pos)).bind fun a => some ⟨.val a.1, si_val hd a.2.1⟩)
    | e => (F e).bind fun a => some ⟨.val a.1, si_val hd a.2.1⟩
  else none
noncomputable def trC (e : List Expr) : Option { pc : Option PE // SC C K tc e pc } := match e with
  | [] => some ⟨none, trivial⟩
  | [c] => (F c).bind fun a => some ⟨some a.1, a.2.2⟩
  | _ => none
/-- a comprehension's parts -/
structure Cm (C : Cx) (K : Kx) (tc : Tc) (elt : Expr) (x : Str) (it : Expr) (ifs : List Expr) (sc : Scope) where
  i : Nat
  pi : PI
  pc : Option PE
  pe : PE
  ok : CompOk tc sc (compCap tc sc)
  tn : Tn (compTc tc sc (compCap tc sc) [x]) x i
  hi : i = tc.names.length
  ns : notSet it = true
  si : SI C K tc it pi
  se : SE C K (compTc tc sc (compCap tc sc) [x]) elt pe
  sc : SC C K (compTc tc sc (compCap tc sc) [x]) ifs pc
variable (G : (tc' : Tc) → tc'.g = g → (e : Expr) → CE C K tc' e)
noncomputable def trComp (elt : Expr) (x : Str) (it : Expr) (ifs : List Expr) (sc : Scope) : Option (Cm C K tc elt x it ifs sc) :=
  if h : compChk tc sc = true then if hn : notSet it = true then match ht : tnOf (compTc tc sc (compCap tc sc) [x]) x with
    | some i => if hi : i = tc.names.length then (trI X hg F it).bind fun pi => (G (compTc tc sc (compCap tc sc) [x]) hg elt).bind fun pe => (trC (G (compTc tc sc (compCap tc sc) [x]) hg) ifs).bind fun pc =>
        some ⟨i, pi.1, pc.1, pe.1, compChk_ok h, tnOf_ok ht, hi, hn, pi.2, pe.2.1, pc.2⟩ else none
    | none => none
  else none else none
noncomputable def Cm.e {elt : Expr} {x : Str} {it : Expr} {ifs : List Expr} {sc : Scope} (m : Cm C K tc elt x it ifs sc) : PE := .comp (compCap tc sc) [m.i] m.pi m.pc m.pe
noncomputable def trX (e : Expr) : CE C K tc e := match e with
  | .Constant c k p => trConst c k p
  | .Name x p => trName X hg x p
  | .BinOp l op r p => trBin F l op r p
  | .UnaryOp op x p => trUn F op x p
  | .BoolOp op es p => trBool F op p es
  | .IfExp c x y _ => (F c).bind fun c => (F x).bind fun a => (F y).bind fun b => some ⟨.ite c.1 a.1 b.1, se_ite c.2.2 a.2.1 b.2.1, st_ite c.2.2 a.2.2 b.2.2⟩
  | .Compare l os rs p => trCmp F l os rs p
  | .Call f es [] pos => trCall X hg F ms f es pos
  | .List es _ => (trEs F es).bind fun as => some ⟨.prim .mkList as.1, plain (se_list as.2) fun _ _ => rfl⟩
  | .Tuple es _ _ => (trEs F es).bind fun as => some ⟨.prim .mkTup as.1, plain (se_tup as.2) fun _ _ => rfl⟩
  | .Dict [] [] _ => some ⟨.prim .mkDict0 [], plain (se_dict0 X.c) fun _ _ => rfl⟩
  | .Dict ks es p => trDict X F ks es p
  | .Subscript x y p => trSub F x y p
  | .Attribute o n _ => if h : baseOk o = true then (F o).bind fun a => some ⟨.attr n.cps.toList a.1, plain (se_attr (n := n.cps.toList) X.k a.2.1 h) fun _ _ => rfl⟩ else none
  | .ListComp elt [⟨.Name x _, it, ifs, 0⟩] sc _ => (trComp X hg F G elt x it ifs sc).bind fun m => some ⟨m.e, plain (se_comp m.ok m.tn m.hi m.ns m.si m.se m.sc) fun _ _ => rfl⟩
  | _ => none
end
noncomputable def trE {C : Cx} {K : Kx} {g : List (Str × GK)} (X : Env' C K g) (ms : List (Str × String)) : Nat → (tc : Tc) → tc.g = g → (e : Expr) → CE C K tc e
  | 0, _, _, _ => none
  | n + 1, tc, h, e => trX X h (trE X ms n tc h) ms (trE X ms n) e
section
variable {C : Cx} {K : Kx} {g : List (Str × GK)} (X : Env' C K g) {tc : Tc} (hg : tc.g = g)
abbrev CS (C : Cx) (K : Kx) (tc : Tc) (st : Stmt) := Option { ps : PS // SS C K tc st ps }
abbrev CSs (C : Cx) (K : Kx) (tc : Tc) (sts : List Stmt) := Option { pss : List PS // SSs C K tc sts pss }
noncomputable def trSs (F : (st : Stmt) → CS C K tc st) : (sts : List Stmt) → CSs C K tc sts
  | [] => some ⟨[], sss_nil⟩
  | st :: sts => (F st).bind fun a => (trSs F sts).bind fun as => some ⟨a.1 :: as.1, sss_cons a.2 as.2⟩
noncomputable def tn (tc : Tc) (x : Str) : Option { i : Nat // Tn tc x i } := match h : tnOf tc x with
  | some i => some ⟨i, tnOf_ok h⟩
  | none => none
variable (E : (tc : Tc) → tc.g = g → (e : Expr) → CE C K tc e)
noncomputable def trName' (y : Str) (py : Pos) (e : Expr) (p : Pos) : CS C K tc (.Assign [.Name y py] e p) := (tn tc y).bind fun j => match e with
  | .ListComp elt [⟨.Name x _, it, ifs, 0⟩] sc _ => (trComp X hg (E tc hg) E elt x it ifs sc).bind fun m => some ⟨.assign (.name j.1) m.e, ss_comp m.ok m.tn m.hi m.ns m.si m.se m.sc j.2⟩
  | e => if h : notComp e = true then (E tc hg e).bind fun a => some ⟨.assign (.name j.1) a.1, ss_name j.2 a.2.1 h⟩ else none
noncomputable def trAss (t e : Expr) (p : Pos) : CS C K tc (.Assign [t] e p) := match t with
  | .Name y py => trName' X hg E y py e p
  | .Subscript o i _ => if h : notComp e = true then (E tc hg e).bind fun a => (E tc hg o).bind fun o => (E tc hg i).bind fun i => some ⟨.assign (.item o.1 i.1) a.1, ss_item a.2.1 o.2.1 i.2.1 h⟩ else none
  | .Attribute o n _ => if h : notComp e = true then (E tc hg e).bind fun a => (E tc hg o).bind fun o => some ⟨.assign (.attr o.1 n.cps.toList) a.1, ss_attr (n := n.cps.toList) X.k a.2.1 o.2.1 h⟩ else none
  | .Tuple [.Name x _, .Name y _] _ _ => if h : notComp e = true ∧ notTup e = true ∧ tc.hd = false then (tn tc x).bind fun i => (tn tc y).bind fun j => (E tc hg e).bind fun a => some ⟨.assign (.tup [i.1, j.1]) a.1, ss_tup2 h.2.2 i.2 j.2 a.2.1 h.1 h.2.1⟩ else none
  | _ => none
noncomputable def trRaise (e : Expr) (p : Pos) : CS C K tc (.Raise (some e) none p) := match e with
  | .Call (.Name x _) es [] _ => (match glOf tc x with
    | some ⟨.cls c, G⟩ => if h : tc.hd = false then (trEs (E tc hg) es).bind fun as => some ⟨.raise c as.1, ss_raise X.k (gok X hg) h G as.2⟩ else none
    | _ => none)
  | _ => none
variable (F : (tc : Tc) → tc.g = g → (st : Stmt) → CS C K tc st)
noncomputable def trTry (x : Str) (np hp p : Pos) (body : List Stmt) (b : Stmt) (hs : List Stmt) : CS C K tc (.Try body [.ExceptHandler (some (.Name x np)) none (b :: hs) hp] [] [] p) := match glOf tc x with
  | some ⟨.cls c, G⟩ => if h : tc.hd = false then (trSs (F tc hg) body).bind fun pb => (trSs (F tc.on hg) (b :: hs)).bind fun ph => some ⟨.try pb.1 c ph.1, ss_try X.k (gok X hg) h G pb.2 ph.2⟩ else none
  | _ => none
noncomputable def trT (st : Stmt) : CS C K tc st := match st with
  | .Return (some e) _ => (E tc hg e).bind fun a => some ⟨.ret a.1, ss_ret a.2.1⟩
  | .Expr e _ => if h : notComp e = true then (E tc hg e).bind fun a => some ⟨.expr a.1, ss_expr a.2.1 h⟩ else none
  | .Pass _ => some ⟨.expr (.lit .none), ss_pass⟩
  | .Assign [t] e p => trAss X hg E t e p
  | .If c a b _ => (E tc hg c).bind fun c => (trSs (F tc hg) a).bind fun a => (trSs (F tc hg) b).bind fun b => some ⟨.iff c.1 a.1 b.1, ss_if c.2.2 a.2 b.2⟩
  | .For (.Name x _) it body [] _ => if h : notSet it = true then (tn tc x).bind fun i => (trI X hg (E tc hg) it).bind fun pi => (trSs (F tc hg) body).bind fun b => some ⟨.for [i.1] pi.1 b.1, ss_for i.2 h pi.2 b.2⟩ else none
  | .While c body [] _ => (E tc hg c).bind fun c => (trSs (F tc hg) body).bind fun b => some ⟨.while c.1 b.1, ss_while c.2.2 b.2⟩
  | .Raise (some e) none p => trRaise X hg E e p
  | .Try body [.ExceptHandler (some (.Name x np)) none (b :: hs) hp] [] [] p => trTry X hg F x np hp p body b hs
  | _ => none
end
noncomputable def trS {C : Cx} {K : Kx} {g : List (Str × GK)} (X : Env' C K g) (ms : List (Str × String)) : Nat → (tc : Tc) → tc.g = g → (st : Stmt) → CS C K tc st
  | 0, _, _, _ => none
  | n + 1, _, h, st => trT X h (trE X ms 40) (trS X ms n) st
end U
namespace U
open PySem PyProof.Rows PySem.W
/-- a class of the text: its name, what its objects hold, its methods -/
structure CT where
  c : String
  at' : List Txt
  ms : List (Txt × String)
/-- what a law's text names -/
structure Bd where
  q : Program
  loose : List Str
  fns : List String
  vals : List (Str × GK)
  refs : List (Str × Addr)
  cts : List CT
  exs : List String
/-- a function of the text, by its name -/
structure FR where
  nm : Str
  ql : Str
  params : Arguments
  body : List Stmt
  scope : Scope
noncomputable def recOf (q : Program) (n : String) : Option DefRec := (recsOf q).find? fun d => d.name == Str.ofString n
noncomputable def methOf (b : Bd) (n : String) : Option (ClsRec × MethRec) := ((b.cts.flatMap fun t => t.ms.map fun e => (e.2, Str.ofString t.c, toS e.1)).lookup n).bind fun e =>
  ((plainsOf b.q (looseW b.q b.loose)).find? fun c => c.name == e.1).bind fun c => (c.meths.find? fun m => m.name == e.2).map fun m => (c, m)
noncomputable def frOf (b : Bd) (n : String) : Option FR := match recOf b.q n with
  | some d => some ⟨d.name, d.name, d.params, d.body, d.scope⟩
  | none => (methOf b n).map fun r => ⟨r.2.name, r.1.name ++ "." ++ r.2.name, r.2.params, r.2.body, r.2.scope⟩
noncomputable def MthIs (h : Heap) (mg : Str → Option Value) (r : ClsRec × MethRec) (f : Addr) : Prop := ∃ C N mN o pm cd doc, mg r.1.name = some (.ref C) ∧ PlainAt h r.1 C N mN ∧ mN r.2.name = some (.ref f) ∧ h.get? f = some o ∧ o.cls = .type "function" ∧
  o.data = .func (methDef r.2.name (r.1.name ++ "." ++ r.2.name) r.2.params r.2.body r.2.scope pm cd doc) ∧ h.CodeRec cd (r.1.name ++ "." ++ r.2.name)
open Classical in
noncomputable def fnOf (b : Bd) (mg : Str → Option Value) (h : Heap) (n : String) : Option Addr := match recOf b.q n with
  | some d => (match mg d.name with | some (.ref a) => some a | _ => none)
  | none => (match methOf b n with
    | some r => if x : ∃ f, MthIs h mg r f then some (Classical.choose x) else none
    | none => none)
noncomputable def clsOf (mg : Str → Option Value) (c : String) : Option Addr := match mg (Str.ofString c) with
  | some (.ref a) => some a
  | _ => none
noncomputable def cxOf (prog : Program) (w : World) (s : Shared) (b : Bd) (mg : Str → Option Value) : Cx := { prog, w, base := s.heap, gens := s.gens, os := s.os, clsAt := clsOf mg, fnAt := fnOf b mg s.heap }
noncomputable def semK (C : Cx) : Kx := ⟨semFn C, AttC C, MthC C, ExcC C, fun _ _ => False, fun _ _ => False⟩
theorem semK_ok (C : Cx) : KOk C (semK C) := ⟨fun ha h hx B hv hA hf => h ha hx B hv hA hf, id, id, id⟩
/-- builtins that the texts name -/
noncomputable def gBoot : List (Str × GK) := [("len", .bi "len"), ("min", .bi "min"), ("max", .bi "max"), ("all", .bi "all"), ("any", .bi "any"), ("isinstance", .bi "isinstance"), ("sum", .bi "sum"),
  ("int", .typ "int"), ("str", .typ "str"), ("dict", .typ "dict"), ("list", .typ "list"), ("tuple", .typ "tuple"), ("bool", .typ "bool"), ("range", .typ "range"), ("enumerate", .typ "enumerate"), ("reversed", .typ "reversed"), ("ValueError", .typ "ValueError")]
noncomputable def gkB : GK → Value → Bool
  | .typ t, .type u => t == u
  | .bi t, .builtin u => t == u
  | _, _ => false
noncomputable def gkD : GK → PyData → Bool
  | .val (.int i), .int j => i == j
  | .val (.str s), .str x => x.cps.toList == s
  | _, _ => false
theorem boot_all : gBoot.all (fun e => (match bootBuiltins e.1 with | some v => gkB e.2 v | none => false) && !(e.1 == ("__name__" : Str))) = true := by decide +kernel
noncomputable def objNo (n : Str) : Bool := match fastLookup "object" n with
  | some none => true
  | _ => false
theorem objNo_ok {n : Str} (h : objNo n = true) : typeLookup (.type "object") n = pure none := by
  unfold objNo at h
  rw [typeLookup_type, builtinLookup_eq_fast]
  split at h
  · rename_i e; rw [e]
  · cases h
theorem objIs_ok {n : Str} (h : (fastLookup "object" n).isSome = true) : ∃ y, typeLookup (.type "object") n = pure y := by
  rw [typeLookup_type, builtinLookup_eq_fast]
  cases e : fastLookup "object" n with
  | some y => exact ⟨y, rfl⟩
  | none => rw [e] at h; cases h
noncomputable def ctChk (b : Bd) (t : CT) : Bool := match (plainsOf b.q (looseW b.q b.loose)).find? fun c => c.name == Str.ofString t.c with
  | some r => t.at'.all (fun n => r.quiet.contains (toS n) && objNo (toS n)) && t.ms.all fun e => (recOf b.q e.2).isNone && (fastLookup "object" (toS e.1)).isSome && (match methOf b e.2 with | some x => x.1.name == Str.ofString t.c && x.2.name == toS e.1 | none => false)
  | none => false
noncomputable def excIs (o : OwnSpec) : Bool := o.newId == "Exception.__new__" && o.bm == [.type "Exception", .type "BaseException", .type "object"]
noncomputable def exChk (b : Bd) (c : String) : Bool := match (ownsOf b.q).find? fun o => o.name == Str.ofString c with
  | some o => excIs o
  | none => false
/-- a law's own global names: its functions, its values, its classes -/
noncomputable def gChk (b : Bd) : Bool :=
  b.vals.all (fun e => match valOf b.q e.1 with | some d => gkD e.2 d | none => false) && b.fns.all (fun n => (recOf b.q n).isSome) && b.cts.all (ctChk b) && b.exs.all (exChk b) &&
  gBoot.all (fun e => !startupNames.contains e.1 && !(looseW b.q b.loose).contains e.1 && !((recsOf b.q).map (·.name)).contains e.1 && !((litsOf b.q).map (·.1)).contains e.1 && !((clssOf b.q (looseW b.q b.loose)).map (·.name)).contains e.1)
noncomputable def gOf (b : Bd) : List (Str × GK) := b.fns.map (fun n => (Str.ofString n, .fn n)) ++ b.vals ++ b.refs.map (fun r => (r.1, .val (.ref r.2))) ++ (b.cts.map (·.c) ++ b.exs).map (fun c => (Str.ofString c, .cls c)) ++ gBoot
noncomputable def msOf (b : Bd) : List (Str × String) := b.cts.flatMap fun t => t.ms.map fun e => (if e.1 == initT then Str.ofString t.c else toS e.1, e.2)
/-- the text, as it stands -/
structure BdOk (b : Bd) (mean : ExcName → Option Value) (mg mb : Str → Option Value) (s : Shared) : Prop where
  T : Top b.q (looseW b.q b.loose) mean mg mb s.heap
  E : TopE b.q (looseW b.q b.loose) mg s.heap
  g : gChk b = true
  r : ∀ r ∈ b.refs, mg r.1 = some (.ref r.2)
structure ChkOk (b : Bd) : Prop where
  v : ∀ e ∈ b.vals, (match valOf b.q e.1 with | some d => gkD e.2 d | none => false) = true
  f : ∀ n ∈ b.fns, (recOf b.q n).isSome = true
  c : ∀ t ∈ b.cts, ctChk b t = true
  x : ∀ c ∈ b.exs, exChk b c = true
  b : ∀ e ∈ gBoot, (!startupNames.contains e.1 && !(looseW b.q b.loose).contains e.1 && !((recsOf b.q).map (·.name)).contains e.1 && !((litsOf b.q).map (·.1)).contains e.1 && !((clssOf b.q (looseW b.q b.loose)).map (·.name)).contains e.1) = true
theorem chk_ok {b : Bd} (h : gChk b = true) : ChkOk b := by
  unfold gChk at h
  rw [Bool.and_eq_true, Bool.and_eq_true, Bool.and_eq_true, Bool.and_eq_true, List.all_eq_true, List.all_eq_true, List.all_eq_true, List.all_eq_true, List.all_eq_true] at h
  exact ⟨h.1.1.1.1, h.1.1.1.2, h.1.1.2, h.1.2, h.2⟩
theorem gkB_ok {C : Cx} {k : GK} {v : Value} (h : gkB k v = true) : k.is C v := by
  unfold gkB at h
  split at h
  · rw [beq_iff_eq] at h; subst h; rfl
  · rw [beq_iff_eq] at h; subst h; rfl
  · cases h
theorem gkD_ok {C : Cx} {k : GK} {d : PyData} {v : Value} {h' : Heap} (h : gkD k d = true) (r : Reads h' v d []) : k.is C v := by
  unfold gkD at h
  split at h
  · rw [beq_iff_eq] at h; subst h; cases r; exact ⟨_, rfl⟩
  · rw [beq_iff_eq] at h; subst h; cases r with | str x t => exact ⟨t, by simp [toS]⟩
  · cases h
section
variable {prog : Program} {w : World} {s : Shared} {mg mb : Str → Option Value} {mean : ExcName → Option Value} {b : Bd}
theorem recOf_mem {q : Program} {n : String} {d : DefRec} (h : recOf q n = some d) : d ∈ recsOf q ∧ d.name = Str.ofString n := ⟨List.mem_of_find?_eq_some h, beq_iff_eq.mp (List.find?_some (p := fun d : DefRec => d.name == Str.ofString n) h)⟩
theorem methOf_mem {n : String} {r : ClsRec × MethRec} (h : methOf b n = some r) : r.1 ∈ plainsOf b.q (looseW b.q b.loose) ∧ r.2 ∈ r.1.meths := by
  unfold methOf at h
  obtain ⟨e, _, h⟩ := Option.bind_eq_some_iff.mp h
  obtain ⟨c, hc, h⟩ := Option.bind_eq_some_iff.mp h
  obtain ⟨m, hm, h⟩ := Option.map_eq_some_iff.mp h
  subst h
  exact ⟨List.mem_of_find?_eq_some hc, List.mem_of_find?_eq_some hm⟩
theorem mth_is (E : TopE b.q (looseW b.q b.loose) mg s.heap) {n : String} {r : ClsRec × MethRec} (h : methOf b n = some r) : ∃ f, MthIs s.heap mg r f := by
  obtain ⟨h1, h2⟩ := methOf_mem h
  obtain ⟨C, N, mN, e, P⟩ := E r.1 h1
  obtain ⟨f, o, pm, cd, doc, k1, k2, k3, k4, k5⟩ := P.ofCmp.meths r.2 h2
  exact ⟨f, C, N, mN, o, pm, cd, doc, e, P.ofCmp, k1, k2, k3, k4, k5⟩
theorem fnOf_meth (E : TopE b.q (looseW b.q b.loose) mg s.heap) {n : String} {r : ClsRec × MethRec} (h0 : recOf b.q n = none) (h : methOf b n = some r) : ∃ f, fnOf b mg s.heap n = some f ∧ MthIs s.heap mg r f := by
  refine ⟨Classical.choose (mth_is E h), ?_, Classical.choose_spec (mth_is E h)⟩
  unfold fnOf; rw [h0, h]
  exact dif_pos (mth_is E h)
theorem cls_of {c : Str} {n : String} {a : Addr} (e : c = Str.ofString n) (h : mg c = some (.ref a)) : clsOf mg n = some a := by
  unfold clsOf; rw [← e, h]
theorem own_at (X : BdOk b mean mg mb s) {c : String} (h : exChk b c = true) : ∃ a bm newId, OwnClsQ (Str.ofString c) a bm newId mg s.heap ∧ newId = "Exception.__new__" ∧ bm = [.type "Exception", .type "BaseException", .type "object"] := by
  unfold exChk at h
  split at h
  · rename_i o ho
    obtain ⟨a, O, _⟩ := X.T.own o (List.mem_of_find?_eq_some ho)
    unfold excIs at h
    rw [Bool.and_eq_true, beq_iff_eq, beq_iff_eq] at h
    have e : o.name = Str.ofString c := beq_iff_eq.mp (List.find?_some (p := fun o : OwnSpec => o.name == Str.ofString c) ho)
    exact ⟨a, _, _, e ▸ O, h.1, h.2⟩
  · cases h
theorem ct_at (X : BdOk b mean mg mb s) {t : CT} (h : ctChk b t = true) : ∃ a N mN r, mg (Str.ofString t.c) = some (.ref a) ∧ r ∈ plainsOf b.q (looseW b.q b.loose) ∧ PlainAt s.heap r a N mN ∧ (∀ n ∈ t.at', toS n ∈ r.quiet ∧ objNo (toS n) = true) ∧
    ∀ e ∈ t.ms, recOf b.q e.2 = none ∧ (fastLookup "object" (toS e.1)).isSome = true ∧ ∃ x, methOf b e.2 = some x ∧ x.1.name = Str.ofString t.c ∧ x.2.name = toS e.1 := by
  unfold ctChk at h
  split at h
  · rename_i r hr
    obtain ⟨a, N, mN, e, P⟩ := X.E r (List.mem_of_find?_eq_some hr)
    have en : r.name = Str.ofString t.c := beq_iff_eq.mp (List.find?_some (p := fun c : ClsRec => c.name == Str.ofString t.c) hr)
    rw [Bool.and_eq_true, List.all_eq_true, List.all_eq_true] at h
    refine ⟨a, N, mN, r, en ▸ e, List.mem_of_find?_eq_some hr, P.ofCmp, fun n hn => ?_, fun e he => ?_⟩
    · have := h.1 n hn
      rw [Bool.and_eq_true, List.contains_iff_mem] at this
      exact this
    · have := h.2 e he
      rw [Bool.and_eq_true, Bool.and_eq_true, Option.isNone_iff_eq_none] at this
      obtain ⟨⟨k1, k2⟩, k3⟩ := this
      refine ⟨k1, k2, ?_⟩
      split at k3
      · rename_i x hx
        rw [Bool.and_eq_true, beq_iff_eq, beq_iff_eq] at k3
        exact ⟨x, hx, k3.1, k3.2⟩
      · cases k3
  · cases h
theorem gOk_of (X : BdOk b mean mg mb s) : GOk (cxOf prog w s b mg) (gOf b) := by
  obtain ⟨h1, h2, hc, hx, h3⟩ := chk_ok X.g
  have T := X.T
  refine ⟨mg, mb, T.g, T.b, fun x k hk => ?_⟩
  have hm := lookup_mem hk
  unfold gOf at hm
  rcases List.mem_append.mp hm with hm | hm
  · rcases List.mem_append.mp hm with hm | hm
    · rcases List.mem_append.mp hm with hm | hm
      · rcases List.mem_append.mp hm with hm | hm
        · obtain ⟨n, hn, e⟩ := List.mem_map.mp hm
          cases e
          obtain ⟨d, hd⟩ := Option.isSome_iff_exists.mp (h2 n hn)
          obtain ⟨hd1, hd2⟩ := recOf_mem hd
          obtain ⟨a, _, _, _, _, ha, _⟩ := T.fn d hd1
          refine ⟨.ref a, ⟨a, ?_, rfl⟩, .inl (hd2 ▸ ha)⟩
          show fnOf b mg s.heap n = some a
          unfold fnOf; rw [hd]; simp only [ha]
        · have := h1 _ hm
          split at this
          · rename_i d hd
            obtain ⟨v, e1, e2⟩ := T.const _ _ hd
            exact ⟨v, gkD_ok this (e2 s.heap), .inl e1⟩
          · cases this
      · obtain ⟨r, hrm, e⟩ := List.mem_map.mp hm
        cases e
        exact ⟨_, rfl, .inl (X.r r hrm)⟩
    · obtain ⟨c, hcm, e⟩ := List.mem_map.mp hm
      cases e
      rcases List.mem_append.mp hcm with q | q
      · obtain ⟨t, ht, rfl⟩ := List.mem_map.mp q
        obtain ⟨a, N, mN, r, e1, _⟩ := ct_at X (hc t ht)
        exact ⟨.ref a, ⟨a, cls_of rfl e1, rfl⟩, .inl e1⟩
      · obtain ⟨a, bm, nid, O, _⟩ := own_at X (hx c q)
        exact ⟨.ref a, ⟨a, cls_of rfl O.bound, rfl⟩, .inl O.bound⟩
  · have q := h3 _ hm
    have bb := List.all_eq_true.mp U.boot_all _ hm
    rw [Bool.and_eq_true] at bb
    simp only [Bool.and_eq_true, Bool.not_eq_true'] at q
    obtain ⟨⟨⟨⟨q1, q2⟩, q3⟩, q4⟩, q5⟩ := q
    split at bb
    · rename_i v hv
      refine ⟨v, gkB_ok bb.1, .inr ⟨T.free x ?_ ?_ ?_ ?_ ?_, ?_⟩⟩
      · simpa using q1
      · simpa using q2
      · simpa using q3
      · simpa using q4
      · simpa using q5
      · rw [T.builtins x (by have := bb.2; simpa using this)]; exact hv
    · exact absurd bb.1 Bool.false_ne_true
theorem fn_is (X : BdOk b mean mg mb s) {n : String} {r : FR} {a : Addr} (h : frOf b n = some r) (ha : fnOf b mg s.heap n = some a) : ∃ o pm cd doc, s.heap.get? a = some o ∧ o.data = .func (methDef r.nm r.ql r.params r.body r.scope pm cd doc) ∧ s.heap.CodeRec cd r.ql := by
  unfold frOf at h
  split at h
  · rename_i d hd
    cases h
    obtain ⟨a', o, pm, code, doc, e1, e2, e3, e4⟩ := X.T.fn d (recOf_mem hd).1
    unfold fnOf at ha
    rw [hd] at ha
    simp only [e1] at ha
    cases ha
    exact ⟨o, pm, code, doc, e2, e3, e4⟩
  · rename_i hd
    obtain ⟨x, hx, rfl⟩ := Option.map_eq_some_iff.mp h
    obtain ⟨f, e1, C, N, mN, o, pm, cd, doc, k0, k1, k2, k3, k4, k5, k6⟩ := fnOf_meth X.E hd hx
    cases same e1 ha
    exact ⟨o, pm, cd, doc, k3, k5, k6⟩
theorem env_of (X : BdOk b mean mg mb s) : Env' (cxOf prog w s b mg) (semK (cxOf prog w s b mg)) (gOf b) where
  c := X.T.nolimit
  k := semK_ok _
  g := gOk_of X
  f := fun n a ha => by
    have ha' : fnOf b mg s.heap n = some a := ha
    have : ∃ r, frOf b n = some r := by
      unfold fnOf at ha'
      unfold frOf
      split at ha'
      · exact ⟨_, rfl⟩
      · split at ha'
        · rename_i r hr; rw [hr]; exact ⟨_, rfl⟩
        · cases ha'
    obtain ⟨r, hr⟩ := this
    obtain ⟨o, pm, cd, doc, h1, h2, _⟩ := fn_is X hr ha
    exact ⟨o, _, h1, h2⟩
/-- what the law may use of its classes -/
structure Kc (K : Kx) (cts : List CT) (exs : List String) : Prop where
  att : ∀ t ∈ cts, ∀ n ∈ t.at', K.att t.c n
  mth : ∀ t ∈ cts, ∀ e ∈ t.ms, K.mth t.c e.1 e.2
  exc : ∀ c ∈ exs, K.exc c
theorem kc_of (X : BdOk b mean mg mb s) : Kc (semK (cxOf prog w s b mg)) b.cts b.exs := by
  obtain ⟨_, _, hc, hx, _⟩ := chk_ok X.g
  refine ⟨fun t ht n hn a ha => ?_, fun t ht e he a ha => ?_, fun c hcm a ha => ?_⟩
  · obtain ⟨a', N, mN, r, e1, _, P, k, _⟩ := ct_at X (hc t ht)
    cases same (cls_of rfl e1) ha
    exact ⟨N, mN, P.cls, P.quiet _ (List.mem_append_left _ (.tail _ (.head _))), P.quiet _ (List.mem_append_left _ (.head _)), P.quiet _ (k n hn).1, objNo_ok (k n hn).2⟩
  · obtain ⟨a', N₀, mN₀, r, e1, _, P₀, _, k⟩ := ct_at X (hc t ht)
    cases same (cls_of rfl e1) ha
    obtain ⟨k1, k2, x, k3, k4, k5⟩ := k e he
    obtain ⟨f, e2, C, N, mN, o, pm, cd, doc, j0, P, j2, j3, j4, j5, j6⟩ := fnOf_meth X.E k1 k3
    rw [k4, e1] at j0
    cases j0
    exact ⟨N, mN, f, o, _, P.cls, P.quiet _ (List.mem_append_left _ (.tail _ (.head _))), P.quiet _ (List.mem_append_left _ (.tail _ (.tail _ (.head _)))), k5 ▸ j2, j3, j4, j5, e2, objIs_ok k2⟩
  · obtain ⟨a', bm, nid, O, rfl, rfl⟩ := own_at X (hx c hcm)
    cases same (cls_of rfl O.bound) ha
    exact ⟨_, _, _, _, _, _, O, F.excBase_Exception⟩
end
/-- the names of a function: its parameters, then its other ones -/
noncomputable def namesOf (d : FR) : List Str :=
  let ps := d.params.args.map (·.arg)
  ps ++ ((d.scope.names.filter fun e => e.2 == .local || e.2 == .cell).map (·.1)).filter fun x => !ps.contains x
noncomputable def tcOf (hd : Bool) (g : List (Str × GK)) (d : FR) : Tc := { hd, names := namesOf d, kinds := d.scope.names, g }
noncomputable def fnChk (d : FR) : Bool := d.params.posonlyargs.isEmpty && d.params.vararg.isNone && d.params.kwonlyargs.isEmpty && d.params.kwarg.isNone && nodupB (d.params.args.map (·.arg)) && d.scope.kind == .function && !d.scope.isCoroutine && !d.scope.isGenerator &&
      (d.params.args.map (·.arg)).all (fun x => d.scope.names.lookup x == some .local || d.scope.names.lookup x == some .cell)
noncomputable def EntOk (C : Cx) (hd : Bool) (n : String) (fn : Fn) : Prop := ∀ {d vs σ Q X} {a cvs P hx fs s A}, vs.length = fn.np → pSs (semK C) hd d fn.body (args1 fn.names vs) σ (fun _ σ' => Q .none σ') Q (fun _ a σ' => X a σ') →
  C.fnAt n = some a → hx.isSome = hd → StB C P hx fs σ s → All2 AV.is vs cvs → ABk A hx fs d → codeAny (model C.prog C.w) A (.call (.ref a) ⟨cvs, []⟩) (RB C P hx fs Q X) s
section
variable {prog : Program} {w : World} {s : Shared} {mg mb : Str → Option Value} {mean : ExcName → Option Value} {b : Bd}
theorem ent_of (X : BdOk b mean mg mb s) {hd : Bool} {n : String} {dr : FR} {pss : List PS} (hfd : frOf b n = some dr) (hc : fnChk dr = true)
    (hS : SSs (cxOf prog w s b mg) (semK (cxOf prog w s b mg)) (tcOf hd (gOf b) dr) dr.body pss) : EntOk (cxOf prog w s b mg) hd n ⟨dr.params.args.length, (namesOf dr).length, pss⟩ := fun {d vs σ Q X' a cvs P hx fs s' A} hl wp ha hxd B hv hA => by
  unfold fnChk at hc
  simp only [Bool.and_eq_true, List.isEmpty_iff, Option.isNone_iff_eq_none, beq_iff_eq, Bool.not_eq_true', List.all_eq_true, Bool.or_eq_true] at hc
  obtain ⟨⟨⟨⟨⟨⟨⟨⟨c1, c2⟩, c3⟩, c4⟩, c6⟩, c10⟩, c11⟩, c12⟩, c14⟩ := hc
  obtain ⟨o, pm, code, doc, e2, e3, e4⟩ := fn_is X hfd ha
  refine enter_code (tc := tcOf hd (gOf b) dr) (ps := dr.params.args.map (·.arg)) X.T.nolimit ⟨?_, fun i x hx => app_left hx, fun x hx => c14 x hx⟩ hS hxd B hv (by rw [List.length_map]; exact hl.symm) hA wp
  exact ⟨_, _, e2, e3, e4, rfl, ⟨c1, rfl, c2, c3, c4, rfl, nodupB_ok c6⟩, rfl, rfl, rfl, rfl, c10, c11, c12⟩
/-- a function of the text, by the rules -/
noncomputable def trFn (X : BdOk b mean mg mb s) (hd : Bool) (n : String) : Option { fn : Fn // EntOk (cxOf prog w s b mg) hd n fn } := match h : frOf b n with
  | some d => if hc : fnChk d = true then (trSs (trS (env_of X) (msOf b) 40 (tcOf hd (gOf b) d) rfl) d.body).bind fun pss => some ⟨⟨d.params.args.length, (namesOf d).length, pss.1⟩, ent_of X h hc pss.2⟩ else none
  | none => none
theorem trFn_ok {X : BdOk b mean mg mb s} {hd : Bool} {n : String} {fn : Fn} (h : (trFn (prog := prog) (w := w) X hd n).map (·.1) = some fn) : EntOk (cxOf prog w s b mg) hd n fn := by
  obtain ⟨x, _, rfl⟩ := Option.map_eq_some_iff.mp h
  exact x.2
end
end U
namespace U
open PySem PyProof.Rows PySem.W
/-- constants of the text's top that are objects -/
noncomputable def isB : AV → Value → Bool
  | .none, .none => true
  | .bool a, .bool b => a == b
  | .int i, .int j _ => i == j
  | .str s, .str x _ => x.cps.toList == s
  | .ref a, .ref b => a == b
  | _, _ => false
noncomputable def isBs : List AV → List Value → Bool
  | [], [] => true
  | x :: xs, y :: ys => isB x y && isBs xs ys
  | _, _ => false
theorem isB_ok {x : AV} {y : Value} (h : isB x y = true) : x.is y := by
  unfold isB at h
  split at h
  · rfl
  · rw [beq_iff_eq] at h; subst h; rfl
  · rw [beq_iff_eq] at h; subst h; exact ⟨_, rfl⟩
  · rename_i x t; rw [beq_iff_eq] at h; subst h; exact ⟨t, by simp [toS]⟩
  · rw [beq_iff_eq] at h; subst h; rfl
  · cases h
theorem isBs_ok : ∀ {xs : List AV} {ys : List Value}, isBs xs ys = true → All2 AV.is xs ys
  | [], [], _ => .nil
  | x :: xs, y :: ys, h => by simp only [isBs, Bool.and_eq_true] at h; exact .cons (isB_ok h.1) (isBs_ok h.2)
  | [], _ :: _, h => by cases h
  | _ :: _, [], h => by cases h
/-- tuples that stand at the text's top -/
noncomputable def tupB (h : Heap) (c : Str × List AV) : Bool := match h.nsMap mainGlobals c.1 with
  | some (.ref a) => (match h.get? a with
    | some ⟨.type t, none, .seq vs _, sl⟩ => t == "tuple" && sl.size == 0 && isBs c.2 vs.toList
    | _ => false)
  | _ => false
noncomputable def TupAt (h : Heap) (a : Addr) (xs : List AV) : Prop := ∃ vs n, h.get? a = some { cls := .type "tuple", data := .seq vs n } ∧ All2 AV.is xs vs.toList
theorem tupB_ok {h : Heap} {c : Str × List AV} (e : tupB h c = true) : ∃ a, h.nsMap mainGlobals c.1 = some (.ref a) ∧ TupAt h a c.2 := by
  unfold tupB at e
  split at e
  · rename_i a ha
    split at e
    · rename_i t vs n sl e1
      simp only [Bool.and_eq_true, beq_iff_eq] at e
      obtain ⟨⟨h1, h2⟩, h3⟩ := e
      subst h1
      have hsl : sl = #[] := Array.eq_empty_of_size_eq_zero h2
      subst hsl
      exact ⟨a, ha, vs, n, e1, isBs_ok h3⟩
    · cases e
  · cases e
noncomputable def tupHook (cs : List (Str × List AV)) : Hook where
  α := Bool
  obs := fun s => s.heap.isNs mainGlobals && cs.all (tupB s.heap)
  val := fun _ => true
  says := fun _ h => ∃ m, h.Ns mainGlobals m ∧ ∀ c ∈ cs, ∃ a, m c.1 = some (.ref a) ∧ TupAt h a c.2
  of := fun w s e => by
    obtain ⟨e1, e2⟩ := Bool.and_eq_true_iff.mp e
    exact ⟨_, .of_isNs e1, fun c hc => tupB_ok (List.all_eq_true.mp e2 c hc)⟩
  keeps := fun w h h' ⟨m, h1, h2⟩ hk => ⟨m, h1.keeps hk, fun c hc => let ⟨a, q1, vs, n, q2, q3⟩ := h2 c hc; ⟨a, q1, vs, n, hk _ _ q2, q3⟩⟩
theorem lookup_nodup {α : Type} : ∀ {cs : List (Addr × α)} {c : Addr × α}, (cs.map (·.1)).Nodup → c ∈ cs → cs.lookup c.1 = some c.2
  | [], _, _, h => by cases h
  | (a, x) :: cs, c, hn, h => by
    rw [List.map_cons, List.nodup_cons] at hn
    rcases List.mem_cons.mp h with q | q
    · subst q; simp [List.lookup]
    · have : (c.1 == a) = false := beq_eq_false_iff_ne.mpr fun e => hn.1 (e ▸ List.mem_map.mpr ⟨c, q, rfl⟩)
      rw [List.lookup_cons, this]; exact lookup_nodup hn.2 q
section
variable {prog : Program} {w : World} {s : Shared} {mg mb : Str → Option Value} {mean : ExcName → Option Value} {b : Bd}
theorem well_ints {P : Params} {h : Heap} : ∀ {xs : List Int} {vs : List Value}, WellAll P h vs (ofPys (xs.map PyData.int)) → All2 AV.is (xs.map AV.int) vs
  | [], _, hw => by
    simp only [List.map_nil, ofPys] at hw
    cases hw; exact .nil
  | x :: xs, _, hw => by
    simp only [List.map_cons, ofPys] at hw
    cases hw with
    | cons h1 h2 =>
      simp only [ofPy] at h1
      cases h1 with
      | int i t => exact .cons ⟨t, rfl⟩ (well_ints h2)
theorem law_run {fa l : Addr} {xs : List Int} {cs : List (Addr × List AV)} {fn : Fn} {D : Nat} {R : Result → Shared → Prop} (hcs : ∀ c ∈ cs, TupAt s.heap c.1 c.2) (hnd : (cs.map (·.1)).Nodup) (hgens : s.gens = #[])
    (hfn : EntOk (cxOf prog w s b mg) false "law" fn) (hrec : (recOf b.q "law").isSome = true) (hnp : fn.np = 1) (hmg : mg "law" = some (.ref fa)) (hw : Well w.params s.heap (.ref l) (ofPy (PyData.list (xs.map PyData.int)))) (hD : D ≤ 590)
    (hcall : ∀ σ, σ l = some (.flist (xs.map .int)) → (∀ c ∈ cs, σ c.1 = some (.tup c.2)) → pSs (semK (cxOf prog w s b mg)) false D fn.body (args1 fn.names [.ref l]) σ (fun _ _ => AV.none = .bool true) (fun v _ => v = .bool true) (fun _ _ _ => False))
    (hR : ∀ s', (∀ b o, s.heap.get? b = some o → s'.heap.get? b = some o) → s'.os = s.os → s'.gens = #[] → R (.ok (.ret (.bool true))) s') :
    codeAny (model prog w) callerA (.call (.ref fa) ⟨[.ref l], []⟩) R s := by
  obtain ⟨vs, ho, hvs⟩ : ∃ vs : List Value, s.heap.get? l = some { cls := .type "list", data := .seq vs.toArray } ∧ All2 AV.is (xs.map AV.int) vs := by
    simp only [ofPy] at hw
    cases hw with
    | list e1 e2 => exact ⟨_, e1, well_ints e2⟩
  have hlc : ∀ c ∈ cs, c.1 ≠ l := fun c hc q => by
    obtain ⟨vs', n, e, _⟩ := hcs c hc
    rw [q, ho] at e
    have := congrArg (fun o : Option Obj => o.map Obj.cls) e
    simp at this
  let σ : Hp := fun b => if b = l then some (.flist (xs.map .int)) else (cs.lookup b).map .tup
  have hσ : ∀ b o, σ b = some o → (b = l ∧ o = .flist (xs.map .int)) ∨ ∃ ts, (b, ts) ∈ cs ∧ o = .tup ts := fun b o h => by
    have h : (if b = l then some (AO.flist (xs.map .int)) else (cs.lookup b).map AO.tup) = some o := h
    split at h
    · rename_i e; exact .inl ⟨e, (Option.some.inj h).symm⟩
    · obtain ⟨ts, h1, h2⟩ := Option.map_eq_some_iff.mp h
      exact .inr ⟨ts, lookup_mem h1, h2.symm⟩
  have B : StB (cxOf prog w s b mg) (fun _ _ _ => False) none [] σ s := {
    base := fun _ _ e => e
    hid := fun _ _ _ h => h.elim
    rel := fun b o h => by
      rcases hσ b o h with ⟨rfl, rfl⟩ | ⟨ts, hm, rfl⟩
      · exact ⟨_, ho, vs.toArray, 0, rfl, hvs⟩
      · obtain ⟨vs, n, e1, e2⟩ := hcs _ hm; exact ⟨_, e1, vs, n, rfl, e2⟩
    nb := fun b o h hm => by rcases hσ b o h with ⟨rfl, rfl⟩ | ⟨ts, _, rfl⟩ <;> cases hm
    go := ⟨rfl, rfl⟩
    frs := fun _ h => nomatch h
    hand := fun _ h => nomatch h }
  have hfa : fnOf b mg s.heap "law" = some fa := by
    unfold fnOf
    obtain ⟨d, e⟩ := Option.isSome_iff_exists.mp hrec
    have e2 : mg d.name = some (.ref fa) := by rw [(recOf_mem e).2]; exact hmg
    simp only [e, e2]
  refine codeAny_mono (hfn (d := D) (vs := [.ref l]) (Q := fun v _ => v = .bool true) (X := fun _ _ => False) hnp.symm (hcall σ (if_pos rfl) fun c hc => ?_) hfa (hx := none) rfl B (.cons rfl .nil) ⟨?_, ?_, rfl, rfl⟩) ?_
  · show (if c.1 = l then _ else _) = _
    rw [if_neg (hlc c hc), lookup_nodup hnd hc]; rfl
  · show 1 + claimMargin + D + 1 < 1000
    have : claimMargin = 300 := rfl
    omega
  · show 4 + 16 * D + 416 < cLine
    have : cLine = 9900 := rfl
    omega
  · intro r s' h
    match r with
    | .ok (.ret v) =>
      obtain ⟨av, σ', h1, h2, rfl⟩ := h
      cases h1
      exact hR s' h2.base h2.go.2 (h2.go.1.trans hgens)
    | .ok .next => exact h.elim
    | .ok .brk => exact h.elim
    | .ok .cont => exact h.elim
    | .error e => obtain ⟨_, _, _, _, _, _, _, h⟩ := h; exact h.elim
theorem tab_of {X : BdOk b mean mg mb s} : ∀ {tab : List (String × Fn)}, (tab.map fun e => (trFn (prog := prog) (w := w) X false e.1).map (·.1)) = (tab.map fun e => some e.2) → ∀ n fn, (n, fn) ∈ tab → EntOk (cxOf prog w s b mg) false n fn
  | [], _, _, _, h => nomatch h
  | e :: r, h, n, fn, hm => by
    rw [List.map_cons, List.map_cons, List.cons.injEq] at h
    rcases List.mem_cons.mp hm with q | q
    · rw [← q] at h; exact trFn_ok h.1
    · exact tab_of h.2 n fn q
theorem tab_ok {tab : List (String × Fn)} (h : ∀ n fn, (n, fn) ∈ tab → EntOk (cxOf prog w s b mg) false n fn) : Tab (semK (cxOf prog w s b mg)) tab :=
  ⟨fun n fn hm {d vs σ Q X'} hl hp => by
    intro a cvs P hx fs s₁ A ha hxd B hv hA _
    exact h n fn hm hl hp ha hxd B hv hA⟩
/-- the law's end -/
theorem law_end {fa l : Addr} {xs : List Int} {cs : List (Addr × List AV)} {fn : Fn} {D : Nat} {R : Result → Shared → Prop} {tab : List (String × Fn)} (X : BdOk b mean mg mb s)
    (ht : ((("law", fn) :: tab).map fun e => (trFn (prog := prog) (w := w) X false e.1).map (·.1)) = ((("law", fn) :: tab).map fun e => some e.2)) (hcs : ∀ c ∈ cs, TupAt s.heap c.1 c.2) (hnd : (cs.map (·.1)).Nodup) (hgens : s.gens = #[])
    (hrec : (recOf b.q "law").isSome = true) (hnp : fn.np = 1) (hmg : mg "law" = some (.ref fa)) (hw : Well w.params s.heap (.ref l) (ofPy (PyData.list (xs.map PyData.int)))) (hD : D ≤ 590)
    (hcall : ∀ {K : Kx} {σ : Hp}, Tab K tab → Kc K b.cts b.exs → σ l = some (.flist (xs.map .int)) → (∀ c ∈ cs, σ c.1 = some (.tup c.2)) → pSs K false D fn.body (args1 fn.names [.ref l]) σ (fun _ _ => AV.none = .bool true) (fun v _ => v = .bool true) (fun _ _ _ => False))
    (hR : ∀ s', (∀ b o, s.heap.get? b = some o → s'.heap.get? b = some o) → s'.os = s.os → s'.gens = #[] → R (.ok (.ret (.bool true))) s') :
    codeAny (model prog w) callerA (.call (.ref fa) ⟨[.ref l], []⟩) R s :=
  law_run hcs hnd hgens (tab_of ht _ _ (.head _)) hrec hnp hmg hw hD (fun _ => hcall (tab_ok fun n fn h => tab_of ht n fn (.tail _ h)) (kc_of X)) hR
end
end U
namespace U
open PySem
/-- only new objects -/
noncomputable def Le (σ σ' : Hp) : Prop := ∀ b o, σ b = some o → σ' b = some o
theorem Le.refl (σ : Hp) : Le σ σ := fun _ _ h => h
theorem Le.trans {σ₁ σ₂ σ₃ : Hp} (h : Le σ₁ σ₂) (h' : Le σ₂ σ₃) : Le σ₁ σ₃ := fun _ _ e => h' _ _ (h _ _ e)
theorem ne_of {σ : Hp} {a b : Addr} {o : AO} (h : σ b = some o) (h' : σ a = none) : b ≠ a := fun e => by rw [e, h'] at h; cases h
theorem Le.new {σ : Hp} {a : Addr} {o : AO} (h : σ a = none) : Le σ (setH σ a o) := fun _ _ e => setH_old e h
/-- a store into an object that was not there before -/
theorem Le.set {σ σ' : Hp} {a : Addr} {o : AO} (h : Le σ σ') (hf : σ a = none) : Le σ (setH σ' a o) := fun b p e => by rw [setH_ne (ne_of e hf)]; exact h _ _ e
/-- the item at a place -/
noncomputable def pick (vs : List AV) (i : Int) : AV := vs.getD i.toNat .none
theorem seqIndex_ok {i : Int} {n : Nat} (h0 : 0 ≤ i) (h1 : i < n) : seqIndex? i n = some i.toNat := by
  have h : ¬ i < 0 := by omega
  simp [seqIndex?, h, h0, h1]
theorem fmod_lo (a : Int) {b : Int} (h : 0 < b) : 0 ≤ Int.fmod a b := Int.fmod_nonneg_of_pos _ h
theorem fmod_hi (a : Int) {b : Int} (h : 0 < b) : Int.fmod a b < b := Int.fmod_lt_of_pos _ h
/-- bounds of a slice -/
noncomputable def bnd (n : Nat) (i : Int) : Nat := (max 0 (min (if i < 0 then i + n else i) (n : Int))).toNat
theorem bnd_le (n : Nat) (i : Int) : bnd n i ≤ n := by unfold bnd; split <;> omega
theorem range_pickN {α : Type} (xs : List α) : ∀ (m a : Nat), a + m ≤ xs.length → (List.range m).filterMap (fun k => xs[a + k]?) = (xs.drop a).take m := by
  intro m
  induction m with
  | zero => intro a h; simp
  | succ m ih =>
    intro a h
    rw [List.range_succ_eq_map, List.filterMap_cons, List.filterMap_map]
    have ha : a < xs.length := by omega
    simp only [Nat.add_zero]
    rw [List.getElem?_eq_getElem ha]
    simp only
    have := ih (a + 1) (by omega)
    rw [List.drop_eq_getElem_cons ha, List.take_succ_cons, ← this]
    have e : ((fun k => xs[a + k]?) ∘ Nat.succ) = fun k => xs[a + 1 + k]? := by
      funext k
      show xs[a + (k + 1)]? = _
      congr 1; omega
    rw [e]
theorem cut_of {α : Type} (xs : List α) (lo hi : Option Int) {a b : Nat} (ha : a = (match lo with | some i => bnd xs.length i | none => 0)) (hb : b = (match hi with | some i => bnd xs.length i | none => xs.length)) : cut xs lo hi none = (xs.take b).drop a := by
  have hbl : b ≤ xs.length := by subst hb; cases hi <;> simp [bnd_le]
  have hal : a ≤ xs.length := by subst ha; cases lo <;> simp [bnd_le]
  have e : cut xs lo hi none = (sliceRange (a : Int) (b : Int) 1).filterMap (xs[·]?) := by
    unfold cut sliceBounds
    have h1 : (1 : Int) > 0 := by decide
    simp only [Option.getD_none, h1, if_true]
    congr 1
    congr 1
    · subst ha; cases lo <;> simp [bnd] <;> split <;> omega
    · subst hb; cases hi <;> simp [bnd] <;> split <;> omega
  rw [e]
  unfold sliceRange
  have h1 : (1 : Int) > 0 := by decide
  simp only [h1, if_true, Int.one_mul]
  have hc : (if (a : Int) < (b : Int) then ((b : Int) - (a : Int) + 1 - 1) / 1 else 0).toNat = b - a := by
    split <;> simp <;> omega
  rw [hc, List.filterMap_map]
  have : (fun (k : Nat) => xs[a + k]?) = ((fun x => xs[x]?) ∘ fun (k : Nat) => ((a : Int) + (k : Int)).toNat) := by
    funext k
    show xs[a + k]? = xs[((a : Int) + (k : Int)).toNat]?
    congr 1
  rw [← this]
  by_cases hab : a ≤ b
  · rw [range_pickN xs (b - a) a (by omega), List.take_drop]
    congr 2; omega
  · rw [Nat.sub_eq_zero_of_le (by omega)]
    simp
    omega
theorem bnd_pos (n : Nat) {i : Int} (h : 0 ≤ i) : bnd n i = min i.toNat n := by
  obtain ⟨k, rfl⟩ := Int.eq_ofNat_of_zero_le h
  unfold bnd
  rw [if_neg (Int.not_lt.mpr h), Int.toNat_natCast]
  omega
theorem cut_to {α : Type} (xs : List α) {i : Int} (h : 0 ≤ i) : cut xs none (some i) none = xs.take i.toNat := by
  rw [cut_of xs none (some i) rfl rfl, List.drop_zero]
  have : bnd xs.length i = min i.toNat xs.length := bnd_pos _ h
  simp only [this]
  rcases Nat.le_total i.toNat xs.length with q | q
  · rw [Nat.min_eq_left q]
  · rw [Nat.min_eq_right q, List.take_length, List.take_of_length_le q]
theorem cut_mid {α : Type} (xs : List α) {i j : Int} (h : 0 ≤ i) (h' : 0 ≤ j) : cut xs (some i) (some j) none = (xs.take j.toNat).drop i.toNat := by
  rw [cut_of xs (some i) (some j) rfl rfl]
  have e1 : bnd xs.length i = min i.toNat xs.length := bnd_pos _ h
  have e2 : bnd xs.length j = min j.toNat xs.length := bnd_pos _ h'
  simp only [e1, e2]
  apply List.ext_getElem?
  intro k
  simp only [List.getElem?_drop, List.getElem?_take]
  by_cases q : xs.length ≤ i.toNat
  · rw [List.getElem?_eq_none (l := xs) (i := min i.toNat xs.length + k) (by omega), List.getElem?_eq_none (l := xs) (i := i.toNat + k) (by omega)]; simp
  · rw [Nat.min_eq_left (by omega)]
    by_cases q2 : i.toNat + k < xs.length
    · have : (i.toNat + k < min j.toNat xs.length) = (i.toNat + k < j.toNat) := by rw [Nat.lt_min]; simp [q2]
      simp only [this]
    · rw [List.getElem?_eq_none (l := xs) (i := i.toNat + k) (by omega)]; simp
theorem for_range_from {body : Loc → Hp → SPost → Prop} {i : Nat} {Q : SPost} {I : Nat → Loc → Hp → Prop}
    {n : Nat} (he : ∀ ρ σ, I n ρ σ → Q ρ σ)
    (hs : ∀ k ρ σ (c : SPost), k < n → I k ρ σ → (∀ ρ' σ', I (k + 1) ρ' σ' → c ρ' σ') → body (ρ.set i (some (.int (k : Int)))) σ c) :
    ∀ (m a : Nat), a + m = n → ∀ ρ σ, I a ρ σ → pForL body [i] .no ((List.range m).map fun (k : Nat) => It.one (.int ((a : Int) + (k : Int)))) ρ σ Q
  | 0, a, h, ρ, σ, hI => ⟨trivial, by have : a = n := by omega
                                      subst this; exact he _ _ hI⟩
  | m + 1, a, h, ρ, σ, hI => by
    rw [List.range_succ_eq_map, List.map_cons, List.map_map]
    refine ⟨trivial, ρ.set i (some (.int (a : Int))), by simp [bindIt], hs a ρ σ _ (by omega) hI fun ρ' σ' h' => ?_⟩
    have := for_range_from he hs m (a + 1) (by omega) ρ' σ' h'
    have e : ((fun (k : Nat) => It.one (.int ((a : Int) + (k : Int)))) ∘ Nat.succ) = fun (k : Nat) => It.one (.int (((a + 1 : Nat) : Int) + (k : Int))) := by
      funext k; simp only [Function.comp]; congr 2; push_cast; omega
    rw [e]; exact this
theorem for_range {body : Loc → Hp → SPost → Prop} {i : Nat} {Q : SPost} {ρ : Loc} {σ : Hp} {n : Nat} (I : Nat → Loc → Hp → Prop) (h0 : I 0 ρ σ)
    (hs : ∀ k ρ σ (c : SPost), k < n → I k ρ σ → (∀ ρ' σ', I (k + 1) ρ' σ' → c ρ' σ') → body (ρ.set i (some (.int (k : Int)))) σ c)
    (he : ∀ ρ σ, I n ρ σ → Q ρ σ) : pForL body [i] .no (rangeOf 0 (n : Int)) ρ σ Q := by
  have := for_range_from he hs n 0 (by omega) ρ σ h0
  unfold rangeOf
  simpa using this
theorem comp_range_from {step : Loc → Hp → (Option AV → Hp → Prop) → Prop} {i : Nat} {ρ : Loc} {Q : Post} {I : Nat → List AV → Hp → Prop} {n : Nat} (hn : n < tooLong)
    (he : ∀ acc σ a, I n acc σ → σ a = none → Q (.ref a) (setH σ a (.list acc))) (hl : ∀ k acc σ, I k acc σ → acc.length ≤ k)
    (hs : ∀ k acc σ (c : Option AV → Hp → Prop), k < n → I k acc σ → (∀ v σ', I (k + 1) (match v with | some v => acc ++ [v] | none => acc) σ' → c v σ') → step (ρ.set i (some (.int (k : Int)))) σ c) :
    ∀ (m a : Nat), a + m = n → ∀ acc σ, I a acc σ → pCompL step [i] ρ .no ((List.range m).map fun (k : Nat) => It.one (.int ((a : Int) + (k : Int)))) acc σ Q
  | 0, a, h, acc, σ, hI => ⟨trivial, fun b hb => by have : a = n := by omega
                                                    subst this; exact he _ _ _ hI hb⟩
  | m + 1, a, h, acc, σ, hI => by
    rw [List.range_succ_eq_map, List.map_cons, List.map_map]
    refine ⟨trivial, by have := hl _ _ _ hI; omega, ρ.set i (some (.int (a : Int))), by simp [bindIt], hs a acc σ _ (by omega) hI fun v σ' h' => ?_⟩
    have := comp_range_from hn he hl hs m (a + 1) (by omega) _ σ' h'
    have e : ((fun (k : Nat) => It.one (.int ((a : Int) + (k : Int)))) ∘ Nat.succ) = fun (k : Nat) => It.one (.int (((a + 1 : Nat) : Int) + (k : Int))) := by
      funext k; simp only [Function.comp]; congr 2; push_cast; omega
    rw [e]; exact this
/-- a list over a range, each item by itself -/
theorem comp_range {step : Loc → Hp → (Option AV → Hp → Prop) → Prop} {i : Nat} {ρ : Loc} {Q : Post} {σ : Hp} {n : Nat} (hn : n < tooLong) (R : Hp → Prop) (P : Nat → AV → Prop) (h0 : R σ)
    (hs : ∀ k σ (c : Option AV → Hp → Prop), k < n → R σ → (∀ v σ', R σ' → P k v → c (some v) σ') → step (ρ.set i (some (.int (k : Int)))) σ c)
    (he : ∀ vs σ a, R σ → vs.length = n → (∀ k v, vs[k]? = some v → P k v) → σ a = none → Q (.ref a) (setH σ a (.list vs))) : pCompL step [i] ρ .no (rangeOf 0 (n : Int)) [] σ Q := by
  have := comp_range_from (I := fun k acc σ => R σ ∧ acc.length = k ∧ ∀ j v, acc[j]? = some v → P j v) (step := step) (i := i) (ρ := ρ) (Q := Q) hn (fun acc σ a h ha => he _ _ _ h.1 h.2.1 h.2.2 ha) (fun k acc σ h => by omega)
    (fun k acc σ c hk h hc => hs k σ c hk h.1 fun v σ' hR hP => hc (some v) σ' ⟨hR, by simp [h.2.1], fun j w hj => by
      rcases Nat.lt_or_ge j acc.length with q | q
      · rw [List.getElem?_append_left q] at hj; exact h.2.2 j w hj
      · rw [List.getElem?_append_right q] at hj
        have : j = acc.length := by
          rcases Nat.eq_or_lt_of_le q with q' | q'
          · exact q'.symm
          · rw [List.getElem?_eq_none (by simp; omega)] at hj; cases hj
        subst this
        simp at hj
        subst hj; rw [h.2.1]; exact hP⟩) n 0 (by omega) [] σ ⟨h0, rfl, fun j v h => by simp at h⟩
  unfold rangeOf
  simpa using this
theorem comp_new {step : Loc → Hp → (Option AV → Hp → Prop) → Prop} {i : Nat} {ρ : Loc} {Q : Post} {σ : Hp} {n : Nat} (hn : n < tooLong) (R : Hp → Prop) (P : Nat → AV → Prop) (h0 : R σ)
    (hs : ∀ k σ (c : Option AV → Hp → Prop), k < n → R σ → (∀ v σ', R σ' → P k v → c (some v) σ') → step (ρ.set i (some (.int (k : Int)))) σ c)
    (he : ∀ vs σ a σ', R σ → vs.length = n → (∀ k v, vs[k]? = some v → P k v) → σ a = none → Le σ σ' → σ' a = some (.list vs) → Q (.ref a) σ') : pCompL step [i] ρ .no (rangeOf 0 (n : Int)) [] σ Q :=
  comp_range hn R P h0 hs fun vs σ a hR hl hP ha => he vs σ a _ hR hl hP ha (Le.new ha) (setH_here _ _ _)
theorem bools_iff : ∀ {vs : List AV} {ss : List Bool}, bools? vs = some ss ↔ vs = ss.map .bool
  | [], ss => by simp [bools?, eq_comm]
  | v :: r, ss => by
    cases v <;> simp [bools?]
    case bool s =>
      constructor
      · rintro ⟨t, h, rfl⟩; rw [bools_iff.mp h]; simp
      · intro h
        cases ss with
        | nil => simp at h
        | cons x xs => simp at h; exact ⟨xs, bools_iff.mpr h.2, by rw [h.1]⟩
    all_goals (cases ss <;> simp)
theorem bools_map {ss : List Bool} : bools? (ss.map .bool) = some ss := bools_iff.mpr rfl
section
variable {σ : Hp}
theorem any_is {n : Nat} {xs : List AV} {x : AV} (hx : x.scal = true) (hs : xs.all AV.scal = true) : ∀ y ∈ xs, EqV σ n y x (eqS y x) := fun y hy => by
  have := List.all_eq_true.mp hs y hy
  exact eqV_scal' this hx
where eqV_scal' {σ : Hp} {n : Nat} {x y : AV} (h : x.scal = true) (h' : y.scal = true) : EqV σ n x y (eqS x y) := by cases n <;> exact .scal h h'
end
theorem itemL_at {α : Type} {xs : List α} {i : Int} (d : α) (h0 : 0 ≤ i) (h1 : i < xs.length) (h2 : xs.length < tooLong) : itemL xs i = some (xs.getD i.toNat d) := by
  obtain ⟨k, rfl⟩ := Int.eq_ofNat_of_zero_le h0
  have h1 : k < xs.length := Int.ofNat_lt.mp h1
  unfold itemL
  rw [if_pos (show (k : Int).natAbs < 2 ^ 62 from Nat.lt_trans h1 (Nat.lt_trans h2 (by decide))), seqIndex_ok h0 (Int.ofNat_lt.mpr h1)]
  show xs[k]? = some (xs.getD k d)
  rw [List.getD_eq_getElem?_getD, List.getElem?_eq_getElem h1]; rfl
theorem itemL_ok {xs : List AV} {i : Int} (h0 : 0 ≤ i) (h1 : i < xs.length) (h2 : xs.length < tooLong) : itemL xs i = some (pick xs i) := itemL_at _ h0 h1 h2
theorem itemL_n {α : Type} {xs : List α} {n : Nat} {v : α} (hn : n < 5) (h : xs[n]? = some v) : itemL xs (n : Int) = some v := by
  have h1 : n < xs.length := (List.getElem?_eq_some_iff.mp h).1
  unfold itemL
  rw [if_pos (show (n : Int).natAbs < 2 ^ 62 from Nat.lt_trans hn (by decide)), seqIndex_ok (Int.natCast_nonneg n) (Int.ofNat_lt.mpr h1)]
  exact h
theorem itemL_0 {α : Type} {x : α} {r : List α} : itemL (x :: r) 0 = some x := itemL_n (n := 0) (by decide) rfl
theorem itemL_1 {α : Type} {x y : α} {r : List α} : itemL (x :: y :: r) 1 = some y := itemL_n (n := 1) (by decide) rfl
theorem itemL_2 {α : Type} {x y z : α} {r : List α} : itemL (x :: y :: z :: r) 2 = some z := itemL_n (n := 2) (by decide) rfl
theorem itemL_3 {α : Type} {x y z w : α} {r : List α} : itemL (x :: y :: z :: w :: r) 3 = some w := itemL_n (n := 3) (by decide) rfl
theorem itemL_4 {α : Type} {x y z w u : α} {r : List α} : itemL (x :: y :: z :: w :: u :: r) 4 = some u := itemL_n (n := 4) (by decide) rfl
theorem itemL_mod {xs : List AV} {i n : Int} (h0 : 0 < n) (h1 : n ≤ xs.length) (h2 : xs.length < tooLong) : itemL xs (Int.fmod i n) = some (pick xs (Int.fmod i n)) :=
  itemL_ok (fmod_lo i h0) (Int.lt_of_lt_of_le (fmod_hi i h0) h1) h2
theorem strAt_mod {s : Txt} {i n : Int} (h0 : 0 < n) (h1 : n ≤ s.length) (h2 : s.length < tooLong) : itemL s (Int.fmod i n) = some (s.getD (Int.fmod i n).toNat 0) :=
  itemL_at 0 (fmod_lo i h0) (Int.lt_of_lt_of_le (fmod_hi i h0) h1) h2
theorem pOut_mono {g : Gd} {σ : Hp} {k k' : Hp → Prop} (h : pOut g σ k) (hk : ∀ σ, k σ → k' σ) : pOut g σ k' := by cases g <;> exact hk _ h
theorem comp_each {α : Type} {step : Loc → Hp → (Option AV → Hp → Prop) → Prop} {i : Nat} {ρ : Loc} {Q : Post} (G : α → AV) (F : α → AV) (R : Hp → Prop) {g : Gd} (hg : ∀ σ, R σ → gOk g σ) :
    ∀ (xs : List α) (acc : List AV) (σ : Hp), R σ → acc.length + xs.length < tooLong →
    (∀ x ∈ xs, ∀ σ (c : Option AV → Hp → Prop), R σ → (∀ σ', R σ' → c (some (F x)) σ') → step (ρ.set i (some (G x))) σ c) →
    (∀ σ, R σ → pOut g σ fun σ₁ => ∀ a σ', σ₁ a = none → Le σ₁ σ' → σ' a = some (.list (acc ++ xs.map F)) → Q (.ref a) σ') → pCompL step [i] ρ g (xs.map fun x => It.one (G x)) acc σ Q
  | [], acc, σ, hR, hl, hs, he => ⟨hg _ hR, pOut_mono (he σ hR) fun σ₁ h a ha => h a _ ha (Le.new ha) (by simp [setH_here])⟩
  | x :: xs, acc, σ, hR, hl, hs, he => by
    rw [List.map_cons]
    refine ⟨hg _ hR, by simp at hl; omega, ρ.set i (some (G x)), by simp [bindIt], hs x (by simp) σ _ hR fun σ' hR' => ?_⟩
    refine comp_each G F R hg xs (acc ++ [F x]) σ' hR' (by simp at hl ⊢; omega) (fun y hy => hs y (by simp [hy])) fun σ h1 => pOut_mono (he σ h1) fun σ₁ h a σ' h2 h3 h4 => h a σ' h2 h3 (by rw [h4]; simp)
/-- a loop over a list that stays as it is -/
theorem for_list {α : Type} {body : Loc → Hp → SPost → Prop} {i : Nat} {Q : SPost} {g : Gd} (G : α → AV) (I : List α → Loc → Hp → Prop) (hg : ∀ r ρ σ, I r ρ σ → gOk g σ)
    (hs : ∀ x r ρ σ (c : SPost), I (x :: r) ρ σ → (∀ ρ' σ', I r ρ' σ' → c ρ' σ') → body (ρ.set i (some (G x))) σ c) (he : ∀ ρ σ, I [] ρ σ → pOut g σ fun σ' => Q ρ σ') :
    ∀ (xs : List α) (ρ : Loc) (σ : Hp), I xs ρ σ → pForL body [i] g (xs.map fun x => It.one (G x)) ρ σ Q
  | [], ρ, σ, hI => ⟨hg _ _ _ hI, he _ _ hI⟩
  | x :: xs, ρ, σ, hI => ⟨hg _ _ _ hI, ρ.set i (some (G x)), by simp [bindIt], hs x xs ρ σ _ hI fun ρ' σ' h => for_list G I hg hs he xs ρ' σ' h⟩
theorem Zz1 {α : Type} {v : α} {k : α → Prop} : OkP (some v) k = k v := rfl
theorem Zz2 {p q : Prop} : WifP true p q = p := rfl
theorem Zz3 {p q : Prop} : WifP false p q = q := rfl
theorem Zz4 {k : Bool → Prop} : TruP .none k = k false := rfl
theorem Zz5 {k : Bool → Prop} {b : Bool} : TruP (.bool b) k = k b := rfl
theorem Zz6 {k : Bool → Prop} {b : Int} : TruP (.int b) k = k (b != 0) := rfl
theorem Zz7 {a b : Int} {f : Int → Int → Prop} : IIP [.int a, .int b] f = f a b := rfl
theorem Zz8 {x : AV} {f : AV → Prop} : OneP [x] f = f x := rfl
theorem Zz9 {x y : AV} {f : AV → AV → Prop} : TwoP [x, y] f = f x y := rfl
theorem Zy1 {i : Int} {f : Int → Prop} : IntP (.int i) f = f i := rfl
theorem Zy2 {i : Bool} {f : Bool → Prop} : BoolP (.bool i) f = f i := rfl
theorem Zy3 {i : Txt} {f : Txt → Prop} : StrP (.str i) f = f i := rfl
theorem Zy4 {i : Addr} {f : Addr → Prop} : RefP (.ref i) f = f i := rfl
theorem Zy5 {p : Prop} : NonP .none p = p := rfl
theorem Zy6 {σ : Hp} {a b : Int} {Q : Post} : AddP σ (.int a) (.int b) Q = Q (.int (a + b)) σ := rfl
theorem Zy7 {σ : Hp} {a b : Txt} {Q : Post} : AddP σ (.str a) (.str b) Q = (a.length + b.length < tooLong ∧ Q (.str (a ++ b)) σ) := rfl
theorem Zy8 {σ : Hp} {a b : Addr} {Q : Post} : AddP σ (.ref a) (.ref b) Q = OkP (σ a) fun o => OkP (σ b) fun p => AddR σ o p Q := rfl
theorem Zy9 {σ : Hp} {xs ys : List AV} {Q : Post} : AddR σ (.list xs) (.list ys) Q = (xs.length + ys.length < tooLong ∧ NewO σ (.list (xs ++ ys)) Q) := rfl
theorem Zy0 {σ : Hp} {xs ys : List AV} {Q : Post} : AddR σ (.tup xs) (.tup ys) Q = ((xs ≠ [] ∧ ys ≠ [] ∧ xs.length + ys.length < tooLong) ∧ NewO σ (.tup (xs ++ ys)) Q) := rfl
theorem Zeii {x : Int} {y : Int} {σ : Hp} {k : Bool → Prop} : EqP σ (.int x) (.int y) k = k (x == y) := rfl
theorem Znii {x : Int} {y : Int} {k : Bool → Prop} : NeP (.int x) (.int y) k = k (!(x == y)) := rfl
theorem Zeib {x : Int} {y : Bool} {σ : Hp} {k : Bool → Prop} : EqP σ (.int x) (.bool y) k = k (x == b2i y) := rfl
theorem Znib {x : Int} {y : Bool} {k : Bool → Prop} : NeP (.int x) (.bool y) k = k (!(x == b2i y)) := rfl
theorem Zeis {x : Int} {y : Txt} {σ : Hp} {k : Bool → Prop} : EqP σ (.int x) (.str y) k = k false := rfl
theorem Znis {x : Int} {y : Txt} {k : Bool → Prop} : NeP (.int x) (.str y) k = k (!false) := rfl
theorem Zein {x : Int} {σ : Hp} {k : Bool → Prop} : EqP σ (.int x) .none k = k false := rfl
theorem Znin {x : Int} {k : Bool → Prop} : NeP (.int x) .none k = k (!false) := rfl
theorem Zebi {x : Bool} {y : Int} {σ : Hp} {k : Bool → Prop} : EqP σ (.bool x) (.int y) k = k (b2i x == y) := rfl
theorem Znbi {x : Bool} {y : Int} {k : Bool → Prop} : NeP (.bool x) (.int y) k = k (!(b2i x == y)) := rfl
theorem Zebb {x : Bool} {y : Bool} {σ : Hp} {k : Bool → Prop} : EqP σ (.bool x) (.bool y) k = k (x == y) := rfl
theorem Znbb {x : Bool} {y : Bool} {k : Bool → Prop} : NeP (.bool x) (.bool y) k = k (!(x == y)) := rfl
theorem Zebs {x : Bool} {y : Txt} {σ : Hp} {k : Bool → Prop} : EqP σ (.bool x) (.str y) k = k false := rfl
theorem Znbs {x : Bool} {y : Txt} {k : Bool → Prop} : NeP (.bool x) (.str y) k = k (!false) := rfl
theorem Zebn {x : Bool} {σ : Hp} {k : Bool → Prop} : EqP σ (.bool x) .none k = k false := rfl
theorem Znbn {x : Bool} {k : Bool → Prop} : NeP (.bool x) .none k = k (!false) := rfl
theorem Zesi {x : Txt} {y : Int} {σ : Hp} {k : Bool → Prop} : EqP σ (.str x) (.int y) k = k false := rfl
theorem Znsi {x : Txt} {y : Int} {k : Bool → Prop} : NeP (.str x) (.int y) k = k (!false) := rfl
theorem Zesb {x : Txt} {y : Bool} {σ : Hp} {k : Bool → Prop} : EqP σ (.str x) (.bool y) k = k false := rfl
theorem Znsb {x : Txt} {y : Bool} {k : Bool → Prop} : NeP (.str x) (.bool y) k = k (!false) := rfl
theorem Zess {x : Txt} {y : Txt} {σ : Hp} {k : Bool → Prop} : EqP σ (.str x) (.str y) k = k (x == y) := rfl
theorem Znss {x : Txt} {y : Txt} {k : Bool → Prop} : NeP (.str x) (.str y) k = k (!(x == y)) := rfl
theorem Zesn {x : Txt} {σ : Hp} {k : Bool → Prop} : EqP σ (.str x) .none k = k false := rfl
theorem Znsn {x : Txt} {k : Bool → Prop} : NeP (.str x) .none k = k (!false) := rfl
theorem Zeni {y : Int} {σ : Hp} {k : Bool → Prop} : EqP σ .none (.int y) k = k false := rfl
theorem Znni {y : Int} {k : Bool → Prop} : NeP .none (.int y) k = k (!false) := rfl
theorem Zenb {y : Bool} {σ : Hp} {k : Bool → Prop} : EqP σ .none (.bool y) k = k false := rfl
theorem Znnb {y : Bool} {k : Bool → Prop} : NeP .none (.bool y) k = k (!false) := rfl
theorem Zens {y : Txt} {σ : Hp} {k : Bool → Prop} : EqP σ .none (.str y) k = k false := rfl
theorem Znns {y : Txt} {k : Bool → Prop} : NeP .none (.str y) k = k (!false) := rfl
theorem Zenn  {σ : Hp} {k : Bool → Prop} : EqP σ .none .none k = k true := rfl
theorem Znnn  {k : Bool → Prop} : NeP .none .none k = k (!true) := rfl
theorem Zq0 {xs : List AV} {k : List AV → Prop} {k' : List (Txt × AV) → Prop} : seqP (.list xs) k k' = k xs := rfl
theorem Zq1 {xs : List AV} {k : List AV → Prop} {k' : List (Txt × AV) → Prop} : seqP (.flist xs) k k' = k xs := rfl
theorem Zq2 {xs : List AV} {k : List AV → Prop} {k' : List (Txt × AV) → Prop} : seqP (.tup xs) k k' = k xs := rfl
theorem Zq3 {xs : List (Txt × AV)} {k : List AV → Prop} {k' : List (Txt × AV) → Prop} : seqP (.dict xs) k k' = k' xs := rfl
theorem Zq4 {xs : List (Txt × AV)} {k : List AV → Prop} {k' : List (Txt × AV) → Prop} : seqP (.fdict xs) k k' = k' xs := rfl
theorem Zq5 {σ : Hp} {c : Nat} {t : Txt} {k : Bool → Prop} : InP σ (.str [c]) (.str t) k = k (t.contains c) := rfl
theorem Zq6 {σ : Hp} {x : AV} {a : Addr} {k : Bool → Prop} : InP σ x (.ref a) k = OkP (σ a) fun o => seqP o (fun xs => InS σ xs x k) (fun es => StrP x fun kk => k (es.lookup kk).isSome) := rfl
theorem Zq7 {σ : Hp} {s : Txt} {k : Nat → Prop} : LenP σ (.str s) k = k s.length := rfl
theorem Zq8 {σ : Hp} {a : Addr} {k : Nat → Prop} : LenP σ (.ref a) k = OkP (σ a) fun o => seqP o (fun xs => k xs.length) (fun es => k es.length) := rfl
theorem Zq9 {σ : Hp} {a : Addr} {y : AV} {Q : Post} : ItemP σ (.ref a) y Q = OkP (σ a) fun o => seqP o (fun xs => IntP y fun i => OkP (itemL xs i) fun v => Q v σ) (fun es => StrP y fun kk => OkP (es.lookup kk) fun v => Q v σ) := rfl
theorem Zr1 {σ : Hp} {s : Txt} {y : AV} {Q : Post} : ItemP σ (.str s) y Q = IntP y fun i => OkP (itemL s i) fun c => Q (.str [c]) σ := rfl
theorem Zr2 {k : Option Int → Prop} : PartP .none k = k none := rfl
theorem Zr3 {i : Int} {k : Option Int → Prop} : PartP (.int i) k = k (some i) := rfl
theorem Zr4 {xs : List AV} {k k' : List AV → Prop} : SqP (.list xs) k k' = k xs := rfl
theorem Zr5 {xs : List AV} {k k' : List AV → Prop} : SqP (.flist xs) k k' = k xs := rfl
theorem Zr5t {xs : List AV} {k k' : List AV → Prop} : SqP (.tup xs) k k' = k' xs := rfl
theorem Zk1 {c : String} {d : Addr} {k : String → Addr → Prop} : InstP (.inst c d) k = k c d := rfl
theorem Zk2 {es : List (Txt × AV)} {k : List (Txt × AV) → Prop} : AttP (.attrs es) k = k es := rfl
theorem Zk3 {c : String} {d : Option Addr} {k : String → Option Addr → Prop} : ExcP (.exc c d) k = k c d := rfl
theorem Zr6 {σ : Hp} {a : Addr} {l h t : AV} {Q : Post} : SliP σ (.ref a) l h t Q = OkP (σ a) fun o => SqP o (fun xs => PartP l fun lo => PartP h fun hi => PartP t fun st => (st ≠ some 0 ∧ xs.length < tooLong) ∧ NewO σ (.list (cut xs lo hi st)) Q)
      fun xs => NonP l (IntP h fun i => NonP t ((0 ≤ i ∧ i.toNat < xs.length ∧ xs.length < tooLong) ∧ NewO σ (.tup (xs.take i.toNat)) Q)) := rfl
theorem Zr7 {σ : Hp} {s : Txt} {l h t : AV} {Q : Post} : SliP σ (.str s) l h t Q = PartP l fun lo => PartP h fun hi => NonP t (s.length < tooLong ∧ Q (.str (cut s lo hi none)) σ) := rfl
theorem Zr8 {xs : List AV} {k : List AV → Prop} : OwnL (.list xs) k = k xs := rfl
theorem Zr9 {xs : List AV} {k : List AV → Prop} : TupP (.tup xs) k = k xs := rfl
theorem Zr0 {es : List (Txt × AV)} {k : List (Txt × AV) → Prop} : DicP (.dict es) k = k es := rfl
theorem Zt1 {es : List (Txt × AV)} {k : List (Txt × AV) → Prop} : DicP (.fdict es) k = k es := rfl
theorem Zt2 {x y z : AV} {f : AV → AV → AV → Prop} : ThreeP [x, y, z] f = f x y z := rfl
theorem Zt3 {x y z u : AV} {f : AV → AV → AV → AV → Prop} : FourP [x, y, z, u] f = f x y z u := rfl
theorem Zt4 {a : Addr} {vs : List AV} {Q : List It → Gd → Prop} : itP a (.list vs) Q = Q (vs.map .one) (.keep a (.list vs)) := rfl
theorem Zt5 {hi : Int} {Q : List It → Gd → Prop} : rngP [.int hi] Q = (hi.natAbs < tooLong ∧ Q (rangeOf 0 hi) .no) := rfl
theorem Zt6 {lo hi : Int} {Q : List It → Gd → Prop} : rngP [.int lo, .int hi] Q = ((lo.natAbs < tooLong ∧ hi.natAbs < tooLong) ∧ Q (rangeOf lo hi) .no) := rfl
theorem Zt7 {σ : Hp} {a : Addr} {Q : List It → Gd → Prop} : pIters σ (.ref a) Q = OkP (σ a) fun o => itP a o Q := rfl
theorem Zp1 {a : Addr} {vs : List AV} {Q : List It → Gd → Prop} : itP a (.flist vs) Q = Q (vs.map .one) (.keep a (.flist vs)) := rfl
theorem Zp2 {a : Addr} {vs : List AV} {Q : List It → Gd → Prop} : itP a (.tup vs) Q = Q (vs.map .one) (.keep a (.tup vs)) := rfl
theorem Zp3 {a : Addr} {es : List (Txt × AV)} {Q : List It → Gd → Prop} : itP a (.dict es) Q = Q (es.map fun e => .one (.str e.1)) (.ice a es) := rfl
theorem Zp4 {a : Addr} {vs : List AV} {y v : AV} {σ : Hp} {k : Hp → Prop} : stoP a (.list vs) y v σ k = IntP y fun i => OkP (ix i vs.length) fun j => SetO σ a (.list (vs.set j v)) k := rfl
theorem Zp5 {a : Addr} {es : List (Txt × AV)} {y v : AV} {σ : Hp} {k : Hp → Prop} : stoP a (.dict es) y v σ k = StrP y fun i => es.length < tooLong ∧ SetO σ a (.dict (dset es i v)) k := rfl
theorem Zt8 {σ : Hp} {s : Txt} {Q : List It → Gd → Prop} : pIters σ (.str s) Q = ((∀ c ∈ s, c < 128) ∧ Q (s.map fun c => .one (.str [c])) .no) := rfl
theorem Zt9 {σ : Hp} : kindIs σ .none = some "NoneType" := rfl
theorem Zt0 {σ : Hp} {b : Bool} : kindIs σ (.bool b) = some "bool" := rfl
theorem Zu1 {σ : Hp} {b : Int} : kindIs σ (.int b) = some "int" := rfl
theorem Zu2 {σ : Hp} {b : Txt} : kindIs σ (.str b) = some "str" := rfl
theorem Zu3 {σ : Hp} {a : Addr} : kindIs σ (.ref a) = kO (σ a) := rfl
theorem Zu4 {vs : List AV} : kO (some (.list vs)) = some "list" := rfl
theorem Zu5 {vs : List AV} : kO (some (.flist vs)) = some "list" := rfl
theorem Zu6 {vs : List AV} : kO (some (.tup vs)) = some "tuple" := rfl
theorem Zu7 {vs : List (Txt × AV)} : kO (some (.dict vs)) = some "dict" := rfl
theorem Zu8 {vs : List (Txt × AV)} : kO (some (.fdict vs)) = some "dict" := rfl
theorem Zu9 {ρ : Loc} : setAll ρ [] [] = ρ := rfl
theorem Zu0 {ρ : Loc} {i : Nat} {is : List Nat} {v : AV} {vs : List AV} : setAll ρ (i :: is) (v :: vs) = setAll (ρ.set i (some v)) is vs := rfl
theorem Zv1 : maskL [] [] = [] := rfl
theorem Zv2 {cs : List Bool} {v : Option AV} {vs : Loc} : maskL (true :: cs) (v :: vs) = v :: maskL cs vs := rfl
theorem Zv3 {cs : List Bool} {v : Option AV} {vs : Loc} : maskL (false :: cs) (v :: vs) = none :: maskL cs vs := rfl
theorem Zv4 {σ : Hp} {Q : Hp → Prop} : pIn .no σ Q = Q σ := rfl
theorem Zv5 {σ : Hp} {Q : Hp → Prop} {a : Addr} {o : AO} : pIn (.keep a o) σ Q = Q σ := rfl
theorem Zv6 {σ : Hp} {Q : Hp → Prop} : pOut .no σ Q = Q σ := rfl
theorem Zv7 {σ : Hp} {Q : Hp → Prop} {a : Addr} {o : AO} : pOut (.keep a o) σ Q = Q σ := rfl
theorem Zv8 : Gd.no.iced = false := rfl
theorem Zv9 {a : Addr} {o : AO} : (Gd.keep a o).iced = false := rfl
theorem Zw1 {r : Loc} {x : Option AV} : locAt (x :: r) 0 = x := rfl
theorem Zw2 {r : Loc} {x : Option AV} {i : Nat} : locAt (x :: r) (i + 1) = locAt r i := rfl
theorem Zw7 {σ : Hp} {a : Addr} {y v : AV} {k : Hp → Prop} : StoP (.ref a) y v σ k = OkP (σ a) fun o => stoP a o y v σ k := rfl
theorem Zw8 : strs? [] = some [] := rfl
theorem Zw9 {s : Txt} {r : List AV} : strs? (.str s :: r) = (strs? r).map (s :: ·) := rfl
theorem Zo0 : isOf "NoneType" ["str"] = false := rfl
theorem Zo1 : isOf "NoneType" ["int"] = false := rfl
theorem Zo2 : isOf "NoneType" ["bool"] = false := rfl
theorem Zo3 : isOf "NoneType" ["tuple"] = false := rfl
theorem Zo4 : isOf "NoneType" ["list"] = false := rfl
theorem Zo5 : isOf "NoneType" ["dict"] = false := rfl
theorem Zo6 : isOf "NoneType" ["tuple", "list", "dict"] = false := rfl
theorem Zo7 : isOf "NoneType" ["tuple", "list"] = false := rfl
theorem Zo8 : isOf "bool" ["str"] = false := rfl
theorem Zo9 : isOf "bool" ["int"] = true := rfl
theorem Zo10 : isOf "bool" ["bool"] = true := rfl
theorem Zo11 : isOf "bool" ["tuple"] = false := rfl
theorem Zo12 : isOf "bool" ["list"] = false := rfl
theorem Zo13 : isOf "bool" ["dict"] = false := rfl
theorem Zo14 : isOf "bool" ["tuple", "list", "dict"] = false := rfl
theorem Zo15 : isOf "bool" ["tuple", "list"] = false := rfl
theorem Zo16 : isOf "int" ["str"] = false := rfl
theorem Zo17 : isOf "int" ["int"] = true := rfl
theorem Zo18 : isOf "int" ["bool"] = false := rfl
theorem Zo19 : isOf "int" ["tuple"] = false := rfl
theorem Zo20 : isOf "int" ["list"] = false := rfl
theorem Zo21 : isOf "int" ["dict"] = false := rfl
theorem Zo22 : isOf "int" ["tuple", "list", "dict"] = false := rfl
theorem Zo23 : isOf "int" ["tuple", "list"] = false := rfl
theorem Zo24 : isOf "str" ["str"] = true := rfl
theorem Zo25 : isOf "str" ["int"] = false := rfl
theorem Zo26 : isOf "str" ["bool"] = false := rfl
theorem Zo27 : isOf "str" ["tuple"] = false := rfl
theorem Zo28 : isOf "str" ["list"] = false := rfl
theorem Zo29 : isOf "str" ["dict"] = false := rfl
theorem Zo30 : isOf "str" ["tuple", "list", "dict"] = false := rfl
theorem Zo31 : isOf "str" ["tuple", "list"] = false := rfl
theorem Zo32 : isOf "list" ["str"] = false := rfl
theorem Zo33 : isOf "list" ["int"] = false := rfl
theorem Zo34 : isOf "list" ["bool"] = false := rfl
theorem Zo35 : isOf "list" ["tuple"] = false := rfl
theorem Zo36 : isOf "list" ["list"] = true := rfl
theorem Zo37 : isOf "list" ["dict"] = false := rfl
theorem Zo38 : isOf "list" ["tuple", "list", "dict"] = true := rfl
theorem Zo39 : isOf "list" ["tuple", "list"] = true := rfl
theorem Zo40 : isOf "tuple" ["str"] = false := rfl
theorem Zo41 : isOf "tuple" ["int"] = false := rfl
theorem Zo42 : isOf "tuple" ["bool"] = false := rfl
theorem Zo43 : isOf "tuple" ["tuple"] = true := rfl
theorem Zo44 : isOf "tuple" ["list"] = false := rfl
theorem Zo45 : isOf "tuple" ["dict"] = false := rfl
theorem Zo46 : isOf "tuple" ["tuple", "list", "dict"] = true := rfl
theorem Zo47 : isOf "tuple" ["tuple", "list"] = true := rfl
theorem Zo48 : isOf "dict" ["str"] = false := rfl
theorem Zo49 : isOf "dict" ["int"] = false := rfl
theorem Zo50 : isOf "dict" ["bool"] = false := rfl
theorem Zo51 : isOf "dict" ["tuple"] = false := rfl
theorem Zo52 : isOf "dict" ["list"] = false := rfl
theorem Zo53 : isOf "dict" ["dict"] = true := rfl
theorem Zo54 : isOf "dict" ["tuple", "list", "dict"] = true := rfl
theorem Zo55 : isOf "dict" ["tuple", "list"] = false := rfl
theorem Zx1 {α β : Type} {f : α → β} {a : α} {l : List α} : List.map f (a :: l) = f a :: List.map f l := rfl
theorem Zx2 {α β : Type} {f : α → β} : List.map f [] = [] := rfl
theorem Zx3 {α β : Type} {f : α → β} {a : α} : Option.map f (some a) = some (f a) := rfl
theorem Zx4 {α β : Type} {f : α → β} : Option.map f none = none := rfl
theorem Zx5 {α : Type} {x v : α} {r : List α} : List.set (x :: r) 0 v = v :: r := rfl
theorem Zx6 {α : Type} {x v : α} {r : List α} {i : Nat} : List.set (x :: r) (i + 1) v = x :: List.set r i v := rfl
theorem Zx7 {α : Type} {x : α} {r : List α} : List.length (x :: r) = List.length r + 1 := rfl
theorem Zx8 {α : Type} : List.length ([] : List α) = 0 := rfl
theorem Zx9 {α : Type} {x : α} {r s : List α} : (x :: r) ++ s = x :: (r ++ s) := rfl
theorem Zx0 {α : Type} {s : List α} : [] ++ s = s := rfl
theorem Zb0 : (!true) = false := rfl
theorem Zb1 : (!false) = true := rfl
theorem Zc0 : ((0 : Nat) : Int) = 0 := rfl
theorem Zc1 : ((1 : Nat) : Int) = 1 := rfl
theorem Zc2 : ((2 : Nat) : Int) = 2 := rfl
theorem Zc3 : ((3 : Nat) : Int) = 3 := rfl
theorem Zc4 : ((4 : Nat) : Int) = 4 := rfl
theorem Zc5 : ((5 : Nat) : Int) = 5 := rfl
theorem Zc6 : ((6 : Nat) : Int) = 6 := rfl
theorem Zc7 : ((7 : Nat) : Int) = 7 := rfl
theorem ent' {K : Kx} {tab : List (String × Fn)} (T : Tab K tab) {n : String} (fn : Fn) (hm : (n, fn) ∈ tab) {d : Nat} {vs : List AV} {σ : Hp} {Q : Post} {X : XPost} (hl : vs.length = fn.np) {ρ : Loc} (hr : args1 fn.names vs = ρ)
    (h : pSs K false d fn.body ρ σ (fun _ σ' => Q .none σ') Q (fun _ a σ' => X a σ')) : K.fn false d n vs σ Q X := T.ent n fn hm hl (by rw [hr]; exact h)
theorem ix_ok {i : Int} {n : Nat} (h0 : 0 ≤ i) (h1 : i < n) (hl : n < tooLong) : ix i n = some i.toNat := by
  have ht : tooLong = 1000000 := rfl
  unfold ix
  rw [if_pos ⟨h0, h1, by omega⟩]
theorem okP {α : Type} {o : Option α} {v : α} {k : α → Prop} (h : o = some v) (hk : k v) : OkP o k := by rw [h]; exact hk
theorem wif {b : Bool} {p q : Prop} (h1 : b = true → p) (h2 : b = false → q) : WifP b p q := by cases b; exact h2 rfl; exact h1 rfl
theorem wifd {c : Prop} [Decidable c] {p q : Prop} (h1 : c → p) (h2 : ¬ c → q) : WifP (decide c) p q := wif (fun e => h1 (of_decide_eq_true e)) fun e => h2 (of_decide_eq_false e)
theorem wifn {b : Bool} {p q : Prop} (h : WifP b q p) : WifP (!b) p q := by cases b <;> exact h
theorem newO {σ : Hp} {o : AO} {Q : Post} (h : ∀ a σ', σ a = none → Le σ σ' → σ' a = some o → Q (.ref a) σ') : NewO σ o Q := fun a ha => h a _ ha (Le.new ha) (setH_here _ _ _)
theorem setO {σ : Hp} {a : Addr} {o : AO} {k : Hp → Prop} (h : ∀ σ', σ' a = some o → (∀ b, b ≠ a → σ' b = σ b) → k σ') : SetO σ a o k := h _ (setH_here _ _ _) fun _ hb => setH_ne hb
/-- a store into an object that is newer than σ₀ -/
theorem setN {σ₀ σ : Hp} {a : Addr} {o : AO} {k : Hp → Prop} (hle : Le σ₀ σ) (hf : σ₀ a = none) (h : ∀ σ', σ' a = some o → Le σ₀ σ' → (∀ b, b ≠ a → σ' b = σ b) → k σ') : SetO σ a o k := h _ (setH_here _ _ _) (Le.set hle hf) fun _ hb => setH_ne hb
theorem inS {σ : Hp} {xs : List AV} {x : AV} {k : Bool → Prop} (hx : x.scal = true) (ha : xs.all AV.scal = true) (hk : k (xs.any (eqS · x))) : InS σ xs x k := ⟨_, any_is hx ha, hk⟩
section
variable {K : Kx} {hd : Bool} {d : Nat} {ρ : Loc} {σ : Hp} {Qn : SPost} {Qr : Post} {X : SX}
/-- one row, then the others -/
theorem seq {s : PS} {r : List PS} (h : ∀ R : SPost, (∀ ρ' σ', pSs K hd d r ρ' σ' Qn Qr X → R ρ' σ') → s K hd d ρ σ R Qr X) : pSs K hd d (s :: r) ρ σ Qn Qr X := h _ fun _ _ q => q
theorem last {s : PS} (h : s K hd d ρ σ Qn Qr X) : pSs K hd d [s] ρ σ Qn Qr X := h
theorem iffI {c : PE} {a b : List PS} (h : ∀ A B : Hp → Prop, (∀ σ', pSs K hd d a ρ σ' Qn Qr X → A σ') → (∀ σ', pSs K hd d b ρ σ' Qn Qr X → B σ') → c K hd d ρ σ (fun v σ' => TruP v fun t => WifP t (A σ') (B σ')) (X ρ)) : PS.iff c a b K hd d ρ σ Qn Qr X := h _ _ (fun _ q => q) fun _ q => q
theorem forI {is : List Nat} {it : PI} {body : List PS} (h : ∀ F : List It → Gd → Hp → Prop, (∀ its g σ', pForL (fun ρ' σ'' k => pSs K hd d body ρ' σ'' k (fun v σ => g.iced = false ∧ Qr v σ) (fun ρ a σ => g.iced = false ∧ X ρ a σ)) is g its ρ σ' Qn → F its g σ') → it K hd d ρ σ (fun its g σ' => pIn g σ' fun σ' => F its g σ') (X ρ)) : PS.for is it body K hd d ρ σ Qn Qr X := h _ fun _ _ _ q => q
end
section
variable {σ : Hp} {vs : List AV} {es : List (Txt × AV)} {a : Addr}
theorem kList (h : σ a = some (.list vs)) : kO (σ a) = some "list" := by rw [h]; rfl
theorem kFlist (h : σ a = some (.flist vs)) : kO (σ a) = some "list" := by rw [h]; rfl
theorem kTup (h : σ a = some (.tup vs)) : kO (σ a) = some "tuple" := by rw [h]; rfl
theorem kDict (h : σ a = some (.dict es)) : kO (σ a) = some "dict" := by rw [h]; rfl
end
end U
open U PySem
set_option maxRecDepth 100000
local macro_rules
  | `(tactic| walk_at "ug") => do
    let ids := ("U.PS.expr U.PS.ret U.PS.assign U.pEs U.pC U.PE.lit U.PE.loc U.PE.prim U.PE.bm U.PE.and U.PE.or U.PE.ite U.PE.cmp2 U.PE.fn U.PE.attr U.PE.meth U.PE.new U.PE.dict U.ObjP U.PE.comp U.PI.val U.PI.range U.Tgt.name U.Tgt.tup U.Tgt.item U.Tgt.attr U.Op.add U.Op.sub U.Op.mul U.Op.fdiv U.Op.mod U.Op.neg U.Op.not U.Op.eq U.Op.ne U.Op.lt U.Op.le U.Op.gt U.Op.ge U.Op.is U.Op.isnot U.Op.isin U.Op.notin U.Op.len U.Op.isinst U.Op.toInt U.Op.toStr U.Op.toDict U.Op.min U.Op.max U.Op.all U.Op.item U.Op.slice U.Op.mkList U.Op.mkTup U.Op.mkDict0 U.BOp.append U.BOp.extend U.BOp.pop U.BOp.get U.BOp.index U.BOp.join U.Zz1 U.Zz2 U.Zz3 U.Zz4 U.Zz5 U.Zz6 U.Zz7 U.Zz8 U.Zz9 U.Zy1 U.Zy2 U.Zy3 U.Zy4 U.Zy5 U.Zy6 U.Zy7 U.Zy8 U.Zy9 U.Zy0 U.Zeii U.Znii U.Zeib U.Znib U.Zeis U.Znis U.Zein U.Znin U.Zebi U.Znbi U.Zebb U.Znbb U.Zebs U.Znbs U.Zebn U.Znbn U.Zesi U.Znsi U.Zesb U.Znsb U.Zess U.Znss U.Zesn U.Znsn U.Zeni U.Znni U.Zenb U.Znnb U.Zens U.Znns U.Zenn U.Znnn U.Zq0 U.Zq1 U.Zq2 U.Zq3 U.Zq4 U.Zq5 U.Zq6 U.Zq7 U.Zq8 U.Zq9 U.Zr1 U.Zr2 U.Zr3 U.Zr4 U.Zr5 U.Zr5t U.Zk1 U.Zk2 U.Zk3 U.Zr6 U.Zr7 U.Zr8 U.Zr9 U.Zr0 U.Zt1 U.Zt2 U.Zt3 U.Zt4 U.Zt5 U.Zt6 U.Zt7 U.Zp1 U.Zp2 U.Zp3 U.Zp4 U.Zp5 U.Zt8 U.Zt9 U.Zt0 U.Zu1 U.Zu2 U.Zu3 U.Zu4 U.Zu5 U.Zu6 U.Zu7 U.Zu8 U.Zu9 U.Zu0 U.Zv1 U.Zv2 U.Zv3 U.Zv4 U.Zv5 U.Zv6 U.Zv7 U.Zv8 U.Zv9 U.Zw1 U.Zw2 U.Zw7 U.Zw8 U.Zw9 U.Zc0 U.Zc1 U.Zc2 U.Zc3 U.Zc4 U.Zc5 U.Zc6 U.Zc7 U.Zx1 U.Zx2 U.Zx3 U.Zx4 U.Zx5 U.Zx6 U.Zx7 U.Zx8 U.Zx9 U.Zx0 U.Zb0 U.Zb1 Nat.reduceAdd Nat.reduceSub Int.reduceNeg Int.reduceAdd Int.reduceSub Int.reduceMul Int.reduceBEq Int.reduceBNe Nat.reduceBEq".splitOn " ").toArray.map fun s => Lean.mkIdent s.toName
    `(tactic| (repeat (first | dsimp only [$[$ids:term],*] | with_reducible refine okP (by assumption) ?_ | (with_reducible refine And.intro ?_ ?_; (first | assumption | decide | omega | rfl | exact kDict (by assumption) | exact kList (by assumption) | exact kFlist (by assumption) | exact kTup (by assumption))) | with_reducible refine okP (by first | exact itemL_0 | exact itemL_1 | exact itemL_2 | exact itemL_3 | exact itemL_4 | exact kDict (by assumption) | exact kList (by assumption) | exact kTup (by assumption)) ?_)))
namespace U
open PySem
/-- held: ['thing', 'boxes'] -/
noncomputable def f_held : Fn := ⟨2, 2, [.iff (.prim (.isinst ["str"]) [(.loc 0)]) [.ret (.bm .get (.loc 1) [(.loc 0), (.lit (.int 0))])] [],
  .ret (.loc 0)]⟩
/-- answer: ['sign', 'one', 'other'] -/
noncomputable def f_answer : Fn := ⟨3, 3, [.iff (.prim .eq [(.loc 0), (.lit (.str [60]))]) [.ret (.prim .lt [(.loc 1), (.loc 2)])] [],
  .iff (.prim .eq [(.loc 0), (.lit (.str [61]))]) [.ret (.prim .eq [(.loc 1), (.loc 2)])] [],
  .iff (.prim .eq [(.loc 0), (.lit (.str [62, 61]))]) [.ret (.prim .ge [(.loc 1), (.loc 2)])] [],
  .ret (.prim .ne [(.loc 1), (.loc 2)])]⟩
/-- reckoned: ['total', 'boxes', 'one', 'other'] -/
noncomputable def f_reckoned : Fn := ⟨2, 4, [.iff (.prim .eq [(.prim .len [(.loc 0)]), (.lit (.int 1))]) [.ret (.fn "held" [(.prim .item [(.loc 0), (.lit (.int 0))]), (.loc 1)])] [],
  .assign (.name 2) (.fn "held" [(.prim .item [(.loc 0), (.lit (.int 1))]), (.loc 1)]),
  .assign (.name 3) (.fn "held" [(.prim .item [(.loc 0), (.lit (.int 2))]), (.loc 1)]),
  .iff (.prim .eq [(.prim .item [(.loc 0), (.lit (.int 0))]), (.lit (.str [43]))]) [.ret (.prim .mod [(.prim .add [(.loc 2), (.loc 3)]), (.lit (.int 1000000))])] [],
  .iff (.prim .eq [(.prim .item [(.loc 0), (.lit (.int 0))]), (.lit (.str [45]))]) [.ret (.prim .mod [(.prim .sub [(.loc 2), (.loc 3)]), (.lit (.int 1000000))])] [],
  .iff (.prim .eq [(.prim .item [(.loc 0), (.lit (.int 0))]), (.lit (.str [42]))]) [.ret (.prim .mod [(.prim .mul [(.loc 2), (.loc 3)]), (.lit (.int 1000000))])] [],
  .ret (.prim .toInt [(.fn "answer" [(.prim .item [(.loc 0), (.lit (.int 0))]), (.loc 2), (.loc 3)])])]⟩
/-- asked: ['question', 'boxes'] -/
noncomputable def f_asked : Fn := ⟨2, 2, [.ret (.fn "answer" [(.prim .item [(.loc 0), (.lit (.int 0))]), (.fn "held" [(.prim .item [(.loc 0), (.lit (.int 1))]), (.loc 1)]), (.fn "held" [(.prim .item [(.loc 0), (.lit (.int 2))]), (.loc 1)])])]⟩
/-- _law_cell_at: ['_law_script', '_law_k'] -/
noncomputable def f__law_cell_at : Fn := ⟨2, 2, [.iff (.prim .lt [(.loc 1), (.prim .len [(.loc 0)])]) [.ret (.prim .item [(.loc 0), (.loc 1)])] [],
  .ret (.lit (.int 0))]⟩
/-- _law_mixed: ['_law_cell', '_law_k', '_law_number'] -/
noncomputable def f__law_mixed : Fn := ⟨2, 3, [.assign (.name 2) (.prim .mod [(.prim .mul [(.prim .add [(.prim .add [(.loc 0), (.prim .mul [(.lit (.int 7)), (.loc 1)])]), (.lit (.int 3))]), (.lit (.int 48271))]), (.lit (.int 2147483647))]),
  .ret (.prim .mod [(.prim .mul [(.loc 2), (.loc 2)]), (.lit (.int 2147483647))])]⟩
/-- _law_whole: ['_law_found'] -/
noncomputable def f__law_whole : Fn := ⟨1, 1, [.ret (.and (.prim (.isinst ["int"]) [(.loc 0)]) (.prim .not [(.prim (.isinst ["bool"]) [(.loc 0)])]))]⟩
/-- _law_thing: ['_law_number', '_law_own', '_law_names_here', '_law_name', '_law_some'] -/
noncomputable def f__law_thing : Fn := ⟨3, 5, [.assign (.name 3) (.prim .item [(.loc 2), (.prim .mod [(.prim .fdiv [(.loc 0), (.lit (.int 2))]), (.lit (.int 5))])]),
  .iff (.and (.prim .eq [(.prim .mod [(.loc 0), (.lit (.int 2))]), (.lit (.int 0))]) (.prim .ne [(.loc 3), (.loc 1)])) [.ret (.loc 3)] [],
  .assign (.name 4) (.prim .mkList [(.prim .mod [(.prim .fdiv [(.loc 0), (.lit (.int 2))]), (.lit (.int 4))]), (.prim .mod [(.prim .fdiv [(.loc 0), (.lit (.int 2))]), (.lit (.int 1000))]), (.prim .mod [(.prim .fdiv [(.loc 0), (.lit (.int 2))]), (.lit (.int 1000000))]), (.prim .sub [(.lit (.int 999999)), (.prim .mod [(.prim .fdiv [(.loc 0), (.lit (.int 2))]), (.lit (.int 3))])])]),
  .ret (.prim .item [(.loc 4), (.prim .mod [(.prim .fdiv [(.loc 0), (.lit (.int 20))]), (.lit (.int 4))])])]⟩
/-- _law_sum: ['_law_number', '_law_own', '_law_names_here', '_law_one'] -/
noncomputable def f__law_sum : Fn := ⟨3, 4, [.assign (.name 3) (.fn "_law_thing" [(.prim .fdiv [(.loc 0), (.lit (.int 8))]), (.loc 1), (.loc 2)]),
  .iff (.prim .eq [(.prim .mod [(.loc 0), (.lit (.int 8))]), (.lit (.int 0))]) [.ret (.prim .mkTup [(.loc 3)])] [],
  .ret (.prim .mkTup [(.prim .item [(.prim .mkList [(.lit (.str [43])), (.lit (.str [45])), (.lit (.str [42])), (.lit (.str [60])), (.lit (.str [61])), (.lit (.str [62, 61])), (.lit (.str [33, 61]))]), (.prim .sub [(.prim .mod [(.loc 0), (.lit (.int 8))]), (.lit (.int 1))])]), (.loc 3), (.fn "_law_thing" [(.prim .fdiv [(.loc 0), (.lit (.int 640))]), (.loc 1), (.loc 2)])])]⟩
/-- _law_question: ['_law_number', '_law_names_here', '_law_one'] -/
noncomputable def f__law_question : Fn := ⟨2, 3, [.assign (.name 2) (.fn "_law_thing" [(.prim .fdiv [(.loc 0), (.lit (.int 4))]), (.lit (.str [])), (.loc 1)]),
  .ret (.prim .mkTup [(.prim .item [(.prim .mkList [(.lit (.str [60])), (.lit (.str [61])), (.lit (.str [62, 61])), (.lit (.str [33, 61]))]), (.prim .mod [(.loc 0), (.lit (.int 4))])]), (.loc 2), (.fn "_law_thing" [(.prim .fdiv [(.loc 0), (.lit (.int 320))]), (.lit (.str [])), (.loc 1)])])]⟩
/-- _law_boxes: ['_law_cell', '_law_names_here', '_law_found', '_law_k', '_law_number', '_law_more'] -/
noncomputable def f__law_boxes : Fn := ⟨2, 6, [.assign (.name 2) (.prim .mkDict0 []),
  .for [3] (.range [(.lit (.int 6))]) [.assign (.name 4) (.fn "_law_mixed" [(.loc 0), (.prim .mul [(.lit (.int 3)), (.loc 3)])]),
  .iff (.prim .gt [(.prim .mod [(.loc 4), (.lit (.int 5))]), (.lit (.int 0))]) [.assign (.name 5) (.prim .fdiv [(.loc 4), (.lit (.int 5))]),
  .assign (.item (.loc 2) (.prim .item [(.loc 1), (.loc 3)])) (.prim .item [(.prim .mkList [(.prim .mod [(.loc 5), (.lit (.int 4))]), (.prim .mod [(.loc 5), (.lit (.int 4))]), (.prim .mod [(.loc 5), (.lit (.int 1000))]), (.prim .mod [(.loc 5), (.lit (.int 1000000))])]), (.prim .mod [(.loc 4), (.lit (.int 4))])])] []],
  .ret (.loc 2)]⟩
/-- _law_left: ['_law_boxes_here', '_law_found', '_law_name'] -/
noncomputable def f__law_left : Fn := ⟨1, 3, [.assign (.name 1) (.prim .mkDict0 []),
  .for [2] (.val (.loc 0)) [.iff (.prim .ne [(.prim .item [(.loc 0), (.loc 2)]), (.lit (.int 0))]) [.assign (.item (.loc 1) (.loc 2)) (.prim .item [(.loc 0), (.loc 2)])] []],
  .ret (.loc 1)]⟩
/-- _law_value: ['_law_thing_here', '_law_boxes_here'] -/
noncomputable def f__law_value : Fn := ⟨2, 2, [.iff (.prim (.isinst ["str"]) [(.loc 0)]) [.ret (.bm .get (.loc 1) [(.loc 0), (.lit (.int 0))])] [],
  .ret (.loc 0)]⟩
/-- _law_true: ['_law_question_here', '_law_boxes_here', '_law_one', '_law_other'] -/
noncomputable def f__law_true : Fn := ⟨2, 4, [.assign (.name 2) (.fn "_law_value" [(.prim .item [(.loc 0), (.lit (.int 1))]), (.loc 1)]),
  .assign (.name 3) (.fn "_law_value" [(.prim .item [(.loc 0), (.lit (.int 2))]), (.loc 1)]),
  .ret (.prim .item [(.prim .mkList [(.prim .lt [(.loc 2), (.loc 3)]), (.prim .eq [(.loc 2), (.loc 3)]), (.prim .ge [(.loc 2), (.loc 3)]), (.prim .ne [(.loc 2), (.loc 3)])]), (.bm .index (.prim .mkList [(.lit (.str [60])), (.lit (.str [61])), (.lit (.str [62, 61])), (.lit (.str [33, 61]))]) [(.prim .item [(.loc 0), (.lit (.int 0))])])])]⟩
/-- _law_reckoned: ['_law_made', '_law_boxes_here', '_law_one', '_law_other'] -/
noncomputable def f__law_reckoned : Fn := ⟨2, 4, [.iff (.prim .eq [(.prim .len [(.loc 0)]), (.lit (.int 1))]) [.ret (.fn "_law_value" [(.prim .item [(.loc 0), (.lit (.int 0))]), (.loc 1)])] [],
  .iff (.prim .notin [(.prim .item [(.loc 0), (.lit (.int 0))]), (.prim .mkList [(.lit (.str [43])), (.lit (.str [45])), (.lit (.str [42]))])]) [.ret (.prim .toInt [(.fn "_law_true" [(.loc 0), (.loc 1)])])] [],
  .assign (.name 2) (.fn "_law_value" [(.prim .item [(.loc 0), (.lit (.int 1))]), (.loc 1)]),
  .assign (.name 3) (.fn "_law_value" [(.prim .item [(.loc 0), (.lit (.int 2))]), (.loc 1)]),
  .ret (.prim .mod [(.prim .item [(.prim .mkList [(.prim .add [(.loc 2), (.loc 3)]), (.prim .sub [(.loc 2), (.loc 3)]), (.prim .mul [(.loc 2), (.loc 3)])]), (.bm .index (.prim .mkList [(.lit (.str [43])), (.lit (.str [45])), (.lit (.str [42]))]) [(.prim .item [(.loc 0), (.lit (.int 0))])])]), (.lit (.int 1000000))])]⟩
noncomputable def tabA : List (String × Fn) := [("_law_cell_at", f__law_cell_at), ("_law_mixed", f__law_mixed), ("_law_whole", f__law_whole), ("_law_thing", f__law_thing), ("_law_sum", f__law_sum), ("_law_question", f__law_question)]
noncomputable def tabB : List (String × Fn) := [("held", f_held), ("answer", f_answer), ("reckoned", f_reckoned), ("asked", f_asked)]
noncomputable def tabC : List (String × Fn) := [("_law_value", f__law_value), ("_law_true", f__law_true), ("_law_reckoned", f__law_reckoned)]
noncomputable def tabE : List (String × Fn) := [("_law_mixed", f__law_mixed), ("_law_boxes", f__law_boxes)]
theorem Tab.sub {K : Kx} {tab tab' : List (String × Fn)} (T : Tab K tab) (h : ∀ p ∈ tab', p ∈ tab) : Tab K tab' := ⟨fun n f hm => T.ent n f (h _ hm)⟩
end U
namespace U
open PySem
set_option linter.unusedSimpArgs false
set_option linter.unusedVariables false
set_option linter.unusedSectionVars false
/-- a dict of numbers -/
noncomputable def dI (bs : List (Txt × Int)) : List (Txt × AV) := bs.map fun e => (e.1, .int e.2)
theorem dI_lookup : ∀ {bs : List (Txt × Int)} {k : Txt}, (dI bs).lookup k = (bs.lookup k).map .int
  | [], k => rfl
  | (x, i) :: r, k => by
    show List.lookup k ((x, AV.int i) :: dI r) = _
    rw [List.lookup_cons, List.lookup_cons]
    cases k == x with
    | true => rfl
    | false => exact dI_lookup
theorem dI_length {bs : List (Txt × Int)} : (dI bs).length = bs.length := by simp [dI]
noncomputable def dsetI (bs : List (Txt × Int)) (k : Txt) (i : Int) : List (Txt × Int) :=
  if bs.any (fun e => e.1 == k) then bs.map (fun e => if e.1 == k then (e.1, i) else e) else bs ++ [(k, i)]
theorem dset_dI {bs : List (Txt × Int)} {k : Txt} {i : Int} : dset (dI bs) k (.int i) = dI (dsetI bs k i) := by
  unfold dset dsetI dI
  rw [List.any_map]
  have : ((fun e : Txt × AV => e.1 == k) ∘ fun e : Txt × Int => (e.1, AV.int e.2)) = fun e => e.1 == k := rfl
  rw [this]
  split
  · rw [List.map_map, List.map_map]
    congr 1
    funext e
    simp only [Function.comp]
    split <;> rfl
  · simp
/-- numbers below a million -/
noncomputable def sm (i : Int) : Prop := 0 ≤ i ∧ i < 1000000
noncomputable def Sm (bs : List (Txt × Int)) : Prop := ∀ e ∈ bs, sm e.2
inductive Th where
  | s (k : Txt)
  | n (i : Int)
noncomputable def Th.av : Th → AV
  | .s k => .str k
  | .n i => .int i
noncomputable def val (bs : List (Txt × Int)) : Th → Int
  | .s k => (bs.lookup k).getD 0
  | .n i => i
noncomputable def Th.ok (own : Txt) (ns : List Txt) : Th → Prop
  | .s k => k ≠ own ∧ k ∈ ns
  | .n i => sm i
theorem lookup_some_mem {α : Type} : ∀ {bs : List (Txt × α)} {k : Txt} {v : α}, bs.lookup k = some v → (k, v) ∈ bs
  | (x, i) :: r, k, v, h => by
    rw [List.lookup_cons] at h
    split at h
    · rename_i q; rw [beq_iff_eq] at q; subst q; cases h; simp
    · exact List.mem_cons_of_mem _ (lookup_some_mem h)
theorem val_sm {bs : List (Txt × Int)} {own : Txt} {ns : List Txt} {x : Th} (h : Sm bs) (hx : x.ok own ns) : sm (val bs x) := by
  cases x with
  | n i => exact hx
  | s k =>
    show sm ((bs.lookup k).getD 0)
    cases q : bs.lookup k with
    | none => exact ⟨Int.le_refl 0, (by decide : (0 : Int) < 1000000)⟩
    | some v => exact h _ (lookup_some_mem q)
noncomputable def ansB (s : Txt) (a b : Int) : Bool := if s = [60] then decide (a < b) else if s = [61] then a == b else if s = [62, 61] then decide (b ≤ a) else !(a == b)
noncomputable def recI (s : Txt) (a b : Int) : Int := if s = [43] then Int.fmod (a + b) 1000000 else if s = [45] then Int.fmod (a - b) 1000000 else if s = [42] then Int.fmod (a * b) 1000000 else b2i (ansB s a b)
noncomputable def signs4 : List Txt := [[60], [61], [62, 61], [33, 61]]
noncomputable def signs7 : List Txt := [[43], [45], [42], [60], [61], [62, 61], [33, 61]]
inductive Tot where
  | one (x : Th)
  | two (s : Txt) (x y : Th)
noncomputable def Tot.avs : Tot → List AV
  | .one x => [x.av]
  | .two s x y => [.str s, x.av, y.av]
noncomputable def Tot.ok (own : Txt) (ns : List Txt) : Tot → Prop
  | .one x => x.ok own ns
  | .two s x y => s ∈ signs7 ∧ x.ok own ns ∧ y.ok own ns
noncomputable def totI (bs : List (Txt × Int)) : Tot → Int
  | .one x => val bs x
  | .two s x y => recI s (val bs x) (val bs y)
structure Qu where
  s : Txt
  x : Th
  y : Th
noncomputable def Qu.avs (q : Qu) : List AV := [.str q.s, q.x.av, q.y.av]
noncomputable def Qu.ok (ns : List Txt) (q : Qu) : Prop := q.s ∈ signs4 ∧ q.x.ok [] ns ∧ q.y.ok [] ns
noncomputable def quB (bs : List (Txt × Int)) (q : Qu) : Bool := ansB q.s (val bs q.x) (val bs q.y)
theorem b2i_sm (b : Bool) : sm (b2i b) := by cases b <;> exact ⟨by decide, by decide⟩
theorem fmod_sm (a : Int) : sm (Int.fmod a 1000000) := ⟨fmod_lo a (by decide), fmod_hi a (by decide)⟩
theorem recI_sm (s : Txt) (a b : Int) : sm (recI s a b) := by
  unfold recI
  split
  · exact fmod_sm _
  · split
    · exact fmod_sm _
    · split
      · exact fmod_sm _
      · exact b2i_sm _
theorem totI_sm {bs : List (Txt × Int)} {own : Txt} {ns : List Txt} {t : Tot} (h : Sm bs) (ht : t.ok own ns) : sm (totI bs t) := by
  cases t with
  | one x => exact val_sm h ht
  | two s x y => exact recI_sm _ _ _
noncomputable def mixI (c k : Int) : Int := Int.fmod (Int.fmod ((c + 7 * k + 3) * 48271) 2147483647 * Int.fmod ((c + 7 * k + 3) * 48271) 2147483647) 2147483647
theorem val_s (bs : List (Txt × Int)) (k : Txt) : ((dI bs).lookup k).getD (.int 0) = .int (val bs (.s k)) := by
  rw [dI_lookup]; show _ = AV.int ((bs.lookup k).getD 0); cases bs.lookup k <;> rfl
section
variable {K : Kx} (T : Tab K tabB) {d : Nat} {σ : Hp} {Q : Post} {X : XPost} {a t : Addr} {bs : List (Txt × Int)}
include T
theorem s_held (h : σ a = some (.dict (dI bs))) (x : Th) (hq : Q (.int (val bs x)) σ) : K.fn false d "held" [x.av, .ref a] σ Q X := by
  cases x with
  | s k =>
    dsimp only [Th.av]
    (refine ent' T f_held (by simp [tabB]) rfl (by simp only [f_held, args1, List.map_cons, List.map_nil, List.length_cons, List.length_nil, List.cons_append, List.nil_append, List.replicate, Nat.reduceAdd, Nat.reduceSub]; exact rfl) ?_; dsimp only [f_held])
    refine seq fun R hR => iffI fun A B hA hB => ?_
    (repeat (first | dsimp only [PS.expr, PS.ret, PS.assign, pEs, pC, PE.lit, PE.loc, PE.prim, PE.bm, PE.and, PE.or, PE.ite, PE.cmp2, PE.fn, PE.attr, PE.meth, PE.new, PE.dict, ObjP, PE.comp, PI.val, PI.range, Tgt.name, Tgt.tup, Tgt.item, Tgt.attr, Op.add, Op.sub, Op.mul, Op.fdiv, Op.mod, Op.neg, Op.not, Op.eq, Op.ne, Op.lt, Op.le, Op.gt, Op.ge, Op.is, Op.isnot, Op.isin, Op.notin, Op.len, Op.isinst, Op.toInt, Op.toStr, Op.toDict, Op.min, Op.max, Op.all, Op.item, Op.slice, Op.mkList, Op.mkTup, Op.mkDict0, BOp.append, BOp.extend, BOp.pop, BOp.get, BOp.index, BOp.join, Zz1, Zz2, Zz3, Zz4, Zz5, Zz6, Zz7, Zz8, Zz9, Zy1, Zy2, Zy3, Zy4, Zy5, Zy6, Zy7, Zy8, Zy9, Zy0, Zeii, Znii, Zeib, Znib, Zeis, Znis, Zein, Znin, Zebi, Znbi, Zebb, Znbb, Zebs, Znbs, Zebn, Znbn, Zesi, Znsi, Zesb, Znsb, Zess, Znss, Zesn, Znsn, Zeni, Znni, Zenb, Znnb, Zens, Znns, Zenn, Znnn, Zq0, Zq1, Zq2, Zq3, Zq4, Zq5, Zq6, Zq7, Zq8, Zq9, Zr1, Zr2, Zr3, Zr4, Zr5, Zr5t, Zk1, Zk2, Zk3, Zr6, Zr7, Zr8, Zr9, Zr0, Zt1, Zt2, Zt3, Zt4, Zt5, Zt6, Zt7, Zp1, Zp2, Zp3, Zp4, Zp5, Zt8, Zt9, Zt0, Zu1, Zu2, Zu3, Zu4, Zu5, Zu6, Zu7, Zu8, Zu9, Zu0, Zv1, Zv2, Zv3, Zv4, Zv5, Zv6, Zv7, Zv8, Zv9, Zw1, Zw2, Zw7, Zw8, Zw9, Zc0, Zc1, Zc2, Zc3, Zc4, Zc5, Zc6, Zc7, Zx1, Zx2, Zx3, Zx4, Zx5, Zx6, Zx7, Zx8, Zx9, Zx0, Zb0, Zb1, Nat.reduceAdd, Nat.reduceSub, Int.reduceNeg, Int.reduceAdd, Int.reduceSub, Int.reduceMul, Int.reduceBEq, Int.reduceBNe, Nat.reduceBEq, Zo0, Zo1, Zo2, Zo3, Zo4, Zo5, Zo6, Zo7, Zo8, Zo9, Zo10, Zo11, Zo12, Zo13, Zo14, Zo15, Zo16, Zo17, Zo18, Zo19, Zo20, Zo21, Zo22, Zo23, Zo24, Zo25, Zo26, Zo27, Zo28, Zo29, Zo30, Zo31, Zo32, Zo33, Zo34, Zo35, Zo36, Zo37, Zo38, Zo39, Zo40, Zo41, Zo42, Zo43, Zo44, Zo45, Zo46, Zo47, Zo48, Zo49, Zo50, Zo51, Zo52, Zo53, Zo54, Zo55] | with_reducible refine okP (by assumption) ?_ | (with_reducible refine And.intro ?_ ?_; (first | assumption | decide | omega | rfl | exact kDict (by assumption) | exact kList (by assumption) | exact kFlist (by assumption) | exact kTup (by assumption))) | with_reducible refine okP (by first | exact itemL_0 | exact itemL_1 | exact itemL_2 | exact itemL_3 | exact itemL_4 | exact kDict (by assumption) | exact kList (by assumption) | exact kTup (by assumption)) ?_))
    refine hA _ (last ?_)
    walk_at "ug"
    rw [val_s]; exact hq
  | n i =>
    dsimp only [Th.av]
    (refine ent' T f_held (by simp [tabB]) rfl (by simp only [f_held, args1, List.map_cons, List.map_nil, List.length_cons, List.length_nil, List.cons_append, List.nil_append, List.replicate, Nat.reduceAdd, Nat.reduceSub]; exact rfl) ?_; dsimp only [f_held])
    refine seq fun R hR => iffI fun A B hA hB => ?_
    (repeat (first | dsimp only [PS.expr, PS.ret, PS.assign, pEs, pC, PE.lit, PE.loc, PE.prim, PE.bm, PE.and, PE.or, PE.ite, PE.cmp2, PE.fn, PE.attr, PE.meth, PE.new, PE.dict, ObjP, PE.comp, PI.val, PI.range, Tgt.name, Tgt.tup, Tgt.item, Tgt.attr, Op.add, Op.sub, Op.mul, Op.fdiv, Op.mod, Op.neg, Op.not, Op.eq, Op.ne, Op.lt, Op.le, Op.gt, Op.ge, Op.is, Op.isnot, Op.isin, Op.notin, Op.len, Op.isinst, Op.toInt, Op.toStr, Op.toDict, Op.min, Op.max, Op.all, Op.item, Op.slice, Op.mkList, Op.mkTup, Op.mkDict0, BOp.append, BOp.extend, BOp.pop, BOp.get, BOp.index, BOp.join, Zz1, Zz2, Zz3, Zz4, Zz5, Zz6, Zz7, Zz8, Zz9, Zy1, Zy2, Zy3, Zy4, Zy5, Zy6, Zy7, Zy8, Zy9, Zy0, Zeii, Znii, Zeib, Znib, Zeis, Znis, Zein, Znin, Zebi, Znbi, Zebb, Znbb, Zebs, Znbs, Zebn, Znbn, Zesi, Znsi, Zesb, Znsb, Zess, Znss, Zesn, Znsn, Zeni, Znni, Zenb, Znnb, Zens, Znns, Zenn, Znnn, Zq0, Zq1, Zq2, Zq3, Zq4, Zq5, Zq6, Zq7, Zq8, Zq9, Zr1, Zr2, Zr3, Zr4, Zr5, Zr5t, Zk1, Zk2, Zk3, Zr6, Zr7, Zr8, Zr9, Zr0, Zt1, Zt2, Zt3, Zt4, Zt5, Zt6, Zt7, Zp1, Zp2, Zp3, Zp4, Zp5, Zt8, Zt9, Zt0, Zu1, Zu2, Zu3, Zu4, Zu5, Zu6, Zu7, Zu8, Zu9, Zu0, Zv1, Zv2, Zv3, Zv4, Zv5, Zv6, Zv7, Zv8, Zv9, Zw1, Zw2, Zw7, Zw8, Zw9, Zc0, Zc1, Zc2, Zc3, Zc4, Zc5, Zc6, Zc7, Zx1, Zx2, Zx3, Zx4, Zx5, Zx6, Zx7, Zx8, Zx9, Zx0, Zb0, Zb1, Nat.reduceAdd, Nat.reduceSub, Int.reduceNeg, Int.reduceAdd, Int.reduceSub, Int.reduceMul, Int.reduceBEq, Int.reduceBNe, Nat.reduceBEq, Zo0, Zo1, Zo2, Zo3, Zo4, Zo5, Zo6, Zo7, Zo8, Zo9, Zo10, Zo11, Zo12, Zo13, Zo14, Zo15, Zo16, Zo17, Zo18, Zo19, Zo20, Zo21, Zo22, Zo23, Zo24, Zo25, Zo26, Zo27, Zo28, Zo29, Zo30, Zo31, Zo32, Zo33, Zo34, Zo35, Zo36, Zo37, Zo38, Zo39, Zo40, Zo41, Zo42, Zo43, Zo44, Zo45, Zo46, Zo47, Zo48, Zo49, Zo50, Zo51, Zo52, Zo53, Zo54, Zo55] | with_reducible refine okP (by assumption) ?_ | (with_reducible refine And.intro ?_ ?_; (first | assumption | decide | omega | rfl | exact kDict (by assumption) | exact kList (by assumption) | exact kFlist (by assumption) | exact kTup (by assumption))) | with_reducible refine okP (by first | exact itemL_0 | exact itemL_1 | exact itemL_2 | exact itemL_3 | exact itemL_4 | exact kDict (by assumption) | exact kList (by assumption) | exact kTup (by assumption)) ?_))
    refine hB _ (hR _ _ (last ?_))
    walk_at "ug"
    exact hq
theorem s_answer (s : Txt) (x y : Int) (hq : Q (.bool (ansB s x y)) σ) : K.fn false d "answer" [.str s, .int x, .int y] σ Q X := by
  (refine ent' T f_answer (by simp [tabB]) rfl (by simp only [f_answer, args1, List.map_cons, List.map_nil, List.length_cons, List.length_nil, List.cons_append, List.nil_append, List.replicate, Nat.reduceAdd, Nat.reduceSub]; exact rfl) ?_; dsimp only [f_answer])
  refine seq fun R hR => iffI fun A B hA hB => ?_
  walk_at "ug"
  unfold ansB at hq
  refine wif (fun h1 => hA _ (last ?_)) fun h1 => hB _ (hR _ _ ?_) <;> simp only [beq_iff_eq, beq_eq_false_iff_ne, ne_eq] at h1 <;> simp only [h1, if_true, if_false] at hq
  · walk_at "ug"
    exact hq
  refine seq fun R hR => iffI fun A B hA hB => ?_
  walk_at "ug"
  refine wif (fun h1 => hA _ (last ?_)) fun h1 => hB _ (hR _ _ ?_) <;> simp only [beq_iff_eq, beq_eq_false_iff_ne, ne_eq] at h1 <;> simp only [h1, if_true, if_false] at hq
  · walk_at "ug"
    exact hq
  refine seq fun R hR => iffI fun A B hA hB => ?_
  walk_at "ug"
  refine wif (fun h1 => hA _ (last ?_)) fun h1 => hB _ (hR _ _ (last ?_)) <;> simp only [beq_iff_eq, beq_eq_false_iff_ne, ne_eq] at h1 <;> simp only [h1, if_true, if_false] at hq
  · walk_at "ug"
    exact hq
  · walk_at "ug"
    exact hq
theorem s_reckoned (hd : 0 < d) {own : Txt} {ns : List Txt} {m : Tot} (h : σ a = some (.dict (dI bs))) (ht : σ t = some (.tup m.avs)) (hb : Sm bs) (hm : m.ok own ns) (hq : Q (.int (totI bs m)) σ) : K.fn false d "reckoned" [.ref t, .ref a] σ Q X := by
  (refine ent' T f_reckoned (by simp [tabB]) rfl (by simp only [f_reckoned, args1, List.map_cons, List.map_nil, List.length_cons, List.length_nil, List.cons_append, List.nil_append, List.replicate, Nat.reduceAdd, Nat.reduceSub]; exact rfl) ?_; dsimp only [f_reckoned])
  cases m with
  | one x =>
    dsimp only [Tot.avs] at ht
    refine seq fun R hR => iffI fun A B hA hB => ?_
    walk_at "ug"
    refine hA _ (last ?_)
    walk_at "ug"
    exact s_held T h x hq
  | two s x y =>
    dsimp only [Tot.avs] at ht
    refine seq fun R hR => iffI fun A B hA hB => ?_
    walk_at "ug"
    refine hB _ (hR _ _ ?_)
    refine seq fun R hR => ?_
    walk_at "ug"
    refine s_held T h x (hR _ _ ?_)
    refine seq fun R hR => ?_
    walk_at "ug"
    refine s_held T h y (hR _ _ ?_)
    have hx := val_sm hb hm.2.1
    have hmul : (val bs x).natAbs < 2 ^ 64 := by unfold sm at hx; omega
    dsimp only [totI, recI] at hq
    refine seq fun R hR => iffI fun A B hA hB => ?_
    walk_at "ug"
    refine wif (fun h1 => hA _ (last ?_)) fun h1 => hB _ (hR _ _ ?_) <;> simp only [beq_iff_eq, beq_eq_false_iff_ne, ne_eq] at h1 <;> simp only [h1, if_true, if_false] at hq
    · walk_at "ug"
      exact hq
    refine seq fun R hR => iffI fun A B hA hB => ?_
    walk_at "ug"
    refine wif (fun h1 => hA _ (last ?_)) fun h1 => hB _ (hR _ _ ?_) <;> simp only [beq_iff_eq, beq_eq_false_iff_ne, ne_eq] at h1 <;> simp only [h1, if_true, if_false] at hq
    · walk_at "ug"
      exact hq
    refine seq fun R hR => iffI fun A B hA hB => ?_
    walk_at "ug"
    refine wif (fun h1 => hA _ (last ?_)) fun h1 => hB _ (hR _ _ (last ?_)) <;> simp only [beq_iff_eq, beq_eq_false_iff_ne, ne_eq] at h1 <;> simp only [h1, if_true, if_false] at hq
    · walk_at "ug"
      exact hq
    · walk_at "ug"
      exact s_answer T s _ _ hq
theorem s_asked (hd : 0 < d) {q : Qu} (h : σ a = some (.dict (dI bs))) (ht : σ t = some (.tup q.avs)) (hq : Q (.bool (quB bs q)) σ) : K.fn false d "asked" [.ref t, .ref a] σ Q X := by
  dsimp only [Qu.avs] at ht
  (refine ent' T f_asked (by simp [tabB]) rfl (by simp only [f_asked, args1, List.map_cons, List.map_nil, List.length_cons, List.length_nil, List.cons_append, List.nil_append, List.replicate, Nat.reduceAdd, Nat.reduceSub]; exact rfl) ?_; dsimp only [f_asked])
  refine last ?_
  walk_at "ug"
  refine s_held T h q.x ?_
  walk_at "ug"
  refine s_held T h q.y ?_
  walk_at "ug"
  exact s_answer T _ _ _ hq
end
section
variable {K : Kx} (T : Tab K tabC) {d : Nat} {σ : Hp} {Q : Post} {X : XPost} {a t : Addr} {bs : List (Txt × Int)}
include T
theorem s_value (h : σ a = some (.dict (dI bs))) (x : Th) (hq : Q (.int (val bs x)) σ) : K.fn false d "_law_value" [x.av, .ref a] σ Q X := by
  cases x with
  | s k =>
    dsimp only [Th.av]
    (refine ent' T f__law_value (by simp [tabC]) rfl (by simp only [f__law_value, args1, List.map_cons, List.map_nil, List.length_cons, List.length_nil, List.cons_append, List.nil_append, List.replicate, Nat.reduceAdd, Nat.reduceSub]; exact rfl) ?_; dsimp only [f__law_value])
    refine seq fun R hR => iffI fun A B hA hB => ?_
    (repeat (first | dsimp only [PS.expr, PS.ret, PS.assign, pEs, pC, PE.lit, PE.loc, PE.prim, PE.bm, PE.and, PE.or, PE.ite, PE.cmp2, PE.fn, PE.attr, PE.meth, PE.new, PE.dict, ObjP, PE.comp, PI.val, PI.range, Tgt.name, Tgt.tup, Tgt.item, Tgt.attr, Op.add, Op.sub, Op.mul, Op.fdiv, Op.mod, Op.neg, Op.not, Op.eq, Op.ne, Op.lt, Op.le, Op.gt, Op.ge, Op.is, Op.isnot, Op.isin, Op.notin, Op.len, Op.isinst, Op.toInt, Op.toStr, Op.toDict, Op.min, Op.max, Op.all, Op.item, Op.slice, Op.mkList, Op.mkTup, Op.mkDict0, BOp.append, BOp.extend, BOp.pop, BOp.get, BOp.index, BOp.join, Zz1, Zz2, Zz3, Zz4, Zz5, Zz6, Zz7, Zz8, Zz9, Zy1, Zy2, Zy3, Zy4, Zy5, Zy6, Zy7, Zy8, Zy9, Zy0, Zeii, Znii, Zeib, Znib, Zeis, Znis, Zein, Znin, Zebi, Znbi, Zebb, Znbb, Zebs, Znbs, Zebn, Znbn, Zesi, Znsi, Zesb, Znsb, Zess, Znss, Zesn, Znsn, Zeni, Znni, Zenb, Znnb, Zens, Znns, Zenn, Znnn, Zq0, Zq1, Zq2, Zq3, Zq4, Zq5, Zq6, Zq7, Zq8, Zq9, Zr1, Zr2, Zr3, Zr4, Zr5, Zr5t, Zk1, Zk2, Zk3, Zr6, Zr7, Zr8, Zr9, Zr0, Zt1, Zt2, Zt3, Zt4, Zt5, Zt6, Zt7, Zp1, Zp2, Zp3, Zp4, Zp5, Zt8, Zt9, Zt0, Zu1, Zu2, Zu3, Zu4, Zu5, Zu6, Zu7, Zu8, Zu9, Zu0, Zv1, Zv2, Zv3, Zv4, Zv5, Zv6, Zv7, Zv8, Zv9, Zw1, Zw2, Zw7, Zw8, Zw9, Zc0, Zc1, Zc2, Zc3, Zc4, Zc5, Zc6, Zc7, Zx1, Zx2, Zx3, Zx4, Zx5, Zx6, Zx7, Zx8, Zx9, Zx0, Zb0, Zb1, Nat.reduceAdd, Nat.reduceSub, Int.reduceNeg, Int.reduceAdd, Int.reduceSub, Int.reduceMul, Int.reduceBEq, Int.reduceBNe, Nat.reduceBEq, Zo0, Zo1, Zo2, Zo3, Zo4, Zo5, Zo6, Zo7, Zo8, Zo9, Zo10, Zo11, Zo12, Zo13, Zo14, Zo15, Zo16, Zo17, Zo18, Zo19, Zo20, Zo21, Zo22, Zo23, Zo24, Zo25, Zo26, Zo27, Zo28, Zo29, Zo30, Zo31, Zo32, Zo33, Zo34, Zo35, Zo36, Zo37, Zo38, Zo39, Zo40, Zo41, Zo42, Zo43, Zo44, Zo45, Zo46, Zo47, Zo48, Zo49, Zo50, Zo51, Zo52, Zo53, Zo54, Zo55] | with_reducible refine okP (by assumption) ?_ | (with_reducible refine And.intro ?_ ?_; (first | assumption | decide | omega | rfl | exact kDict (by assumption) | exact kList (by assumption) | exact kFlist (by assumption) | exact kTup (by assumption))) | with_reducible refine okP (by first | exact itemL_0 | exact itemL_1 | exact itemL_2 | exact itemL_3 | exact itemL_4 | exact kDict (by assumption) | exact kList (by assumption) | exact kTup (by assumption)) ?_))
    refine hA _ (last ?_)
    walk_at "ug"
    rw [val_s]; exact hq
  | n i =>
    dsimp only [Th.av]
    (refine ent' T f__law_value (by simp [tabC]) rfl (by simp only [f__law_value, args1, List.map_cons, List.map_nil, List.length_cons, List.length_nil, List.cons_append, List.nil_append, List.replicate, Nat.reduceAdd, Nat.reduceSub]; exact rfl) ?_; dsimp only [f__law_value])
    refine seq fun R hR => iffI fun A B hA hB => ?_
    (repeat (first | dsimp only [PS.expr, PS.ret, PS.assign, pEs, pC, PE.lit, PE.loc, PE.prim, PE.bm, PE.and, PE.or, PE.ite, PE.cmp2, PE.fn, PE.attr, PE.meth, PE.new, PE.dict, ObjP, PE.comp, PI.val, PI.range, Tgt.name, Tgt.tup, Tgt.item, Tgt.attr, Op.add, Op.sub, Op.mul, Op.fdiv, Op.mod, Op.neg, Op.not, Op.eq, Op.ne, Op.lt, Op.le, Op.gt, Op.ge, Op.is, Op.isnot, Op.isin, Op.notin, Op.len, Op.isinst, Op.toInt, Op.toStr, Op.toDict, Op.min, Op.max, Op.all, Op.item, Op.slice, Op.mkList, Op.mkTup, Op.mkDict0, BOp.append, BOp.extend, BOp.pop, BOp.get, BOp.index, BOp.join, Zz1, Zz2, Zz3, Zz4, Zz5, Zz6, Zz7, Zz8, Zz9, Zy1, Zy2, Zy3, Zy4, Zy5, Zy6, Zy7, Zy8, Zy9, Zy0, Zeii, Znii, Zeib, Znib, Zeis, Znis, Zein, Znin, Zebi, Znbi, Zebb, Znbb, Zebs, Znbs, Zebn, Znbn, Zesi, Znsi, Zesb, Znsb, Zess, Znss, Zesn, Znsn, Zeni, Znni, Zenb, Znnb, Zens, Znns, Zenn, Znnn, Zq0, Zq1, Zq2, Zq3, Zq4, Zq5, Zq6, Zq7, Zq8, Zq9, Zr1, Zr2, Zr3, Zr4, Zr5, Zr5t, Zk1, Zk2, Zk3, Zr6, Zr7, Zr8, Zr9, Zr0, Zt1, Zt2, Zt3, Zt4, Zt5, Zt6, Zt7, Zp1, Zp2, Zp3, Zp4, Zp5, Zt8, Zt9, Zt0, Zu1, Zu2, Zu3, Zu4, Zu5, Zu6, Zu7, Zu8, Zu9, Zu0, Zv1, Zv2, Zv3, Zv4, Zv5, Zv6, Zv7, Zv8, Zv9, Zw1, Zw2, Zw7, Zw8, Zw9, Zc0, Zc1, Zc2, Zc3, Zc4, Zc5, Zc6, Zc7, Zx1, Zx2, Zx3, Zx4, Zx5, Zx6, Zx7, Zx8, Zx9, Zx0, Zb0, Zb1, Nat.reduceAdd, Nat.reduceSub, Int.reduceNeg, Int.reduceAdd, Int.reduceSub, Int.reduceMul, Int.reduceBEq, Int.reduceBNe, Nat.reduceBEq, Zo0, Zo1, Zo2, Zo3, Zo4, Zo5, Zo6, Zo7, Zo8, Zo9, Zo10, Zo11, Zo12, Zo13, Zo14, Zo15, Zo16, Zo17, Zo18, Zo19, Zo20, Zo21, Zo22, Zo23, Zo24, Zo25, Zo26, Zo27, Zo28, Zo29, Zo30, Zo31, Zo32, Zo33, Zo34, Zo35, Zo36, Zo37, Zo38, Zo39, Zo40, Zo41, Zo42, Zo43, Zo44, Zo45, Zo46, Zo47, Zo48, Zo49, Zo50, Zo51, Zo52, Zo53, Zo54, Zo55] | with_reducible refine okP (by assumption) ?_ | (with_reducible refine And.intro ?_ ?_; (first | assumption | decide | omega | rfl | exact kDict (by assumption) | exact kList (by assumption) | exact kFlist (by assumption) | exact kTup (by assumption))) | with_reducible refine okP (by first | exact itemL_0 | exact itemL_1 | exact itemL_2 | exact itemL_3 | exact itemL_4 | exact kDict (by assumption) | exact kList (by assumption) | exact kTup (by assumption)) ?_))
    refine hB _ (hR _ _ (last ?_))
    walk_at "ug"
    exact hq
theorem s_true (hd : 0 < d) {q : Qu} (h : σ a = some (.dict (dI bs))) (ht : σ t = some (.tup q.avs)) (hs : q.s ∈ signs4) (hq : ∀ σ', Le σ σ' → Q (.bool (quB bs q)) σ') : K.fn false d "_law_true" [.ref t, .ref a] σ Q X := by
  dsimp only [Qu.avs] at ht
  (refine ent' T f__law_true (by simp [tabC]) rfl (by simp only [f__law_true, args1, List.map_cons, List.map_nil, List.length_cons, List.length_nil, List.cons_append, List.nil_append, List.replicate, Nat.reduceAdd, Nat.reduceSub]; exact rfl) ?_; dsimp only [f__law_true])
  refine seq fun R hR => ?_
  walk_at "ug"
  refine s_value T h q.x (hR _ _ ?_)
  refine seq fun R hR => ?_
  walk_at "ug"
  refine s_value T h q.y (hR _ _ (last ?_))
  walk_at "ug"
  refine newO fun b σ₁ hb l₁ hb₁ => ?_
  walk_at "ug"
  refine newO fun c σ₂ hc l₂ hc₂ => ?_
  have ht₂ := l₂ _ _ (l₁ _ _ ht)
  have hb₂ := l₂ _ _ hb₁
  walk_at "ug"
  have hq := hq σ₂ (l₁.trans l₂)
  dsimp only [quB, ansB] at hq
  simp only [signs4, List.mem_cons, List.not_mem_nil, or_false] at hs
  rcases hs with e | e | e | e <;> rw [e] at hq ⊢
  · refine okP (v := 0) rfl ?_
    walk_at "ug"
    exact hq
  · refine okP (v := 1) rfl ?_
    walk_at "ug"
    exact hq
  · refine okP (v := 2) rfl ?_
    walk_at "ug"
    exact hq
  · refine okP (v := 3) rfl ?_
    walk_at "ug"
    exact hq
theorem s_reckoned' (hd : 1 < d) {own : Txt} {ns : List Txt} {m : Tot} (h : σ a = some (.dict (dI bs))) (ht : σ t = some (.tup m.avs)) (hb : Sm bs) (hm : m.ok own ns) (hq : ∀ σ', Le σ σ' → Q (.int (totI bs m)) σ') : K.fn false d "_law_reckoned" [.ref t, .ref a] σ Q X := by
  (refine ent' T f__law_reckoned (by simp [tabC]) rfl (by simp only [f__law_reckoned, args1, List.map_cons, List.map_nil, List.length_cons, List.length_nil, List.cons_append, List.nil_append, List.replicate, Nat.reduceAdd, Nat.reduceSub]; exact rfl) ?_; dsimp only [f__law_reckoned])
  cases m with
  | one x =>
    dsimp only [Tot.avs] at ht
    refine seq fun R hR => iffI fun A B hA hB => ?_
    walk_at "ug"
    refine hA _ (last ?_)
    walk_at "ug"
    exact s_value T h x (hq _ (Le.refl _))
  | two s x y =>
    dsimp only [Tot.avs] at ht
    refine seq fun R hR => iffI fun A B hA hB => ?_
    walk_at "ug"
    refine hB _ (hR _ _ ?_)
    refine seq fun R hR => iffI fun A B hA hB => ?_
    walk_at "ug"
    refine newO fun b σ₁ hb₀ l₁ hb₁ => ?_
    have ht₁ := l₁ _ _ ht
    have h₁ := l₁ _ _ h
    walk_at "ug"
    refine inS rfl rfl ?_
    have hs := hm.1
    have hx := val_sm hb hm.2.1
    have hmul : (val bs x).natAbs < 2 ^ 64 := by unfold sm at hx; omega
    have tail : s ∈ [[43], [45], [42]] → B σ₁ := by
      intro hs3
      refine hB _ (hR _ _ ?_)
      refine seq fun R hR => ?_
      walk_at "ug"
      refine s_value T h₁ x (hR _ _ ?_)
      refine seq fun R hR => ?_
      walk_at "ug"
      refine s_value T h₁ y (hR _ _ (last ?_))
      walk_at "ug"
      refine newO fun b σ₂ hb₀ l₂ hb₂ => ?_
      walk_at "ug"
      refine newO fun c σ₃ hc₀ l₃ hc₃ => ?_
      have hq := hq σ₃ (l₁.trans (l₂.trans l₃))
      have ht₃ := l₃ _ _ (l₂ _ _ ht₁)
      have hb₃ := l₃ _ _ hb₂
      dsimp only [totI, recI] at hq
      walk_at "ug"
      simp only [List.mem_cons, List.not_mem_nil, or_false] at hs3
      rcases hs3 with e | e | e <;> rw [e] at hq ⊢
      · refine okP (v := 0) rfl ?_
        walk_at "ug"
        exact hq
      · refine okP (v := 1) rfl ?_
        walk_at "ug"
        exact hq
      · refine okP (v := 2) rfl ?_
        walk_at "ug"
        exact hq
    have other : s ∈ signs4 → A σ₁ := by
      intro hs4
      refine hA _ (last ?_)
      walk_at "ug"
      refine s_true T (by omega) (q := ⟨s, x, y⟩) h₁ ht₁ hs4 fun σ₂ l₂ => ?_
      walk_at "ug"
      have hq := hq σ₂ (l₁.trans l₂)
      have : recI s (val bs x) (val bs y) = b2i (quB bs ⟨s, x, y⟩) := by
        simp only [signs4, List.mem_cons, List.not_mem_nil, or_false] at hs4
        rcases hs4 with e | e | e | e <;> subst e <;> rfl
      dsimp only [totI] at hq
      rw [this] at hq
      exact hq
    simp only [signs7, List.mem_cons, List.not_mem_nil, or_false] at hs
    rcases hs with rfl | rfl | rfl | rfl | rfl | rfl | rfl
    · exact tail (by simp)
    · exact tail (by simp)
    · exact tail (by simp)
    · exact other (by simp [signs4])
    · exact other (by simp [signs4])
    · exact other (by simp [signs4])
    · exact other (by simp [signs4])
end
end U
namespace U
open PySem
set_option linter.unusedSimpArgs false
set_option linter.unusedVariables false
set_option linter.unusedSectionVars false
theorem none_le {σ σ' : Hp} {x : Addr} (hl : Le σ σ') (e : σ' x = none) : σ x = none := by
  cases q : σ x with
  | none => rfl
  | some o => rw [hl _ _ q] at e; cases e
theorem pick_map {α : Type} (f : α → AV) (d : α) {xs : List α} {i : Int} (h0 : 0 ≤ i) (h1 : i < xs.length) : pick (xs.map f) i = f (xs.getD i.toNat d) := by
  unfold pick
  simp only [List.getD_eq_getElem?_getD, List.getElem?_map]
  rw [List.getElem?_eq_getElem (by omega)]; rfl
theorem getD_mem {α : Type} {xs : List α} {n : Nat} {d : α} (h : n < xs.length) : xs.getD n d ∈ xs := by
  simp only [List.getD_eq_getElem?_getD]
  rw [List.getElem?_eq_getElem h]
  exact List.getElem_mem _
theorem mixI_lo (c k : Int) : 0 ≤ mixI c k := fmod_lo _ (by decide)
theorem fdiv_lo {a b : Int} (h : 0 ≤ a) (hb : 0 < b) : 0 ≤ Int.fdiv a b := Int.fdiv_nonneg h (by omega)
theorem sm_mod (a : Int) {b : Int} (h : 0 < b) (h' : b ≤ 1000000) : sm (Int.fmod a b) := ⟨fmod_lo a h, by have := fmod_hi a h; omega⟩
section
variable {K : Kx} (T : Tab K tabA) {d : Nat} {σ : Hp} {Q : Post} {X : XPost} {l : Addr} {ns : List Txt}
include T
theorem s_cell_at {xs : List Int} (k : Nat) (h : σ l = some (.flist (xs.map .int))) (hl : xs.length ≤ 63) (hq : Q (.int (xs.getD k 0)) σ) : K.fn false d "_law_cell_at" [.ref l, .int (k : Int)] σ Q X := by
  have ht : tooLong = 1000000 := rfl
  have hlen : (xs.map AV.int).length = xs.length := List.length_map _
  (refine ent' T f__law_cell_at (by simp [tabA]) rfl (by simp only [f__law_cell_at, args1, List.map_cons, List.map_nil, List.length_cons, List.length_nil, List.cons_append, List.nil_append, List.replicate, Nat.reduceAdd, Nat.reduceSub]; exact rfl) ?_; dsimp only [f__law_cell_at])
  refine seq fun R hR => iffI fun A B hA hB => ?_
  walk_at "ug"
  refine wifd (fun hk => hA _ (last ?_)) fun hk => hB _ (hR _ _ (last ?_))
  · walk_at "ug"
    refine okP (itemL_ok (Int.natCast_nonneg k) hk (by omega)) ?_
    rw [pick_map AV.int 0 (Int.natCast_nonneg k) (by omega)]
    exact hq
  · walk_at "ug"
    have : xs.getD k 0 = 0 := by
      simp only [List.getD_eq_getElem?_getD]
      rw [List.getElem?_eq_none (by omega)]; rfl
    rw [this] at hq; exact hq
theorem s_mixed (c k : Int) (hq : Q (.int (mixI c k)) σ) : K.fn false d "_law_mixed" [.int c, .int k] σ Q X := by
  have h1 := fmod_lo ((c + 7 * k + 3) * 48271) (b := 2147483647) (by decide)
  have h2 := fmod_hi ((c + 7 * k + 3) * 48271) (b := 2147483647) (by decide)
  (refine ent' T f__law_mixed (by simp [tabA]) rfl (by simp only [f__law_mixed, args1, List.map_cons, List.map_nil, List.length_cons, List.length_nil, List.cons_append, List.nil_append, List.replicate, Nat.reduceAdd, Nat.reduceSub]; exact rfl) ?_; dsimp only [f__law_mixed])
  refine seq fun R hR => ?_
  walk_at "ug"
  refine hR _ _ (last ?_)
  walk_at "ug"
  exact hq
theorem s_whole_int (i : Int) (hq : Q (.bool true) σ) : K.fn false d "_law_whole" [.int i] σ Q X := by
  (refine ent' T f__law_whole (by simp [tabA]) rfl (by simp only [f__law_whole, args1, List.map_cons, List.map_nil, List.length_cons, List.length_nil, List.cons_append, List.nil_append, List.replicate, Nat.reduceAdd, Nat.reduceSub]; exact rfl) ?_; dsimp only [f__law_whole])
  refine last ?_
  (repeat (first | dsimp only [PS.expr, PS.ret, PS.assign, pEs, pC, PE.lit, PE.loc, PE.prim, PE.bm, PE.and, PE.or, PE.ite, PE.cmp2, PE.fn, PE.attr, PE.meth, PE.new, PE.dict, ObjP, PE.comp, PI.val, PI.range, Tgt.name, Tgt.tup, Tgt.item, Tgt.attr, Op.add, Op.sub, Op.mul, Op.fdiv, Op.mod, Op.neg, Op.not, Op.eq, Op.ne, Op.lt, Op.le, Op.gt, Op.ge, Op.is, Op.isnot, Op.isin, Op.notin, Op.len, Op.isinst, Op.toInt, Op.toStr, Op.toDict, Op.min, Op.max, Op.all, Op.item, Op.slice, Op.mkList, Op.mkTup, Op.mkDict0, BOp.append, BOp.extend, BOp.pop, BOp.get, BOp.index, BOp.join, Zz1, Zz2, Zz3, Zz4, Zz5, Zz6, Zz7, Zz8, Zz9, Zy1, Zy2, Zy3, Zy4, Zy5, Zy6, Zy7, Zy8, Zy9, Zy0, Zeii, Znii, Zeib, Znib, Zeis, Znis, Zein, Znin, Zebi, Znbi, Zebb, Znbb, Zebs, Znbs, Zebn, Znbn, Zesi, Znsi, Zesb, Znsb, Zess, Znss, Zesn, Znsn, Zeni, Znni, Zenb, Znnb, Zens, Znns, Zenn, Znnn, Zq0, Zq1, Zq2, Zq3, Zq4, Zq5, Zq6, Zq7, Zq8, Zq9, Zr1, Zr2, Zr3, Zr4, Zr5, Zr5t, Zk1, Zk2, Zk3, Zr6, Zr7, Zr8, Zr9, Zr0, Zt1, Zt2, Zt3, Zt4, Zt5, Zt6, Zt7, Zp1, Zp2, Zp3, Zp4, Zp5, Zt8, Zt9, Zt0, Zu1, Zu2, Zu3, Zu4, Zu5, Zu6, Zu7, Zu8, Zu9, Zu0, Zv1, Zv2, Zv3, Zv4, Zv5, Zv6, Zv7, Zv8, Zv9, Zw1, Zw2, Zw7, Zw8, Zw9, Zc0, Zc1, Zc2, Zc3, Zc4, Zc5, Zc6, Zc7, Zx1, Zx2, Zx3, Zx4, Zx5, Zx6, Zx7, Zx8, Zx9, Zx0, Zb0, Zb1, Nat.reduceAdd, Nat.reduceSub, Int.reduceNeg, Int.reduceAdd, Int.reduceSub, Int.reduceMul, Int.reduceBEq, Int.reduceBNe, Nat.reduceBEq, Zo0, Zo1, Zo2, Zo3, Zo4, Zo5, Zo6, Zo7, Zo8, Zo9, Zo10, Zo11, Zo12, Zo13, Zo14, Zo15, Zo16, Zo17, Zo18, Zo19, Zo20, Zo21, Zo22, Zo23, Zo24, Zo25, Zo26, Zo27, Zo28, Zo29, Zo30, Zo31, Zo32, Zo33, Zo34, Zo35, Zo36, Zo37, Zo38, Zo39, Zo40, Zo41, Zo42, Zo43, Zo44, Zo45, Zo46, Zo47, Zo48, Zo49, Zo50, Zo51, Zo52, Zo53, Zo54, Zo55] | with_reducible refine okP (by assumption) ?_ | (with_reducible refine And.intro ?_ ?_; (first | assumption | decide | omega | rfl | exact kDict (by assumption) | exact kList (by assumption) | exact kFlist (by assumption) | exact kTup (by assumption))) | with_reducible refine okP (by first | exact itemL_0 | exact itemL_1 | exact itemL_2 | exact itemL_3 | exact itemL_4 | exact kDict (by assumption) | exact kList (by assumption) | exact kTup (by assumption)) ?_))
  exact hq
/-- a thing: a name that is not its own box's, or a small number -/
theorem s_thing (n : Int) (own : Txt) (h : σ l = some (.list (ns.map .str))) (h5 : 5 ≤ ns.length) (hm : ns.length < 1000000) (hn : 0 ≤ n) (hq : ∀ (x : Th) σ', Le σ σ' → x.ok own (ns.take 5) → Q x.av σ') : K.fn false d "_law_thing" [.int n, .str own, .ref l] σ Q X := by
  have p1 := fmod_hi (Int.fdiv n 2) (b := 5) (by decide)
  have p2 := fmod_lo (Int.fdiv n 2) (b := 5) (by decide)
  (refine ent' T f__law_thing (by simp [tabA]) rfl (by simp only [f__law_thing, args1, List.map_cons, List.map_nil, List.length_cons, List.length_nil, List.cons_append, List.nil_append, List.replicate, Nat.reduceAdd, Nat.reduceSub]; exact rfl) ?_; dsimp only [f__law_thing])
  refine seq fun R hR => ?_
  walk_at "ug"
  refine okP (itemL_mod (by decide) (by simp only [List.length_map]; omega) (by simpa [tooLong] using hm)) ?_
  rw [pick_map AV.str [] p2 (by omega)]
  generalize hw : ns.getD (Int.fmod (Int.fdiv n 2) 5).toNat [] = w
  have hmem : w ∈ ns.take 5 := by
    have : ns.getD (Int.fmod (Int.fdiv n 2) 5).toNat [] = (ns.take 5).getD (Int.fmod (Int.fdiv n 2) 5).toNat [] := by
      simp only [List.getD_eq_getElem?_getD, List.getElem?_take]
      rw [if_pos (by omega)]
    rw [← hw, this]
    exact getD_mem (by rw [List.length_take]; omega)
  refine hR _ _ ?_
  clear hR hw
  refine seq fun R hR => iffI fun A B hA hB => ?_
  have rest : B σ := by
    refine hB _ (hR _ _ ?_)
    refine seq fun R hR => ?_
    walk_at "ug"
    refine newO fun b σ₁ hb l₁ hb₁ => hR _ _ (last ?_)
    walk_at "ug"
    refine okP (itemL_mod (by decide) (by simp) (by simp [tooLong])) ?_
    have h1 := fmod_hi (Int.fdiv n 20) (b := 4) (by decide)
    have h2 := fmod_lo (Int.fdiv n 20) (b := 4) (by decide)
    generalize Int.fmod (Int.fdiv n 20) 4 = j at h1 h2 ⊢
    have hj : j = 0 ∨ j = 1 ∨ j = 2 ∨ j = 3 := by omega
    rcases hj with rfl | rfl | rfl | rfl
    · exact hq (.n _) σ₁ l₁ (sm_mod _ (by decide) (by decide))
    · exact hq (.n _) σ₁ l₁ (sm_mod _ (by decide) (by decide))
    · exact hq (.n _) σ₁ l₁ (sm_mod _ (by decide) (by decide))
    · have h3 := fmod_hi (Int.fdiv n 2) (b := 3) (by decide)
      have h4 := fmod_lo (Int.fdiv n 2) (b := 3) (by decide)
      exact hq (.n _) σ₁ l₁ ⟨by omega, by omega⟩
  walk_at "ug"
  refine wif (fun hz => ?_) fun hz => ?_
  · walk_at "ug"
    refine wif (fun ho => hA _ (last ?_)) fun ho => rest
    walk_at "ug"
    exact hq (.s _) σ (Le.refl _) ⟨by simpa using ho, hmem⟩
  · rw [hz]; exact rest
theorem s_sum (hd : 0 < d) (n : Int) (own : Txt) (h : σ l = some (.list (ns.map .str))) (h5 : 5 ≤ ns.length) (hm : ns.length < 1000000) (hn : 0 ≤ n) (hq : ∀ (m : Tot) t σ', Le σ σ' → σ t = none → σ' t = some (.tup m.avs) → m.ok own (ns.take 5) → Q (.ref t) σ') : K.fn false d "_law_sum" [.int n, .str own, .ref l] σ Q X := by
  (refine ent' T f__law_sum (by simp [tabA]) rfl (by simp only [f__law_sum, args1, List.map_cons, List.map_nil, List.length_cons, List.length_nil, List.cons_append, List.nil_append, List.replicate, Nat.reduceAdd, Nat.reduceSub]; exact rfl) ?_; dsimp only [f__law_sum])
  refine seq fun R hR => ?_
  walk_at "ug"
  refine s_thing T _ own h h5 hm (fdiv_lo hn (by decide)) fun x σ₁ l₁ hx => hR _ _ ?_
  refine seq fun R hR => iffI fun A B hA hB => ?_
  walk_at "ug"
  refine wif (fun hz => hA _ (last ?_)) fun hz => hB _ (hR _ _ (last ?_))
  · walk_at "ug"
    exact newO fun b σ₂ hb l₂ hb₂ => hq (.one x) b σ₂ (l₁.trans l₂) (none_le l₁ hb) hb₂ hx
  · walk_at "ug"
    refine newO fun b σ₂ hb l₂ hb₂ => ?_
    have h1 := fmod_hi n (b := 8) (by decide)
    have h2 := fmod_lo n (b := 8) (by decide)
    have h3 : Int.fmod n 8 ≠ 0 := by simpa using hz
    walk_at "ug"
    refine okP (itemL_ok (by omega) (by simp only [List.length_cons, List.length_nil]; omega) (by decide)) ?_
    walk_at "ug"
    refine s_thing T _ own (l₂ _ _ (l₁ _ _ h)) h5 hm (fdiv_lo hn (by decide)) fun y σ₃ l₃ hy => ?_
    walk_at "ug"
    refine newO fun c σ₄ hc l₄ hc₄ => ?_
    generalize Int.fmod n 8 = j at h1 h2 h3 hc₄
    have hj : j = 1 ∨ j = 2 ∨ j = 3 ∨ j = 4 ∨ j = 5 ∨ j = 6 ∨ j = 7 := by omega
    have L := l₁.trans (l₂.trans (l₃.trans l₄))
    rcases hj with rfl | rfl | rfl | rfl | rfl | rfl | rfl <;> exact hq (.two _ x y) c σ₄ L (none_le (l₁.trans (l₂.trans l₃)) hc) hc₄ ⟨by decide, hx, hy⟩
theorem s_question (hd : 0 < d) (n : Int) (h : σ l = some (.list (ns.map .str))) (h5 : 5 ≤ ns.length) (hm : ns.length < 1000000) (hn : 0 ≤ n) (hq : ∀ (q : Qu) t σ', Le σ σ' → σ t = none → σ' t = some (.tup q.avs) → q.ok (ns.take 5) → Q (.ref t) σ') : K.fn false d "_law_question" [.int n, .ref l] σ Q X := by
  (refine ent' T f__law_question (by simp [tabA]) rfl (by simp only [f__law_question, args1, List.map_cons, List.map_nil, List.length_cons, List.length_nil, List.cons_append, List.nil_append, List.replicate, Nat.reduceAdd, Nat.reduceSub]; exact rfl) ?_; dsimp only [f__law_question])
  refine seq fun R hR => ?_
  walk_at "ug"
  refine s_thing T _ [] h h5 hm (fdiv_lo hn (by decide)) fun x σ₁ l₁ hx => hR _ _ (last ?_)
  walk_at "ug"
  refine newO fun b σ₂ hb l₂ hb₂ => ?_
  walk_at "ug"
  refine okP (itemL_mod (by decide) (by simp) (by simp [tooLong])) ?_
  walk_at "ug"
  refine s_thing T _ [] (l₂ _ _ (l₁ _ _ h)) h5 hm (fdiv_lo hn (by decide)) fun y σ₃ l₃ hy => ?_
  walk_at "ug"
  refine newO fun c σ₄ hc l₄ hc₄ => ?_
  have h1 := fmod_hi n (b := 4) (by decide)
  have h2 := fmod_lo n (b := 4) (by decide)
  generalize Int.fmod n 4 = j at h1 h2 hc₄
  have hj : j = 0 ∨ j = 1 ∨ j = 2 ∨ j = 3 := by omega
  have L := l₁.trans (l₂.trans (l₃.trans l₄))
  rcases hj with rfl | rfl | rfl | rfl <;> exact hq ⟨_, x, y⟩ c σ₄ L (none_le (l₁.trans (l₂.trans l₃)) hc) hc₄ ⟨by simp [signs4], hx, hy⟩
end
end U
namespace U
open PySem
set_option linter.unusedSimpArgs false
set_option linter.unusedVariables false
set_option linter.unusedSectionVars false
theorem dsetI_len (bs : List (Txt × Int)) (k : Txt) (i : Int) : (dsetI bs k i).length ≤ bs.length + 1 := by
  unfold dsetI
  split <;> simp
theorem dsetI_mem {bs : List (Txt × Int)} {k : Txt} {i : Int} {e : Txt × Int} (h : e ∈ dsetI bs k i) : e = (k, i) ∨ e ∈ bs := by
  unfold dsetI at h
  split at h
  · obtain ⟨x, hx, h⟩ := List.mem_map.mp h
    split at h
    · rename_i q; rw [beq_iff_eq] at q; rw [← h, ← q]; exact .inl rfl
    · rw [← h]; exact .inr hx
  · rcases List.mem_append.mp h with h | h
    · exact .inr h
    · exact .inl (by simpa using h)
theorem dsetI_keys (bs : List (Txt × Int)) (k : Txt) (i : Int) : (dsetI bs k i).map (·.1) = if k ∈ bs.map (·.1) then bs.map (·.1) else bs.map (·.1) ++ [k] := by
  unfold dsetI
  have : (bs.any (fun e => e.1 == k) = true) ↔ k ∈ bs.map (·.1) := by
    rw [List.any_eq_true, List.mem_map]
    constructor
    · rintro ⟨e, he, h⟩; exact ⟨e, he, beq_iff_eq.mp h⟩
    · rintro ⟨e, he, h⟩; exact ⟨e, he, beq_iff_eq.mpr h⟩
  by_cases q : k ∈ bs.map (·.1)
  · rw [if_pos q, if_pos (this.mpr q), List.map_map]
    congr 1
    funext e
    simp only [Function.comp]
    split <;> rfl
  · rw [if_neg q, if_neg (fun h => q (this.mp h))]; simp
theorem dsetI_nodup {bs : List (Txt × Int)} {k : Txt} {i : Int} (h : (bs.map (·.1)).Nodup) : ((dsetI bs k i).map (·.1)).Nodup := by
  rw [dsetI_keys]
  split
  · exact h
  · rename_i q
    rw [List.nodup_append]
    refine ⟨h, by simp, fun a ha b hb => ?_⟩
    rw [List.mem_singleton.mp hb]
    exact fun e => q (e ▸ ha)
theorem lookup_nodup' {α : Type} : ∀ {bs : List (Txt × α)} {e : Txt × α}, (bs.map (·.1)).Nodup → e ∈ bs → bs.lookup e.1 = some e.2
  | [], _, _, h => by cases h
  | (a, x) :: cs, c, hn, h => by
    rw [List.map_cons, List.nodup_cons] at hn
    rcases List.mem_cons.mp h with q | q
    · subst q; simp [List.lookup]
    · have : (c.1 == a) = false := beq_eq_false_iff_ne.mpr fun e => hn.1 (e ▸ List.mem_map.mpr ⟨c, q, rfl⟩)
      rw [List.lookup_cons, this]; exact lookup_nodup' hn.2 q
/-- the same entries -/
theorem eqD_self {bs : List (Txt × Int)} (hn : (bs.map (·.1)).Nodup) : ∀ {es : List (Txt × Int)}, (∀ e ∈ es, e ∈ bs) → EqD (dI bs) (dI es) true
  | [], _ => .nil
  | (k, v) :: es, h => by
    have h1 : (dI bs).lookup k = some (.int v) := by rw [dI_lookup, lookup_nodup' hn (h (k, v) (by simp))]; rfl
    have h2 : EqD (dI bs) (dI es) true := eqD_self hn fun e he => h e (List.mem_cons_of_mem _ he)
    have h3 : EqD (dI bs) (dI ((k, v) :: es)) (eqS (.int v) (.int v) && true) := EqD.hit (v := .int v) h1 rfl rfl h2
    have h4 : (eqS (.int v) (.int v) && true) = true := by simp [eqS]
    rw [h4] at h3; exact h3
theorem dsetI_sm {bs : List (Txt × Int)} {k : Txt} {i : Int} (h : Sm bs) (hi : sm i) : Sm (dsetI bs k i) := fun e he => by
  rcases dsetI_mem he with rfl | q
  · exact hi
  · exact h e q
section
variable {K : Kx} (TA : Tab K tabA) (T : Tab K tabE) {d : Nat} {σ : Hp} {Q : Post} {X : XPost} {l : Addr} {ns : List Txt}
include TA T
theorem s_boxes (hd : 0 < d) (c : Int) (h : σ l = some (.list (ns.map .str))) (h5 : 6 ≤ ns.length) (hm : ns.length < 1000000) (hq : ∀ a bs σ', Le σ σ' → σ a = none → σ' a = some (.dict (dI bs)) → Sm bs → bs.length ≤ 6 → (∀ e ∈ bs, e.1 ∈ ns.take 6) → (bs.map (·.1)).Nodup → Q (.ref a) σ') : K.fn false d "_law_boxes" [.int c, .ref l] σ Q X := by
  (refine ent' T f__law_boxes (by simp [tabE]) rfl (by simp only [f__law_boxes, args1, List.map_cons, List.map_nil, List.length_cons, List.length_nil, List.cons_append, List.nil_append, List.replicate, Nat.reduceAdd, Nat.reduceSub]; exact rfl) ?_; dsimp only [f__law_boxes])
  refine seq fun R hR => ?_
  walk_at "ug"
  refine newO fun b σ₁ hb l₁ hb₁ => hR _ _ ?_
  clear hR
  refine seq fun R hR => forI fun F hF => ?_
  walk_at "ug"
  refine hF _ _ _ (for_range (n := 6) (fun k ρ σ' => ∃ x y z bs, ρ = [some (.int c), some (.ref l), some (.ref b), x, y, z] ∧ Le σ σ' ∧ σ' b = some (.dict (dI bs)) ∧ Sm bs ∧ bs.length ≤ k ∧ (bs.map (·.1)).Nodup ∧ ∀ e ∈ bs, e.1 ∈ ns.take 6) ?_ ?_ ?_)
  · exact ⟨_, _, _, [], rfl, l₁, hb₁, (fun e he => by cases he), Nat.le_refl _, List.nodup_nil, (fun e he => by cases he)⟩
  · clear hF hR hq hb₁ l₁
    rintro k ρ σ₂ cont hk ⟨x, y, z, bs, rfl, l₂, hb₂, hs, hlen, hnd, hkeys⟩ hc
    have h2 := l₂ _ _ h
    refine seq fun R hR => ?_
    walk_at "ug"
    refine s_mixed TA _ _ (hR _ _ (last ?_))
    have hnum := mixI_lo c (3 * (k : Int))
    generalize mixI c (3 * (k : Int)) = num at hnum ⊢
    refine iffI fun A B hA hB => ?_
    walk_at "ug"
    refine wifd (fun h0 => hA _ ?_) fun h0 => hB _ (hc _ _ ⟨_, _, _, _, rfl, l₂, hb₂, hs, by omega, hnd, hkeys⟩)
    refine seq fun R hR => ?_
    walk_at "ug"
    refine hR _ _ (last ?_)
    walk_at "ug"
    refine newO fun b2 σ₃ hb2 l₃ hb3 => ?_
    have h3 := l₃ _ _ h2
    have hb4 := l₃ _ _ hb₂
    walk_at "ug"
    have h1 := fmod_hi num (b := 4) (by decide)
    have h2 := fmod_lo num (b := 4) (by decide)
    refine okP (itemL_mod (by decide) (by simp) (by simp [tooLong])) ?_
    obtain ⟨v, hv, hvs⟩ : ∃ v, pick [.int (Int.fmod (Int.fdiv num 5) 4), .int (Int.fmod (Int.fdiv num 5) 4), .int (Int.fmod (Int.fdiv num 5) 1000), .int (Int.fmod (Int.fdiv num 5) 1000000)] (Int.fmod num 4) = .int v ∧ sm v := by
      generalize Int.fmod num 4 = j at h1 h2 ⊢
      have hj : j = 0 ∨ j = 1 ∨ j = 2 ∨ j = 3 := by omega
      rcases hj with rfl | rfl | rfl | rfl <;> exact ⟨_, rfl, sm_mod _ (by decide) (by decide)⟩
    rw [hv]
    walk_at "ug"
    refine okP (itemL_ok (by omega) (by simp only [List.length_map]; omega) (by simpa [tooLong] using hm)) ?_
    rw [pick_map AV.str [] (by omega) (by omega)]
    walk_at "ug"
    refine ⟨by rw [dI_length]; have : tooLong = 1000000 := rfl; omega, ?_⟩
    rw [dset_dI]
    refine setN (l₂.trans l₃) hb fun σ₄ hb₄ l₄ _ => ?_
    refine hc _ _ ⟨_, _, _, _, rfl, l₄, hb₄, dsetI_sm hs hvs, by have := dsetI_len bs (ns.getD (k : Int).toNat []) v; omega, dsetI_nodup hnd, fun e he => ?_⟩
    rcases dsetI_mem he with rfl | q
    · show ns.getD k [] ∈ ns.take 6
      have : ns.getD k [] = (ns.take 6).getD k [] := by
        simp only [List.getD_eq_getElem?_getD, List.getElem?_take]
        rw [if_pos (by omega)]
      rw [this]
      exact getD_mem (by rw [List.length_take]; omega)
    · exact hkeys e q
  · rintro ρ σ₂ ⟨x, y, z, bs, rfl, l₂, hb₂, hs, hlen, hnd, hkeys⟩
    refine hR _ _ (last ?_)
    walk_at "ug"
    exact hq b bs σ₂ l₂ hb hb₂ hs hlen hkeys hnd
end
end U
namespace U
open PySem
set_option linter.unusedSimpArgs false
set_option linter.unusedVariables false
set_option linter.unusedSectionVars false
noncomputable def ltrs : Txt := [97, 98, 99, 100, 101, 102, 103, 104, 105, 106, 107, 108, 109, 110, 111, 112, 113, 114, 115, 116, 117, 118, 119, 120, 121, 122]
noncomputable def ltr (n : Nat) : Nat := 97 + n % 26
noncomputable def tl (q : Nat) : Txt := [ltr (q + 1), ltr (q + 6), ltr (q + 11), ltr (q + 16), ltr (q + 21), ltr (q + 26)]
theorem ltr_at (x : Int) (n : Nat) {y : Int} (hy : y = (n : Int)) : ltrs.getD (Int.fmod (x + y) 26).toNat 0 = ltr ((Int.fmod x 26).toNat + n) := by
  subst hy
  have h0 := fmod_lo x (b := 26) (by decide)
  have : (Int.fmod (x + (n : Int)) 26).toNat = ((Int.fmod x 26).toNat + n) % 26 := by
    rw [Int.fmod_eq_emod_of_nonneg _ (by decide)] at *
    rw [Int.fmod_eq_emod_of_nonneg _ (by decide)] at *
    omega
  rw [this]
  have : ∀ m < 26, ltrs.getD m 0 = 97 + m := by decide
  rw [this _ (Nat.mod_lt _ (by decide))]; rfl
theorem all_str {ss : List Txt} : (ss.map AV.str).all AV.scal = true := by simp [AV.scal]
theorem list6 {vs : List AV} {f : Nat → AV} (h : vs.length = 6) (hf : ∀ k v, vs[k]? = some v → v = f k) : vs = [f 0, f 1, f 2, f 3, f 4, f 5] := by
  refine List.ext_getElem? fun i => ?_
  rcases Nat.lt_or_ge i 6 with q | q
  · rw [List.getElem?_eq_getElem (by omega), hf i _ (List.getElem?_eq_getElem (by omega))]
    obtain rfl | rfl | rfl | rfl | rfl | rfl : i = 0 ∨ i = 1 ∨ i = 2 ∨ i = 3 ∨ i = 4 ∨ i = 5 := by omega
    all_goals rfl
  · rw [List.getElem?_eq_none (by omega), List.getElem?_eq_none (by exact q)]
theorem strAt_ltr (x : Int) (n : Nat) {y : Int} (hy : y = (n : Int)) : itemL ltrs (Int.fmod (x + y) 26) = some (ltr ((Int.fmod x 26).toNat + n)) := by
  rw [strAt_mod (by decide) (by decide) (by decide), ltr_at x n hy]
theorem sz_of (j : Int) (h1 : j < 5) (h2 : 0 ≤ j) : ∃ sz : Nat, pick [.int 1, .int 3, .int 4, .int 5, .int 6] j = .int (sz : Int) ∧ sz ∈ [1, 3, 4, 5, 6] := by
  have e := pick_map (fun n : Nat => AV.int (n : Int)) 0 (xs := [1, 3, 4, 5, 6]) h2 h1
  exact ⟨_, e, getD_mem ((Int.toNat_lt h2).mpr h1)⟩
end U
namespace U11
open U PySem
/-- PlainRun___init__: ['self', 'boxes', 'most'] -/
noncomputable def f_PlainRun___init__ : Fn := ⟨3, 3, [.assign (.attr (.loc 0) [98, 111, 120, 101, 115]) (.prim .toDict [(.loc 1)]),
  .assign (.attr (.loc 0) [109, 111, 115, 116]) (.loc 2),
  .assign (.attr (.loc 0) [115, 116, 101, 112, 115]) (.lit (.int 0))]⟩
/-- PlainRun_step: ['self'] -/
noncomputable def f_PlainRun_step : Fn := ⟨1, 1, [.iff (.prim .ge [(.attr [115, 116, 101, 112, 115] (.loc 0)), (.attr [109, 111, 115, 116] (.loc 0))]) [.raise "Long" [(.lit (.str [111, 110, 101, 32, 115, 116, 101, 112, 32, 109, 111, 114, 101]))]] [],
  .assign (.attr (.loc 0) [115, 116, 101, 112, 115]) (.prim .add [(.attr [115, 116, 101, 112, 115] (.loc 0)), (.lit (.int 1))])]⟩
/-- PlainRun_ask: ['self', 'question'] -/
noncomputable def f_PlainRun_ask : Fn := ⟨2, 2, [.expr (.meth [115, 116, 101, 112] "PlainRun.step" (.loc 0) []),
  .ret (.fn "asked" [(.loc 1), (.attr [98, 111, 120, 101, 115] (.loc 0))])]⟩
/-- PlainRun_walk: ['self', 'rows', 'row'] -/
noncomputable def f_PlainRun_walk : Fn := ⟨2, 3, [.for [2] (.val (.loc 1)) [.iff (.prim .eq [(.prim .item [(.loc 2), (.lit (.int 0))]), (.lit (.str [115, 101, 116]))]) [.expr (.meth [115, 116, 101, 112] "PlainRun.step" (.loc 0) []),
  .assign (.item (.attr [98, 111, 120, 101, 115] (.loc 0)) (.prim .item [(.loc 2), (.lit (.int 1))])) (.fn "reckoned" [(.prim .item [(.loc 2), (.lit (.int 2))]), (.attr [98, 111, 120, 101, 115] (.loc 0))])] [.iff (.prim .eq [(.prim .item [(.loc 2), (.lit (.int 0))]), (.lit (.str [105, 102]))]) [.iff (.meth [97, 115, 107] "PlainRun.ask" (.loc 0) [(.prim .item [(.loc 2), (.lit (.int 1))])]) [.expr (.meth [119, 97, 108, 107] "PlainRun.walk" (.loc 0) [(.prim .item [(.loc 2), (.lit (.int 2))])])] [.expr (.meth [119, 97, 108, 107] "PlainRun.walk" (.loc 0) [(.prim .item [(.loc 2), (.lit (.int 3))])])]] [.while (.meth [97, 115, 107] "PlainRun.ask" (.loc 0) [(.prim .item [(.loc 2), (.lit (.int 1))])]) [.expr (.meth [119, 97, 108, 107] "PlainRun.walk" (.loc 0) [(.prim .item [(.loc 2), (.lit (.int 2))])])]]]]]⟩
/-- plain_run: ['rows', 'boxes', 'most', 'machine', 'word', 'found', 'name'] -/
noncomputable def f_plain_run : Fn := ⟨3, 7, [.assign (.name 3) (.new "PlainRun" "PlainRun.__init__" [(.loc 1), (.loc 2)]),
  .assign (.name 4) (.lit (.str [100, 111, 110, 101])),
  .try [.expr (.meth [119, 97, 108, 107] "PlainRun.walk" (.loc 3) [(.loc 0)])] "Long" [.assign (.name 4) (.lit (.str [108, 111, 110, 103]))],
  .assign (.name 5) (.prim .mkDict0 []),
  .for [6] (.val (.attr [98, 111, 120, 101, 115] (.loc 3))) [.iff (.prim .ne [(.prim .item [(.attr [98, 111, 120, 101, 115] (.loc 3)), (.loc 6)]), (.lit (.int 0))]) [.assign (.item (.loc 5) (.loc 6)) (.prim .item [(.attr [98, 111, 120, 101, 115] (.loc 3)), (.loc 6)])] []],
  .ret (.prim .mkTup [(.loc 4), (.loc 5), (.attr [115, 116, 101, 112, 115] (.loc 3))])]⟩
/-- _law_alike: ['_law_found', '_law_due'] -/
noncomputable def f__law_alike : Fn := ⟨2, 2, [.iff (.prim (.isinst ["tuple", "list", "dict"]) [(.loc 1)]) [.iff (.or (.prim .not [(.prim (.isinst ["tuple", "list", "dict"]) [(.loc 0)])]) (.prim .ne [(.prim .len [(.loc 0)]), (.prim .len [(.loc 1)])])) [.ret (.lit (.bool false))] [],
  .iff (.prim .ne [(.prim (.isinst ["tuple"]) [(.loc 0)]), (.prim (.isinst ["tuple"]) [(.loc 1)])]) [.ret (.lit (.bool false))] [],
  .iff (.prim .ne [(.prim (.isinst ["dict"]) [(.loc 0)]), (.prim (.isinst ["dict"]) [(.loc 1)])]) [.ret (.lit (.bool false))] [],
  .iff (.prim (.isinst ["dict"]) [(.loc 1)]) [.ret (.prim .all [(.comp [true, true] [2] (.val (.loc 1)) none (.and (.prim .isin [(.loc 2), (.loc 0)]) (.fn "_law_alike" [(.prim .item [(.loc 0), (.loc 2)]), (.prim .item [(.loc 1), (.loc 2)])])))])] [],
  .ret (.prim .all [(.comp [true, true] [2] (.range [(.prim .len [(.loc 1)])]) none (.fn "_law_alike" [(.prim .item [(.loc 0), (.loc 2)]), (.prim .item [(.loc 1), (.loc 2)])]))])] [],
  .iff (.or (.prim .is [(.loc 1), (.lit .none)]) (.prim (.isinst ["str"]) [(.loc 1)])) [.ret (.ite (.prim .is [(.loc 1), (.lit .none)]) (.prim .is [(.loc 0), (.lit .none)]) (.and (.prim (.isinst ["str"]) [(.loc 0)]) (.prim .eq [(.loc 0), (.loc 1)])))] [],
  .ret (.and (.fn "_law_whole" [(.loc 0)]) (.prim .eq [(.loc 0), (.loc 1)]))]⟩
/-- _law_plain_names: ['_law_cell', '_law_letters', '_law_some', '_law_size', '_law_tail', '_law_other', '_law_k', '_law_word', '_law_place'] -/
noncomputable def f__law_plain_names : Fn := ⟨1, 9, [.assign (.name 1) (.lit (.str [97, 98, 99, 100, 101, 102, 103, 104, 105, 106, 107, 108, 109, 110, 111, 112, 113, 114, 115, 116, 117, 118, 119, 120, 121, 122])),
  .assign (.name 2) (.prim .mkList []),
  .assign (.name 3) (.prim .item [(.prim .mkList [(.lit (.int 1)), (.lit (.int 3)), (.lit (.int 4)), (.lit (.int 5)), (.lit (.int 6))]), (.prim .mod [(.prim .fdiv [(.loc 0), (.lit (.int 2))]), (.lit (.int 5))])]),
  .assign (.name 4) (.bm .join (.lit (.str [])) [(.comp [true, true, false, false, false, false, false, false, false] [9] (.range [(.lit (.int 6))]) none (.prim .item [(.loc 1), (.prim .mod [(.prim .add [(.prim .add [(.prim .fdiv [(.loc 0), (.lit (.int 40))]), (.prim .mul [(.lit (.int 5)), (.loc 9)])]), (.lit (.int 1))]), (.lit (.int 26))])]))]),
  .assign (.name 5) (.bm .join (.lit (.str [])) [(.comp [true, true, false, false, false, false, false, false, false] [9] (.range [(.lit (.int 6))]) none (.prim .item [(.loc 1), (.prim .mod [(.prim .add [(.prim .add [(.prim .fdiv [(.loc 0), (.lit (.int 40))]), (.prim .mul [(.lit (.int 5)), (.loc 9)])]), (.lit (.int 13))]), (.lit (.int 26))])]))]),
  .for [6] (.range [(.lit (.int 9))]) [.assign (.name 7) (.prim .item [(.loc 1), (.prim .mod [(.prim .add [(.prim .fdiv [(.loc 0), (.lit (.int 40))]), (.prim .mul [(.lit (.int 5)), (.loc 6)])]), (.lit (.int 26))])]),
  .iff (.prim .eq [(.prim .mod [(.loc 0), (.lit (.int 2))]), (.lit (.int 1))]) [.assign (.name 8) (.prim .mod [(.prim .fdiv [(.loc 0), (.lit (.int 10))]), (.loc 3)]),
  .assign (.name 7) (.prim .add [(.prim .add [(.prim .slice [(.loc 4), (.lit .none), (.loc 8), (.lit .none)]), (.loc 7)]), (.prim .slice [(.loc 4), (.prim .add [(.loc 8), (.lit (.int 1))]), (.loc 3), (.lit .none)])])] [.iff (.prim .lt [(.loc 6), (.lit (.int 6))]) [.assign (.name 7) (.prim .slice [(.loc 4), (.lit .none), (.prim .add [(.lit (.int 1)), (.loc 6)]), (.lit .none)])] [.assign (.name 7) (.prim .slice [(.loc 5), (.lit .none), (.prim .sub [(.loc 6), (.lit (.int 5))]), (.lit .none)])]],
  .expr (.bm .append (.loc 2) [(.loc 7)])],
  .iff (.prim .eq [(.prim .mod [(.loc 0), (.lit (.int 7))]), (.lit (.int 2))]) [.assign (.item (.loc 2) (.prim .mod [(.prim .fdiv [(.loc 0), (.lit (.int 7))]), (.lit (.int 5))])) (.lit (.str [109, 97, 105, 110])),
  .assign (.item (.loc 2) (.prim .mod [(.prim .add [(.prim .fdiv [(.loc 0), (.lit (.int 7))]), (.lit (.int 1))]), (.lit (.int 5))])) (.lit (.str [119, 111, 114, 107])),
  .assign (.name 7) (.prim .item [(.prim .mkList [(.lit (.str [112, 117, 116])), (.lit (.str [115, 119, 97, 112])), (.lit (.str [114, 111, 117, 110, 100])), (.lit (.str [115, 101, 116]))]), (.prim .mod [(.prim .fdiv [(.loc 0), (.lit (.int 35))]), (.lit (.int 4))])]),
  .iff (.prim .notin [(.loc 7), (.loc 2)]) [.assign (.item (.loc 2) (.prim .mod [(.prim .add [(.prim .fdiv [(.loc 0), (.lit (.int 7))]), (.lit (.int 2))]), (.lit (.int 5))])) (.loc 7)] []] [],
  .ret (.loc 2)]⟩
/-- _law_plain_closed: ['_law_frame', '_law_level', '_law_names', '_law_count', '_law_body'] -/
noncomputable def f__law_plain_closed : Fn := ⟨3, 5, [.iff (.prim .eq [(.prim .item [(.loc 0), (.lit (.int 0))]), (.lit (.str [105, 102]))]) [.ret (.prim .mkList [(.prim .mkTup [(.lit (.str [105, 102])), (.fn "_law_question" [(.prim .item [(.loc 0), (.lit (.int 4))]), (.loc 2)]), (.prim .item [(.loc 0), (.lit (.int 2))]), (.prim .item [(.loc 0), (.lit (.int 3))])])])] [],
  .assign (.name 3) (.prim .item [(.loc 2), (.prim .add [(.lit (.int 5)), (.loc 1)])]),
  .iff (.prim .eq [(.prim .mod [(.prim .fdiv [(.prim .item [(.loc 0), (.lit (.int 4))]), (.lit (.int 4))]), (.lit (.int 16))]), (.lit (.int 0))]) [.ret (.prim .mkList [(.prim .mkTup [(.lit (.str [119, 104, 105, 108, 101])), (.fn "_law_question" [(.prim .fdiv [(.prim .item [(.loc 0), (.lit (.int 4))]), (.lit (.int 64))]), (.loc 2)]), (.prim .item [(.loc 0), (.lit (.int 2))])])])] [],
  .assign (.name 4) (.prim .add [(.prim .item [(.loc 0), (.lit (.int 2))]), (.prim .mkList [(.prim .mkTup [(.lit (.str [115, 101, 116])), (.loc 3), (.prim .mkTup [(.lit (.str [43])), (.loc 3), (.lit (.int 1))])])])]),
  .ret (.prim .mkList [(.prim .mkTup [(.lit (.str [115, 101, 116])), (.loc 3), (.prim .mkTup [(.lit (.int 0))])]), (.prim .mkTup [(.lit (.str [119, 104, 105, 108, 101])), (.prim .mkTup [(.lit (.str [60])), (.loc 3), (.prim .mod [(.prim .item [(.loc 0), (.lit (.int 4))]), (.lit (.int 4))])]), (.loc 4)])])]⟩
/-- _law_plain_close: ['_law_frames', '_law_names', '_law_top', '_law_below'] -/
noncomputable def f__law_plain_close : Fn := ⟨2, 4, [.assign (.name 2) (.prim .item [(.loc 0), (.prim .neg [(.lit (.int 1))])]),
  .iff (.and (.prim .eq [(.prim .item [(.loc 2), (.lit (.int 0))]), (.lit (.str [105, 102]))]) (.prim .eq [(.prim .item [(.loc 2), (.lit (.int 1))]), (.lit (.int 0))])) [.assign (.item (.loc 2) (.lit (.int 1))) (.lit (.int 1))] [.expr (.bm .pop (.loc 0) []),
  .assign (.name 3) (.prim .item [(.loc 0), (.prim .neg [(.lit (.int 1))])]),
  .expr (.bm .extend (.prim .item [(.loc 3), (.prim .add [(.lit (.int 2)), (.prim .item [(.loc 3), (.lit (.int 1))])])]) [(.fn "_law_plain_closed" [(.loc 2), (.prim .len [(.loc 0)]), (.loc 1)])])]]⟩
/-- _law_plain_rows: ['_law_cells', '_law_names', '_law_frames', '_law_k', '_law_number', '_law_rest', '_law_top'] -/
noncomputable def f__law_plain_rows : Fn := ⟨2, 7, [.assign (.name 2) (.prim .mkList [(.prim .mkList [(.lit (.str [])), (.lit (.int 0)), (.prim .mkList []), (.prim .mkList []), (.lit (.int 0))])]),
  .for [3] (.range [(.prim .len [(.loc 0)])]) [.assign (.name 4) (.fn "_law_mixed" [(.prim .item [(.loc 0), (.loc 3)]), (.loc 3)]),
  .assign (.name 5) (.prim .fdiv [(.loc 4), (.lit (.int 12))]),
  .assign (.name 6) (.prim .item [(.loc 2), (.prim .neg [(.lit (.int 1))])]),
  .iff (.prim .lt [(.prim .mod [(.loc 4), (.lit (.int 12))]), (.lit (.int 6))]) [.expr (.bm .append (.prim .item [(.loc 6), (.prim .add [(.lit (.int 2)), (.prim .item [(.loc 6), (.lit (.int 1))])])]) [(.prim .mkTup [(.lit (.str [115, 101, 116])), (.prim .item [(.loc 1), (.prim .mod [(.loc 5), (.lit (.int 5))])]), (.fn "_law_sum" [(.prim .fdiv [(.loc 5), (.lit (.int 5))]), (.lit (.str [])), (.loc 1)])])])] [.iff (.and (.prim .lt [(.prim .mod [(.loc 4), (.lit (.int 12))]), (.lit (.int 9))]) (.prim .lt [(.prim .len [(.loc 2)]), (.lit (.int 4))])) [.expr (.bm .append (.loc 2) [(.prim .mkList [(.prim .item [(.prim .mkList [(.lit (.str [105, 102])), (.lit (.str [119, 104, 105, 108, 101]))]), (.prim .mod [(.loc 5), (.lit (.int 2))])]), (.lit (.int 0)), (.prim .mkList []), (.prim .mkList []), (.prim .fdiv [(.loc 5), (.lit (.int 2))])])])] [.iff (.prim .gt [(.prim .len [(.loc 2)]), (.lit (.int 1))]) [.expr (.fn "_law_plain_close" [(.loc 2), (.loc 1)])] []]]],
  .while (.prim .gt [(.prim .len [(.loc 2)]), (.lit (.int 1))]) [.expr (.fn "_law_plain_close" [(.loc 2), (.loc 1)])],
  .ret (.prim .item [(.prim .item [(.loc 2), (.lit (.int 0))]), (.lit (.int 2))])]⟩
/-- _law_plain_copied: ['_law_rows', '_law_found', '_law_row'] -/
noncomputable def f__law_plain_copied : Fn := ⟨1, 3, [.assign (.name 1) (.prim .mkList []),
  .for [2] (.val (.loc 0)) [.iff (.prim .eq [(.prim .item [(.loc 2), (.lit (.int 0))]), (.lit (.str [105, 102]))]) [.assign (.name 2) (.prim .add [(.prim .slice [(.loc 2), (.lit .none), (.lit (.int 2)), (.lit .none)]), (.prim .mkTup [(.fn "_law_plain_copied" [(.prim .item [(.loc 2), (.lit (.int 2))])]), (.fn "_law_plain_copied" [(.prim .item [(.loc 2), (.lit (.int 3))])])])])] [],
  .iff (.prim .eq [(.prim .item [(.loc 2), (.lit (.int 0))]), (.lit (.str [119, 104, 105, 108, 101]))]) [.assign (.name 2) (.prim .add [(.prim .slice [(.loc 2), (.lit .none), (.lit (.int 2)), (.lit .none)]), (.prim .mkTup [(.fn "_law_plain_copied" [(.prim .item [(.loc 2), (.lit (.int 2))])])])])] [],
  .expr (.bm .append (.loc 1) [(.loc 2)])],
  .ret (.loc 1)]⟩
/-- _law_plain_step: ['_law_state'] -/
noncomputable def f__law_plain_step : Fn := ⟨1, 1, [.assign (.item (.loc 0) (.lit (.str [115, 116, 101, 112, 115]))) (.prim .add [(.prim .item [(.loc 0), (.lit (.str [115, 116, 101, 112, 115]))]), (.lit (.int 1))]),
  .iff (.prim .gt [(.prim .item [(.loc 0), (.lit (.str [115, 116, 101, 112, 115]))]), (.prim .item [(.loc 0), (.lit (.str [109, 111, 115, 116]))])]) [.assign (.item (.loc 0) (.lit (.str [115, 116, 101, 112, 115]))) (.prim .item [(.loc 0), (.lit (.str [109, 111, 115, 116]))]),
  .ret (.lit (.bool false))] [],
  .ret (.lit (.bool true))]⟩
/-- _law_plain_done: ['_law_state', '_law_rows', '_law_row', '_law_going'] -/
noncomputable def f__law_plain_done : Fn := ⟨2, 4, [.for [2] (.val (.loc 1)) [.iff (.prim .eq [(.prim .item [(.loc 2), (.lit (.int 0))]), (.lit (.str [119, 104, 105, 108, 101]))]) [.assign (.name 3) (.lit (.bool true)),
  .while (.loc 3) [.iff (.prim .not [(.fn "_law_plain_step" [(.loc 0)])]) [.ret (.lit (.bool false))] [],
  .assign (.name 3) (.fn "_law_true" [(.prim .item [(.loc 2), (.lit (.int 1))]), (.prim .item [(.loc 0), (.lit (.str [98, 111, 120, 101, 115]))])]),
  .iff (.and (.loc 3) (.prim .not [(.fn "_law_plain_done" [(.loc 0), (.prim .item [(.loc 2), (.lit (.int 2))])])])) [.ret (.lit (.bool false))] []]] [.iff (.prim .not [(.fn "_law_plain_step" [(.loc 0)])]) [.ret (.lit (.bool false))] [.iff (.prim .eq [(.prim .item [(.loc 2), (.lit (.int 0))]), (.lit (.str [115, 101, 116]))]) [.assign (.item (.prim .item [(.loc 0), (.lit (.str [98, 111, 120, 101, 115]))]) (.prim .item [(.loc 2), (.lit (.int 1))])) (.fn "_law_reckoned" [(.prim .item [(.loc 2), (.lit (.int 2))]), (.prim .item [(.loc 0), (.lit (.str [98, 111, 120, 101, 115]))])])] [.iff (.prim .not [(.fn "_law_plain_done" [(.loc 0), (.prim .item [(.loc 2), (.prim .item [(.prim .mkList [(.lit (.int 3)), (.lit (.int 2))]), (.prim .toInt [(.fn "_law_true" [(.prim .item [(.loc 2), (.lit (.int 1))]), (.prim .item [(.loc 0), (.lit (.str [98, 111, 120, 101, 115]))])])])])])])]) [.ret (.lit (.bool false))] []]]]],
  .ret (.lit (.bool true))]⟩
/-- _law_plain_told: ['_law_rows', '_law_boxes_here', '_law_most', '_law_state', '_law_word'] -/
noncomputable def f__law_plain_told : Fn := ⟨3, 5, [.assign (.name 3) (.dict [[98, 111, 120, 101, 115], [115, 116, 101, 112, 115], [109, 111, 115, 116]] [(.prim .toDict [(.loc 1)]), (.lit (.int 0)), (.loc 2)]),
  .assign (.name 4) (.prim .item [(.prim .mkList [(.lit (.str [108, 111, 110, 103])), (.lit (.str [100, 111, 110, 101]))]), (.prim .toInt [(.fn "_law_plain_done" [(.loc 3), (.loc 0)])])]),
  .ret (.prim .mkTup [(.loc 4), (.fn "_law_left" [(.prim .item [(.loc 3), (.lit (.str [98, 111, 120, 101, 115]))])]), (.prim .item [(.loc 3), (.lit (.str [115, 116, 101, 112, 115]))])])]⟩
/-- law: ['_law_script', '_law_names', '_law_boxes_here', '_law_rows', '_law_handed', '_law_size', '_law_cell', '_law_most', '_law_found'] -/
noncomputable def f_law : Fn := ⟨1, 9, [.assign (.name 1) (.fn "_law_plain_names" [(.fn "_law_cell_at" [(.loc 0), (.lit (.int 0))])]),
  .assign (.name 2) (.fn "_law_boxes" [(.fn "_law_cell_at" [(.loc 0), (.lit (.int 1))]), (.loc 1)]),
  .assign (.name 3) (.fn "_law_plain_rows" [(.prim .slice [(.loc 0), (.lit (.int 3)), (.lit (.int 35)), (.lit .none)]), (.loc 1)]),
  .assign (.name 4) (.prim .mkList [(.fn "_law_plain_copied" [(.loc 3)]), (.prim .toDict [(.loc 2)])]),
  .assign (.name 5) (.prim .item [(.fn "_law_plain_told" [(.loc 3), (.loc 2), (.lit (.int 120))]), (.lit (.int 2))]),
  .assign (.name 6) (.fn "_law_cell_at" [(.loc 0), (.lit (.int 2))]),
  .for [7] (.val (.prim .mkList [(.lit (.int 120)), (.prim .item [(.prim .mkList [(.loc 5), (.prim .max [(.lit (.int 0)), (.prim .sub [(.loc 5), (.lit (.int 1))])]), (.prim .mod [(.prim .fdiv [(.loc 6), (.lit (.int 3))]), (.lit (.int 120))])]), (.prim .mod [(.loc 6), (.lit (.int 3))])]), (.lit (.int 120))])) [.assign (.name 8) (.fn "plain_run" [(.prim .item [(.loc 4), (.lit (.int 0))]), (.prim .item [(.loc 4), (.lit (.int 1))]), (.loc 7)]),
  .iff (.prim .not [(.fn "_law_alike" [(.loc 8), (.fn "_law_plain_told" [(.loc 3), (.loc 2), (.loc 7)])])]) [.ret (.lit (.bool false))] [],
  .assign (.item (.prim .item [(.loc 8), (.lit (.int 1))]) (.lit (.str [109, 111, 114, 101]))) (.lit (.int 1))],
  .ret (.prim .eq [(.loc 4), (.prim .mkList [(.loc 3), (.loc 2)])])]⟩
noncomputable def fns11 : List String := ["held", "answer", "reckoned", "asked", "plain_run", "_law_cell_at", "_law_mixed", "_law_whole", "_law_alike", "_law_plain_names", "_law_thing", "_law_sum", "_law_question", "_law_plain_closed", "_law_plain_close", "_law_plain_rows", "_law_plain_copied", "_law_boxes", "_law_left", "_law_value", "_law_true", "_law_reckoned", "_law_plain_step", "_law_plain_done", "_law_plain_told", "law"]
open U in
noncomputable def cts11 : List CT := [⟨"PlainRun", [[98, 111, 120, 101, 115], [109, 111, 115, 116], [115, 116, 101, 112, 115]], [([95, 95, 105, 110, 105, 116, 95, 95], "PlainRun.__init__"), ([115, 116, 101, 112], "PlainRun.step"), ([97, 115, 107], "PlainRun.ask"), ([119, 97, 108, 107], "PlainRun.walk")]⟩]
end U11
namespace U11
open U PySem
set_option linter.unusedSimpArgs false
set_option linter.unusedVariables false
set_option linter.unusedSectionVars false
noncomputable def Wd (σ : Hp) (a : Addr) (n : Nat) : Prop := ∃ ws : List Txt, σ a = some (.list (ws.map .str)) ∧ ws.length = n
noncomputable def tabN : List (String × Fn) := [("_law_plain_names", f__law_plain_names)]
section
variable {K : Kx} (T : Tab K tabN) {d : Nat} {σ : Hp} {Q : Post} {X : XPost}
include T
theorem s_plain_names (c : Int) (hq : ∀ a (ns : List Txt) σ', Le σ σ' → σ a = none → σ' a = some (.list (ns.map .str)) → ns.length = 9 → Q (.ref a) σ') : K.fn false d "_law_plain_names" [.int c] σ Q X := by
  have ht : tooLong = 1000000 := rfl
  (refine ent' T f__law_plain_names (by simp [tabN]) rfl (by simp only [f__law_plain_names, args1, List.map_cons, List.map_nil, List.length_cons, List.length_nil, List.cons_append, List.nil_append, List.replicate, Nat.reduceAdd, Nat.reduceSub]; exact rfl) ?_; dsimp only [f__law_plain_names])
  refine seq fun R hR => ?_
  walk_at "ug"
  refine hR _ _ (seq fun R hR => ?_)
  walk_at "ug"
  refine newO fun a₀ σ₁ ha₀ l₁ ha₁ => hR _ _ (seq fun R hR => ?_)
  walk_at "ug"
  refine newO fun a₁ σ₂ _ l₂ ha₂ => ?_
  walk_at "ug"
  refine okP (itemL_mod (by decide) (by decide) (by decide)) ?_
  obtain ⟨sz, hsz, hszm⟩ := sz_of _ (fmod_hi (Int.fdiv c 2) (b := 5) (by decide)) (fmod_lo (Int.fdiv c 2) (b := 5) (by decide))
  have hsz1 : 1 ≤ sz ∧ sz ≤ 6 := by simp only [List.mem_cons, List.not_mem_nil, or_false] at hszm; omega
  rw [hsz]
  refine hR _ _ ?_
  have L2 := l₁.trans l₂
  replace ha₁ := l₂ _ _ ha₁
  clear hR hsz ha₂ l₁ l₂
  refine seq fun R hR => ?_
  walk_at "ug"
  refine comp_new (n := 6) (by decide) (fun σ' => Le σ₂ σ') (fun k v => v = .str [ltr ((Int.fmod (Int.fdiv c 40) 26).toNat + (5 * k + 1))]) (Le.refl _) ?_ ?_
  · intro k σ' cont hk hle hc
    walk_at "ug"
    have e : Int.fdiv c 40 + 5 * (k : Int) + 1 = Int.fdiv c 40 + (5 * (k : Int) + 1) := by omega
    rw [e]
    exact okP (strAt_ltr (Int.fdiv c 40) (5 * k + 1) (y := 5 * (k : Int) + 1) (by omega)) (hc _ _ hle rfl)
  intro vs σ₃ a₃ σ₄ hle hlen hP _ l₃ ha₄
  have hv := list6 (f := fun k => .str [ltr ((Int.fmod (Int.fdiv c 40) 26).toNat + (5 * k + 1))]) hlen hP
  generalize hq26 : (Int.fmod (Int.fdiv c 40) 26).toNat = q at hv
  subst hv
  have l₄ := hle.trans l₃
  have L4 := L2.trans l₄
  have hs4 : σ₄ a₀ = some (.list []) := l₄ _ _ ha₁
  clear hP hlen hle l₃ l₄ L2 ha₁
  walk_at "ug"
  refine hR _ _ ?_
  clear hR ha₄
  show pSs K false d _ [some (.int c), some (.str ltrs), some (.ref a₀), some (.int (sz : Int)), some (.str (tl q)), none, none, none, none] σ₄ _ _ _
  refine seq fun R hR => ?_
  walk_at "ug"
  refine comp_new (n := 6) (by decide) (fun σ' => Le σ₄ σ') (fun k v => v = .str [ltr (q + (5 * k + 13))]) (Le.refl _) ?_ ?_
  · intro k σ' cont hk hle hc
    walk_at "ug"
    have e : Int.fdiv c 40 + 5 * (k : Int) + 13 = Int.fdiv c 40 + (5 * (k : Int) + 13) := by omega
    rw [e]
    exact okP (strAt_ltr (Int.fdiv c 40) (5 * k + 13) (y := 5 * (k : Int) + 13) (by omega)) (hc _ _ hle (by rw [hq26]))
  intro vs σ₅ a₅ σ₆ hle hlen hP _ l₃ ha₆
  have hv := list6 (f := fun k => .str [ltr (q + (5 * k + 13))]) hlen hP
  subst hv
  have l₆ := hle.trans l₃
  have L6 := L4.trans l₆
  have hs6 : σ₆ a₀ = some (.list []) := l₆ _ _ hs4
  clear hP hlen hle l₃ l₆ L4 hs4
  walk_at "ug"
  refine hR _ _ ?_
  clear hR ha₆
  generalize ho : joinT [] [[ltr (q + (5 * 0 + 13))], [ltr (q + (5 * 1 + 13))], [ltr (q + (5 * 2 + 13))], [ltr (q + (5 * 3 + 13))], [ltr (q + (5 * 4 + 13))], [ltr (q + (5 * 5 + 13))]] = ot
  have hol : ot.length = 6 := by rw [← ho]; rfl
  clear ho
  refine seq fun R₀ hR₀ => forI fun F hF => ?_
  walk_at "ug"
  refine hF _ _ _ (for_range (n := 9) (fun k ρ σ' => ∃ x y z, ρ = [some (.int c), some (.str ltrs), some (.ref a₀), some (.int (sz : Int)), some (.str (tl q)), some (.str ot), x, y, z] ∧ Le σ σ' ∧ Wd σ' a₀ k) ⟨_, _, _, rfl, L6, [], hs6, rfl⟩ ?_ ?_)
  · clear hF hR₀ hq hs6 L6
    rintro k ρ σ₅ cont hk ⟨x, y, z, rfl, l₅, ws, h₅, hlen⟩ hc
    have e0 := strAt_ltr (Int.fdiv c 40) (5 * k) (y := 5 * (k : Int)) (by omega)
    refine seq fun R hR => ?_
    walk_at "ug"
    refine hR _ _ (seq fun R hR => ?_)
    have fin : ∀ w z, R [some (.int c), some (.str ltrs), some (.ref a₀), some (.int (sz : Int)), some (.str (tl q)), some (.str ot), some (.int (k : Int)), some (.str w), z] σ₅ := by
      intro w z
      refine hR _ _ (last ?_)
      walk_at "ug"
      refine ⟨by rw [List.length_map]; omega, setN l₅ ha₀ fun σ₆ h₆ l₆ _ => ?_⟩
      exact hc _ _ ⟨_, _, _, rfl, l₆, ws ++ [w], by rw [h₆, List.map_append]; rfl, by rw [List.length_append, hlen]; rfl⟩
    have htl : (tl q).length = 6 := rfl
    clear hc hR h₅ hlen
    refine iffI fun A B hA hB => ?_
    walk_at "ug"
    refine wif (fun hz => hA _ (seq fun R hR => ?_)) fun hz => hB _ (last (iffI fun A B hA hB => ?_))
    · have p1 := fmod_lo (Int.fdiv c 10) (b := (sz : Int)) (by omega)
      have p2 := fmod_hi (Int.fdiv c 10) (b := (sz : Int)) (by omega)
      walk_at "ug"
      refine hR _ _ (last ?_)
      walk_at "ug"
      generalize Int.fmod (Int.fdiv c 10) (sz : Int) = p at p1 p2
      rw [cut_to _ p1, cut_mid _ (by omega) (by omega)]
      refine ⟨by rw [List.length_take, htl]; omega, ?_⟩
      refine ⟨by rw [htl]; decide, ?_⟩
      refine ⟨by rw [List.length_append, List.length_take, List.length_drop, List.length_take, htl]; dsimp only [List.length]; omega, ?_⟩
      exact fin _ _
    · walk_at "ug"
      refine wifd (fun hz => hA _ (last ?_)) fun hz => hB _ (last ?_)
      · walk_at "ug"
        exact fin _ _
      · walk_at "ug"
        exact fin _ _
  · clear hF hs6 L6
    rintro ρ σ₅ ⟨x, y, z, rfl, l₅, ws, h₅, hlen⟩
    refine hR₀ _ _ (seq fun R hR => iffI fun A B hA hB => ?_)
    walk_at "ug"
    have fin : ∀ (ws : List Txt) u σ', Le σ σ' → σ' a₀ = some (.list (ws.map .str)) → ws.length = 9 → R [some (.int c), some (.str ltrs), some (.ref a₀), some (.int (sz : Int)), some (.str (tl q)), some (.str ot), x, u, z] σ' := by
      intro ws u σ₆ l₆ h₆ hlen
      refine hR _ _ (last ?_)
      walk_at "ug"
      exact hq a₀ ws σ₆ l₆ ha₀ h₆ hlen
    clear hR hR₀ hq
    refine wif (fun hz => hA _ (seq fun R hR => ?_)) fun hz => hB _ (fin ws _ _ l₅ h₅ hlen)
    have sto : ∀ {i : Int} {w : Txt} {ws : List Txt} {σ' : Hp} {k : Hp → Prop}, Le σ σ' → σ' a₀ = some (.list (ws.map .str)) → ws.length = 9 → 0 ≤ i → i < 5 → (∀ (ws' : List Txt) σ'', Le σ σ'' → σ'' a₀ = some (.list (ws'.map .str)) → ws'.length = 9 → k σ'') → OkP (ix i (ws.map AV.str).length) fun j => SetO σ' a₀ (.list ((ws.map AV.str).set j (.str w))) k := by
      intro i w ws σ' k hl hs hn h0 h1 hk
      refine okP (ix_ok h0 (by rw [List.length_map, hn]; omega) (by rw [List.length_map, hn]; decide)) (setN hl ha₀ fun σ₆ h₆ l₆ _ => hk (ws.set i.toNat w) σ₆ l₆ ?_ ?_)
      · rw [h₆, List.map_set]
      · rw [List.length_set, hn]
    have m5 : ∀ x : Int, 0 ≤ Int.fmod x 5 ∧ Int.fmod x 5 < 5 := fun x => ⟨fmod_lo x (by decide), fmod_hi x (by decide)⟩
    walk_at "ug"
    refine sto l₅ h₅ hlen (m5 _).1 (m5 _).2 fun ws σ₆ l₆ h₆ hlen => hR _ _ (seq fun R hR => ?_)
    walk_at "ug"
    refine sto l₆ h₆ hlen (m5 _).1 (m5 _).2 fun ws σ₇ l₇ h₇ hlen => hR _ _ (seq fun R hR => ?_)
    walk_at "ug"
    refine newO fun b σ₈ hb l₈ hb₈ => ?_
    walk_at "ug"
    refine okP (itemL_mod (by decide) (by decide) (by decide)) (hR _ _ (last (iffI fun A B hA hB => ?_)))
    have h₈ := l₈ _ _ h₇
    obtain ⟨w, hw⟩ : ∃ w, pick [.str [112, 117, 116], .str [115, 119, 97, 112], .str [114, 111, 117, 110, 100], .str [115, 101, 116]] (Int.fmod (Int.fdiv c 35) 4) = .str w := by
      have p1 := fmod_lo (Int.fdiv c 35) (b := 4) (by decide)
      have p2 := fmod_hi (Int.fdiv c 35) (b := 4) (by decide)
      generalize Int.fmod (Int.fdiv c 35) 4 = j at p1 p2
      obtain rfl | rfl | rfl | rfl : j = 0 ∨ j = 1 ∨ j = 2 ∨ j = 3 := by omega
      all_goals exact ⟨_, rfl⟩
    rw [hw]
    walk_at "ug"
    refine inS rfl all_str ?_
    refine wifn (wif (fun hz => hB _ (fin ws _ _ (l₇.trans l₈) h₈ hlen)) fun hz => hA _ (last ?_))
    walk_at "ug"
    rw [hw]
    refine sto (l₇.trans l₈) h₈ hlen (m5 _).1 (m5 _).2 fun ws σ₉ l₉ h₉ hlen => ?_
    exact fin ws _ _ l₉ h₉ hlen
end
end U11
namespace U11
open U PySem
set_option linter.unusedSimpArgs false
set_option linter.unusedVariables false
set_option linter.unusedSectionVars false
set_option genSizeOf false
set_option genInjectivity false
abbrev Bx := List (Txt × Int)
/-- plain rows -/
inductive Tr where
  | nil
  | set (k : Txt) (m : Tot) (r : Tr)
  | iff (q : Qu) (a b r : Tr)
  | wh (q : Qu) (a r : Tr)
noncomputable def TotOk (m : Tot) : Prop := ∃ own ns, m.ok own ns
noncomputable def Tr.ok : Tr → Nat → Prop
  | .nil, _ => True
  | .set _ m r, h => TotOk m ∧ r.ok h
  | .iff q a b r, h => q.s ∈ signs4 ∧ (∃ h', h = h' + 1 ∧ a.ok h' ∧ b.ok h') ∧ r.ok h
  | .wh q a r, h => q.s ∈ signs4 ∧ (∃ h', h = h' + 1 ∧ a.ok h') ∧ r.ok h
noncomputable def isSq : AO → Prop
  | .list _ => True
  | .tup _ => True
  | _ => False
/-- what stands in the heap -/
noncomputable def Rep (σ : Hp) : Tr → List AV → Prop
  | .nil, vs => vs = []
  | .set k m r, vs => ∃ t u vs', vs = .ref t :: vs' ∧ σ t = some (.tup [.str [115, 101, 116], .str k, .ref u]) ∧ σ u = some (.tup m.avs) ∧ Rep σ r vs'
  | .iff q a b r, vs => ∃ t u la lb va vb vs', vs = .ref t :: vs' ∧ σ t = some (.tup [.str [105, 102], .ref u, .ref la, .ref lb]) ∧ σ u = some (.tup q.avs) ∧ σ la = some (.list va) ∧ Rep σ a va ∧ σ lb = some (.list vb) ∧ Rep σ b vb ∧ Rep σ r vs'
  | .wh q a r, vs => ∃ t u la va vs', vs = .ref t :: vs' ∧ σ t = some (.tup [.str [119, 104, 105, 108, 101], .ref u, .ref la]) ∧ σ u = some (.tup q.avs) ∧ σ la = some (.list va) ∧ Rep σ a va ∧ Rep σ r vs'
noncomputable def Ks (σ σ' : Hp) : Prop := ∀ x o, isSq o → σ x = some o → σ' x = some o
theorem Ks.t {σ σ' : Hp} {x : Addr} {vs : List AV} (h : Ks σ σ') (e : σ x = some (.tup vs)) : σ' x = some (.tup vs) := h x (.tup vs) trivial e
theorem Ks.l {σ σ' : Hp} {x : Addr} {vs : List AV} (h : Ks σ σ') (e : σ x = some (.list vs)) : σ' x = some (.list vs) := h x (.list vs) trivial e
theorem Le.ks {σ σ' : Hp} (h : Le σ σ') : Ks σ σ' := fun x o _ e => h x o e
theorem Rep.ks {σ σ' : Hp} (h : Ks σ σ') : ∀ {tr : Tr} {vs : List AV}, Rep σ tr vs → Rep σ' tr vs
  | .nil, _, e => e
  | .set _ _ _, _, hp0 => by obtain ⟨t, u, vs', h1, h2, h3, h4⟩ := hp0; exact ⟨t, u, vs', h1, h _ _ trivial h2, h _ _ trivial h3, h4.ks h⟩
  | .iff _ _ _ _, _, hp0 => by obtain ⟨t, u, la, lb, va, vb, vs', h1, h2, h3, h4, h5, h6, h7, h8⟩ := hp0; exact ⟨t, u, la, lb, va, vb, vs', h1, h _ _ trivial h2, h _ _ trivial h3, h _ _ trivial h4, h5.ks h, h _ _ trivial h6, h7.ks h, h8.ks h⟩
  | .wh _ _ _, _, hp0 => by obtain ⟨t, u, la, va, vs', h1, h2, h3, h4, h5, h6⟩ := hp0; exact ⟨t, u, la, va, vs', h1, h _ _ trivial h2, h _ _ trivial h3, h _ _ trivial h4, h5.ks h, h6.ks h⟩
/-- what they do, with n steps left: are they done, the boxes, the steps left -/
noncomputable def run : Nat → Tr → Bx → Nat → Bool × Bx × Nat
  | 0, _, bs, n => (true, bs, n)
  | _ + 1, .nil, bs, n => (true, bs, n)
  | _ + 1, .set _ _ _, bs, 0 => (false, bs, 0)
  | f + 1, .set k m r, bs, n + 1 => run f r (dsetI bs k (totI bs m)) n
  | _ + 1, .iff _ _ _ _, bs, 0 => (false, bs, 0)
  | f + 1, .iff q a b r, bs, n + 1 => let x := run f (bif quB bs q then a else b) bs n; bif x.1 then run f r x.2.1 x.2.2 else x
  | _ + 1, .wh _ _ _, bs, 0 => (false, bs, 0)
  | f + 1, .wh q a r, bs, n + 1 => bif quB bs q then (let x := run f a bs n; bif x.1 then run f (.wh q a r) x.2.1 x.2.2 else x) else run f r bs n
/-- boxes that are fit -/
structure Fit (bs : Bx) (n : Nat) : Prop where
  sm : Sm bs
  len : bs.length + n < 1000
theorem Fit.set {bs : Bx} {n : Nat} {m : Tot} (h : Fit bs (n + 1)) (hm : TotOk m) (k : Txt) : Fit (dsetI bs k (totI bs m)) n := by
  obtain ⟨own, ns, hm⟩ := hm
  exact ⟨dsetI_sm h.sm (totI_sm h.sm hm), by have := dsetI_len bs k (totI bs m); have := h.len; omega⟩
theorem Fit.less {bs : Bx} {n : Nat} (h : Fit bs (n + 1)) : Fit bs n := ⟨h.sm, by have := h.len; omega⟩
theorem run_fit : ∀ (f : Nat) {tr : Tr} {bs : Bx} {n h : Nat}, tr.ok h → Fit bs n → n < f → Fit (run f tr bs n).2.1 (run f tr bs n).2.2 ∧ (run f tr bs n).2.2 ≤ n ∧ ((run f tr bs n).1 = false → (run f tr bs n).2.2 = 0)
  | 0, _, _, _, _, _, _, h => nomatch h
  | f + 1, .nil, bs, n, h, _, hf, _ => ⟨hf, Nat.le_refl _, nofun⟩
  | f + 1, .set k m r, bs, 0, h, _, hf, _ => ⟨hf, Nat.le_refl _, fun _ => rfl⟩
  | f + 1, .set k m r, bs, n + 1, h, ho, hf, hn => by
    have := run_fit f ho.2 (hf.set ho.1 k) (Nat.lt_of_succ_lt_succ hn)
    exact ⟨this.1, Nat.le_succ_of_le this.2.1, this.2.2⟩
  | f + 1, .iff q a b r, bs, 0, h, _, hf, _ => ⟨hf, Nat.le_refl _, fun _ => rfl⟩
  | f + 1, .iff q a b r, bs, n + 1, h, ho, hf, hn => by
    obtain ⟨_, ⟨h', rfl, oa, ob⟩, or'⟩ := ho
    have hn := Nat.lt_of_succ_lt_succ hn
    have i1 := run_fit f (tr := bif quB bs q then a else b) (h := h') (by cases quB bs q; exact ob; exact oa) hf.less hn
    have e : run (f + 1) (.iff q a b r) bs (n + 1) = (let x := run f (bif quB bs q then a else b) bs n; bif x.1 then run f r x.2.1 x.2.2 else x) := rfl
    rw [e]
    generalize run f (bif quB bs q then a else b) bs n = x at i1
    obtain ⟨ok, b1, n1⟩ := x
    cases ok with
    | false => exact ⟨i1.1, Nat.le_succ_of_le i1.2.1, i1.2.2⟩
    | true =>
      have i2 := run_fit f or' i1.1 (Nat.lt_of_le_of_lt i1.2.1 hn)
      exact ⟨i2.1, Nat.le_trans i2.2.1 (Nat.le_succ_of_le i1.2.1), i2.2.2⟩
  | f + 1, .wh q a r, bs, 0, h, _, hf, _ => ⟨hf, Nat.le_refl _, fun _ => rfl⟩
  | f + 1, .wh q a r, bs, n + 1, h, ho, hf, hn => by
    have ho' := ho
    obtain ⟨_, ⟨h', rfl, oa⟩, or'⟩ := ho
    have hn := Nat.lt_of_succ_lt_succ hn
    have e : run (f + 1) (.wh q a r) bs (n + 1) = (bif quB bs q then (let x := run f a bs n; bif x.1 then run f (.wh q a r) x.2.1 x.2.2 else x) else run f r bs n) := rfl
    rw [e]
    cases quB bs q with
    | false => have i := run_fit f or' hf.less hn; exact ⟨i.1, Nat.le_succ_of_le i.2.1, i.2.2⟩
    | true =>
      have i1 := run_fit f oa hf.less hn
      show Fit (bif (run f a bs n).1 then _ else _ : Bool × Bx × Nat).2.1 _ ∧ _
      generalize run f a bs n = x at i1
      obtain ⟨ok, b1, n1⟩ := x
      cases ok with
      | false => exact ⟨i1.1, Nat.le_succ_of_le i1.2.1, i1.2.2⟩
      | true =>
        have i2 := run_fit f ho' i1.1 (Nat.lt_of_le_of_lt i1.2.1 hn)
        exact ⟨i2.1, Nat.le_trans i2.2.1 (Nat.le_succ_of_le i1.2.1), i2.2.2⟩
end U11
namespace U11
open U PySem
set_option linter.unusedSimpArgs false
set_option linter.unusedVariables false
set_option linter.unusedSectionVars false
/-- the law's own machine -/
noncomputable def std (b : Addr) (s M : Int) : List (Txt × AV) := [([98, 111, 120, 101, 115], .ref b), ([115, 116, 101, 112, 115], .int s), ([109, 111, 115, 116], .int M)]
theorem std_b {b : Addr} {s M : Int} : (std b s M).lookup [98, 111, 120, 101, 115] = some (.ref b) := rfl
theorem std_s {b : Addr} {s M : Int} : (std b s M).lookup [115, 116, 101, 112, 115] = some (.int s) := rfl
theorem std_m {b : Addr} {s M : Int} : (std b s M).lookup [109, 111, 115, 116] = some (.int M) := rfl
theorem std_set {b : Addr} {s M j : Int} : dset (std b s M) [115, 116, 101, 112, 115] (.int j) = std b j M := rfl
theorem std_len {b : Addr} {s M : Int} : (std b s M).length < tooLong := by show 3 < tooLong; decide
noncomputable def Ex (st b : Addr) (σ σ' : Hp) : Prop := ∀ x o, x ≠ st → x ≠ b → σ x = some o → σ' x = some o
structure Ds (st b : Addr) (M : Nat) (bs : Bx) (n : Nat) (σ : Hp) : Prop where
  s : σ st = some (.dict (std b ((M : Int) - n) M))
  bx : σ b = some (.dict (dI bs))
  ne : st ≠ b
theorem Ex.trans {st b : Addr} {σ₁ σ₂ σ₃ : Hp} (h : Ex st b σ₁ σ₂) (h' : Ex st b σ₂ σ₃) : Ex st b σ₁ σ₃ := fun x o h1 h2 e => h' x o h1 h2 (h x o h1 h2 e)
theorem Ex.of {st b : Addr} {σ σ' : Hp} (h : Le σ σ') : Ex st b σ σ' := fun x o _ _ e => h x o e
theorem sq_ne {σ : Hp} {x y : Addr} {o : AO} {es : List (Txt × AV)} (h : isSq o) (e : σ x = some o) (e' : σ y = some (.dict es)) : x ≠ y := fun q => by
  rw [q, e'] at e; cases e; exact h
theorem Ex.ks {st b : Addr} {M n : Nat} {bs : Bx} {σ σ' : Hp} (D : Ds st b M bs n σ) (h : Ex st b σ σ') : Ks σ σ' := fun x o hs e => h x o (sq_ne hs e D.s) (sq_ne hs e D.bx) e
noncomputable def doneB : List PS := [.iff (.prim .eq [(.prim .item [(.loc 2), (.lit (.int 0))]), (.lit (.str [119, 104, 105, 108, 101]))]) [.assign (.name 3) (.lit (.bool true)),
  .while (.loc 3) [.iff (.prim .not [(.fn "_law_plain_step" [(.loc 0)])]) [.ret (.lit (.bool false))] [],
  .assign (.name 3) (.fn "_law_true" [(.prim .item [(.loc 2), (.lit (.int 1))]), (.prim .item [(.loc 0), (.lit (.str [98, 111, 120, 101, 115]))])]),
  .iff (.and (.loc 3) (.prim .not [(.fn "_law_plain_done" [(.loc 0), (.prim .item [(.loc 2), (.lit (.int 2))])])])) [.ret (.lit (.bool false))] []]] [.iff (.prim .not [(.fn "_law_plain_step" [(.loc 0)])]) [.ret (.lit (.bool false))] [.iff (.prim .eq [(.prim .item [(.loc 2), (.lit (.int 0))]), (.lit (.str [115, 101, 116]))]) [.assign (.item (.prim .item [(.loc 0), (.lit (.str [98, 111, 120, 101, 115]))]) (.prim .item [(.loc 2), (.lit (.int 1))])) (.fn "_law_reckoned" [(.prim .item [(.loc 2), (.lit (.int 2))]), (.prim .item [(.loc 0), (.lit (.str [98, 111, 120, 101, 115]))])])] [.iff (.prim .not [(.fn "_law_plain_done" [(.loc 0), (.prim .item [(.loc 2), (.prim .item [(.prim .mkList [(.lit (.int 3)), (.lit (.int 2))]), (.prim .toInt [(.fn "_law_true" [(.prim .item [(.loc 2), (.lit (.int 1))]), (.prim .item [(.loc 0), (.lit (.str [98, 111, 120, 101, 115]))])])])])])])]) [.ret (.lit (.bool false))] []]]]]
theorem doneB_is : f__law_plain_done = ⟨2, 4, [.for [2] (.val (.loc 1)) doneB, .ret (.lit (.bool true))]⟩ := rfl
noncomputable def tabS : List (String × Fn) := [("_law_plain_step", f__law_plain_step), ("_law_plain_done", f__law_plain_done), ("_law_plain_told", f__law_plain_told), ("_law_left", f__law_left)]
section
variable {K : Kx} (T : Tab K tabS) {d : Nat} {σ : Hp} {Q : Post} {X : XPost} {st b : Addr} {M : Nat}
include T
theorem s_pstep0 {bs : Bx} (D : Ds st b M bs 0 σ) (hq : ∀ σ', Ds st b M bs 0 σ' → Ex st b σ σ' → Q (.bool false) σ') : K.fn false d "_law_plain_step" [.ref st] σ Q X := by
  have h := D.s
  (refine ent' T f__law_plain_step (by simp [tabS]) rfl (by simp only [f__law_plain_step, args1, List.map_cons, List.map_nil, List.length_cons, List.length_nil, List.cons_append, List.nil_append, List.replicate, Nat.reduceAdd, Nat.reduceSub]; exact rfl) ?_; dsimp only [f__law_plain_step])
  refine seq fun R hR => ?_
  walk_at "ug"
  refine okP std_s ?_
  walk_at "ug"
  refine ⟨std_len, setO fun σ₁ h₁ k₁ => hR _ _ (seq fun R hR => iffI fun A B hA hB => ?_)⟩
  rw [std_set] at h₁
  walk_at "ug"
  refine okP std_s ?_
  walk_at "ug"
  refine okP std_m ?_
  walk_at "ug"
  refine wifd (fun _ => hA _ (seq fun R hR => ?_)) fun q => absurd q (by omega)
  walk_at "ug"
  refine okP std_m ?_
  walk_at "ug"
  refine ⟨std_len, setO fun σ₂ h₂ k₂ => hR _ _ (last ?_)⟩
  rw [std_set] at h₂
  walk_at "ug"
  refine hq σ₂ ⟨by rw [h₂]; simp, by rw [k₂ _ (Ne.symm D.ne), k₁ _ (Ne.symm D.ne)]; exact D.bx, D.ne⟩ fun x o h1 h2 e => by rw [k₂ _ h1, k₁ _ h1]; exact e
theorem s_pstep {bs : Bx} {n : Nat} (D : Ds st b M bs (n + 1) σ) (hq : ∀ σ', Ds st b M bs n σ' → Ex st b σ σ' → Q (.bool true) σ') : K.fn false d "_law_plain_step" [.ref st] σ Q X := by
  have h := D.s
  (refine ent' T f__law_plain_step (by simp [tabS]) rfl (by simp only [f__law_plain_step, args1, List.map_cons, List.map_nil, List.length_cons, List.length_nil, List.cons_append, List.nil_append, List.replicate, Nat.reduceAdd, Nat.reduceSub]; exact rfl) ?_; dsimp only [f__law_plain_step])
  refine seq fun R hR => ?_
  walk_at "ug"
  refine okP std_s ?_
  walk_at "ug"
  refine ⟨std_len, setO fun σ₁ h₁ k₁ => hR _ _ (seq fun R hR => iffI fun A B hA hB => ?_)⟩
  rw [std_set] at h₁
  walk_at "ug"
  refine okP std_s ?_
  walk_at "ug"
  refine okP std_m ?_
  walk_at "ug"
  refine wifd (fun q => absurd q (by omega)) fun _ => hB _ (hR _ _ (last ?_))
  walk_at "ug"
  exact hq σ₁ ⟨by rw [h₁]; congr 2; congr 1; omega, by rw [k₁ _ (Ne.symm D.ne)]; exact D.bx, D.ne⟩ fun x o h1 h2 e => by rw [k₁ _ h1]; exact e
end
end U11
namespace U11
open U PySem
set_option linter.unusedSimpArgs false
set_option linter.unusedVariables false
set_option linter.unusedSectionVars false
noncomputable def DoneC (K : Kx) (f : Nat) : Prop := ∀ {st b la : Addr} {M : Nat} {tr : Tr} {bs : Bx} {n h d : Nat} {va : List AV} {σ : Hp} {Q : Post} {X : XPost}, n < f → tr.ok h → Fit bs n → h + 3 ≤ d → σ la = some (.list va) → Rep σ tr va → Ds st b M bs n σ →
  (∀ σ', Ds st b M (run f tr bs n).2.1 (run f tr bs n).2.2 σ' → Ex st b σ σ' → Q (.bool (run f tr bs n).1) σ') → K.fn false d "_law_plain_done" [.ref st, .ref la] σ Q X
noncomputable def LoopC (K : Kx) (f : Nat) : Prop := ∀ {st b l : Addr} {M : Nat} {tr : Tr} {bs : Bx} {n h d : Nat} {vs vs₀ : List AV} {σ : Hp} {x y : Option AV} {Qn : SPost} {Qr : Post} {X : SX}, n < f → tr.ok h → Fit bs n → h + 3 ≤ d → σ l = some (.list vs₀) → Rep σ tr vs → Ds st b M bs n σ →
  (∀ σ', Ds st b M (run f tr bs n).2.1 (run f tr bs n).2.2 σ' → Ex st b σ σ' → ((run f tr bs n).1 = true → ∀ x y, Qn [some (.ref st), some (.ref l), x, y] σ') ∧ ((run f tr bs n).1 = false → Qr (.bool false) σ')) →
  pForL (fun ρ' σ'' k => pSs K false d doneB ρ' σ'' k Qr X) [2] (.keep l (.list vs₀)) (vs.map .one) [some (.ref st), some (.ref l), x, y] σ Qn
section
variable {K : Kx} (TC : Tab K tabC) (T : Tab K tabS)
include TC T
theorem doneL : ∀ f, (∀ f', f' < f → DoneC K f') → LoopC K f := by
  intro f
  induction f using Nat.strongRecOn with
  | ind f IH =>
  intro ih st b l M tr bs n h d vs vs₀ σ x y Qn Qr X hn ho hf hd hl hr D hk
  obtain ⟨f, rfl⟩ : ∃ f', f = f' + 1 := ⟨f - 1, by omega⟩
  have IH' : LoopC K f := IH f (Nat.lt_succ_self f) fun f' h => ih f' (Nat.lt_succ_of_lt h)
  have ihf : DoneC K f := ih f (Nat.lt_succ_self f)
  cases tr with
  | nil => cases hr; exact ⟨hl, (hk σ D fun _ _ _ _ e => e).1 rfl _ _⟩
  | set k m r =>
    obtain ⟨t, u, vs', rfl, ht, hu, hr⟩ := hr
    refine ⟨hl, _, rfl, ?_⟩
    dsimp only [doneB]
    refine last (iffI fun A B hA hB => ?_)
    walk_at "ug"
    refine hB _ (last (iffI fun A B hA hB => ?_))
    walk_at "ug"
    cases n with
    | zero =>
      refine s_pstep0 T D fun σ₁ D₁ e₁ => ?_
      walk_at "ug"
      refine hA _ (last ?_)
      walk_at "ug"
      exact (hk σ₁ D₁ e₁).2 rfl
    | succ n =>
      refine s_pstep T D fun σ₁ D₁ e₁ => ?_
      have k₁ := e₁.ks D
      have ht₁ := k₁.t ht
      have hu₁ := k₁.t hu
      have hs₁ := D₁.s
      walk_at "ug"
      refine hB _ (last (iffI fun A B hA hB => ?_))
      walk_at "ug"
      refine hA _ (last ?_)
      walk_at "ug"
      refine okP std_b ?_
      walk_at "ug"
      obtain ⟨own, ns, hm⟩ := ho.1
      refine s_reckoned' TC (by omega) D₁.bx hu₁ hf.sm hm fun σ₂ l₂ => ?_
      have hs₂ := l₂ _ _ D₁.s
      have hb₂ := l₂ _ _ D₁.bx
      have ht₂ := l₂ _ _ ht₁
      walk_at "ug"
      refine okP std_b ?_
      walk_at "ug"
      refine ⟨by rw [dI_length]; have := hf.len; have ht : tooLong = 1000000 := rfl; omega, setO fun σ₃ h₃ k₃ => ?_⟩
      rw [dset_dI] at h₃
      have D₃ : Ds st b M (dsetI bs k (totI bs m)) n σ₃ := ⟨(k₃ _ D.ne).trans hs₂, h₃, D.ne⟩
      have e₃ : Ex st b σ σ₃ := fun x o h1 h2 e => (k₃ _ h2).trans (l₂ _ _ (e₁ x o h1 h2 e))
      have s₃ := e₃.ks D
      exact IH' (Nat.lt_of_succ_lt_succ hn) ho.2 (hf.set ho.1 k) hd (s₃.l hl) (hr.ks s₃) D₃ fun σ' D' e' => hk σ' D' (e₃.trans e')
  | iff q a c r =>
    obtain ⟨t, u, la, lb, va, vb, vs', rfl, ht, hu, hla, hra, hlb, hrb, hr⟩ := hr
    obtain ⟨hs4, ⟨h', rfl, oa, oc⟩, or'⟩ := ho
    refine ⟨hl, _, rfl, ?_⟩
    dsimp only [doneB]
    refine last (iffI fun A B hA hB => ?_)
    walk_at "ug"
    refine hB _ (last (iffI fun A B hA hB => ?_))
    walk_at "ug"
    cases n with
    | zero =>
      refine s_pstep0 T D fun σ₁ D₁ e₁ => ?_
      walk_at "ug"
      refine hA _ (last ?_)
      walk_at "ug"
      exact (hk σ₁ D₁ e₁).2 rfl
    | succ n =>
      refine s_pstep T D fun σ₁ D₁ e₁ => ?_
      have k₁ := e₁.ks D
      have ht₁ := k₁.t ht
      have hu₁ := k₁.t hu
      have hs₁ := D₁.s
      walk_at "ug"
      refine hB _ (last (iffI fun A B hA hB => ?_))
      walk_at "ug"
      refine hB _ (last (iffI fun A B hA hB => ?_))
      walk_at "ug"
      refine newO fun p σ₂ hp l₂ hp₂ => ?_
      have ht₂ := l₂ _ _ ht₁
      have hu₂ := l₂ _ _ hu₁
      have hs₂ := l₂ _ _ D₁.s
      have hb₂ := l₂ _ _ D₁.bx
      walk_at "ug"
      refine okP std_b ?_
      walk_at "ug"
      refine s_true TC (by omega) hb₂ hu₂ hs4 fun σ₃ l₃ => ?_
      have hp₃ := l₃ _ _ hp₂
      have ht₃ := l₃ _ _ ht₂
      have L3 := l₂.trans l₃
      have D₃ : Ds st b M bs n σ₃ := ⟨l₃ _ _ hs₂, l₃ _ _ hb₂, D.ne⟩
      have e₃ : Ex st b σ σ₃ := e₁.trans (.of L3)
      have s₃ := e₃.ks D
      walk_at "ug"
      cases hqb : quB bs q with
      | true =>
        have er : run (f + 1) (.iff q a c r) bs (n + 1) = (bif (run f a bs n).1 then run f r (run f a bs n).2.1 (run f a bs n).2.2 else run f a bs n) := by
          show (let x := run f (bif quB bs q then a else c) bs n; bif x.1 then run f r x.2.1 x.2.2 else x) = _
          rw [hqb]; rfl
        rw [er] at hk
        refine okP (show itemL [AV.int 3, AV.int 2] (b2i true) = some (.int 2) from itemL_1) ?_
        walk_at "ug"
        refine ihf (tr := a) (h := h') (Nat.lt_of_succ_lt_succ hn) oa hf.less (by omega) (s₃.l hla) (hra.ks s₃) D₃ fun σ₄ D₄ e₄ => ?_
        have i1 := run_fit f oa hf.less (Nat.lt_of_succ_lt_succ hn)
        generalize run f a bs n = z at hk D₄ i1 ⊢
        obtain ⟨ok, b1, n1⟩ := z
        have s₄ := (e₃.trans e₄).ks D
        cases ok with
        | false =>
          walk_at "ug"
          refine hA _ (last ?_)
          walk_at "ug"
          exact (hk σ₄ D₄ (e₃.trans e₄)).2 rfl
        | true =>
          walk_at "ug"
          exact hB _ (IH' (Nat.lt_of_le_of_lt i1.2.1 (Nat.lt_of_succ_lt_succ hn)) or' i1.1 hd (s₄.l hl) (hr.ks s₄) D₄ fun σ' D' e' => hk σ' D' ((e₃.trans e₄).trans e'))
      | false =>
        have er : run (f + 1) (.iff q a c r) bs (n + 1) = (bif (run f c bs n).1 then run f r (run f c bs n).2.1 (run f c bs n).2.2 else run f c bs n) := by
          show (let x := run f (bif quB bs q then a else c) bs n; bif x.1 then run f r x.2.1 x.2.2 else x) = _
          rw [hqb]; rfl
        rw [er] at hk
        refine okP (show itemL [AV.int 3, AV.int 2] (b2i false) = some (.int 3) from itemL_0) ?_
        walk_at "ug"
        refine ihf (tr := c) (h := h') (Nat.lt_of_succ_lt_succ hn) oc hf.less (by omega) (s₃.l hlb) (hrb.ks s₃) D₃ fun σ₄ D₄ e₄ => ?_
        have i1 := run_fit f oc hf.less (Nat.lt_of_succ_lt_succ hn)
        generalize run f c bs n = z at hk D₄ i1 ⊢
        obtain ⟨ok, b1, n1⟩ := z
        have s₄ := (e₃.trans e₄).ks D
        cases ok with
        | false =>
          walk_at "ug"
          refine hA _ (last ?_)
          walk_at "ug"
          exact (hk σ₄ D₄ (e₃.trans e₄)).2 rfl
        | true =>
          walk_at "ug"
          exact hB _ (IH' (Nat.lt_of_le_of_lt i1.2.1 (Nat.lt_of_succ_lt_succ hn)) or' i1.1 hd (s₄.l hl) (hr.ks s₄) D₄ fun σ' D' e' => hk σ' D' ((e₃.trans e₄).trans e'))
  | wh q a r =>
    obtain ⟨t, u, la, va, vs', rfl, ht, hu, hla, hra, hr⟩ := hr
    have ho' := ho
    obtain ⟨hs4, ⟨h', rfl, oa⟩, or'⟩ := ho
    generalize hz : run (f + 1) (.wh q a r) bs n = z at hk
    refine ⟨hl, _, rfl, ?_⟩
    dsimp only [doneB]
    refine last (iffI fun A B hA hB => ?_)
    walk_at "ug"
    refine hA _ (seq fun R hR => ?_)
    walk_at "ug"
    refine hR _ _ (last ?_)
    clear hR hA hB
    refine ⟨fun m ρ σ' => ∃ g bs₁ n₁ f₁, ρ = [some (.ref st), some (.ref l), some (.ref t), some (.bool g)] ∧ Ds st b M bs₁ n₁ σ' ∧ Ex st b σ σ' ∧ n₁ < f₁ ∧ Fit bs₁ n₁ ∧ ((g = true ∧ m = n₁ + 1 ∧ f₁ ≤ f + 1 ∧ run f₁ (.wh q a r) bs₁ n₁ = z) ∨ (g = false ∧ m = 0 ∧ f₁ ≤ f ∧ run f₁ r bs₁ n₁ = z)),
      ⟨_, true, bs, n, f + 1, rfl, D, fun _ _ _ _ e => e, hn, hf, .inl ⟨rfl, rfl, Nat.le_refl _, hz⟩⟩, ?_⟩
    clear hz hf hn ihf IH'
    rintro m ρ σ₁ ⟨g, bs₁, n₁, f₁, rfl, D₁, e₁, hn₁, hf₁, hg⟩
    have s₁ := e₁.ks D
    have ht₁ := s₁.t ht
    have hu₁ := s₁.t hu
    rcases hg with ⟨rfl, rfl, hff, er⟩ | ⟨rfl, rfl, hff, er⟩
    · obtain ⟨f₂, rfl⟩ : ∃ f', f₁ = f' + 1 := ⟨f₁ - 1, by omega⟩
      walk_at "ug"
      refine seq fun R hR => iffI fun A B hA hB => ?_
      walk_at "ug"
      cases n₁ with
      | zero =>
        refine s_pstep0 T D₁ fun σ₂ D₂ e₂ => ?_
        walk_at "ug"
        refine hA _ (last ?_)
        walk_at "ug"
        subst er
        exact (hk σ₂ D₂ (e₁.trans e₂)).2 rfl
      | succ n₁ =>
        refine s_pstep T D₁ fun σ₂ D₂ e₂ => ?_
        have E2 := e₁.trans e₂
        have s₂ := E2.ks D
        have ht₂ := s₂.t ht
        have hu₂ := s₂.t hu
        have hs₂ := D₂.s
        walk_at "ug"
        refine hB _ (hR _ _ (seq fun R hR => ?_))
        walk_at "ug"
        refine okP std_b ?_
        walk_at "ug"
        refine s_true TC (by omega) D₂.bx hu₂ hs4 fun σ₃ l₃ => hR _ _ (last (iffI fun A B hA hB => ?_))
        have D₃ : Ds st b M bs₁ n₁ σ₃ := ⟨l₃ _ _ D₂.s, l₃ _ _ D₂.bx, D.ne⟩
        have e₃ : Ex st b σ σ₃ := E2.trans (.of l₃)
        have s₃ := e₃.ks D
        have ht₃ := s₃.t ht
        have hn₂ := Nat.lt_of_succ_lt_succ hn₁
        have er' : (bif quB bs₁ q then (let x := run f₂ a bs₁ n₁; bif x.1 then run f₂ (.wh q a r) x.2.1 x.2.2 else x) else run f₂ r bs₁ n₁) = z := er
        clear er
        cases hqb : quB bs₁ q with
        | false =>
          rw [hqb] at er'
          walk_at "ug"
          exact hB _ ⟨0, by omega, false, bs₁, n₁, f₂, by rw [hqb], D₃, e₃, hn₂, hf₁.less, .inr ⟨rfl, rfl, by omega, er'⟩⟩
        | true =>
          rw [hqb] at er'
          have er₂ : (bif (run f₂ a bs₁ n₁).1 then run f₂ (.wh q a r) (run f₂ a bs₁ n₁).2.1 (run f₂ a bs₁ n₁).2.2 else run f₂ a bs₁ n₁) = z := er'
          have i1 := run_fit f₂ oa hf₁.less hn₂
          have ih₂ : DoneC K f₂ := ih f₂ (by omega)
          walk_at "ug"
          refine ih₂ (tr := a) (h := h') hn₂ oa hf₁.less (by omega) (s₃.l hla) (hra.ks s₃) D₃ fun σ₄ D₄ e₄ => ?_
          clear er'
          generalize run f₂ a bs₁ n₁ = w at er₂ D₄ i1 ⊢
          obtain ⟨ok, b1, n1⟩ := w
          cases ok with
          | false =>
            walk_at "ug"
            refine hA _ (last ?_)
            walk_at "ug"
            subst er₂
            exact (hk σ₄ D₄ (e₃.trans e₄)).2 rfl
          | true =>
            walk_at "ug"
            exact hB _ ⟨n1 + 1, by have := i1.2.1; dsimp only at this; omega, true, b1, n1, f₂, by rw [hqb], D₄, e₃.trans e₄, Nat.lt_of_le_of_lt i1.2.1 hn₂, i1.1, .inl ⟨rfl, rfl, by omega, er₂⟩⟩
    · walk_at "ug"
      have IH₁ : LoopC K f₁ := IH f₁ (by omega) fun f' h => ih f' (by omega)
      subst er
      exact IH₁ hn₁ or' hf₁ hd (s₁.l hl) (hr.ks s₁) D₁ fun σ' D' e' => hk σ' D' (e₁.trans e')
theorem doneF : ∀ f, DoneC K f := by
  intro f
  induction f using Nat.strongRecOn with
  | ind f IH =>
  intro st b la M tr bs n h d va σ Q X hn ho hf hd hl hr D hq
  have LL : LoopC K f := doneL TC T f IH
  refine ent' T f__law_plain_done (by simp [tabS]) rfl (by simp only [doneB_is, args1, List.map_cons, List.map_nil, List.length_cons, List.length_nil, List.cons_append, List.nil_append, List.replicate, Nat.reduceAdd, Nat.reduceSub]; exact rfl) ?_
  rw [doneB_is]
  refine seq fun R hR => forI fun F hF => ?_
  walk_at "ug"
  refine hF _ _ _ (LL hn ho hf hd hl hr D fun σ' D' e' => ?_)
  have hq := hq σ' D' e'
  refine ⟨fun e x y => hR _ _ (last ?_), fun e => ⟨rfl, ?_⟩⟩
  · rw [e] at hq; exact hq
  · rw [e] at hq; exact hq
end
end U11
namespace U11
open U PySem
set_option linter.unusedSimpArgs false
set_option linter.unusedVariables false
set_option linter.unusedSectionVars false
/-- what is left of boxes -/
noncomputable def lfS (bs : Bx) (acc : Bx) (k : Txt) : Bx := bif (bs.lookup k).getD 0 == 0 then acc else dsetI acc k ((bs.lookup k).getD 0)
noncomputable def lf (bs : Bx) : Bx := (bs.map (·.1)).foldl (lfS bs) []
theorem lfS_len (bs acc : Bx) (k : Txt) : (lfS bs acc k).length ≤ acc.length + 1 := by
  unfold lfS
  cases (bs.lookup k).getD 0 == 0 with
  | true => exact Nat.le_succ _
  | false => exact dsetI_len _ _ _
theorem lf_look {bs : Bx} {e : Txt × AV} (h : e ∈ dI bs) : (dI bs).lookup e.1 = some (.int ((bs.lookup e.1).getD 0)) := by
  rw [dI_lookup]
  obtain ⟨e', he, rfl⟩ := List.mem_map.mp h
  cases q : bs.lookup e'.1 with
  | some v => rfl
  | none => exact absurd he (by
      intro hm
      clear h
      induction bs with
      | nil => cases hm
      | cons x r ih =>
        rw [List.lookup_cons] at q
        cases hx : e'.1 == x.1 with
        | true => rw [hx] at q; cases q
        | false =>
          rw [hx] at q
          rcases List.mem_cons.mp hm with rfl | hm
          · simp at hx
          · exact ih hm q hm)
noncomputable def Lx (a : Addr) (σ σ' : Hp) : Prop := ∀ x o, x ≠ a → σ x = some o → σ' x = some o
/-- one step of such a loop: where it stands -/
structure Lf (σ : Hp) (a r : Addr) (bs : Bx) (rest : List (Txt × AV)) (σ' : Hp) : Prop where
  fz : σ' a = some (.fdict (dI bs))
  kp : Lx a σ σ'
  sub : ∀ e ∈ rest, e ∈ dI bs
  at' : ∃ acc, σ' r = some (.dict (dI acc)) ∧ acc.length + rest.length ≤ bs.length ∧ (rest.map (·.1)).foldl (lfS bs) acc = lf bs
theorem Lf.done {σ σ' : Hp} {a r : Addr} {bs : Bx} (L : Lf σ a r bs [] σ') (ha : σ a = some (.dict (dI bs))) (hr : r ≠ a) : Le σ (setH σ' a (.dict (dI bs))) ∧ setH σ' a (.dict (dI bs)) r = some (.dict (dI (lf bs))) := by
  obtain ⟨acc, h1, _, h2⟩ := L.at'
  refine ⟨fun x o e => ?_, by rw [setH_ne hr, h1, ← h2]; rfl⟩
  by_cases hx : x = a
  · subst hx; rw [setH_here, ← ha]; exact e
  · rw [setH_ne hx]; exact L.kp x o hx e
theorem Lf.skip {σ σ' : Hp} {a r : Addr} {bs : Bx} {e : Txt × AV} {rest : List (Txt × AV)} (L : Lf σ a r bs (e :: rest) σ') (hz : ((bs.lookup e.1).getD 0 == 0) = true) : Lf σ a r bs rest σ' := by
  obtain ⟨acc, h1, h2, h3⟩ := L.at'
  refine ⟨L.fz, L.kp, fun x hx => L.sub x (.tail _ hx), acc, h1, by simp only [List.length_cons] at h2; omega, ?_⟩
  rw [List.map_cons, List.foldl_cons] at h3
  have : lfS bs acc e.1 = acc := by unfold lfS; rw [hz]; rfl
  rw [this] at h3; exact h3
theorem Lf.put {σ σ' σ'' : Hp} {a r : Addr} {bs acc : Bx} {e : Txt × AV} {rest : List (Txt × AV)} (L : Lf σ a r bs (e :: rest) σ') (hr : r ≠ a) (hn : σ r = none) (ha : σ' r = some (.dict (dI acc))) (h2 : acc.length + (e :: rest).length ≤ bs.length) (h3 : ((e :: rest).map (·.1)).foldl (lfS bs) acc = lf bs)
    (hz : ((bs.lookup e.1).getD 0 == 0) = false) (hs : σ'' r = some (.dict (dset (dI acc) e.1 (.int ((bs.lookup e.1).getD 0))))) (hk : ∀ x, x ≠ r → σ'' x = σ' x) : Lf σ a r bs rest σ'' := by
  rw [dset_dI] at hs
  refine ⟨by rw [hk _ (Ne.symm hr)]; exact L.fz, fun x o h1 h => by rw [hk x (fun q => by rw [q, hn] at h; cases h)]; exact L.kp x o h1 h, fun x hx => L.sub x (.tail _ hx), _, hs, ?_, ?_⟩
  · have := dsetI_len acc e.1 ((bs.lookup e.1).getD 0)
    simp only [List.length_cons] at h2; omega
  · rw [List.map_cons, List.foldl_cons] at h3
    have : lfS bs acc e.1 = dsetI acc e.1 ((bs.lookup e.1).getD 0) := by unfold lfS; rw [hz]; rfl
    rw [this] at h3; exact h3
section
variable {K : Kx} (T : Tab K tabS) {d : Nat} {σ : Hp} {Q : Post} {X : XPost} {a : Addr} {bs : Bx}
include T
theorem s_left (h : σ a = some (.dict (dI bs))) (hl : bs.length < 1000) (hq : ∀ r σ', Le σ σ' → σ r = none → σ' r = some (.dict (dI (lf bs))) → Q (.ref r) σ') : K.fn false d "_law_left" [.ref a] σ Q X := by
  have htl : tooLong = 1000000 := rfl
  (refine ent' T f__law_left (by simp [tabS]) rfl (by simp only [f__law_left, args1, List.map_cons, List.map_nil, List.length_cons, List.length_nil, List.cons_append, List.nil_append, List.replicate, Nat.reduceAdd, Nat.reduceSub]; exact rfl) ?_; dsimp only [f__law_left])
  refine seq fun R hR => ?_
  walk_at "ug"
  refine newO fun r σ₁ hr l₁ hr₁ => hR _ _ (seq fun R hR => forI fun F hF => ?_)
  have h₁ := l₁ _ _ h
  have hra : r ≠ a := fun q => by rw [q, h] at hr; cases hr
  walk_at "ug"
  dsimp only [itP, pIn]
  refine hF _ _ _ (for_list (g := .ice a (dI bs)) (fun e : Txt × AV => AV.str e.1) (fun rest ρ σ' => ∃ x, ρ = [some (.ref a), some (.ref r), x] ∧ Lf σ a r bs rest σ') (fun _ _ _ ⟨_, _, L⟩ => L.fz) ?_ ?_ _ _ _ ⟨_, rfl, setH_here _ _ _, fun x o hx e => (setH_ne hx).trans (l₁ _ _ e), fun _ h => h, [], (setH_ne hra).trans hr₁, by rw [dI_length]; simp, by unfold lf dI; rw [List.map_map]; rfl⟩)
  · rintro e rest ρ σ₂ c ⟨x, rfl, L⟩ hc
    have hfz := L.fz
    have hlk := lf_look (L.sub e (.head _))
    refine last (iffI fun A B hA hB => ?_)
    walk_at "ug"
    cases hz : (bs.lookup e.1).getD 0 == 0 with
    | true =>
      refine hB _ (hc _ _ ⟨_, rfl, L.skip hz⟩)
    | false =>
      refine hA _ (last ?_)
      obtain ⟨acc, a1, a2, a3⟩ := L.at'
      walk_at "ug"
      refine ⟨by rw [dI_length]; omega, setO fun σ₃ h₃ k₃ => ?_⟩
      exact hc _ _ ⟨_, rfl, L.put hra hr a1 a2 a3 hz h₃ k₃⟩
  · rintro ρ σ₂ ⟨x, rfl, L⟩
    obtain ⟨e1, e2⟩ := L.done h hra
    refine hR _ _ (last ?_)
    walk_at "ug"
    exact hq r _ e1 hr e2
end
noncomputable def wd (ok : Bool) : Txt := bif ok then [100, 111, 110, 101] else [108, 111, 110, 103]
section
variable {K : Kx} (TC : Tab K tabC) (T : Tab K tabS) {d : Nat} {σ : Hp} {Q : Post} {X : XPost} {a l : Addr} {bs : Bx}
include TC T
theorem s_told {tr : Tr} {M h : Nat} {va : List AV} (ho : tr.ok h) (hf : Fit bs M) (hd : h + 5 ≤ d) (hl : σ l = some (.list va)) (hr : Rep σ tr va) (ha : σ a = some (.dict (dI bs)))
    (hq : ∀ t r σ', Le σ σ' → σ t = none → σ r = none → σ' t = some (.tup [.str (wd (run (M + 1) tr bs M).1), .ref r, .int ((M : Int) - (run (M + 1) tr bs M).2.2)]) → σ' r = some (.dict (dI (lf (run (M + 1) tr bs M).2.1))) → Q (.ref t) σ') : K.fn false d "_law_plain_told" [.ref l, .ref a, .int M] σ Q X := by
  have htl : tooLong = 1000000 := rfl
  have hlen := hf.len
  (refine ent' T f__law_plain_told (by simp [tabS]) rfl (by simp only [f__law_plain_told, args1, List.map_cons, List.map_nil, List.length_cons, List.length_nil, List.cons_append, List.nil_append, List.replicate, Nat.reduceAdd, Nat.reduceSub]; exact rfl) ?_; dsimp only [f__law_plain_told])
  refine seq fun R hR => ?_
  walk_at "ug"
  intro st hst
  have l₁ : Le σ (setH σ st (.dict [])) := Le.new hst
  have hst₁ := setH_here σ st (.dict [])
  generalize setH σ st (.dict []) = σ₁ at l₁ hst₁
  have ha₁ := l₁ _ _ ha
  walk_at "ug"
  refine ⟨by rw [dI_length]; omega, newO fun b σ₂ hb l₂ hb₂ => ?_⟩
  walk_at "ug"
  have hne : st ≠ b := ne_of hst₁ hb
  refine ⟨⟨rfl, l₂ _ _ hst₁⟩, setO fun σ₃ h₃ k₃ => ?_⟩
  have h₃ : σ₃ st = some (.dict (std b 0 M)) := h₃
  have L3 : Le σ σ₃ := fun x o e => by rw [k₃ x (ne_of e hst)]; exact l₂ _ _ (l₁ _ _ e)
  have D : Ds st b M bs M σ₃ := ⟨by rw [h₃, Int.sub_self], by rw [k₃ b (Ne.symm hne)]; exact hb₂, hne⟩
  refine hR _ _ (seq fun R hR => ?_)
  walk_at "ug"
  refine newO fun p σ₄ hp l₄ hp₄ => ?_
  have L4 := L3.trans l₄
  have D₄ : Ds st b M bs M σ₄ := ⟨l₄ _ _ D.s, l₄ _ _ D.bx, hne⟩
  walk_at "ug"
  refine doneF TC T (M + 1) (Nat.lt_succ_self M) ho hf (by omega) (L4 _ _ hl) (hr.ks (U11.Le.ks L4)) D₄ fun σ₅ D₅ e₅ => ?_
  have i1 := run_fit (M + 1) ho hf (Nat.lt_succ_self M)
  generalize run (M + 1) tr bs M = z at hq D₅ i1 ⊢
  obtain ⟨ok, b1, n1⟩ := z
  have hb0 : σ b = none := by
    cases e : σ b with
    | none => rfl
    | some o => rw [l₁ _ _ e] at hb; cases hb
  have L5 : Le σ σ₅ := fun x o e => e₅ x o (ne_of e hst) (ne_of e hb0) (L4 _ _ e)
  have hp₅ := e₅ p _ (fun q => by rw [q, D.s] at hp; cases hp) (fun q => by rw [q, D.bx] at hp; cases hp) hp₄
  walk_at "ug"
  refine okP (v := .str (wd ok)) (by cases ok; exact itemL_0; exact itemL_1) (hR _ _ (last ?_))
  have hs₅ := D₅.s
  walk_at "ug"
  refine okP std_b ?_
  walk_at "ug"
  refine s_left T (bs := b1) D₅.bx (by have := i1.1.len; dsimp only at this; omega) fun r σ₆ l₆ hr₆ hr₆' => ?_
  have hs₆ := l₆ _ _ hs₅
  walk_at "ug"
  refine okP std_s ?_
  walk_at "ug"
  refine newO fun t σ₇ ht l₇ ht₇ => ?_
  have L7 := L5.trans (l₆.trans l₇)
  have nn : ∀ {x} {σ' : Hp}, Le σ σ' → σ' x = none → σ x = none := fun {x σ'} hl e => by
    cases q : σ x with
    | none => rfl
    | some o => rw [hl _ _ q] at e; cases e
  exact hq t r σ₇ L7 (nn (L5.trans l₆) ht) (nn L5 hr₆) ht₇ (l₇ _ _ hr₆')
end
end U11
namespace U11
open U PySem
set_option linter.unusedSimpArgs false
set_option linter.unusedVariables false
set_option linter.unusedSectionVars false
noncomputable def ob (b : Addr) (M s : Int) : List (Txt × AV) := [([98, 111, 120, 101, 115], .ref b), ([109, 111, 115, 116], .int M), ([115, 116, 101, 112, 115], .int s)]
theorem ob_b {b : Addr} {s M : Int} : (ob b M s).lookup [98, 111, 120, 101, 115] = some (.ref b) := rfl
theorem ob_s {b : Addr} {s M : Int} : (ob b M s).lookup [115, 116, 101, 112, 115] = some (.int s) := rfl
theorem ob_m {b : Addr} {s M : Int} : (ob b M s).lookup [109, 111, 115, 116] = some (.int M) := rfl
theorem ob_set {b : Addr} {s M j : Int} : dset (ob b M s) [115, 116, 101, 112, 115] (.int j) = ob b M j := rfl
theorem ob_len {b : Addr} {s M : Int} : (ob b M s).length < tooLong := by show 3 < tooLong; decide
structure Ms (me dd b : Addr) (M : Nat) (bs : Bx) (n : Nat) (σ : Hp) : Prop where
  o : σ me = some (.inst "PlainRun" dd)
  a : σ dd = some (.attrs (ob b M ((M : Int) - n)))
  bx : σ b = some (.dict (dI bs))
  ne : dd ≠ b
theorem Ms.of {me dd b : Addr} {M n m : Nat} {bs bs' : Bx} {σ σ' : Hp} (D : Ms me dd b M bs n σ) (h : Ex dd b σ σ') (h1 : σ' dd = some (.attrs (ob b M ((M : Int) - m)))) (h2 : σ' b = some (.dict (dI bs'))) : Ms me dd b M bs' m σ' :=
  ⟨h _ _ (fun q => by have := D.o; rw [q, D.a] at this; cases this) (fun q => by have := D.o; rw [q, D.bx] at this; cases this) D.o, h1, h2, D.ne⟩
theorem Ms.ks {me dd b : Addr} {M n : Nat} {bs : Bx} {σ σ' : Hp} (D : Ms me dd b M bs n σ) (h : Ex dd b σ σ') : Ks σ σ' := fun x o hs e => h x o (fun q => by rw [q, D.a] at e; cases e; exact hs) (fun q => by rw [q, D.bx] at e; cases e; exact hs) e
structure Kp (K : Kx) : Prop where
  b : K.att "PlainRun" [98, 111, 120, 101, 115]
  m : K.att "PlainRun" [109, 111, 115, 116]
  s : K.att "PlainRun" [115, 116, 101, 112, 115]
  i : K.mth "PlainRun" initT "PlainRun.__init__"
  st : K.mth "PlainRun" [115, 116, 101, 112] "PlainRun.step"
  as : K.mth "PlainRun" [97, 115, 107] "PlainRun.ask"
  wa : K.mth "PlainRun" [119, 97, 108, 107] "PlainRun.walk"
  x : K.exc "Long"
theorem Kp.of {K : Kx} (C : Kc K cts11 ["Long"]) : Kp K :=
  ⟨C.att _ (.head _) _ (.head _), C.att _ (.head _) _ (.tail _ (.head _)), C.att _ (.head _) _ (.tail _ (.tail _ (.head _))), C.mth _ (.head _) _ (.head _), C.mth _ (.head _) _ (.tail _ (.head _)), C.mth _ (.head _) _ (.tail _ (.tail _ (.head _))), C.mth _ (.head _) _ (.tail _ (.tail _ (.tail _ (.head _)))), C.exc _ (.head _)⟩
noncomputable def walkB : List PS := [.iff (.prim .eq [(.prim .item [(.loc 2), (.lit (.int 0))]), (.lit (.str [115, 101, 116]))]) [.expr (.meth [115, 116, 101, 112] "PlainRun.step" (.loc 0) []),
  .assign (.item (.attr [98, 111, 120, 101, 115] (.loc 0)) (.prim .item [(.loc 2), (.lit (.int 1))])) (.fn "reckoned" [(.prim .item [(.loc 2), (.lit (.int 2))]), (.attr [98, 111, 120, 101, 115] (.loc 0))])] [.iff (.prim .eq [(.prim .item [(.loc 2), (.lit (.int 0))]), (.lit (.str [105, 102]))]) [.iff (.meth [97, 115, 107] "PlainRun.ask" (.loc 0) [(.prim .item [(.loc 2), (.lit (.int 1))])]) [.expr (.meth [119, 97, 108, 107] "PlainRun.walk" (.loc 0) [(.prim .item [(.loc 2), (.lit (.int 2))])])] [.expr (.meth [119, 97, 108, 107] "PlainRun.walk" (.loc 0) [(.prim .item [(.loc 2), (.lit (.int 3))])])]] [.while (.meth [97, 115, 107] "PlainRun.ask" (.loc 0) [(.prim .item [(.loc 2), (.lit (.int 1))])]) [.expr (.meth [119, 97, 108, 107] "PlainRun.walk" (.loc 0) [(.prim .item [(.loc 2), (.lit (.int 2))])])]]]]
theorem walkB_is : f_PlainRun_walk = ⟨2, 3, [.for [2] (.val (.loc 1)) walkB]⟩ := rfl
noncomputable def tabW : List (String × Fn) := [("PlainRun.__init__", f_PlainRun___init__), ("PlainRun.step", f_PlainRun_step), ("PlainRun.ask", f_PlainRun_ask), ("PlainRun.walk", f_PlainRun_walk), ("plain_run", f_plain_run)]
section
variable {K : Kx} (P : Kp K) (T : Tab K tabW) {d : Nat} {σ : Hp} {Q : Post} {X : XPost} {me dd b : Addr} {M : Nat}
include P T
theorem s_step0 {bs : Bx} (D : Ms me dd b M bs 0 σ) (hx : ∀ a, σ a = none → X a (setH σ a (.exc "Long" none))) : K.fn false d "PlainRun.step" [.ref me] σ Q X := by
  have h1 := D.o
  have h2 := D.a
  have ps := P.s
  have pm := P.m
  (refine ent' T f_PlainRun_step (by simp [tabW]) rfl (by simp only [f_PlainRun_step, args1, List.map_cons, List.map_nil, List.length_cons, List.length_nil, List.cons_append, List.nil_append, List.replicate, Nat.reduceAdd, Nat.reduceSub]; exact rfl) ?_; dsimp only [f_PlainRun_step])
  refine seq fun R hR => iffI fun A B hA hB => ?_
  walk_at "ug"
  refine okP ob_s ?_
  walk_at "ug"
  refine okP ob_m ?_
  walk_at "ug"
  refine wifd (fun _ => hA _ (last ?_)) fun q => absurd q (by omega)
  refine ⟨P.x, ?_⟩
  walk_at "ug"
  exact hx
theorem s_step {bs : Bx} {n : Nat} (D : Ms me dd b M bs (n + 1) σ) (hq : ∀ σ', Ms me dd b M bs n σ' → Ex dd b σ σ' → Q .none σ') : K.fn false d "PlainRun.step" [.ref me] σ Q X := by
  have h1 := D.o
  have h2 := D.a
  have ps := P.s
  have pm := P.m
  (refine ent' T f_PlainRun_step (by simp [tabW]) rfl (by simp only [f_PlainRun_step, args1, List.map_cons, List.map_nil, List.length_cons, List.length_nil, List.cons_append, List.nil_append, List.replicate, Nat.reduceAdd, Nat.reduceSub]; exact rfl) ?_; dsimp only [f_PlainRun_step])
  refine seq fun R hR => iffI fun A B hA hB => ?_
  walk_at "ug"
  refine okP ob_s ?_
  walk_at "ug"
  refine okP ob_m ?_
  walk_at "ug"
  refine wifd (fun q => absurd q (by omega)) fun _ => hB _ (hR _ _ (last ?_))
  walk_at "ug"
  refine okP ob_s ?_
  walk_at "ug"
  refine ⟨⟨ps, ob_len⟩, setO fun σ₁ h₁ k₁ => ?_⟩
  rw [ob_set] at h₁
  have e₁ : Ex dd b σ σ₁ := fun x o h1 h2 e => by rw [k₁ _ h1]; exact e
  exact hq σ₁ (D.of e₁ (by rw [h₁]; congr 2; congr 1; omega) (by rw [k₁ _ (Ne.symm D.ne)]; exact D.bx)) e₁
theorem s_ask0 (hd : 0 < d) {u : Addr} {bs : Bx} (D : Ms me dd b M bs 0 σ) (hx : ∀ a, σ a = none → X a (setH σ a (.exc "Long" none))) : K.fn false d "PlainRun.ask" [.ref me, .ref u] σ Q X := by
  have h1 := D.o
  have h2 := D.a
  have pm := P.st
  (refine ent' T f_PlainRun_ask (by simp [tabW]) rfl (by simp only [f_PlainRun_ask, args1, List.map_cons, List.map_nil, List.length_cons, List.length_nil, List.cons_append, List.nil_append, List.replicate, Nat.reduceAdd, Nat.reduceSub]; exact rfl) ?_; dsimp only [f_PlainRun_ask])
  refine seq fun R hR => ?_
  walk_at "ug"
  refine ⟨⟨pm, rfl⟩, ?_⟩
  walk_at "ug"
  exact s_step0 P T D hx
end
section
variable {K : Kx} (P : Kp K) (TB : Tab K tabB) (T : Tab K tabW) {d : Nat} {σ : Hp} {Q : Post} {X : XPost} {me dd b : Addr} {M : Nat}
include P TB T
theorem s_ask (hd : 1 < d) {u : Addr} {q : Qu} {bs : Bx} {n : Nat} (D : Ms me dd b M bs (n + 1) σ) (hu : σ u = some (.tup q.avs)) (hq : ∀ σ', Ms me dd b M bs n σ' → Ex dd b σ σ' → Q (.bool (quB bs q)) σ') : K.fn false d "PlainRun.ask" [.ref me, .ref u] σ Q X := by
  have h1 := D.o
  have h2 := D.a
  have pm := P.st
  have pb := P.b
  (refine ent' T f_PlainRun_ask (by simp [tabW]) rfl (by simp only [f_PlainRun_ask, args1, List.map_cons, List.map_nil, List.length_cons, List.length_nil, List.cons_append, List.nil_append, List.replicate, Nat.reduceAdd, Nat.reduceSub]; exact rfl) ?_; dsimp only [f_PlainRun_ask])
  refine seq fun R hR => ?_
  walk_at "ug"
  refine ⟨⟨pm, rfl⟩, ?_⟩
  walk_at "ug"
  refine s_step P T D fun σ₁ D₁ e₁ => hR _ _ (last ?_)
  have h3 := D₁.o
  have h4 := D₁.a
  walk_at "ug"
  refine okP ob_b ?_
  walk_at "ug"
  exact s_asked TB (by omega) D₁.bx ((D.ks e₁).t hu) (hq σ₁ D₁ e₁)
end
end U11
namespace U11
open U PySem
set_option linter.unusedSimpArgs false
set_option linter.unusedVariables false
set_option linter.unusedSectionVars false
noncomputable def Xc (X : XPost) (σ : Hp) : Prop := ∀ a, σ a = none → X a (setH σ a (.exc "Long" none))
noncomputable def WalkC (K : Kx) (f : Nat) : Prop := ∀ {me dd b la : Addr} {M : Nat} {tr : Tr} {bs : Bx} {n h d : Nat} {va : List AV} {σ : Hp} {Q : Post} {X : XPost}, n < f → tr.ok h → Fit bs n → h + 4 ≤ d → σ la = some (.list va) → Rep σ tr va → Ms me dd b M bs n σ →
  (∀ σ', Ms me dd b M (run f tr bs n).2.1 (run f tr bs n).2.2 σ' → Ex dd b σ σ' → ((run f tr bs n).1 = true → Q .none σ') ∧ ((run f tr bs n).1 = false → Xc X σ')) → K.fn false d "PlainRun.walk" [.ref me, .ref la] σ Q X
noncomputable def WLoopC (K : Kx) (f : Nat) : Prop := ∀ {me dd b l : Addr} {M : Nat} {tr : Tr} {bs : Bx} {n h d : Nat} {vs vs₀ : List AV} {σ : Hp} {x : Option AV} {Qn : SPost} {Qr : Post} {X : SX}, n < f → tr.ok h → Fit bs n → h + 4 ≤ d → σ l = some (.list vs₀) → Rep σ tr vs → Ms me dd b M bs n σ →
  (∀ σ', Ms me dd b M (run f tr bs n).2.1 (run f tr bs n).2.2 σ' → Ex dd b σ σ' → ((run f tr bs n).1 = true → ∀ x, Qn [some (.ref me), some (.ref l), x] σ') ∧ ((run f tr bs n).1 = false → ∀ x, Xc (X [some (.ref me), some (.ref l), x]) σ')) →
  pForL (fun ρ' σ'' k => pSs K false d walkB ρ' σ'' k Qr X) [2] (.keep l (.list vs₀)) (vs.map .one) [some (.ref me), some (.ref l), x] σ Qn
section
variable {K : Kx} (P : Kp K) (TB : Tab K tabB) (T : Tab K tabW)
include P TB T
theorem walkL : ∀ f, (∀ f', f' < f → WalkC K f') → WLoopC K f := by
  intro f
  induction f using Nat.strongRecOn with
  | ind f IH =>
  intro ih me dd b l M tr bs n h d vs vs₀ σ x Qn Qr X hn ho hf hd hl hr D hk
  obtain ⟨f, rfl⟩ : ∃ f', f = f' + 1 := ⟨f - 1, by omega⟩
  have IH' : WLoopC K f := IH f (Nat.lt_succ_self f) fun f' h => ih f' (Nat.lt_succ_of_lt h)
  have ihf : WalkC K f := ih f (Nat.lt_succ_self f)
  have pb := P.b
  have hme := D.o
  have hdd := D.a
  cases tr with
  | nil => cases hr; exact ⟨hl, (hk σ D fun _ _ _ _ e => e).1 rfl _⟩
  | set k m r =>
    obtain ⟨t, u, vs', rfl, ht, hu, hr⟩ := hr
    refine ⟨hl, _, rfl, ?_⟩
    dsimp only [walkB]
    refine last (iffI fun A B hA hB => ?_)
    walk_at "ug"
    refine hA _ (seq fun R hR => ?_)
    walk_at "ug"
    refine ⟨⟨P.st, rfl⟩, ?_⟩
    walk_at "ug"
    cases n with
    | zero => exact s_step0 P T D ((hk σ D fun _ _ _ _ e => e).2 rfl _)
    | succ n =>
      refine s_step P T D fun σ₁ D₁ e₁ => hR _ _ (last ?_)
      have k₁ := D.ks e₁
      have ht₁ := k₁.t ht
      have hu₁ := k₁.t hu
      have hme₁ := D₁.o
      have hdd₁ := D₁.a
      have hb₁ := D₁.bx
      walk_at "ug"
      refine okP ob_b ?_
      walk_at "ug"
      obtain ⟨own, ns, hm⟩ := ho.1
      refine s_reckoned TB (by omega) D₁.bx hu₁ hf.sm hm ?_
      walk_at "ug"
      refine okP ob_b ?_
      walk_at "ug"
      refine ⟨by rw [dI_length]; have := hf.len; have ht : tooLong = 1000000 := rfl; omega, setO fun σ₃ h₃ k₃ => ?_⟩
      rw [dset_dI] at h₃
      have e₃ : Ex dd b σ₁ σ₃ := fun x o h1 h2 e => (k₃ _ h2).trans e
      have D₃ : Ms me dd b M (dsetI bs k (totI bs m)) n σ₃ := D₁.of e₃ ((k₃ _ D.ne).trans hdd₁) h₃
      have s₃ := D.ks (e₁.trans e₃)
      exact IH' (Nat.lt_of_succ_lt_succ hn) ho.2 (hf.set ho.1 k) hd (s₃.l hl) (hr.ks s₃) D₃ fun σ' D' e' => hk σ' D' ((e₁.trans e₃).trans e')
  | iff q a c r =>
    obtain ⟨t, u, la, lb, va, vb, vs', rfl, ht, hu, hla, hra, hlb, hrb, hr⟩ := hr
    obtain ⟨hs4, ⟨h', rfl, oa, oc⟩, or'⟩ := ho
    refine ⟨hl, _, rfl, ?_⟩
    dsimp only [walkB]
    refine last (iffI fun A B hA hB => ?_)
    walk_at "ug"
    refine hB _ (last (iffI fun A B hA hB => ?_))
    walk_at "ug"
    refine hA _ (last (iffI fun A B hA hB => ?_))
    walk_at "ug"
    refine ⟨⟨P.as, rfl⟩, ?_⟩
    walk_at "ug"
    cases n with
    | zero => exact s_ask0 P T (by omega) D ((hk σ D fun _ _ _ _ e => e).2 rfl _)
    | succ n =>
      refine s_ask P TB T (by omega) D hu fun σ₃ D₃ e₃ => ?_
      have s₃ := D.ks e₃
      have ht₃ := s₃.t ht
      have hme₃ := D₃.o
      have hdd₃ := D₃.a
      walk_at "ug"
      cases hqb : quB bs q with
      | true =>
        have er : run (f + 1) (.iff q a c r) bs (n + 1) = (bif (run f a bs n).1 then run f r (run f a bs n).2.1 (run f a bs n).2.2 else run f a bs n) := by
          show (let x := run f (bif quB bs q then a else c) bs n; bif x.1 then run f r x.2.1 x.2.2 else x) = _
          rw [hqb]; rfl
        rw [er] at hk
        walk_at "ug"
        refine hA _ (last ?_)
        walk_at "ug"
        refine ⟨⟨P.wa, rfl⟩, ?_⟩
        walk_at "ug"
        refine ihf (tr := a) (h := h') (Nat.lt_of_succ_lt_succ hn) oa hf.less (by omega) (s₃.l hla) (hra.ks s₃) D₃ fun σ₄ D₄ e₄ => ?_
        have i1 := run_fit f oa hf.less (Nat.lt_of_succ_lt_succ hn)
        generalize run f a bs n = z at hk D₄ i1 ⊢
        obtain ⟨ok, b1, n1⟩ := z
        have s₄ := D.ks (e₃.trans e₄)
        refine ⟨fun e => ?_, fun e => ?_⟩
        · cases (show ok = true from e)
          exact IH' (Nat.lt_of_le_of_lt i1.2.1 (Nat.lt_of_succ_lt_succ hn)) or' i1.1 hd (s₄.l hl) (hr.ks s₄) D₄ fun σ' D' e' => hk σ' D' ((e₃.trans e₄).trans e')
        · cases (show ok = false from e)
          exact (hk σ₄ D₄ (e₃.trans e₄)).2 rfl _
      | false =>
        have er : run (f + 1) (.iff q a c r) bs (n + 1) = (bif (run f c bs n).1 then run f r (run f c bs n).2.1 (run f c bs n).2.2 else run f c bs n) := by
          show (let x := run f (bif quB bs q then a else c) bs n; bif x.1 then run f r x.2.1 x.2.2 else x) = _
          rw [hqb]; rfl
        rw [er] at hk
        walk_at "ug"
        refine hB _ (last ?_)
        walk_at "ug"
        refine ⟨⟨P.wa, rfl⟩, ?_⟩
        walk_at "ug"
        refine ihf (tr := c) (h := h') (Nat.lt_of_succ_lt_succ hn) oc hf.less (by omega) (s₃.l hlb) (hrb.ks s₃) D₃ fun σ₄ D₄ e₄ => ?_
        have i1 := run_fit f oc hf.less (Nat.lt_of_succ_lt_succ hn)
        generalize run f c bs n = z at hk D₄ i1 ⊢
        obtain ⟨ok, b1, n1⟩ := z
        have s₄ := D.ks (e₃.trans e₄)
        refine ⟨fun e => ?_, fun e => ?_⟩
        · cases (show ok = true from e)
          exact IH' (Nat.lt_of_le_of_lt i1.2.1 (Nat.lt_of_succ_lt_succ hn)) or' i1.1 hd (s₄.l hl) (hr.ks s₄) D₄ fun σ' D' e' => hk σ' D' ((e₃.trans e₄).trans e')
        · cases (show ok = false from e)
          exact (hk σ₄ D₄ (e₃.trans e₄)).2 rfl _
  | wh q a r =>
    obtain ⟨t, u, la, va, vs', rfl, ht, hu, hla, hra, hr⟩ := hr
    have ho' := ho
    obtain ⟨hs4, ⟨h', rfl, oa⟩, or'⟩ := ho
    generalize hz : run (f + 1) (.wh q a r) bs n = z at hk
    refine ⟨hl, _, rfl, ?_⟩
    dsimp only [walkB]
    refine last (iffI fun A B hA hB => ?_)
    walk_at "ug"
    refine hB _ (last (iffI fun A B hA hB => ?_))
    walk_at "ug"
    refine hB _ (last ?_)
    clear hA hB
    refine ⟨fun m ρ σ' => ∃ bs₁ n₁ f₁, ρ = [some (.ref me), some (.ref l), some (.ref t)] ∧ Ms me dd b M bs₁ n₁ σ' ∧ Ex dd b σ σ' ∧ n₁ < f₁ ∧ Fit bs₁ n₁ ∧ m = n₁ ∧ f₁ ≤ f + 1 ∧ run f₁ (.wh q a r) bs₁ n₁ = z,
      ⟨_, bs, n, f + 1, rfl, D, fun _ _ _ _ e => e, hn, hf, rfl, Nat.le_refl _, hz⟩, ?_⟩
    clear hz hf hn ihf IH' hme hdd
    rintro m ρ σ₁ ⟨bs₁, n₁, f₁, rfl, D₁, e₁, hn₁, hf₁, rfl, hff, er⟩
    have s₁ := D.ks e₁
    have ht₁ := s₁.t ht
    have hu₁ := s₁.t hu
    have hme₁ := D₁.o
    have hdd₁ := D₁.a
    obtain ⟨f₂, rfl⟩ : ∃ f', f₁ = f' + 1 := ⟨f₁ - 1, by omega⟩
    walk_at "ug"
    refine ⟨⟨P.as, rfl⟩, ?_⟩
    walk_at "ug"
    cases m with
    | zero =>
      subst er
      exact s_ask0 P T (by omega) D₁ ((hk σ₁ D₁ e₁).2 rfl _)
    | succ n₁ =>
      refine s_ask P TB T (by omega) D₁ hu₁ fun σ₃ D₃ e₃ => ?_
      have E3 := e₁.trans e₃
      have s₃ := D.ks E3
      have ht₃ := s₃.t ht
      have hme₃ := D₃.o
      have hdd₃ := D₃.a
      have hn₂ := Nat.lt_of_succ_lt_succ hn₁
      have er' : (bif quB bs₁ q then (let x := run f₂ a bs₁ n₁; bif x.1 then run f₂ (.wh q a r) x.2.1 x.2.2 else x) else run f₂ r bs₁ n₁) = z := er
      clear er
      walk_at "ug"
      cases hqb : quB bs₁ q with
      | false =>
        rw [hqb] at er'
        have IH₁ : WLoopC K f₂ := IH f₂ (by omega) fun f' h => ih f' (by omega)
        have er₂ : run f₂ r bs₁ n₁ = z := er'
        subst er₂
        walk_at "ug"
        exact IH₁ hn₂ or' hf₁.less hd (s₃.l hl) (hr.ks s₃) D₃ fun σ' D' e' => hk σ' D' (E3.trans e')
      | true =>
        rw [hqb] at er'
        have er₂ : (bif (run f₂ a bs₁ n₁).1 then run f₂ (.wh q a r) (run f₂ a bs₁ n₁).2.1 (run f₂ a bs₁ n₁).2.2 else run f₂ a bs₁ n₁) = z := er'
        clear er'
        have i1 := run_fit f₂ oa hf₁.less hn₂
        have ih₂ : WalkC K f₂ := ih f₂ (by omega)
        walk_at "ug"
        refine last ?_
        walk_at "ug"
        refine ⟨⟨P.wa, rfl⟩, ?_⟩
        walk_at "ug"
        refine ih₂ (tr := a) (h := h') hn₂ oa hf₁.less (by omega) (s₃.l hla) (hra.ks s₃) D₃ fun σ₄ D₄ e₄ => ?_
        generalize run f₂ a bs₁ n₁ = w at er₂ D₄ i1 ⊢
        obtain ⟨ok, b1, n1⟩ := w
        refine ⟨fun e => ?_, fun e => ?_⟩
        · cases (show ok = true from e)
          exact ⟨n1, by have := i1.2.1; dsimp only at this; omega, b1, n1, f₂, rfl, D₄, E3.trans e₄, Nat.lt_of_le_of_lt i1.2.1 hn₂, i1.1, rfl, by omega, er₂⟩
        · cases (show ok = false from e)
          subst er₂
          exact (hk σ₄ D₄ (E3.trans e₄)).2 rfl _
theorem walkF : ∀ f, WalkC K f := by
  intro f
  induction f using Nat.strongRecOn with
  | ind f IH =>
  intro me dd b la M tr bs n h d va σ Q X hn ho hf hd hl hr D hq
  have LL : WLoopC K f := walkL P TB T f IH
  refine ent' T f_PlainRun_walk (by simp [tabW]) rfl (by simp only [walkB_is, args1, List.map_cons, List.map_nil, List.length_cons, List.length_nil, List.cons_append, List.nil_append, List.replicate, Nat.reduceAdd, Nat.reduceSub]; exact rfl) ?_
  rw [walkB_is]
  refine last (forI fun F hF => ?_)
  walk_at "ug"
  refine hF _ _ _ (LL hn ho hf hd hl hr D fun σ' D' e' => ?_)
  have hq := hq σ' D' e'
  exact ⟨fun e x => hq.1 e, fun e x a ha => ⟨rfl, hq.2 e a ha⟩⟩
end
end U11
namespace U11
open U PySem
set_option linter.unusedSimpArgs false
set_option linter.unusedVariables false
set_option linter.unusedSectionVars false
section
variable {K : Kx} (P : Kp K) (T : Tab K tabW) {d : Nat} {σ : Hp} {Q : Post} {X : XPost}
include P T
theorem s_init {me dd a : Addr} {M : Nat} {bs : Bx} (h1 : σ me = some (.inst "PlainRun" dd)) (h2 : σ dd = some (.attrs [])) (ha : σ a = some (.dict (dI bs))) (hl : bs.length < 1000)
    (hq : ∀ b σ', σ b = none → Ms me dd b M bs M σ' → (∀ x o, x ≠ dd → σ x = some o → σ' x = some o) → Q .none σ') : K.fn false d "PlainRun.__init__" [.ref me, .ref a, .int M] σ Q X := by
  have htl : tooLong = 1000000 := rfl
  have pb := P.b
  have pm := P.m
  have ps := P.s
  (refine ent' T f_PlainRun___init__ (by simp [tabW]) rfl (by simp only [f_PlainRun___init__, args1, List.map_cons, List.map_nil, List.length_cons, List.length_nil, List.cons_append, List.nil_append, List.replicate, Nat.reduceAdd, Nat.reduceSub]; exact rfl) ?_; dsimp only [f_PlainRun___init__])
  refine seq fun R hR => ?_
  walk_at "ug"
  refine ⟨by rw [dI_length]; omega, newO fun b σ₁ hb l₁ hb₁ => ?_⟩
  have h1₁ := l₁ _ _ h1
  have h2₁ := l₁ _ _ h2
  have hmd : me ≠ dd := fun q => by rw [q, h2] at h1; cases h1
  have hbd : b ≠ dd := fun q => by rw [q, h2] at hb; cases hb
  walk_at "ug"
  refine ⟨⟨pb, by decide⟩, setO fun σ₂ h₂ k₂ => hR _ _ (seq fun R hR => ?_)⟩
  have h1₂ := (k₂ _ hmd).trans h1₁
  walk_at "ug"
  refine ⟨⟨pm, by show 1 < tooLong; decide⟩, setO fun σ₃ h₃ k₃ => hR _ _ (last ?_)⟩
  have h1₃ := (k₃ _ hmd).trans h1₂
  walk_at "ug"
  refine ⟨⟨ps, by show 2 < tooLong; decide⟩, setO fun σ₄ h₄ k₄ => ?_⟩
  refine hq b σ₄ hb ⟨(k₄ _ hmd).trans h1₃, ?_, ?_, Ne.symm hbd⟩ fun x o hx e => by rw [k₄ _ hx, k₃ _ hx, k₂ _ hx]; exact l₁ _ _ e
  · rw [h₄, Int.sub_self]; rfl
  · rw [k₄ _ hbd, k₃ _ hbd, k₂ _ hbd]; exact hb₁
end
section
variable {K : Kx} (P : Kp K) (TB : Tab K tabB) (T : Tab K tabW) {d : Nat} {σ : Hp} {Q : Post} {X : XPost} {a l : Addr} {bs : Bx}
include P TB T
theorem s_plain_run {tr : Tr} {M h : Nat} {va : List AV} (ho : tr.ok h) (hf : Fit bs M) (hd : h + 6 ≤ d) (hl : σ l = some (.list va)) (hr : Rep σ tr va) (ha : σ a = some (.dict (dI bs)))
    (hq : ∀ t r σ', Le σ σ' → σ t = none → σ r = none → σ' t = some (.tup [.str (wd (run (M + 1) tr bs M).1), .ref r, .int ((M : Int) - (run (M + 1) tr bs M).2.2)]) → σ' r = some (.dict (dI (lf (run (M + 1) tr bs M).2.1))) → Q (.ref t) σ') : K.fn false d "plain_run" [.ref l, .ref a, .int M] σ Q X := by
  have htl : tooLong = 1000000 := rfl
  have hlen := hf.len
  have pb := P.b
  have ps := P.s
  (refine ent' T f_plain_run (by simp [tabW]) rfl (by simp only [f_plain_run, args1, List.map_cons, List.map_nil, List.length_cons, List.length_nil, List.cons_append, List.nil_append, List.replicate, Nat.reduceAdd, Nat.reduceSub]; exact rfl) ?_; dsimp only [f_plain_run])
  refine seq fun R hR => ?_
  dsimp only [PS.assign, PE.new]
  refine ⟨⟨by omega, P.i⟩, ?_⟩
  walk_at "ug"
  intro me dd hme hdd hne
  have l₁ : Le σ (setH (setH σ dd (.attrs [])) me (.inst "PlainRun" dd)) := fun x o e => by rw [setH_ne (ne_of e hme), setH_ne (ne_of e hdd)]; exact e
  have h1 := setH_here (setH σ dd (.attrs [])) me (.inst "PlainRun" dd)
  have h2 : setH (setH σ dd (.attrs [])) me (.inst "PlainRun" dd) dd = some (.attrs []) := by rw [setH_ne (Ne.symm hne), setH_here]
  generalize setH (setH σ dd (.attrs [])) me (.inst "PlainRun" dd) = σ₁ at l₁ h1 h2
  refine s_init P T h1 h2 (l₁ _ _ ha) (by omega) fun b σ₂ hb D k₂ => ⟨rfl, ?_⟩
  have L2 : Le σ σ₂ := fun x o e => k₂ x o (ne_of e hdd) (l₁ _ _ e)
  have hb0 := none_le l₁ hb
  clear k₂ h1 h2
  walk_at "ug"
  refine hR _ _ (seq fun R hR => ?_)
  walk_at "ug"
  refine hR _ _ (seq fun R hR => ?_)
  have hme₂ := D.o
  have hdd₂ := D.a
  refine last ?_
  walk_at "ug"
  refine ⟨⟨P.wa, rfl⟩, ?_⟩
  walk_at "ug"
  have i1 := run_fit (M + 1) ho hf (Nat.lt_succ_self M)
  have key : ∀ σ₃, Ms me dd b M (run (M + 1) tr bs M).2.1 (run (M + 1) tr bs M).2.2 σ₃ → Le σ σ₃ → R [some (.ref l), some (.ref a), some (.int M), some (.ref me), some (.str (wd (run (M + 1) tr bs M).1)), none, none] σ₃ := by
    generalize run (M + 1) tr bs M = z at hq i1
    obtain ⟨ok, b1, n1⟩ := z
    intro σ₃ D₃ L3
    refine hR _ _ (seq fun R hR => ?_)
    have hme₃ := D₃.o
    have hdd₃ := D₃.a
    have hb₃ := D₃.bx
    walk_at "ug"
    refine newO fun r σ₄ hr l₄ hr₄ => hR _ _ (seq fun R hR => forI fun F hF => ?_)
    have hme₄ := l₄ _ _ hme₃
    have hdd₄ := l₄ _ _ hdd₃
    have hb₄ := l₄ _ _ hb₃
    have hrb : r ≠ b := fun q => by rw [q, hb₃] at hr; cases hr
    have nmb : me ≠ b := fun q => by rw [q, hb₃] at hme₃; cases hme₃
    have b1l : b1.length < 1000 := by have := i1.1.len; dsimp only at this; omega
    walk_at "ug"
    refine okP ob_b ?_
    walk_at "ug"
    dsimp only [itP, pIn]
    refine hF _ _ _ (for_list (g := .ice b (dI b1)) (fun e : Txt × AV => AV.str e.1) (fun rest ρ σ' => ∃ x, ρ = [some (.ref l), some (.ref a), some (.int M), some (.ref me), some (.str (wd ok)), some (.ref r), x] ∧ Lf σ₃ b r b1 rest σ') (fun _ _ _ ⟨_, _, L⟩ => L.fz) ?_ ?_ _ _ _ ⟨_, rfl, setH_here _ _ _, fun x o hx e => (setH_ne hx).trans (l₄ _ _ e), fun _ h => h, [], (setH_ne hrb).trans hr₄, by rw [dI_length]; simp, by unfold lf dI; rw [List.map_map]; rfl⟩)
    · rintro e rest ρ σ₅ c ⟨x, rfl, L⟩ hc
      have hfz := L.fz
      have hme₅ := L.kp _ _ nmb hme₃
      have hdd₅ := L.kp _ _ D₃.ne hdd₃
      have hlk := lf_look (L.sub e (.head _))
      refine last (iffI fun A B hA hB => ?_)
      walk_at "ug"
      refine okP ob_b ?_
      walk_at "ug"
      cases hz : (b1.lookup e.1).getD 0 == 0 with
      | true => refine hB _ (hc _ _ ⟨_, rfl, L.skip hz⟩)
      | false =>
        refine hA _ (last ?_)
        obtain ⟨acc, a1, a2, a3⟩ := L.at'
        walk_at "ug"
        refine okP ob_b ?_
        walk_at "ug"
        refine ⟨by rw [dI_length]; omega, setO fun σ₆ h₆ k₆ => ?_⟩
        exact hc _ _ ⟨_, rfl, L.put hrb hr a1 a2 a3 hz h₆ k₆⟩
    · rintro ρ σ₅ ⟨x, rfl, L⟩
      obtain ⟨e1, e2⟩ := L.done hb₃ hrb
      refine hR _ _ (last ?_)
      generalize setH σ₅ b (.dict (dI b1)) = σ₆ at e1 e2
      have hme₆ := e1 _ _ hme₃
      have hdd₆ := e1 _ _ hdd₃
      walk_at "ug"
      refine okP ob_s ?_
      walk_at "ug"
      refine newO fun t σ₇ ht l₇ ht₇ => ?_
      exact hq t r σ₇ (L3.trans (e1.trans l₇)) (none_le (L3.trans e1) ht) (none_le L3 hr) ht₇ (l₇ _ _ e2)
  refine walkF P TB T (M + 1) (Nat.lt_succ_self M) ho hf (by omega) (L2 _ _ hl) (hr.ks (U11.Le.ks L2)) D fun σ₃ D₃ e₃ => ?_
  have L3 : Le σ σ₃ := fun x o e => e₃ x o (ne_of e hdd) (ne_of e hb0) (L2 _ _ e)
  refine ⟨fun e => ?_, fun e a₃ ha₃ => ?_⟩
  · have k := key σ₃ D₃ L3
    rw [e] at k; exact k
  · have l₄ : Le σ₃ (setH σ₃ a₃ (.exc "Long" none)) := Le.new ha₃
    have h₄ := setH_here σ₃ a₃ (.exc "Long" none)
    generalize setH σ₃ a₃ (.exc "Long" none) = σ₄ at l₄ h₄
    have k := key σ₄ ⟨l₄ _ _ D₃.o, l₄ _ _ D₃.a, l₄ _ _ D₃.bx, D₃.ne⟩ (L3.trans l₄)
    rw [e] at k
    refine okP h₄ ⟨⟨rfl, P.x⟩, last ?_⟩
    walk_at "ug"
    exact k
end
end U11
namespace U11
open U PySem
set_option linter.unusedSimpArgs false
set_option linter.unusedVariables false
set_option linter.unusedSectionVars false
noncomputable def At (F : Addr → Prop) (σ : Hp) (x : Addr) (o : AO) : Prop := σ x = some o ∧ F x
/-- what stands in the heap, all of it within F -/
noncomputable def RepF (F : Addr → Prop) (σ : Hp) : Tr → List AV → Prop
  | .nil, vs => vs = []
  | .set k m r, vs => ∃ t u vs', vs = .ref t :: vs' ∧ At F σ t (.tup [.str [115, 101, 116], .str k, .ref u]) ∧ At F σ u (.tup m.avs) ∧ RepF F σ r vs'
  | .iff q a b r, vs => ∃ t u la lb va vb vs', vs = .ref t :: vs' ∧ At F σ t (.tup [.str [105, 102], .ref u, .ref la, .ref lb]) ∧ At F σ u (.tup q.avs) ∧ At F σ la (.list va) ∧ RepF F σ a va ∧ At F σ lb (.list vb) ∧ RepF F σ b vb ∧ RepF F σ r vs'
  | .wh q a r, vs => ∃ t u la va vs', vs = .ref t :: vs' ∧ At F σ t (.tup [.str [119, 104, 105, 108, 101], .ref u, .ref la]) ∧ At F σ u (.tup q.avs) ∧ At F σ la (.list va) ∧ RepF F σ a va ∧ RepF F σ r vs'
theorem RepF.mono {F F' : Addr → Prop} {σ σ' : Hp} (h : ∀ {x o}, At F σ x o → At F' σ' x o) : ∀ {tr : Tr} {vs : List AV}, RepF F σ tr vs → RepF F' σ' tr vs
  | .nil, _, e => e
  | .set _ _ _, _, hp0 => by obtain ⟨t, u, vs', h1, h2, h3, h4⟩ := hp0; exact ⟨t, u, vs', h1, h h2, h h3, h4.mono h⟩
  | .iff _ _ _ _, _, hp0 => by obtain ⟨t, u, la, lb, va, vb, vs', h1, h2, h3, h4, h5, h6, h7, h8⟩ := hp0; exact ⟨t, u, la, lb, va, vb, vs', h1, h h2, h h3, h h4, h5.mono h, h h6, h7.mono h, h8.mono h⟩
  | .wh _ _ _, _, hp0 => by obtain ⟨t, u, la, va, vs', h1, h2, h3, h4, h5, h6⟩ := hp0; exact ⟨t, u, la, va, vs', h1, h h2, h h3, h h4, h5.mono h, h6.mono h⟩
theorem RepF.rep {F : Addr → Prop} {σ : Hp} : ∀ {tr : Tr} {vs : List AV}, RepF F σ tr vs → Rep σ tr vs
  | .nil, _, e => e
  | .set _ _ _, _, hp0 => by obtain ⟨t, u, vs', h1, h2, h3, h4⟩ := hp0; exact ⟨t, u, vs', h1, h2.1, h3.1, h4.rep⟩
  | .iff _ _ _ _, _, hp0 => by obtain ⟨t, u, la, lb, va, vb, vs', h1, h2, h3, h4, h5, h6, h7, h8⟩ := hp0; exact ⟨t, u, la, lb, va, vb, vs', h1, h2.1, h3.1, h4.1, h5.rep, h6.1, h7.rep, h8.rep⟩
  | .wh _ _ _, _, hp0 => by obtain ⟨t, u, la, va, vs', h1, h2, h3, h4, h5, h6⟩ := hp0; exact ⟨t, u, la, va, vs', h1, h2.1, h3.1, h4.1, h5.rep, h6.rep⟩
theorem RepF.of {σ : Hp} : ∀ {tr : Tr} {vs : List AV}, Rep σ tr vs → RepF (fun _ => True) σ tr vs
  | .nil, _, e => e
  | .set _ _ _, _, hp0 => by obtain ⟨t, u, vs', h1, h2, h3, h4⟩ := hp0; exact ⟨t, u, vs', h1, ⟨h2, trivial⟩, ⟨h3, trivial⟩, .of h4⟩
  | .iff _ _ _ _, _, hp0 => by obtain ⟨t, u, la, lb, va, vb, vs', h1, h2, h3, h4, h5, h6, h7, h8⟩ := hp0; exact ⟨t, u, la, lb, va, vb, vs', h1, ⟨h2, trivial⟩, ⟨h3, trivial⟩, ⟨h4, trivial⟩, .of h5, ⟨h6, trivial⟩, .of h7, .of h8⟩
  | .wh _ _ _, _, hp0 => by obtain ⟨t, u, la, va, vs', h1, h2, h3, h4, h5, h6⟩ := hp0; exact ⟨t, u, la, va, vs', h1, ⟨h2, trivial⟩, ⟨h3, trivial⟩, ⟨h4, trivial⟩, .of h5, .of h6⟩
noncomputable def Tr.sz : Tr → Nat
  | .nil => 0
  | .set _ _ r => 1 + r.sz
  | .iff _ a b r => 1 + a.sz + b.sz + r.sz
  | .wh _ a r => 1 + a.sz + r.sz
theorem RepF.len {F : Addr → Prop} {σ : Hp} : ∀ {tr : Tr} {vs : List AV}, RepF F σ tr vs → vs.length ≤ tr.sz
  | .nil, _, e => by rw [show _ = _ from e]; exact Nat.le_refl _
  | .set _ _ _, _, hp0 => by obtain ⟨t, u, vs', h1, h2, h3, h4⟩ := hp0; rw [h1]; have := h4.len; simp only [List.length_cons, Tr.sz]; omega
  | .iff _ _ _ _, _, hp0 => by obtain ⟨t, u, la, lb, va, vb, vs', h1, h2, h3, h4, h5, h6, h7, h8⟩ := hp0; rw [h1]; have := h8.len; simp only [List.length_cons, Tr.sz]; omega
  | .wh _ _ _, _, hp0 => by obtain ⟨t, u, la, va, vs', h1, h2, h3, h4, h5, h6⟩ := hp0; rw [h1]; have := h6.len; simp only [List.length_cons, Tr.sz]; omega
/-- two that tell of the same rows are alike -/
theorem eqS_self {v : AV} (h : v.scal = true) : eqS v v = true := by
  cases v with
  | ref a => exact nomatch h
  | none => rfl
  | _ => exact beq_self_eq_true _
theorem eq_self {σ : Hp} {n : Nat} {v : AV} (h : v.scal = true) : EqV σ n v v true := by
  have e := eqS_self h
  cases n with
  | zero => have h' := EqStep.scal (σ := σ) (R := fun _ _ _ => False) h h; rw [e] at h'; exact h'
  | succ n => have h' := EqStep.scal (σ := σ) (R := EqV σ n) h h; rw [e] at h'; exact h'
theorem eq_sc {σ : Hp} {n : Nat} : ∀ {vs : List AV}, vs.all AV.scal = true → EqVs (EqV σ n) vs vs true
  | [], _ => .nil
  | v :: vs, h => by
    rw [List.all_cons, Bool.and_eq_true] at h
    exact .cons (b := true) (r := true) (eq_self h.1) (eq_sc h.2)
theorem eq_tup {σ : Hp} {n : Nat} {a b : Addr} {xs ys : List AV} (h : σ a = some (.tup xs)) (h' : σ b = some (.tup ys)) (hl : xs.length = ys.length) (he : EqVs (EqV σ n) xs ys true) : EqV σ (n + 1) (.ref a) (.ref b) true := by
  by_cases e : a = b
  · subst e; exact .same h (.inr rfl)
  · exact .seqs e h h' rfl rfl rfl hl he
theorem eq_list {σ : Hp} {n : Nat} {a b : Addr} {xs ys : List AV} (h : σ a = some (.list xs)) (h' : σ b = some (.list ys)) (hl : xs.length = ys.length) (he : EqVs (EqV σ n) xs ys true) : EqV σ (n + 1) (.ref a) (.ref b) true := by
  by_cases e : a = b
  · subst e; exact .same h (.inl rfl)
  · exact .seqs e h h' rfl rfl rfl hl he
theorem Th.scal (x : Th) : x.av.scal = true := by cases x <;> rfl
theorem Tot.scal (m : Tot) : m.avs.all AV.scal = true := by
  cases m with
  | one x => simp only [Tot.avs, List.all_cons, List.all_nil, Th.scal]; rfl
  | two s x y => simp only [Tot.avs, List.all_cons, List.all_nil, Th.scal]; rfl
theorem Qu.scal (q : Qu) : q.avs.all AV.scal = true := by simp only [Qu.avs, List.all_cons, List.all_nil, Th.scal]; rfl
theorem rep_eq {σ : Hp} : ∀ {tr : Tr} {xs ys : List AV} {h n : Nat}, tr.ok h → Rep σ tr xs → Rep σ tr ys → 2 * h + 2 ≤ n → xs.length = ys.length ∧ EqVs (EqV σ n) xs ys true
  | .nil, _, _, _, _, _, e, e', _ => by rw [show _ = _ from e, show _ = _ from e']; exact ⟨rfl, .nil⟩
  | .set _ m r, _, _, _, n, ho, hp0, hp1, hn => by
    obtain ⟨t, u, vs, e, h2, h3, h4⟩ := hp0
    obtain ⟨t', u', vs', e', h2', h3', h4'⟩ := hp1
    obtain ⟨l, q⟩ := rep_eq ho.2 h4 h4' hn
    obtain ⟨n, rfl⟩ : ∃ k, n = k + 2 := ⟨n - 2, by omega⟩
    rw [e, e']
    refine ⟨by rw [List.length_cons, List.length_cons, l], .cons (b := true) (r := true) (eq_tup h2 h2' rfl (.cons (b := true) (r := true) (eq_self rfl) (.cons (b := true) (r := true) (eq_self rfl) (.cons (b := true) (r := true) (eq_tup h3 h3' rfl (eq_sc (Tot.scal m))) .nil)))) q⟩
  | .iff qq a b r, _, _, _, n, ho, hp0, hp1, hn => by
    obtain ⟨t, u, la, lb, va, vb, vs, e, h2, h3, h4, h5, h6, h7, h8⟩ := hp0
    obtain ⟨t', u', la', lb', va', vb', vs', e', h2', h3', h4', h5', h6', h7', h8'⟩ := hp1
    obtain ⟨_, ⟨h', rfl, oa, ob⟩, or'⟩ := ho
    obtain ⟨l, q⟩ := rep_eq or' h8 h8' hn
    obtain ⟨n, rfl⟩ : ∃ k, n = k + 2 := ⟨n - 2, by omega⟩
    obtain ⟨la1, qa⟩ := rep_eq (n := n) oa h5 h5' (by omega)
    obtain ⟨lb1, qb⟩ := rep_eq (n := n) ob h7 h7' (by omega)
    rw [e, e']
    refine ⟨by rw [List.length_cons, List.length_cons, l], .cons (b := true) (r := true) (eq_tup h2 h2' rfl (.cons (b := true) (r := true) (eq_self rfl) (.cons (b := true) (r := true) (eq_tup h3 h3' rfl (eq_sc (Qu.scal qq))) (.cons (b := true) (r := true) (eq_list h4 h4' la1 qa) (.cons (b := true) (r := true) (eq_list h6 h6' lb1 qb) .nil))))) q⟩
  | .wh qq a r, _, _, _, n, ho, hp0, hp1, hn => by
    obtain ⟨t, u, la, va, vs, e, h2, h3, h4, h5, h8⟩ := hp0
    obtain ⟨t', u', la', va', vs', e', h2', h3', h4', h5', h8'⟩ := hp1
    obtain ⟨_, ⟨h', rfl, oa⟩, or'⟩ := ho
    obtain ⟨l, q⟩ := rep_eq or' h8 h8' hn
    obtain ⟨n, rfl⟩ : ∃ k, n = k + 2 := ⟨n - 2, by omega⟩
    obtain ⟨la1, qa⟩ := rep_eq (n := n) oa h5 h5' (by omega)
    rw [e, e']
    refine ⟨by rw [List.length_cons, List.length_cons, l], .cons (b := true) (r := true) (eq_tup h2 h2' rfl (.cons (b := true) (r := true) (eq_self rfl) (.cons (b := true) (r := true) (eq_tup h3 h3' rfl (eq_sc (Qu.scal qq))) (.cons (b := true) (r := true) (eq_list h4 h4' la1 qa) .nil)))) q⟩
end U11
namespace U11
open U PySem
set_option linter.unusedSimpArgs false
set_option linter.unusedVariables false
set_option linter.unusedSectionVars false
noncomputable def copyB : List PS := [.iff (.prim .eq [(.prim .item [(.loc 2), (.lit (.int 0))]), (.lit (.str [105, 102]))]) [.assign (.name 2) (.prim .add [(.prim .slice [(.loc 2), (.lit .none), (.lit (.int 2)), (.lit .none)]), (.prim .mkTup [(.fn "_law_plain_copied" [(.prim .item [(.loc 2), (.lit (.int 2))])]), (.fn "_law_plain_copied" [(.prim .item [(.loc 2), (.lit (.int 3))])])])])] [],
  .iff (.prim .eq [(.prim .item [(.loc 2), (.lit (.int 0))]), (.lit (.str [119, 104, 105, 108, 101]))]) [.assign (.name 2) (.prim .add [(.prim .slice [(.loc 2), (.lit .none), (.lit (.int 2)), (.lit .none)]), (.prim .mkTup [(.fn "_law_plain_copied" [(.prim .item [(.loc 2), (.lit (.int 2))])])])])] [],
  .expr (.bm .append (.loc 1) [(.loc 2)])]
theorem copyB_is : f__law_plain_copied = ⟨1, 3, [.assign (.name 1) (.prim .mkList []), .for [2] (.val (.loc 0)) copyB, .ret (.loc 1)]⟩ := rfl
noncomputable def tabQ : List (String × Fn) := [("_law_plain_copied", f__law_plain_copied)]
noncomputable def CopyC (K : Kx) (tr : Tr) : Prop := ∀ {F : Addr → Prop} {h d : Nat} {l : Addr} {va : List AV} {σ : Hp} {Q : Post} {X : XPost}, tr.ok h → tr.sz < 100000 → h + 1 ≤ d → σ l = some (.list va) → RepF F σ tr va → (∀ x, σ x = none → F x) →
  (∀ c vc σ', Le σ σ' → σ c = none → σ' c = some (.list vc) → RepF F σ' tr vc → Q (.ref c) σ') → K.fn false d "_law_plain_copied" [.ref l] σ Q X
noncomputable def CLoop (K : Kx) (tr : Tr) : Prop := ∀ {F : Addr → Prop} {h d : Nat} {l c : Addr} {vs vs₀ acc : List AV} {σ : Hp} {x : Option AV} {Qn : SPost} {Qr : Post} {X : SX}, tr.ok h → acc.length + tr.sz < 100000 → h + 1 ≤ d → σ l = some (.list vs₀) → l ≠ c → (∀ x, F x → x ≠ c) → RepF F σ tr vs → (∀ x, σ x = none → F x) → σ c = some (.list acc) →
  (∀ vc σ', (∀ x o, x ≠ c → σ x = some o → σ' x = some o) → σ' c = some (.list (acc ++ vc)) → RepF F σ' tr vc → ∀ x, Qn [some (.ref l), some (.ref c), x] σ') →
  pForL (fun ρ' σ'' k => pSs K false d copyB ρ' σ'' k Qr X) [2] (.keep l (.list vs₀)) (vs.map .one) [some (.ref l), some (.ref c), x] σ Qn
theorem RepF.le {F : Addr → Prop} {σ σ' : Hp} {tr : Tr} {vs : List AV} (h : RepF F σ tr vs) (l : Le σ σ') : RepF F σ' tr vs := h.mono fun a => ⟨l _ _ a.1, a.2⟩
section
variable {K : Kx} (T : Tab K tabQ)
include T
theorem copy_of {tr : Tr} (L : CLoop K tr) : CopyC K tr := by
  intro F h d l va σ Q X ho hz hd hl hr hF hq
  refine ent' T f__law_plain_copied (by simp [tabQ]) rfl (by simp only [copyB_is, args1, List.map_cons, List.map_nil, List.length_cons, List.length_nil, List.cons_append, List.nil_append, List.replicate, Nat.reduceAdd, Nat.reduceSub]; exact rfl) ?_
  rw [copyB_is]
  refine seq fun R hR => ?_
  walk_at "ug"
  refine newO fun c σ₁ hc l₁ hc₁ => hR _ _ (seq fun R hR => forI fun G hG => ?_)
  have hl₁ := l₁ _ _ hl
  walk_at "ug"
  refine hG _ _ _ (L (F := fun x => F x ∧ x ≠ c) ho (by simpa using hz) hd hl₁ (ne_of hl hc) (fun _ h => h.2) (hr.mono fun a => ⟨l₁ _ _ a.1, a.2, ne_of a.1 hc⟩) (fun x hx => ⟨hF x (none_le l₁ hx), fun q => by rw [q, hc₁] at hx; cases hx⟩) hc₁ fun vc σ' k' hc' hr' x => hR _ _ (last ?_))
  walk_at "ug"
  exact hq c vc σ' (fun x o e => k' x o (ne_of e hc) (l₁ _ _ e)) hc hc' (hr'.mono fun a => ⟨a.1, a.2.1⟩)
theorem copyL : ∀ tr, CLoop K tr := by
  intro tr
  have htl : tooLong = 1000000 := rfl
  induction tr with
  | nil =>
    intro F h d l c vs vs₀ acc σ x Qn Qr X ho hz hd hl hlc hFc hr hF hc hk
    cases hr
    exact ⟨hl, hk [] σ (fun _ _ _ e => e) (by rw [List.append_nil]; exact hc) rfl _⟩
  | set k m r ih =>
    intro F h d l c vs vs₀ acc σ x Qn Qr X ho hz hd hl hlc hFc hr hF hc hk
    obtain ⟨t, u, vs', rfl, ht, hu, hr⟩ := hr
    have ht₀ := ht.1
    simp only [Tr.sz] at hz
    refine ⟨hl, _, rfl, ?_⟩
    dsimp only [copyB]
    refine seq fun R hR => iffI fun A B hA hB => ?_
    walk_at "ug"
    refine hB _ (hR _ _ (seq fun R hR => iffI fun A B hA hB => ?_))
    walk_at "ug"
    refine hB _ (hR _ _ (last ?_))
    walk_at "ug"
    refine setO fun σ₁ h₁ k₁ => ?_
    have K1 : ∀ {x o}, At F σ x o → At F σ₁ x o := fun a => ⟨by rw [k₁ _ (hFc _ a.2)]; exact a.1, a.2⟩
    refine ih ho.2 (by rw [List.length_append]; simp only [List.length_cons, List.length_nil]; omega) hd (by rw [k₁ _ hlc]; exact hl) hlc hFc (hr.mono K1) (fun x hx => hF x (by rw [← k₁ x (fun q => by rw [q, h₁] at hx; cases hx)]; exact hx)) h₁ fun vc σ' k' hc' hr' x => ?_
    have K2 : ∀ {x o}, At F σ x o → At F σ' x o := fun a => ⟨k' _ _ (hFc _ a.2) (K1 a).1, a.2⟩
    exact hk (.ref t :: vc) σ' (fun x o hx e => k' x o hx (by rw [k₁ _ hx]; exact e)) (by rw [hc', List.append_assoc]; rfl) ⟨t, u, vc, rfl, K2 ht, K2 hu, hr'⟩ x
  | iff q a b r iha ihb ih =>
    intro F h d l c vs vs₀ acc σ x Qn Qr X ho hz hd hl hlc hFc hr hF hc hk
    obtain ⟨t, u, la, lb, va, vb, vs', rfl, ht, hu, hla, hra, hlb, hrb, hr⟩ := hr
    obtain ⟨hs4, ⟨h', rfl, oa, ob⟩, or'⟩ := ho
    have ht₀ := ht.1
    simp only [Tr.sz] at hz
    refine ⟨hl, _, rfl, ?_⟩
    dsimp only [copyB]
    refine seq fun R hR => iffI fun A B hA hB => ?_
    walk_at "ug"
    refine hA _ (last ?_)
    walk_at "ug"
    refine newO fun p σ₁ hp l₁ hp₁ => ?_
    have ht₁ := l₁ _ _ ht₀
    walk_at "ug"
    refine copy_of T iha (F := F) oa (by omega) (by omega) (l₁ _ _ hla.1) (hra.le l₁) (fun x hx => hF x (none_le l₁ hx)) fun ca vca σ₂ l₂ hca hca₂ hra₂ => ?_
    have L2 : Le σ σ₂ := l₁.trans l₂
    have ht₂ := L2 _ _ ht₀
    walk_at "ug"
    refine copy_of T ihb (F := F) ob (by omega) (by omega) (L2 _ _ hlb.1) (hrb.le L2) (fun x hx => hF x (none_le L2 hx)) fun cb vcb σ₃ l₃ hcb hcb₃ hrb₃ => ?_
    walk_at "ug"
    refine newO fun w σ₄ hw l₄ hw₄ => ?_
    have hp₄ := (l₂.trans (l₃.trans l₄)) _ _ hp₁
    walk_at "ug"
    refine ⟨⟨by simp, by simp, by rw [List.length_take]; simp only [List.length_cons, List.length_nil]; omega⟩, newO fun t' σ₅ ht' l₅ ht'₅ => hR _ _ (seq fun R hR => iffI fun A B hA hB => ?_)⟩
    have L5 : Le σ σ₅ := L2.trans (l₃.trans (l₄.trans l₅))
    have ht'₅ : σ₅ t' = some (.tup [.str [105, 102], .ref u, .ref ca, .ref cb]) := ht'₅
    have hc₅ := L5 _ _ hc
    walk_at "ug"
    refine hB _ (hR _ _ (last ?_))
    walk_at "ug"
    refine setO fun σ₆ h₆ k₆ => ?_
    have n0 : ∀ {x} {σ' : Hp}, Le σ σ' → σ' x = none → F x := fun l e => hF _ (none_le l e)
    have K1 : ∀ {x o}, At F σ₅ x o → At F σ₆ x o := fun a => ⟨by rw [k₆ _ (hFc _ a.2)]; exact a.1, a.2⟩
    refine ih or' (by rw [List.length_append]; simp only [List.length_cons, List.length_nil]; omega) hd (by rw [k₆ _ hlc]; exact L5 _ _ hl) hlc hFc ((hr.le L5).mono K1) (fun x hx => hF x (none_le L5 (by rw [← k₆ x (fun q => by rw [q, h₆] at hx; cases hx)]; exact hx))) h₆ fun vc σ' k' hc' hr' x => ?_
    have K2 : ∀ {x o}, At F σ₅ x o → At F σ' x o := fun a => ⟨k' _ _ (hFc _ a.2) (K1 a).1, a.2⟩
    have l35 := l₄.trans l₅
    refine hk (.ref t' :: vc) σ' (fun x o hx e => k' x o hx (by rw [k₆ _ hx]; exact L5 _ _ e)) (by rw [hc', List.append_assoc]; rfl)
      ⟨t', u, ca, cb, vca, vcb, vc, rfl, K2 ⟨ht'₅, n0 (L2.trans (l₃.trans l₄)) ht'⟩, K2 ⟨L5 _ _ hu.1, hu.2⟩, K2 ⟨(l₃.trans l35) _ _ hca₂, n0 l₁ hca⟩, (hra₂.le (l₃.trans l35)).mono K2, K2 ⟨l35 _ _ hcb₃, n0 L2 hcb⟩, (hrb₃.le l35).mono K2, hr'⟩ x
  | wh q a r iha ih =>
    intro F h d l c vs vs₀ acc σ x Qn Qr X ho hz hd hl hlc hFc hr hF hc hk
    obtain ⟨t, u, la, va, vs', rfl, ht, hu, hla, hra, hr⟩ := hr
    obtain ⟨hs4, ⟨h', rfl, oa⟩, or'⟩ := ho
    have ht₀ := ht.1
    simp only [Tr.sz] at hz
    refine ⟨hl, _, rfl, ?_⟩
    dsimp only [copyB]
    refine seq fun R hR => iffI fun A B hA hB => ?_
    walk_at "ug"
    refine hB _ (hR _ _ (seq fun R hR => iffI fun A B hA hB => ?_))
    walk_at "ug"
    refine hA _ (last ?_)
    walk_at "ug"
    refine newO fun p σ₁ hp l₁ hp₁ => ?_
    have ht₁ := l₁ _ _ ht₀
    walk_at "ug"
    refine copy_of T iha (F := F) oa (by omega) (by omega) (l₁ _ _ hla.1) (hra.le l₁) (fun x hx => hF x (none_le l₁ hx)) fun ca vca σ₂ l₂ hca hca₂ hra₂ => ?_
    have L2 : Le σ σ₂ := l₁.trans l₂
    walk_at "ug"
    refine newO fun w σ₄ hw l₄ hw₄ => ?_
    have hp₄ := (l₂.trans l₄) _ _ hp₁
    walk_at "ug"
    refine ⟨⟨by simp, by simp, by rw [List.length_take]; simp only [List.length_cons, List.length_nil]; omega⟩, newO fun t' σ₅ ht' l₅ ht'₅ => hR _ _ (last ?_)⟩
    have L5 : Le σ σ₅ := L2.trans (l₄.trans l₅)
    have ht'₅ : σ₅ t' = some (.tup [.str [119, 104, 105, 108, 101], .ref u, .ref ca]) := ht'₅
    have hc₅ := L5 _ _ hc
    walk_at "ug"
    refine setO fun σ₆ h₆ k₆ => ?_
    have n0 : ∀ {x} {σ' : Hp}, Le σ σ' → σ' x = none → F x := fun l e => hF _ (none_le l e)
    have K1 : ∀ {x o}, At F σ₅ x o → At F σ₆ x o := fun a => ⟨by rw [k₆ _ (hFc _ a.2)]; exact a.1, a.2⟩
    refine ih or' (by rw [List.length_append]; simp only [List.length_cons, List.length_nil]; omega) hd (by rw [k₆ _ hlc]; exact L5 _ _ hl) hlc hFc ((hr.le L5).mono K1) (fun x hx => hF x (none_le L5 (by rw [← k₆ x (fun q => by rw [q, h₆] at hx; cases hx)]; exact hx))) h₆ fun vc σ' k' hc' hr' x => ?_
    have K2 : ∀ {x o}, At F σ₅ x o → At F σ' x o := fun a => ⟨k' _ _ (hFc _ a.2) (K1 a).1, a.2⟩
    have l35 := l₄.trans l₅
    refine hk (.ref t' :: vc) σ' (fun x o hx e => k' x o hx (by rw [k₆ _ hx]; exact L5 _ _ e)) (by rw [hc', List.append_assoc]; rfl)
      ⟨t', u, ca, vca, vc, rfl, K2 ⟨ht'₅, n0 (L2.trans l₄) ht'⟩, K2 ⟨L5 _ _ hu.1, hu.2⟩, K2 ⟨l35 _ _ hca₂, n0 l₁ hca⟩, (hra₂.le l35).mono K2, hr'⟩ x
theorem s_copied (tr : Tr) : CopyC K tr := copy_of T (copyL T tr)
end
end U11
namespace U11
open U PySem
set_option linter.unusedSimpArgs false
set_option linter.unusedVariables false
set_option linter.unusedSectionVars false
noncomputable def tabK : List (String × Fn) := [("_law_alike", f__law_alike)]
theorem trues {vs : List AV} (h : ∀ v ∈ vs, v = .bool true) : vs = (List.replicate vs.length true).map AV.bool := by
  induction vs with
  | nil => rfl
  | cons v r ih =>
    rw [List.length_cons, List.replicate_succ, List.map_cons, ← ih fun v hv => h v (.tail _ hv), h v (.head _)]
theorem all_true (n : Nat) : (List.replicate n true).all id = true := by
  induction n with
  | zero => rfl
  | succ n ih => rw [List.replicate_succ, List.all_cons, ih]; rfl
section
variable {K : Kx} (TA : Tab K tabA) (T : Tab K tabK) {d : Nat} {σ : Hp} {Q : Post} {X : XPost}
include TA T
theorem s_al_str (s : Txt) (hq : Q (.bool true) σ) : K.fn false d "_law_alike" [.str s, .str s] σ Q X := by
  (refine ent' T f__law_alike (by simp [tabK]) rfl (by simp only [f__law_alike, args1, List.map_cons, List.map_nil, List.length_cons, List.length_nil, List.cons_append, List.nil_append, List.replicate, Nat.reduceAdd, Nat.reduceSub]; exact rfl) ?_; dsimp only [f__law_alike])
  refine seq fun R hR => iffI fun A B hA hB => ?_
  walk_at "ug"
  refine hB _ (hR _ _ (seq fun R hR => iffI fun A B hA hB => ?_))
  walk_at "ug"
  refine hA _ (last ?_)
  walk_at "ug"
  rw [beq_self_eq_true]
  exact hq
theorem s_al_int (hd : 0 < d) (i : Int) (hq : Q (.bool true) σ) : K.fn false d "_law_alike" [.int i, .int i] σ Q X := by
  (refine ent' T f__law_alike (by simp [tabK]) rfl (by simp only [f__law_alike, args1, List.map_cons, List.map_nil, List.length_cons, List.length_nil, List.cons_append, List.nil_append, List.replicate, Nat.reduceAdd, Nat.reduceSub]; exact rfl) ?_; dsimp only [f__law_alike])
  refine seq fun R hR => iffI fun A B hA hB => ?_
  walk_at "ug"
  refine hB _ (hR _ _ (seq fun R hR => iffI fun A B hA hB => ?_))
  walk_at "ug"
  refine hB _ (hR _ _ (last ?_))
  walk_at "ug"
  refine s_whole_int TA i ?_
  walk_at "ug"
  rw [beq_self_eq_true]
  exact hq
theorem s_al_dict (hd : 1 < d) {r r' : Addr} {bs : Bx} (h : σ r = some (.dict (dI bs))) (h' : σ r' = some (.dict (dI bs))) (hne : r ≠ r') (hl : bs.length < 1000) (hq : ∀ σ', Le σ σ' → Q (.bool true) σ') : K.fn false d "_law_alike" [.ref r, .ref r'] σ Q X := by
  have htl : tooLong = 1000000 := rfl
  have hl' : (dI bs).length < tooLong := by rw [dI_length]; omega
  (refine ent' T f__law_alike (by simp [tabK]) rfl (by simp only [f__law_alike, args1, List.map_cons, List.map_nil, List.length_cons, List.length_nil, List.cons_append, List.nil_append, List.replicate, Nat.reduceAdd, Nat.reduceSub]; exact rfl) ?_; dsimp only [f__law_alike])
  refine seq fun R hR => iffI fun A B hA hB => ?_
  walk_at "ug"
  refine hA _ (seq fun R hR => iffI fun A B hA hB => ?_)
  walk_at "ug"
  show WifP false _ _
  walk_at "ug"
  rw [beq_self_eq_true]
  refine hB _ (hR _ _ (seq fun R hR => iffI fun A B hA hB => ?_))
  walk_at "ug"
  refine hB _ (hR _ _ (seq fun R hR => iffI fun A B hA hB => ?_))
  walk_at "ug"
  refine hB _ (hR _ _ (seq fun R hR => iffI fun A B hA hB => ?_))
  walk_at "ug"
  refine hA _ (last ?_)
  walk_at "ug"
  dsimp only [itP, pIn]
  refine comp_each (g := .ice r' (dI bs)) (fun e : Txt × AV => AV.str e.1) (fun _ => .bool true) (fun σ' => σ' r' = some (.fdict (dI bs)) ∧ Lx r' σ σ') (fun _ h => h.1) (dI bs) [] _ ⟨setH_here _ _ _, fun x o hx e => (setH_ne hx).trans e⟩ (by simpa using hl') ?_ ?_
  · rintro e he σ₁ c ⟨f1, k1⟩ hc
    have h1 := k1 _ _ hne h
    have hlk := lf_look he
    walk_at "ug"
    rw [hlk]
    show WifP true _ _
    walk_at "ug"
    refine s_al_int TA T (d := d - 1) (by omega) _ ?_
    exact hc _ ⟨f1, k1⟩
  · rintro σ₁ ⟨f1, k1⟩
    intro a σ₂ ha l₂ ha₂
    have L2 : Le σ σ₂ := fun x o e => l₂ _ _ (by
      by_cases hx : x = r'
      · subst hx; rw [setH_here, ← h']; exact e
      · rw [setH_ne hx]; exact k1 x o hx e)
    walk_at "ug"
    refine okP (v := List.replicate (dI bs).length true) ?_ ?_
    · have := trues (vs := (dI bs).map fun _ => AV.bool true) (fun v hv => by obtain ⟨_, _, e⟩ := List.mem_map.mp hv; exact e.symm)
      rw [List.length_map] at this
      rw [this]; exact bools_map
    · rw [all_true]; exact hq σ₂ L2
theorem s_alike (hd : 2 < d) {t t' r r' : Addr} {w : Txt} {i : Int} {bs : Bx} (ht : σ t = some (.tup [.str w, .ref r, .int i])) (ht' : σ t' = some (.tup [.str w, .ref r', .int i])) (h : σ r = some (.dict (dI bs))) (h' : σ r' = some (.dict (dI bs))) (hne : r ≠ r') (hl : bs.length < 1000) (hq : ∀ σ', Le σ σ' → Q (.bool true) σ') : K.fn false d "_law_alike" [.ref t, .ref t'] σ Q X := by
  (refine ent' T f__law_alike (by simp [tabK]) rfl (by simp only [f__law_alike, args1, List.map_cons, List.map_nil, List.length_cons, List.length_nil, List.cons_append, List.nil_append, List.replicate, Nat.reduceAdd, Nat.reduceSub]; exact rfl) ?_; dsimp only [f__law_alike])
  refine seq fun R hR => iffI fun A B hA hB => ?_
  walk_at "ug"
  refine hA _ (seq fun R hR => iffI fun A B hA hB => ?_)
  walk_at "ug"
  show WifP false _ _
  walk_at "ug"
  refine hB _ (hR _ _ (seq fun R hR => iffI fun A B hA hB => ?_))
  walk_at "ug"
  refine hB _ (hR _ _ (seq fun R hR => iffI fun A B hA hB => ?_))
  walk_at "ug"
  refine hB _ (hR _ _ (seq fun R hR => iffI fun A B hA hB => ?_))
  walk_at "ug"
  refine hB _ (hR _ _ (last ?_))
  walk_at "ug"
  refine comp_new (n := 3) (by decide) (fun σ' => Le σ σ') (fun k v => v = .bool true) (Le.refl _) ?_ ?_
  · intro k σ₁ c hk l₁ hc
    have ht₁ := l₁ _ _ ht
    have ht'₁ := l₁ _ _ ht'
    walk_at "ug"
    obtain rfl | rfl | rfl : k = 0 ∨ k = 1 ∨ k = 2 := by omega
    · refine okP (show itemL _ ((0 : Nat) : Int) = _ from itemL_0) ?_
      walk_at "ug"
      exact s_al_str TA T w (hc _ _ l₁ rfl)
    · refine okP (show itemL _ ((1 : Nat) : Int) = _ from itemL_1) ?_
      walk_at "ug"
      exact s_al_dict TA T (by omega) (l₁ _ _ h) (l₁ _ _ h') hne hl fun σ₂ l₂ => hc _ _ (l₁.trans l₂) rfl
    · refine okP (show itemL _ ((2 : Nat) : Int) = _ from itemL_2) ?_
      walk_at "ug"
      exact s_al_int TA T (by omega) i (hc _ _ l₁ rfl)
  · intro vs σ₁ a σ₂ l₁ hlen hP ha l₂ ha₂
    walk_at "ug"
    refine okP (v := List.replicate vs.length true) ?_ ?_
    · have := trues (vs := vs) fun v hv => by obtain ⟨k, hk⟩ := List.mem_iff_getElem?.mp hv; exact hP k v hk
      rw [this, List.length_map, List.length_replicate]; exact bools_map
    · rw [all_true]; exact hq σ₂ (l₁.trans l₂)
end
end U11
namespace U11
open U PySem
set_option linter.unusedSimpArgs false
set_option linter.unusedVariables false
set_option linter.unusedSectionVars false
noncomputable def Tr.app : Tr → Tr → Tr
  | .nil, s => s
  | .set k m r, s => .set k m (r.app s)
  | .iff q a b r, s => .iff q a b (r.app s)
  | .wh q a r, s => .wh q a (r.app s)
theorem app_ok : ∀ {t s : Tr} {h : Nat}, t.ok h → s.ok h → (t.app s).ok h
  | .nil, _, _, _, h => h
  | .set _ _ _, _, _, h, h' => ⟨h.1, app_ok h.2 h'⟩
  | .iff _ _ _ _, _, _, h, h' => ⟨h.1, h.2.1, app_ok h.2.2 h'⟩
  | .wh _ _ _, _, _, h, h' => ⟨h.1, h.2.1, app_ok h.2.2 h'⟩
theorem app_sz : ∀ (t s : Tr), (t.app s).sz = t.sz + s.sz
  | .nil, s => (Nat.zero_add _).symm
  | .set _ _ r, s => by show 1 + (r.app s).sz = 1 + r.sz + s.sz; rw [app_sz r s]; omega
  | .iff _ a b r, s => by show 1 + a.sz + b.sz + (r.app s).sz = 1 + a.sz + b.sz + r.sz + s.sz; rw [app_sz r s]; omega
  | .wh _ a r, s => by show 1 + a.sz + (r.app s).sz = 1 + a.sz + r.sz + s.sz; rw [app_sz r s]; omega
theorem RepF.app {F : Addr → Prop} {σ : Hp} : ∀ {t s : Tr} {vs ws : List AV}, RepF F σ t vs → RepF F σ s ws → RepF F σ (t.app s) (vs ++ ws)
  | .nil, _, _, _, e, h => by rw [show _ = _ from e]; exact h
  | .set _ _ _, _, _, _, hp0, h => by obtain ⟨t, u, vs', h1, h2, h3, h4⟩ := hp0; exact ⟨t, u, _, by rw [h1]; rfl, h2, h3, h4.app h⟩
  | .iff _ _ _ _, _, _, _, hp0, h => by obtain ⟨t, u, la, lb, va, vb, vs', h1, h2, h3, h4, h5, h6, h7, h8⟩ := hp0; exact ⟨t, u, la, lb, va, vb, _, by rw [h1]; rfl, h2, h3, h4, h5, h6, h7, h8.app h⟩
  | .wh _ _ _, _, _, _, hp0, h => by obtain ⟨t, u, la, va, vs', h1, h2, h3, h4, h5, h6⟩ := hp0; exact ⟨t, u, la, va, _, by rw [h1]; rfl, h2, h3, h4, h5, h6.app h⟩
noncomputable def tabM : List (String × Fn) := [("_law_plain_closed", f__law_plain_closed), ("_law_plain_close", f__law_plain_close), ("_law_plain_rows", f__law_plain_rows)]
theorem cnt_ne (k : Txt) : k ≠ 0 :: k := fun h => by have := congrArg List.length h; simp at this
section
variable {K : Kx} (TA : Tab K tabA) (T : Tab K tabM) {d : Nat} {σ : Hp} {Q : Post} {X : XPost} {nl : Addr} {ns : List Txt}
include TA T
theorem s_closed {F : Addr → Prop} (hd : 1 < d) {f l2 l3 : Addr} {kd : Txt} {pos num : Int} {lv h : Nat} {v2 v3 : List AV} {t2 t3 : Tr} (hn : σ nl = some (.list (ns.map .str))) (h9 : ns.length = 9) (hlv : 1 ≤ lv ∧ lv ≤ 3) (hnum : 0 ≤ num)
    (hf : σ f = some (.list [.str kd, .int pos, .ref l2, .ref l3, .int num])) (h2 : At F σ l2 (.list v2)) (h3 : At F σ l3 (.list v3)) (r2 : RepF F σ t2 v2) (r3 : RepF F σ t3 v3) (o2 : t2.ok h) (o3 : t3.ok h) (hz : t2.sz < 10000) (hF : ∀ x, σ x = none → F x)
    (hq : ∀ c vc tr σ', Le σ σ' → σ c = none → σ' c = some (.list vc) → RepF F σ' tr vc → tr.ok (h + 1) → tr.sz ≤ t2.sz + t3.sz + 3 → vc.length ≤ 2 → Q (.ref c) σ') : K.fn false d "_law_plain_closed" [.ref f, .int (lv : Int), .ref nl] σ Q X := by
  have htl : tooLong = 1000000 := rfl
  have n0 : ∀ {x} {σ' : Hp}, Le σ σ' → σ' x = none → F x := fun l e => hF _ (none_le l e)
  have lm : (ns.map AV.str).length = 9 := by rw [List.length_map, h9]
  have h2₀ := h2.1
  (refine ent' T f__law_plain_closed (by simp [tabM]) rfl (by simp only [f__law_plain_closed, args1, List.map_cons, List.map_nil, List.length_cons, List.length_nil, List.cons_append, List.nil_append, List.replicate, Nat.reduceAdd, Nat.reduceSub]; exact rfl) ?_; dsimp only [f__law_plain_closed])
  refine seq fun R hR => iffI fun A B hA hB => ?_
  walk_at "ug"
  refine wif (fun hk => hA _ (last ?_)) fun hk => hB _ (hR _ _ (seq fun R hR => ?_))
  · walk_at "ug"
    refine s_question TA (by omega) num hn (by omega) (by omega) hnum fun q u σ₁ l₁ hu0 hu ho => ?_
    have hf₁ := l₁ _ _ hf
    walk_at "ug"
    refine newO fun t σ₂ ht l₂ ht₂ => ?_
    walk_at "ug"
    refine newO fun c σ₃ hc l₃ hc₃ => ?_
    have L2 := l₁.trans l₂
    have L3 := L2.trans l₃
    refine hq c [.ref t] (.iff q t2 t3 .nil) σ₃ L3 (none_le L2 hc) hc₃ ⟨t, u, l2, l3, v2, v3, [], rfl, ⟨l₃ _ _ ht₂, n0 l₁ ht⟩, ⟨(l₂.trans l₃) _ _ hu, hF _ hu0⟩, ⟨L3 _ _ h2.1, h2.2⟩, r2.le L3, ⟨L3 _ _ h3.1, h3.2⟩, r3.le L3, rfl⟩ ⟨ho.1, ⟨h, rfl, o2, o3⟩, trivial⟩ (by simp only [Tr.sz]; omega) (Nat.le_succ 1)
  · walk_at "ug"
    refine okP (itemL_ok (by omega) (by omega) (by omega)) ?_
    obtain ⟨cn, hcn⟩ : ∃ cn, pick (ns.map .str) (5 + (lv : Int)) = .str cn := ⟨_, pick_map AV.str [] (by omega) (by omega)⟩
    rw [hcn]
    refine hR _ _ (seq fun R hR => iffI fun A B hA hB => ?_)
    walk_at "ug"
    refine wif (fun hk => hA _ (last ?_)) fun hk => hB _ (hR _ _ (seq fun R hR => ?_))
    · walk_at "ug"
      refine s_question TA (by omega) (Int.fdiv num 64) hn (by omega) (by omega) (fdiv_lo hnum (by decide)) fun q u σ₁ l₁ hu0 hu ho => ?_
      have hf₁ := l₁ _ _ hf
      walk_at "ug"
      refine newO fun t σ₂ ht l₂ ht₂ => ?_
      walk_at "ug"
      refine newO fun c σ₃ hc l₃ hc₃ => ?_
      have L2 := l₁.trans l₂
      have L3 := L2.trans l₃
      exact hq c [.ref t] (.wh q t2 .nil) σ₃ L3 (none_le L2 hc) hc₃ ⟨t, u, l2, v2, [], rfl, ⟨l₃ _ _ ht₂, n0 l₁ ht⟩, ⟨(l₂.trans l₃) _ _ hu, hF _ hu0⟩, ⟨L3 _ _ h2.1, h2.2⟩, r2.le L3, rfl⟩ ⟨ho.1, ⟨h, rfl, o2⟩, trivial⟩ (by simp only [Tr.sz]; omega) (Nat.le_succ 1)
    · have hv2 := r2.len
      walk_at "ug"
      refine newO fun u1 σ₁ hu1 l₁ hu1' => ?_
      walk_at "ug"
      refine newO fun t1 σ₂ ht1 l₂ ht1' => ?_
      walk_at "ug"
      refine newO fun p1 σ₃ hp1 l₃ hp1' => ?_
      have h2₃ := (l₁.trans (l₂.trans l₃)) _ _ h2₀
      have hf₃ := (l₁.trans (l₂.trans l₃)) _ _ hf
      walk_at "ug"
      refine newO fun b1 σ₄ hb1 l₄ hb1' => hR _ _ (last ?_)
      have hf₄ := l₄ _ _ hf₃
      walk_at "ug"
      refine newO fun u2 σ₅ hu2 l₅ hu2' => ?_
      walk_at "ug"
      refine newO fun t2' σ₆ ht2 l₆ ht2' => ?_
      have hf₆ := (l₅.trans l₆) _ _ hf₄
      walk_at "ug"
      refine newO fun u3 σ₇ hu3 l₇ hu3' => ?_
      walk_at "ug"
      refine newO fun t3' σ₈ ht3 l₈ ht3' => ?_
      walk_at "ug"
      refine newO fun c σ₉ hc l₉ hc₉ => ?_
      have M1 := l₁
      have M2 := M1.trans l₂
      have M3 := M2.trans l₃
      have M4 := M3.trans l₄
      have M5 := M4.trans l₅
      have M6 := M5.trans l₆
      have M7 := M6.trans l₇
      have M8 := M7.trans l₈
      have M9 := M8.trans l₉
      have w9 := l₉
      have w8 := l₈.trans w9
      have w7 := l₇.trans w8
      have w6 := l₆.trans w7
      have w5 := l₅.trans w6
      have w4 := l₄.trans w5
      have w3 := l₃.trans w4
      have w2 := l₂.trans w3
      have smj : sm (Int.fmod num 4) := sm_mod _ (by decide) (by decide)
      have hsm0 : sm 0 := ⟨by decide, by decide⟩
      have hsm1 : sm 1 := ⟨by decide, by decide⟩
      have rb : RepF F σ₉ (t2.app (.set cn (.two [43] (.s cn) (.n 1)) .nil)) (v2 ++ [.ref t1]) := (r2.le M9).app ⟨t1, u1, [], rfl, ⟨w3 _ _ ht1', n0 M1 ht1⟩, ⟨w2 _ _ hu1', hF _ hu1⟩, rfl⟩
      refine hq c [.ref t2', .ref t3'] (.set cn (.one (.n 0)) (.wh ⟨[60], .s cn, .n (Int.fmod num 4)⟩ (t2.app (.set cn (.two [43] (.s cn) (.n 1)) .nil)) .nil)) σ₉ M9 (none_le M8 hc) hc₉
        ⟨t2', u2, [.ref t3'], rfl, ⟨w7 _ _ ht2', n0 M5 ht2⟩, ⟨w6 _ _ hu2', n0 M4 hu2⟩, t3', u3, b1, v2 ++ [.ref t1], [], rfl, ⟨w9 _ _ ht3', n0 M7 ht3⟩, ⟨w8 _ _ hu3', n0 M6 hu3⟩, ⟨w5 _ _ hb1', n0 M3 hb1⟩, rb, rfl⟩ ?_ ?_ (Nat.le_refl 2)
      · exact ⟨⟨[], [], hsm0⟩, by simp [signs4], ⟨h, rfl, app_ok o2 ⟨⟨0 :: cn, [cn], by simp [signs7], ⟨cnt_ne cn, .head _⟩, hsm1⟩, trivial⟩⟩, trivial⟩
      · simp only [Tr.sz, app_sz]; omega
end
end U11
namespace U11
open U PySem
set_option linter.unusedSimpArgs false
set_option linter.unusedVariables false
set_option linter.unusedSectionVars false
set_option genSizeOf false
set_option genInjectivity false
/-- an open frame -/
structure Fm where
  f : Addr
  l2 : Addr
  l3 : Addr
  kd : Txt
  pos : Nat
  num : Int
  t2 : Tr
  t3 : Tr
noncomputable def Fm.own (x : Fm) : List Addr := [x.f, x.l2, x.l3]
noncomputable def owns (fl : Addr) (st : List Fm) : List Addr := fl :: st.flatMap Fm.own
structure FmAt (F : Addr → Prop) (σ : Hp) (h : Nat) (x : Fm) : Prop where
  fr : σ x.f = some (.list [.str x.kd, .int x.pos, .ref x.l2, .ref x.l3, .int x.num])
  r2 : ∃ v, σ x.l2 = some (.list v) ∧ RepF F σ x.t2 v
  r3 : ∃ v, σ x.l3 = some (.list v) ∧ RepF F σ x.t3 v
  o2 : x.t2.ok h
  o3 : x.t3.ok h
  n : 0 ≤ x.num
  p : x.pos = 0 ∨ x.pos = 1
noncomputable def Stk (F : Addr → Prop) (σ : Hp) : List Fm → Prop
  | [] => True
  | x :: r => FmAt F σ (3 - r.length) x ∧ Stk F σ r
theorem FmAt.keep {F F' : Addr → Prop} {σ σ' : Hp} {h : Nat} {x : Fm} (A : FmAt F σ h x) (hk : ∀ a ∈ x.own, ∀ o, σ a = some o → σ' a = some o) (hF : ∀ {y o}, At F σ y o → At F' σ' y o) : FmAt F' σ' h x :=
  ⟨hk _ (.head _) _ A.fr, let ⟨v, h1, h2⟩ := A.r2; ⟨v, hk _ (.tail _ (.head _)) _ h1, h2.mono hF⟩, let ⟨v, h1, h2⟩ := A.r3; ⟨v, hk _ (.tail _ (.tail _ (.head _))) _ h1, h2.mono hF⟩, A.o2, A.o3, A.n, A.p⟩
theorem Stk.keep {F F' : Addr → Prop} {σ σ' : Hp} : ∀ {st : List Fm}, Stk F σ st → (∀ a ∈ st.flatMap Fm.own, ∀ o, σ a = some o → σ' a = some o) → (∀ {y o}, At F σ y o → At F' σ' y o) → Stk F' σ' st
  | [], _, _, _ => trivial
  | x :: r, ⟨h1, h2⟩, hk, hF => ⟨h1.keep (fun a ha => hk a (by rw [List.flatMap_cons]; exact List.mem_append_left _ ha)) hF, h2.keep (fun a ha => hk a (by rw [List.flatMap_cons]; exact List.mem_append_right _ ha)) hF⟩
noncomputable def tot : List Fm → Nat
  | [] => 0
  | x :: r => x.t2.sz + x.t3.sz + tot r
noncomputable def meas : List Fm → Nat
  | [] => 0
  | x :: r => (2 - x.pos) + meas r
structure Bld (σ₀ σ : Hp) (fl : Addr) (st : List Fm) : Prop where
  lst : σ fl = some (.list ((st.map fun x => AV.ref x.f).reverse))
  nd : (owns fl st).Nodup
  stk : Stk (fun y => y ∉ owns fl st) σ st
  new : ∀ a ∈ owns fl st, σ₀ a = none
  le : Le σ₀ σ
theorem itemL_last {xs : List AV} {v : AV} : itemL (xs ++ [v]) (-1) = some v := by
  unfold itemL
  have e : seqIndex? (-1) (xs ++ [v]).length = some xs.length := by
    unfold seqIndex?
    simp only [List.length_append, List.length_cons, List.length_nil]
    have h1 : ((-1 : Int) < 0) := by decide
    simp only [h1, if_true]
    rw [if_pos (by simp only [Bool.and_eq_true, decide_eq_true_eq]; omega)]
    congr 1; omega
  rw [if_pos (by decide), e]
  show (xs ++ [v])[xs.length]? = some v
  rw [List.getElem?_append_right (Nat.le_refl _), Nat.sub_self]; rfl
theorem own_off {fl : Addr} {x : Fm} {r : List Fm} (h : (owns fl (x :: r)).Nodup) : fl ∉ x.own ∧ fl ∉ r.flatMap Fm.own ∧ x.f ≠ x.l2 ∧ x.f ≠ x.l3 ∧ x.l2 ≠ x.l3 ∧ (∀ a ∈ x.own, a ∉ r.flatMap Fm.own) ∧ (owns fl r).Nodup := by
  unfold owns at h
  rw [List.flatMap_cons, List.nodup_cons, List.nodup_append, List.mem_append] at h
  obtain ⟨h1, h2, h3, h4⟩ := h
  have h5 := h2
  unfold Fm.own at h5
  rw [List.nodup_cons, List.nodup_cons] at h5
  refine ⟨fun q => h1 (.inl q), fun q => h1 (.inr q), fun q => h5.1 (by rw [q]; exact .head _), fun q => h5.1 (by rw [q]; exact .tail _ (.head _)), fun q => h5.2.1 (by rw [q]; exact .head _), fun a ha hb => h4 a ha a hb rfl, List.nodup_cons.mpr ⟨fun q => h1 (.inr q), h3⟩⟩
theorem Stk.alloc {F : Addr → Prop} {σ : Hp} : ∀ {st : List Fm}, Stk F σ st → ∀ a ∈ st.flatMap Fm.own, ∃ o, σ a = some o
  | [], _, _, h => nomatch h
  | x :: r, ⟨A, S⟩, a, h => by
    rw [List.flatMap_cons] at h
    rcases List.mem_append.mp h with h | h
    · unfold Fm.own at h
      simp only [List.mem_cons, List.not_mem_nil, or_false] at h
      rcases h with rfl | rfl | rfl
      · exact ⟨_, A.fr⟩
      · obtain ⟨v, h, _⟩ := A.r2; exact ⟨_, h⟩
      · obtain ⟨v, h, _⟩ := A.r3; exact ⟨_, h⟩
    · exact S.alloc a h
theorem Bld.alloc {σ₀ σ : Hp} {fl : Addr} {st : List Fm} (B : Bld σ₀ σ fl st) : ∀ a, σ a = none → a ∉ owns fl st := fun a e h => by
  rcases List.mem_cons.mp h with rfl | h
  · rw [B.lst] at e; cases e
  · obtain ⟨o, ho⟩ := B.stk.alloc a h; rw [ho] at e; cases e
section
variable {K : Kx} (TA : Tab K tabA) (T : Tab K tabM) {d : Nat} {σ₀ σ : Hp} {Q : Post} {X : XPost} {nl fl : Addr} {ns : List Txt}
include TA T
theorem s_close (hd : 2 < d) {x w : Fm} {r : List Fm} (B : Bld σ₀ σ fl (x :: w :: r)) (hr3 : r.length ≤ 2) (hn : σ₀ nl = some (.list (ns.map .str))) (h9 : ns.length = 9) (hz : tot (x :: w :: r) < 9000)
    (hq : ∀ st σ', Bld σ₀ σ' fl st → 1 ≤ st.length → st.length ≤ r.length + 2 → tot st ≤ tot (x :: w :: r) + 3 → meas st + 1 ≤ meas (x :: w :: r) → Q .none σ') : K.fn false d "_law_plain_close" [.ref fl, .ref nl] σ Q X := by
  have htl : tooLong = 1000000 := rfl
  have hl := B.lst
  obtain ⟨Ax, Aw, Ar⟩ := B.stk
  have hfx := Ax.fr
  obtain ⟨n1, n2, n3, n4, n5, n6, nd'⟩ := own_off B.nd
  obtain ⟨m1, m2, m3, m4, m5, m6, nd''⟩ := own_off nd'
  rw [List.map_cons, List.reverse_cons] at hl
  (refine ent' T f__law_plain_close (by simp [tabM]) rfl (by simp only [f__law_plain_close, args1, List.map_cons, List.map_nil, List.length_cons, List.length_nil, List.cons_append, List.nil_append, List.replicate, Nat.reduceAdd, Nat.reduceSub]; exact rfl) ?_; dsimp only [f__law_plain_close])
  refine seq fun R hR => ?_
  walk_at "ug"
  refine okP itemL_last (hR _ _ (last (iffI fun A B' hA hB => ?_)))
  walk_at "ug"
  have popd : B' σ := by
    refine hB _ (seq fun R hR => ?_)
    walk_at "ug"
    refine okP (v := .ref x.f) (by simp) ?_
    refine ⟨by simp only [List.length_append, List.length_reverse, List.length_cons, List.length_map, List.length_nil]; omega, setO fun σ₁ h₁ k₁ => hR _ _ (seq fun R hR => ?_)⟩
    rw [List.dropLast_concat, List.reverse_cons] at h₁
    walk_at "ug"
    refine okP itemL_last (hR _ _ (last ?_))
    have xin : ∀ {a}, a ∈ x.own → a ≠ fl ∧ a ∉ owns fl (w :: r) := fun {a} h => ⟨fun q => n1 (q ▸ h), fun q => by
      rcases List.mem_cons.mp q with q | q
      · exact n1 (q ▸ h)
      · exact n6 _ h q⟩
    have KF : ∀ {y o}, At (fun y => y ∉ owns fl (x :: w :: r)) σ y o → At (fun y => y ∉ owns fl (w :: r)) σ₁ y o := fun {y o} a => ⟨by rw [k₁ _ (fun q => a.2 (by rw [q]; exact .head _))]; exact a.1, fun q => a.2 (by
      rcases List.mem_cons.mp q with q | q
      · rw [q]; exact .head _
      · unfold owns; rw [List.flatMap_cons]; exact .tail _ (List.mem_append_right _ q))⟩
    have hfx₁ := (k₁ _ (xin (.head _)).1).trans hfx
    obtain ⟨v2, e2, q2⟩ := Ax.r2
    obtain ⟨v3, e3, q3⟩ := Ax.r3
    have x2 := (xin (a := x.l2) (.tail _ (.head _)))
    have x3 := (xin (a := x.l3) (.tail _ (.tail _ (.head _))))
    replace e2 := (k₁ _ x2.1).trans e2
    replace e3 := (k₁ _ x3.1).trans e3
    have hfw₀ := (k₁ w.f (fun q => m1 (by rw [← q]; exact .head _))).trans Aw.fr
    have l₁ : Le σ₀ σ₁ := fun y o e => by rw [k₁ _ (fun q => by rw [q, B.new _ (.head _)] at e; cases e)]; exact B.le _ _ e
    have S₁ : Stk (fun y => y ∉ owns fl (w :: r)) σ₁ (w :: r) := Stk.keep ⟨Aw, Ar⟩ (fun a ha o e => by rw [k₁ _ (fun q => n2 (q ▸ ha))]; exact e) KF
    have B₁ : Bld σ₀ σ₁ fl (w :: r) := ⟨by rw [h₁, List.map_cons, List.reverse_cons], nd', S₁, fun a ha => B.new a (by
      rcases List.mem_cons.mp ha with q | q
      · rw [q]; exact .head _
      · unfold owns; rw [List.flatMap_cons]; exact .tail _ (List.mem_append_right _ q)), l₁⟩
    have hal := B₁.alloc
    have hfw₁ := hfw₀
    rcases Aw.p with hwp | hwp
    · rw [hwp] at hfw₁
      obtain ⟨v, hv, rv⟩ := Aw.r2
      have hlw : w.l2 ≠ fl := fun q => m1 (by rw [← q]; exact .tail _ (.head _))
      have hv₁ : σ₁ w.l2 = some (.list v) := (k₁ _ hlw).trans hv
      have rv₁ := rv.mono KF
      walk_at "ug"
      refine ⟨by simp only [List.length_append, List.length_reverse, List.length_cons, List.length_map, List.length_nil]; omega, ?_⟩
      rw [show ((((r.map fun x => AV.ref x.f).reverse ++ [AV.ref w.f]).length : Nat) : Int) = ((r.length + 1 : Nat) : Int) by rw [List.length_append, List.length_reverse, List.length_map]; rfl]
      walk_at "ug"
      refine s_closed TA T (F := fun y => y ∉ owns fl (w :: r)) (by omega) (h := 3 - (w :: r).length) (l₁ _ _ hn) h9 ⟨by omega, by omega⟩ Ax.n hfx₁ ⟨e2, x2.2⟩ ⟨e3, x3.2⟩ (q2.mono KF) (q3.mono KF) Ax.o2 Ax.o3 (by simp only [tot] at hz; omega) hal fun c vc tr σ₂ l₂ hc hc₂ rt ot st2 lvc => ?_
      have hv₂ := l₂ _ _ hv₁
      have hvl := rv.len
      simp only [tot] at hz
      walk_at "ug"
      refine setO fun σ₃ h₃ k₃ => ?_
      have lin : w.l2 ∈ owns fl (w :: r) := .tail _ (by rw [List.flatMap_cons]; exact List.mem_append_left _ (.tail _ (.head _)))
      have KG2 : ∀ {y o}, At (fun y => y ∉ owns fl (w :: r)) σ₂ y o → At (fun y => y ∉ owns fl (w :: r)) σ₃ y o := fun {y o} a => ⟨by rw [k₃ _ (fun q => a.2 (by rw [q]; exact lin))]; exact a.1, a.2⟩
      have KG : ∀ {y o}, At (fun y => y ∉ owns fl (w :: r)) σ₁ y o → At (fun y => y ∉ owns fl (w :: r)) σ₃ y o := fun a => KG2 ⟨l₂ _ _ a.1, a.2⟩
      rw [show 3 - (w :: r).length + 1 = 3 - r.length by simp only [List.length_cons]; omega] at ot
      refine hq ({ w with t2 := w.t2.app tr } :: r) σ₃ ⟨?_, nd', ⟨⟨by rw [k₃ _ m3]; exact l₂ _ _ hfw₀, ⟨v ++ vc, h₃, (rv₁.mono KG).app (rt.mono KG2)⟩, (let ⟨u, u1, u2⟩ := Aw.r3; ⟨u, by rw [k₃ _ (Ne.symm m5)]; exact l₂ _ _ ((k₁ _ (fun q => m1 (by rw [← q]; exact .tail _ (.tail _ (.head _))))).trans u1), (u2.mono KF).mono KG⟩), app_ok Aw.o2 ot, Aw.o3, Aw.n, Aw.p⟩, S₁.2.keep (fun a ha o e => by rw [k₃ _ (fun q => m6 _ (.tail _ (.head _)) (q ▸ ha))]; exact l₂ _ _ e) KG⟩, B₁.new, fun y o e => by rw [k₃ _ (fun q => by rw [q, B₁.new _ lin] at e; cases e)]; exact l₂ _ _ (l₁ _ _ e)⟩ (Nat.le_add_left _ _) (by simp only [List.length_cons]; omega) (by simp only [tot, app_sz]; omega) (by have := Ax.p; simp only [meas]; omega)
      rw [k₃ _ (Ne.symm hlw)]
      exact l₂ _ _ B₁.lst
    · rw [hwp] at hfw₁
      obtain ⟨v, hv, rv⟩ := Aw.r3
      have hlw : w.l3 ≠ fl := fun q => m1 (by rw [← q]; exact .tail _ (.tail _ (.head _)))
      have hv₁ : σ₁ w.l3 = some (.list v) := (k₁ _ hlw).trans hv
      have rv₁ := rv.mono KF
      walk_at "ug"
      refine ⟨by simp only [List.length_append, List.length_reverse, List.length_cons, List.length_map, List.length_nil]; omega, ?_⟩
      rw [show ((((r.map fun x => AV.ref x.f).reverse ++ [AV.ref w.f]).length : Nat) : Int) = ((r.length + 1 : Nat) : Int) by rw [List.length_append, List.length_reverse, List.length_map]; rfl]
      walk_at "ug"
      refine s_closed TA T (F := fun y => y ∉ owns fl (w :: r)) (by omega) (h := 3 - (w :: r).length) (l₁ _ _ hn) h9 ⟨by omega, by omega⟩ Ax.n hfx₁ ⟨e2, x2.2⟩ ⟨e3, x3.2⟩ (q2.mono KF) (q3.mono KF) Ax.o2 Ax.o3 (by simp only [tot] at hz; omega) hal fun c vc tr σ₂ l₂ hc hc₂ rt ot st2 lvc => ?_
      have hv₂ := l₂ _ _ hv₁
      have hvl := rv.len
      simp only [tot] at hz
      walk_at "ug"
      refine setO fun σ₃ h₃ k₃ => ?_
      have lin : w.l3 ∈ owns fl (w :: r) := .tail _ (by rw [List.flatMap_cons]; exact List.mem_append_left _ (.tail _ (.tail _ (.head _))))
      have KG2 : ∀ {y o}, At (fun y => y ∉ owns fl (w :: r)) σ₂ y o → At (fun y => y ∉ owns fl (w :: r)) σ₃ y o := fun {y o} a => ⟨by rw [k₃ _ (fun q => a.2 (by rw [q]; exact lin))]; exact a.1, a.2⟩
      have KG : ∀ {y o}, At (fun y => y ∉ owns fl (w :: r)) σ₁ y o → At (fun y => y ∉ owns fl (w :: r)) σ₃ y o := fun a => KG2 ⟨l₂ _ _ a.1, a.2⟩
      rw [show 3 - (w :: r).length + 1 = 3 - r.length by simp only [List.length_cons]; omega] at ot
      refine hq ({ w with t3 := w.t3.app tr } :: r) σ₃ ⟨?_, nd', ⟨⟨by rw [k₃ _ m4]; exact l₂ _ _ hfw₀, (let ⟨u, u1, u2⟩ := Aw.r2; ⟨u, by rw [k₃ _ m5]; exact l₂ _ _ ((k₁ _ (fun q => m1 (by rw [← q]; exact .tail _ (.head _)))).trans u1), (u2.mono KF).mono KG⟩), ⟨v ++ vc, h₃, (rv₁.mono KG).app (rt.mono KG2)⟩, Aw.o2, app_ok Aw.o3 ot, Aw.n, Aw.p⟩, S₁.2.keep (fun a ha o e => by rw [k₃ _ (fun q => m6 _ (.tail _ (.tail _ (.head _))) (q ▸ ha))]; exact l₂ _ _ e) KG⟩, B₁.new, fun y o e => by rw [k₃ _ (fun q => by rw [q, B₁.new _ lin] at e; cases e)]; exact l₂ _ _ (l₁ _ _ e)⟩ (Nat.le_add_left _ _) (by simp only [List.length_cons]; omega) (by simp only [tot, app_sz]; omega) (by have := Ax.p; simp only [meas]; omega)
      rw [k₃ _ (Ne.symm hlw)]
      exact l₂ _ _ B₁.lst
  refine wif (fun hk => ?_) fun hk => by rw [hk]; exact popd
  walk_at "ug"
  cases hp : x.pos with
  | succ p => exact popd
  | zero =>
    refine hA _ (last ?_)
    walk_at "ug"
    refine okP (v := 1) rfl (setO fun σ₁ h₁ k₁ => ?_)
    have fin : x.f ∈ owns fl (x :: w :: r) := .tail _ (by rw [List.flatMap_cons]; exact List.mem_append_left _ (.head _))
    have KF : ∀ {y o}, At (fun y => y ∉ owns fl (x :: w :: r)) σ y o → At (fun y => y ∉ owns fl (x :: w :: r)) σ₁ y o := fun {y o} a => ⟨by rw [k₁ _ (fun q => a.2 (by rw [q]; exact fin))]; exact a.1, a.2⟩
    refine hq ({ x with pos := 1 } :: w :: r) σ₁ ⟨?_, B.nd, ⟨⟨h₁, (let ⟨u, u1, u2⟩ := Ax.r2; ⟨u, by rw [k₁ _ (Ne.symm n3)]; exact u1, u2.mono KF⟩), (let ⟨u, u1, u2⟩ := Ax.r3; ⟨u, by rw [k₁ _ (Ne.symm n4)]; exact u1, u2.mono KF⟩), Ax.o2, Ax.o3, Ax.n, .inr rfl⟩, Stk.keep (st := w :: r) ⟨Aw, Ar⟩ (fun a ha o e => by rw [k₁ _ (fun q => n6 _ (.head _) (q ▸ ha))]; exact e) KF⟩, B.new, fun y o e => by rw [k₁ _ (fun q => by rw [q, B.new _ fin] at e; cases e)]; exact B.le _ _ e⟩ (Nat.le_add_left _ _) (Nat.le_refl _) (by simp only [tot]; omega) (by simp only [meas]; omega)
    rw [k₁ _ (fun q => n1 (by rw [q]; exact .head _))]
    exact B.lst
end
end U11
namespace U11
open U PySem
set_option linter.unusedSimpArgs false
set_option linter.unusedVariables false
set_option linter.unusedSectionVars false
theorem Bld.ext2 {σ₀ σ₁ σ₂ σ₃ : Hp} {fl : Addr} {w : Fm} {r : List Fm} {v vc : List AV} {tr : Tr} (B : Bld σ₀ σ₁ fl (w :: r)) (l₂ : Le σ₁ σ₂) (hv : σ₁ w.l2 = some (.list v)) (rv : RepF (fun y => y ∉ owns fl (w :: r)) σ₁ w.t2 v) (rt : RepF (fun y => y ∉ owns fl (w :: r)) σ₂ tr vc) (ot : tr.ok (3 - r.length))
    (h₃ : σ₃ w.l2 = some (.list (v ++ vc))) (k₃ : ∀ b, b ≠ w.l2 → σ₃ b = σ₂ b) : Bld σ₀ σ₃ fl ({ w with t2 := w.t2.app tr } :: r) := by
  obtain ⟨m1, m2, m3, m4, m5, m6, nd''⟩ := own_off B.nd
  obtain ⟨Aw, Ar⟩ := B.stk
  have lin : w.l2 ∈ owns fl (w :: r) := .tail _ (by rw [List.flatMap_cons]; exact List.mem_append_left _ (.tail _ (.head _)))
  have KG2 : ∀ {y o}, At (fun y => y ∉ owns fl (w :: r)) σ₂ y o → At (fun y => y ∉ owns fl (w :: r)) σ₃ y o := fun {y o} a => ⟨by rw [k₃ _ (fun q => a.2 (by rw [q]; exact lin))]; exact a.1, a.2⟩
  have KG : ∀ {y o}, At (fun y => y ∉ owns fl (w :: r)) σ₁ y o → At (fun y => y ∉ owns fl (w :: r)) σ₃ y o := fun a => KG2 ⟨l₂ _ _ a.1, a.2⟩
  refine ⟨?_, B.nd, ⟨⟨by rw [k₃ _ m3]; exact l₂ _ _ Aw.fr, ⟨_, h₃, (rv.mono KG).app (rt.mono KG2)⟩, (let ⟨u, u1, u2⟩ := Aw.r3; ⟨u, by rw [k₃ _ (Ne.symm m5)]; exact l₂ _ _ u1, u2.mono KG⟩), app_ok Aw.o2 ot, Aw.o3, Aw.n, Aw.p⟩, Ar.keep (fun a ha o e => by rw [k₃ _ (fun q => m6 _ (.tail _ (.head _)) (q ▸ ha))]; exact l₂ _ _ e) KG⟩, B.new, fun y o e => by rw [k₃ _ (fun q => by rw [q, B.new _ lin] at e; cases e)]; exact l₂ _ _ (B.le _ _ e)⟩
  rw [k₃ _ (fun q => m1 (by rw [q]; exact .tail _ (.head _)))]
  exact l₂ _ _ B.lst
theorem Bld.ext3 {σ₀ σ₁ σ₂ σ₃ : Hp} {fl : Addr} {w : Fm} {r : List Fm} {v vc : List AV} {tr : Tr} (B : Bld σ₀ σ₁ fl (w :: r)) (l₂ : Le σ₁ σ₂) (hv : σ₁ w.l3 = some (.list v)) (rv : RepF (fun y => y ∉ owns fl (w :: r)) σ₁ w.t3 v) (rt : RepF (fun y => y ∉ owns fl (w :: r)) σ₂ tr vc) (ot : tr.ok (3 - r.length))
    (h₃ : σ₃ w.l3 = some (.list (v ++ vc))) (k₃ : ∀ b, b ≠ w.l3 → σ₃ b = σ₂ b) : Bld σ₀ σ₃ fl ({ w with t3 := w.t3.app tr } :: r) := by
  obtain ⟨m1, m2, m3, m4, m5, m6, nd''⟩ := own_off B.nd
  obtain ⟨Aw, Ar⟩ := B.stk
  have lin : w.l3 ∈ owns fl (w :: r) := .tail _ (by rw [List.flatMap_cons]; exact List.mem_append_left _ (.tail _ (.tail _ (.head _))))
  have KG2 : ∀ {y o}, At (fun y => y ∉ owns fl (w :: r)) σ₂ y o → At (fun y => y ∉ owns fl (w :: r)) σ₃ y o := fun {y o} a => ⟨by rw [k₃ _ (fun q => a.2 (by rw [q]; exact lin))]; exact a.1, a.2⟩
  have KG : ∀ {y o}, At (fun y => y ∉ owns fl (w :: r)) σ₁ y o → At (fun y => y ∉ owns fl (w :: r)) σ₃ y o := fun a => KG2 ⟨l₂ _ _ a.1, a.2⟩
  refine ⟨?_, B.nd, ⟨⟨by rw [k₃ _ m4]; exact l₂ _ _ Aw.fr, (let ⟨u, u1, u2⟩ := Aw.r2; ⟨u, by rw [k₃ _ m5]; exact l₂ _ _ u1, u2.mono KG⟩), ⟨_, h₃, (rv.mono KG).app (rt.mono KG2)⟩, Aw.o2, app_ok Aw.o3 ot, Aw.n, Aw.p⟩, Ar.keep (fun a ha o e => by rw [k₃ _ (fun q => m6 _ (.tail _ (.tail _ (.head _))) (q ▸ ha))]; exact l₂ _ _ e) KG⟩, B.new, fun y o e => by rw [k₃ _ (fun q => by rw [q, B.new _ lin] at e; cases e)]; exact l₂ _ _ (B.le _ _ e)⟩
  rw [k₃ _ (fun q => m1 (by rw [q]; exact .tail _ (.tail _ (.head _))))]
  exact l₂ _ _ B.lst
theorem Bld.push {σ₀ σ₁ σ₂ σ₃ : Hp} {fl f l2 l3 : Addr} {kd : Txt} {num : Int} {st : List Fm} (B : Bld σ₀ σ₁ fl st) (l₂ : Le σ₁ σ₂) (hf0 : σ₁ f = none) (h20 : σ₁ l2 = none) (h30 : σ₁ l3 = none) (n1 : f ≠ l2) (n2 : f ≠ l3) (n3 : l2 ≠ l3)
    (hf : σ₂ f = some (.list [.str kd, .int 0, .ref l2, .ref l3, .int num])) (h2 : σ₂ l2 = some (.list [])) (h3 : σ₂ l3 = some (.list [])) (hn : 0 ≤ num) (h₃ : σ₃ fl = some (.list ((st.map fun x => AV.ref x.f).reverse ++ [.ref f]))) (k₃ : ∀ b, b ≠ fl → σ₃ b = σ₂ b) :
    Bld σ₀ σ₃ fl (⟨f, l2, l3, kd, 0, num, .nil, .nil⟩ :: st) := by
  have al : ∀ {a}, σ₁ a = none → a ∉ owns fl st := fun e => B.alloc _ e
  have nfl : ∀ {a}, σ₁ a = none → a ≠ fl := fun e q => al e (by rw [q]; exact .head _)
  have KF : ∀ {y o}, At (fun y => y ∉ owns fl st) σ₁ y o → At (fun y => y ∉ owns fl (⟨f, l2, l3, kd, 0, num, .nil, .nil⟩ :: st)) σ₃ y o := fun {y o} a => ⟨by rw [k₃ _ (fun q => a.2 (by rw [q]; exact .head _))]; exact l₂ _ _ a.1, fun q => by
    unfold owns at q
    rw [List.flatMap_cons] at q
    rcases List.mem_cons.mp q with q | q
    · exact a.2 (by rw [q]; exact .head _)
    · rcases List.mem_append.mp q with q | q
      · have h := a.1
        unfold Fm.own at q
        simp only [List.mem_cons, List.not_mem_nil, or_false] at q
        rcases q with q | q | q
        · rw [q, hf0] at h; cases h
        · rw [q, h20] at h; cases h
        · rw [q, h30] at h; cases h
      · exact a.2 (.tail _ q)⟩
  refine ⟨by rw [h₃, List.map_cons, List.reverse_cons], ?_, ⟨⟨by rw [k₃ _ (nfl hf0)]; exact hf, ⟨[], by rw [k₃ _ (nfl h20)]; exact h2, rfl⟩, ⟨[], by rw [k₃ _ (nfl h30)]; exact h3, rfl⟩, trivial, trivial, hn, .inl rfl⟩, B.stk.keep (fun a ha o e => by rw [k₃ _ (fun q => (List.nodup_cons.mp B.nd).1 (q ▸ ha))]; exact l₂ _ _ e) KF⟩, ?_, ?_⟩
  · unfold owns
    rw [List.flatMap_cons, List.nodup_cons, List.nodup_append, List.mem_append]
    refine ⟨?_, ?_, (List.nodup_cons.mp B.nd).2, ?_⟩
    · rintro (q | q)
      · unfold Fm.own at q
        simp only [List.mem_cons, List.not_mem_nil, or_false] at q
        rcases q with q | q | q
        · exact nfl hf0 q.symm
        · exact nfl h20 q.symm
        · exact nfl h30 q.symm
      · exact (List.nodup_cons.mp B.nd).1 q
    · unfold Fm.own; simp [n1, n2, n3]
    · intro a ha b hb q
      subst q
      unfold Fm.own at ha
      simp only [List.mem_cons, List.not_mem_nil, or_false] at ha
      rcases ha with rfl | rfl | rfl
      · exact al hf0 (.tail _ hb)
      · exact al h20 (.tail _ hb)
      · exact al h30 (.tail _ hb)
  · intro a ha
    unfold owns at ha
    rw [List.flatMap_cons] at ha
    rcases List.mem_cons.mp ha with q | q
    · exact B.new _ (by rw [q]; exact .head _)
    · rcases List.mem_append.mp q with q | q
      · unfold Fm.own at q
        simp only [List.mem_cons, List.not_mem_nil, or_false] at q
        rcases q with rfl | rfl | rfl
        · exact none_le B.le hf0
        · exact none_le B.le h20
        · exact none_le B.le h30
      · exact B.new _ (.tail _ q)
  · exact fun y o e => by rw [k₃ _ (fun q => by rw [q, B.new _ (.head _)] at e; cases e)]; exact l₂ _ _ (B.le _ _ e)
theorem meas_le : ∀ st : List Fm, meas st ≤ 2 * st.length
  | [] => Nat.le_refl _
  | x :: r => by have := meas_le r; simp only [meas, List.length_cons]; omega
end U11
namespace U11
open U PySem
set_option linter.unusedSimpArgs false
set_option linter.unusedVariables false
set_option linter.unusedSectionVars false
section
variable {K : Kx} (TA : Tab K tabA) (T : Tab K tabM) {d : Nat} {σ : Hp} {Q : Post} {X : XPost} {nl cl : Addr} {ns : List Txt}
include TA T
theorem s_rows (hd : 3 < d) {cs : List Int} (hn : σ nl = some (.list (ns.map .str))) (h9 : ns.length = 9) (hcl : σ cl = some (.list (cs.map .int))) (hcs : cs.length ≤ 32)
    (hq : ∀ l va tr σ', Le σ σ' → σ l = none → σ' l = some (.list va) → Rep σ' tr va → tr.ok 3 → tr.sz ≤ 200 → Q (.ref l) σ') : K.fn false d "_law_plain_rows" [.ref cl, .ref nl] σ Q X := by
  have htl : tooLong = 1000000 := rfl
  have lm : (ns.map AV.str).length = 9 := by rw [List.length_map, h9]
  have lc : (cs.map AV.int).length = cs.length := List.length_map _
  (refine ent' T f__law_plain_rows (by simp [tabM]) rfl (by simp only [f__law_plain_rows, args1, List.map_cons, List.map_nil, List.length_cons, List.length_nil, List.cons_append, List.nil_append, List.replicate, Nat.reduceAdd, Nat.reduceSub]; exact rfl) ?_; dsimp only [f__law_plain_rows])
  refine seq fun R hR => ?_
  walk_at "ug"
  refine newO fun l2 σ₁ hl2 l₁ hl2' => ?_
  walk_at "ug"
  refine newO fun l3 σ₂ hl3 l₂ hl3' => ?_
  walk_at "ug"
  refine newO fun f σ₃ hf l₃ hf' => ?_
  walk_at "ug"
  refine newO fun fl σ₄ hfl l₄ hfl' => ?_
  have L2 := l₁.trans l₂
  have L3 := L2.trans l₃
  have L4 := L3.trans l₄
  have n23 : l2 ≠ l3 := ne_of hl2' hl3
  have nf2 : f ≠ l2 := (ne_of (l₂ _ _ hl2') hf).symm
  have nf3 : f ≠ l3 := (ne_of hl3' hf).symm
  have nl2 : fl ≠ l2 := (ne_of ((l₂.trans l₃) _ _ hl2') hfl).symm
  have nl3 : fl ≠ l3 := (ne_of (l₃ _ _ hl3') hfl).symm
  have nlf : fl ≠ f := (ne_of hf' hfl).symm
  have B₀ : Bld σ σ₄ fl [⟨f, l2, l3, [], 0, 0, .nil, .nil⟩] := ⟨hfl', by unfold owns Fm.own; simp [n23, nf2, nf3, nl2, nl3, nlf], ⟨⟨l₄ _ _ hf', ⟨[], (l₂.trans (l₃.trans l₄)) _ _ hl2', rfl⟩, ⟨[], (l₃.trans l₄) _ _ hl3', rfl⟩, trivial, trivial, Int.le_refl 0, .inl rfl⟩, trivial⟩, fun a ha => by
    unfold owns Fm.own at ha
    simp only [List.flatMap_cons, List.flatMap_nil, List.append_nil, List.mem_cons, List.not_mem_nil, or_false] at ha
    rcases ha with rfl | rfl | rfl | rfl
    · exact none_le L3 hfl
    · exact none_le L2 hf
    · exact hl2
    · exact none_le l₁ hl3, L4⟩
  refine hR _ _ ?_
  clear hR hl2' hl3' hf' hfl'
  have hcl₄ := L4 _ _ hcl
  refine seq fun R₀ hR₀ => forI fun G hG => ?_
  walk_at "ug"
  rw [lc]
  refine hG _ _ _ (for_range (n := cs.length) (fun k ρ σ' => ∃ st x3 x4 x5 x6, ρ = [some (.ref cl), some (.ref nl), some (.ref fl), x3, x4, x5, x6] ∧ Bld σ σ' fl st ∧ (1 ≤ st.length ∧ st.length ≤ 4) ∧ tot st ≤ 3 * k) ⟨_, _, _, _, _, rfl, B₀, ⟨Nat.le_refl 1, (by decide : 1 ≤ 4)⟩, Nat.le_refl _⟩ ?_ ?_)
  · clear hG hR₀ hq B₀ L2 L3 L4 hcl₄
    rintro k ρ σ₁ c hk ⟨st, x3, x4, x5, x6, rfl, B, hlen, htot⟩ hc
    have hcl₁ := B.le _ _ hcl
    have hn₁ := B.le _ _ hn
    refine seq fun R hR => ?_
    walk_at "ug"
    refine okP (itemL_ok (by omega) (by rw [lc]; omega) (by omega)) ?_
    have e0 : pick (cs.map .int) (k : Int) = .int (cs.getD k 0) := pick_map AV.int 0 (by omega) (by omega)
    rw [e0]
    walk_at "ug"
    refine s_mixed TA _ _ (hR _ _ (seq fun R hR => ?_))
    walk_at "ug"
    refine hR _ _ (seq fun R hR => ?_)
    match st, B, hlen, htot with
    | [], _, hlen, _ => exact absurd hlen.1 (by decide)
    | x :: r, B, hlen, htot =>
      have hl := B.lst
      obtain ⟨Ax, Ar⟩ := B.stk
      have hfx := Ax.fr
      rw [List.map_cons, List.reverse_cons] at hl
      have hln : ((r.map fun x => AV.ref x.f).reverse ++ [AV.ref x.f]).length = r.length + 1 := by rw [List.length_append, List.length_reverse, List.length_map]; rfl
      simp only [List.length_cons] at hlen
      walk_at "ug"
      refine okP itemL_last (hR _ _ (last (iffI fun A C hA hC => ?_)))
      walk_at "ug"
      refine wifd (fun hz => hA _ (last ?_)) fun hz => hC _ (last (iffI fun A C hA hC => ?_))
      rcases Ax.p with hxp | hxp
      · rw [hxp] at hfx
        obtain ⟨v, hv, rv⟩ := Ax.r2
        walk_at "ug"
        refine okP (itemL_mod (by decide) (by omega) (by omega)) ?_
        obtain ⟨kn, hkn⟩ : ∃ kn, pick (ns.map .str) (Int.fmod (Int.fdiv (mixI (cs.getD k 0) k) 12) 5) = .str kn := ⟨_, pick_map AV.str [] (fmod_lo _ (by decide)) (by rw [h9]; have := fmod_hi (Int.fdiv (mixI (cs.getD k 0) k) 12) (b := 5) (by decide); omega)⟩
        rw [hkn]
        walk_at "ug"
        refine s_sum TA (by omega) _ [] hn₁ (by omega) (by omega) (fdiv_lo (fdiv_lo (mixI_lo _ _) (by decide)) (by decide)) fun m u σ₂ l₂ hu0 hu hm => ?_
        walk_at "ug"
        refine newO fun t σ₃ ht l₃ ht₃ => ?_
        have l₂₃ := l₂.trans l₃
        have hv₃ := l₂₃ _ _ hv
        have hvl := rv.len
        walk_at "ug"
        refine ⟨by simp only [tot] at htot; omega, setO fun σ₄ h₄ k₄ => ?_⟩
        refine hc _ _ ⟨_, _, _, _, _, rfl, B.ext2 (tr := .set kn m .nil) l₂₃ hv rv ⟨t, u, [], rfl, ⟨ht₃, B.alloc _ (none_le l₂ ht)⟩, ⟨l₃ _ _ hu, B.alloc _ hu0⟩, rfl⟩ ⟨⟨[], _, hm⟩, trivial⟩ h₄ k₄, hlen, ?_⟩
        simp only [tot, app_sz, Tr.sz] at htot ⊢; omega
      · rw [hxp] at hfx
        obtain ⟨v, hv, rv⟩ := Ax.r3
        walk_at "ug"
        refine okP (itemL_mod (by decide) (by omega) (by omega)) ?_
        obtain ⟨kn, hkn⟩ : ∃ kn, pick (ns.map .str) (Int.fmod (Int.fdiv (mixI (cs.getD k 0) k) 12) 5) = .str kn := ⟨_, pick_map AV.str [] (fmod_lo _ (by decide)) (by rw [h9]; have := fmod_hi (Int.fdiv (mixI (cs.getD k 0) k) 12) (b := 5) (by decide); omega)⟩
        rw [hkn]
        walk_at "ug"
        refine s_sum TA (by omega) _ [] hn₁ (by omega) (by omega) (fdiv_lo (fdiv_lo (mixI_lo _ _) (by decide)) (by decide)) fun m u σ₂ l₂ hu0 hu hm => ?_
        walk_at "ug"
        refine newO fun t σ₃ ht l₃ ht₃ => ?_
        have l₂₃ := l₂.trans l₃
        have hv₃ := l₂₃ _ _ hv
        have hvl := rv.len
        walk_at "ug"
        refine ⟨by simp only [tot] at htot; omega, setO fun σ₄ h₄ k₄ => ?_⟩
        refine hc _ _ ⟨_, _, _, _, _, rfl, B.ext3 (tr := .set kn m .nil) l₂₃ hv rv ⟨t, u, [], rfl, ⟨ht₃, B.alloc _ (none_le l₂ ht)⟩, ⟨l₃ _ _ hu, B.alloc _ hu0⟩, rfl⟩ ⟨⟨[], _, hm⟩, trivial⟩ h₄ k₄, hlen, ?_⟩
        simp only [tot, app_sz, Tr.sz] at htot ⊢; omega
      · walk_at "ug"
        have third : C σ₁ := by
          refine hC _ (last (iffI fun A C hA hC => ?_))
          walk_at "ug"
          rw [hln]
          refine wifd (fun hz => hA _ (last ?_)) fun hz => hC _ (hc _ _ ⟨_, _, _, _, _, rfl, B, by simpa using hlen, by omega⟩)
          match r, B, hlen, htot, hz with
          | [], _, _, _, hz => exact absurd hz (by decide)
          | w :: r, B, hlen, htot, hz =>
            walk_at "ug"
            simp only [List.length_cons] at hlen
            exact s_close TA T (by omega) B (by omega) hn h9 (by omega) fun st σ₂ B₂ h1 h2 h3 h4 => hc _ _ ⟨st, _, _, _, _, rfl, B₂, ⟨h1, by omega⟩, by omega⟩
        refine wifd (fun hz => ?_) fun hz => ?_
        · walk_at "ug"
          rw [hln]
          refine wifd (fun hz' => hA _ (last ?_)) fun _ => third
          walk_at "ug"
          refine newO fun p σ₂ hp l₂ hp' => ?_
          walk_at "ug"
          refine okP (itemL_mod (by decide) (by decide) (by decide)) ?_
          obtain ⟨kn, hkn⟩ : ∃ kn, pick [.str [105, 102], .str [119, 104, 105, 108, 101]] (Int.fmod (Int.fdiv (mixI (cs.getD k 0) k) 12) 2) = .str kn := by
            have p1 := fmod_lo (Int.fdiv (mixI (cs.getD k 0) k) 12) (b := 2) (by decide)
            have p2 := fmod_hi (Int.fdiv (mixI (cs.getD k 0) k) 12) (b := 2) (by decide)
            generalize Int.fmod (Int.fdiv (mixI (cs.getD k 0) k) 12) 2 = j at p1 p2
            obtain rfl | rfl : j = 0 ∨ j = 1 := by omega
            · exact ⟨_, rfl⟩
            · exact ⟨_, rfl⟩
          rw [hkn]
          walk_at "ug"
          refine newO fun a2 σ₃ ha2 l₃ ha2' => ?_
          walk_at "ug"
          refine newO fun a3 σ₄ ha3 l₄ ha3' => ?_
          walk_at "ug"
          refine newO fun af σ₅ haf l₅ haf' => ?_
          have m3 := l₂.trans l₃
          have m4 := m3.trans l₄
          have m5 := m4.trans l₅
          have hl₅ := m5 _ _ hl
          walk_at "ug"
          refine setO fun σ₆ h₆ k₆ => ?_
          refine hc _ _ ⟨_, _, _, _, _, rfl, B.push (kd := kn) (num := Int.fdiv (Int.fdiv (mixI (cs.getD k 0) k) 12) 2) m5 (none_le m4 haf) (none_le l₂ ha2) (none_le m3 ha3) (ne_of (l₄ _ _ ha2') haf).symm (ne_of ha3' haf).symm (ne_of ha2' ha3) haf' ((l₄.trans l₅) _ _ ha2') (l₅ _ _ ha3') (fdiv_lo (fdiv_lo (mixI_lo _ _) (by decide)) (by decide)) (by rw [h₆, List.map_cons, List.reverse_cons]) k₆, ⟨by simp only [List.length_cons]; omega, by simp only [List.length_cons]; omega⟩, ?_⟩
          simp only [tot, Tr.sz] at htot ⊢; omega
        · rw [decide_eq_false hz]
          exact third
  · clear hG hcl₄ B₀ L2 L3 L4
    rintro ρ σ₅ ⟨st, x3, x4, x5, x6, rfl, B, hlen, htot⟩
    refine hR₀ _ _ (seq fun R hR => ?_)
    have hme := meas_le st
    refine ⟨fun m ρ σ' => ∃ st, ρ = [some (.ref cl), some (.ref nl), some (.ref fl), x3, x4, x5, x6] ∧ Bld σ σ' fl st ∧ (1 ≤ st.length ∧ st.length ≤ 4) ∧ m = meas st ∧ tot st + 3 * meas st ≤ 200, ⟨_, st, rfl, B, hlen, rfl, by omega⟩, ?_⟩
    rintro m ρ σ₆ ⟨st, rfl, B, hlen, rfl, hz⟩
    match st, B, hlen, hz with
    | [], _, hlen, _ => exact absurd hlen.1 (by decide)
    | [x], B, hlen, hz =>
      have hl : σ₆ fl = some (.list [.ref x.f]) := B.lst
      obtain ⟨Ax, _⟩ := B.stk
      have hfx := Ax.fr
      obtain ⟨v, hv, rv⟩ := Ax.r2
      walk_at "ug"
      refine hR _ _ (last ?_)
      walk_at "ug"
      exact hq x.l2 v x.t2 σ₆ B.le (B.new _ (.tail _ (by rw [List.flatMap_cons]; exact List.mem_append_left _ (.tail _ (.head _))))) hv rv.rep Ax.o2 (by simp only [tot] at hz; omega)
    | x :: w :: r, B, hlen, hz =>
      have hl := B.lst
      have hln : (AV.ref x.f :: AV.ref w.f :: r.map fun x => AV.ref x.f).reverse.length = r.length + 2 := by rw [List.length_reverse, List.length_cons, List.length_cons, List.length_map]
      simp only [List.length_cons] at hlen
      walk_at "ug"
      rw [hln]
      refine wifd (fun _ => last ?_) fun q => absurd q (by omega)
      walk_at "ug"
      have hm2 := meas_le (x :: w :: r)
      exact s_close TA T (by omega) B (by omega) hn h9 (by omega) fun st σ₂ B₂ h1 h2 h3 h4 => ⟨meas st, by omega, st, rfl, B₂, ⟨h1, by omega⟩, rfl, by omega⟩
end
end U11
namespace U11
open U PySem
set_option linter.unusedSimpArgs false
set_option linter.unusedVariables false
set_option linter.unusedSectionVars false
theorem fold_len (bs : Bx) : ∀ (ks : List Txt) (acc : Bx), (ks.foldl (lfS bs) acc).length ≤ acc.length + ks.length
  | [], acc => Nat.le_refl _
  | k :: ks, acc => by
    have h1 := fold_len bs ks (lfS bs acc k)
    have h2 := lfS_len bs acc k
    rw [List.foldl_cons, List.length_cons]; omega
theorem lf_len (bs : Bx) : (lf bs).length ≤ bs.length := by
  have := fold_len bs (bs.map (·.1)) []
  rw [List.length_map, List.length_nil] at this
  unfold lf; omega
noncomputable def tab11 : List (String × Fn) := tabA ++ (tabB ++ (tabC ++ (tabE ++ (tabN ++ (tabS ++ (tabW ++ (tabQ ++ (tabK ++ tabM))))))))
theorem Tab.l {K : Kx} {a b : List (String × Fn)} (T : Tab K (a ++ b)) : Tab K a := ⟨fun n f h => T.ent n f (List.mem_append_left _ h)⟩
theorem Tab.r {K : Kx} {a b : List (String × Fn)} (T : Tab K (a ++ b)) : Tab K b := ⟨fun n f h => T.ent n f (List.mem_append_right _ h)⟩
theorem law11 {K : Kx} (T : Tab K tab11) (C : Kc K cts11 ["Long"]) {d : Nat} {σ : Hp} {l : Addr} {xs : List Int} (hd : 20 ≤ d) (hl : xs.length ≤ 63) (h : σ l = some (.flist (xs.map .int))) :
    pSs K false d f_law.body (args1 f_law.names [.ref l]) σ (fun _ _ => AV.none = .bool true) (fun v _ => v = .bool true) (fun _ _ _ => False) := by
  have TA := U11.Tab.l T
  have U1 := U11.Tab.r T
  have TB := U11.Tab.l U1
  have U2 := U11.Tab.r U1
  have TC := U11.Tab.l U2
  have U3 := U11.Tab.r U2
  have TE := U11.Tab.l U3
  have U4 := U11.Tab.r U3
  have TN := U11.Tab.l U4
  have U5 := U11.Tab.r U4
  have TS := U11.Tab.l U5
  have U6 := U11.Tab.r U5
  have TW := U11.Tab.l U6
  have U7 := U11.Tab.r U6
  have TQ := U11.Tab.l U7
  have U8 := U11.Tab.r U7
  have TK := U11.Tab.l U8
  have TM := U11.Tab.r U8
  clear U1 U2 U3 U4 U5 U6 U7 U8
  have P := Kp.of C
  have htl : tooLong = 1000000 := rfl
  have hxl : (xs.map AV.int).length = xs.length := List.length_map _
  clear T C
  simp only [f_law, args1, List.map_cons, List.map_nil, List.length_cons, List.length_nil, List.cons_append, List.nil_append, List.replicate, Nat.reduceAdd, Nat.reduceSub]
  refine seq fun R hR => ?_
  walk_at "ug"
  refine s_cell_at TA 0 h hl ?_
  walk_at "ug"
  refine s_plain_names TN _ fun nl ns σ₁ l₁ _ hn h9 => hR _ _ ?_
  replace h := l₁ _ _ h
  clear hR l₁
  refine seq fun R hR => ?_
  walk_at "ug"
  refine s_cell_at TA 1 h hl ?_
  walk_at "ug"
  refine s_boxes TA TE (by omega) _ hn (by omega) (by omega) fun a bs σ₂ l₂ _ ha hsm hbl _ hnd => hR _ _ ?_
  replace h := l₂ _ _ h
  replace hn := l₂ _ _ hn
  clear hR l₂
  refine seq fun R hR => ?_
  walk_at "ug"
  refine ⟨⟨by simp, by rw [hxl]; omega⟩, newO fun cl σ₃ _ l₃ hcl => ?_⟩
  replace h := l₃ _ _ h
  replace hn := l₃ _ _ hn
  replace ha := l₃ _ _ ha
  clear l₃
  rw [cut_mid _ (by decide) (by decide), ← List.map_take, ← List.map_drop] at hcl
  walk_at "ug"
  refine s_rows TA TM (by omega) hn h9 hcl (by rw [List.length_drop, List.length_take]; show min 35 _ - 3 ≤ 32; omega) fun rl va tr σ₄ l₄ _ hrl hrep hok hsz => hR _ _ ?_
  replace h := l₄ _ _ h
  replace ha := l₄ _ _ ha
  clear hR l₄ hcl hn
  refine seq fun R hR => ?_
  walk_at "ug"
  refine s_copied TQ tr (F := fun _ => True) hok (by omega) (by omega) hrl (.of hrep) (fun _ _ => trivial) fun c vc σ₅ l₅ _ hc hrc => ?_
  replace hrc := hrc.rep
  replace h := l₅ _ _ h
  replace ha := l₅ _ _ ha
  replace hrl := l₅ _ _ hrl
  replace hrep := hrep.ks (U11.Le.ks l₅)
  clear l₅
  walk_at "ug"
  refine ⟨by rw [dI_length]; omega, newO fun a' σ₆ ha'0 l₆ ha' => ?_⟩
  have nea : a' ≠ a := fun q => by rw [q, ha] at ha'0; cases ha'0
  walk_at "ug"
  refine newO fun hh σ₇ _ l₇ hhh => hR _ _ ?_
  have L7 := l₆.trans l₇
  replace h := L7 _ _ h
  replace ha := L7 _ _ ha
  replace ha' := l₇ _ _ ha'
  replace hrl := L7 _ _ hrl
  replace hc := L7 _ _ hc
  replace hrep := hrep.ks (U11.Le.ks L7)
  replace hrc := hrc.ks (U11.Le.ks L7)
  clear hR L7 l₆ l₇ ha'0
  have fit : ∀ {M : Nat}, M ≤ 120 → Fit bs M := fun hM => ⟨hsm, by omega⟩
  refine seq fun R hR => ?_
  walk_at "ug"
  refine s_told TC TS (M := 120) hok (fit (Nat.le_refl _)) (by omega) hrl hrep ha fun t r σ₈ l₈ _ _ ht _ => ?_
  have i0 := (run_fit (120 + 1) hok (fit (Nat.le_refl 120)) (by decide)).2.1
  obtain ⟨S, hS, hS1⟩ : ∃ S : Int, ((120 : Nat) : Int) - ((run (120 + 1) tr bs 120).2.2 : Nat) = S ∧ 0 ≤ S ∧ S ≤ 120 := ⟨_, rfl, by omega, by omega⟩
  rw [hS] at ht
  clear hS i0
  replace h := l₈ _ _ h
  replace ha := l₈ _ _ ha
  replace ha' := l₈ _ _ ha'
  replace hrl := l₈ _ _ hrl
  replace hc := l₈ _ _ hc
  replace hhh := l₈ _ _ hhh
  replace hrep := hrep.ks (U11.Le.ks l₈)
  replace hrc := hrc.ks (U11.Le.ks l₈)
  clear l₈
  walk_at "ug"
  refine hR _ _ (seq fun R hR => ?_)
  walk_at "ug"
  refine s_cell_at TA 2 h hl (hR _ _ ?_)
  clear hR ht
  generalize xs.getD 2 0 = cell
  refine seq fun R hR => forI fun G hG => ?_
  walk_at "ug"
  refine newO fun p σ₉ _ l₉ hp => ?_
  walk_at "ug"
  refine okP (itemL_mod (by decide) (by show (3 : Int) ≤ 3; decide) (by show 3 < tooLong; decide)) ?_
  obtain ⟨M, hM, hM2⟩ : ∃ M : Nat, pick [.int S, .int (if 0 < S - 1 then S - 1 else 0), .int (Int.fmod (Int.fdiv cell 3) 120)] (Int.fmod cell 3) = .int (M : Int) ∧ M ≤ 120 := by
    have p1 := fmod_lo cell (b := 3) (by decide)
    have p2 := fmod_hi cell (b := 3) (by decide)
    have q1 := fmod_lo (Int.fdiv cell 3) (b := 120) (by decide)
    have q2 := fmod_hi (Int.fdiv cell 3) (b := 120) (by decide)
    generalize Int.fmod cell 3 = j at p1 p2
    generalize Int.fmod (Int.fdiv cell 3) 120 = e at q1 q2
    obtain rfl | rfl | rfl : j = 0 ∨ j = 1 ∨ j = 2 := by omega
    · exact ⟨S.toNat, congrArg AV.int (by show S = _; omega), by omega⟩
    · refine ⟨(if 0 < S - 1 then S - 1 else 0).toNat, ?_, by split <;> omega⟩
      refine congrArg AV.int ?_
      show (if 0 < S - 1 then S - 1 else 0) = _
      split <;> omega
    · exact ⟨e.toNat, congrArg AV.int (by show e = _; omega), by omega⟩
  rw [hM]
  walk_at "ug"
  refine newO fun ml σ₀ _ l₀ hml => ?_
  have L0 := l₉.trans l₀
  replace h := L0 _ _ h
  replace ha := L0 _ _ ha
  replace ha' := L0 _ _ ha'
  replace hrl := L0 _ _ hrl
  replace hc := L0 _ _ hc
  replace hhh := L0 _ _ hhh
  replace hrep := hrep.ks (U11.Le.ks L0)
  replace hrc := hrc.ks (U11.Le.ks L0)
  clear L0 l₉ l₀ hp hM
  walk_at "ug"
  refine hG _ _ _ (for_list (g := .keep ml (.list [.int 120, .int (M : Int), .int 120])) (fun m : Nat => AV.int (m : Int)) (fun rest ρ σ' => (∀ m ∈ rest, m ≤ 120) ∧ Le σ₀ σ' ∧ ∃ x y, ρ = [some (.ref l), some (.ref nl), some (.ref a), some (.ref rl), some (.ref hh), some (.int S), some (.int cell), x, y]) (fun _ _ _ ⟨_, l, _⟩ => l _ _ hml) ?_ ?_ [120, M, 120] _ _ ⟨by simp; omega, Le.refl _, _, _, rfl⟩)
  · clear hG hR
    rintro m rest ρ σ₁ k ⟨hm, l₁, x, y, rfl⟩ hk
    have hmm := hm m (.head _)
    have hhh₁ := l₁ _ _ hhh
    refine seq fun R hR => ?_
    walk_at "ug"
    refine s_plain_run P TB TW hok (fit hmm) (by omega) (l₁ _ _ hc) (hrc.ks (U11.Le.ks l₁)) (l₁ _ _ ha') fun t r σ₂ l₂ ht0 hr0 ht hr => hR _ _ ?_
    refine seq fun R hR => iffI fun A B hA hB => ?_
    have L2 := l₁.trans l₂
    walk_at "ug"
    refine s_told TC TS hok (fit hmm) (by omega) (L2 _ _ hrl) (hrep.ks (U11.Le.ks L2)) (L2 _ _ ha) fun t' r' σ₃ l₃ ht0' hr0' ht' hr' => ?_
    have hne : r ≠ r' := ne_of hr hr0'
    have hlf : (lf (run (m + 1) tr bs m).2.1).length < 1000 := by
      have h1 := lf_len (run (m + 1) tr bs m).2.1
      have h2 := (run_fit (m + 1) hok (fit hmm) (Nat.lt_succ_self m)).1.len
      omega
    walk_at "ug"
    refine s_alike TA TK (by omega) (l₃ _ _ ht) ht' (l₃ _ _ hr) hr' hne hlf fun σ₄ l₄ => ?_
    walk_at "ug"
    refine hB _ (hR _ _ (last ?_))
    have L4 := L2.trans (l₃.trans l₄)
    have ht₄ := (l₃.trans l₄) _ _ ht
    have hr₄ := (l₃.trans l₄) _ _ hr
    walk_at "ug"
    refine ⟨by rw [dI_length]; omega, setN L4 (none_le l₁ hr0) fun σ₅ _ l₅ _ => ?_⟩
    exact hk _ _ ⟨fun m' h' => hm m' (.tail _ h'), l₅, _, _, rfl⟩
  · rintro ρ σ₁ ⟨_, l₁, x, y, rfl⟩
    refine hR _ _ (last ?_)
    walk_at "ug"
    refine newO fun q σ₂ hq l₂ hq' => ?_
    have L2 := l₁.trans l₂
    have hh2 := L2 _ _ hhh
    obtain ⟨e1, e2⟩ := rep_eq (n := 97) hok (hrc.ks (U11.Le.ks L2)) (hrep.ks (U11.Le.ks L2)) (by decide)
    refine ⟨true, .lists (ne_of (l₁ _ _ hhh) hq) hh2 hq' rfl rfl rfl rfl rfl (.cons (b := true) (r := true) (.plain (eq_list (L2 _ _ hc) (L2 _ _ hrl) e1 e2)) (.cons (b := true) (r := true) (.maps nea (L2 _ _ ha') (L2 _ _ ha) rfl rfl rfl (eqD_self hnd fun _ h => h)) .nil)), rfl⟩
end U11
namespace U11
open U PySem PySem.W PyProof.Rows
set_option maxRecDepth 100000
set_option maxHeartbeats 8000000
set_option Elab.async false
noncomputable def vals11 : List (Str × GK) := [("ROUND", .val (.int 1000000))]
theorem goal : PySem.Challenge.rw_uf010008_11.Holds := by
  w_on; o_law; o_head (tupHook []); (case hw => w_witness2)
  intro w s₀ s₁ mg mb G Y fa o pm cd doc dV kV ho hd hcd hD hmg hg args vals as hpre hlay hrd hwl hlo
  have T := Ground.T G
  have TE := Ground.TE G
  clear hd hcd hD
  wrow_args hpre hlay hrd hwl hlo
  refine enter_call ?_
  refine codeAny_mono ?_ (fun _ _ g => GoodW.toG g)
  refine law_end (D := 560) (b := ⟨_, _, fns11, vals11, [], cts11, ["Long"]⟩) (cs := []) (fn := f_law) (tab := tab11) ⟨T, TE, ?hg, nofun⟩ ?ht nofun (by simp) hg ?hrc rfl hmg (by assumption) (by decide) (fun T C h1 h2 => law11 T C (by decide) (by omega) h1) ?hR
  case hg => kernel_rfl
  case hrc => kernel_rfl
  case ht => kernel_rfl
  case hR =>
    intro s' h1 h2 h3
    refine ⟨.inl ⟨_, .bool true, [], rfl, raisesW_false ?_, .bool true, ?_, unshared_nil⟩, h1, h2, h3⟩
    · wrow_none_raised
    · wrow_post
end U11
theorem PySem.Challenge.cw_uf010008_11_holds : PySem.Challenge.rw_uf010008_11.Holds := by
  exact U11.goal
