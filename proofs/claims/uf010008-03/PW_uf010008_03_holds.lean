import PyProof.Rows.All
import PyProof.Calls
import PyProof.Ns1
import PyProof.Seq
import PyProof.AttrMissHeap
import PyProof.FString
import PyProof.SliceList
import PyProof.ForAny
import PyProof.Cells
import PyProof.StrWalks
import PyProof.CompFree
import PyProof.DictKinds
import PyProof.DictList
import PyProof.DictIter
import PyProof.DictTable
import PyProof.DictWalks
import PyProof.EnumStmt
import PyProof.EqAt
import PyProof.EqKinds
import PyProof.NeKinds
import PyProof.IsiBase
import PyProof.ExcClass2
import PyProof.ExcBaseAll.Exception
import PyProof.ExcBaseAll.ValueError
import PyProof.ExcAttrAll.ValueError
import PyProof.ExcInit
import PyProof.StationsW
import PyProof.WalksMore
import PyProof.RangeFor
import PyProof.InstStoreFacts
import PyProof.IsiTupleOf
import PyProof.LetGo
import PyProof.ListCopy
import PyProof.ListMulRoad
import PyProof.MaxThree
import PyProof.RulesDel
import PyProof.Rows.OwnQ
import PyProof.Rows.CatchOwn
import PyProof.Rows.CatchBare
import PyProof.Rows.Chain
import PyProof.Rows.Nodes
import PyProof.StrBlock2
import PyProof.Rows.StrTemp
import PyProof.Rows.ListMulCarried
import PyProof.Rows.RuleN_isinstance
import PyProof.Rows.TupMore
import PyProof.Rows.SumAny
import PyProof.Rows.PlainObj
import PyProof.Rows.PlainNoArg
import PyProof.Rows.ExtendIn
import ObjForm.Fk.InstStore
import ObjForm.Fk.ObjNew
import ObjForm.Fk.InstLoad
import Open.Line
import KE.KDictOf
import Wide.FinOn
import Wide.All
import PySem.Challenge.RW_uf010008_03
set_option Elab.async false
set_option linter.all false
set_option tactic.hygienic false
open List (map_cons lookup_cons any_cons cons_append range_succ_eq_map filterMap_cons filterMap_map map_map all_eq_true map_nil length_cons length_nil all_cons all_map mem_cons length_map mem_singleton length_range take_nil size_toArray length_take length_append nodup_cons of_mem_zip drop_nil append_nil mem_map contains_cons any_eq_true getElem_mem replicate_succ flatten_cons contains_iff_mem mem_flatMap mem_append mem_append_right mem_append_left not_mem_nil append_assoc mem_of_mem_take length_drop length_singleton map_append map_take flatMap_cons nodup_append reverse_cons length_reverse mem_map_of_mem)
set_option genInjectivity false
set_option genSizeOf false
namespace U
open PySem
set_option genSizeOf false
set_option genInjectivity true in
inductive AV where
 | none
 | bool (b:Bool)
 | int (i:Int)
 | str (s:List Nat)
 | ref (a:Addr)
abbrev Txt:=List Nat
set_option genInjectivity false in
inductive AO where
 | list (vs:List AV)
 | tup (vs:List AV)
 | dict (es:List (Txt×AV))
 | flist (vs:List AV)
 | fdict (es:List (Txt×AV))
 | inst (c:String) (d:Addr)
 | attrs (es:List (Txt×AV))
 | exc (c:String) (d:Option Addr)
abbrev Hp:=Addr->Option AO
abbrev Loc:=List (Option AV)
abbrev Post:=AV->Hp->Prop
abbrev XPost:=Addr->Hp->Prop
abbrev SPost:=Loc->Hp->Prop
abbrev SX:=Loc->Addr->Hp->Prop
noncomputable def setH(Z:Hp)(a:Addr)(o:AO):Hp:=λ b=>if b=a then some o else Z b
noncomputable def dset(es:List (Txt×AV))(k:Txt)(v:AV):List (Txt×AV):=
 if es.any (λ e=>e.1==k) then es.map (λ e=>if e.1==k then (e.1,v) else e) else es++[(k,v)]
noncomputable def tooLong:Nat:=1000000
set_option genInjectivity false in
structure Kx where
 fn:Bool->Nat->String->List AV->Hp->Post->XPost->Prop
 att:String->Txt->Prop
 mth:String->Txt->String->Prop
 exc:String->Prop
 xat:String->Txt->Prop
 xin:String->String->Prop
 isx:String->String->Bool->Prop
noncomputable def AV.scal:AV->Bool
 | .ref _=>false
 | _=>true
noncomputable def b2i(b:Bool):Int:=match b with
 | true=>1
 | false=>0
noncomputable def eqS:AV->AV->Bool
 | .none,.none=>true
 | .bool a,.bool b=>a==b
 | .int a,.int b=>a==b
 | .int a,.bool b=>a==b2i b
 | .bool a,.int b=>b2i a==b
 | .str s,.str t=>s==t
 | _,_=>false
noncomputable def AO.kind:AO->Nat
 | .list _ | .flist _=>1
 | .tup _=>2
 | .dict _ | .fdict _=>3
 | _=>0
noncomputable def AO.seq?:AO->Option (List AV)
 | .list vs | .flist vs | .tup vs=>some vs
 | _=>none
noncomputable def AO.map?:AO->Option (List (Txt×AV))
 | .dict es | .fdict es=>some es
 | _=>none
inductive EqVs(R:AV->AV->Bool->Prop):List AV->List AV->Bool->Prop where
 | nil:EqVs R [] [] true
 | cons {x y xs ys b r}:R x y b->EqVs R xs ys r->EqVs R (x::xs) (y::ys) (b&&r)
inductive EqStep(Z:Hp)(R:AV->AV->Bool->Prop):AV->AV->Bool->Prop where
 | scal {x y}:x.scal=true->y.scal=true->EqStep Z R x y (eqS x y)
 | refL {a o y}:Z a=some o->o.kind=1\/o.kind=2->y.scal=true->EqStep Z R (.ref a) y false
 | refR {a o x}:Z a=some o->o.kind=1\/o.kind=2\/(o.kind=3/\∃ k,x=.str k)->x.scal=true->EqStep Z R x (.ref a) false
 | kinds {a b o p}:Z a=some o->Z b=some p->(o.kind=1/\p.kind=2)\/(o.kind=2/\p.kind=1)->EqStep Z R (.ref a) (.ref b) false
 | same {a o}:Z a=some o->o.kind=1\/o.kind=2->EqStep Z R (.ref a) (.ref a) true
 | lens {a b o p xs ys}:a≠b->Z a=some o->Z b=some p->o.kind=p.kind->o.seq?=some xs->p.seq?=some ys->xs.length≠ys.length->(o.kind=1\/xs=[]\/ys=[])->EqStep Z R (.ref a) (.ref b) false
 | seqs {a b o p xs ys r}:a≠b->Z a=some o->Z b=some p->o.kind=p.kind->o.seq?=some xs->p.seq?=some ys->xs.length=ys.length->EqVs R xs ys r->EqStep Z R (.ref a) (.ref b) r
noncomputable def EqV(Z:Hp):Nat->AV->AV->Bool->Prop
 | 0=>EqStep Z λ V V V=>False
 | n+1=>EqStep Z (EqV Z n)
noncomputable def cut{α:Type}(xs:List α)(lo hi st:Option Int):List α:=
 (sliceRange (sliceBounds lo hi st xs.length).1 (sliceBounds lo hi st xs.length).2.1 (sliceBounds lo hi st xs.length).2.2).filterMap (xs[·]?)
noncomputable def kO(o:Option AO):Option String:=match o with
 | some (.list _) | some (.flist _)=>some "list"
 | some (.tup _)=>some "tuple"
 | some (.dict _) | some (.fdict _)=>some "dict"
 | _=>none
noncomputable def kindIs(Z:Hp):AV->Option String
 | .none=>some "NoneType"
 | .bool _=>some "bool"
 | .int _=>some "int"
 | .str _=>some "str"
 | .ref a=>kO (Z a)
noncomputable def isOf(k:String)(ts:List String):Bool:=ts.any λ t=>t==k||(t == "int" && k == "bool")
noncomputable def figs(i:Int):Txt:=(toString i).toList.map Char.toNat
noncomputable def joinT(sep:Txt):List Txt->Txt
 | []=>[]
 | [x]=>x
 | x::r=>x++sep++joinT sep r
set_option genInjectivity false in
inductive It where
 | one (v:AV)
 | two (a b:AV)
noncomputable def setAll:Loc->List Nat->List AV->Loc
 | ρ,i::is,v::vs=>setAll (ρ.set i (some v)) is vs
 | ρ,_,_=>ρ
set_option genInjectivity false in
inductive Gd where
 | no
 | keep (a:Addr) (o:AO)
noncomputable def gOk(g:Gd)(Z:Hp):Prop:=match g with
 | .no=>True
 | .keep a o=>Z a=some o
noncomputable def Gd.iced(_:Gd):Bool:=false
noncomputable def rangeOf(lo hi:Int):List It:=(List.range (hi-lo).toNat).map λ (k:Nat)=>It.one (.int (lo+(k:Int)))
noncomputable def enumOf(vs:List AV):List It:=(List.range vs.length).zipWith (λ (k:Nat) v=>It.two (.int (k:Int)) v) vs
noncomputable def maskL:List Bool->Loc->Loc
 | c::cs,v::vs=>(match c with | true=>v | false=>none)::maskL cs vs
 | _,_=>[]
end U
namespace U
open PySem PyProof.Rows PySem.W
noncomputable def vOf:Value->Option AV
 | .int i _=>some (.int i)
 | .str s _=>some (.str s.cps.toList)
 | _=>none
noncomputable def refOf:Value->Option Addr
 | .ref a=>some a
 | _=>none
noncomputable def seqOf:Data->Option (Array Value)
 | .seq vs _=>some vs
 | _=>none
noncomputable def adrB(h:Heap)(n:Str):Option Addr:=(h.nsMap mainGlobals n).bind refOf
noncomputable def tSeen(h:Heap)(n:Str):Option (Bool×List (Option AV)):=(adrB h n).bind λ a=>(h.get? a).bind λ o=>(seqOf o.data).map λ vs=>
 (decide (o.cls=.type "tuple")&&o.dict.isNone&&o.slots.size==0,vs.toList.map vOf)
noncomputable def dctOf:Data->Option (Array DictEntry)
 | .dict es _=>some es
 | _=>none
noncomputable def dSeen(h:Heap)(n:Str):Option (Bool×List (Int×Option AV×Option AV)):=(adrB h n).bind λ a=>(h.get? a).bind λ o=>(dctOf o.data).map λ es=>
 (decide (o.cls=.type "dict")&&o.dict.isNone&&o.slots.size==0&&!(a==sysModules),es.toList.map λ e=>(e.hash,vOf e.key,vOf e.val))
noncomputable def dVal(w:World)(es:List (Txt×AV)):Option (Bool×List (Int×Option AV×Option AV)):=some (true,es.map λ e=>(hashStr w ⟨e.1.toArray⟩,some (.str e.1),some e.2))
noncomputable def adr0(h:Heap)(n:Str):Addr:=(adrB h n).getD 0
noncomputable def cObs(ts:List (Str×List AV))(ds:List (Str×List (Txt×AV)))(s:Shared):Bool×List (Option (Bool×List (Option AV)))×List (Option (Bool×List (Int×Option AV×Option AV)))×Bool:=
 (s.heap.isNs mainGlobals,ts.map (λ c=>tSeen s.heap c.1),ds.map (λ c=>dSeen s.heap c.1),decide ((ts.map (·.1)++ds.map (·.1)).map (adr0 s.heap)).Nodup)
noncomputable def cVal(ts:List (Str×List AV))(ds:List (Str×List (Txt×AV)))(w:World):Bool×List (Option (Bool×List (Option AV)))×List (Option (Bool×List (Int×Option AV×Option AV)))×Bool:=
 (true,ts.map (λ c=>some (true,c.2.map some)),ds.map (λ c=>dVal w c.2),true)
end U
namespace U
open PySem PyProof.Rows PySem.W
noncomputable def xqn:List Str:=["__setattr__","__getattribute__","__getattr__","__class__"]
noncomputable def bmV0:List Value:=[.type "ValueError",.type "Exception",.type "BaseException",.type "object"]
noncomputable def xOk(h:Heap)(bm:List Value)(ns:List Str)(x:Addr×Obj×ClassData):Bool:=
 decide (x.2.1.cls=.type "type")&&decide (x.2.2.mro=.ref x.1::bm)&&!x.2.2.hasDel&&x.2.2.hasDict&&decide (x.2.1.slots.size=6)&&decide (x.2.1.slots[4]?=some (some (.builtin "ValueError.__new__")))&&h.isNs x.2.2.ns&&ns.all (λ n=>(h.nsMap x.2.2.ns n).isNone)
noncomputable def subOk(h:Heap)(ns:List Str)(u:Addr)(x:Str):Bool:=match h.clsAt mainGlobals x with
 | some c=>xOk h (.ref u::bmV0) ns c&&!(c.1==u)
 | none=>false
noncomputable def fSeen(h:Heap)(at' subs:List Str)(r:ClsRec×MethRec):Option (Bool×Option FnShape):=(h.clsAt mainGlobals r.1.name).map λ u=>
 (xOk h bmV0 (xqn++at') u&&(match h.fnAt u.2.2.ns r.2.name with | some (_,o,_)=>decide (o.cls=.type "function") | none=>false)&&subs.all (subOk h (xqn++at'++[r.2.name]) u.1)&&decide ((subs.map (adr0 h)).Nodup),h.shapeAt u.2.2.ns r.2.name)
noncomputable def xrec0(q:Program)(c:String):Option (ClsRec×MethRec):=(clsOf? q (Str.ofString c)).bind λ r=>(r.meths.find? λ m=>m.name==("__init__" : Str)).map λ m=>(r,m)
end U
namespace V3
open U PySem PySem.W PyProof.Rows
set_option maxRecDepth 100000
set_option maxHeartbeats 8000000
set_option Elab.async false
noncomputable def tups03:List (Str×List AV):=[("KEPT",[.str [98,108,111,99,107],.str [105,102],.str [101,108,115,101],.str [102,105],.str [102,114,111,109],.str [108,111,111,112],.str [117,110,116,105,108],.str [99,97,108,108],.str [117,110,100,111],.str [112,117,115,104],.str [112,117,108,108]]),("QUESTION_SIGNS",[.str [60],.str [61],.str [62,61],.str [33,61]]),("SUM_SIGNS",[.str [43],.str [45],.str [42],.str [60],.str [61],.str [62,61],.str [33,61]])]
noncomputable def dics03:List (Str×List (Txt×AV)):=[("LENGTHS",[([112,117,116],.int 4),([115,119,97,112],.int 3),([112,117,115,104],.int 2),([112,117,108,108],.int 2),([105,102],.int 5),([114,111,117,110,100],.int 5),([99,97,108,108],.int 2),([117,110,100,111],.int 2)])]
noncomputable def keep03(st:Stmt):Bool:=!(constNames [st]).contains ("__name__" : Str)
noncomputable def view03:Program:={ PySem.Challenge.pw_uf010008_03 with main:={ PySem.Challenge.pw_uf010008_03.main with body:=PySem.Challenge.pw_uf010008_03.main.body.filter keep03 } }
noncomputable def xt03(s:Shared):Bool:=xlAt view03 [] s&&recOk (RowW.records (OpenRow.toRowW PySem.Challenge.rw_uf010008_03.row)) s
noncomputable def subs03:List Str:=["BadProgram","BadRow","BadName","BadNumber","OwnBox","TooDeep","BadLine"]
theorem rec03s:(xrec0 view03 "UndoError").isSome=true:=by kernel_rfl
noncomputable def rec03:ClsRec×MethRec:=(xrec0 view03 "UndoError").get rec03s
noncomputable def At03(w:World):Prop:=(openEnds treeTable PySem.Challenge.rw_uf010008_03.row.prog w 5000).map (λ s=>(openSeen view03 ["LENGTHS"] (importedModules PySem.Challenge.rw_uf010008_03.row.prog.main.body) xt03 true s,cObs tups03 dics03 s,fSeen s.heap ["at"] subs03 rec03))=some (openGood view03 ["LENGTHS"],cVal tups03 dics03 w,some (true,some (rec03.2.shape rec03.1.name)))
theorem at_of{α β γ δ ε:Type}{o:Option α}{f:α->β×γ}{c:α->δ}{e:α->ε}{a:β×γ}{c':δ}{e':ε}(h1:o.map (λ s=>((f s).1,c s,e s))=some (a.1,c',e'))(h2:o.map (λ s=>(f s).2)=some a.2):o.map (λ s=>(f s,c s,e s))=some (a,c',e'):=by
 cases o with
 | none=>cases h1
 | some s=>
  have h1:((f s).1,c s,e s)=(a.1,c',e'):=Option.some.inj h1
  have e1:((f s).1,c s,e s).1=(a.1,c',e').1:=congrArg Prod.fst h1
  have e3:f s=a:=Prod.ext e1 (Option.some.inj h2)
  have e2:((f s).1,c s,e s).2=(a.1,c',e').2:=congrArg Prod.snd h1
  have e2:(c s,e s)=(c',e'):=e2
  show some (f s,c s,e s)=_
  rw [e3,e2]
noncomputable def At1(w:World):Prop:=(openEnds treeTable PySem.Challenge.rw_uf010008_03.row.prog w 5000).map (λ s=>((openSeen view03 ["LENGTHS"] (importedModules PySem.Challenge.rw_uf010008_03.row.prog.main.body) xt03 true s).1,cObs tups03 dics03 s,fSeen s.heap ["at"] subs03 rec03))=some ((openGood view03 ["LENGTHS"]).1,cVal tups03 dics03 w,some (true,some (rec03.2.shape rec03.1.name)))
noncomputable def At2(w:World):Prop:=(openEnds treeTable PySem.Challenge.rw_uf010008_03.row.prog w 5000).map (λ s=>(openSeen view03 ["LENGTHS"] (importedModules PySem.Challenge.rw_uf010008_03.row.prog.main.body) xt03 true s).2)=some (openGood view03 ["LENGTHS"]).2
theorem at1f:∀ w:World,At1 (w.withFollow "special-get-raises" false):=λ w=>by unfold At1;kernel_rfl
theorem at1t:∀ w:World,At1 (w.withFollow "special-get-raises" true):=λ w=>by unfold At1;kernel_rfl
theorem at2f:∀ w:World,At2 (w.withFollow "special-get-raises" false):=λ w=>by unfold At2;kernel_rfl
theorem at2t:∀ w:World,At2 (w.withFollow "special-get-raises" true):=λ w=>by unfold At2;kernel_rfl
theorem at03f:∀ w:World,At03 (w.withFollow "special-get-raises" false):=λ w=>at_of (at1f w) (at2f w)
theorem at03t:∀ w:World,At03 (w.withFollow "special-get-raises" true):=λ w=>at_of (at1t w) (at2t w)
theorem law03s:(defOf view03 "law").isSome=true:=by kernel_rfl
noncomputable def law03d:DefRec×List (Str×Expr):=(defOf view03 "law").get law03s
end V3
namespace U
set_option maxRecDepth 10000
inductive Qe where
 | v (i:Nat) | n (k:Nat) | a (x y:Qe) | m (k:Nat) (x:Qe)
inductive Qh where
 | i (s k:Nat) (a b:Qe) (r:Qh)
 | g (k:Nat) (a b:Qe)
 | h (k:Nat) (a b:Qe)
noncomputable def Y0:Qe:=.v 0
noncomputable def Y1:Qe:=.v 1
noncomputable def Y2:Qe:=.v 2
noncomputable def Y3:Qe:=.v 3
noncomputable def Y4:Qe:=.v 4
noncomputable def Y5:Qe:=.v 5
noncomputable def Y6:Qe:=.v 6
noncomputable def Y7:Qe:=.v 7
noncomputable def Y8:Qe:=.v 8
noncomputable def Y9:Qe:=.v 9
noncomputable def X0:Qe:=.n 0
noncomputable def X1:Qe:=.n 1
noncomputable def qat:List Nat->Nat->Nat
 | [],_=>0
 | a::l,n=>match n with
  | 0=>a
  | n+1=>qat l n
noncomputable def Qe.den(c:List Nat):Qe->Nat
 | .v i=>qat c i
 | .n k=>k
 | .a x y=>x.den c+y.den c
 | .m k x=>k*x.den c
noncomputable def qk(x y:Nat):Nat->Prop
 | 0=>x<=y
 | 1=>x<y
 | 2=>x=y
 | 3=>¬x<y
 | 4=>¬x<=y
 | _=>x=y
noncomputable def Qd(w:List Nat):Qh->Prop
 | .i s _ a b r=>qk (a.den w) (b.den w) s->Qd w r
 | .g _ a b=>a.den w<=b.den w
 | .h _ a b=>a.den w<b.den w
noncomputable def qpl(k:Nat):List Nat->List Nat
 | []=>[k]
 | b::l=>(b+k)::l
noncomputable def qput(k:Nat):Nat->List Nat->List Nat
 | 0,p=>qpl k p
 | i+1,p=>p.headD 0::qput k i p.tail
noncomputable def Qe.on(k:Nat):Qe->List Nat->List Nat
 | .v i,p=>qput k (i+1) p
 | .n j,p=>qpl (k*j) p
 | .a x y,p=>y.on k (x.on k p)
 | .m j x,p=>x.on (k*j) p
noncomputable def qle:List Nat->List Nat->Bool
 | [],_=>true
 | a::p,q=>Nat.ble a (q.headD 0)&&qle p q.tail
noncomputable def qs(s k:Nat)(a b:Qe)(p q:List Nat):List Nat×List Nat:=
 match s with
 | 0 | 2=>(b.on k p,a.on k q)
 | 1=>(b.on k p,qpl k (a.on k q))
 | 4=>(a.on k p,qpl k (b.on k q))
 | _=>(a.on k p,b.on k q)
noncomputable def Qh.chk:Qh->List Nat->List Nat->Bool
 | .i s k a b r,p,q=>r.chk (qs s k a b p q).1 (qs s k a b p q).2
 | .g k a b,p,q=>qle (a.on (k+1) p) (qpl k (b.on (k+1) q))
 | .h k a b,p,q=>qle (qpl 1 (a.on (k+1) p)) (b.on (k+1) q)
noncomputable def qev:List Nat->List Nat->Nat
 | [],_=>0
 | d::c,p=>p.headD 0*d+qev c p.tail
theorem qev0:∀ c,qev c []=0
 | []=>rfl
 | d::c=>(congrArg (0*d+·) (qev0 c)).trans (Nat.zero_mul d)
theorem qpl_ev(k d:Nat)(c p:List Nat):qev (d::c) (qpl k p)=qev (d::c) p+k*d:=by
 cases p with
 | nil=>exact (Nat.add_comm ..).trans (congrArg (·+k*d) ((qev0 c).trans (qev0 (d::c)).symm))
 | cons b l=>exact (congrArg (·+qev c l) (Nat.add_mul b k d)).trans (Nat.add_right_comm ..)
theorem qput_ev(k:Nat)(i:Nat):∀ p c,qev c (qput k i p)=qev c p+k*qat c i:=by
 induction i with
 | zero=>
  intro p c
  cases c with
  | nil=>rfl
  | cons d c=>exact qpl_ev k d c p
 | succ i ih=>
  intro p c
  cases c with
  | nil=>rfl
  | cons d c=>exact (congrArg (p.headD 0*d+·) (ih p.tail c)).trans (Nat.add_assoc ..).symm
theorem qon_ev(c:List Nat)(t:Qe):∀ k p,qev (1::c) (t.on k p)=qev (1::c) p+k*t.den c:=by
 induction t with
 | v i=>exact λ k p=>qput_ev k (i+1) p (1::c)
 | n j=>exact λ k p=>(qpl_ev (k*j) 1 c p).trans (congrArg _ (Nat.mul_one _))
 | a x y hx hy=>exact λ k p=>(hy k _).trans ((congrArg (·+k*y.den c) (hx k p)).trans ((Nat.add_assoc ..).trans (congrArg _ (Nat.mul_add ..).symm)))
 | m j x hx=>exact λ k p=>(hx _ p).trans (congrArg _ (Nat.mul_assoc ..))
theorem qle_ev(c:List Nat):∀ p q,qle p q=true->qev c p<=qev c q:=by
 induction c with
 | nil=>exact λ V V V=>Nat.le_refl 0
 | cons d c ih=>
  intro p q h
  cases p with
  | nil=>rw [qev0];exact Nat.zero_le _
  | cons a p=>exact Nat.add_le_add (Nat.mul_le_mul_right d (Nat.le_of_ble_eq_true (Bool.and_eq_true_iff.mp h).1)) (ih p q.tail (Bool.and_eq_true_iff.mp h).2)
theorem qle_k{k a b p q:Nat}(h:p+(k+1)*a<=q+(k+1)*b+k)(w:q<=p):a<=b:=Nat.not_lt.mp λ n=>
 Nat.not_succ_le_self _ (Nat.le_of_add_le_add_left (Nat.le_trans (Nat.add_le_add w (Nat.mul_le_mul_left (k+1) n)) (Nat.add_assoc q ..▸h)))
theorem qad{c:List Nat}{a b:Qe}{p q:List Nat}(k:Nat)(w:qev (1::c) q<=qev (1::c) p)(h:a.den c<=b.den c):qev (1::c) (a.on k q)<=qev (1::c) (b.on k p):=by
 rw [qon_ev,qon_ev];exact Nat.add_le_add w (Nat.mul_le_mul_left k h)
theorem qpu{c:List Nat}(k:Nat)(p:List Nat):qev (1::c) (qpl k p)=qev (1::c) p+k:=(qpl_ev k 1 c p).trans (congrArg _ (Nat.mul_one _))
theorem qat'{c:List Nat}{a b:Qe}{p q:List Nat}(k:Nat)(w:qev (1::c) q<=qev (1::c) p)(h:a.den c<b.den c):qev (1::c) (qpl k (a.on k q))<=qev (1::c) (b.on k p):=by
 rw [qpu,qon_ev,qon_ev,Nat.add_assoc];exact Nat.add_le_add w (Nat.mul_le_mul_left k h)
theorem qst{c:List Nat}{a b:Qe}{p q:List Nat}(k:Nat)(w:qev (1::c) q<=qev (1::c) p):∀ s,qk (a.den c) (b.den c) s->qev (1::c) (qs s k a b p q).2<=qev (1::c) (qs s k a b p q).1
 | 0,h=>qad k w h
 | 1,h=>qat' k w h
 | 2,h=>qad k w (Nat.le_of_eq h)
 | 3,h=>qad k w (Nat.le_of_not_lt h)
 | 4,h=>qat' k w (Nat.lt_of_not_le h)
 | _+5,h=>qad k w (Nat.le_of_eq h.symm)
theorem qlin(c:List Nat)(h:Qh):∀ p q,h.chk p q=true->qev (1::c) q<=qev (1::c) p->Qd c h:=by
 induction h with
 | i s k a b r ih=>exact λ p q o w h=>ih _ _ o (qst k w s h)
 | g k a b=>exact λ p q o w=>qle_k (k:=k) (by
   have:=qle_ev (1::c) _ _ o
   rw [qpu,qon_ev,qon_ev] at this
   exact this) w
 | h k a b=>exact λ p q o w=>qle_k (k:=k) (by
   have:=Nat.add_le_add_right (qle_ev (1::c) _ _ o) k
   rw [qpu,qon_ev,qon_ev,Nat.add_assoc,Nat.add_comm 1 k,Nat.add_assoc] at this
   exact this) w
theorem qli(c:List Nat)(h:Qh)(o:h.chk [] []=true):Qd c h:=qlin c h [] [] o (Nat.le_refl _)
theorem onz{k a:Nat}(h:k<a):a≠0:=λ e=>Nat.not_lt_zero k (e▸h)
theorem osb{k n a:Nat}(h:n<a)(e:Nat.ble (k+1) n=true):k<a-1:=Nat.lt_sub_of_add_lt (Nat.lt_of_le_of_lt (Nat.le_of_ble_eq_true e) h)
theorem oe{a b n:Nat}(e:b=1000000)(h:a<=n)(k:Nat.ble (n+1) 1000000=true):a<b:=e▸Nat.lt_of_le_of_lt h (Nat.le_of_ble_eq_true k)
theorem otl{a:Int}{b:Nat}(h:a<b)(p:0<b):a.toNat<b:=by cases a with | ofNat n=>exact Int.ofNat_lt.mp h | negSucc n=>exact p
theorem le'{a b c:Nat}(h:b<=c)(h':a<=b):a<=c:=Nat.le_trans h' h
theorem sb{a b c d:Nat}(h:a-b<=c+1)(h':b+1<=d):a-d<=c:=Nat.le_trans (Nat.sub_le_sub_left h' a) (Nat.sub_add_eq a b 1▸Nat.sub_le_sub_right h 1)
theorem o1{a:Int}:(0:Int)<=a->¬a<(0:Int):=by intros;with_reducible exact Int.not_lt.mpr (by assumption)
theorem o2{a b c:Nat}:Qd [a,b,c] (.i 0 1 (.a Y0 (.a Y2 X1)) Y1 (.h 0 Y0 Y1)):=qli _ _ rfl
theorem o3{a b c:Nat}:Qd [a,b,c] (.i 0 1 (.a Y0 (.a Y1 X1)) Y2 (.g 0 (.a (.a Y0 X1) Y1) Y2)):=qli _ _ rfl
theorem o4{a b:Nat}:a+(b+1)=a+1+b:=Nat.le_antisymm (qli [a,b] (.g 0 (.a Y0 (.a Y1 X1)) (.a (.a Y0 X1) Y1)) rfl) (qli [a,b] (.g 0 (.a (.a Y0 X1) Y1) (.a Y0 (.a Y1 X1))) rfl)
theorem o5{x0 x1 x2 x3 x4:Nat}:x0=x3->x1=x4->x1<=x2->x0<=x1->x0+(x1-x0)<=x2:=λ V V h q=>Nat.le_trans (Nat.le_of_eq (Nat.add_sub_cancel' q)) h
theorem o6{x0 x1 x2 x3:Nat}:x0=x2->x1=x3->x0<=x1->x0+(x1-x0)=x1:=λ V V h=>Nat.add_sub_cancel' h
theorem o7{a b c d:Nat}:b=c->a=d->(¬b<=a)->a<=b:=by intros;(try subst_vars);with_reducible exact Nat.le_of_lt (Nat.lt_of_not_le (by assumption))
theorem o8{x0 x1 x2 x3 x4:Nat}:x2=x3->x0=x4->x0<=x1->(¬x2<=x0)->min x0 x1<=x2:=λ V V V n=>Nat.le_trans (Nat.min_le_left _ _) (Nat.le_of_lt (Nat.lt_of_not_le n))
theorem o9{x0 x1:Nat}:(0:Int)<=(↑x0:Int)->(max (0:Int) (min (↑x0:Int) (↑x1:Int))).toNat=min x0 x1:=λ V=>by rw [Int.max_eq_right (Int.le_min.mpr ⟨Int.natCast_nonneg _,Int.natCast_nonneg _⟩)];rcases Nat.le_total x0 x1 with h | h;rw [Int.min_eq_left (Int.ofNat_le.mpr h),Nat.min_eq_left h];rfl;rw [Int.min_eq_right (Int.ofNat_le.mpr h),Nat.min_eq_right h];rfl
theorem o10{x0:Nat}{x1:Int}{x2 x3:Nat}:x3=min x1.toNat x0->x0<=x1.toNat->x0<=min x1.toNat x0+x2:=λ V h=>by rw [Nat.min_eq_right h];exact Nat.le_add_right _ _
theorem o11{a:Nat}{b:Int}{c:Nat}:a<=b.toNat->a<=b.toNat+c:=by intros;with_reducible exact Nat.le_add_right_of_le (by assumption)
theorem o12{a:Int}{b:Nat}:(¬b<=a.toNat)->a.toNat<=b:=by intros;with_reducible exact Nat.le_of_lt (Nat.lt_of_not_le (by assumption))
theorem o13{a:Nat}{b:Int}{c:Nat}:(¬b.toNat+c<a)->a<=b.toNat+c:=by intros;with_reducible exact Nat.le_of_not_lt (by assumption)
theorem o14{a b:Nat}:a+0=b->a=b:=λ h0=>Nat.le_antisymm (qli [a,b] (.i 2 1 (.a Y0 X0) Y1 (.g 0 Y0 Y1)) rfl h0) (qli [a,b] (.i 5 1 (.a Y0 X0) Y1 (.g 0 Y1 Y0)) rfl h0)
theorem o15{a b c:Nat}:Qd [a,b,c] (.i 2 1 (.a Y0 (.a Y2 X1)) Y1 (.h 0 Y0 Y1)):=qli _ _ rfl
theorem o16{a b c:Nat}:a+(b+1)=c->a+1+b=c:=λ h0=>Nat.le_antisymm (qli [a,b,c] (.i 2 1 (.a Y0 (.a Y1 X1)) Y2 (.g 0 (.a (.a Y0 X1) Y1) Y2)) rfl h0) (qli [a,b,c] (.i 5 1 (.a Y0 (.a Y1 X1)) Y2 (.g 0 Y2 (.a (.a Y0 X1) Y1))) rfl h0)
theorem o17{a b:Nat}:(↑a:Int)+((↑b:Int)+(1:Int))=(↑a:Int)+(1:Int)+(↑b:Int):=congrArg Int.ofNat (Nat.add_right_comm a b 1)
theorem o18{a:Nat}:0+a=a:=by intros;(try subst_vars);with_reducible exact Nat.zero_add _
theorem o19{x0 x1 x2 x3 x4:Nat}:x2<x1->x3+(x4+1)=x2->x0<=x3->x0<x1:=λ a e h=>Nat.lt_of_le_of_lt (Nat.le_trans h (e▸Nat.le_add_right _ _)) a
theorem o20{x0 x1:Nat}:x1<x0->1<=x0-x1:=λ h=>Nat.sub_pos_of_lt h
theorem o21{x0:Int}{x1:Nat}:(0:Int)<=x0->x0<(↑x1:Int)->x0.toNat<x1:=λ h q=>(Int.toNat_lt h).mpr q
theorem o23{x0 x1 x2:Nat}:x0+(x1+1)<x2->x0+1+x1<x2:=λ h=>Nat.lt_of_le_of_lt (Nat.le_of_eq (Nat.add_right_comm x0 1 x1)) h
theorem o24{x0:Int}{x1 x2:Nat}:(0:Int)<=x0->x0<(↑x1:Int)->x1<x2->x2=(1000000:Nat)->x0.natAbs<(2:Nat) ^ (62:Nat):=λ h q r e=>by obtain ⟨n,rfl⟩:=Int.eq_ofNat_of_zero_le h;exact (Nat.lt_trans (Int.ofNat_lt.mp q) (Nat.lt_trans r (by rw [e];decide)):n<2 ^ 62)
theorem o27{a:Int}:(0:Int)<a->(0:Int)<=a:=by intros;with_reducible exact Int.le_of_lt (by assumption)
theorem o28{a b:Int}:(0:Int)<b->b<=(1000000:Int)->a<b->a<(1000000:Int):=by intros;with_reducible exact Int.lt_of_lt_of_le (by assumption) (by assumption)
theorem o29{a b c:Nat}:c<=63->b=1000000->a=c->a<b:=by intros;(try subst_vars);with_reducible exact Nat.lt_of_le_of_lt (by assumption) (by decide)
theorem o30{a b c:Nat}:c=b->(↑a:Int)<(↑c:Int)->(↑a:Int)<(↑b:Int):=by intros;(try subst_vars);assumption
theorem o31{x0 x1 x2:Nat}:x2=x0->(¬(↑x1:Int)<(↑x2:Int))->x0<=x1:=λ e h=>e▸Int.ofNat_le.mp (Int.not_lt.mp h)
theorem o32{x0:Nat}:(5:Nat)<=x0->x0<(1000000:Nat)->(5:Int)<=(↑x0:Int):=λ h V=>Int.ofNat_le.mpr h
theorem o33{x0:Int}{x1:Nat}:(5:Nat)<=x1->x1<(1000000:Nat)->x0<(5:Int)->(0:Int)<=x0->x0<(↑x1:Int):=λ a V h V=>Int.lt_of_lt_of_le h (Int.ofNat_le.mpr a)
theorem o34{x0:Int}:x0<(5:Int)->(0:Int)<=x0->x0.toNat<(5:Nat):=λ q p=>(Int.toNat_lt p).mpr q
theorem o35{x0:Int}{x1:Nat}:(5:Nat)<=x1->x1<(1000000:Nat)->x0<(5:Int)->(0:Int)<=x0->x0.toNat<min (5:Nat) x1:=λ h V q p=>Nat.lt_min.mpr ⟨(Int.toNat_lt p).mpr q,Nat.lt_of_lt_of_le ((Int.toNat_lt p).mpr q) h⟩
theorem o36{x0:Int}:x0<(4:Int)->(0:Int)<=x0->x0=(0:Int)\/x0=(1:Int)\/x0=(2:Int)\/x0=(3:Int):=λ q h=>by obtain ⟨m,rfl⟩:=Int.eq_ofNat_of_zero_le h;exact (by decide:∀ n<4,((n:Nat):Int)=0\/((n:Nat):Int)=1\/((n:Nat):Int)=2\/((n:Nat):Int)=3) m (Int.ofNat_lt.mp q)
theorem o37{x0:Int}:x0<(3:Int)->(0:Int)<=x0->(0:Int)<=(999999:Int)-x0:=λ h V=>Int.sub_nonneg_of_le (Int.le_trans (Int.le_of_lt h) (by decide))
theorem o38{x0:Int}:x0<(3:Int)->(0:Int)<=x0->(999999:Int)-x0<(1000000:Int):=λ V h=>Int.lt_of_le_of_lt (Int.sub_le_self _ h) (by decide)
theorem o39{x0:Int}:x0<(8:Int)->(0:Int)<=x0->x0≠(0:Int)->(0:Int)<=x0-(1:Int):=λ V h n=>Int.sub_nonneg_of_le ((Int.lt_or_eq_of_le h).resolve_right (Ne.symm n))
theorem o40{x0:Int}:x0<(8:Int)->(0:Int)<=x0->x0-(1:Int)<(↑((0:Nat)+(1:Nat)+(1:Nat)+(1:Nat)+(1:Nat)+(1:Nat)+(1:Nat)+(1:Nat)):Int):=λ h V=>Int.sub_lt_sub_right h 1
theorem o41{x0:Int}:x0<(8:Int)->(0:Int)<=x0->x0≠(0:Int)->x0=(1:Int)\/x0=(2:Int)\/x0=(3:Int)\/x0=(4:Int)\/x0=(5:Int)\/x0=(6:Int)\/x0=(7:Int):=λ q h n=>by obtain ⟨m,rfl⟩:=Int.eq_ofNat_of_zero_le h;exact (by decide:∀ n<8,((n:Nat):Int)≠0->((n:Nat):Int)=1\/((n:Nat):Int)=2\/((n:Nat):Int)=3\/((n:Nat):Int)=4\/((n:Nat):Int)=5\/((n:Nat):Int)=6\/((n:Nat):Int)=7) m (Int.ofNat_lt.mp q) n
theorem o50{x0:Nat}:(x0=1\/x0=3\/x0=4\/x0=5\/x0=6)->1<=x0/\x0<=6:=λ h=>by rcases h with h | h | h | h | h <;> subst h <;> decide
theorem o51{a b c:Nat}:b=1000000->c<12->a=c->a<b:=by intros;(try subst_vars);with_reducible exact Nat.lt_of_lt_of_le (by assumption) (by decide)
theorem o52{x0:Nat}:((1:Nat)<=x0/\x0<=(6:Nat))->(0:Int)<(↑x0:Int):=λ h=>Int.ofNat_lt.mpr h.1
theorem o53{x0:Int}:(0:Int)<=x0->(0:Int)<=x0+(1:Int):=λ h=>Int.le_trans h (Int.le_of_lt (Int.lt_succ x0))
theorem o54{a:Nat}:((1:Nat)<=a/\a<=(6:Nat))->(0:Int)<=(↑a:Int):=by intros;with_reducible exact Int.natCast_nonneg _
theorem o55{x0:Int}:(0:Int)<=x0->(x0+(1:Int)).toNat=x0.toNat+(1:Nat):=λ h=>Int.toNat_add h (by decide)
theorem o56{x0:Int}{x1:Nat}:x1=(1000000:Nat)->min x0.toNat (6:Nat)+(1:Nat)<x1:=λ h=>h▸Nat.lt_of_le_of_lt (Nat.add_le_add_right (Nat.min_le_right _ _) _) (by decide)
theorem o57{x0:Int}{x1 x2:Nat}:x2=(1000000:Nat)->((1:Nat)<=x1/\x1<=(6:Nat))->min x0.toNat (6:Nat)+((0:Nat)+(1:Nat))+(min x1 (6:Nat)-(x0.toNat+(1:Nat)))<x2:=λ h V=>h▸Nat.lt_of_le_of_lt (Nat.add_le_add (Nat.add_le_add_right (Nat.min_le_right _ _) _) (Nat.le_trans (Nat.sub_le _ _) (Nat.min_le_right _ _))) (by decide)
theorem o58{x0 x1:Int}:(0:Int)<=x1->x1<(3:Int)->(0:Int)<=x0->x0<(4:Int)->(0:Int)<=x0+x1:=λ h V g V=>Int.add_nonneg g h
theorem o59{x0 x1:Int}{x2 x3:Nat}:x3=(1000000:Nat)->x2=(6:Nat)->(1:Nat)+min (x0+x1).toNat (x2+(1:Nat))<x3:=by intro h e;subst h e;exact Nat.lt_of_le_of_lt (Nat.add_le_add_left (Nat.min_le_right _ _) _) (by decide)
theorem o60{x0:Int}:(0:Int)<=x0->x0<(6:Int)->(0:Int)<x0->(0:Int)<=x0-(1:Int):=λ V V h=>Int.sub_nonneg_of_le h
theorem o61{x0:Int}{x1 x2:Nat}:x2=(1000000:Nat)->x1=(6:Nat)->(2:Nat)+min (x0-(1:Int)).toNat x1<x2:=by intro h e;subst h e;exact Nat.lt_of_le_of_lt (Nat.add_le_add_left (Nat.min_le_right _ _) _) (by decide)
theorem o62{a b:Nat}:b=1000000->a=12->a<b:=by intros;(try subst_vars);decide
theorem o63{a b:Nat}:b=(1000000:Nat)->a=(12:Nat)->min (Int.toNat (8:Int)) a+min (Int.toNat (4:Int)) a<b:=by intros;(try subst_vars);decide
theorem o64{a:Int}{b:Nat}:a<(8:Int)->(0:Int)<=a->b=(12:Nat)->a<(↑b:Int):=by intros;(try subst_vars);with_reducible exact Int.lt_of_lt_of_le (by assumption) (by decide)
theorem o69{a b c:Nat}:b=c->a<c->a<b:=by intros;(try subst_vars);assumption
theorem o70{a b:Nat}:a<b->a<b:=by intros;assumption
theorem o72{a:Nat}:(0:Int)<=(↑a:Int):=by intros;with_reducible exact Int.natCast_nonneg _
theorem o73{a b:Nat}:a<b->(↑a:Int)<(↑b:Int):=by intros;with_reducible exact Int.ofNat_lt.mpr (by assumption)
theorem o75{a b:Nat}:a+1+1<=b->a+1<=b-1:=by intros;with_reducible exact Nat.le_sub_of_add_le (by assumption)
theorem o100{a b c:Nat}:Qd [a,b,c] (.i 0 1 Y2 Y1 (.i 0 1 Y0 (.a (.n 6) Y2) (.g 0 Y0 (.a (.n 6) Y1)))):=qli _ _ rfl
theorem o122{x0:Int}:(0:Int)<=x0->x0<(2:Int)->x0=(0:Int)\/x0=(1:Int):=λ h g=>(Int.lt_or_eq_of_le (Int.le_of_lt_add_one (b:=1) g)).elim (λ q=>.inl (Int.le_antisymm (Int.le_of_lt_add_one (b:=0) q) h)) .inr
theorem o129{x0:Nat}:2<=x0->0<x0-1:=λ h=>Nat.sub_pos_of_lt h
theorem o160{x0 x1 x2:Nat}:x0+(x1+1)+1<x2->x0+1+x1+1<x2:=λ h=>Nat.lt_of_le_of_lt (Nat.le_of_eq (congrArg (·+1) (Nat.add_right_comm x0 1 x1))) h
theorem o162{x0:Int}:x0.natAbs<(2:Nat) ^ (62:Nat)->x0<(2:Int) ^ (63:Nat):=λ h=>Int.lt_of_le_of_lt Int.le_natAbs (Int.lt_trans (Int.ofNat_lt.mpr h) (by decide))
theorem o163{x0:Nat}{x1:Int}{x2:Nat}:(0:Int)<=x1+(↑x0:Int)->x2=x0->-(↑x0:Int)<=x1:=λ h V=>Int.le_of_sub_nonneg (Int.sub_neg x1 x0▸h)
theorem o164{x0:Int}:x0.natAbs<(2:Nat) ^ (62:Nat)->-(2:Int) ^ (63:Nat)<=x0:=λ h=>Int.neg_le_of_neg_le (Int.le_trans Int.le_natAbs (by rw [Int.natAbs_neg];exact Int.le_of_lt (Int.lt_trans (Int.ofNat_lt.mpr h) (by decide))))
theorem o165{a:Int}{b:Nat}:(0:Int)<=max (0:Int) (min a (↑b:Int)):=Int.le_max_left _ _
theorem o166{a:Int}{b c:Nat}:c=b->max (0:Int) (min a (↑b:Int))<=(↑b:Int):=λ V=>Int.max_le.mpr ⟨Int.natCast_nonneg _,Int.min_le_right _ _⟩
theorem o167{x0 x1:Int}{x2:Nat}:(((x1-x0+(1:Int)-(1:Int)) / (1:Int)).toNat=x2)->(0:Int)<=x0->x1<=(↑x2:Int)->x0<x1->x0=(0:Int):=λ h h0 h1 h2=>by rw [Int.add_sub_cancel,Int.ediv_one] at h;subst h;rw [Int.toNat_of_nonneg (Int.sub_nonneg_of_le (Int.le_of_lt h2))] at h1;exact Int.le_antisymm (by lia) h0
theorem o168{a:Nat}:((0:Int)+(1:Int)*(↑a:Int)).toNat=a:=by rw [Int.zero_add,Int.one_mul];rfl
theorem o169{a:Nat}:((0:Int)+(↑a:Int)*(1:Int)).toNat=a:=by rw [Int.zero_add,Int.mul_one];rfl
theorem o170{a:Nat}:¬(↑a:Int)<(0:Int):=Int.not_lt.mpr (Int.natCast_nonneg a)
theorem o171{x0 x1:Nat}:x0<=x1->min (↑x0:Int) (↑x1:Int)=(↑x0:Int):=λ h=>Int.min_eq_left (Int.ofNat_le.mpr h)
theorem o172{x0 x1 x2 x3:Nat}:x0<x3->x3<=x2->min x0 x1<=x2:=λ h q=>Nat.le_trans (Nat.min_le_left _ _) (Nat.le_of_lt (Nat.lt_of_lt_of_le h q))
theorem o186{x0 x1 x2:Nat}:x0+16*x2+400<x1->x0+200<x1:=λ h=>Nat.lt_of_le_of_lt (Nat.add_le_add (Nat.le_add_right x0 _) (by decide)) h
theorem o191{a b c:Nat}:a+16*(b+1)+400<c->a+16*b+416<c:=by intros;assumption
theorem o192{x0 x1:Int}{x2:Nat}:x2<(x0-x1).toNat->(0:Int)<(↑(x0-x1).toNat:Int)-(↑x2:Int):=λ h=>Int.sub_pos_of_lt (Int.ofNat_lt.mpr h)
theorem o193{a b:Int}:(↑(a-b).toNat:Int)-(↑(a-b).toNat:Int)<=(0:Int):=Int.le_of_eq (Int.sub_self _)
theorem o194{a:Int}{b:Nat}:a=(↑b:Int)->b<(2:Nat) ^ (62:Nat)->a<(2:Int) ^ (63:Nat):=by lia
theorem o195{x0 x1:Int}:(↑x0.natAbs:Int)<(1000000:Int)->(↑x1.natAbs:Int)<(1000000:Int)->-(2:Int) ^ (62:Nat)<=x0:=λ h V=>Int.neg_le_of_neg_le (Int.le_trans Int.le_natAbs (by rw [Int.natAbs_neg];exact Int.le_of_lt (Int.lt_trans h (by decide))))
theorem o196{x0 x1:Int}:(↑x0.natAbs:Int)<(1000000:Int)->(↑x1.natAbs:Int)<(1000000:Int)->x0<(2:Int) ^ (62:Nat):=λ h V=>Int.lt_of_le_of_lt Int.le_natAbs (Int.lt_trans h (by decide))
theorem o197{x0:Int}:(↑x0.natAbs:Int)<(1000000:Int)->-(2:Int) ^ (62:Nat)<=x0:=λ h=>Int.neg_le_of_neg_le (Int.le_trans Int.le_natAbs (by rw [Int.natAbs_neg];exact Int.le_of_lt (Int.lt_trans h (by decide))))
theorem o198{x0:Int}:(↑x0.natAbs:Int)<(1000000:Int)->x0<(2:Int) ^ (62:Nat):=λ h=>Int.lt_of_le_of_lt Int.le_natAbs (Int.lt_trans h (by decide))
theorem o199{x0 x1:Nat}:x0+x1+1<1000->x0+1+x1<1000:=λ h=>Nat.lt_of_le_of_lt (Nat.le_of_eq (Nat.add_right_comm x0 1 x1)) h
theorem o200{x0 x1 x2:Nat}:x0+16*x1+416<x2->x0+3+16*x1+400<x2:=λ h=>by rw [Nat.add_right_comm x0 3];exact Nat.lt_of_le_of_lt (Nat.le_add_right (x0+16*x1+403) 13) h
theorem o201{x0 x1:Nat}:x0+(x1+2)<1000->x0+1+x1+1<1000:=λ h=>Nat.lt_of_le_of_lt (Nat.le_of_eq (congrArg (·+1) (Nat.add_right_comm x0 1 x1))) h
theorem o202{x0 x1 x2:Nat}:x0+16*(x1+2)+400<x2->x0+1+16*x1+416<x2:=λ h=>by rw [Nat.add_right_comm x0 1];exact Nat.lt_of_le_of_lt (Nat.le_add_right (x0+16*x1+417) 15) h
theorem o203{a b:Nat}:b=a->a<=a-1+1:=λ V=>Nat.sub_le_iff_le_add.mp (Nat.le_refl _)
theorem o206{x0 x1:Nat}:x1<x0->x0-(x1+1)<x0-x1:=λ h=>Nat.sub_lt_sub_left h (Nat.lt_succ_self _)
theorem o207:0+1<=16777216+1:=by intros;decide
theorem o208{x0 x1:Nat}:x1<=590->x0=300->1+x0+x1+1<1000:=λ a e=>e▸Nat.lt_of_le_of_lt (Nat.succ_le_succ (Nat.add_le_add_left a 301)) (by decide)
theorem o209{x0 x1:Nat}:x0<=590->x1=9900->4+16*x0+416<x1:=λ a e=>e▸Nat.lt_of_le_of_lt (Nat.add_le_add_right (Nat.add_le_add_left (Nat.mul_le_mul_left 16 a) 4) 416) (by decide)
theorem o210{x0:Int}:(0:Int)<=x0->x0<(3:Int)->x0=(0:Int)\/x0=(1:Int)\/x0=(2:Int):=λ h g=>(Int.lt_or_eq_of_le (Int.le_of_lt_add_one (b:=2) g)).elim (λ q=>(o122 h q).elim .inl λ e=>.inr (.inl e)) λ e=>.inr (.inr e)
theorem o222{x0 x1:Nat}:(↑x1:Int)+(1:Int)<(↑x0:Int)->(0:Int)<(↑x0:Int)-(↑x1:Int)-(1:Int):=λ h=>Int.sub_pos_of_lt (Int.lt_sub_left_of_add_lt h)
theorem o247{x0:Nat}:(0:Int)<=(↑x0:Int)->(↑x0:Int)<(26:Int)->x0<(26:Nat):=λ V h=>Int.ofNat_lt.mp h
theorem o254{x0 x1 x2:Nat}:x2=x1->x0≥x2->x0-x2=0->x0=x1:=λ e h q=>e▸Nat.le_antisymm (Nat.le_of_sub_eq_zero q) h
theorem o255{a:Int}:min a.toNat (6:Nat)<=a.toNat:=Nat.min_le_left _ _
theorem o256{x0:Int}{x1:Nat}:((1:Nat)<=x1/\x1<=(6:Nat))->x0<(↑x1:Int)->x0.toNat-min x0.toNat (6:Nat)=(0:Nat):=λ h q=>by rw [Nat.min_eq_left (Int.toNat_le.mpr (Int.le_of_lt (Int.lt_of_lt_of_le q (Int.ofNat_le.mpr h.2)))),Nat.sub_self]
theorem o266{x0:Int}:(0:Int)<=x0->x0<(3:Int)->(1:Int)+x0=(↑((1:Int)+x0).toNat:Int):=λ h V=>(Int.toNat_of_nonneg (Int.add_nonneg (by decide) h)).symm
theorem o267{x0:Nat}{x1:Int}:(0:Int)<=x1->x1<(3:Int)->(1:Int)+x1=(↑x0:Int)->(1:Nat)<=x0:=λ a V e=>Int.ofNat_le.mp (e▸Int.le_add_of_nonneg_right a)
theorem o268{x0:Nat}{x1:Int}:(0:Int)<=x1->x1<(3:Int)->(1:Int)+x1=(↑x0:Int)->x0<=(3:Nat):=λ V h e=>Int.ofNat_le.mp (e▸Int.add_le_add_left (Int.le_of_lt_add_one (b:=2) h) 1)
theorem o269{x0:Nat}:1<=x0->x0<=3->x0=1\/x0=2\/x0=3:=λ h q=>(by decide:∀ n<4,1<=n->n=1\/n=2\/n=3) x0 (Nat.lt_succ_of_le q) h
theorem o272{x0:Nat}:(1:Nat)<=x0->x0<=(3:Nat)->(↑x0:Int)=(0:Int)->False:=λ h V e=>onz h (Int.ofNat.inj e)
theorem o274{x0:Nat}:5<=x0->x0≠0:=λ h=>onz h
theorem o277{a b c d:Nat}:b=1000000->1<=c->c<=3->d<c->a=d->a<b:=by intros;(try subst_vars);with_reducible exact Nat.lt_of_lt_of_le (by assumption) (Nat.le_trans (by assumption) (by decide))
theorem o280{x0 x1:Nat}:(1:Nat)<=x0->x0<=(3:Nat)->x1=x0->(0:Int)<(↑x0:Int):=λ h V V=>Int.ofNat_lt.mpr h
theorem o285{x0 x1:Nat}:(1:Nat)<=x0->x0<=(3:Nat)->x1=x0->(↑x0:Int)≠(0:Int):=λ h V V e=>onz h (Int.ofNat.inj e)
theorem o286{a b:Nat}:1<=b->b<=3->a=b->0<a:=by intros;(try subst_vars);assumption
theorem o289{x0:Int}:(0:Int)<x0->x0<(3:Int)->x0=(1:Int)\/x0=(2:Int):=λ h g=>(Int.lt_or_eq_of_le (Int.le_of_lt_add_one (b:=2) g)).elim (λ q=>.inl (Int.le_antisymm (Int.le_of_lt_add_one (b:=1) q) h)) .inr
theorem o313{a:Nat}:(↑(a+(1:Nat)):Int)-(1:Int)=(↑a:Int):=by lia
theorem o333{a:Nat}:(0:Int)<=(-1:Int)+(↑(a+((0:Nat)+(1:Nat))):Int)/\(-1:Int)+(↑(a+((0:Nat)+(1:Nat))):Int)<(↑(a+((0:Nat)+(1:Nat))):Int):=by rw [show -1+(↑(a+(0+1)):Int)=a from (Int.add_comm (-1) (↑a+1)).trans (Int.add_neg_cancel_right (↑a) 1)];exact ⟨Int.natCast_nonneg _,Int.ofNat_lt.mpr (Nat.lt_succ_self a)⟩
theorem o334{a:Nat}:((-1:Int)+(↑(a+((0:Nat)+(1:Nat))):Int)).toNat=a:=congrArg Int.toNat ((Int.add_comm (-1) (↑a+1)).trans (Int.add_neg_cancel_right (↑a) 1))
theorem o347{x0:Nat}:(1:Nat)<=x0->(↑x0:Int)>(0:Int):=λ h=>Int.ofNat_lt.mpr h
theorem o348{x0 x1:Nat}:(¬(↑x0:Int)<(0:Int))->max (0:Int) (min (↑x0:Int) (↑x1:Int))=(↑(min x0 x1):Int):=λ V=>(Int.max_eq_right (Int.le_min.mpr ⟨Int.natCast_nonneg _,Int.natCast_nonneg _⟩)).trans (by rcases Nat.le_total x0 x1 with h | h;rw [Int.min_eq_left (Int.ofNat_le.mpr h),Nat.min_eq_left h];rw [Int.min_eq_right (Int.ofNat_le.mpr h),Nat.min_eq_right h])
theorem o363{a b c:Nat}:b=1000000->c=a->c<5000->a<b:=by intros;(try subst_vars);with_reducible exact Nat.lt_of_lt_of_le (by assumption) (by decide)
theorem o364{x0 x1 x2:Nat}:x1=x2->x1<(5000:Nat)->x0<x2->(↑x0:Int).natAbs<(2:Nat) ^ (62:Nat):=λ e h q=>Nat.lt_trans q (e▸Nat.lt_trans h (by decide))
theorem o365{a b:Nat}:b=a->b<5000->a<5000:=by intros;(try subst_vars);assumption
theorem o376{a b:Nat}:b=1000000->a=6->a<b:=by intros;(try subst_vars);decide
theorem o377{x0:Int}:(0:Int)<=x0->x0<(10:Int)->x0.natAbs<(10:Nat) ^ (9:Nat):=λ h q=>by obtain ⟨m,rfl⟩:=Int.eq_ofNat_of_zero_le h;exact Nat.lt_trans (Int.ofNat_lt.mp q) (by decide)
theorem o378{a b:Nat}:b=1000000->a=6->1+a<b:=by intros;(try subst_vars);decide
theorem o379{a b:Nat}:b=1000000->a=6->a+1<b:=by intros;(try subst_vars);decide
theorem o380{x0:Nat}:((1:Nat)<=x0/\x0<=(6:Nat))->(↑x0:Int)≠(0:Int):=λ h e=>Nat.ne_of_gt h.1 (Int.ofNat_inj (n:=0).mp e)
theorem o383{a b:Nat}:b=1000000->a=1->1+a<b:=by intros;(try subst_vars);decide
theorem o384{a b c:Nat}:c=1000000->a=1->b=1->a+1+b<c:=by intros;(try subst_vars);decide
theorem o385{x0 x1:Nat}:x1=(1000000:Nat)->(1:Nat)<=x0->x0<=(3:Nat)->(↑x0:Int).natAbs<x1:=λ e V h=>e▸Nat.lt_of_le_of_lt h (by decide)
theorem o391{x0 x1 x2:Nat}:x1=(1000000:Nat)->x2=x0->x2<(5000:Nat)->(↑x0:Int).natAbs<x1:=λ e h q=>by subst h;exact e▸Nat.lt_trans q (by decide)
theorem o392{x0 x1:Nat}:x1+1+1<=x0->x0≠0:=λ h=>Nat.ne_of_gt (Nat.lt_of_lt_of_le (Nat.succ_pos _) h)
theorem o393{x0:Int}{x1 x2:Nat}{x3:Int}:x1<(12:Nat)->x2<(12:Nat)->(¬x1=x2)->((1:Nat)+min ((↑x1:Int) % (4:Int)+x3).toNat (7:Nat)=(1:Nat)+min ((↑x2:Int) % (4:Int)+x3).toNat (7:Nat))->(0:Int)<=x3->x3<(3:Int)->(x0+(7:Int)*((↑x1:Int) / (4:Int))) % (26:Int)≠(x0+(7:Int)*((↑x2:Int) / (4:Int))) % (26:Int):=λ hi hj n l h0 h3 e=>by obtain ⟨r,rfl⟩:=Int.eq_ofNat_of_zero_le h0;have h:=Int.emod_eq_emod_iff_emod_sub_eq_zero.mp e;rw [Int.add_sub_add_left] at h;exact (((by decide +kernel:∀ i<12,∀ j<12,∀ r<3,i=j\/¬(1+min (((i:Nat):Int) % 4+((r:Nat):Int)).toNat 7=1+min (((j:Nat):Int) % 4+((r:Nat):Int)).toNat 7)\/¬(7*(((i:Nat):Int) / 4)-7*(((j:Nat):Int) / 4)) % 26=0) x1 hi x2 hj r (Int.ofNat_lt.mp h3)).resolve_left n).elim (λ q=>q l) λ q=>q h
theorem o394{x0:Int}{x1 x2:Nat}{x3:Int}:x1<(12:Nat)->x2<(12:Nat)->(¬x1=x2)->(¬x3=(2:Int))->(x0+(5:Int)*(↑x1:Int)) % (26:Int)≠(x0+(5:Int)*(↑x2:Int)) % (26:Int):=λ hi hj n V e=>by have h:=Int.emod_eq_emod_iff_emod_sub_eq_zero.mp e;rw [Int.add_sub_add_left] at h;exact (by decide +kernel:∀ i<12,∀ j<12,¬i=j->(5*((i:Nat):Int)-5*((j:Nat):Int)) % 26≠0) x1 hi x2 hj n h
theorem o542{a b:Nat}:Qd [a,b] (.i 0 1 Y0 Y1 (.g 0 (.a Y0 X1) (.a X1 Y1))):=qli _ _ rfl
theorem o570{x0 x1 x2:Nat}:x2=0->2-1+(2-x0+x1)+1<=2-x2+(2-x0+x1):=λ e=>by rw [e];exact Nat.le_of_eq (Nat.add_right_comm 1 _ 1)
theorem o571{x0 x1 x2:Nat}:x1<=2*x2->2-x0+x1<=2*(x2+1):=λ h=>by rw [Nat.mul_succ,Nat.add_comm (2*x2)];exact Nat.add_le_add (Nat.sub_le 2 x0) h
theorem o572{a b c:Nat}:c=b->a<b->(↑a:Int)<(↑b:Int):=by intros;(try subst_vars);with_reducible exact Int.ofNat_lt.mpr (by assumption)
theorem o582{a:Nat}:3<a->2<a-1:=by intros;with_reducible exact Nat.lt_sub_of_add_lt (by assumption)
theorem o583{x0:Nat}:(1<=x0+1+1/\x0+1+1<=4)->x0<=2:=λ h=>Nat.le_of_add_le_add_right (b:=2) h.2
theorem o585{x0 x1:Nat}:(1<=x1+1+1/\x1+1+1<=4)->x0<=x1+2->x0<=4:=λ h g=>Nat.le_trans g h.2
theorem o587{a b:Nat}:((1:Nat)<=a+(1:Nat)/\a+(1:Nat)<=(4:Nat))->b=a+(1:Nat)->((↑(a+(1:Nat)):Int)<(4:Int))->(1:Nat)<=a+(1:Nat)+(1:Nat):=λ V V V=>Nat.le_add_left 1 _
theorem o588{x0 x1:Nat}:((1:Nat)<=x0+(1:Nat)/\x0+(1:Nat)<=(4:Nat))->x1=x0+(1:Nat)->((↑(x0+(1:Nat)):Int)<(4:Int))->x0+(1:Nat)+(1:Nat)<=(4:Nat):=λ V V h=>Int.ofNat_lt.mp h
theorem o592{x0 x1:Nat}:((1:Nat)<=x0+(1:Nat)+(1:Nat)/\x0+(1:Nat)+(1:Nat)<=(4:Nat))->x1=x0+(2:Nat)->(¬(1:Int)<(↑(x0+(2:Nat)):Int))->¬¬(1:Int)<(↑(x0+(2:Nat)):Int):=λ V V h=>absurd (Int.ofNat_lt.mpr (Nat.le_add_left 2 x0)) h
theorem o593{x0 x1:Nat}:(1<=x0+1+1/\x0+1+1<=4)->x1=x0+2->x0<=2:=λ h V=>Nat.le_of_add_le_add_right (b:=2) h.2
theorem o595{a b:Nat}:a+1<=b->a<b:=by intros;assumption
theorem o596{x0 x1 x2:Nat}:(1<=x1+1+1/\x1+1+1<=4)->x2=x1+2->x0<=x1+2->x0<=4:=λ h V g=>Nat.le_trans g h.2
theorem o707{x0 x1 x2:Nat}:x1=1000000->(1<=x2+1+1/\x2+1+1<=4)->x0=x2+2->x0<x1:=λ e h f=>oe e (Nat.le_trans (Nat.le_of_eq f) h.2) rfl
theorem o709{x0 x1 x2:Nat}:x1=1000000->(1<=x2+1/\x2+1<=4)->x0=x2+1->x0<x1:=λ e h f=>oe e (Nat.le_trans (Nat.le_of_eq f) h.2) rfl
theorem o724{x0 x1 x2:Nat}:(x2=0\/x2=1)->2-x0+x1+1<=2-x2+(2-x0+x1):=λ h=>by rw [Nat.add_comm (2-x0+x1) 1];exact Nat.add_le_add_right (by rcases h with h | h <;> subst h <;> decide) _
theorem o738{a:Int}{b:Nat}:a+(5:Int)*(↑b:Int)+(1:Int)=a+((5:Int)*(↑b:Int)+(1:Int)):=Int.add_assoc ..
theorem o739{a:Nat}:(5:Int)*(↑a:Int)+(1:Int)=(↑((5:Nat)*a+(1:Nat)):Int):=rfl
theorem o742{a:Nat}:(5:Int)*(↑a:Int)=(↑((5:Nat)*a):Int):=rfl
theorem o743{x0:Int}{x1:Nat}:((1:Nat)<=x1/\x1<=(6:Nat))->x0<(↑x1:Int)->x0.toNat<x1:=λ h g=>otl g h.1
theorem o843{a:Nat}:40<=a->a≠0:=by lia
theorem o888{x0:Nat}:(0:Int)<=(↑x0:Int)->(↑x0:Int)<(12:Int)->x0<(12:Nat):=λ V h=>Int.ofNat_lt.mp h
theorem o889{x0:Nat}:2<=x0->x0≠0:=λ h=>onz h
theorem o890{a:Int}:a<(5:Int)->a<(12:Int):=by intros;with_reducible exact Int.lt_of_lt_of_le (by assumption) (by decide)
theorem o892{x0:Nat}:x0<(3:Nat)->(↑x0:Int).natAbs<(10:Nat) ^ (9:Nat):=λ h=>Nat.lt_trans h (Nat.le_of_ble_eq_true rfl)
theorem o893{x0:Nat}:x0<(4:Nat)->(↑x0:Int).natAbs<(10:Nat) ^ (9:Nat):=λ h=>Nat.lt_trans h (Nat.le_of_ble_eq_true rfl)
theorem o897{x0:Nat}:2<x0->2<=x0-1:=λ h=>Nat.le_sub_of_add_le h
theorem o901{x0 x1:Nat}:x0<=2->x1=x0->3-(x0+1)+1=3-x0:=λ h V=>Nat.sub_add_cancel (Nat.le_sub_of_add_le ((qli [x0] (.i 0 1 Y0 (.n 2) (.g 0 (.a X1 Y0) (.n 3))) rfl h)))
theorem o903{a b c:Nat}:c<=50->b=1000000->a=c->a<b:=by intros;(try subst_vars);with_reducible exact Nat.lt_of_le_of_lt (by assumption) (by decide)
theorem o904{x0:Nat}:3<x0->2<=x0-1:=λ h=>osb (k:=1) h rfl
theorem o907{a b:Nat}:a<b->b<=3->a<3:=by intros;with_reducible exact Nat.lt_of_lt_of_le (by assumption) (by assumption)
theorem o909{x0:Nat}{x1:Int}{x2:Nat}:x2<=(3:Nat)->(↑x0:Int)+(1:Int)<(↑x2:Int)->(0:Int)<=x1->(0:Int)<=(8:Int)+(↑x0:Int)+(1:Int)+x1:=λ V V h=>Int.add_nonneg (Int.natCast_nonneg (8+x0+1)) h
theorem o910{a:Nat}{b:Int}{c:Nat}:c<=(3:Nat)->b<(↑c:Int)-(↑a:Int)-(1:Int)->(8:Int)+(↑a:Int)+(1:Int)+b<(12:Int):=by lia
theorem o911{x0:Nat}{x1:Int}{x2:Nat}:(0:Int)<=x1->x1<(↑x2:Int)-(↑x0:Int)-(1:Int)->((↑x0:Int)+(1:Int)+x1).toNat<x2:=λ z h=>by obtain ⟨n,rfl⟩:=Int.eq_ofNat_of_zero_le z;exact (qli [x0,n,x2] (.i 1 1 (.a Y0 (.a X1 Y1)) Y2 (.h 0 (.a (.a Y0 X1) Y1) Y2)) rfl (Int.ofNat_lt.mp (Int.add_lt_of_lt_sub_left (Int.add_lt_of_lt_sub_left h))))
theorem o912{x0:Nat}{x1:Int}{x2:Nat}:x2<=(3:Nat)->(↑x0:Int)+(1:Int)<(↑x2:Int)->(0:Int)<=x1->(8:Nat)+((↑x0:Int)+(1:Int)+x1).toNat=((8:Int)+(↑x0:Int)+(1:Int)+x1).toNat:=λ V V z=>by obtain ⟨n,rfl⟩:=Int.eq_ofNat_of_zero_le z;exact (Nat.add_assoc 8 (x0+1) n).symm
theorem o915{x0 x1 x2:Nat}:x1<=x0->x1=x2+1->x0=x0-1+1:=λ h e=>(Nat.sub_add_cancel (Nat.le_trans (e▸Nat.le_add_left 1 x2) h)).symm
theorem o916{a b c:Nat}:c<=b->c=a+1->a<=b-1:=by intros;(try subst_vars);with_reducible exact Nat.le_sub_of_add_le (by assumption)
theorem o917{x0 x1:Nat}:x0≥x1->x0-x1=0->x0=x1:=λ h e=>Nat.le_antisymm (Nat.sub_eq_zero_iff_le.mp e) h
theorem o919{a b:Nat}:a<b->¬a=b:=by lia
theorem o920{a b:Nat}:b=a->(0:Int)<=(8:Int)+(↑a:Int):=λ V=>Int.natCast_nonneg (8+a)
theorem o921{x0 x1 x2:Nat}:(1:Nat)<=x1->x1<=(3:Nat)->x0<x1->x2=x0->(8:Int)+(↑x0:Int)<(12:Int):=λ V h g V=>Int.ofNat_lt.mpr (Nat.add_lt_add_left (Nat.lt_of_lt_of_le g (Nat.le_succ_of_le h)) 8)
theorem o922{a b:Nat}:a<=50->b=1000000->a<b:=by intros;(try subst_vars);with_reducible exact Nat.lt_of_le_of_lt (by assumption) (by decide)
theorem o923{a:Nat}:5<=a->3<a-1:=by intros;with_reducible exact Nat.lt_sub_of_add_lt (le' (by assumption) (by decide))
theorem o924{a b c:Nat}:1<=b->b<=3->c=b->a=b->1<=a:=by intros;(try subst_vars);assumption
theorem o925{a b c:Nat}:1<=b->b<=3->c=b->a=b->a<=3:=by intros;(try subst_vars);assumption
theorem o926{x0:Int}:(0:Int)<=x0->(0:Int)<=(8:Int)+x0:=λ h=>Int.add_nonneg (by decide) h
theorem o927{x0:Int}{x1 x2:Nat}:(1:Nat)<=x1->x1<=(3:Nat)->x2=x1->x0<(↑x1:Int)->(8:Int)+x0<(12:Int):=λ V h V g=>Int.add_lt_add_left (Int.lt_of_lt_of_le g (Int.ofNat_le.mpr (Nat.le_succ_of_le h))) 8
theorem o928{x0:Int}{x1 x2:Nat}:x2=x1->(0:Int)<=x0->x0<(↑x1:Int)->x0.toNat<x1:=λ V z h=>(Int.toNat_lt z).mpr h
theorem o929{x0:Int}:(0:Int)<=x0->(8:Nat)+x0.toNat=((8:Int)+x0).toNat:=λ h=>(Int.toNat_add (a:=8) (by decide) h).symm
theorem o935{a:Nat}:(7:Int)*((↑a:Int) / (4:Int))=(↑((7:Nat)*(a / (4:Nat))):Int):=rfl
theorem o936{x0 x1:Int}:(0:Int)<=x1->x1<(3:Int)->(0:Int)<=x0->x0<(4:Int)->(x0+x1).toNat<=(5:Nat):=λ V h V g=>Int.toNat_le.mpr (Int.add_le_add (Int.le_of_lt_add_one (b:=3) g) (Int.le_of_lt_add_one (b:=2) h))
theorem o937{x0:Int}{x1:Nat}:x1=(6:Nat)->(0:Int)<=x0->x0<(6:Int)->(0:Int)<x0->min (x0-(1:Int)).toNat x1<=(4:Nat):=λ V V h V=>Nat.le_trans (Nat.min_le_left ..) (Int.toNat_le.mpr (Int.sub_le_sub_right (Int.le_of_lt_add_one (b:=5) h) 1))
theorem o1044{a:Nat}:40<=a->5<=a-1:=by intros;with_reducible exact Nat.le_sub_of_add_le (le' (by assumption) (by decide))
theorem o1051{x0 x1:Nat}:(↑x1:Int)+(1:Int)<(↑x0:Int)->(↑x0:Int)-(↑x1:Int)-(1:Int)≠(0:Int):=λ h=>Int.ne_of_gt (o222 h)
theorem o1052{x0 x1 x2:Nat}:x2<=(50:Nat)->x1=(1000000:Nat)->x0=x2->(↑x0:Int).natAbs<x1:=λ h e f=>oe e (Nat.le_trans (Nat.le_of_eq f) h) rfl
theorem o1070{a b:Nat}:a+(b+1)=9->a+1+b=9:=λ h0=>Nat.le_antisymm (qli [a,b] (.i 2 1 (.a Y0 (.a Y1 X1)) (.n 9) (.g 0 (.a (.a Y0 X1) Y1) (.n 9))) rfl h0) (qli [a,b] (.i 5 1 (.a Y0 (.a Y1 X1)) (.n 9) (.g 0 (.n 9) (.a (.a Y0 X1) Y1))) rfl h0)
theorem o1071{a:Nat}:30<=a->a≠0:=by lia
theorem o1073{a:Nat}:30<=a->20<=a-1+1:=by lia
theorem o1074{a:Nat}:32<=a->a≠0:=by lia
theorem o1075{a:Nat}:32<=a->30<=a-1:=by intros;with_reducible exact Nat.le_sub_of_add_le (le' (by assumption) (by decide))
theorem o1116{a:Nat}:40<=a->32<=a-1:=by intros;with_reducible exact Nat.le_sub_of_add_le (le' (by assumption) (by decide))
theorem o1118{a:Nat}:40<=a->2+1<=a-1:=by intros;with_reducible exact Nat.le_sub_of_add_le (le' (by assumption) (by decide))
theorem o1120{a:Nat}:1<=a->a<=3->a<=12:=by intros;with_reducible exact Nat.le_trans (by assumption) (by decide)
theorem o1138{a:Int}:a<(10:Int)->(0:Int)<=a->a=(0:Int)\/a=(1:Int)\/a=(2:Int)\/a=(3:Int)\/a=(4:Int)\/a=(5:Int)\/a=(6:Int)\/a=(7:Int)\/a=(8:Int)\/a=(9:Int):=by lia
theorem o1298{x0 x1 x2 x3 x4 x5:Nat}:3*x3+24<=x2->x4=x3->(1<=x5/\x5<=4)->x0<=3*x3->x1<=2*x5->x0+3*x1<=x2:=λ h V g i j=>(qli [x0,x1,x2,x3,x5] (.i 0 1 (.a (.m 3 Y3) (.n 24)) Y2 (.i 0 6 Y4 (.n 4) (.i 0 1 Y0 (.m 3 Y3) (.i 0 3 Y1 (.m 2 Y4) (.g 0 (.a Y0 (.m 3 Y1)) Y2))))) rfl h g.2 i j)
theorem o1301{a:Nat}:a<=50->(a+1-1) / 1<=a:=λ V=>Nat.le_of_eq (Nat.div_one a)
theorem o1302{x0:Nat}:x0<=50->(x0+2-1) / 2<=x0:=λ V=>by cases x0 with | zero=>exact Nat.le_refl 0 | succ n=>exact Nat.div_le_of_le_mul ((qli [n] (.g 0 (.a Y0 (.n 2)) (.m 2 (.a Y0 X1))) rfl))
theorem o1303{x0:Nat}:x0<=50->(x0+3-1) / 3<=x0:=λ V=>by cases x0 with | zero=>exact Nat.le_refl 0 | succ n=>exact Nat.div_le_of_le_mul ((qli [n] (.g 0 (.a Y0 (.n 3)) (.m 3 (.a Y0 X1))) rfl))
theorem o1306{a:Nat}:a+0=9->a<=8->¬a+0=9:=by lia
theorem o1307{a b c:Nat}:b+c=9->20<=a+b->a≠0:=by lia
theorem o1309{a b c:Nat}:Qd [a,b,c] (.i 2 1 (.a Y1 Y2) (.n 9) (.i 0 1 (.n 20) (.a Y0 Y1) (.g 0 (.n 2) Y0))):=qli _ _ rfl
theorem o1311{a b c d:Nat}:b+c=9->20<=a+b->(¬8<b)->c=d+1->6<=a-1:=by lia
theorem o1312{a b c d e:Nat}:Qd [a,b,c,d,e] (.i 2 0 (.a Y2 Y3) (.n 9) (.i 0 1 Y0 (.m 2 Y2) (.i 5 1 Y1 (.n 1000000) (.i 3 2 (.n 8) Y2 (.i 2 0 Y3 (.a Y4 X1) (.h 0 (.a (.a Y0 (.a X0 X1)) X1) Y1)))))):=qli _ _ rfl
theorem o1313{a b c d:Nat}:b+c=9->20<=a+b->(¬8<b)->c=d+1->20<=a-1+(b+1):=by lia
theorem o1314{a b c d:Nat}:Qd [a,b,c,d] (.i 2 0 (.a Y1 Y2) (.n 9) (.i 0 1 Y0 (.m 2 Y1) (.i 2 0 Y2 (.a Y3 X1) (.g 0 (.a (.a Y0 (.a X0 X1)) (.a X0 X1)) (.m 2 (.a Y1 X1)))))):=qli _ _ rfl
theorem o1315{a:Nat}:30<=a->2<=a:=by intros;with_reducible exact le' (by assumption) (by decide)
theorem o1316{a b c:Nat}:b=1000000->c=a->a<100->a<b:=by intros;(try subst_vars);with_reducible exact Nat.lt_of_lt_of_le (by assumption) (by decide)
theorem o1317{a b:Nat}:b=a->a<(100:Nat)->(¬(1:Nat)<=a)->¬(1:Int)<=(↑a:Int):=by lia
theorem o1318{a b:Nat}:b=a->a<(100:Nat)->(1:Nat)<=a->(1:Int)<=(↑a:Int):=by lia
theorem o1319{a b:Nat}:b=a->a<(100:Nat)->(1:Nat)<=a->(¬a<=(12:Nat))->¬(↑a:Int)<=(12:Int):=by lia
theorem o1320{a b:Nat}:b=a->a<(100:Nat)->(1:Nat)<=a->a<=(12:Nat)->(↑a:Int)<=(12:Int):=by lia
theorem o1321{a b c d:Nat}:Qd [a,b,c,d] (.i 5 1 Y1 (.n 1000000) (.i 1 0 Y2 (.n 100) (.i 0 0 X1 Y2 (.i 0 1 Y2 (.n 12) (.i 2 1 Y0 Y2 (.i 2 0 Y3 Y2 (.h 0 (.a X0 Y0) Y1))))))):=qli _ _ rfl
theorem o1322{a:Nat}:30<=a->a-1≠0:=by lia
theorem o1323{a b c d e:Nat}:b=1000000->c<100->1<=c->c<=12->d=c->e=c->a=c->a<b:=by intros;(try subst_vars);with_reducible exact Nat.lt_of_lt_of_le (by assumption) (by decide)
theorem o1325{a b c d e f:Nat}:c=d->e=d->f=d->a+(b+1)=c->a+1+b=c:=λ h0 h1 h2 h3=>Nat.le_antisymm (qli [a,b,c,d,e,f] (.i 2 0 Y2 Y3 (.i 2 0 Y4 Y3 (.i 2 0 Y5 Y3 (.i 2 1 (.a Y0 (.a Y1 X1)) Y2 (.g 0 (.a (.a Y0 X1) Y1) Y2))))) rfl h0 h1 h2 h3) (qli [a,b,c,d,e,f] (.i 2 0 Y2 Y3 (.i 2 0 Y4 Y3 (.i 2 0 Y5 Y3 (.i 5 1 (.a Y0 (.a Y1 X1)) Y2 (.g 0 Y2 (.a (.a Y0 X1) Y1)))))) rfl h0 h1 h2 h3)
theorem o1326{a:Nat}:3<=a->a≠0:=by lia
theorem o1327{a b c:Nat}:c=b->a<b->min a b=a:=by lia
theorem o1329{a b c d:Nat}:1<=b->b<=3->c=b->a<b->d=a->a<5:=by intros;(try subst_vars);with_reducible exact Nat.lt_of_lt_of_le (by assumption) (Nat.le_trans (by assumption) (by decide))
theorem o1330{a b c d:Nat}:(1:Nat)<=b->b<=(3:Nat)->c=b->a<b->d=a->(8:Int)+(↑a:Int)<(12:Int):=by lia
theorem o1331{a b:Nat}:b=a->((8:Int)+(↑a:Int)).toNat=(8:Nat)+a:=by lia
theorem o1332{a b c:Nat}:(b<=3\/b=8)->c<b->a+c=8->a=a-1+1:=by lia
theorem o1333{a b c:Nat}:b=1000000->a=c->c<=50->a<b:=by intros;(try subst_vars);with_reducible exact Nat.lt_of_le_of_lt (by assumption) (by decide)
theorem o1334{a b c d:Nat}:Qd [a,b,c,d] (.i 5 1 Y1 (.n 1000000) (.i 2 0 Y2 Y3 (.i 0 1 Y3 (.n 50) (.i 2 1 Y0 (.a Y3 X1) (.h 0 Y0 Y1))))):=qli _ _ rfl
theorem o1337{a b:Nat}:a+1+b=8->a+(b+1)=8:=λ h0=>Nat.le_antisymm (qli [a,b] (.i 2 1 (.a (.a Y0 X1) Y1) (.n 8) (.g 0 (.a Y0 (.a Y1 X1)) (.n 8))) rfl h0) (qli [a,b] (.i 5 1 (.a (.a Y0 X1) Y1) (.n 8) (.g 0 (.n 8) (.a Y0 (.a Y1 X1)))) rfl h0)
theorem o1338{a:Int}{b:Nat}:b=(1000000:Nat)->(0:Int)<=a->a<(3:Int)->(1:Nat)*a.toNat<b:=by lia
theorem o1339{a b c:Nat}:b<c->a+(1:Nat)+b=(8:Nat)->(↑c:Int)<(8:Int)->c<=(3:Nat)->a=a-(1:Nat)+(1:Nat):=by lia
theorem o1340{a b:Nat}:b+1+1+a=8->1+a+1+b=8:=λ h0=>Nat.le_antisymm (qli [a,b] (.i 2 1 (.a (.a (.a Y1 X1) X1) Y0) (.n 8) (.g 0 (.a (.a (.a X1 Y0) X1) Y1) (.n 8))) rfl h0) (qli [a,b] (.i 5 1 (.a (.a (.a Y1 X1) X1) Y0) (.n 8) (.g 0 (.n 8) (.a (.a (.a X1 Y0) X1) Y1))) rfl h0)
theorem o1341{a:Nat}{b:Int}:(0:Int)<=b->b<(3:Int)->a=b.toNat->a<=(2:Nat):=by lia
theorem o1342{a:Nat}:3<=a->a-1≠0:=by lia
theorem o1345{a:Nat}:a=(8:Nat)->(↑a:Int)=(8:Int):=by intros;(try subst_vars);decide
theorem o1346{a:Nat}:(¬a=(8:Nat))->(↑a:Int)≠(8:Int):=by lia
theorem o1347{a b:Nat}:b=1000000->a<60->a<b:=by intros;(try subst_vars);with_reducible exact Nat.lt_of_lt_of_le (by assumption) (by decide)
theorem o1349{a:Nat}:(↑a:Int)<(4:Int)->a<=(3:Nat):=by lia
theorem o1350{a b c d:Nat}:c<=100->b=1000000->d<c->a=d->a<b:=by intros;(try subst_vars);with_reducible exact Nat.lt_of_lt_of_le (by assumption) (Nat.le_trans (by assumption) (by decide))
theorem o1351{a b:Nat}:a<=63->b=a->min 11 a-3<=8:=by lia
theorem o1352{a:Nat}:a<=8->a<=50:=by intros;with_reducible exact Nat.le_trans (by assumption) (by decide)
theorem o1354{a:Nat}:40<=a->3<=a-1:=by intros;with_reducible exact Nat.le_sub_of_add_le (le' (by assumption) (by decide))
theorem o1355{a:Nat}:42<=a->a≠0:=by lia
theorem o1356{a:Nat}:42<=a->2<=a-1:=by intros;with_reducible exact Nat.le_sub_of_add_le (le' (by assumption) (by decide))
theorem o1357{a:Nat}:42<=a->40<=a-1:=by intros;with_reducible exact Nat.le_sub_of_add_le (le' (by assumption) (by decide))
theorem o1358{a b c:Nat}:c=b->a>b->a=b+1+(a-(b+1)):=by lia
theorem o1359{a b:Nat}:a+1+b-a=b+1:=by lia
theorem o1360{a b c d:Nat}:b<a->a<=6->(min b c+1+(min a c-(b+1))=d)->c=6->d=6->a=6:=by lia
theorem o1361{a:Nat}:a<6->2<=a->0≠a:=by lia
theorem o1362{a:Nat}:a<6->2<=a->1≠a:=by lia
theorem o1363{a:Nat}:a<6->(¬2<=a)->2≠a:=by lia
theorem o1364{a:Nat}:a<6->(¬2<=a)->3≠a:=by lia
theorem o1365{a b:Nat}:b=(1000000:Nat)->(a<=(3:Nat)\/a=(8:Nat))->(↑a:Int).natAbs<b:=by lia
theorem o1366{a b c:Nat}:1<=c->c<=3->b=1000000->a=c->a<b:=by intros;(try subst_vars);with_reducible exact Nat.lt_of_le_of_lt (by assumption) (by decide)
theorem o1367{a b:Nat}:(1:Nat)<=b->b<=(3:Nat)->a=b->(↑a:Int)≠(0:Int):=by lia
theorem o1368{a b c d:Nat}:b+c<=8->b+a=8->c=d+1->a=a-1+1:=by lia
theorem o1369{a b c d:Nat}:Qd [a,b,c,d] (.i 0 1 (.a Y0 Y2) (.n 8) (.i 5 1 Y2 (.a Y1 X1) (.i 2 0 (.a Y0 (.a Y3 X1)) (.n 8) (.g 0 (.a (.a Y0 X1) Y1) (.n 8))))):=qli _ _ rfl
theorem o1370{a b:Nat}:a+(b+1)=8->a+1+b=8:=λ h0=>Nat.le_antisymm (qli [a,b] (.i 2 1 (.a Y0 (.a Y1 X1)) (.n 8) (.g 0 (.a (.a Y0 X1) Y1) (.n 8))) rfl h0) (qli [a,b] (.i 5 1 (.a Y0 (.a Y1 X1)) (.n 8) (.g 0 (.n 8) (.a (.a Y0 X1) Y1))) rfl h0)
theorem o1375{a:Nat}:a<=3->a≠8:=by lia
theorem ne0{k d:Nat}(h:k<=d)(h':0<k):d≠0:=Nat.ne_of_gt (Nat.lt_of_lt_of_le h' h)
theorem ne0'{k d:Nat}(h:k<d):d≠0:=Nat.ne_of_gt (Nat.lt_of_le_of_lt (Nat.zero_le k) h)
theorem tl1{n m b:Nat}(ht:m=1000000)(h:n<b)(hb:b<=1000000):n<m:=ht▸Nat.lt_of_lt_of_le h hb
theorem tl2{n n' m b:Nat}(ht:m=1000000)(e:n'=n)(h:n'<b)(hb:b<=1000000):n<m:=e▸tl1 ht h hb
theorem tl3{n n' m b:Nat}(ht:m=1000000)(e:n=n')(h:n'<b)(hb:b<=1000000):n<m:=e▸tl1 ht h hb
end U
namespace U
open PySem
set_option genSizeOf false
set_option genInjectivity false
noncomputable def OkP{α:Type}(o:Option α)(k:α->Prop):Prop:=match o with
 | some v=>k v
 | none=>False
noncomputable def WifP(b:Bool)(p q:Prop):Prop:=match b with
 | true=>p
 | false=>q
noncomputable def NewO(Z:Hp)(o:AO)(Q:Post):Prop:=∀ a,Z a=none->Q (.ref a) (setH Z a o)
noncomputable def SetO(Z:Hp)(a:Addr)(o:AO)(k:Hp->Prop):Prop:=k (setH Z a o)
noncomputable def locAt:Loc->Nat->Option AV
 | [],_=>none
 | x::_,0=>x
 | _::r,i+1=>locAt r i
noncomputable def TruP(v:AV)(k:Bool->Prop):Prop:=match v with
 | .none=>k false
 | .bool b=>k b
 | .int i=>k (i != 0)
 | _=>False
noncomputable def OneP(vs:List AV)(f:AV->Prop):Prop:=match vs with
 | [x]=>f x
 | _=>False
noncomputable def TwoP(vs:List AV)(f:AV->AV->Prop):Prop:=match vs with
 | [x,y]=>f x y
 | _=>False
noncomputable def IntP(x:AV)(f:Int->Prop):Prop:=match x with
 | .int i=>f i
 | _=>False
noncomputable def IIP(vs:List AV)(f:Int->Int->Prop):Prop:=TwoP vs λ x y=>IntP x λ a=>IntP y λ b=>f a b
noncomputable def BoolP(x:AV)(f:Bool->Prop):Prop:=match x with
 | .bool i=>f i
 | _=>False
noncomputable def StrP(x:AV)(f:Txt->Prop):Prop:=match x with
 | .str i=>f i
 | _=>False
noncomputable def RefP(x:AV)(f:Addr->Prop):Prop:=match x with
 | .ref i=>f i
 | _=>False
noncomputable def NonP(x:AV)(p:Prop):Prop:=match x with
 | .none=>p
 | _=>False
noncomputable def AddR(Z:Hp)(o p:AO)(Q:Post):Prop:=match o,p with
 | .tup xs,.tup ys=>(xs≠[]/\ys≠[]/\xs.length+ys.length<tooLong)/\NewO Z (.tup (xs++ys)) Q
 | .list xs,.list ys=>xs.length+ys.length<tooLong/\NewO Z (.list (xs++ys)) Q
 | _,_=>False
noncomputable def AddP(Z:Hp)(x y:AV)(Q:Post):Prop:=match x with
 | .int a=>IntP y λ b=>Q (.int (a+b)) Z
 | .str a=>StrP y λ b=>a.length+b.length<tooLong/\Q (.str (a++b)) Z
 | .ref a=>RefP y λ b=>OkP (Z a) λ o=>OkP (Z b) λ p=>AddR Z o p Q
 | _=>False
noncomputable def isN:AV->Bool
 | .none=>true
 | _=>false
noncomputable def EqP(Z:Hp)(x y:AV)(k:Bool->Prop):Prop:=match x.scal&&y.scal with
 | true=>k (eqS x y)
 | false=>∃ b,EqV Z 98 x y b/\k b
noncomputable def NeP(x y:AV)(k:Bool->Prop):Prop:=match x.scal&&y.scal with
 | true=>k (!(eqS x y))
 | false=>False
noncomputable def seqP(o:AO)(k:List AV->Prop)(k':List (Txt×AV)->Prop):Prop:=match o with
 | .list xs | .flist xs | .tup xs=>k xs
 | .dict es | .fdict es=>k' es
 | _=>False
noncomputable def InS(Z:Hp)(xs:List AV)(x:AV)(k:Bool->Prop):Prop:=∃ e:AV->Bool,(∀ y∈xs,EqV Z 99 y x (e y))/\k (xs.any e)
noncomputable def oneC(s:Txt)(k:Nat->Prop):Prop:=match s with
 | [c]=>k c
 | _=>False
noncomputable def InP(Z:Hp)(x y:AV)(k:Bool->Prop):Prop:=match y with
 | .str t=>StrP x λ s=>oneC s λ c=>k (t.contains c)
 | .ref a=>OkP (Z a) λ o=>seqP o (λ xs=>InS Z xs x k) (λ es=>StrP x λ kk=>k (es.lookup kk).isSome)
 | _=>False
noncomputable def LenP(Z:Hp)(x:AV)(k:Nat->Prop):Prop:=match x with
 | .str s=>k s.length
 | .ref a=>OkP (Z a) λ o=>seqP o (λ xs=>k xs.length) (λ es=>k es.length)
 | _=>False
noncomputable def itemL{α:Type}(xs:List α)(i:Int):Option α:=if i.natAbs<2 ^ 62 then (seqIndex? i xs.length).bind (xs[·]?) else none
noncomputable def ItemP(Z:Hp)(x y:AV)(Q:Post):Prop:=match x with
 | .ref a=>OkP (Z a) λ o=>seqP o (λ xs=>IntP y λ i=>OkP (itemL xs i) λ v=>Q v Z) (λ es=>StrP y λ kk=>OkP (es.lookup kk) λ v=>Q v Z)
 | .str s=>IntP y λ i=>OkP (itemL s i) λ c=>Q (.str [c]) Z
 | _=>False
noncomputable def PartP(x:AV)(k:Option Int->Prop):Prop:=match x with
 | .none=>k none
 | .int i=>k (some i)
 | _=>False
noncomputable def ListP(o:AO)(k:List AV->Prop):Prop:=match o with
 | .list xs | .flist xs=>k xs
 | _=>False
noncomputable def SqP(o:AO)(k k':List AV->Prop):Prop:=match o with
 | .list xs | .flist xs=>k xs
 | .tup xs=>k' xs
 | _=>False
noncomputable def SliP(Z:Hp)(x l h t:AV)(Q:Post):Prop:=match x with
 | .ref a=>OkP (Z a) λ o=>SqP o (λ xs=>PartP l λ lo=>PartP h λ hi=>PartP t λ st=>(st≠some 0/\xs.length<tooLong)/\NewO Z (.list (cut xs lo hi st)) Q)
   λ xs=>NonP l (IntP h λ i=>NonP t ((0<=i/\i.toNat<xs.length/\xs.length<tooLong)/\NewO Z (.tup (xs.take i.toNat)) Q))
 | .str s=>PartP l λ lo=>PartP h λ hi=>NonP t (s.length<tooLong/\Q (.str (cut s lo hi none)) Z)
 | _=>False
noncomputable def OwnL(o:AO)(k:List AV->Prop):Prop:=match o with
 | .list xs=>k xs
 | _=>False
noncomputable def DicP(o:AO)(k:List (Txt×AV)->Prop):Prop:=match o with
 | .dict es | .fdict es=>k es
 | _=>False
noncomputable def TupP(o:AO)(k:List AV->Prop):Prop:=match o with
 | .tup xs=>k xs
 | _=>False
noncomputable def strs?:List AV->Option (List Txt)
 | []=>some []
 | .str s::r=>(strs? r).map (s::·)
 | _=>none
noncomputable def bools?:List AV->Option (List Bool)
 | []=>some []
 | .bool s::r=>(bools? r).map (s::·)
 | _=>none
noncomputable def ThreeP(vs:List AV)(f:AV->AV->AV->Prop):Prop:=match vs with
 | [x,y,z]=>f x y z
 | _=>False
noncomputable def FourP(vs:List AV)(f:AV->AV->AV->AV->Prop):Prop:=match vs with
 | [x,y,z,u]=>f x y z u
 | _=>False
noncomputable def InstP(o:AO)(k:String->Addr->Prop):Prop:=match o with
 | .inst c d=>k c d
 | _=>False
noncomputable def AttP(o:AO)(k:List (Txt×AV)->Prop):Prop:=match o with
 | .attrs es=>k es
 | _=>False
noncomputable def ExcP(o:AO)(k:String->Option Addr->Prop):Prop:=match o with
 | .exc c d=>k c d
 | _=>False
noncomputable def ObjP(Z:Hp)(v:AV)(k:String->Addr->List (Txt×AV)->Prop):Prop:=RefP v λ a=>OkP (Z a) λ o=>InstP o λ c d=>OkP (Z d) λ oa=>AttP oa λ es=>k c d es
noncomputable def initT:Txt:=[95,95,105,110,105,116,95,95]
noncomputable def mxI(a b:Int):Int:=if a<b then b else a
noncomputable def RepP(Z:Hp)(x:AV)(i:Int)(Q:Post):Prop:=match x with
 | .str s=>(i=0\/i=1)/\Q (.str (bif i==1 then s else [])) Z
 | .ref a=>OkP (Z a) λ o=>OwnL o λ xs=>(xs≠[]/\0<=i/\xs.length*i.toNat<tooLong)/\NewO Z (.list (List.replicate i.toNat xs).flatten) Q
 | _=>False
noncomputable def Op:Type:=Hp->List AV->Post->Prop
namespace Op
noncomputable def add:Op:=λ Z vs Q=>TwoP vs λ x y=>AddP Z x y Q
noncomputable def sub:Op:=λ Z vs Q=>IIP vs λ a b=>Q (.int (a-b)) Z
noncomputable def mul:Op:=λ Z vs Q=>IIP vs λ a b=>(a.natAbs<2 ^ 64\/b.natAbs<2 ^ 64)/\Q (.int (a*b)) Z
noncomputable def fdiv:Op:=λ Z vs Q=>IIP vs λ a b=>(b≠0/\b.natAbs<1073741824)/\Q (.int (Int.fdiv a b)) Z
noncomputable def mod:Op:=λ Z vs Q=>IIP vs λ a b=>b≠0/\Q (.int (Int.fmod a b)) Z
noncomputable def neg:Op:=λ Z vs Q=>OneP vs λ x=>IntP x λ i=>Q (.int (-i)) Z
noncomputable def not:Op:=λ Z vs Q=>OneP vs λ v=>TruP v λ b=>Q (.bool !b) Z
noncomputable def eq:Op:=λ Z vs Q=>TwoP vs λ x y=>EqP Z x y λ b=>Q (.bool b) Z
noncomputable def ne:Op:=λ Z vs Q=>TwoP vs λ x y=>NeP x y λ b=>Q (.bool b) Z
noncomputable def lt:Op:=λ Z vs Q=>IIP vs λ a b=>Q (.bool (decide (a<b))) Z
noncomputable def le:Op:=λ Z vs Q=>IIP vs λ a b=>Q (.bool (decide (a<=b))) Z
noncomputable def gt:Op:=λ Z vs Q=>IIP vs λ a b=>Q (.bool (decide (b<a))) Z
noncomputable def ge:Op:=λ Z vs Q=>IIP vs λ a b=>Q (.bool (decide (b<=a))) Z
noncomputable def is:Op:=λ Z vs Q=>TwoP vs λ x y=>NonP y (Q (.bool (isN x)) Z)
noncomputable def isnot:Op:=λ Z vs Q=>TwoP vs λ x y=>NonP y (Q (.bool !(isN x)) Z)
noncomputable def isin:Op:=λ Z vs Q=>TwoP vs λ x y=>InP Z x y λ b=>Q (.bool b) Z
noncomputable def notin:Op:=λ Z vs Q=>TwoP vs λ x y=>InP Z x y λ b=>Q (.bool !b) Z
noncomputable def len:Op:=λ Z vs Q=>OneP vs λ x=>LenP Z x λ n=>n<tooLong/\Q (.int (n:Int)) Z
noncomputable def isinst(ts:List String):Op:=λ Z vs Q=>OneP vs λ v=>OkP (kindIs Z v) λ q=>Q (.bool (isOf q ts)) Z
noncomputable def toInt:Op:=λ Z vs Q=>OneP vs λ x=>BoolP x λ b=>Q (.int (b2i b)) Z
noncomputable def toStr:Op:=λ Z vs Q=>OneP vs λ x=>IntP x λ i=>i.natAbs<10 ^ 9/\Q (.str (figs i)) Z
noncomputable def min:Op:=λ Z vs Q=>IIP vs λ a b=>Q (.int (if b<a then b else a)) Z
noncomputable def max:Op:=λ Z vs Q=>IIP vs λ a b=>Q (.int (mxI a b)) Z
noncomputable def all:Op:=λ Z vs Q=>OneP vs λ x=>RefP x λ a=>OkP (Z a) λ o=>OwnL o λ xs=>OkP (bools? xs) λ bs=>Q (.bool (bs.all id)) Z
noncomputable def item:Op:=λ Z vs Q=>TwoP vs λ x y=>ItemP Z x y Q
noncomputable def slice:Op:=λ Z vs Q=>FourP vs λ x l h t=>SliP Z x l h t Q
noncomputable def mkList:Op:=λ Z vs Q=>vs.length<tooLong/\NewO Z (.list vs) Q
noncomputable def mkTup:Op:=λ Z vs Q=>vs.length<tooLong/\NewO Z (.tup vs) Q
noncomputable def rep:Op:=λ Z vs Q=>TwoP vs λ x y=>IntP y λ i=>RepP Z x i Q
noncomputable def mkDict0:Op:=λ Z vs Q=>vs.length=0/\NewO Z (.dict []) Q
end Op
structure BOp where
 self:String
 p:Op
namespace BOp
noncomputable def append:BOp:=⟨"list",λ Z vs Q=>TwoP vs λ x v=>RefP x λ a=>OkP (Z a) λ o=>OwnL o λ xs=>xs.length<tooLong/\SetO Z a (.list (xs++[v])) λ Z'=>Q .none Z'⟩
noncomputable def get:BOp:=⟨"dict",λ Z vs Q=>ThreeP vs λ x y v=>RefP x λ a=>StrP y λ kk=>OkP (Z a) λ o=>DicP o λ es=>Q ((es.lookup kk).getD v) Z⟩
noncomputable def index:BOp:=⟨"list",λ Z vs Q=>TwoP vs λ x y=>RefP x λ a=>StrP y λ kk=>OkP (Z a) λ o=>OwnL o λ xs=>OkP (strs? xs) λ ss=>OkP (ss.findIdx? (·==kk)) λ j=>ss.length<tooLong/\Q (.int (j:Int)) Z⟩
noncomputable def join:BOp:=⟨"str",λ Z vs Q=>TwoP vs λ x y=>StrP x λ sep=>RefP y λ a=>OkP (Z a) λ o=>OwnL o λ xs=>OkP (strs? xs) λ ss=>(ss.map List.length).sum+ss.length*sep.length<tooLong/\Q (.str (joinT sep ss)) Z⟩
noncomputable def extend:BOp:=⟨"list",λ Z vs Q=>TwoP vs λ x y=>RefP x λ a=>RefP y λ b=>OkP (Z a) λ o=>OwnL o λ xs=>OkP (Z b) λ p=>OwnL p λ ys=>xs.length+ys.length<tooLong/\SetO Z a (.list (xs++ys)) λ Z'=>Q .none Z'⟩
noncomputable def pop:BOp:=⟨"list",λ Z vs Q=>OneP vs λ x=>RefP x λ a=>OkP (Z a) λ o=>OwnL o λ xs=>OkP xs.getLast? λ v=>xs.length<tooLong/\SetO Z a (.list xs.dropLast) λ Z'=>Q v Z'⟩
end BOp
noncomputable def bindIt(Z:Hp):List Nat->It->Loc->Option Loc
 | [i],.one v,ρ=>some (ρ.set i (some v))
 | [i,j],.two a b,ρ=>some ((ρ.set i (some a)).set j (some b))
 | is,.one (.ref t),ρ=>if 2<=is.length then (match Z t with | some (.tup vs)=>if vs.length=is.length then some (setAll ρ is vs) else none | _=>none) else none
 | _,_,_=>none
noncomputable def pIn(_:Gd)(Z:Hp)(Q:Hp->Prop):Prop:=Q Z
noncomputable def pOut(_:Gd)(Z:Hp)(Q:Hp->Prop):Prop:=Q Z
noncomputable def pCompL(step:Loc->Hp->(Option AV->Hp->Prop)->Prop)(is:List Nat)(ρ:Loc)(g:Gd):List It->List AV->Hp->Post->Prop
 | [],acc,Z,Q=>gOk g Z/\pOut g Z λ Z'=>NewO Z' (.list acc) Q
 | it::r,acc,Z,Q=>gOk g Z/\acc.length<tooLong/\∃ ρ',bindIt Z is it ρ=some ρ'/\step ρ' Z λ v Z'=>pCompL step is ρ g r (match v with | some v=>acc++[v] | none=>acc) Z' Q
noncomputable def itP(a:Addr)(o:AO)(Q:List It->Gd->Prop):Prop:=match o with
 | .list vs=>Q (vs.map .one) (.keep a (.list vs))
 | .flist vs=>Q (vs.map .one) (.keep a (.flist vs))
 | .tup vs=>Q (vs.map .one) (.keep a (.tup vs))
 | _=>False
noncomputable def pIters(Z:Hp)(v:AV)(Q:List It->Gd->Prop):Prop:=match v with
 | .ref a=>OkP (Z a) λ o=>itP a o Q
 | .str s=>(∀ c∈s,c<128)/\Q (s.map λ c=>.one (.str [c])) .no
 | _=>False
noncomputable def rngP(vs:List AV)(Q:List It->Gd->Prop):Prop:=match vs with
 | [x]=>IntP x λ hi=>hi.natAbs<tooLong/\Q (rangeOf 0 hi) .no
 | [x,y]=>IntP x λ lo=>IntP y λ hi=>(lo.natAbs<tooLong/\hi.natAbs<tooLong)/\Q (rangeOf lo hi) .no
 | _=>False
noncomputable def PE:Type:=Kx->Bool->Nat->Loc->Hp->Post->XPost->Prop
noncomputable def PI:Type:=Kx->Bool->Nat->Loc->Hp->(List It->Gd->Hp->Prop)->XPost->Prop
noncomputable def Tgt:Type:=Kx->Bool->Nat->AV->Loc->Hp->SPost->XPost->Prop
noncomputable def PS:Type:=Kx->Bool->Nat->Loc->Hp->SPost->Post->SX->Prop
noncomputable def pEs(K:Kx)(hd:Bool)(d:Nat):List PE->Loc->Hp->(List AV->Hp->Prop)->XPost->Prop
 | [],_,Z,Q,_=>Q [] Z
 | e::es,ρ,Z,Q,X=>e K hd d ρ Z (λ v Z'=>pEs K hd d es ρ Z' (λ vs Z''=>Q (v::vs) Z'') X) X
noncomputable def pC(K:Kx)(hd:Bool)(d:Nat)(c:Option PE)(ρ:Loc)(Z:Hp)(Q:Bool->Hp->Prop)(X:XPost):Prop:=match c with
 | none=>Q true Z
 | some e=>e K hd d ρ Z (λ v Z'=>TruP v λ t=>Q t Z') X
namespace PE
noncomputable def lit(v:AV):PE:=λ V V V V Z Q V=>Q v Z
noncomputable def loc(i:Nat):PE:=λ V V V ρ Z Q V=>OkP (locAt ρ i) λ v=>Q v Z
noncomputable def prim(op:Op)(es:List PE):PE:=λ K hd d ρ Z Q X=>pEs K hd d es ρ Z (λ vs Z'=>op Z' vs Q) X
noncomputable def bm(op:BOp)(o:PE)(es:List PE):PE:=λ K hd d ρ Z Q X=>o K hd d ρ Z (λ v Z1=>kindIs Z1 v=some op.self/\pEs K hd d es ρ Z1 (λ vs Z'=>op.p Z' (v::vs) Q) X) X
noncomputable def and(a b:PE):PE:=λ K hd d ρ Z Q X=>a K hd d ρ Z (λ v Z'=>TruP v λ t=>WifP t (b K hd d ρ Z' Q X) (Q v Z')) X
noncomputable def or(a b:PE):PE:=λ K hd d ρ Z Q X=>a K hd d ρ Z (λ v Z'=>TruP v λ t=>WifP t (Q v Z') (b K hd d ρ Z' Q X)) X
noncomputable def ite(c a b:PE):PE:=λ K hd d ρ Z Q X=>c K hd d ρ Z (λ v Z'=>TruP v λ t=>WifP t (a K hd d ρ Z' Q X) (b K hd d ρ Z' Q X)) X
noncomputable def cmp2 (o₁ o₂ : Op) (a b c : PE) : PE := fun K hd d ρ Z Q X => a K hd d ρ Z (fun x Z1 => b K hd d ρ Z1 (fun y Z2 => o₁ Z2 [x, y] fun v Z3 => TruP v fun t =>
      WifP t (c K hd d ρ Z3 (λ z Z4=>o₂ Z4 [y,z] Q) X) (Q v Z3)) X) X
noncomputable def fn(f:String)(es:List PE):PE:=λ K hd d ρ Z Q X=>pEs K hd d es ρ Z (λ vs Z'=>d≠0/\K.fn hd (d-1) f vs Z' Q X) X
noncomputable def attr(n:Txt)(o:PE):PE:=λ K hd d ρ Z Q X=>o K hd d ρ Z (λ v Z'=>ObjP Z' v λ c V es=>K.att c n/\OkP (es.lookup n) λ u=>Q u Z') X
noncomputable def new (c f : String) (es : List PE) : PE := fun K hd d ρ Z Q X => (2 ≤ d ∧ K.mth c initT f) ∧ pEs K hd d es ρ Z (fun vs Z' => ∀ a dd, Z' a = none → Z' dd = none → a ≠ dd →
      K.fn hd (d-2) f (.ref a::vs) (setH (setH Z' dd (.attrs [])) a (.inst c dd)) (λ r Z''=>r=.none/\Q (.ref a) Z'') X) X
noncomputable def dict(ks:List Txt)(es:List PE):PE:=λ K hd d ρ Z Q X=>∀ a,Z a=none->pEs K hd d es ρ (setH Z a (.dict [])) (λ vs Z'=>(vs.length=ks.length/\Z' a=some (.dict []))/\SetO Z' a (.dict (ks.zip vs)) λ Z''=>Q (.ref a) Z'') X
noncomputable def comp (cap : List Bool) (ts : List Nat) (it : PI) (cond : Option PE) (elt : PE) : PE := fun K hd d ρ Z Q X => ρ.length = cap.length ∧ it K hd d ρ Z (fun its g Z1 => pIn g Z1 fun Z1 =>
      pCompL (λ ρ' Z' k=>pC K hd d cond ρ' Z' (λ t Z''=>WifP t (elt K hd d ρ' Z'' (λ v=>k (some v)) λ a Z=>g.iced=false/\X a Z) (k none Z'')) λ a Z=>g.iced=false/\X a Z) ts (maskL cap ρ++ts.map λ V=>none) g its [] Z1 Q) X
end PE
namespace PI
noncomputable def val(e:PE):PI:=λ K hd d ρ Z Q X=>e K hd d ρ Z (λ v Z'=>pIters Z' v λ its g=>Q its g Z') X
noncomputable def range(es:List PE):PI:=λ K hd d ρ Z Q X=>pEs K hd d es ρ Z (λ vs Z'=>rngP vs λ its g=>Q its g Z') X
end PI
noncomputable def pForL(body:Loc->Hp->SPost->Prop)(is:List Nat)(g:Gd):List It->Loc->Hp->SPost->Prop
 | [],ρ,Z,Q=>gOk g Z/\pOut g Z λ Z'=>Q ρ Z'
 | it::r,ρ,Z,Q=>gOk g Z/\∃ ρ',bindIt Z is it ρ=some ρ'/\body ρ' Z λ ρ'' Z'=>pForL body is g r ρ'' Z' Q
noncomputable def ix(i:Int)(n:Nat):Option Nat:=if 0<=i/\i<n/\i.natAbs<2 ^ 62 then some i.toNat else if i=-1/\0<n then some (n-1) else none
noncomputable def stoP(a:Addr)(o:AO)(y v:AV)(Z:Hp)(k:Hp->Prop):Prop:=match o with
 | .list vs=>IntP y λ i=>OkP (ix i vs.length) λ j=>SetO Z a (.list (vs.set j v)) k
 | .dict es=>StrP y λ i=>es.length<tooLong/\SetO Z a (.dict (dset es i v)) k
 | _=>False
noncomputable def StoP(x y v:AV)(Z:Hp)(k:Hp->Prop):Prop:=RefP x λ a=>OkP (Z a) λ o=>stoP a o y v Z k
namespace Tgt
noncomputable def name(i:Nat):Tgt:=λ V V V v ρ Z Q V=>Q (ρ.set i (some v)) Z
noncomputable def tup(is:List Nat):Tgt:=λ V V V v ρ Z Q V=>RefP v λ t=>OkP (Z t) λ o=>TupP o λ vs=>vs.length=is.length/\Q (setAll ρ is vs) Z
noncomputable def item(o i:PE):Tgt:=λ K hd d v ρ Z Q X=>o K hd d ρ Z (λ x Z1=>i K hd d ρ Z1 (λ y Z2=>StoP x y v Z2 λ Z3=>Q ρ Z3) X) X
noncomputable def attr(o:PE)(n:Txt):Tgt:=λ K hd d v ρ Z Q X=>o K hd d ρ Z (λ x Z1=>ObjP Z1 x λ c dd es=>(K.att c n/\es.length<tooLong)/\SetO Z1 dd (.attrs (dset es n v)) λ Z'=>Q ρ Z') X
end Tgt
noncomputable def pSs(K:Kx)(hd:Bool)(d:Nat):List PS->Loc->Hp->SPost->Post->SX->Prop
 | [],ρ,Z,Qn,_,_=>Qn ρ Z
 | s::r,ρ,Z,Qn,Qr,X=>s K hd d ρ Z (λ ρ' Z'=>pSs K hd d r ρ' Z' Qn Qr X) Qr X
namespace PS
noncomputable def expr(e:PE):PS:=λ K hd d ρ Z Qn V X=>e K hd d ρ Z (λ V Z'=>Qn ρ Z') (X ρ)
noncomputable def ret(e:PE):PS:=λ K hd d ρ Z V Qr X=>e K hd d ρ Z Qr (X ρ)
noncomputable def assign(t:Tgt)(e:PE):PS:=λ K hd d ρ Z Qn V X=>e K hd d ρ Z (λ v Z'=>t K hd d v ρ Z' Qn (X ρ)) (X ρ)
noncomputable def iff(c:PE)(a b:List PS):PS:=λ K hd d ρ Z Qn Qr X=>c K hd d ρ Z (λ v Z'=>TruP v λ t=>WifP t (pSs K hd d a ρ Z' Qn Qr X) (pSs K hd d b ρ Z' Qn Qr X)) (X ρ)
noncomputable def «for» (is:List Nat)(it:PI)(body:List PS):PS:=λ K hd d ρ Z Qn Qr X=>it K hd d ρ Z (λ its g Z'=>pIn g Z' λ Z'=>pForL (λ ρ' Z'' k=>pSs K hd d body ρ' Z'' k (λ v Z=>g.iced=false/\Qr v Z) (λ ρ a Z=>g.iced=false/\X ρ a Z)) is g its ρ Z' Qn) (X ρ)
noncomputable def «while» (c : PE) (body : List PS) : PS := fun K hd d ρ Z Qn Qr X => ∃ I : Nat → Loc → Hp → Prop, (∃ n, I n ρ Z) ∧ ∀ n ρ' Z', I n ρ' Z' →
      c K hd d ρ' Z' (λ v Z''=>TruP v λ t=>WifP t (pSs K hd d body ρ' Z'' (λ ρ1 Z1=>∃ m,m<n/\I m ρ1 Z1) Qr X) (Qn ρ' Z'')) (X ρ')
noncomputable def raise(c:String)(es:List PE):PS:=λ K hd d ρ Z V V X=>K.exc c/\pEs K hd d es ρ Z (λ vs Z'=>vs.length<tooLong/\∀ a,Z' a=none->X ρ a (setH Z' a (.exc c none))) (X ρ)
noncomputable def «try» (body:List PS)(c:String)(handler:List PS):PS:=λ K hd d ρ Z Qn Qr X=>pSs K hd d body ρ Z Qn Qr (λ ρ' a Z'=>OkP (Z' a) λ o=>ExcP o λ c' V=>(c'=c/\K.exc c)/\pSs K true d handler ρ' Z' Qn Qr (λ V V V=>False))
end PS
structure Fn where
 np:Nat
 names:Nat
 body:List PS
noncomputable def args1(n:Nat)(vs:List AV):Loc:=vs.map some++List.replicate (n-vs.length) none
structure Tab(K:Kx)(tab:List (String×Fn)):Prop where
 ent:∀ n fn,(n,fn)∈tab->∀ {d vs Z Q X},vs.length=fn.np->pSs K false d fn.body (args1 fn.names vs) Z (λ V Z'=>Q .none Z') Q (λ V a Z'=>X a Z')->K.fn false d n vs Z Q X
theorem setH_here(Z:Hp)(a:Addr)(o:AO):setH Z a o a=some o:=if_pos rfl
theorem setH_ne{Z:Hp}{a b:Addr}{o:AO}(h:b≠a):setH Z a o b=Z b:=if_neg h
theorem setH_old{Z:Hp}{a b:Addr}{o p:AO}(h:Z b=some p)(h':Z a=none):setH Z a o b=some p:=by
 rw [setH_ne λ e=>by rw [e,h'] at h;cases h];exact h
theorem lookup_map_ne{n k:Txt}(v:AV)(h:(k==n)=false):∀ es:List (Txt×AV),(es.map λ e=>if e.1==n then (e.1,v) else e).lookup k=es.lookup k
 | []=>rfl
 | (x,u)::r=>by
  rw [map_cons,lookup_cons]
  by_cases q:(x==n)=true
  . rw [if_pos q,lookup_cons,beq_iff_eq.mp q,h];exact lookup_map_ne v h r
  . rw [if_neg q,lookup_cons,lookup_map_ne v h r]
theorem lookup_map_here{n:Txt}(v:AV):∀ es:List (Txt×AV),es.any (λ e=>e.1==n)=true->(es.map λ e=>if e.1==n then (e.1,v) else e).lookup n=some v
 | [],h=>nomatch h
 | (x,u)::r,h=>by
  rw [map_cons]
  by_cases q:(x==n)=true
  . rw [if_pos q,lookup_cons,beq_iff_eq.mp q,beq_self_eq_true]
  . rw [if_neg q,lookup_cons,show (n==x)=false from beq_eq_false_iff_ne.mpr λ e=>q (beq_iff_eq.mpr e.symm)]
    refine lookup_map_here v r ?_
    rw [any_cons] at h
    exact (Bool.or_eq_true_iff.mp h).resolve_left q
theorem lookup_app_ne{n k:Txt}{v:AV}(h:(k==n)=false):∀ es:List (Txt×AV),(es++[(n,v)]).lookup k=es.lookup k
 | []=>by rw [List.nil_append,lookup_cons,h]
 | (x,u)::r=>by rw [cons_append,lookup_cons,lookup_cons,lookup_app_ne h r]
theorem lookup_app_here{n:Txt}{v:AV}:∀ es:List (Txt×AV),es.any (λ e=>e.1==n)=false->(es++[(n,v)]).lookup n=some v
 | [],_=>by rw [List.nil_append,lookup_cons,beq_self_eq_true]
 | (x,u)::r,h=>by
  rw [any_cons,Bool.or_eq_false_iff] at h
  rw [cons_append,lookup_cons,show (n==x)=false from beq_eq_false_iff_ne.mpr λ e=>beq_eq_false_iff_ne.mp h.1 e.symm];exact lookup_app_here r h.2
theorem dset_here(es:List (Txt×AV))(n:Txt)(v:AV):(dset es n v).lookup n=some v:=by
 unfold dset
 by_cases q:es.any (λ e=>e.1==n)=true
 . rw [if_pos q];exact lookup_map_here v es q
 . rw [if_neg q];exact lookup_app_here es (Bool.eq_false_iff.mpr q)
theorem dset_ne{es:List (Txt×AV)}{n k:Txt}(v:AV)(h:k≠n):(dset es n v).lookup k=es.lookup k:=by
 have h:(k==n)=false:=beq_eq_false_iff_ne.mpr h
 unfold dset
 split
 . exact lookup_map_ne v h es
 . exact lookup_app_ne h es
end U
namespace U
open PySem
namespace Op
noncomputable def toList:Op:=λ Z vs Q=>OneP vs λ x=>RefP x λ a=>OkP (Z a) λ o=>OwnL o λ xs=>xs.length<tooLong/\NewO Z (.list xs) Q
end Op
noncomputable def XK(K:Kx)(c:String):Prop:=∃ f,K.xin c f
noncomputable def XobP(Z:Hp)(v:AV)(k:Addr->String->Option Addr->Prop):Prop:=RefP v λ a=>OkP (Z a) λ o=>ExcP o λ c d=>k a c d
noncomputable def xset(Z:Hp)(a:Addr)(c:String)(d:Option Addr)(n:Txt)(v:AV)(k:Hp->Prop):Prop:=match d with
 | none=>∀ dd,Z dd=none->k (setH (setH Z dd (.attrs [(n,v)])) a (.exc c (some dd)))
 | some _=>False
namespace PE
noncomputable def xattr(n:Txt)(o:PE):PE:=λ K hd d ρ Z Q X=>o K hd d ρ Z (λ v Z'=>XobP Z' v λ V c dd=>K.xat c n/\OkP dd λ dd=>OkP (Z' dd) λ oa=>AttP oa λ es=>OkP (es.lookup n) λ u=>Q u Z') X
noncomputable def isX(c:String)(o:PE):PE:=λ K hd d ρ Z Q X=>o K hd d ρ Z (λ v Z'=>XobP Z' v λ V c' V=>∃ b,K.isx c' c b/\Q (.bool b) Z') X
noncomputable def isV(o:PE):PE:=λ K hd d ρ Z Q X=>o K hd d ρ Z (λ v Z'=>XobP Z' v λ V c' V=>XK K c'/\Q (.bool true) Z') X
noncomputable def newX (c f : String) (es : List PE) : PE := fun K hd d ρ Z Q X => (2 ≤ d ∧ K.xin c f) ∧ pEs K hd d es ρ Z (fun vs Z' => vs.length < tooLong ∧ ∀ a, Z' a = none →
      K.fn hd (d-2) f (.ref a::vs) (setH Z' a (.exc c none)) (λ r Z''=>(r=.none/\∃ dd,Z'' a=some (.exc c dd))/\Q (.ref a) Z'') X) X
noncomputable def binit(o:PE)(_:Txt):PE:=λ K hd d ρ Z Q X=>o K hd d ρ Z (λ v Z'=>XobP Z' v λ V c V=>XK K c/\Q .none Z') X
end PE
namespace Tgt
noncomputable def xattr(o:PE)(n:Txt):Tgt:=λ K hd d v ρ Z Q X=>o K hd d ρ Z (λ x Z1=>XobP Z1 x λ a c dd=>K.xat c n/\xset Z1 a c dd n v λ Z'=>Q ρ Z') X
end Tgt
namespace PI
noncomputable def enum(e:PE):PI:=λ K hd d ρ Z Q X=>e K hd d ρ Z (λ v Z'=>RefP v λ a=>OkP (Z' a) λ o=>ListP o λ vs=>Q (enumOf vs) (.keep a o) Z') X
end PI
namespace PS
noncomputable def raiseI (c f : String) (es : List PE) : PS := fun K hd d ρ Z V V X => (2 ≤ d ∧ K.xin c f) ∧ pEs K hd d es ρ Z (fun vs Z' => vs.length < tooLong ∧ ∀ a, Z' a = none →
      K.fn hd (d-2) f (.ref a::vs) (setH Z' a (.exc c none)) (λ r Z''=>(r=.none/\∃ dd,Z'' a=some (.exc c dd))/\X ρ a Z'') (X ρ)) (X ρ)
noncomputable def tryAs (body : List PS) (c : String) (i : Nat) (handler : List PS) : PS := fun K hd d ρ Z Qn Qr X => pSs K hd d body ρ Z Qn Qr (fun ρ' a Z' => OkP (Z' a) fun o => ExcP o fun c' V => K.isx c' c true ∧
      pSs K true d handler (ρ'.set i (some (.ref a))) Z' (λ ρ'' Z''=>Qn (ρ''.set i none) Z'') Qr (λ V V V=>False))
end PS
structure TabH(K:Kx)(tab:List (String×Fn)):Prop where
 ent:∀ n fn,(n,fn)∈tab->∀ {d vs Z Q X},vs.length=fn.np->pSs K true d fn.body (args1 fn.names vs) Z (λ V Z'=>Q .none Z') Q (λ V a Z'=>X a Z')->K.fn true d n vs Z Q X
end U
namespace U
open PySem
namespace Op
end Op
namespace PI
end PI
theorem comp_inv{α:Type}{step:Loc->Hp->(Option AV->Hp->Prop)->Prop}{is:List Nat}{ρ:Loc}{Q:Post}{a:Addr}{o:AO}(G:α->It)(P:α->Loc)(I:List α->List AV->Hp->Prop)(hg:∀ r acc Z,I r acc Z->Z a=some o/\acc.length<tooLong)
  (hs:∀ x r acc Z (c:Option AV->Hp->Prop),I (x::r) acc Z->(∀ v Z',I r (acc++[v]) Z'->c (some v) Z')->bindIt Z is (G x) ρ=some (P x)/\step (P x) Z c) (he:∀ acc Z,I [] acc Z->NewO Z (.list acc) Q):
  ∀ (xs:List α) (acc:List AV) (Z:Hp),I xs acc Z->pCompL step is ρ (.keep a o) (xs.map G) acc Z Q
 | [],acc,Z,hI=>⟨(hg _ _ _ hI).1,he _ _ hI⟩
 | x::xs,acc,Z,hI=>⟨(hg _ _ _ hI).1,(hg _ _ _ hI).2,P x,(hs x xs acc Z (λ v Z'=>pCompL step is ρ (.keep a o) (xs.map G) (match v with | some v=>acc++[v] | none=>acc) Z' Q) hI λ v Z' h=>comp_inv G P I hg hs he xs _ Z' h)⟩
end U
namespace U
open PySem
noncomputable def Le(Z Z':Hp):Prop:=∀ b o,Z b=some o->Z' b=some o
theorem Le.refl(Z:Hp):Le Z Z:=λ V V h=>h
theorem Le.trans{Z1 Z2 Z3:Hp}(h:Le Z1 Z2)(h':Le Z2 Z3):Le Z1 Z3:=λ V V e=>h' _ _ (h _ _ e)
theorem ne_of{Z:Hp}{a b:Addr}{o:AO}(h:Z b=some o)(h':Z a=none):b≠a:=λ e=>by rw [e,h'] at h;cases h
theorem Le.new{Z:Hp}{a:Addr}{o:AO}(h:Z a=none):Le Z (setH Z a o):=λ V V e=>setH_old e h
theorem Le.set{Z Z':Hp}{a:Addr}{o:AO}(h:Le Z Z')(hf:Z a=none):Le Z (setH Z' a o):=λ b p e=>by rw [setH_ne (ne_of e hf)];exact h _ _ e
noncomputable def pick(vs:List AV)(i:Int):AV:=vs.getD i.toNat .none
theorem seqIndex_ok{i:Int}{n:Nat}(h0:0<=i)(h1:i<n):seqIndex? i n=some i.toNat:=by
 have h:¬i<0:=by exact o1 h0
 simp [seqIndex?,h,h0,h1]
theorem fmod_lo(a:Int){b:Int}(h:0<b):0<=Int.fmod a b:=Int.fmod_nonneg_of_pos _ h
theorem fmod_hi(a:Int){b:Int}(h:0<b):Int.fmod a b<b:=Int.fmod_lt_of_pos _ h
noncomputable def bnd(n:Nat)(i:Int):Nat:=(max 0 (min (if i<0 then i+n else i) (n:Int))).toNat
theorem bnd_le(n:Nat)(i:Int):bnd n i<=n:=Int.toNat_le.mpr (Int.max_le.mpr ⟨Int.natCast_nonneg _,Int.min_le_right _ _⟩)
theorem range_pickN{α:Type}(xs:List α):∀ (m a:Nat),a+m<=xs.length->(List.range m).filterMap (λ k=>xs[a+k]?)=(xs.drop a).take m:=by
 intro m
 induction m with
 | zero=>intro a h;simp
 | succ m ih=>
  intro a h
  rw [range_succ_eq_map,filterMap_cons,filterMap_map]
  have ha:a<xs.length:=by exact o2 h
  simp only [Nat.add_zero]
  rw [List.getElem?_eq_getElem ha]
  simp only
  have:=ih (a+1) (by exact o3 h)
  rw [List.drop_eq_getElem_cons ha,List.take_succ_cons,<-this]
  have e:((λ k=>xs[a+k]?) ∘ Nat.succ)=λ k=>xs[a+1+k]?:=by
   funext k
   show xs[a+(k+1)]?=_
   congr 1;exact o4
  rw [e]
set_option tactic.hygienic true in
theorem cut_of{α:Type}(xs:List α)(lo hi:Option Int){a b:Nat}(ha:a=(match lo with | some i=>bnd xs.length i | none=>0))(hb:b=(match hi with | some i=>bnd xs.length i | none=>xs.length)):cut xs lo hi none=(xs.take b).drop a:=by
 have hbl:b<=xs.length:=by subst hb;cases hi <;> simp [bnd_le]
 have hal:a<=xs.length:=by subst ha;cases lo <;> simp [bnd_le]
 have e:cut xs lo hi none=(sliceRange (a:Int) (b:Int) 1).filterMap (xs[·]?):=by
  unfold cut sliceBounds
  have h1:(1:Int)>0:=by decide
  simp only [Option.getD_none,h1,if_true]
  congr 1
  congr 1
  . subst ha;cases lo <;> simp [bnd] <;> split <;> omega
  . subst hb;cases hi <;> simp [bnd] <;> split <;> omega
 rw [e]
 unfold sliceRange
 have h1:(1:Int)>0:=by decide
 simp only [h1,if_true,Int.one_mul]
 have hc:(if (a:Int)<(b:Int) then ((b:Int)-(a:Int)+1-1) / 1 else 0).toNat=b-a:=by
  split <;> rename_i h
  . rw [Int.add_sub_cancel,Int.ediv_one];exact Int.toNat_sub b a
  . exact (Nat.sub_eq_zero_of_le (Int.ofNat_le.mp (Int.not_lt.mp h))).symm
 rw [hc,filterMap_map]
 have:(λ (k:Nat)=>xs[a+k]?)=((λ x=>xs[x]?) ∘ λ (k:Nat)=>((a:Int)+(k:Int)).toNat):=by
  funext k
  show xs[a+k]?=xs[((a:Int)+(k:Int)).toNat]?
  congr 1
 rw [<-this]
 by_cases hab:a<=b
 . rw [range_pickN xs (b-a) a (by exact o5 ha hb hbl hab),List.take_drop]
   congr 2;exact o6 ha hb hab
 . rw [Nat.sub_eq_zero_of_le (by exact o7 ha hb hab)]
   simp
   exact o8 ha hb hbl hab
theorem bnd_pos(n:Nat){i:Int}(h:0<=i):bnd n i=min i.toNat n:=by
 obtain ⟨k,rfl⟩:=Int.eq_ofNat_of_zero_le h
 unfold bnd
 rw [if_neg (Int.not_lt.mpr h),Int.toNat_natCast]
 exact o9 h
theorem cut_to{α:Type}(xs:List α){i:Int}(h:0<=i):cut xs none (some i) none=xs.take i.toNat:=by
 rw [cut_of xs none (some i) rfl rfl,List.drop_zero]
 have:bnd xs.length i=min i.toNat xs.length:=bnd_pos _ h
 simp only [this]
 rcases Nat.le_total i.toNat xs.length with q | q
 . rw [Nat.min_eq_left q]
 . rw [Nat.min_eq_right q,List.take_length,List.take_of_length_le q]
theorem cut_mid{α:Type}(xs:List α){i j:Int}(h:0<=i)(h':0<=j):cut xs (some i) (some j) none=(xs.take j.toNat).drop i.toNat:=by
 rw [cut_of xs (some i) (some j) rfl rfl]
 have e1:bnd xs.length i=min i.toNat xs.length:=bnd_pos _ h
 have e2:bnd xs.length j=min j.toNat xs.length:=bnd_pos _ h'
 simp only [e1,e2]
 apply List.ext_getElem?
 intro k
 simp only [List.getElem?_drop,List.getElem?_take]
 by_cases q:xs.length<=i.toNat
 . rw [List.getElem?_eq_none (l:=xs) (i:=min i.toNat xs.length+k) (by exact o10 e1 q),List.getElem?_eq_none (l:=xs) (i:=i.toNat+k) (by exact o11 q)];simp
 . rw [Nat.min_eq_left (by exact o12 q)]
   by_cases q2:i.toNat+k<xs.length
   . have:(i.toNat+k<min j.toNat xs.length)=(i.toNat+k<j.toNat):=by rw [Nat.lt_min];simp [q2]
     simp only [this]
   . rw [List.getElem?_eq_none (l:=xs) (i:=i.toNat+k) (by exact o13 q2)];simp
theorem for_range_from{body:Loc->Hp->SPost->Prop}{i:Nat}{Q:SPost}{I:Nat->Loc->Hp->Prop}
  {n:Nat} (he:∀ ρ Z,I n ρ Z->Q ρ Z)
  (hs:∀ k ρ Z (c:SPost),k<n->I k ρ Z->(∀ ρ' Z',I (k+1) ρ' Z'->c ρ' Z')->body (ρ.set i (some (.int (k:Int)))) Z c):
  ∀ (m a:Nat),a+m=n->∀ ρ Z,I a ρ Z->pForL body [i] .no ((List.range m).map λ (k:Nat)=>It.one (.int ((a:Int)+(k:Int)))) ρ Z Q
 | 0, a, h, ρ, Z, hI => ⟨trivial, by have : a = n := by exact o14 h
                                     subst this;exact he _ _ hI⟩
 | m+1,a,h,ρ,Z,hI=>by
  rw [range_succ_eq_map,map_cons,map_map]
  refine ⟨trivial,ρ.set i (some (.int (a:Int))),rfl,hs a ρ Z _ (by exact o15 h) hI λ ρ' Z' h'=>?_⟩
  have:=for_range_from he hs m (a+1) (by exact o16 h) ρ' Z' h'
  have e:((λ (k:Nat)=>It.one (.int ((a:Int)+(k:Int)))) ∘ Nat.succ)=λ (k:Nat)=>It.one (.int (((a+1:Nat):Int)+(k:Int))):=by
   funext k;simp only [Function.comp];congr 2;push_cast;exact o17
  rw [e];exact this
theorem for_range{body:Loc->Hp->SPost->Prop}{i:Nat}{Q:SPost}{ρ:Loc}{Z:Hp}{n:Nat}(I:Nat->Loc->Hp->Prop)(h0:I 0 ρ Z)
  (hs:∀ k ρ Z (c:SPost),k<n->I k ρ Z->(∀ ρ' Z',I (k+1) ρ' Z'->c ρ' Z')->body (ρ.set i (some (.int (k:Int)))) Z c)
  (he:∀ ρ Z,I n ρ Z->Q ρ Z):pForL body [i] .no (rangeOf 0 (n:Int)) ρ Z Q:=by
 have:=for_range_from he hs n 0 (by exact o18) ρ Z h0
 unfold rangeOf
 simpa using this
theorem comp_range_from{step:Loc->Hp->(Option AV->Hp->Prop)->Prop}{i:Nat}{ρ:Loc}{Q:Post}{I:Nat->List AV->Hp->Prop}{n:Nat}(hn:n<tooLong)
  (he:∀ acc Z a,I n acc Z->Z a=none->Q (.ref a) (setH Z a (.list acc))) (hl:∀ k acc Z,I k acc Z->acc.length<=k)
  (hs:∀ k acc Z (c:Option AV->Hp->Prop),k<n->I k acc Z->(∀ v Z',I (k+1) (match v with | some v=>acc++[v] | none=>acc) Z'->c v Z')->step (ρ.set i (some (.int (k:Int)))) Z c):
  ∀ (m a:Nat),a+m=n->∀ acc Z,I a acc Z->pCompL step [i] ρ .no ((List.range m).map λ (k:Nat)=>It.one (.int ((a:Int)+(k:Int)))) acc Z Q
 | 0, a, h, acc, Z, hI => ⟨trivial, fun b hb => by have : a = n := by exact o14 h
                                                   subst this;exact he _ _ _ hI hb⟩
 | m+1,a,h,acc,Z,hI=>by
  rw [range_succ_eq_map,map_cons,map_map]
  refine ⟨trivial,by have:=hl _ _ _ hI;exact o19 hn h this,ρ.set i (some (.int (a:Int))),rfl,hs a acc Z _ (by exact o15 h) hI λ v Z' h'=>?_⟩
  have:=comp_range_from hn he hl hs m (a+1) (by exact o16 h) _ Z' h'
  have e:((λ (k:Nat)=>It.one (.int ((a:Int)+(k:Int)))) ∘ Nat.succ)=λ (k:Nat)=>It.one (.int (((a+1:Nat):Int)+(k:Int))):=by
   funext k;simp only [Function.comp];congr 2;push_cast;exact o17
  rw [e];exact this
theorem comp_range{step:Loc->Hp->(Option AV->Hp->Prop)->Prop}{i:Nat}{ρ:Loc}{Q:Post}{Z:Hp}{n:Nat}(hn:n<tooLong)(R:Hp->Prop)(P:Nat->AV->Prop)(h0:R Z)
  (hs:∀ k Z (c:Option AV->Hp->Prop),k<n->R Z->(∀ v Z',R Z'->P k v->c (some v) Z')->step (ρ.set i (some (.int (k:Int)))) Z c)
  (he:∀ vs Z a,R Z->vs.length=n->(∀ k v,vs[k]?=some v->P k v)->Z a=none->Q (.ref a) (setH Z a (.list vs))):pCompL step [i] ρ .no (rangeOf 0 (n:Int)) [] Z Q:=by
 have:=comp_range_from (I:=λ k acc Z=>R Z/\acc.length=k/\∀ j v,acc[j]?=some v->P j v) (step:=step) (i:=i) (ρ:=ρ) (Q:=Q) hn (λ acc Z a h ha=>he _ _ _ h.1 h.2.1 h.2.2 ha) (λ k acc Z h=>by omega)
  (λ k acc Z c hk h hc=>hs k Z c hk h.1 λ v Z' hR hP=>hc (some v) Z' ⟨hR,by simp [h.2.1],λ j w hj=>by
   rcases Nat.lt_or_ge j acc.length with q | q
   . rw [List.getElem?_append_left q] at hj;exact h.2.2 j w hj
   . rw [List.getElem?_append_right q] at hj
     have:j=acc.length:=by
      rcases Nat.eq_or_lt_of_le q with q' | q'
      . exact q'.symm
      . rw [List.getElem?_eq_none (by simp;exact o20 q')] at hj;cases hj
     subst this
     simp at hj
     subst hj;rw [h.2.1];exact hP⟩) n 0 (by exact o18) [] Z ⟨h0,rfl,λ j v h=>by simp at h⟩
 unfold rangeOf
 simpa using this
theorem comp_new{step:Loc->Hp->(Option AV->Hp->Prop)->Prop}{i:Nat}{ρ:Loc}{Q:Post}{Z:Hp}{n:Nat}(hn:n<tooLong)(R:Hp->Prop)(P:Nat->AV->Prop)(h0:R Z)
  (hs:∀ k Z (c:Option AV->Hp->Prop),k<n->R Z->(∀ v Z',R Z'->P k v->c (some v) Z')->step (ρ.set i (some (.int (k:Int)))) Z c)
  (he:∀ vs Z a Z',R Z->vs.length=n->(∀ k v,vs[k]?=some v->P k v)->Z a=none->Le Z Z'->Z' a=some (.list vs)->Q (.ref a) Z'):pCompL step [i] ρ .no (rangeOf 0 (n:Int)) [] Z Q:=
 comp_range hn R P h0 hs λ vs Z a hR hl hP ha=>he vs Z a _ hR hl hP ha (Le.new ha) (setH_here _ _ _)
theorem strs_map{ss:List Txt}:strs? (ss.map .str)=some ss:=by
 induction ss with
 | nil=>rfl
 | cons s r ih=>show (strs? (r.map .str)).map (s::·)=_;rw [ih];rfl
theorem bools_map{ss:List Bool}:bools? (ss.map .bool)=some ss:=by
 induction ss with
 | nil=>rfl
 | cons s r ih=>show (bools? (r.map .bool)).map (s::·)=_;rw [ih];rfl
section
variable {Z:Hp}
theorem any_is{n:Nat}{xs:List AV}{x:AV}(hx:x.scal=true)(hs:xs.all AV.scal=true):∀ y∈xs,EqV Z n y x (eqS y x):=λ y hy=>by
 have:=all_eq_true.mp hs y hy
 exact eqV_scal' this hx
where eqV_scal' {Z:Hp} {n:Nat} {x y:AV} (h:x.scal=true) (h':y.scal=true):EqV Z n x y (eqS x y):=by cases n <;> exact .scal h h'
end
theorem itemL_at{α:Type}{xs:List α}{i:Int}(d:α)(h0:0<=i)(h1:i<xs.length)(h2:xs.length<tooLong):itemL xs i=some (xs.getD i.toNat d):=by
 obtain ⟨k,rfl⟩:=Int.eq_ofNat_of_zero_le h0
 have h1:k<xs.length:=Int.ofNat_lt.mp h1
 unfold itemL
 rw [if_pos (show (k:Int).natAbs<2 ^ 62 from Nat.lt_trans h1 (Nat.lt_trans h2 (by decide))),seqIndex_ok h0 (Int.ofNat_lt.mpr h1)]
 show xs[k]?=some (xs.getD k d)
 rw [List.getD_eq_getElem?_getD,List.getElem?_eq_getElem h1];rfl
theorem itemL_ok{xs:List AV}{i:Int}(h0:0<=i)(h1:i<xs.length)(h2:xs.length<tooLong):itemL xs i=some (pick xs i):=itemL_at _ h0 h1 h2
theorem itemL_n{α:Type}{xs:List α}{n:Nat}{v:α}(hn:n<5)(h:xs[n]?=some v):itemL xs (n:Int)=some v:=by
 have h1:n<xs.length:=(List.getElem?_eq_some_iff.mp h).1
 unfold itemL
 rw [if_pos (show (n:Int).natAbs<2 ^ 62 from Nat.lt_trans hn (by decide)),seqIndex_ok (Int.natCast_nonneg n) (Int.ofNat_lt.mpr h1)]
 exact h
theorem itemL_0{α:Type}{x:α}{r:List α}:itemL (x::r) 0=some x:=itemL_n (n:=0) (by decide) rfl
theorem itemL_1{α:Type}{x y:α}{r:List α}:itemL (x::y::r) 1=some y:=itemL_n (n:=1) (by decide) rfl
theorem itemL_2{α:Type}{x y z:α}{r:List α}:itemL (x::y::z::r) 2=some z:=itemL_n (n:=2) (by decide) rfl
theorem itemL_3{α:Type}{x y z w:α}{r:List α}:itemL (x::y::z::w::r) 3=some w:=itemL_n (n:=3) (by decide) rfl
theorem itemL_4{α:Type}{x y z w u:α}{r:List α}:itemL (x::y::z::w::u::r) 4=some u:=itemL_n (n:=4) (by decide) rfl
theorem itemL_mod{xs:List AV}{i n:Int}(h0:0<n)(h1:n<=xs.length)(h2:xs.length<tooLong):itemL xs (Int.fmod i n)=some (pick xs (Int.fmod i n)):=
 itemL_ok (fmod_lo i h0) (Int.lt_of_lt_of_le (fmod_hi i h0) h1) h2
theorem strAt_mod{s:Txt}{i n:Int}(h0:0<n)(h1:n<=s.length)(h2:s.length<tooLong):itemL s (Int.fmod i n)=some (s.getD (Int.fmod i n).toNat 0):=
 itemL_at 0 (fmod_lo i h0) (Int.lt_of_lt_of_le (fmod_hi i h0) h1) h2
theorem pOut_mono{g:Gd}{Z:Hp}{k k':Hp->Prop}(h:pOut g Z k)(hk:∀ Z,k Z->k' Z):pOut g Z k':=by cases g <;> exact hk _ h
theorem comp_each{α:Type}{step:Loc->Hp->(Option AV->Hp->Prop)->Prop}{i:Nat}{ρ:Loc}{Q:Post}(G:α->AV)(F:α->AV)(R:Hp->Prop){g:Gd}(hg:∀ Z,R Z->gOk g Z):
  ∀ (xs:List α) (acc:List AV) (Z:Hp),R Z->acc.length+xs.length<tooLong ->
  (∀ x∈xs,∀ Z (c:Option AV->Hp->Prop),R Z->(∀ Z',R Z'->c (some (F x)) Z')->step (ρ.set i (some (G x))) Z c) ->
  (∀ Z,R Z->pOut g Z λ Z1=>∀ a Z',Z1 a=none->Le Z1 Z'->Z' a=some (.list (acc++xs.map F))->Q (.ref a) Z')->pCompL step [i] ρ g (xs.map λ x=>It.one (G x)) acc Z Q
 | [],acc,Z,hR,hl,hs,he=>⟨hg _ hR,pOut_mono (he Z hR) λ Z1 h a ha=>h a _ ha (Le.new ha) (by simp [setH_here])⟩
 | x::xs,acc,Z,hR,hl,hs,he=>by
  rw [map_cons]
  refine ⟨hg _ hR,by simp at hl;exact qli [_,_,_] (.i 1 1 (.a Y0 (.a Y2 X1)) Y1 (.h 0 Y0 Y1)) rfl hl,ρ.set i (some (G x)),rfl,hs x (by simp) Z _ hR λ Z' hR'=>?_⟩
  refine comp_each G F R hg xs (acc++[F x]) Z' hR' (by simp at hl ⊢;exact o23 hl) (λ y hy=>hs y (by simp [hy])) λ Z h1=>pOut_mono (he Z h1) λ Z1 h a Z' h2 h3 h4=>h a Z' h2 h3 (by rw [h4];simp)
theorem Zz1{α:Type}{v:α}{k:α->Prop}:OkP (some v) k=k v:=rfl
theorem Zz2{p q:Prop}:WifP true p q=p:=rfl
theorem Zz3{p q:Prop}:WifP false p q=q:=rfl
theorem Zz5{k:Bool->Prop}{b:Bool}:TruP (.bool b) k=k b:=rfl
theorem Zz7{a b:Int}{f:Int->Int->Prop}:IIP [.int a,.int b] f=f a b:=rfl
theorem Zz8{x:AV}{f:AV->Prop}:OneP [x] f=f x:=rfl
theorem Zz9{x y:AV}{f:AV->AV->Prop}:TwoP [x,y] f=f x y:=rfl
theorem Zy1{i:Int}{f:Int->Prop}:IntP (.int i) f=f i:=rfl
theorem Zy2{i:Bool}{f:Bool->Prop}:BoolP (.bool i) f=f i:=rfl
theorem Zy3{i:Txt}{f:Txt->Prop}:StrP (.str i) f=f i:=rfl
theorem Zy4{i:Addr}{f:Addr->Prop}:RefP (.ref i) f=f i:=rfl
theorem Zy5{p:Prop}:NonP .none p=p:=rfl
theorem Zy6{Z:Hp}{a b:Int}{Q:Post}:AddP Z (.int a) (.int b) Q=Q (.int (a+b)) Z:=rfl
theorem Zy7{Z:Hp}{a b:Txt}{Q:Post}:AddP Z (.str a) (.str b) Q=(a.length+b.length<tooLong/\Q (.str (a++b)) Z):=rfl
theorem Zy8{Z:Hp}{a b:Addr}{Q:Post}:AddP Z (.ref a) (.ref b) Q=OkP (Z a) λ o=>OkP (Z b) λ p=>AddR Z o p Q:=rfl
theorem Zy9{Z:Hp}{xs ys:List AV}{Q:Post}:AddR Z (.list xs) (.list ys) Q=(xs.length+ys.length<tooLong/\NewO Z (.list (xs++ys)) Q):=rfl
theorem Zy0{Z:Hp}{xs ys:List AV}{Q:Post}:AddR Z (.tup xs) (.tup ys) Q=((xs≠[]/\ys≠[]/\xs.length+ys.length<tooLong)/\NewO Z (.tup (xs++ys)) Q):=rfl
theorem Zeii{x:Int}{y:Int}{Z:Hp}{k:Bool->Prop}:EqP Z (.int x) (.int y) k=k (x==y):=rfl
theorem Znii{x:Int}{y:Int}{k:Bool->Prop}:NeP (.int x) (.int y) k=k (!(x==y)):=rfl
theorem Znbb{x:Bool}{y:Bool}{k:Bool->Prop}:NeP (.bool x) (.bool y) k=k (!(x==y)):=rfl
theorem Zess{x:Txt}{y:Txt}{Z:Hp}{k:Bool->Prop}:EqP Z (.str x) (.str y) k=k (x==y):=rfl
theorem Znss{x:Txt}{y:Txt}{k:Bool->Prop}:NeP (.str x) (.str y) k=k (!(x==y)):=rfl
theorem Zenn  {Z:Hp}{k:Bool->Prop}:EqP Z .none .none k=k true:=rfl
theorem Zq0{xs:List AV}{k:List AV->Prop}{k':List (Txt×AV)->Prop}:seqP (.list xs) k k'=k xs:=rfl
theorem Zq1{xs:List AV}{k:List AV->Prop}{k':List (Txt×AV)->Prop}:seqP (.flist xs) k k'=k xs:=rfl
theorem Zq2{xs:List AV}{k:List AV->Prop}{k':List (Txt×AV)->Prop}:seqP (.tup xs) k k'=k xs:=rfl
theorem Zq4{xs:List (Txt×AV)}{k:List AV->Prop}{k':List (Txt×AV)->Prop}:seqP (.fdict xs) k k'=k' xs:=rfl
theorem Zq5{Z:Hp}{c:Nat}{t:Txt}{k:Bool->Prop}:InP Z (.str [c]) (.str t) k=k (t.contains c):=rfl
theorem Zq6{Z:Hp}{x:AV}{a:Addr}{k:Bool->Prop}:InP Z x (.ref a) k=OkP (Z a) λ o=>seqP o (λ xs=>InS Z xs x k) (λ es=>StrP x λ kk=>k (es.lookup kk).isSome):=rfl
theorem Zq7{Z:Hp}{s:Txt}{k:Nat->Prop}:LenP Z (.str s) k=k s.length:=rfl
theorem Zq8{Z:Hp}{a:Addr}{k:Nat->Prop}:LenP Z (.ref a) k=OkP (Z a) λ o=>seqP o (λ xs=>k xs.length) (λ es=>k es.length):=rfl
theorem Zq9{Z:Hp}{a:Addr}{y:AV}{Q:Post}:ItemP Z (.ref a) y Q=OkP (Z a) λ o=>seqP o (λ xs=>IntP y λ i=>OkP (itemL xs i) λ v=>Q v Z) (λ es=>StrP y λ kk=>OkP (es.lookup kk) λ v=>Q v Z):=rfl
theorem Zr1{Z:Hp}{s:Txt}{y:AV}{Q:Post}:ItemP Z (.str s) y Q=IntP y λ i=>OkP (itemL s i) λ c=>Q (.str [c]) Z:=rfl
theorem Zr2{k:Option Int->Prop}:PartP .none k=k none:=rfl
theorem Zr3{i:Int}{k:Option Int->Prop}:PartP (.int i) k=k (some i):=rfl
theorem Zr4{xs:List AV}{k k':List AV->Prop}:SqP (.list xs) k k'=k xs:=rfl
theorem Zr5{xs:List AV}{k k':List AV->Prop}:SqP (.flist xs) k k'=k xs:=rfl
theorem Zk2{es:List (Txt×AV)}{k:List (Txt×AV)->Prop}:AttP (.attrs es) k=k es:=rfl
theorem Zk3{c:String}{d:Option Addr}{k:String->Option Addr->Prop}:ExcP (.exc c d) k=k c d:=rfl
theorem Zr6 {Z : Hp} {a : Addr} {l h t : AV} {Q : Post} : SliP Z (.ref a) l h t Q = OkP (Z a) fun o => SqP o (fun xs => PartP l fun lo => PartP h fun hi => PartP t fun st => (st ≠ some 0 ∧ xs.length < tooLong) ∧ NewO Z (.list (cut xs lo hi st)) Q)
      λ xs=>NonP l (IntP h λ i=>NonP t ((0<=i/\i.toNat<xs.length/\xs.length<tooLong)/\NewO Z (.tup (xs.take i.toNat)) Q)):=rfl
theorem Zr7{Z:Hp}{s:Txt}{l h t:AV}{Q:Post}:SliP Z (.str s) l h t Q=PartP l λ lo=>PartP h λ hi=>NonP t (s.length<tooLong/\Q (.str (cut s lo hi none)) Z):=rfl
theorem Zr8{xs:List AV}{k:List AV->Prop}:OwnL (.list xs) k=k xs:=rfl
theorem Zr9{xs:List AV}{k:List AV->Prop}:TupP (.tup xs) k=k xs:=rfl
theorem Zr0{es:List (Txt×AV)}{k:List (Txt×AV)->Prop}:DicP (.dict es) k=k es:=rfl
theorem Zt2{x y z:AV}{f:AV->AV->AV->Prop}:ThreeP [x,y,z] f=f x y z:=rfl
theorem Zt3{x y z u:AV}{f:AV->AV->AV->AV->Prop}:FourP [x,y,z,u] f=f x y z u:=rfl
theorem Zt4{a:Addr}{vs:List AV}{Q:List It->Gd->Prop}:itP a (.list vs) Q=Q (vs.map .one) (.keep a (.list vs)):=rfl
theorem Zt5{hi:Int}{Q:List It->Gd->Prop}:rngP [.int hi] Q=(hi.natAbs<tooLong/\Q (rangeOf 0 hi) .no):=rfl
theorem Zt7{Z:Hp}{a:Addr}{Q:List It->Gd->Prop}:pIters Z (.ref a) Q=OkP (Z a) λ o=>itP a o Q:=rfl
theorem Zp4{a:Addr}{vs:List AV}{y v:AV}{Z:Hp}{k:Hp->Prop}:stoP a (.list vs) y v Z k=IntP y λ i=>OkP (ix i vs.length) λ j=>SetO Z a (.list (vs.set j v)) k:=rfl
theorem Zt8{Z:Hp}{s:Txt}{Q:List It->Gd->Prop}:pIters Z (.str s) Q=((∀ c∈s,c<128)/\Q (s.map λ c=>.one (.str [c])) .no):=rfl
theorem Zt9{Z:Hp}:kindIs Z .none=some "NoneType":=rfl
theorem Zu1{Z:Hp}{b:Int}:kindIs Z (.int b)=some "int":=rfl
theorem Zu2{Z:Hp}{b:Txt}:kindIs Z (.str b)=some "str":=rfl
theorem Zu3{Z:Hp}{a:Addr}:kindIs Z (.ref a)=kO (Z a):=rfl
theorem Zu9{ρ:Loc}:setAll ρ [] []=ρ:=rfl
theorem Zu0{ρ:Loc}{i:Nat}{is:List Nat}{v:AV}{vs:List AV}:setAll ρ (i::is) (v::vs)=setAll (ρ.set i (some v)) is vs:=rfl
theorem Zv1:maskL [] []=[]:=rfl
theorem Zv2{cs:List Bool}{v:Option AV}{vs:Loc}:maskL (true::cs) (v::vs)=v::maskL cs vs:=rfl
theorem Zv3{cs:List Bool}{v:Option AV}{vs:Loc}:maskL (false::cs) (v::vs)=none::maskL cs vs:=rfl
theorem Zv4{Z:Hp}{Q:Hp->Prop}:pIn .no Z Q=Q Z:=rfl
theorem Zv5{Z:Hp}{Q:Hp->Prop}{a:Addr}{o:AO}:pIn (.keep a o) Z Q=Q Z:=rfl
theorem Zv8:Gd.no.iced=false:=rfl
theorem Zv9{a:Addr}{o:AO}:(Gd.keep a o).iced=false:=rfl
theorem Zw1{r:Loc}{x:Option AV}:locAt (x::r) 0=x:=rfl
theorem Zw2{r:Loc}{x:Option AV}{i:Nat}:locAt (x::r) (i+1)=locAt r i:=rfl
theorem Zw7{Z:Hp}{a:Addr}{y v:AV}{k:Hp->Prop}:StoP (.ref a) y v Z k=OkP (Z a) λ o=>stoP a o y v Z k:=rfl
theorem Zw8:strs? []=some []:=rfl
theorem Zw9{s:Txt}{r:List AV}:strs? (.str s::r)=(strs? r).map (s::·):=rfl
theorem Zo16:isOf "int" ["str"]=false:=rfl
theorem Zo17:isOf "int" ["int"]=true:=rfl
theorem Zo18:isOf "int" ["bool"]=false:=rfl
theorem Zo24:isOf "str" ["str"]=true:=rfl
theorem Zx1{α β:Type}{f:α->β}{a:α}{l:List α}:List.map f (a::l)=f a::List.map f l:=rfl
theorem Zx2{α β:Type}{f:α->β}:List.map f []=[]:=rfl
theorem Zx3{α β:Type}{f:α->β}{a:α}:Option.map f (some a)=some (f a):=rfl
theorem Zx5{α:Type}{x v:α}{r:List α}:List.set (x::r) 0 v=v::r:=rfl
theorem Zx6{α:Type}{x v:α}{r:List α}{i:Nat}:List.set (x::r) (i+1) v=x::List.set r i v:=rfl
theorem Zx7{α:Type}{x:α}{r:List α}:List.length (x::r)=List.length r+1:=rfl
theorem Zx8{α:Type}:List.length ([]:List α)=0:=rfl
theorem Zx9{α:Type}{x:α}{r s:List α}:(x::r)++s=x::(r++s):=rfl
theorem Zx0{α:Type}{s:List α}:[]++s=s:=rfl
theorem Zb0:(!true)=false:=rfl
theorem Zb1:(!false)=true:=rfl
theorem Zc0:((0:Nat):Int)=0:=rfl
theorem Zc1:((1:Nat):Int)=1:=rfl
theorem Zc2:((2:Nat):Int)=2:=rfl
theorem Zc3:((3:Nat):Int)=3:=rfl
theorem ent'{K:Kx}{tab:List (String×Fn)}(T:Tab K tab){n:String}(fn:Fn)(hm:(n,fn)∈tab){d:Nat}{vs:List AV}{Z:Hp}{Q:Post}{X:XPost}(hl:vs.length=fn.np){ρ:Loc}(hr:args1 fn.names vs=ρ)
  (h:pSs K false d fn.body ρ Z (λ V Z'=>Q .none Z') Q (λ V a Z'=>X a Z')):K.fn false d n vs Z Q X:=T.ent n fn hm hl (by rw [hr];exact h)
theorem ix_ok{i:Int}{n:Nat}(h0:0<=i)(h1:i<n)(hl:n<tooLong):ix i n=some i.toNat:=by
 have ht:tooLong=1000000:=rfl
 unfold ix
 rw [if_pos ⟨h0,h1,by exact o24 h0 h1 hl ht⟩]
theorem okP{α:Type}{o:Option α}{v:α}{k:α->Prop}(h:o=some v)(hk:k v):OkP o k:=by rw [h];exact hk
theorem wif{b:Bool}{p q:Prop}(h1:b=true->p)(h2:b=false->q):WifP b p q:=by cases b;exact h2 rfl;exact h1 rfl
theorem wifd{c:Prop}[Decidable c]{p q:Prop}(h1:c->p)(h2:¬c->q):WifP (decide c) p q:=wif (λ e=>h1 (of_decide_eq_true e)) λ e=>h2 (of_decide_eq_false e)
theorem wifn{b:Bool}{p q:Prop}(h:WifP b q p):WifP (!b) p q:=by cases b <;> exact h
theorem newO{Z:Hp}{o:AO}{Q:Post}(h:∀ a Z',Z a=none->Le Z Z'->Z' a=some o->Q (.ref a) Z'):NewO Z o Q:=λ a ha=>h a _ ha (Le.new ha) (setH_here _ _ _)
theorem setO{Z:Hp}{a:Addr}{o:AO}{k:Hp->Prop}(h:∀ Z',Z' a=some o->(∀ b,b≠a->Z' b=Z b)->k Z'):SetO Z a o k:=h _ (setH_here _ _ _) λ V hb=>setH_ne hb
theorem setN{Z0 Z:Hp}{a:Addr}{o:AO}{k:Hp->Prop}(hle:Le Z0 Z)(hf:Z0 a=none)(h:∀ Z',Z' a=some o->Le Z0 Z'->(∀ b,b≠a->Z' b=Z b)->k Z'):SetO Z a o k:=h _ (setH_here _ _ _) (Le.set hle hf) λ V hb=>setH_ne hb
theorem inS{Z:Hp}{xs:List AV}{x:AV}{k:Bool->Prop}(hx:x.scal=true)(ha:xs.all AV.scal=true)(hk:k (xs.any (eqS · x))):InS Z xs x k:=⟨_,any_is hx ha,hk⟩
section
variable {K:Kx}{hd:Bool}{d:Nat}{ρ:Loc}{Z:Hp}{Qn:SPost}{Qr:Post}{X:SX}
theorem seq{s:PS}{r:List PS}(h:∀ R:SPost,(∀ ρ' Z',pSs K hd d r ρ' Z' Qn Qr X->R ρ' Z')->s K hd d ρ Z R Qr X):pSs K hd d (s::r) ρ Z Qn Qr X:=h _ λ V V q=>q
theorem last{s:PS}(h:s K hd d ρ Z Qn Qr X):pSs K hd d [s] ρ Z Qn Qr X:=h
theorem iffI{c:PE}{a b:List PS}(h:∀ A B:Hp->Prop,(∀ Z',pSs K hd d a ρ Z' Qn Qr X->A Z')->(∀ Z',pSs K hd d b ρ Z' Qn Qr X->B Z')->c K hd d ρ Z (λ v Z'=>TruP v λ t=>WifP t (A Z') (B Z')) (X ρ)):PS.iff c a b K hd d ρ Z Qn Qr X:=h _ _ (λ V q=>q) λ V q=>q
theorem forI{is:List Nat}{it:PI}{body:List PS}(h:∀ F:List It->Gd->Hp->Prop,(∀ its g Z',pForL (λ ρ' Z'' k=>pSs K hd d body ρ' Z'' k (λ v Z=>g.iced=false/\Qr v Z) (λ ρ a Z=>g.iced=false/\X ρ a Z)) is g its ρ Z' Qn->F its g Z')->it K hd d ρ Z (λ its g Z'=>pIn g Z' λ Z'=>F its g Z') (X ρ)):PS.for is it body K hd d ρ Z Qn Qr X:=h _ λ V V V q=>q
end
section
variable {Z:Hp}{vs:List AV}{es:List (Txt×AV)}{a:Addr}
theorem kList(h:Z a=some (.list vs)):kO (Z a)=some "list":=by rw [h];rfl
theorem kFlist(h:Z a=some (.flist vs)):kO (Z a)=some "list":=by rw [h];rfl
theorem kTup(h:Z a=some (.tup vs)):kO (Z a)=some "tuple":=by rw [h];rfl
theorem kDict(h:Z a=some (.dict es)):kO (Z a)=some "dict":=by rw [h];rfl
end
end U
namespace U
open PySem
theorem Zl1{xs:List AV}{k:List AV->Prop}:ListP (.list xs) k=k xs:=rfl
theorem Zl3{Z:Hp}{a:Addr}{c:String}{n:Txt}{v:AV}{k:Hp->Prop}:xset Z a c none n v k=∀ dd,Z dd=none->k (setH (setH Z dd (.attrs [(n,v)])) a (.exc c (some dd))):=rfl
theorem Zl8{Z:Hp}{s:Txt}{i:Int}{Q:Post}:RepP Z (.str s) i Q=((i=0\/i=1)/\Q (.str (bif i==1 then s else [])) Z):=rfl
theorem Zl9{Z:Hp}{a:Addr}{i:Int}{Q:Post}:RepP Z (.ref a) i Q=OkP (Z a) λ o=>OwnL o λ xs=>(xs≠[]/\0<=i/\xs.length*i.toNat<tooLong)/\NewO Z (.list (List.replicate i.toNat xs).flatten) Q:=rfl
end U
namespace U
open PySem
namespace PE
end PE
namespace Op
end Op
end U
namespace U
open PySem
noncomputable def ints?:List AV->Option (List Int)
 | []=>some []
 | .int s::r=>(ints? r).map (s::·)
 | _=>none
namespace Op
noncomputable def any:Op:=λ Z vs Q=>OneP vs λ x=>RefP x λ a=>OkP (Z a) λ o=>OwnL o λ xs=>OkP (bools? xs) λ bs=>Q (.bool (bs.any id)) Z
noncomputable def sum:Op:=λ Z vs Q=>OneP vs λ x=>RefP x λ a=>OkP (Z a) λ o=>OwnL o λ xs=>OkP (ints? xs) λ is=>Q (.int is.sum) Z
noncomputable def «from»:Op:=λ Z vs Q=>TwoP vs λ x y=>RefP x λ a=>IntP y λ i=>OkP (Z a) λ o=>TupP o λ xs=>(0<=i/\i.toNat<=xs.length/\xs.length<tooLong)/\WifP (i==0) (Q (.ref a) Z) (NewO Z (.tup (xs.drop i.toNat)) Q)
end Op
namespace BOp
noncomputable def count:BOp:=⟨"list",λ Z vs Q=>TwoP vs λ x y=>RefP x λ a=>StrP y λ kk=>OkP (Z a) λ o=>OwnL o λ xs=>OkP (strs? xs) λ ss=>ss.length<tooLong/\Q (.int ((ss.count kk:Nat):Int)) Z⟩
end BOp
namespace PS
noncomputable def never:PS:=λ V V V V V V V V=>False
end PS
theorem ints_map{ss:List Int}:ints? (ss.map .int)=some ss:=by
 induction ss with
 | nil=>rfl
 | cons s r ih=>show (ints? (r.map .int)).map (s::·)=_;rw [ih];rfl
end U
open U PySem
set_option maxRecDepth 100000
local macro_rules
 | `(tactic| walk_at $s)=>
  let nd (k:String) (a:List Lean.Syntax):Lean.Syntax:=.node .none k.toName a.toArray
  let f (w : String) := (w.splitOn " ").foldl (λ (st : List Lean.Syntax) t => match t.splitOn ":" with
   | [a,v]=>(if a == "a" then .atom .none v else Lean.mkIdent v.toName)::st
   | [p,k,c]=>nd ((if p == "t" then "Lean.Parser.Tactic." else if p == "u" then "Lean.Parser.Term." else "")++k) (st.take c.toNat!).reverse::st.drop c.toNat!
   | _=>match st with
    | x::r=>nd "Lean.Parser.Tactic.tacticSeq" [nd "Lean.Parser.Tactic.tacticSeq1Indented" [nd "null" [x]]]::r
    | _=>st) []
  let g (w:List Lean.Syntax):=pure (w.headD .missing)
  if s.getString == "ug" then g (f "a:( a:repeat a:( a:first a:| a:dsimp :null:0 t:optConfig:1 :null:0 a:only :null:1 a:[ :null:0 :null:0 i:U.PS.expr t:simpLemma:3 a:, :null:0 :null:0 i:U.PS.ret t:simpLemma:3 a:, :null:0 :null:0 i:U.PS.assign t:simpLemma:3 a:, :null:0 :null:0 i:U.pEs t:simpLemma:3 a:, :null:0 :null:0 i:U.pC t:simpLemma:3 a:, :null:0 :null:0 i:U.PE.lit t:simpLemma:3 a:, :null:0 :null:0 i:U.PE.loc t:simpLemma:3 a:, :null:0 :null:0 i:U.PE.prim t:simpLemma:3 a:, :null:0 :null:0 i:U.PE.bm t:simpLemma:3 a:, :null:0 :null:0 i:U.PE.and t:simpLemma:3 a:, :null:0 :null:0 i:U.PE.or t:simpLemma:3 a:, :null:0 :null:0 i:U.PE.ite t:simpLemma:3 a:, :null:0 :null:0 i:U.PE.cmp2 t:simpLemma:3 a:, :null:0 :null:0 i:U.PE.fn t:simpLemma:3 a:, :null:0 :null:0 i:U.PE.comp t:simpLemma:3 a:, :null:0 :null:0 i:U.PI.val t:simpLemma:3 a:, :null:0 :null:0 i:U.PI.range t:simpLemma:3 a:, :null:0 :null:0 i:U.Tgt.name t:simpLemma:3 a:, :null:0 :null:0 i:U.Tgt.tup t:simpLemma:3 a:, :null:0 :null:0 i:U.Tgt.item t:simpLemma:3 a:, :null:0 :null:0 i:U.Op.add t:simpLemma:3 a:, :null:0 :null:0 i:U.Op.sub t:simpLemma:3 a:, :null:0 :null:0 i:U.Op.mul t:simpLemma:3 a:, :null:0 :null:0 i:U.Op.fdiv t:simpLemma:3 a:, :null:0 :null:0 i:U.Op.mod t:simpLemma:3 a:, :null:0 :null:0 i:U.Op.neg t:simpLemma:3 a:, :null:0 :null:0 i:U.Op.not t:simpLemma:3 a:, :null:0 :null:0 i:U.Op.eq t:simpLemma:3 a:, :null:0 :null:0 i:U.Op.ne t:simpLemma:3 a:, :null:0 :null:0 i:U.Op.lt t:simpLemma:3 a:, :null:0 :null:0 i:U.Op.le t:simpLemma:3 a:, :null:0 :null:0 i:U.Op.gt t:simpLemma:3 a:, :null:0 :null:0 i:U.Op.ge t:simpLemma:3 a:, :null:0 :null:0 i:U.Op.is t:simpLemma:3 a:, :null:0 :null:0 i:U.Op.isin t:simpLemma:3 a:, :null:0 :null:0 i:U.Op.notin t:simpLemma:3 a:, :null:0 :null:0 i:U.Op.len t:simpLemma:3 a:, :null:0 :null:0 i:U.Op.isinst t:simpLemma:3 a:, :null:0 :null:0 i:U.Op.toInt t:simpLemma:3 a:, :null:0 :null:0 i:U.Op.toStr t:simpLemma:3 a:, :null:0 :null:0 i:U.Op.all t:simpLemma:3 a:, :null:0 :null:0 i:U.Op.item t:simpLemma:3 a:, :null:0 :null:0 i:U.Op.slice t:simpLemma:3 a:, :null:0 :null:0 i:U.Op.mkList t:simpLemma:3 a:, :null:0 :null:0 i:U.Op.mkTup t:simpLemma:3 a:, :null:0 :null:0 i:U.BOp.append t:simpLemma:3 a:, :null:0 :null:0 i:U.BOp.extend t:simpLemma:3 a:, :null:0 :null:0 i:U.BOp.pop t:simpLemma:3 a:, :null:0 :null:0 i:U.BOp.get t:simpLemma:3 a:, :null:0 :null:0 i:U.BOp.index t:simpLemma:3 a:, :null:0 :null:0 i:U.BOp.join t:simpLemma:3 a:, :null:0 :null:0 i:U.Zz1 t:simpLemma:3 a:, :null:0 :null:0 i:U.Zz2 t:simpLemma:3 a:, :null:0 :null:0 i:U.Zz3 t:simpLemma:3 a:, :null:0 :null:0 i:U.Zz5 t:simpLemma:3 a:, :null:0 :null:0 i:U.Zz7 t:simpLemma:3 a:, :null:0 :null:0 i:U.Zz8 t:simpLemma:3 a:, :null:0 :null:0 i:U.Zz9 t:simpLemma:3 a:, :null:0 :null:0 i:U.Zy1 t:simpLemma:3 a:, :null:0 :null:0 i:U.Zy2 t:simpLemma:3 a:, :null:0 :null:0 i:U.Zy3 t:simpLemma:3 a:, :null:0 :null:0 i:U.Zy4 t:simpLemma:3 a:, :null:0 :null:0 i:U.Zy5 t:simpLemma:3 a:, :null:0 :null:0 i:U.Zy6 t:simpLemma:3 a:, :null:0 :null:0 i:U.Zy7 t:simpLemma:3 a:, :null:0 :null:0 i:U.Zy8 t:simpLemma:3 a:, :null:0 :null:0 i:U.Zy9 t:simpLemma:3 a:, :null:0 :null:0 i:U.Zy0 t:simpLemma:3 a:, :null:0 :null:0 i:U.Zeii t:simpLemma:3 a:, :null:0 :null:0 i:U.Znii t:simpLemma:3 a:, :null:0 :null:0 i:U.Znbb t:simpLemma:3 a:, :null:0 :null:0 i:U.Zess t:simpLemma:3 a:, :null:0 :null:0 i:U.Znss t:simpLemma:3 a:, :null:0 :null:0 i:U.Zenn t:simpLemma:3 a:, :null:0 :null:0 i:U.Zq0 t:simpLemma:3 a:, :null:0 :null:0 i:U.Zq1 t:simpLemma:3 a:, :null:0 :null:0 i:U.Zq2 t:simpLemma:3 a:, :null:0 :null:0 i:U.Zq4 t:simpLemma:3 a:, :null:0 :null:0 i:U.Zq5 t:simpLemma:3 a:, :null:0 :null:0 i:U.Zq6 t:simpLemma:3 a:, :null:0 :null:0 i:U.Zq7 t:simpLemma:3 a:, :null:0 :null:0 i:U.Zq8 t:simpLemma:3 a:, :null:0 :null:0 i:U.Zq9 t:simpLemma:3 a:, :null:0 :null:0 i:U.Zr1 t:simpLemma:3 a:, :null:0 :null:0 i:U.Zr2 t:simpLemma:3 a:, :null:0 :null:0 i:U.Zr3 t:simpLemma:3 a:, :null:0 :null:0 i:U.Zr4 t:simpLemma:3 a:, :null:0 :null:0 i:U.Zr5 t:simpLemma:3 a:, :null:0 :null:0 i:U.Zk2 t:simpLemma:3 a:, :null:0 :null:0 i:U.Zk3 t:simpLemma:3 a:, :null:0 :null:0 i:U.Zr6 t:simpLemma:3 a:, :null:0 :null:0 i:U.Zr7 t:simpLemma:3 a:, :null:0 :null:0 i:U.Zr8 t:simpLemma:3 a:, :null:0 :null:0 i:U.Zr9 t:simpLemma:3 a:, :null:0 :null:0 i:U.Zr0 t:simpLemma:3 a:, :null:0 :null:0 i:U.Zt2 t:simpLemma:3 a:, :null:0 :null:0 i:U.Zt3 t:simpLemma:3 a:, :null:0 :null:0 i:U.Zt4 t:simpLemma:3 a:, :null:0 :null:0 i:U.Zt5 t:simpLemma:3 a:, :null:0 :null:0 i:U.Zt7 t:simpLemma:3 a:, :null:0 :null:0 i:U.Zp4 t:simpLemma:3 a:, :null:0 :null:0 i:U.Zt8 t:simpLemma:3 a:, :null:0 :null:0 i:U.Zt9 t:simpLemma:3 a:, :null:0 :null:0 i:U.Zu1 t:simpLemma:3 a:, :null:0 :null:0 i:U.Zu2 t:simpLemma:3 a:, :null:0 :null:0 i:U.Zu3 t:simpLemma:3 a:, :null:0 :null:0 i:U.Zu9 t:simpLemma:3 a:, :null:0 :null:0 i:U.Zu0 t:simpLemma:3 a:, :null:0 :null:0 i:U.Zv1 t:simpLemma:3 a:, :null:0 :null:0 i:U.Zv2 t:simpLemma:3 a:, :null:0 :null:0 i:U.Zv3 t:simpLemma:3 a:, :null:0 :null:0 i:U.Zv4 t:simpLemma:3 a:, :null:0 :null:0 i:U.Zv5 t:simpLemma:3 a:, :null:0 :null:0 i:U.Zv8 t:simpLemma:3 a:, :null:0 :null:0 i:U.Zv9 t:simpLemma:3 a:, :null:0 :null:0 i:U.Zw1 t:simpLemma:3 a:, :null:0 :null:0 i:U.Zw2 t:simpLemma:3 a:, :null:0 :null:0 i:U.Zw7 t:simpLemma:3 a:, :null:0 :null:0 i:U.Zw8 t:simpLemma:3 a:, :null:0 :null:0 i:U.Zw9 t:simpLemma:3 a:, :null:0 :null:0 i:U.Zc0 t:simpLemma:3 a:, :null:0 :null:0 i:U.Zc1 t:simpLemma:3 a:, :null:0 :null:0 i:U.Zc2 t:simpLemma:3 a:, :null:0 :null:0 i:U.Zc3 t:simpLemma:3 a:, :null:0 :null:0 i:U.Zx1 t:simpLemma:3 a:, :null:0 :null:0 i:U.Zx2 t:simpLemma:3 a:, :null:0 :null:0 i:U.Zx3 t:simpLemma:3 a:, :null:0 :null:0 i:U.Zx5 t:simpLemma:3 a:, :null:0 :null:0 i:U.Zx6 t:simpLemma:3 a:, :null:0 :null:0 i:U.Zx7 t:simpLemma:3 a:, :null:0 :null:0 i:U.Zx8 t:simpLemma:3 a:, :null:0 :null:0 i:U.Zx9 t:simpLemma:3 a:, :null:0 :null:0 i:U.Zx0 t:simpLemma:3 a:, :null:0 :null:0 i:U.Zb0 t:simpLemma:3 a:, :null:0 :null:0 i:U.Zb1 t:simpLemma:3 a:, :null:0 :null:0 i:Nat.reduceAdd t:simpLemma:3 a:, :null:0 :null:0 i:Nat.reduceSub t:simpLemma:3 a:, :null:0 :null:0 i:Int.reduceNeg t:simpLemma:3 a:, :null:0 :null:0 i:Int.reduceAdd t:simpLemma:3 a:, :null:0 :null:0 i:Int.reduceSub t:simpLemma:3 a:, :null:0 :null:0 i:Int.reduceMul t:simpLemma:3 a:, :null:0 :null:0 i:Int.reduceBEq t:simpLemma:3 a:, :null:0 :null:0 i:Int.reduceBNe t:simpLemma:3 a:, :null:0 :null:0 i:Nat.reduceBEq t:simpLemma:3 a:, :null:0 :null:0 i:U.XobP t:simpLemma:3 a:, :null:0 :null:0 i:U.PE.xattr t:simpLemma:3 a:, :null:0 :null:0 i:U.PE.binit t:simpLemma:3 a:, :null:0 :null:0 i:U.Tgt.xattr t:simpLemma:3 a:, :null:0 :null:0 i:U.PI.enum t:simpLemma:3 a:, :null:0 :null:0 i:U.Zl1 t:simpLemma:3 a:, :null:0 :null:0 i:U.Zl3 t:simpLemma:3 a:, :null:0 :null:0 i:U.Op.any t:simpLemma:3 a:, :null:0 :null:0 i:U.Op.sum t:simpLemma:3 a:, :null:0 :null:0 i:U.Op.from t:simpLemma:3 a:, :null:0 :null:0 i:U.BOp.count t:simpLemma:3 a:, :null:0 :null:0 i:U.Op.rep t:simpLemma:3 a:, :null:0 :null:0 i:U.Zl8 t:simpLemma:3 a:, :null:0 :null:0 i:U.Zl9 t:simpLemma:3 a:, :null:0 :null:0 i:U.PE.isX t:simpLemma:3 a:, :null:0 :null:0 i:U.PE.isV t:simpLemma:3 :null:319 a:] :null:3 :null:0 t:dsimp:6 %s :group:2 a:| a:with_reducible a:refine i:U.okP a:( i: :hygieneInfo:1 u:hygienicLParen:2 a:by a:assumption t:assumption:1 %s u:byTactic:2 a:) u:paren:3 a:? a:_ u:syntheticHole:2 :null:2 u:app:2 t:refine:2 %s t:withReducible:2 %s :group:2 a:| a:( a:with_reducible a:refine i:And.intro a:? a:_ u:syntheticHole:2 a:? a:_ u:syntheticHole:2 :null:2 u:app:2 t:refine:2 a:; a:( a:first a:| a:assumption t:assumption:1 %s :group:2 a:| a:decide :null:0 t:optConfig:1 t:decide:2 %s :group:2 a:| a:exact i:U.ne0' a:( i: :hygieneInfo:1 u:hygienicLParen:2 a:by a:assumption t:assumption:1 %s u:byTactic:2 a:) u:paren:3 :null:1 u:app:2 t:exact:2 %s :group:2 a:| a:exact i:U.ne0 a:( i: :hygieneInfo:1 u:hygienicLParen:2 a:by a:assumption t:assumption:1 %s u:byTactic:2 a:) u:paren:3 a:( i: :hygieneInfo:1 u:hygienicLParen:2 a:by a:decide :null:0 t:optConfig:1 t:decide:2 %s u:byTactic:2 a:) u:paren:3 :null:2 u:app:2 t:exact:2 %s :group:2 a:| a:exact i:Or.inl a:( i: :hygieneInfo:1 u:hygienicLParen:2 a:by a:first a:| a:assumption t:assumption:1 %s :group:2 a:| a:decide :null:0 t:optConfig:1 t:decide:2 %s :group:2 :null:2 t:first:2 %s u:byTactic:2 a:) u:paren:3 :null:1 u:app:2 t:exact:2 %s :group:2 a:| a:exact i:Or.inr a:( i: :hygieneInfo:1 u:hygienicLParen:2 a:by a:decide :null:0 t:optConfig:1 t:decide:2 %s u:byTactic:2 a:) u:paren:3 :null:1 u:app:2 t:exact:2 %s :group:2 a:| a:exact i:U.tl1 a:( i: :hygieneInfo:1 u:hygienicLParen:2 a:by a:assumption t:assumption:1 %s u:byTactic:2 a:) u:paren:3 a:( i: :hygieneInfo:1 u:hygienicLParen:2 a:by a:assumption t:assumption:1 %s u:byTactic:2 a:) u:paren:3 a:( i: :hygieneInfo:1 u:hygienicLParen:2 a:by a:decide :null:0 t:optConfig:1 t:decide:2 %s u:byTactic:2 a:) u:paren:3 :null:3 u:app:2 t:exact:2 %s :group:2 a:| a:exact i:U.tl2 a:( i: :hygieneInfo:1 u:hygienicLParen:2 a:by a:assumption t:assumption:1 %s u:byTactic:2 a:) u:paren:3 a:( i: :hygieneInfo:1 u:hygienicLParen:2 a:by a:assumption t:assumption:1 %s u:byTactic:2 a:) u:paren:3 a:( i: :hygieneInfo:1 u:hygienicLParen:2 a:by a:assumption t:assumption:1 %s u:byTactic:2 a:) u:paren:3 a:( i: :hygieneInfo:1 u:hygienicLParen:2 a:by a:decide :null:0 t:optConfig:1 t:decide:2 %s u:byTactic:2 a:) u:paren:3 :null:4 u:app:2 t:exact:2 %s :group:2 a:| a:exact i:U.tl3 a:( i: :hygieneInfo:1 u:hygienicLParen:2 a:by a:assumption t:assumption:1 %s u:byTactic:2 a:) u:paren:3 a:( i: :hygieneInfo:1 u:hygienicLParen:2 a:by a:assumption t:assumption:1 %s u:byTactic:2 a:) u:paren:3 a:( i: :hygieneInfo:1 u:hygienicLParen:2 a:by a:assumption t:assumption:1 %s u:byTactic:2 a:) u:paren:3 a:( i: :hygieneInfo:1 u:hygienicLParen:2 a:by a:decide :null:0 t:optConfig:1 t:decide:2 %s u:byTactic:2 a:) u:paren:3 :null:4 u:app:2 t:exact:2 %s :group:2 a:| a:omega :null:0 t:optConfig:1 t:omega:2 %s :group:2 a:| a:rfl t:tacticRfl:1 %s :group:2 a:| a:exact i:U.kDict a:( i: :hygieneInfo:1 u:hygienicLParen:2 a:by a:assumption t:assumption:1 %s u:byTactic:2 a:) u:paren:3 :null:1 u:app:2 t:exact:2 %s :group:2 a:| a:exact i:U.kList a:( i: :hygieneInfo:1 u:hygienicLParen:2 a:by a:assumption t:assumption:1 %s u:byTactic:2 a:) u:paren:3 :null:1 u:app:2 t:exact:2 %s :group:2 a:| a:exact i:U.kFlist a:( i: :hygieneInfo:1 u:hygienicLParen:2 a:by a:assumption t:assumption:1 %s u:byTactic:2 a:) u:paren:3 :null:1 u:app:2 t:exact:2 %s :group:2 a:| a:exact i:U.kTup a:( i: :hygieneInfo:1 u:hygienicLParen:2 a:by a:assumption t:assumption:1 %s u:byTactic:2 a:) u:paren:3 :null:1 u:app:2 t:exact:2 %s :group:2 :null:15 t:first:2 %s a:) t:paren:3 :null:3 t:tacticSeq1Indented:1 t:tacticSeq:1 t:withReducible:2 %s a:) t:paren:3 %s :group:2 a:| a:with_reducible a:refine i:U.okP a:( i: :hygieneInfo:1 u:hygienicLParen:2 a:by a:first a:| a:exact i:U.itemL_0 t:exact:2 %s :group:2 a:| a:exact i:U.itemL_1 t:exact:2 %s :group:2 a:| a:exact i:U.itemL_2 t:exact:2 %s :group:2 a:| a:exact i:U.itemL_3 t:exact:2 %s :group:2 a:| a:exact i:U.itemL_4 t:exact:2 %s :group:2 a:| a:exact i:U.kDict a:( i: :hygieneInfo:1 u:hygienicLParen:2 a:by a:assumption t:assumption:1 %s u:byTactic:2 a:) u:paren:3 :null:1 u:app:2 t:exact:2 %s :group:2 a:| a:exact i:U.kList a:( i: :hygieneInfo:1 u:hygienicLParen:2 a:by a:assumption t:assumption:1 %s u:byTactic:2 a:) u:paren:3 :null:1 u:app:2 t:exact:2 %s :group:2 a:| a:exact i:U.kTup a:( i: :hygieneInfo:1 u:hygienicLParen:2 a:by a:assumption t:assumption:1 %s u:byTactic:2 a:) u:paren:3 :null:1 u:app:2 t:exact:2 %s :group:2 :null:8 t:first:2 %s u:byTactic:2 a:) u:paren:3 a:? a:_ u:syntheticHole:2 :null:2 u:app:2 t:refine:2 %s t:withReducible:2 %s :group:2 :null:4 t:first:2 %s a:) t:paren:3 %s t:tacticRepeat_:2 %s a:) t:paren:3") else if s.getString == "mm" then g (f "a:repeat a:first a:| a:exact i:List.Mem.head a:_ u:hole:1 :null:1 u:app:2 t:exact:2 %s :group:2 a:| a:apply i:List.Mem.tail t:apply:2 %s :group:2 :null:2 t:first:2 %s t:tacticRepeat_:2") else if s.getString == "aa" then g (f "a:simp :null:0 t:optConfig:1 :null:0 a:only :null:1 a:[ :null:0 :null:0 i:U.args1 t:simpLemma:3 a:, :null:0 :null:0 i:map_cons t:simpLemma:3 a:, :null:0 :null:0 i:map_nil t:simpLemma:3 a:, :null:0 :null:0 i:length_cons t:simpLemma:3 a:, :null:0 :null:0 i:length_nil t:simpLemma:3 a:, :null:0 :null:0 i:cons_append t:simpLemma:3 a:, :null:0 :null:0 i:List.nil_append t:simpLemma:3 a:, :null:0 :null:0 i:List.replicate t:simpLemma:3 a:, :null:0 :null:0 i:Nat.reduceAdd t:simpLemma:3 a:, :null:0 :null:0 i:Nat.reduceSub t:simpLemma:3 :null:19 a:] :null:3 :null:0 t:simp:6") else Lean.Macro.throwUnsupported
namespace U
open PySem
set_option genSizeOf false
set_option genInjectivity false
noncomputable def toS(s:Txt):Str:=⟨s.toArray⟩
noncomputable def AV.is:AV->Value->Prop
 | .none,v=>v=.none
 | .bool b,v=>v=.bool b
 | .int i,v=>∃ t,v=.int i t
 | .str s,v=>∃ t,v=.str (toS s) t
 | .ref a,v=>v=.ref a
inductive All2{α β:Type}(R:α->β->Prop):List α->List β->Prop where
 | nil:All2 R [] []
 | cons {x y xs ys}:R x y->All2 R xs ys->All2 R (x::xs) (y::ys)
structure Cx where
 prog:Program
 w:World
 base:Heap
 gens:Array GenState
 os:OsState
 clsAt:String->Option Addr
 fnAt:String->Option Addr
noncomputable def Ent(kv:Txt×AV)(c:Str×Value):Prop:=c.1=toS kv.1/\kv.2.is c.2
abbrev seqObj (T:String) (cs:Array Value) (n:Nat):Obj:=⟨.type T,none,.seq cs n,#[]⟩
inductive SeqOb(T:String)(ob:Obj)(vs:List AV):Prop
 | mk (cs n) (h1:ob=seqObj T cs n) (h2:All2 AV.is vs cs.toList):SeqOb T ob vs
inductive DicOb(C:Cx)(ob:Obj)(es:List (Txt×AV)):Prop
 | mk (kvs) (h1:All2 Ent es kvs) (h2:∀ (h:Heap) b,h.get? b=some ob->h.DictOf (strKind C.prog C.w) b kvs):DicOb C ob es
noncomputable def AttM(es:List (Txt×AV))(m:Str->Option Value):Prop:=∀ k,(es.lookup k=none->m (toS k)=none)/\∀ v,es.lookup k=some v->∃ cv,m (toS k)=some cv/\v.is cv
noncomputable def AttOb(ob:Obj)(es:List (Txt×AV)):Prop:=ob.cls=.type "dict" /\ ob.dict=none/\∃ m,AttM es m/\∀ (h:Heap) b,h.get? b=some ob->h.Ns1 b m
noncomputable def IsTb(o:Obj):Prop:=o.cls=.type "traceback" /\ ∃ ts,o.data=.fields ts/\4<ts.size
noncomputable def TbOk(C:Cx)(h:Heap)(vs:Array Value):Prop:=vs[1]?=some .none\/∃ T o,vs[1]?=some (.ref T)/\h.get? T=some o/\IsTb o/\C.base.get? T=none
inductive ExOb(C:Cx)(h:Heap)(ob:Obj)(c:String)(d:Option Addr):Prop
 | mk (ca vs) (h1:C.clsAt c=some ca) (h2:ob.cls=.ref ca) (h3:ob.dict=d) (h4:ob.data=.fields vs) (h5:4<vs.size) (h6:vs[2]?=some .none) (h7:TbOk C h vs):ExOb C h ob c d
noncomputable def Ob(C:Cx)(h:Heap)(a:Addr)(ob:Obj):AO->Prop
 | .list vs=>SeqOb "list" ob vs
 | .flist vs=>SeqOb "list" ob vs
 | .tup vs=>SeqOb "tuple" ob vs
 | .dict es=>DicOb C ob es/\(a==sysModules)=false
 | .fdict es=>DicOb C ob es/\(a==sysModules)=false
 | .inst c d=>∃ ca,C.clsAt c=some ca/\ob.cls=.ref ca/\ob.dict=some d/\∀ k,ob.data≠.cls k
 | .attrs es=>AttOb ob es
 | .exc c d=>ExOb C h ob c d
noncomputable def Is(C:Cx)(h:Heap)(a:Addr)(o:AO):Prop:=∃ ob,h.get? a=some ob/\Ob C h a ob o
theorem Is.elim'{C:Cx}{h:Heap}{a:Addr}{o:AO}{R:Prop}(x:Is C h a o)(k:∀ {ob},h.get? a=some ob->Ob C h a ob o->R):R:=let ⟨_,g,o⟩:=x;k g o
noncomputable def AO.mut:AO->Bool
 | .list _ | .dict _ | .attrs _ | .exc ..=>true
 | _=>false
structure Fx where
 hx:Option Addr
 env:Env
 names:List Str
 fs:List Env
abbrev Kept:=Bool->Addr->Obj->Prop
structure Hid(z:Bool)(o o':Obj):Prop where
 cls:o'.cls=o.cls
 data:o'.data=o.data
 same:(z=false\/∀ es n,o.data≠.dict es n)->o'=o
 noTb:¬IsTb o
theorem Hid.refl{z:Bool}{o:Obj}(h:¬IsTb o):Hid z o o:=⟨rfl,rfl,λ V=>rfl,h⟩
noncomputable def FZ(z:Bool)(x:Option AO):Prop:=match z with
 | true=>x=none
 | false=>∃ es,x=some (.fdict es)
structure Locs(env:Env)(names:List Str)(ρ:Loc)(h:Heap)(m cm:Str->Option Value):Prop where
 ns:h.Ns env.locals m
 cell:∀ x c,env.cells.lookup x=some c->h.IsCell c (cm x)
 val:∀ (i:Nat) x v,names[i]?=some x->ρ[i]?=some (some v)->∃ cv,v.is cv /\
  ((env.kindOf x=some .local/\m x=some cv)\/(env.kindOf x=some .cell/\(env.cells.lookup x).isSome=true/\cm x=some cv))
noncomputable def IsD(o:Obj):Prop:=∃ es n,o.data=.dict es n
inductive FrsAt(C:Cx)(Z:Hp)(h:Heap)(e:Env):Prop
 | mk (k:e.scope.kind≠.module) (L:Addr) (o:Obj) (h1:e.frame=some L) (h2:h.get? L=some o) (h3:IsD o) (h4:C.base.get? L=none) (h5:Z L=none)
structure StB(C:Cx)(P:Kept)(hx:Option Addr)(fs:List Env)(Z:Hp)(s:Shared):Prop where
 base:∀ b o,C.base.get? b=some o->s.heap.get? b=some o
 hid:∀ z b o,P z b o->(∃ o',s.heap.get? b=some o'/\Hid z o o')/\FZ z (Z b)
 rel:∀ b o,Z b=some o->Is C s.heap b o
 nb:∀ b o,Z b=some o->o.mut=true->C.base.get? b=none
 go:s.gens=C.gens/\s.os=C.os
 frs:∀ e∈fs,FrsAt C Z s.heap e
 hand:∀ x,hx=some x->∃ c d,Z x=some (.exc c d)
noncomputable def Own(env:Env)(b:Addr):Prop:=b=env.locals\/∃ x,env.cells.lookup x=some b
structure St(C:Cx)(P:Kept)(f:Fx)(ρ:Loc)(Z:Hp)(s:Shared):Prop extends StB C P f.hx f.fs Z s where
 locs:∃ m cm,Locs f.env f.names ρ s.heap m cm
 own:∀ b,Own f.env b->Z b=none/\C.base.get? b=none/\∀ z o,¬P z b o
structure Off(C:Cx)(P:Kept)(f:Fx)(b:Addr):Prop where
 base:C.base.get? b=none
 P:∀ z o,¬P z b o
 own:¬Own f.env b
 fr:∀ e∈f.fs,e.frame≠some b
noncomputable def Kp(fs:List Env)(b:Addr)(o o':Obj):Prop:=o'=o\/((∃ e∈fs,e.frame=some b)/\IsD o/\∃ sl,o'={ o with slots:=sl })
end U
namespace U
open PySem
theorem clash{α:Type}{x:Option α}{a:α}{p:Prop}(h:x=some a)(h':x=none):p:=by rw [h] at h';cases h'
theorem same{α:Type}{x:Option α}{a b:α}(h:x=some a)(h':x=some b):a=b:=Option.some.inj (h.symm.trans h')
theorem neN{Z:Hp}{a b:Addr}{p:AO}(h:Z b=some p)(h':Z a=none):b≠a:=λ e=>clash h (by rw [e];exact h')
theorem neO{Z:Hp}{a b:Addr}{p q:AO}(h:Z b=some p)(h':Z a=some q)(hne:q≠p):b≠a:=λ e=>hne (same h' (by rw [<-e];exact h))
theorem seqOb_noTb{T:String}{ob:Obj}{vs:List AV}(x:SeqOb T ob vs):¬IsTb ob:=λ ⟨_,_,t,_⟩=>by obtain ⟨cs,n,rfl,V⟩:=x;cases t
theorem isD_noTb{ob:Obj}(x:IsD ob):¬IsTb ob:=λ ⟨_,_,t,_⟩=>by obtain ⟨es,n,e⟩:=x;rw [e] at t;cases t
theorem dicOb_isD{C:Cx}{h:Heap}{b:Addr}{ob:Obj}{es:List (Txt×AV)}(g:h.get? b=some ob)(x:DicOb C ob es):IsD ob:=by
 obtain ⟨kvs,V,k⟩:=x
 obtain ⟨o,es,ep,e1,V,e2,V⟩:=k _ _ g
 rw [<-same g e1] at e2;exact ⟨es,ep,e2⟩
theorem attOb_isD{h:Heap}{b:Addr}{ob:Obj}{es:List (Txt×AV)}(g:h.get? b=some ob)(x:AttOb ob es):IsD ob:=by
 obtain ⟨V,V,m,V,k⟩:=x
 obtain ⟨o,es,ep,e1,e2,V⟩:=k _ _ g
 rw [<-same g e1] at e2;exact ⟨es,ep,e2⟩
theorem Ob.noTb{C:Cx}{h:Heap}{b:Addr}{ob:Obj}{o:AO}(g:h.get? b=some ob)(x:Ob C h b ob o):¬IsTb ob:=by
 cases o with
 | list _=>exact seqOb_noTb x
 | flist _=>exact seqOb_noTb x
 | tup _=>exact seqOb_noTb x
 | dict _=>exact isD_noTb (dicOb_isD g x.1)
 | fdict _=>exact isD_noTb (dicOb_isD g x.1)
 | attrs _=>exact isD_noTb (attOb_isD g x)
 | inst _ _=>obtain ⟨ca,V,e,V⟩:=x;exact λ ⟨t,_⟩=>nomatch (e.symm.trans t)
 | exc _ _=>obtain ⟨ca,vs,V,e,V⟩:=x;exact λ ⟨t,_⟩=>nomatch (e.symm.trans t)
noncomputable def TbK(h h':Heap):Prop:=∀ T o,h.get? T=some o->IsTb o->∃ o',h'.get? T=some o'/\IsTb o'
theorem Ob.keep{C:Cx}{h h':Heap}(k:TbK h h'){b:Addr}{ob:Obj}{o:AO}(x:Ob C h b ob o):Ob C h' b ob o:=by
 cases o with
 | exc _ _=>
  obtain ⟨ca,vs,e1,e2,e3,e4,e5,e6,e7⟩:=x
  exact ⟨ca,vs,e1,e2,e3,e4,e5,e6,e7.imp id λ ⟨T,o,t1,t2,t3,t4⟩=>let ⟨o',t5,t6⟩:=k T o t2 t3;⟨T,o',t1,t5,t6,t4⟩⟩
 | _=>exact x
theorem Is.noTb{C:Cx}{h:Heap}{b:Addr}{ob:Obj}{o:AO}(x:Is C h b o)(g:h.get? b=some ob):¬IsTb ob:=by
 obtain ⟨ob',g',x⟩:=x
 rw [same g g'];exact x.noTb g'
theorem Locs.keep{env:Env}{names:List Str}{ρ:Loc}{h h':Heap}{m cm:Str->Option Value}(L:Locs env names ρ h m cm)(k:∀ b o,Own env b->h.get? b=some o->∃ o',h'.get? b=some o'/\o'.data=o.data):Locs env names ρ h' m cm where
 ns:=let ⟨o,es,ep,e,e1,r⟩:=L.ns;let ⟨o',e',d⟩:=k _ o (.inl rfl) e;⟨o',es,ep,e',d.trans e1,r⟩
 cell:=λ x c hc=>let ⟨o,e,e1⟩:=L.cell x c hc;let ⟨o',e',d⟩:=k _ o (.inr ⟨x,hc⟩) e;⟨o',e',d.trans e1⟩
 val:=L.val
theorem Locs.noTb{env:Env}{names:List Str}{ρ:Loc}{h:Heap}{m cm:Str->Option Value}(L:Locs env names ρ h m cm){b:Addr}{o:Obj}(hb:Own env b)(e:h.get? b=some o):¬IsTb o:=by
 rintro ⟨V,ts,t,V⟩
 rcases hb with rfl | ⟨x,hx⟩
 . obtain ⟨o',es,ep,e',e'',V⟩:=L.ns
   rw [same e e',e''] at t;cases t
 . obtain ⟨o',e',e''⟩:=L.cell x b hx
   rw [same e e',e''] at t;cases t
theorem Locs.has{env:Env}{names:List Str}{ρ:Loc}{h:Heap}{m cm:Str->Option Value}(L:Locs env names ρ h m cm){b:Addr}(hb:Own env b):∃ o,h.get? b=some o:=by
 rcases hb with rfl | ⟨x,hx⟩
 . obtain ⟨o',es,ep,e',V⟩:=L.ns;exact ⟨o',e'⟩
 . obtain ⟨o',e',V⟩:=L.cell x b hx;exact ⟨o',e'⟩
section
variable {C:Cx}{P P':Kept}{hx:Option Addr}{fs:List Env}{f:Fx}{ρ:Loc}{Z Z':Hp}{s s':Shared}{a:Addr}{o o':AO}
theorem StB.frNone(S:StB C P hx fs Z s){b:Addr}(h:∃ e∈fs,e.frame=some b):Z b=none/\C.base.get? b=none:=by
 obtain ⟨e,he,h⟩:=h
 obtain ⟨V,L,o,h2,V,V,h5,h6⟩:=S.frs e he
 rw [<-same h h2] at h5 h6;exact ⟨h6,h5⟩
theorem StB.step(S:StB C P hx fs Z s)(T:Addr->Prop)(hT:∀ b,T b->C.base.get? b=none/\∀ z o,¬P z b o)
  (hF:∀ e∈fs,∀ L,e.frame=some L->T L->∃ o,s'.heap.get? L=some o/\IsD o)
  (keep:∀ b o,¬T b->s.heap.get? b=some o->∃ o',s'.heap.get? b=some o'/\Kp fs b o o')
  (tb:∀ b o,T b->s.heap.get? b=some o->IsTb o->∃ o',s'.heap.get? b=some o'/\IsTb o')
  (hZ:∀ b o,Z' b=some o->(¬T b/\Z b=some o)\/(Is C s'.heap b o/\C.base.get? b=none/\(∀ z o,¬P z b o)/\∀ e∈fs,e.frame≠some b))
  (hk:∀ b es,¬T b->Z b=some (.fdict es)->Z' b=some (.fdict es))
  (hh:∀ x c d,hx=some x->Z x=some (.exc c d)->∃ c d,Z' x=some (.exc c d))
  (hg:s'.gens=s.gens) (ho:s'.os=s.os):StB C P hx fs Z' s':=by
 have ex:∀ b o,¬T b->(¬ ∃ e∈fs,e.frame=some b)->s.heap.get? b=some o->s'.heap.get? b=some o:=λ b o h1 h2 h3=>by
  obtain ⟨o',h4,h5 | h5⟩:=keep b o h1 h3
  . rw [<-h5];exact h4
  . exact absurd h5.1 h2
 have tbk:TbK s.heap s'.heap:=λ b o h1 h2=>by
  by_cases q:T b
  . exact tb b o q h1 h2
  . obtain ⟨o',h4,h5 | h5⟩:=keep b o q h1
    . exact ⟨o',h4,h5▸h2⟩
    . exact absurd h2 (isD_noTb h5.2.1)
 have no:∀ b,Z b=none->((∃ z o,P z b o)\/∃ e∈fs,e.frame=some b)->Z' b=none:=λ b h1 h2=>by
  cases q:Z' b with
  | none=>rfl
  | some o=>
   rcases hZ b o q with q | ⟨V,V,q1,q2⟩
   . exact clash q.2 h1
   . rcases h2 with ⟨z,o,h2⟩ | ⟨e,he,h2⟩
     . exact absurd h2 (q1 z o)
     . exact absurd h2 (q2 e he)
 refine ⟨λ b o e=>?_,λ z b o p=>?_,λ b o e=>?_,λ b o e hm=>?_,⟨hg.trans S.go.1,ho.trans S.go.2⟩,λ e he=>?_,λ x h=>?_⟩
 . exact ex b o (λ ht=>clash e (hT b ht).1) (λ h=>clash e (S.frNone h).2) (S.base b o e)
 . obtain ⟨⟨o',g,H⟩,fz⟩:=S.hid z b o p
   have nT:¬T b:=λ ht=>(hT b ht).2 z o p
   obtain ⟨o'',g',k⟩:=keep b o' nT g
   refine ⟨⟨o'',g',?_⟩,?_⟩
   . rcases k with rfl | ⟨h1,⟨es,n,h2⟩,sl,rfl⟩
     . exact H
     . refine ⟨H.cls,H.data,λ q=>?_,H.noTb⟩
       rcases q with rfl | q
       . obtain ⟨es,e⟩:=fz;exact clash e (S.frNone h1).1
       . exact absurd (H.data.symm.trans h2) (q es n)
   . cases z with
     | true=>exact no b fz (.inl ⟨_,_,p⟩)
     | false=>obtain ⟨es,e⟩:=fz;exact ⟨es,hk b es nT e⟩
 . rcases hZ b o e with ⟨h1,h2⟩ | h
   . obtain ⟨ob,g,x⟩:=S.rel b o h2
     exact ⟨ob,ex b ob h1 (λ h=>clash h2 (S.frNone h).1) g,x.keep tbk⟩
   . exact h.1
 . rcases hZ b o e with h | h
   . exact S.nb b o h.2 hm
   . exact h.2.1
 . obtain ⟨h1,L,o,h2,h3,h4,h5,h6⟩:=S.frs e he
   have h6':=no L h6 (.inr ⟨e,he,h2⟩)
   by_cases q:T L
   . obtain ⟨o',q1,q2⟩:=hF e he L h2 q
     exact ⟨h1,L,o',h2,q1,q2,h5,h6'⟩
   . obtain ⟨o',q1,q2⟩:=keep L o q h3
     refine ⟨h1,L,o',h2,q1,?_,h5,h6'⟩
     rcases q2 with rfl | ⟨V,V,sl,rfl⟩
     . exact h4
     . exact h4
 . obtain ⟨c,d,e⟩:=S.hand x h
   exact hh x c d h e
theorem St.step(S:St C P f ρ Z s)(T:Addr->Prop)(hT:∀ b,T b->Off C P f b)
  (keep:∀ b o,¬T b->s.heap.get? b=some o->∃ o',s'.heap.get? b=some o'/\Kp f.fs b o o')
  (tb:∀ b o,T b->s.heap.get? b=some o->IsTb o->∃ o',s'.heap.get? b=some o'/\IsTb o')
  (hZ:∀ b o,Z' b=some o->(¬T b/\Z b=some o)\/(Is C s'.heap b o/\Off C P f b))
  (hk:∀ b es,¬T b->Z b=some (.fdict es)->Z' b=some (.fdict es))
  (hh:∀ x c d,f.hx=some x->Z x=some (.exc c d)->∃ c d,Z' x=some (.exc c d))
  (hg:s'.gens=s.gens) (ho:s'.os=s.os):St C P f ρ Z' s' where
 toStB:=S.toStB.step T (λ b h=>⟨(hT b h).base,(hT b h).P⟩) (λ e he L h t=>absurd h ((hT L t).fr e he)) keep tb (λ b o e=>(hZ b o e).imp id λ x=>⟨x.1,x.2.base,x.2.P,x.2.fr⟩) hk hh hg ho
 locs:=let ⟨m,cm,L⟩:=S.locs;⟨m,cm,L.keep λ b o hb e=>by
  obtain ⟨o',g,k⟩:=keep b o (λ h=>(hT b h).own hb) e
  refine ⟨o',g,?_⟩
  rcases k with rfl | ⟨V,V,sl,rfl⟩
  . rfl
  . rfl⟩
 own:=λ b hb=>⟨by
  cases q:Z' b with
  | none=>rfl
  | some o=>
   rcases hZ b o q with h | h
   . exact clash h.2 (S.own b hb).1
   . exact absurd hb h.2.own,(S.own b hb).2⟩
theorem StB.newNone(S:StB C P hx fs Z s)(e:s.heap.get? a=none):Z a=none:=by
 cases q:Z a with
 | none=>rfl
 | some o=>obtain ⟨ob,g,V⟩:=S.rel a o q;exact clash g e
theorem StB.newBase(S:StB C P hx fs Z s)(e:s.heap.get? a=none):C.base.get? a=none:=by
 cases q:C.base.get? a with
 | none=>rfl
 | some o=>exact clash (S.base a o q) e
theorem StB.newP(S:StB C P hx fs Z s)(e:s.heap.get? a=none)(z:Bool)(o:Obj):¬P z a o:=λ h=>by obtain ⟨⟨o',g,V⟩,V⟩:=S.hid z a o h;exact clash g e
theorem St.offNew(S:St C P f ρ Z s)(e:s.heap.get? a=none):Off C P f a where
 base:=S.newBase e
 P:=S.newP e
 own:=λ h=>by obtain ⟨m,cm,L⟩:=S.locs;obtain ⟨o,g⟩:=L.has h;exact clash g e
 fr:=λ en he h=>by
  obtain ⟨V,L,o',e1,e2,V⟩:=S.frs en he
  rw [<-same h e1] at e2;exact clash e2 e
theorem St.off(S:St C P f ρ Z s)(e:Z a=some o)(hm:o.mut=true):Off C P f a where
 base:=S.nb a o e hm
 P:=λ z o' h=>by
  have q:=(S.hid z a o' h).2
  cases z with
  | true=>exact clash e q
  | false=>obtain ⟨es,q⟩:=q;rw [same e q] at hm;cases hm
 own:=λ h=>clash e (S.own a h).1
 fr:=λ en he h=>clash e (S.frNone ⟨en,he,h⟩).1
theorem St.keeps(S:St C P f ρ Z s)(keep:∀ b o,s.heap.get? b=some o->s'.heap.get? b=some o)(hg:s'.gens=s.gens:=by rfl)(ho:s'.os=s.os:=by rfl):St C P f ρ Z s':=
 S.step (λ V=>False) (λ V h=>h.elim) (λ b o V e=>⟨o,keep b o e,.inl rfl⟩) (λ V V h=>h.elim) (λ V V e=>.inl ⟨id,e⟩) (λ V V V e=>e) (λ V c d V e=>⟨c,d,e⟩) hg ho
theorem St.tok(S:St C P f ρ Z s)(t:Nat):St C P f ρ Z { s with toks:=t }:=S.keeps λ V V e=>e
theorem St.junk(S:St C P f ρ Z s)(hi:Off C P f a)(hn:Z a=none)(hc:∀ o,s.heap.get? a=some o->¬IsTb o)
  (keep:∀ b o,b≠a->s.heap.get? b=some o->s'.heap.get? b=some o) (hg:s'.gens=s.gens:=by rfl) (ho:s'.os=s.os:=by rfl):St C P f ρ Z s':=
 S.step (·=a) (λ b h=>h▸hi) (λ b o h e=>⟨o,keep b o h e,.inl rfl⟩) (λ b o h e t=>absurd t (hc o (h▸e))) (λ b o e=>.inl ⟨(λ h=>neN e hn h),e⟩) (λ V V V e=>e) (λ V c d V e=>⟨c,d,e⟩) hg ho
theorem setH_cases{Z:Hp}{a b:Addr}{o p:AO}(e:setH Z a o b=some p):(b=a/\p=o)\/(b≠a/\Z b=some p):=by
 by_cases h:b=a
 . subst h;rw [setH_here] at e;exact .inl ⟨rfl,(Option.some.inj e).symm⟩
 . rw [setH_ne h] at e;exact .inr ⟨h,e⟩
theorem St.new(S:St C P f ρ Z s)(keep:∀ b o,s.heap.get? b=some o->s'.heap.get? b=some o)(ha:s.heap.get? a=none)(hi:Is C s'.heap a o)
  (hg:s'.gens=s.gens:=by rfl) (ho:s'.os=s.os:=by rfl):St C P f ρ (setH Z a o) s':=
 S.step (λ V=>False) (λ V h=>h.elim) (λ b o V e=>⟨o,keep b o e,.inl rfl⟩) (λ V V h=>h.elim)
  (λ b p e=>(setH_cases e).elim (λ q=>.inr (by rw [q.1,q.2];exact ⟨hi,S.offNew ha⟩)) λ q=>.inl ⟨id,q.2⟩)
  (λ V V V e=>setH_old e (S.newNone ha)) (λ V c d V e=>⟨c,d,setH_old e (S.newNone ha)⟩) hg ho
theorem St.upd(S:St C P f ρ Z s)(e:Z a=some o)(hm:o.mut=true)(hx:∀ c d,o≠.exc c d)(keep:∀ b o,b≠a->s.heap.get? b=some o->s'.heap.get? b=some o)
  (hi:Is C s'.heap a o') (hg:s'.gens=s.gens:=by rfl) (ho:s'.os=s.os:=by rfl):St C P f ρ (setH Z a o') s':=
 S.step (·=a) (λ b h=>h▸S.off e hm) (λ b o h g=>⟨o,keep b o h g,.inl rfl⟩) (λ b ob h g t=>absurd t ((S.rel a o e).noTb (h▸g)))
  (λ b p q=>(setH_cases q).elim (λ q=>.inr (by rw [q.1,q.2];exact ⟨hi,S.off e hm⟩)) λ q=>.inl q)
  (λ V V h g=>(setH_ne h).trans g) (λ x c d V g=>⟨c,d,(setH_ne (neO g e (hx c d))).trans g⟩) hg ho
noncomputable def Kept.add(P:Kept)(z:Bool)(I:Addr)(o:Obj):Kept:=λ z' b q=>P z' b q\/(z'=z/\b=I/\q=o)
theorem St.less(S:St C P' f ρ Z s)(h:∀ z b o,P z b o->P' z b o):St C P f ρ Z s:=
 { S with hid:=λ z b o p=>S.hid z b o (h z b o p),own:=λ b hb=>let ⟨h1,h2,h3⟩:=S.own b hb;⟨h1,h2,λ z o p=>h3 z o (h z b o p)⟩ }
theorem St.unhide{z:Bool}{I:Addr}{q:Obj}(S:St C (P.add z I q) f ρ Z s):St C P f ρ Z s:=S.less λ V V V=>.inl
theorem St.hide(S:St C P f ρ Z s){I:Addr}{q:Obj}(hO:Off C P f I)(hn:Z I=none)(ho:s.heap.get? I=some q)(ht:¬IsTb q):St C (P.add true I q) f ρ Z s:=
 { S with
  hid:=λ z b o p=>p.elim (S.hid z b o) λ ⟨h1,h2,h3⟩=>by subst h1 h2 h3;exact ⟨⟨_,ho,.refl ht⟩,hn⟩
  own:=λ b hb=>let ⟨h1,h2,h3⟩:=S.own b hb;⟨h1,h2,λ z o p=>p.elim (h3 z o) λ q=>hO.own (q.2.1▸hb)⟩ }
theorem St.hidden{I:Addr}{q:Obj}(S:St C (P.add true I q) f ρ Z s)(hd:¬IsD q):Z I=none/\s.heap.get? I=some q:=by
 obtain ⟨⟨o',h2,h3⟩,h1⟩:=S.hid true I q (.inr ⟨rfl,rfl,rfl⟩)
 rw [h3.same (.inr λ es n e=>hd ⟨es,n,e⟩)] at h2
 exact ⟨h1,h2⟩
noncomputable def OwnP(P:Kept)(env:Env)(s:Shared):Kept:=λ z b o=>P z b o\/(z=true/\Own env b/\s.heap.get? b=some o)
theorem St.toB(S:St C P f ρ Z s):StB C (OwnP P f.env s) f.hx f.fs Z s:=
 { S.toStB with hid:=λ z b o p=>p.elim (S.hid z b o) λ ⟨h1,h2,h3⟩=>let ⟨_,_,L⟩:=S.locs;h1▸⟨⟨o,h3,.refl (L.noTb h2 h3)⟩,(S.own b h2).1⟩ }
theorem St.ofB(S:St C P f ρ Z s)(B:StB C (OwnP P f.env s) f.hx f.fs Z' s'):St C P f ρ Z' s':=
 { B with
  hid:=λ z b o h=>B.hid z b o (.inl h)
  locs:=let ⟨m,cm,L⟩:=S.locs;⟨m,cm,L.keep λ b o hb e=>let ⟨⟨o',e',H⟩,_⟩:=B.hid true b o (.inr ⟨rfl,hb,e⟩);⟨o',e',H.data⟩⟩
  own:=λ b hb=>by
   obtain ⟨m,cm,L⟩:=S.locs
   obtain ⟨o,g⟩:=L.has hb
   exact ⟨(B.hid true b o (.inr ⟨rfl,hb,g⟩)).2,(S.own b hb).2⟩ }
end
end U
namespace U
open PySem PyProof.Rows
namespace All2
variable {α β:Type}{R:α->β->Prop}
theorem length{xs:List α}{ys:List β}(h:All2 R xs ys):xs.length=ys.length:=by
 induction h with
 | nil=>rfl
 | cons _ _ ih=>exact congrArg (·+1) ih
theorem append{xs xs':List α}{ys ys':List β}(h:All2 R xs ys)(h':All2 R xs' ys'):All2 R (xs++xs') (ys++ys'):=by
 induction h with
 | nil=>exact h'
 | cons h1 _ ih=>exact .cons h1 ih
theorem get{xs:List α}{ys:List β}(h:All2 R xs ys){i:Nat}{x:α}(e:xs[i]?=some x):∃ y,ys[i]?=some y/\R x y:=by
 induction h generalizing i with
 | nil=>cases e
 | cons h1 _ ih=>cases i with
  | zero=>exact ⟨_,rfl,Option.some.inj e▸h1⟩
  | succ n=>exact ih e
theorem set{xs:List α}{ys:List β}(h:All2 R xs ys){i:Nat}{x:α}{y:β}(r:R x y):All2 R (xs.set i x) (ys.set i y):=by
 induction h generalizing i with
 | nil=>exact .nil
 | cons h1 t ih=>cases i with
  | zero=>exact .cons r t
  | succ n=>exact .cons h1 ih
theorem pick{xs:List α}{ys:List β}(h:All2 R xs ys)(is:List Nat):All2 R (is.filterMap (xs[·]?)) (is.filterMap (ys[·]?)):=by
 induction is with
 | nil=>exact .nil
 | cons i is ih=>
  rw [filterMap_cons,filterMap_cons]
  cases e:xs[i]? with
  | none=>
   rw [List.getElem?_eq_none_iff] at e
   rw [List.getElem?_eq_none_iff.mpr (h.length▸e)];exact ih
  | some x=>
   obtain ⟨y,hy,r⟩:=h.get e
   rw [hy];exact .cons r ih
theorem one{x:α}{ys:List β}{G:List β->Prop}(h:All2 R [x] ys)(k:∀ y,R x y->G [y]):G ys:=by
 cases h with | cons h1 h2=>cases h2;exact k _ h1
theorem two{x x':α}{ys:List β}{G:List β->Prop}(h:All2 R [x,x'] ys)(k:∀ y y',R x y->R x' y'->G [y,y']):G ys:=by
 cases h with | cons h1 h2=>exact h2.one (G:=λ l=>G (_::l)) λ y r=>k _ y h1 r
end All2
theorem toS_append(a b:Txt):toS (a++b)=toS a++toS b:=Str.ext' (by rw [Str.cps_append];simp [toS])
theorem toS_length(a:Txt):(toS a).length=a.length:=by simp [toS,Str.length]
theorem toS_inj{a b:Txt}(h:toS a=toS b):a=b:=by
 have:=congrArg (λ s=>s.cps.toList) h
 simpa [toS] using this
theorem toS_beq(a b:Txt):(toS a==toS b)=(a==b):=by
 by_cases h:a=b
 . subst h;rw [beq_self_eq_true,beq_self_eq_true]
 . rw [beq_eq_false_iff_ne.mpr h,beq_eq_false_iff_ne.mpr λ e=>h (toS_inj e)]
theorem toS_ofString(x:String):toS (x.toList.map Char.toNat)=Str.ofString x:=by rw [Str.ofString_eq_toList];rfl
theorem tooLong_lt{n:Nat}(h:n<tooLong):n<=sizeLine:=by rw [sizeLine_eq];exact Nat.le_trans (Nat.le_of_lt h) (by decide)
theorem tooLong_fit{n:Nat}(h:n<tooLong):((n:Nat):Int)<2 ^ 63:=Int.lt_trans (Int.ofNat_lt.mpr h) (by decide)
theorem is_int{i:Int}{t:Tok}:(AV.int i).is (.int i t):=⟨t,rfl⟩
theorem is_str{x:Txt}{t:Tok}:(AV.str x).is (.str (toS x) t):=⟨t,rfl⟩
theorem is_bool{b:Bool}:(AV.bool b).is (.bool b):=rfl
theorem is_none:AV.none.is .none:=rfl
section
variable {x y:AV}{u v:Value}
theorem intE{f:Int->Prop}{G:Value->Prop}(h:IntP x f)(hx:x.is u)(k:∀ i t,f i->G (.int i t)):G u:=by
 cases x <;> first | exact h.elim | (obtain ⟨t,rfl⟩:=hx;exact k _ t h)
theorem strE{f:Txt->Prop}{G:Value->Prop}(h:StrP x f)(hx:x.is u)(k:∀ i t,f i->G (.str (toS i) t)):G u:=by
 cases x <;> first | exact h.elim | (obtain ⟨t,rfl⟩:=hx;exact k _ t h)
theorem boolE{f:Bool->Prop}{G:Value->Prop}(h:BoolP x f)(hx:x.is u)(k:∀ i,f i->G (.bool i)):G u:=by
 cases x <;> first | exact h.elim | (cases hx;exact k _ h)
theorem refE{f:Addr->Prop}{G:Value->Prop}(h:RefP x f)(hx:x.is u)(k:∀ i,f i->G (.ref i)):G u:=by
 cases x <;> first | exact h.elim | (cases hx;exact k _ h)
theorem nonE{p:Prop}{G:Value->Prop}(h:NonP x p)(hx:x.is u)(k:p->G .none):G u:=by
 cases x <;> first | exact h.elim | (cases hx;exact k h)
theorem iiE{f:Int->Int->Prop}{G:Value->Value->Prop}(h:IIP [x,y] f)(hx:x.is u)(hy:y.is v)(k:∀ a b t t',f a b->G (.int a t) (.int b t')):G u v:=
 intE (G:=λ u=>G u v) (f:=λ a=>IntP y λ b=>f a b) h hx λ a t h=>intE h hy λ b t' h=>k a b t t' h
theorem okE{α:Type}{o:Option α}{k:α->Prop}{p:Prop}(h:OkP o k)(g:∀ v,o=some v->k v->p):p:=by
 cases o with
 | none=>exact h.elim
 | some v=>exact g v rfl h
variable {vs:List AV}{cvs:List Value}
theorem oneE{f:AV->Prop}{G:List Value->Prop}(h:OneP vs f)(hv:All2 AV.is vs cvs)(k:∀ x u,x.is u->f x->G [u]):G cvs:=by
 match vs,hv,h with
 | [x],hv,h=>exact hv.one λ u hu=>k x u hu h
theorem twoE{f:AV->AV->Prop}{G:List Value->Prop}(h:TwoP vs f)(hv:All2 AV.is vs cvs)(k:∀ x y u v,x.is u->y.is v->f x y->G [u,v]):G cvs:=by
 match vs,hv,h with
 | [x,y],hv,h=>exact hv.two λ u v hu hv=>k x y u v hu hv h
theorem threeE{f:AV->AV->AV->Prop}{G:List Value->Prop}(h:ThreeP vs f)(hv:All2 AV.is vs cvs)(k:∀ x y z u v w,x.is u->y.is v->z.is w->f x y z->G [u,v,w]):G cvs:=by
 match vs,hv,h with
 | [x,y,z],.cons h1 hv,h=>exact hv.two (G:=λ l=>G (_::l)) λ u v hu hv=>k x y z _ u v h1 hu hv h
end
section
variable {C:Cx}{P:Kept}{f:Fx}{ρ:Loc}{Z:Hp}{s:Shared}{A:Around}{E:Value->Shared->Prop}{Q:Post}{a:Addr}
inductive RV(C:Cx)(P:Kept)(f:Fx)(ρ:Loc)(Q:Post)(v:Value)(s':Shared):Prop
 | mk (av Z') (h1:av.is v) (h2:St C P f ρ Z' s') (h3:Q av Z'):RV C P f ρ Q v s'
inductive RX(C:Cx)(P:Kept)(f:Fx)(ρ:Loc)(X:XPost)(x:Value)(s':Shared):Prop
 | mk (a Z' c d) (h1:x=.ref a) (h2:St C P f ρ Z' s') (h3:Z' a=some (.exc c d)) (h4:X a Z'):RX C P f ρ X x s'
theorem rv{v:Value}{av:AV}(hv:av.is v)(S:St C P f ρ Z s)(q:Q av Z):RV C P f ρ Q v s:=⟨av,Z,hv,S,q⟩
theorem fresh_size(h:Heap):h.get? h.objs.size=none:=by
 cases q:h.get? h.objs.size with
 | none=>rfl
 | some o=>exact absurd (Heap.lt_size q) (Nat.lt_irrefl _)
theorem rv_new{o:AO}{ob:Obj}{tk:Nat}(S:St C P f ρ Z s)(q:NewO Z o Q)(hi:∀ h:Heap,h.get? s.heap.objs.size=some ob->Ob C h s.heap.objs.size ob o)(hf:ob.isFreed=false):
  RV C P f ρ Q (.ref s.heap.objs.size) { s with heap:=s.heap.push ob,toks:=tk }:=
 have g:=Heap.get?_push_size s.heap hf
 rv (av:=.ref _) rfl (S.new (s':={ s with heap:=s.heap.push ob,toks:=tk }) (λ V V e=>Heap.get?_push_of_some _ e) (fresh_size _) ⟨ob,g,hi _ g⟩) (q _ (S.newNone (fresh_size _)))
theorem rv_seq{T:String}{o:AO}{vs:List AV}{cs:List Value}{tk:Nat}(ho:∀ h a ob,Ob C h a ob o=SeqOb T ob vs)(S:St C P f ρ Z s)(q:NewO Z o Q)(h:All2 AV.is vs cs):
  RV C P f ρ Q (.ref s.heap.objs.size) { s with heap:=s.heap.push { cls:=.type T,data:=.seq cs.toArray },toks:=tk }:=
 rv_new S q (λ V V=>by rw [ho];exact ⟨_,_,rfl,h⟩) rfl
theorem rv_list{vs:List AV}{cs:List Value}{tk:Nat}(S:St C P f ρ Z s)(q:NewO Z (.list vs) Q)(h:All2 AV.is vs cs):
  RV C P f ρ Q (.ref s.heap.objs.size) { s with heap:=s.heap.push { cls:=.type "list",data:=.seq cs.toArray },toks:=tk }:=rv_seq (λ V V V=>rfl) S q h
theorem rv_tup{vs:List AV}{cs:List Value}{tk:Nat}(S:St C P f ρ Z s)(q:NewO Z (.tup vs) Q)(h:All2 AV.is vs cs):
  RV C P f ρ Q (.ref s.heap.objs.size) { s with heap:=s.heap.push { cls:=.type "tuple",data:=.seq cs.toArray },toks:=tk }:=rv_seq (λ V V V=>rfl) S q h
theorem St.at{o:AO}{T:String}{xs:List AV}{p:Prop}(S:St C P f ρ Z s)(e:Z a=some o)(ho:∀ ob,Ob C s.heap a ob o->SeqOb T ob xs)(k:∀ cs n,s.heap.get? a=some (seqObj T cs n)->All2 AV.is xs cs.toList->p):p:=by
 obtain ⟨ob,g,x⟩:=S.rel a o e
 obtain ⟨cs,n,rfl,h⟩:=ho ob x
 exact k cs n g h
noncomputable def BinOk(C:Cx)(op:Op)(b:Operator):Prop:=∀ ⦃P f ρ Z s A E Q x y u v⦄,St C P f ρ Z s->op Z [x,y] Q->x.is u->y.is v->wpAny (model C.prog C.w) A (binaryOp b u v) (RV C P f ρ Q) E s
set_option tactic.hygienic true in
theorem intBits_le{a:Int}(h:a.natAbs<2 ^ 64):Builtin.Int.intBits a<=64:=by
 unfold Builtin.Int.intBits
 split
 . exact Nat.zero_le _
 . rename_i hz
   exact (Nat.log2_lt λ e=>hz (by rw [Int.natAbs_eq_zero.mp e];rfl)).mpr h
theorem app_size{xs ys:List AV}{cs ds:Array Value}(r1:All2 AV.is xs cs.toList)(r2:All2 AV.is ys ds.toList)(hl:xs.length+ys.length<tooLong):cs.size+ds.size<=sizeLine:=by
 rw [show cs.size=xs.length from r1.length.symm,show ds.size=ys.length from r2.length.symm];exact tooLong_lt hl
theorem app_arr(cs ds:Array Value):cs++ds=(cs.toList++ds.toList).toArray:=by simp
theorem add_seqs{o p:AO}{b:Addr}(S:St C P f ρ Z s)(e1:Z a=some o)(e2:Z b=some p)(h:AddR Z o p Q):wpAny (model C.prog C.w) A (binaryOp .Add (.ref a) (.ref b)) (RV C P f ρ Q) E s:=by
 cases o <;> cases p <;> first | exact h.elim | skip
 . refine S.at e1 (λ V x=>x) λ cs n g1 r1=>S.at e2 (λ V x=>x) λ ds m g2 r2=>?_
   refine concat_meets ⟨_,g1,rfl⟩ ⟨_,g2,rfl⟩ noFill_list_add seq_list_add PySem.F.slot_list_add PySem.F.entry_list_add (PySem.F.args_list_add_2 _ _) (list_addW a b cs ds n m none none #[] #[] (app_size r1 r2 h.1)) ⟨g1,g2,?_⟩
   rw [app_arr];exact rv_list S h.2 (r1.append r2)
 . refine S.at e1 (λ V x=>x) λ cs n g1 r1=>S.at e2 (λ V x=>x) λ ds m g2 r2=>?_
   refine concat_meets ⟨_,g1,rfl⟩ ⟨_,g2,rfl⟩ noFill_tuple_add seq_tuple_add PySem.F.slot_tuple_add PySem.F.entry_tuple_add (PySem.F.args_tuple_add_2 _ _)
    (tuple_addW2 a b cs ds n m none none #[] #[] (λ e=>h.1.1 ?_) (λ e=>h.1.2.1 ?_) (app_size r1 r2 h.1.2.2)) ⟨g1,g2,?_⟩
   . rw [<-List.length_eq_zero_iff,r1.length,Array.length_toList];simpa using e
   . rw [<-List.length_eq_zero_iff,r2.length,Array.length_toList];simpa using e
   . rw [app_arr];exact rv_tup S h.2 (r1.append r2)
theorem bin_add:BinOk C .add .Add:=λ P f ρ Z s A E Q x y u v S h hx hy=>by
 cases x with
 | int a=>obtain ⟨t,rfl⟩:=hx;apply intE (x:=y) h hy;exact λ b t' q=>add_int (rv is_int (S.tok _) q)
 | str a=>obtain ⟨t,rfl⟩:=hx;apply strE (x:=y) h hy;exact λ b t' q=>add_str (λ t'' tk=>rv (toS_append ..▸is_str) (S.tok tk) q.2) (by rw [toS_length,toS_length];exact tooLong_lt q.1)
 | ref a=>cases hx;apply refE (x:=y) h hy;exact λ b q=>okE q λ o e1 q=>okE q λ p e2 q=>add_seqs S e1 e2 q
 | none=>exact h.elim
 | bool _=>exact h.elim
theorem bin_sub:BinOk C .sub .Sub:=λ V V V V V V V V V V V V S h hx hy=>by apply iiE h hx hy;exact λ V V V V q=>sub_int (rv is_int (S.tok _) q)
theorem bin_mul:BinOk C .mul .Mult:=λ V V V V V V V V V V V V S h hx hy=>by apply iiE h hx hy;exact λ V V V V q=>mul_int (rv is_int (S.tok _) q.2) (q.1.elim (λ h=>.of_left (intBits_le h)) λ h=>.of_right (intBits_le h))
theorem bin_fdiv:BinOk C .fdiv .FloorDiv:=λ V V V V V V V V V V V V S h hx hy=>by apply iiE h hx hy;exact λ V V V V q=>floordiv_int q.1.1 (rv is_int (S.tok _) q.2) (.inl (PyProof.noPylong_small q.1.2))
theorem bin_mod:BinOk C .mod .Mod:=λ V V V V V V V V V V V V S h hx hy=>by apply iiE h hx hy;exact λ V V V V q=>mod_int' q.1 (rv is_int (S.tok _) q.2)
end
end U
namespace U
open PySem PyProof.Rows PySem.SeqAt
theorem kind_seq'{o:AO}(h:o.kind=1\/o.kind=2):∃ xs,o.seq?=some xs:=by
 cases o <;> first | exact ⟨_,rfl⟩ | exact nomatch h
theorem kind_map'{o:AO}(h:o.kind=3):∃ es,o.map?=some es:=by
 cases o <;> first | exact ⟨_,rfl⟩ | exact nomatch h
section
variable {C:Cx}{Z:Hp}{s:Shared}{A:Around}{h:Heap}{a b:Addr}
theorem seqP_of{o:AO}{xs:List AV}(e:o.seq?=some xs):seqP o (·=xs) λ V=>False:=by
 cases o <;> first | exact Option.some.inj e | exact nomatch e
theorem mapP_of{o:AO}{es:List (Txt×AV)}(e:o.map?=some es):seqP o (λ V=>False) (·=es):=by
 cases o <;> first | exact Option.some.inj e | exact nomatch e
theorem Is.view{o:AO}{k:List AV->Prop}{k':List (Txt×AV)->Prop}{p:Prop}(x:Is C h a o)(e:seqP o k k')
  (k1:∀ xs cs,o.kind=1->h.IsList a cs->All2 AV.is xs cs.toList->k xs->p) (k2:∀ xs cs,o.kind=2->h.IsTuple a cs->All2 AV.is xs cs.toList->k xs->p)
  (k3:∀ es kvs,o.kind=3->h.DictOf (strKind C.prog C.w) a kvs->All2 Ent es kvs->(a==sysModules)=false->k' es->p):p:=by
 obtain ⟨ob,g,x⟩:=x
 cases o with
 | list xs=>obtain ⟨cs,n,rfl,r⟩:=x;exact k1 xs cs rfl ⟨_,g,rfl,n,rfl⟩ r e
 | flist xs=>obtain ⟨cs,n,rfl,r⟩:=x;exact k1 xs cs rfl ⟨_,g,rfl,n,rfl⟩ r e
 | tup xs=>obtain ⟨cs,n,rfl,r⟩:=x;exact k2 xs cs rfl ⟨_,g,rfl,n,rfl⟩ r e
 | dict es=>obtain ⟨⟨kvs,r,d⟩,m⟩:=x;exact k3 es kvs rfl (d _ _ g) r m e
 | fdict es=>obtain ⟨⟨kvs,r,d⟩,m⟩:=x;exact k3 es kvs rfl (d _ _ g) r m e
 | _=>exact e.elim
theorem Is.sq{o:AO}{xs:List AV}{p:Prop}(x:Is C h a o)(e:o.seq?=some xs)
  (k1:∀ cs,o.kind=1->h.IsList a cs->All2 AV.is xs cs.toList->p) (k2:∀ cs,o.kind=2->h.IsTuple a cs->All2 AV.is xs cs.toList->p):p:=
 x.view (seqP_of e) (λ V cs k l r q=>k1 cs k l (q▸r)) (λ V cs k l r q=>k2 cs k l (q▸r)) λ V V V V V V=>False.elim
theorem Is.map{o:AO}{es:List (Txt×AV)}(x:Is C h a o)(e:o.map?=some es):∃ kvs,h.DictOf (strKind C.prog C.w) a kvs/\All2 Ent es kvs/\(a==sysModules)=false:=
 x.view (mapP_of e) (λ V V V V V=>False.elim) (λ V V V V V=>False.elim) λ V kvs V d r m q=>⟨kvs,d,q▸r,m⟩
structure Same(A:Around)(s:Shared)(u v:Value)(b:Bool):Prop where
 rc:RcAt A s u v b
 eq:EqAt A s u v b
theorem Same.of{x:AV}{u v:Value}{b:Bool}(hx:x.is u)(rc:RcAt A s u v b)(hid:u=v->b=true):Same A s u v b:=⟨rc,λ prog w E Q q=>by
 unfold eqBool
 refine wpAny_holding (wpAny_ite_split (λ hab=>?_) λ V=>?_)
 . rw [hid (eq_of_beq hab)] at q
   exact wpAny_bind (wpAny_rule (wpAny_pure q))
 . have key:wpAny (model prog w) A (richCompare .Eq u v >>= truthOfDropped) Q E s:=wpAny_bind (rc prog w E _ (wpAny_truthy_bool q))
   cases x <;> first | (cases hx;exact key) | (obtain ⟨V,rfl⟩:=hx;exact key)⟩
theorem str_declines_dict(b:Str)(u:Tok)(l:Addr)(es:Array DictEntry)(n:Nat)(dd:Option Addr)(sl:Array (Option Value)):
  Meets (Builtin.«str.__eq__» ⟨[.str b u,.ref l],[]⟩) (λ V R s=>s.heap.get? l=some { cls:=.type "dict",dict:=dd,data:=.dict es n,slots:=sl }/\R (.ok (.ret .notImplemented)) s):=
 .of_wp λ prog w A R s h=>by obtain ⟨hp,g,d,tk,os⟩:=s;obtain ⟨hl,h⟩:=h;wp_walk using AutoSeq1.wpAny_loadPart' hl,wpAny_load hl;exact ⟨_,rfl,h⟩
theorem dict_declines_str(b:Str)(u:Tok)(l:Addr)(es:Array DictEntry)(n:Nat)(dd:Option Addr)(sl:Array (Option Value)):
  Meets (Builtin.«dict.__eq__» ⟨[.ref l,.str b u],[]⟩) (λ V R s=>s.heap.get? l=some { cls:=.type "dict",dict:=dd,data:=.dict es n,slots:=sl }/\R (.ok (.ret .notImplemented)) s):=
 .of_wp λ prog w A R s h=>by obtain ⟨hp,g,d,tk,os⟩:=s;obtain ⟨hl,h⟩:=h;wp_walk using AutoSeq1.wpAny_loadPart' hl,wpAny_load hl;exact wpAny_of_eq F.sub_str_dict (wpAny_bind (wpAny_rule (wpAny_pure ⟨_,rfl,h⟩)))
theorem rc_str_dict{l:Addr}{kvs:List (Str×Value)}(b:Str)(u:Tok)(hl:s.heap.DictOf (strKind C.prog C.w) l kvs)(hu:A.units<cLine):RcAt A s (.str b u) (.ref l) false:=λ prog w E Q h=>by
 obtain ⟨⟨cls,dd,data,sl⟩,es,n,ho,⟨hc,V,V⟩,hd,V⟩:=id hl
 simp only at hc hd
 subst hc hd
 exact rc_eq_decline_or (k:=false) (typeIs_str s b u) ⟨_,ho,rfl⟩ (by decide) F.sub_dict_str F.slot_str_eq F.slot_dict_eq_refl
  (λ V hq=>call_meets F.slot_str_eq (typeIs_str s b u) F.entry_str_eq (F.args_str_eq_2 _ _) (str_declines_dict b u l es n dd sl) ⟨ho,hq⟩)
  (λ V hq=>call_meets F.slot_dict_eq_refl ⟨_,ho,rfl⟩ F.entry_dict_eq (F.args_dict_eq_2 _ _) (dict_declines_str b u l es n dd sl) ⟨ho,hq⟩)
  (λ V hq=>wpAny_of_eq (rfl:isSame (.str b u) (.ref l)=pure false) hq) (.inr hu) h
theorem scalE{x:AV}{u:Value}{G:AV->Value->Prop}(sx:x.scal=true)(hx:x.is u)(k0:G .none .none)(k1:∀ b,G (.bool b) (.bool b))(k2:∀ i t,G (.int i) (.int i t))(k3:∀ i t,G (.str i) (.str (toS i) t)):G x u:=by
 cases x with
 | none=>cases hx;exact k0
 | bool b=>cases hx;exact k1 b
 | int i=>obtain ⟨t,rfl⟩:=hx;exact k2 i t
 | str i=>obtain ⟨t,rfl⟩:=hx;exact k3 i t
 | ref a=>cases sx
theorem scal2{x y:AV}{u v:Value}{R:Value->Value->Bool->Prop}(hx:x.is u)(hy:y.is v)(sx:x.scal=true)(sy:y.scal=true){g:Bool->Bool}
  (nn:R .none .none (g true)) (nb:∀ b,R .none (.bool b) (g false)) (ni:∀ i t,R .none (.int i t) (g false)) (ns:∀ i t,R .none (.str i t) (g false))
  (bn:∀ b,R (.bool b) .none (g false)) (bb:∀ b c,R (.bool b) (.bool c) (g (b==c))) (bi:∀ b i t,R (.bool b) (.int i t) (g (b2i b==i))) (bs:∀ b i t,R (.bool b) (.str i t) (g false))
  (i_n:∀ i t,R (.int i t) .none (g false)) (ib:∀ i t b,R (.int i t) (.bool b) (g (i==b2i b))) (ii:∀ i t j u,R (.int i t) (.int j u) (g (i==j))) (is:∀ i t j u,R (.int i t) (.str j u) (g false))
  (sn:∀ i t,R (.str i t) .none (g false)) (sb:∀ i t b,R (.str i t) (.bool b) (g false)) (si:∀ i t j u,R (.str i t) (.int j u) (g false)) (ss:∀ i t j u,R (.str i t) (.str j u) (g (i==j))):R u v (g (eqS x y)):=by
 have st:∀ i j,g (eqS (.str i) (.str j))=g (toS i==toS j):=λ i j=>congrArg g (toS_beq i j).symm
 apply scalE (G:=λ x u=>R u v (g (eqS x y))) sx hx
 . exact scalE (G:=λ y v=>R .none v (g (eqS .none y))) sy hy nn nb ni λ i t=>ns _ t
 . exact λ b=>scalE (G:=λ y v=>R (.bool b) v (g (eqS (.bool b) y))) sy hy (bn b) (bb b) (bi b) λ i t=>bs b _ t
 . exact λ i t=>scalE (G:=λ y v=>R (.int i t) v (g (eqS (.int i) y))) sy hy (i_n i t) (ib i t) (ii i t) λ j u=>is i t _ u
 . exact λ i t=>scalE (G:=λ y v=>R (.str (toS i) t) v (g (eqS (.str i) y))) sy hy (sn _ t) (sb _ t) (si _ t) λ j u=>by rw [st];exact ss _ t _ u
theorem eqS_self{x y:AV}{u:Value}(hx:x.is u)(hy:y.is u)(sx:x.scal=true)(sy:y.scal=true):eqS x y=true:=
 scal2 (R:=λ u v r=>u=v->r=true) (g:=id) hx hy sx sy (λ V=>rfl) (λ V=>nofun) (λ V V=>nofun) (λ V V=>nofun) (λ V=>nofun) (λ b c e=>by cases e;exact beq_self_eq_true _) (λ V V V=>nofun) (λ V V V=>nofun)
  (λ V V=>nofun) (λ V V V=>nofun) (λ i t j u e=>by cases e;exact beq_self_eq_true _) (λ V V V V=>nofun) (λ V V=>nofun) (λ V V V=>nofun) (λ V V V V=>nofun) (λ i t j u e=>by cases e;exact beq_self_eq_true _) rfl
theorem ite_b2i(b:Bool):(if b=true then (1:Int) else 0)=b2i b:=by cases b <;> rfl
theorem same_scal{x y:AV}{u v:Value}(hx:x.is u)(hy:y.is v)(sx:x.scal=true)(sy:y.scal=true):Same A s u v (eqS x y):=
 .of hx (scal2 (R:=RcAt A s) (g:=id) hx hy sx sy .none_none .none_bool .none_int .none_str .bool_none .bool_bool (λ b i t=>ite_b2i b▸RcAt.bool_int b i t) .bool_str .int_none (λ i t b=>ite_b2i b▸RcAt.int_bool i t b) .int_int .int_str .str_none .str_bool .str_int .str_str)
  λ e=>eqS_self hx (e▸hy) sx sy
theorem ne_scal{x y:AV}{u v:Value}(hx:x.is u)(hy:y.is v)(sx:x.scal=true)(sy:y.scal=true):RcNeAt A s u v (!eqS x y):=
 scal2 (R:=RcNeAt A s) (g:=not) hx hy sx sy .none_none .none_bool .none_int .none_str .bool_none .bool_bool (λ b i t=>ite_b2i b▸RcNeAt.bool_int b i t) .bool_str .int_none (λ i t b=>ite_b2i b▸RcNeAt.int_bool i t b) .int_int .int_str .str_none .str_bool .str_int .str_str
theorem same_refL{o:AO}{y:AV}{v:Value}(hy:y.is v)(x:Is C s.heap a o)(k:o.kind=1\/o.kind=2)(sy:y.scal=true)(hu:A.units<cLine):Same A s (.ref a) v false:=by
 obtain ⟨xs,e⟩:=kind_seq' k
 refine x.sq e (λ cs V h V=>?_) λ cs V h V=>?_
 . exact scalE (G:=λ V v=>Same A s (.ref a) v false) sy hy (.of (x:=.ref a) rfl (.list_none h hu) nofun) (λ V=>.of (x:=.ref a) rfl (.list_bool _ h hu) nofun) (λ V V=>.of (x:=.ref a) rfl (.list_int _ _ h hu) nofun) λ V V=>.of (x:=.ref a) rfl (.list_str _ _ h hu) nofun
 . exact scalE (G:=λ V v=>Same A s (.ref a) v false) sy hy (.of (x:=.ref a) rfl (.tuple_none h hu) nofun) (λ V=>.of (x:=.ref a) rfl (.tuple_bool _ h hu) nofun) (λ V V=>.of (x:=.ref a) rfl (.tuple_int _ _ h hu) nofun) λ V V=>.of (x:=.ref a) rfl (.tuple_str _ _ h hu) nofun
theorem same_refR{o:AO}{y:AV}{v:Value}(hy:y.is v)(x:Is C s.heap a o)(k:o.kind=1\/o.kind=2\/(o.kind=3/\∃ k,y=.str k))(sy:y.scal=true)(hu:A.units<cLine):Same A s v (.ref a) false:=by
 have go:(o.kind=1\/o.kind=2)->Same A s v (.ref a) false:=λ k=>by
  obtain ⟨xs,e⟩:=kind_seq' k
  refine x.sq e (λ cs V h V=>?_) λ cs V h V=>?_
  . exact scalE (G:=λ V v=>Same A s v (.ref a) false) sy hy (.of is_none (.none_list h hu) nofun) (λ V=>.of is_bool (.bool_list _ h hu) nofun) (λ V V=>.of is_int (.int_list _ _ h hu) nofun) λ V V=>.of is_str (.str_list _ _ h hu) nofun
  . exact scalE (G:=λ V v=>Same A s v (.ref a) false) sy hy (.of is_none (.none_tuple h hu) nofun) (λ V=>.of is_bool (.bool_tuple _ h hu) nofun) (λ V V=>.of is_int (.int_tuple _ _ h hu) nofun) λ V V=>.of is_str (.str_tuple _ _ h hu) nofun
 rcases k with k | k | ⟨k,q,rfl⟩
 . exact go (.inl k)
 . exact go (.inr k)
 . obtain ⟨es,e⟩:=kind_map' k
   obtain ⟨kvs,h,V⟩:=x.map e
   obtain ⟨t',rfl⟩:=hy
   exact .of is_str (rc_str_dict _ _ h hu) nofun
theorem EqVs.places{R:AV->AV->Bool->Prop}{xs ys:List AV}{r:Bool}(h:EqVs R xs ys r):
  ∃ e:Nat->Bool,(∀ j x y,xs[j]?=some x->ys[j]?=some y->R x y (e j))/\(List.range xs.length).all e=r:=by
 induction h with
 | nil=>exact ⟨λ V=>true,(λ j x y h=>nomatch h),rfl⟩
 | @cons x y xs ys b r h1 _ ih=>
  obtain ⟨e,p,q⟩:=ih
  refine ⟨Nat.rec b λ j V=>e j,λ j x' y' hx hy=>?_,?_⟩
  . cases j with
    | zero=>rw [<-Option.some.inj hx,<-Option.some.inj hy];exact h1
    | succ n=>exact p n x' y' hx hy
  . rw [length_cons,range_succ_eq_map,all_cons,all_map,<-q];rfl
theorem all2_at{R:AV->AV->Bool->Prop}{xs ys:List AV}{cs ds:Array Value}{e:Nat->Bool}(hx:All2 AV.is xs cs.toList)(hy:All2 AV.is ys ds.toList)
  (he:∀ j x y,xs[j]?=some x->ys[j]?=some y->R x y (e j)) (j:Nat) (h1:j<cs.size) (h2:j<ds.size):
  ∃ x y,x.is cs[j]/\y.is ds[j]/\R x y (e j):=by
 have ex:xs[j]?=some (xs[j]'(hx.length▸h1)):=List.getElem?_eq_getElem _
 have ey:ys[j]?=some (ys[j]'(hy.length▸h2)):=List.getElem?_eq_getElem _
 obtain ⟨u,eu,hu⟩:=hx.get ex
 obtain ⟨v,ev,hv⟩:=hy.get ey
 have a1:cs.toList[j]?=some cs[j]:=by rw [Array.getElem?_toList,Array.getElem?_eq_getElem h1]
 have a2:ds.toList[j]?=some ds[j]:=by rw [Array.getElem?_toList,Array.getElem?_eq_getElem h2]
 exact ⟨_,_,same eu a1▸hu,same ev a2▸hv,he j _ _ ex ey⟩
theorem all_true(n:Nat):(List.range n).all (λ V=>true)=true:=all_eq_true.mpr λ V V=>rfl
theorem range_all{e:Nat->Bool}{n m:Nat}{r:Bool}(h:(List.range n).all e=r)(hn:n=m):(List.range m).all e=r:=hn▸h
theorem eq_strong(rel:∀ b o,Z b=some o->Is C s.heap b o):∀ (n:Nat) (A:Around),A.units+n+1<cLine->∀ {x y:AV} {u v:Value} {b:Bool},EqV Z n x y b->x.is u->y.is v->Same A s u v b:=by
 have step:∀ (R:AV->AV->Bool->Prop) (A:Around),A.units<cLine->(∀ {x y:AV} {u v:Value} {b:Bool},R x y b->x.is u->y.is v->EqAt A.in1 s u v b) ->
   ∀ {x y:AV} {u v:Value} {b:Bool},EqStep Z R x y b->x.is u->y.is v->Same A s u v b:=by
  intro R A hu hR x y u v b h hx hy
  cases h with
  | scal sx sy=>exact same_scal hx hy sx sy
  | refL e k sy=>cases hx;exact same_refL hy (rel _ _ e) k sy hu
  | refR e k sx=>cases hy;exact same_refR hx (rel _ _ e) k sx hu
  | kinds e1 e2 k=>
   cases hx;cases hy
   refine .of (x:=.ref _) rfl ?_ λ q=>?_
   . rcases k with ⟨k1,k2⟩ | ⟨k1,k2⟩
     . obtain ⟨xs,q1⟩:=kind_seq' (.inl k1)
       obtain ⟨ys,q2⟩:=kind_seq' (.inr k2)
       refine (rel _ _ e1).sq q1 (λ cs V h1 V=>(rel _ _ e2).sq q2 (λ V k=>?_) λ ds V h2 V=>.list_tuple h1 h2 hu) λ V k=>?_
       . exact nomatch k2.symm.trans k
       . exact nomatch k1.symm.trans k
     . obtain ⟨xs,q1⟩:=kind_seq' (.inr k1)
       obtain ⟨ys,q2⟩:=kind_seq' (.inl k2)
       refine (rel _ _ e1).sq q1 (λ V k=>?_) λ cs V h1 V=>(rel _ _ e2).sq q2 (λ ds V h2 V=>.tuple_list h1 h2 hu) λ V k=>?_
       . exact nomatch k1.symm.trans k
       . exact nomatch k2.symm.trans k
   . cases q
     rw [same e1 e2] at k
     rcases k with ⟨k1,k2⟩ | ⟨k1,k2⟩ <;> exact nomatch k1.symm.trans k2
  | same e k=>
   cases hx;cases hy
   refine .of (x:=.ref _) rfl ?_ λ V=>rfl
   obtain ⟨xs,q⟩:=kind_seq' k
   refine (rel _ _ e).sq q (λ cs V h1 V=>?_) λ cs V h1 V=>?_
   . have:=RcAt.lists (e:=λ V=>true) h1 h1 rfl hu λ j V V=>EqAt.same _
     rwa [all_true] at this
   . have:=RcAt.tuples (e:=λ V=>true) h1 h1 hu λ j V V=>EqAt.same _
     rwa [all_true,Bool.true_and,beq_self_eq_true] at this
  | lens hne e1 e2 k q1 q2 hl hk=>
   cases hx;cases hy
   refine .of (x:=.ref _) rfl ?_ λ q=>absurd (by injection q) hne
   refine (rel _ _ e1).sq q1 (λ cs k1 h1 r1=>(rel _ _ e2).sq q2 (λ ds k2 h2 r2=>?_) λ V k2=>?_) λ cs k1 h1 r1=>(rel _ _ e2).sq q2 (λ V k2=>?_) λ ds k2 h2 r2=>?_
   . exact .lists_lengths h1 h2 (bne_iff_ne.mpr λ e=>hl (r1.length.trans (e.trans r2.length.symm))) hu
   . exact nomatch k1.symm.trans (k.trans k2)
   . exact nomatch k1.symm.trans (k.trans k2)
   . have z:Nat.min cs.size ds.size=0:=by
      rcases hk with hk | rfl | rfl
      . exact nomatch k1.symm.trans hk
      . rw [show cs.size=0 from r1.length.symm];exact Nat.zero_min _
      . rw [show ds.size=0 from r2.length.symm];exact Nat.min_zero _
     have:=RcAt.tuples (e:=λ V=>true) h1 h2 hu λ j g1 g2=>absurd (Nat.lt_min.mpr ⟨g1,g2⟩) (by show ¬j<Nat.min cs.size ds.size;rw [z];exact Nat.not_lt_zero _)
     rwa [all_true,Bool.true_and,show (cs.size==ds.size)=false from beq_eq_false_iff_ne.mpr λ e=>hl (r1.length.trans (e.trans r2.length.symm))] at this
  | seqs hne e1 e2 k q1 q2 hl hr=>
   cases hx;cases hy
   refine .of (x:=.ref _) rfl ?_ λ q=>absurd (by injection q) hne
   obtain ⟨e,he,hall⟩:=hr.places
   have it:∀ {cs ds:Array Value},All2 AV.is _ cs.toList->All2 AV.is _ ds.toList->∀ j (g1:j<cs.size) (g2:j<ds.size),EqAt A.in1 s cs[j] ds[j] (e j):=λ r1 r2 j g1 g2=>by
    obtain ⟨x,y,ix,iy,rr⟩:=all2_at r1 r2 he j g1 g2
    exact hR rr ix iy
   refine (rel _ _ e1).sq q1 (λ cs k1 h1 r1=>(rel _ _ e2).sq q2 (λ ds k2 h2 r2=>?_) λ V k2=>?_) λ cs k1 h1 r1=>(rel _ _ e2).sq q2 (λ V k2=>?_) λ ds k2 h2 r2=>?_
   . have:=RcAt.lists (e:=e) h1 h2 (r1.length.symm.trans (hl.trans r2.length)) hu (it r1 r2)
     rwa [range_all (m:=cs.size) hall r1.length] at this
   . exact nomatch k1.symm.trans (k.trans k2)
   . exact nomatch k1.symm.trans (k.trans k2)
   . have es:cs.size=ds.size:=r1.length.symm.trans (hl.trans r2.length)
     have:=RcAt.tuples (e:=e) h1 h2 hu (it r1 r2)
     rwa [es,Nat.min_self,range_all (m:=ds.size) hall (r1.length.trans es),beq_self_eq_true,Bool.and_true] at this
 intro n
 induction n with
 | zero=>intro A hu x y u v b h hx hy;exact step _ A (by exact qli [_,_] (.i 1 1 (.a (.a Y0 X0) X1) Y1 (.h 0 Y0 Y1)) rfl hu) (λ h=>h.elim) h hx hy
 | succ n ih=>intro A hu x y u v b h hx hy;exact step _ A (by exact qli [_,_,_] (.i 1 1 (.a (.a Y0 (.a Y2 X1)) X1) Y1 (.h 0 Y0 Y1)) rfl hu) (λ h' hx' hy'=>(ih A.in1 (by show A.units+1+n+1<cLine;exact o160 hu) h' hx' hy').eq) h hx hy
end
end U
namespace U
open PySem PyProof.Rows PySem.SeqAt
noncomputable def Tr:AV->Bool->Prop
 | .none,b=>b=false
 | .bool c,b=>b=c
 | .int i,b=>b=(i != 0)
 | _,_=>False
theorem Tr.of{x:AV}{k:Bool->Prop}(h:TruP x k):∃ t,Tr x t/\k t:=by
 cases x <;> first | exact h.elim | exact ⟨_,rfl,h⟩
theorem Tr.get{x:AV}{k:Bool->Prop}{t:Bool}(h:Tr x t)(q:TruP x k):k t:=by
 cases x <;> first | exact q.elim | (cases h;exact q)
noncomputable def ofV:Value->AV
 | .bool b=>.bool b
 | .int i _=>.int i
 | .str s _=>.str s.cps.toList
 | .ref a=>.ref a
 | _=>.none
theorem ofV_of{av:AV}{v:Value}(h:av.is v):ofV v=av:=by
 cases av with
 | none=>cases h;rfl
 | bool b=>cases h;rfl
 | int i=>obtain ⟨t,rfl⟩:=h;rfl
 | str x=>obtain ⟨t,rfl⟩:=h;rfl
 | ref a=>cases h;rfl
section
variable {C:Cx}{P:Kept}{f:Fx}{ρ:Loc}{Z:Hp}{s:Shared}{A:Around}{E:Value->Shared->Prop}{Q:Post}
theorem ps_truth{v:Value}{av:AV}{b:Bool}{QB:Bool->Shared->Prop}(hv:av.is v)(ht:Tr av b)(q:QB b s):wpAny (model C.prog C.w) A (truthy v) QB E s:=by
 cases av with
 | none=>cases hv;cases ht;exact truthy_none q
 | bool b=>cases hv;cases ht;exact wpAny_truthy_bool q
 | int i=>obtain ⟨t,rfl⟩:=hv;cases ht;exact truthy_int q
 | str x=>cases ht
 | ref a=>cases ht
theorem is_none_beq{av:AV}{v:Value}(h:av.is v):(v==Value.none)=isN av:=by
 cases av with
 | none=>cases h;rfl
 | bool b=>cases h;rfl
 | int i=>obtain ⟨t,rfl⟩:=h;rfl
 | str x=>obtain ⟨t,rfl⟩:=h;rfl
 | ref a=>cases h;rfl
theorem contains_one(x:Txt)(c:Nat):(!(Builtin.Str.occurrences (toS x) (toS [c]) 0 (toS x).length 1).isEmpty)=x.contains c:=by
 rw [show toS [c]=⟨#[c]⟩ from rfl,StrLaws.found_one]
 rw [Bool.eq_iff_iff,decide_eq_true_eq]
 simp [toS]
theorem All2.mem{α β:Type}{R:α->β->Prop}{xs:List α}{ys:List β}(h:All2 R xs ys){y:β}(hy:y∈ys):∃ x∈xs,R x y:=by
 induction h with
 | nil=>cases hy
 | cons h1 _ ih=>
  rcases mem_cons.mp hy with rfl | hy
  . exact ⟨_,.head _,h1⟩
  . obtain ⟨x,hx,r⟩:=ih hy;exact ⟨x,.tail _ hx,r⟩
theorem any_ofV{xs:List AV}{cs:List Value}{e:AV->Bool}(r:All2 AV.is xs cs):cs.any (λ y=>e (ofV y))=xs.any e:=by
 induction r with
 | nil=>rfl
 | cons h1 _ ih=>rw [any_cons,any_cons,ih,ofV_of h1]
theorem in_key(rel:∀ b o,Z b=some o->Is C s.heap b o)(hu:A.units+200<cLine){x:AV}{u:Value}(hx:x.is u){xs:List AV}{cs:Array Value}{e:AV->Bool}(he:∀ y∈xs,EqV Z 99 y x (e y))(r:All2 AV.is xs cs.toList):
  (∀ y,y∈cs->EqAt A.in1 s y u (e (ofV y)))/\cs.any (λ y=>e (ofV y))=xs.any e:=by
 refine ⟨λ y hy=>?_,by rw [<-Array.any_toList];exact any_ofV r⟩
 obtain ⟨av,hav,ha⟩:=r.mem (Array.mem_toList_iff.mpr hy)
 rw [ofV_of ha]
 exact (eq_strong rel 99 A.in1 (Nat.lt_of_le_of_lt (by show A.units+1+99+1<=A.units+200;exact qli [_] (.g 0 (.a (.a (.a Y0 X1) (.n 99)) X1) (.a Y0 (.n 200))) rfl) hu) (he av hav) ha hx).eq
theorem ent_lookup{es:List (Txt×AV)}{kvs:List (Str×Value)}(h:All2 Ent es kvs)(k:Txt):
  (es.lookup k=none/\valueAt kvs (toS k)=none)\/∃ v cv,es.lookup k=some v/\valueAt kvs (toS k)=some cv/\v.is cv:=by
 induction h with
 | nil=>exact .inl ⟨rfl,rfl⟩
 | @cons e kv es kvs h1 _ ih=>
  obtain ⟨k',v⟩:=e
  obtain ⟨q,cv⟩:=kv
  obtain ⟨e1,e2⟩:=h1
  cases (show q=toS k' from e1)
  by_cases hk:k=k'
  . subst hk
    exact .inr ⟨v,cv,by simp [List.lookup],by simp [valueAt],e2⟩
  . have h1:(k==k')=false:=beq_eq_false_iff_ne.mpr hk
    have h2:¬toS k'=toS k:=λ e=>hk (toS_inj e).symm
    have e1:List.lookup k ((k',v)::es)=es.lookup k:=by simp [List.lookup,h1]
    have e2:valueAt ((toS k',cv)::kvs) (toS k)=valueAt kvs (toS k):=by simp [valueAt,h2]
    rw [e1,e2];exact ih
theorem ent_some{es:List (Txt×AV)}{kvs:List (Str×Value)}(h:All2 Ent es kvs)(k:Txt):(valueAt kvs (toS k)).isSome=(es.lookup k).isSome:=by
 rcases ent_lookup h k with ⟨g1,g2⟩ | ⟨w,cv,g1,g2,_⟩ <;> rw [g1,g2] <;> rfl
noncomputable def CmpOk(C:Cx)(op:Op)(c:CmpOp):Prop:=∀ ⦃P f ρ Z s A E Q x y u v⦄,St C P f ρ Z s->A.units+200<cLine->op Z [x,y] Q->x.is u->y.is v->wpAny (model C.prog C.w) A (compareOp c u v) (RV C P f ρ Q) E s
theorem cmp_lt:CmpOk C .lt .Lt:=λ V V V V V V V V V V V V S V h hx hy=>by apply iiE h hx hy;exact λ V V V V q=>lt_int (rv is_bool S q)
theorem cmp_le:CmpOk C .le .LtE:=λ V V V V V V V V V V V V S V h hx hy=>by apply iiE h hx hy;exact λ V V V V q=>P.le_int (rv is_bool S q)
theorem cmp_gt:CmpOk C .gt .Gt:=λ V V V V V V V V V V V V S V h hx hy=>by apply iiE h hx hy;exact λ V V V V q=>gt_int (rv is_bool S q)
theorem cmp_ge:CmpOk C .ge .GtE:=λ V V V V V V V V V V V V S V h hx hy=>by apply iiE h hx hy;exact λ V V V V q=>P.ge_int (rv is_bool S q)
theorem cmp_is:CmpOk C .is .Is:=λ P f ρ Z s A E Q x y u v S V h hx hy=>by
 apply nonE (x:=y) h hy
 intro q
 show wpAny _ A (do return Value.bool (<-isSame u .none)) _ E s
 exact wpAny_bind (wpAny_of_eq (isSame_none u) (wpAny_pure (is_none_beq hx▸rv is_bool S q)))
theorem cmp_isnot:CmpOk C .isnot .IsNot:=λ P f ρ Z s A E Q x y u v S V h hx hy=>by
 apply nonE (x:=y) h hy
 intro q
 show wpAny _ A (do return Value.bool (!(<-isSame u .none))) _ E s
 exact wpAny_bind (wpAny_of_eq (isSame_none u) (wpAny_pure (is_none_beq hx▸rv is_bool S q)))
set_option tactic.hygienic true in
theorem cmp_ne:CmpOk C .ne .NotEq:=λ P f ρ Z s A E Q x y u v S V h hx hy=>by
 have h:NeP x y λ b=>Q (.bool b) Z:=h
 unfold NeP at h
 split at h
 . rename_i e
   obtain ⟨e1,e2⟩:=Bool.and_eq_true_iff.mp e
   exact ne_scal hx hy e1 e2 _ _ _ _ (rv is_bool S h)
 . exact h.elim
theorem oneE'{s:Txt}{k:Nat->Prop}{G:Txt->Prop}(h:oneC s k)(g:∀ c,k c->G [c]):G s:=by
 match s,h with
 | [c],h=>exact g c h
theorem in_both{x y:AV}{u v:Value}{k:Bool->Prop}(S:St C P f ρ Z s)(hu:A.units+200<cLine)(h:InP Z x y k)(hx:x.is u)(hy:y.is v):
  (∀ {Q:Value->Shared->Prop},(∀ b tk,k b->Q (.bool b) { s with toks:=tk })->wpAny (model C.prog C.w) A (compareOp .In u v) Q E s)/\(∀ {Q:Value->Shared->Prop},(∀ b tk,k b->Q (.bool !b) { s with toks:=tk })->wpAny (model C.prog C.w) A (compareOp .NotIn u v) Q E s):=by
 cases y with
 | str t=>
  obtain ⟨t',rfl⟩:=hy
  apply strE (x:=x) h hx
  intro i t'' h
  apply oneE' h
  intro c q
  exact ⟨λ k=>PySem.P.in_str (contains_one ..▸k _ _ q),λ k=>PySem.P.notIn_str (contains_one ..▸k _ _ q)⟩
 | ref a=>
  cases hy
  refine okE h λ o e h=>(S.rel a o e).view h (λ xs cs V l r h=>?_) (λ xs cs V l r h=>?_) λ es kvs V d r m h=>?_
  . obtain ⟨e,he,q⟩:=h
    obtain ⟨k1,k2⟩:=in_key S.rel hu hx he r
    exact ⟨λ k=>in_listAt (λ y=>e (ofV y)) l k1 (k2▸k _ s.toks q),λ k=>notIn_listAt (λ y=>e (ofV y)) l k1 (k2▸k _ s.toks q)⟩
  . obtain ⟨e,he,q⟩:=h
    obtain ⟨k1,k2⟩:=in_key S.rel hu hx he r
    exact ⟨λ k=>in_tupleAt (λ y=>e (ofV y)) l k1 (k2▸k _ s.toks q),λ k=>notIn_tupleAt (λ y=>e (ofV y)) l k1 (k2▸k _ s.toks q)⟩
  . apply strE (x:=x) h hx
    intro i t q
    exact ⟨λ k=>wpAny_in_of (strKind_is C.prog C.w (toS i) t) m d.mapOf (ent_some r i▸k _ _ q),λ k=>wpAny_notIn_of (strKind_is C.prog C.w (toS i) t) m d.mapOf (ent_some r i▸k _ _ q)⟩
 | none=>exact h.elim
 | bool _=>exact h.elim
 | int _=>exact h.elim
theorem cmp_in:CmpOk C .isin .In:=λ P f ρ Z s A E Q x y u v S hu h hx hy=>(in_both S hu (x:=x) (y:=y) (k:=λ b=>Q (.bool b) Z) h hx hy).1 λ V V q=>rv is_bool (S.tok _) q
theorem cmp_notin:CmpOk C .notin .NotIn:=λ P f ρ Z s A E Q x y u v S hu h hx hy=>(in_both S hu (x:=x) (y:=y) (k:=λ b=>Q (.bool !b) Z) h hx hy).2 λ V V q=>rv is_bool (S.tok _) q
end
end U
namespace U
open PySem PyProof.Rows PySem.SeqAt
noncomputable def Cx.Ok(C:Cx):Prop:=C.base.NoLimit
noncomputable def CallOk(C:Cx)(nh:Bool)(op:Op)(c:Value):Prop:=∀ ⦃P f ρ Z s A E Q vs cvs⦄,St C P f ρ Z s->(nh=true->A.handled=none)->op Z vs Q->All2 AV.is vs cvs->wpAny (model C.prog C.w) A (call c cvs) (RV C P f ρ Q) E s
section
variable {C:Cx}{P:Kept}{f:Fx}{ρ:Loc}{Z:Hp}{s:Shared}{A:Around}{E:Value->Shared->Prop}{Q:Post}{a:Addr}
theorem St.limit(S:St C P f ρ Z s)(hC:C.Ok):s.heap.NoLimit:=Heap.NoLimit.keeps hC S.base
theorem St.notSys(S:St C P f ρ Z s)(hC:C.Ok){a:Addr}(h:s.heap.objs.size<=a):(a==sysModules)=false:=
 beq_eq_false_iff_ne.mpr (Nat.ne_of_gt (Nat.lt_of_lt_of_le (modules_low (S.limit hC)) h))
theorem call_len:CallOk C false .len (.builtin "len"):=λ P f ρ Z s A E Q vs cvs S V h hv=>by
 apply oneE h hv
 intro x u hx h
 cases x with
 | str x=>
  obtain ⟨t,rfl⟩:=hx
  refine PySem.P.len_str (by rw [toS_length];exact Int.not_le.mpr (tooLong_fit h.1)) ?_
  rw [toS_length];exact rv is_int (S.tok _) h.2
 | ref a=>
  cases hx
  refine okE h λ o e h=>(S.rel a o e).view h (λ xs cs V l r h=>?_) (λ xs cs V l r h=>?_) λ es kvs V d r m h=>?_
  . have e:xs.length=cs.size:=r.length
    rw [e] at h
    exact Calls.call_len_list l (tooLong_fit h.1) (rv is_int (S.tok _) h.2)
  . have e:xs.length=cs.size:=r.length
    rw [e] at h
    exact len_tuple (t:=a) (items:=cs) (by obtain ⟨o,h,k⟩:=l;exact ⟨o,h,k⟩) (tooLong_fit h.1) (rv is_int (S.tok _) h.2)
  . rw [r.length] at h
    exact call_len_dict m d (tooLong_fit h.1) (rv is_int (S.tok _) h.2)
 | none=>exact h.elim
 | bool _=>exact h.elim
 | int _=>exact h.elim
theorem call_toInt:CallOk C false .toInt (.type "int"):=λ P f ρ Z s A E Q vs cvs S V h hv=>by
 apply oneE h hv
 intro x u hx h
 apply boolE h hx
 exact λ b q=>call_int_bool ((show b2i b=if b=true then 1 else 0 by cases b <;> rfl)▸rv is_int (S.tok _) q)
theorem call_toStr:CallOk C false .toStr (.type "str"):=λ P f ρ Z s A E Q vs cvs S V h hv=>by
 apply oneE h hv
 intro x u hx h
 apply intE h hx
 intro i t q
 refine PySem.P.str_of_int ?_ ?_
 . by_cases h0:i.natAbs=0
   . rw [h0];decide
   . exact Nat.lt_trans ((Nat.log2_lt h0).mpr (Nat.lt_trans q.1 (by decide:10 ^ 9<2 ^ 30))) (by decide)
 . rw [<-toS_ofString];exact rv is_str (S.tok _) q.2
theorem bools_ok:∀ {vs:List AV} {ss:List Bool},bools? vs=some ss->vs=ss.map .bool
 | [],ss,h=>by cases h;rfl
 | v::r,ss,h=>by
  cases v <;> first | exact nomatch (show none=some ss from h) | skip
  obtain ⟨t,q,rfl⟩:=Option.map_eq_some_iff.mp h
  rw [bools_ok q];rfl
theorem strs_ok:∀ {vs:List AV} {ss:List Txt},strs? vs=some ss->vs=ss.map .str
 | [],ss,h=>by cases h;rfl
 | v::r,ss,h=>by
  cases v <;> first | exact nomatch (show none=some ss from h) | skip
  obtain ⟨t,q,rfl⟩:=Option.map_eq_some_iff.mp h
  rw [strs_ok q];rfl
theorem map_at{α:Type}{g:α->AV}{bs:List α}{l:List Value}(h:All2 AV.is (bs.map g) l){i:Nat}{v:Value}(e:l[i]?=some v):∃ b,bs[i]?=some b/\(g b).is v:=by
 have hi:i<bs.length:=by
  have:=(List.getElem?_eq_some_iff.mp e).1
  rw [<-h.length,length_map] at this;exact this
 obtain ⟨y,hy,r⟩:=h.get (i:=i) (x:=g bs[i]) (by rw [List.getElem?_map,List.getElem?_eq_getElem hi];rfl)
 exact ⟨bs[i],List.getElem?_eq_getElem hi,same e hy▸r⟩
theorem range_all'(bs:List Bool):(List.range bs.length).all (λ i=>bs[i]?.getD true)=bs.all id:=by
 induction bs with
 | nil=>rfl
 | cons b bs ih=>rw [length_cons,range_succ_eq_map,all_cons,all_map,all_cons,<-ih];rfl
theorem ownE{k:List AV->Prop}{p:Prop}(S:St C P f ρ Z s)(h:OkP (Z a) λ o=>OwnL o k)(g:∀ xs cs n,Z a=some (.list xs)->s.heap.get? a=some (seqObj "list" cs n)->All2 AV.is xs cs.toList->k xs->p):p:=by
 refine okE h λ o e h=>?_
 cases o with
 | list xs=>exact S.at e (λ V x=>x) λ cs n h1 h2=>g xs cs n e h1 h2 h
 | _=>exact h.elim
theorem dicE{k:List (Txt×AV)->Prop}{p:Prop}(S:St C P f ρ Z s)(h:OkP (Z a) λ o=>DicP o k)(g:∀ es kvs,s.heap.DictOf (strKind C.prog C.w) a kvs->All2 Ent es kvs->(a==sysModules)=false->k es->p):p:=by
 refine okE h λ o e h=>(S.rel a o e).view (k:=λ V=>False) (k':=k) (by cases o <;> first | exact h | exact h.elim) (λ V V V V V=>False.elim) (λ V V V V V=>False.elim) λ es kvs V d r m q=>g es kvs d r m q
theorem call_all:CallOk C true .all (.builtin "all"):=λ P f ρ Z s A E Q vs cvs S hh h hv=>by
 apply oneE h hv
 intro x u hx h
 apply refE h hx
 intro a h
 refine ownE S h λ xs cs n V g r h=>okE h λ bs e q=>?_
 rw [bools_ok e] at r
 have l:bs.length=cs.size:=by rw [<-length_map (f:=AV.bool)];exact r.length
 refine call_all_walk (wpAny_pyIter_list ⟨_,g,rfl,n,rfl⟩ ?_)
 refine ⟨_,_,_,_,_,_,λ i=>bs[i]?.getD true,rfl,Walks.list (A:=A.in1) (hh rfl) _ a (Nat.ne_of_lt (Heap.lt_size g)) cs,⟨⟨_,Heap.get?_push_size _ rfl,rfl,rfl⟩,⟨_,Heap.get?_push_of_some _ g,rfl,n,rfl⟩⟩,?_,?_⟩
 . intro i v s' Q' E' hP hQ
   obtain ⟨b,q1,q2⟩:=map_at r (i:=i) (v:=v) (by rw [Array.getElem?_toList];exact hP)
   cases q2
   simp only [q1,Option.getD_some] at hQ
   exact wpAny_truthy_bool hQ
 . intro h' tk hk
   rw [<-l,range_all']
   exact rv is_bool (S.keeps (s':={ s with heap:=h',toks:=tk }) λ b o e=>hk b o (λ h=>Nat.ne_of_lt (Heap.lt_size e) (mem_singleton.mp h)) (Heap.get?_push_of_some _ e)) q
theorem call_append:CallOk C false BOp.append.p (.builtin "list.append"):=λ P f ρ Z s A E Q vs cvs S V h hv=>by
 apply twoE h hv
 intro x y u v hx hy h
 apply refE h hx
 intro a h
 refine ownE S h λ xs cs n e g r h=>?_
 refine wpAny_list_append_plain (items:=cs) ⟨n,g⟩ (λ h' hp' hs'=>?_) (by rw [show cs.size=xs.length from r.length.symm];exact tooLong_lt h.1)
 obtain ⟨n',g'⟩:=hp'
 refine rv is_none (S.upd (s':={ s with heap:=h' }) (o':=.list (xs++[y])) e rfl (λ c d=>nofun) (λ b o hb e=>(hs'.2 b hb).trans e) ⟨_,g',_,n',rfl,?_⟩) h.2
 rw [Array.toList_push];exact r.append (.cons hy .nil)
theorem call_get:CallOk C false BOp.get.p (.builtin "dict.get"):=λ P f ρ Z s A E Q vs cvs S V h hv=>by
 apply threeE h hv
 intro x y z u v w hx hy hz h
 apply refE h hx
 intro a h
 apply strE h hy
 intro k t h
 refine dicE S h λ es kvs d r m q=>?_
 refine call_meetsIn F.slot_dict_get d.typeIs F.entry_dict_get (F.args_dict_get_3 _ _ _) (meets_dict_get_default (strKind C.prog C.w) a (strKind_is C.prog C.w (toS k) t) m w) ⟨_,d.mapOf,?_⟩
 rcases ent_lookup r k with ⟨g1,g2⟩ | ⟨y,cv,g1,g2,g3⟩
 . rw [g2];rw [g1] at q;exact rv hz (S.tok _) q
 . rw [g2];rw [g1] at q;exact rv g3 (S.tok _) q
theorem strsAre_of{ss:List Txt}{l:List Value}(h:All2 AV.is (ss.map .str) l):StrsAre l (ss.map toS):=by
 induction ss generalizing l with
 | nil=>cases h;exact .nil
 | cons x ss ih=>cases h with
  | cons h1 h2=>obtain ⟨t,rfl⟩:=h1;exact .cons _ _ (ih h2)
theorem join_toS(sep:Txt)(ss:List Txt):Txt.join (toS sep) (ss.map toS)=toS (joinT sep ss):=by
 show Builtin.Str.glued _ _=_
 rw [StrLaws.glued_eq_join]
 induction ss with
 | nil=>rfl
 | cons x r ih=>cases r with
  | nil=>rfl
  | cons y r=>
   show toS x++toS sep++Str.join (toS sep) ((y::r).map toS)=toS (x++sep++joinT sep (y::r))
   rw [ih,toS_append,toS_append]
theorem call_join:CallOk C false BOp.join.p (.builtin "str.join"):=λ P f ρ Z s A E Q vs cvs S V h hv=>by
 apply twoE h hv
 intro x y u v hx hy h
 apply strE h hx
 intro sep t h
 apply refE h hy
 intro a h
 refine ownE S h λ xs cs n V g r h=>okE h λ ss e q=>?_
 rw [strs_ok e] at r
 refine join_list (D:=a) (items:=cs) ⟨_,g,rfl,n,rfl⟩ (strsAre_of r) ?_ λ t' k=>?_
 . rw [map_map,toS_length,length_map,show (List.map ((λ x:Str=>x.length) ∘ toS) ss)=ss.map List.length from List.map_congr_left λ x V=>toS_length x]
   exact Nat.le_of_lt (Nat.lt_of_lt_of_le q.1 (by decide))
 . rw [join_toS];exact rv is_str (S.tok _) q.2
noncomputable def strIs(k:Txt)(v:Value):Bool:=match v with
 | .str x _=>x==toS k
 | _=>false
end
end U
namespace U
open PySem PyProof.Rows PySem.SeqAt
section
variable {C:Cx}{P:Kept}{f:Fx}{ρ:Loc}{Z:Hp}{s:Shared}{A:Around}{E:Value->Shared->Prop}{Q:Post}{a:Addr}
theorem kindE{x:AV}{u:Value}{k:String}{G:String->Value->Prop}(S:St C P f ρ Z s)(hv:x.is u)(hk:kindIs Z x=some k)(k0:G "NoneType" .none)(k1:∀ b,G "bool" (.bool b))(k2:∀ i t,G "int" (.int i t))(k3:∀ i t,G "str" (.str i t))
  (k4:∀ a o,s.heap.get? a=some o->o.cls=.type "list" -> o.dict=none->G "list" (.ref a)) (k5:∀ a o,s.heap.get? a=some o->o.cls=.type "tuple" -> o.dict=none->G "tuple" (.ref a)) (k6:∀ a o,s.heap.get? a=some o->o.cls=.type "dict" -> o.dict=none->G "dict" (.ref a)):G k u:=by
 cases x with
 | none=>cases hv;cases hk;exact k0
 | bool b=>cases hv;cases hk;exact k1 b
 | int i=>obtain ⟨t,rfl⟩:=hv;cases hk;exact k2 i t
 | str i=>obtain ⟨t,rfl⟩:=hv;cases hk;exact k3 _ t
 | ref a=>
  cases hv
  have hk:kO (Z a)=some k:=hk
  cases e:Z a with
  | none=>rw [e] at hk;cases hk
  | some o=>
   rw [e] at hk
   obtain ⟨ob,g,x⟩:=S.rel a o e
   cases o <;> first | exact nomatch (show none=some k from hk) | cases (show some _=some k from hk)
   . obtain ⟨cs,n,rfl,r⟩:=x;exact k4 a _ g rfl rfl
   . obtain ⟨cs,n,rfl,r⟩:=x;exact k5 a _ g rfl rfl
   . obtain ⟨⟨kvs,V,d⟩,V⟩:=x;obtain ⟨o,es,ep,g',⟨c,d,V⟩,V⟩:=d _ _ g;exact k6 a o g' c d
   . obtain ⟨cs,n,rfl,r⟩:=x;exact k4 a _ g rfl rfl
   . obtain ⟨⟨kvs,V,d⟩,V⟩:=x;obtain ⟨o,es,ep,g',⟨c,d,V⟩,V⟩:=d _ _ g;exact k6 a o g' c d
structure AnsT(t:String):Prop where
 ty:typeOf (.type t)=pure (.type "type")
 n:isSubtype (.type "NoneType") (.type t)=pure (isOf "NoneType" [t])
 b:isSubtype (.type "bool") (.type t)=pure (isOf "bool" [t])
 i:isSubtype (.type "int") (.type t)=pure (isOf "int" [t])
 s:isSubtype (.type "str") (.type t)=pure (isOf "str" [t])
 l:isSubtype (.type "list") (.type t)=pure (isOf "list" [t])
 u:isSubtype (.type "tuple") (.type t)=pure (isOf "tuple" [t])
 d:isSubtype (.type "dict") (.type t)=pure (isOf "dict" [t])
theorem ans_str:AnsT "str":=⟨F.isi_meta_str,F.sub_NoneType_str,F.sub_bool_str,F.sub_int_str,F.sub_str_str,F.sub_list_str,F.sub_tuple_str,F.sub_dict_str⟩
theorem ans_int:AnsT "int":=⟨F.isi_meta_int,F.sub_NoneType_int,F.sub_bool_int,F.sub_int_int,F.sub_str_int,F.sub_list_int,F.sub_tuple_int,F.sub_dict_int⟩
theorem ans_bool:AnsT "bool":=⟨F.isi_meta_bool,F.sub_NoneType_bool,F.sub_bool_bool,F.sub_int_bool,F.sub_str_bool,F.sub_list_bool,F.sub_tuple_bool,F.sub_dict_bool⟩
theorem ans_tuple:AnsT "tuple":=⟨F.isi_meta_tuple,F.sub_NoneType_tuple,F.sub_bool_tuple,F.sub_int_tuple,F.sub_str_tuple,F.sub_list_tuple,F.sub_tuple_tuple,F.sub_dict_tuple⟩
theorem ans_list:AnsT "list":=⟨F.isi_meta_list,F.sub_NoneType_list,F.sub_bool_list,F.sub_int_list,F.sub_str_list,F.sub_list_list,F.sub_tuple_list,F.sub_dict_list⟩
theorem ans_dict:AnsT "dict":=⟨F.isi_meta_dict,F.sub_NoneType_dict,F.sub_bool_dict,F.sub_int_dict,F.sub_str_dict,F.sub_list_dict,F.sub_tuple_dict,F.sub_dict_dict⟩
theorem isOf_ne{k t:String}(h:isOf k [t]=false):(Value.type k==Value.type t)=false:=by
 rw [beq_eq_false_iff_ne];intro e;cases e;simp [isOf] at h
theorem ans_if{x:Value}{k t:String}(T:AnsT t)(h:isSubtype (.type k) (.type t)=pure (isOf k [t]))(hf:(Value.type k==Value.type t)=false->isSubtype (.type k) (.type t)=pure false->Answers (λ s=>s.TypeIs x k) x (.type t) false):Answers (λ s=>s.TypeIs x k) x (.type t) (isOf k [t]):=by
 cases e:isOf k [t] with
 | true=>exact .of_true T.ty (e▸h)
 | false=>exact hf (isOf_ne e) (e▸h)
theorem ans_of{x:AV}{u:Value}{k t:String}(S:St C P f ρ Z s)(hx:x.is u)(hk:kindIs Z x=some k)(T:AnsT t):Answers (λ s=>s.TypeIs u k) u (.type t) (isOf k [t]):=
 kindE (G:=λ k u=>Answers (λ s=>s.TypeIs u k) u (.type t) (isOf k [t])) S hx hk
  (ans_if T T.n λ h1 h2=>.of_false_none h1 T.ty h2) (λ V=>ans_if T T.b λ h1 h2=>.of_false_bool h1 T.ty h2) (λ V V=>ans_if T T.i λ h1 h2=>.of_false_int h1 T.ty h2) (λ V V=>ans_if T T.s λ h1 h2=>.of_false_str h1 T.ty h2)
  (λ V V V V V=>ans_if T T.l λ h1 h2=>.of_false_list h1 T.ty h2) (λ V V V V V=>ans_if T T.u λ h1 h2=>.of_false_tuple h1 T.ty h2) λ V V V V V=>ans_if T T.d λ h1 h2=>.of_false_dict h1 T.ty h2
theorem kind_is{x:AV}{u:Value}{k:String}(S:St C P f ρ Z s)(hx:x.is u)(hk:kindIs Z x=some k):s.TypeIs u k:=
 kindE (G:=λ k u=>s.TypeIs u k) S hx hk rfl (λ V=>rfl) (λ V V=>typeIs_int _ _ _) (λ V V=>typeIs_str _ _ _) (λ V o g c V=>⟨o,g,c⟩) (λ V o g c V=>⟨o,g,c⟩) λ V o g c V=>⟨o,g,c⟩
theorem isi_one{x:AV}{u:Value}{k t:String}{Q:Value->Shared->Prop}(T:AnsT t)(S:St C P f ρ Z s)(hx:x.is u)(hk:kindIs Z x=some k)(h:∀ tk,Q (.bool (isOf k [t])) { s with toks:=tk }):wpAny (model C.prog C.w) A (call (.builtin "isinstance") [u,.type t]) Q E s:=
 call_isinstance (S:=λ V R s=>s.TypeIs u k/\∀ tk,R (.ok (.ret (.bool (isOf k [t])))) { s with toks:=tk }) (λ V V V V V hs=>isinstance_outer (ans_of S hx hk T _ _ _ _ _ _ _ hs) (Shared.TypeIs.not_mainsLoader hs.1)) ⟨kind_is S hx hk,h⟩
theorem ans_all{x:AV}{u:Value}{k:String}(S:St C P f ρ Z s)(hx:x.is u)(hk:kindIs Z x=some k):∀ {ts:List String},(∀ t∈ts,AnsT t)->AnswersAll (λ s=>s.TypeIs u k) u (ts.map Value.type) (ts.map λ t=>isOf k [t])
 | [],_=>trivial
 | _::_,h=>⟨ans_of S hx hk (h _ (.head _)),ans_all S hx hk λ t ht=>h t (.tail _ ht)⟩
theorem isOf_any(k:String)(ts:List String):(ts.map λ t=>isOf k [t]).any id=isOf k ts:=by
 induction ts with
 | nil=>rfl
 | cons t r ih=>rw [map_cons,any_cons,ih];simp [isOf]
noncomputable def GetR(C:Cx)(P:Kept)(f:Fx)(ρ:Loc)(Q:Post)(A:Around)(E:Value->Shared->Prop)(s:Shared)(u v:Value):Prop:=
 (∃ T id,s.TypeIs u T/\typeLookup (.type T) "__getitem__" = pure (some (.builtin id)))/\wpAny (model C.prog C.w) A (getItem u v) (RV C P f ρ Q) E s
set_option tactic.hygienic true in
theorem itemL_some{α:Type}{xs:List α}{i:Int}{v:α}(h:itemL xs i=some v):∃ j,i.natAbs<2 ^ 62/\seqIndex? i xs.length=some j/\xs[j]?=some v:=by
 unfold itemL at h
 split at h
 . rename_i h2
   obtain ⟨j,h3,h4⟩:=Option.bind_eq_some_iff.mp h
   exact ⟨j,h2,h3,h4⟩
 . cases h
set_option tactic.hygienic true in
theorem seqIndex_cases{k:Int}{n j:Nat}(h:seqIndex? k n=some j):(0<=k/\k.toNat=j)\/(k<0/\0<=k+n/\(k+n).toNat=j):=by
 unfold seqIndex? at h
 dsimp only at h
 by_cases h0:k<0
 . rw [if_pos h0] at h
   split at h
   . rename_i hc
     simp only [Bool.and_eq_true,decide_eq_true_eq] at hc
     exact .inr ⟨h0,hc.1,Option.some.inj h⟩
   . cases h
 . rw [if_neg h0] at h
   split at h
   . exact .inl ⟨Int.not_lt.mp h0,Option.some.inj h⟩
   . cases h
theorem ps_item{x y:AV}{u v:Value}(S:St C P f ρ Z s)(h:ItemP Z x y Q)(hx:x.is u)(hy:y.is v):GetR C P f ρ Q A E s u v:=by
 cases x with
 | ref a=>
  cases hx
  refine okE h λ o e h=>(S.rel a o e).view h (λ xs cs V l r h=>?_) (λ xs cs V l r h=>?_) λ es kvs V d r m h=>?_
  . apply intE h hy
    intro k t h
    refine okE h λ w hw q=>?_
    obtain ⟨j,hk,hj,hw⟩:=itemL_some hw
    obtain ⟨cw,ew,hcw⟩:=r.get hw
    have hk':(k.natAbs:Int)<2 ^ 62:=by exact_mod_cast hk
    rw [Array.getElem?_toList] at ew
    refine ⟨⟨_,_,l.typeIs,slot_list_getitem.lookup⟩,?_⟩
    rcases seqIndex_cases hj with ⟨h0,rfl⟩ | ⟨h0,h1,rfl⟩
    . exact wpAny_getItem_list l h0 (by exact o162 hk) ew (rv hcw S q)
    . have e:xs.length=cs.size:=r.length
      rw [e] at ew h1
      exact wpAny_getItem_list_neg l h0 (by exact o163 h1 e) (by exact o164 hk) ew (rv hcw S q)
  . apply intE h hy
    intro k t h
    refine okE h λ w hw q=>?_
    obtain ⟨j,hk,hj,hw⟩:=itemL_some hw
    obtain ⟨cw,ew,hcw⟩:=r.get hw
    have hk':(k.natAbs:Int)<2 ^ 62:=by exact_mod_cast hk
    rw [Array.getElem?_toList] at ew
    have e:xs.length=cs.size:=r.length
    have l':IsTup s.heap a cs:=by obtain ⟨o,h,k⟩:=l;exact ⟨o,h,k⟩
    exact ⟨⟨_,_,l'.typeIs,slot_tuple_getitem.lookup⟩,getItem_tuple l' (by exact o164 hk) (by exact o162 hk) (e▸hj) ew (rv hcw S q)⟩
  . apply strE h hy
    intro k t h
    refine okE h λ w hw q=>?_
    rcases ent_lookup r k with ⟨g1,V⟩ | ⟨w',cv,g1,g2,g3⟩
    . exact clash hw g1
    . rw [same hw g1] at q
      exact ⟨⟨_,_,d.typeIs,slot_dict_getitem.lookup⟩,wpAny_getItem_of (strKind_is C.prog C.w (toS k) t) d.mapOf g2 (rv g3 (S.tok _) q)⟩
 | str x=>
  obtain ⟨t,rfl⟩:=hx
  apply intE h hy
  intro k t' h
  refine okE h λ c hc q=>?_
  obtain ⟨j,hk,hj,hc⟩:=itemL_some hc
  have hk':(k.natAbs:Int)<2 ^ 62:=by exact_mod_cast hk
  refine ⟨⟨_,_,typeIs_str s _ _,F.slot_str_getitem.lookup⟩,PySem.P.getItem_str (c:=c) ?_ ?_ (rv (av:=.str [c]) is_str (S.tok _) q)⟩
  . simp only [Bool.or_eq_false_iff,decide_eq_false_iff_not]
    exact ⟨λ h=>absurd (Int.lt_of_lt_of_le (Int.lt_neg_of_lt_neg h) (Int.le_trans Int.le_natAbs (Int.le_of_lt (by rw [Int.natAbs_neg];exact hk')))) (by decide),λ h=>absurd (Int.lt_of_le_of_lt (Int.le_trans h Int.le_natAbs) hk') (by decide)⟩
  . rw [toS_length,hj];simpa [toS] using hc
 | none=>exact h.elim
 | bool _=>exact h.elim
 | int _=>exact h.elim
theorem partE{x:AV}{u:Value}{k:Option Int->Prop}{G:Value->Prop}(h:PartP x k)(hx:x.is u)(g:∀ l,IsPart u l->(∃ p:Option (Int×Tok),u=partValue p/\p.map (·.1)=l)->k l->G u):G u:=by
 cases x with
 | none=>cases hx;exact g none .none ⟨none,rfl,rfl⟩ h
 | int i=>obtain ⟨t,rfl⟩:=hx;exact g (some i) (.int _ _) ⟨some (i,t),rfl,rfl⟩ h
 | bool _=>exact h.elim
 | str _=>exact h.elim
 | ref _=>exact h.elim
theorem cut_pick(cs:Array Value)(lo hi st:Option Int):slicePick cs lo hi st=(cut cs.toList lo hi st).toArray:=by
 unfold slicePick cut
 simp only [Array.length_toList,Array.getElem?_toList]
theorem cut_all2{xs:List AV}{cs:List Value}(h:All2 AV.is xs cs)(lo hi st:Option Int):All2 AV.is (cut xs lo hi st) (cut cs lo hi st):=by
 unfold cut;rw [h.length];exact h.pick _
theorem cut_toS(x:Txt)(lo hi st:Option Int):(((Builtin.Str.strSliceIndices lo hi (st.getD 1) (toS x).length).filterMap ((toS x).cps[·]?)).toArray:Array Nat)=(cut x lo hi st).toArray:=by
 have:(λ i:Nat=>(toS x).cps[i]?)=λ i=>x[i]?:=funext λ i=>List.getElem?_toArray
 rw [this,toS_length]
 rfl
theorem range_pick{α:Type}(xs:List α):(List.range xs.length).filterMap (xs[·]?)=xs:=by
 induction xs with
 | nil=>rfl
 | cons x r ih=>rw [length_cons,range_succ_eq_map,filterMap_cons,filterMap_map];exact congrArg (x::·) ih
theorem cut_whole{α:Type}(xs:List α)(lo hi:Option Int)
  (hl:(sliceRange (sliceBounds lo hi none xs.length).1 (sliceBounds lo hi none xs.length).2.1 (sliceBounds lo hi none xs.length).2.2).length=xs.length):cut xs lo hi none=xs:=by
 unfold cut
 generalize e1:(sliceBounds lo hi none xs.length).1=a at hl ⊢
 generalize e2:(sliceBounds lo hi none xs.length).2.1=b at hl ⊢
 have e3:(sliceBounds lo hi none xs.length).2.2=1:=rfl
 rw [e3] at hl ⊢
 have ha:0<=a:=by
  subst e1;unfold sliceBounds;dsimp only;rw [show (none:Option Int).getD 1=1 from rfl]
  split
  . simp
  . simp;exact o165
 have hb:b<=xs.length:=by
  subst e2;unfold sliceBounds;dsimp only;rw [show (none:Option Int).getD 1=1 from rfl]
  split
  . simp
  . simp only [show (1:Int)>0 from by decide,if_true];exact o166 hl
 unfold sliceRange at hl ⊢
 rw [if_pos (by decide),length_map,length_range] at hl
 rw [if_pos (by decide)]
 have ea:(List.range (if a<b then (b-a+1-1) / 1 else 0).toNat).map (λ k:Nat=>(a+1*(k:Int)).toNat)=List.range xs.length:=by
  rw [hl]
  by_cases hlt:a<b
  . rw [if_pos hlt] at hl
    have e0:a=0:=by exact o167 hl ha hb hlt
    rw [e0]
    exact (List.map_congr_left λ k V=>by show ((0:Int)+1*(k:Int)).toNat=k;exact o168).trans (List.map_id' _)
  . rw [if_neg hlt] at hl
    rw [<-hl];rfl
 rw [ea];exact range_pick xs
theorem sqE{k k':List AV->Prop}{p:Prop}(S:St C P f ρ Z s)(h:OkP (Z a) λ o=>SqP o k k')(g:∀ xs cs,s.heap.IsList a cs->All2 AV.is xs cs.toList->k xs->p)(g':∀ xs cs,IsTup s.heap a cs->All2 AV.is xs cs.toList->k' xs->p):p:=by
 refine okE h λ o e h=>?_
 cases o with
 | list xs=>exact S.at e (λ V x=>x) λ cs n h1 h2=>g xs cs ⟨_,h1,rfl,n,rfl⟩ h2 h
 | flist xs=>exact S.at e (λ V x=>x) λ cs n h1 h2=>g xs cs ⟨_,h1,rfl,n,rfl⟩ h2 h
 | tup xs=>exact S.at e (λ V x=>x) λ cs n h1 h2=>g' xs cs ⟨_,h1,rfl,n,rfl⟩ h2 h
 | _=>exact h.elim
theorem All2.take{α β:Type}{R:α->β->Prop}{xs:List α}{ys:List β}(h:All2 R xs ys):∀ n,All2 R (xs.take n) (ys.take n):=by
 induction h with
 | nil=>intro n;rw [take_nil,take_nil];exact .nil
 | cons r _ ih=>intro n;cases n with
  | zero=>exact .nil
  | succ n=>exact .cons r (ih n)
theorem pick_to(xs:Array Value)(b:Nat)(hb:b<=xs.size):((List.range b).filterMap λ (k:Nat)=>xs[((0:Int)+(k:Int)*1).toNat]?)=xs.toList.take b:=by
 have e:(λ (k:Nat)=>xs[((0:Int)+(k:Int)*1).toNat]?)=λ k=>xs.toList[k]?:=by
  funext k
  have:((0:Int)+(k:Int)*1).toNat=k:=by exact o169
  rw [this,Array.getElem?_toList]
 rw [e]
 induction b with
 | zero=>rfl
 | succ b ih=>rw [List.range_succ,List.filterMap_append,ih (Nat.le_of_succ_le hb),filterMap_cons,List.getElem?_eq_getElem (i:=b) (l:=xs.toList) hb,List.take_succ_eq_append_getElem (l:=xs.toList) hb];rfl
set_option tactic.hygienic true in
theorem slice_to{sl:Addr}{b n:Nat}{u:Tok}{Q:Int×Int×Nat->Shared->Prop}(hs:s.heap.IsSliceOf sl .none (.int b u) .none)(hb:b<=n)(h:Q (0,1,b) s):
  wpAny (model C.prog C.w) A (Builtin.Slice.sliceApplied (.ref sl) (pure (n:Int))) Q E s:=by
 obtain ⟨os,hos,hcs,hds⟩:=id hs
 unfold Builtin.Slice.sliceApplied Builtin.Slice.sliceFields
 refine wpAny_bind (wpAny_bind (wpAny_field hos hds (x:=.none) rfl (wpAny_bind (wpAny_field hos hds (x:=.int b u) rfl (wpAny_bind (wpAny_field hos hds (x:=.none) rfl (wpAny_pure ?_)))))))
 refine wpAny_bind (slicePart_none ?_)
 show wpAny _ _ (if ((1:Int)==0)=true then _ else _) _ _ s
 rw [if_neg (by decide)]
 refine wpAny_bind (slicePart_none (wpAny_bind (slicePart_int (wpAny_bind (wpAny_pure ?_)))))
 have e1:Builtin.Slice.sliceAdjust none (some (b:Int)) 1 (n:Int)=(0,(b:Int)):=by
  unfold Builtin.Slice.sliceAdjust
  simp only [show ¬((1:Int)<0) by decide,show ¬((b:Int)<0) by exact o170,if_false]
  congr 1;exact o171 hb
 have e2:Builtin.Slice.slicePlaces 0 (b:Int) 1=b:=by
  unfold Builtin.Slice.slicePlaces
  simp only [show (1:Int)>0 by decide,if_true,Int.ediv_one]
  split <;> rename_i h
  . rw [Int.sub_zero,Int.sub_add_cancel];rfl
  . exact (Nat.le_zero.mp (Int.ofNat_le.mp (Int.not_lt.mp h))).symm
 show wpAny _ _ (match Builtin.Slice.sliceAdjust none (some (b:Int)) 1 (n:Int) with | (lo,hi)=>pure (lo,(1:Int),Builtin.Slice.slicePlaces lo hi 1)) _ _ s
 rw [e1]
 show wpAny _ _ (pure ((0:Int),(1:Int),Builtin.Slice.slicePlaces 0 (b:Int) 1)) _ _ s
 rw [e2]
 exact wpAny_pure h
theorem item_to{t sl:Addr}{items:Array Value}{b:Nat}{u:Tok}{Q:Value->Shared->Prop}(ht:IsTup s.heap t items)(hs:s.heap.IsSliceOf sl .none (.int b u) .none)(hb:b<items.size)
  (h:Q (.ref s.heap.objs.size) { s with heap:=s.heap.push { cls:=.type "tuple",data:=.seq (items.toList.take b).toArray } }) (hsz:items.size<=sizeLine):wpAny (model C.prog C.w) A (getItem (.ref t) (.ref sl)) Q E s:=by
 have hok:sizeOk (.seq (items.toList.take b).toArray):=by
  show (items.toList.take b).toArray.size<=sizeLine
  rw [size_toArray,length_take];exact o172 hb hsz
 obtain ⟨os,hos,hcs,hds⟩:=id hs
 have hTs:s.TypeIs (.ref sl) "slice":=⟨os,hos,hcs⟩
 unfold getItem
 refine wpAny_holding (wpAny_bind (wpAny_sequenceKey ht.typeIs (by decide) ?_))
 refine wpAny_bind (wpAny_callSpecial?_slot (name:=Str.ofString "__getitem__") ht.typeIs slot_tuple_getitem
  (wpAny_call_entry slot_tuple_getitem ht.typeIs entry_tuple_getitem ?_ (args_tuple_getitem _ _)))
 show wpAny _ _ (Builtin.Tuple.tupleItemsOf (.ref t) >>= _) _ _ s
 refine wpAny_bind (tupleItemsOf_ ht ?_)
 refine wpAny_bind (wpAny_typeOf hTs ?_)
 rw [if_pos (by decide)]
 refine wpAny_bind (slice_to hs (Nat.le_of_lt hb) ?_)
 have hno:¬(((0:Int)==0&&(1:Int)==1&&b==items.size)=true):=by
  exact λ h=>absurd (eq_of_beq (Bool.and_eq_true_iff.mp h).2) (Nat.ne_of_lt hb)
 show wpAny _ _ (if ((0:Int)==0&&(1:Int)==1&&b==items.size)=true then _ else _) _ _ s
 rw [if_neg hno,pick_to items b (Nat.le_of_lt hb)]
 exact wpAny_bind (m:=Builtin.Tuple.tupleExact _) (wpAny_newObj_type (wpAny_pure ⟨_,rfl,wpAny_pure h⟩) hok)
set_option tactic.hygienic true in
theorem ps_slice{x l h t:AV}{u v1 v2 v3:Value}{sl:Addr}(S:St C P f ρ Z s)(hp:SliP Z x l h t Q)(hx:x.is u)(h1:l.is v1)(h2:h.is v2)(h3:t.is v3)(hs:s.heap.IsSliceOf sl v1 v2 v3):GetR C P f ρ Q A E s u (.ref sl):=by
 cases x with
 | ref a=>
  cases hx
  refine sqE S hp (λ xs cs g r hp=>?_) λ xs cs g r hp=>by
   revert hs
   apply nonE hp h1
   intro hp
   apply intE hp h2
   intro i tk hp
   apply nonE hp h3
   intro q hs
   obtain ⟨b,rfl⟩:∃ b:Nat,i=b:=⟨i.toNat,(Int.toNat_of_nonneg q.1.1).symm⟩
   have e:xs.length=cs.size:=r.length
   exact ⟨⟨_,_,g.typeIs,slot_tuple_getitem.lookup⟩,item_to g hs (e▸q.1.2.1) (rv_tup S q.2 (r.take _)) (e▸tooLong_lt q.1.2.2)⟩
  revert hs
  apply partE hp h1
  intro lo p1 V hp
  apply partE hp h2
  intro hi p2 V hp
  apply partE hp h3
  intro st p3 V q hs
  refine ⟨⟨_,_,g.typeIs,slot_list_getitem.lookup⟩,wpAny_getItem_list_slice g hs p1 p2 p3 q.1.1 ?_ (by rw [show cs.size=xs.length from r.length.symm];exact tooLong_lt q.1.2)⟩
  rw [cut_pick];exact rv_list S q.2 (cut_all2 r lo hi st)
 | str x=>
  obtain ⟨tk,rfl⟩:=hx
  have hp:PartP l λ lo=>PartP h λ hi=>NonP t (x.length<tooLong/\Q (.str (cut x lo hi none)) Z):=hp
  revert hs
  apply partE hp h1
  intro lo V p1 hp
  apply partE hp h2
  intro hi V p2 hp
  apply nonE hp h3
  intro q hs
  obtain ⟨q1,rfl,m1⟩:=p1
  obtain ⟨q2,rfl,m2⟩:=p2
  refine ⟨⟨_,_,typeIs_str s _ _,F.slot_str_getitem.lookup⟩,wpAny_getItem_str_slice (st:=none) hs rfl ?_⟩
  unfold sliceMade slicePicked
  rw [m1,m2]
  split
  . rename_i hc
    simp only [Bool.and_eq_true,beq_iff_eq] at hc
    rw [cut_whole x lo hi (by rw [<-toS_length x];exact hc.2)] at q
    exact rv is_str S q.2
  . refine ⟨?_,?_⟩
    . have h1:=sliceIndices_le lo hi (toS x).length
      have h2:=List.length_filterMap_le ((toS x).cps[·]?) (Builtin.Str.strSliceIndices lo hi 1 (toS x).length)
      show (List.filterMap ((toS x).cps[·]?) (Builtin.Str.strSliceIndices lo hi 1 (toS x).length)).toArray.size<=sizeLine
      rw [size_toArray]
      exact Nat.le_trans h2 (Nat.le_trans h1 (by rw [toS_length];exact tooLong_lt q.1))
    . rw [show (Option.map (λ x:Int×Tok=>x.1) none).getD 1=(none:Option Int).getD 1 from rfl,cut_toS x lo hi none]
      exact rv (av:=.str (cut x lo hi none)) is_str (S.tok _) q.2
 | none=>exact hp.elim
 | bool _=>exact hp.elim
 | int _=>exact hp.elim
end
end U
namespace U
open PySem PyProof.Rows PySem.SeqAt
section
variable {C:Cx}{P:Kept}{f:Fx}{ρ:Loc}{Z:Hp}{s:Shared}{E:Value->Shared->Prop}{Q:Post}
set_option tactic.hygienic true in
theorem cmp_eq:CmpOk C .eq .Eq:=λ P f ρ Z s A E Q x y u v S hu h hx hy=>by
 show wpAny _ _ (richCompare .Eq u v) _ _ s
 have h:EqP Z x y λ b=>Q (.bool b) Z:=h
 unfold EqP at h
 split at h
 . rename_i e
   obtain ⟨e1,e2⟩:=Bool.and_eq_true_iff.mp e
   exact (same_scal hx hy e1 e2).rc _ _ _ _ (rv is_bool S h)
 . obtain ⟨b,h,q⟩:=h
   exact (eq_strong S.rel 98 A (by exact qli [_,_] (.i 1 1 (.a Y0 (.n 100)) Y1 (.h 0 (.a (.a Y0 (.n 98)) X1) Y1)) rfl (qli [_,_] (.i 1 1 (.a Y0 (.n 200)) Y1 (.h 0 (.a Y0 (.n 100)) Y1)) rfl hu)) h hx hy).rc _ _ _ _ (rv is_bool S q)
end
end U
namespace U
open PySem PyProof.Rows
set_option genSizeOf false
set_option genInjectivity false
inductive GK where
 | fn (n:String)
 | typ (n:String)
 | bi (n:String)
 | val (v:AV)
 | cls (n:String)
noncomputable def GK.is(C:Cx):GK->Value->Prop
 | .fn n,v=>∃ a,C.fnAt n=some a/\v=.ref a
 | .typ t,v=>v=.type t
 | .bi b,v=>v=.builtin b
 | .val a,v=>a.is v
 | .cls c,v=>∃ a,C.clsAt c=some a/\v=.ref a
structure Tc where
 hd:Bool
 names:List Str
 kinds:List (Str×NameKind)
 g:List (Str×GK)
structure Fr(tc:Tc)(f:Fx)(A:Around)(d:Nat):Prop where
 names:f.names=tc.names
 kinds:f.env.scope.names=tc.kinds
 glob:f.env.globals=mainGlobals
 blt:f.env.builtins=builtinsNs
 hd:f.hx.isSome=tc.hd
 cells:∀ x,tc.kinds.lookup x=some .cell->(f.env.cells.lookup x).isSome=true
 depth:A.depth+d<1000
 units:A.units+16*d+400<cLine
 hand:A.handled=f.hx.map .ref
 frames:A.frames=some f.fs
 kind:f.env.scope.kind=.function
 apart:∀ x y c,f.env.cells.lookup x=some c->f.env.cells.lookup y=some c->x=y
 top:∃ e r,f.fs=e::r/\e.frame=f.env.frame
noncomputable def GOk(C:Cx)(g:List (Str×GK)):Prop:=∃ mg mb,C.base.Ns mainGlobals mg/\C.base.Ns builtinsNs mb /\
 ∀ x k,g.lookup x=some k->∃ v,k.is C v/\(mg x=some v\/mg x=none/\mb x=some v)
inductive RBv(C:Cx)(P:Kept)(hx:Option Addr)(fs:List Env)(Q:Post)(v:Value)(s':Shared):Prop
 | mk (av Z') (h1:av.is v) (h2:StB C P hx fs Z' s') (h3:Q av Z'):RBv C P hx fs Q v s'
inductive RBx(C:Cx)(P:Kept)(hx:Option Addr)(fs:List Env)(X:XPost)(e:Value)(s':Shared):Prop
 | mk (a Z' c d) (h1:e=.ref a) (h2:StB C P hx fs Z' s') (h3:Z' a=some (.exc c d)) (h4:X a Z'):RBx C P hx fs X e s'
noncomputable def RB(C:Cx)(P:Kept)(hx:Option Addr)(fs:List Env)(Q:Post)(X:XPost):Result->Shared->Prop:=λ r s'=>match r with
 | .ok (.ret v)=>RBv C P hx fs Q v s'
 | .ok _=>False
 | .error e=>RBx C P hx fs X e s'
structure ABk(A:Around)(hx:Option Addr)(fs:List Env)(d:Nat):Prop where
 depth:A.depth+d+1<1000
 units:A.units+16*d+416<cLine
 hand:A.handled=hx.map .ref
 frames:A.frames=some fs
inductive AttAt(C:Cx)(a:Addr)(n:Txt):Prop
 | mk (N mN) (h1:ClsAt C.base a N mN) (h2:mN "__getattribute__" = none) (h3:mN "__setattr__" = none) (h4:mN (toS n)=none) (h5:typeLookup (.type "object") (toS n)=pure none):AttAt C a n
noncomputable def AttC(C:Cx)(c:String)(n:Txt):Prop:=∀ a,C.clsAt c=some a->AttAt C a n
inductive MthAt(C:Cx)(a:Addr)(m:Txt)(f:String):Prop
 | mk (N mN b ob fd) (h1:ClsAt C.base a N mN) (h2:mN "__getattribute__" = none) (h3:mN "__getattr__" = none) (h4:mN (toS m)=some (.ref b)) (h5:C.base.get? b=some ob) (h6:ob.cls=.type "function") (h7:ob.data=.func fd) (h8:C.fnAt f=some b) (y) (h9:typeLookup (.type "object") (toS m)=pure y):MthAt C a m f
noncomputable def MthC(C:Cx)(c:String)(m:Txt)(f:String):Prop:=∀ a,C.clsAt c=some a->MthAt C a m f
inductive ExcAt(C:Cx)(a:Addr):Prop
 | mk (x bmB newId mg B initId) (h1:OwnClsQ x a bmB newId mg C.base) (h2:ExcBaseFacts B newId initId bmB):ExcAt C a
noncomputable def ExcC(C:Cx)(c:String):Prop:=∀ a,C.clsAt c=some a->ExcAt C a
noncomputable def bmV:List Value:=[.type "ValueError",.type "Exception",.type "BaseException",.type "object"]
inductive Chn(h:Heap):List Value->(Str->Option Value)->Prop
 | base:Chn h bmV (λ V=>none)
 | own (A:Addr) (c0 dd cd sl) (mA m:Str->Option Value) (tl:List Value) (h1:h.get? A=some { cls:=c0,dict:=dd,data:=.cls cd,slots:=sl }) (h2:h.Ns cd.ns mA) (h3:Chn h tl m):Chn h (.ref A::tl) (λ n=>match mA n with | some v=>some v | none=>m n)
inductive XObj(h:Heap)(ca:Addr)(bm:List Value):Prop
 | mk (N nm q bs sn sub ab col dd k0 k1 k2 k3 k5) (h1:h.get? ca=some (excClassObj nm q ca N bs bm true sn sub ab col dd k0 k1 k2 k3 k5 "ValueError.__new__")):XObj h ca bm
inductive XCls(C:Cx)(ca:Addr)(m:Str->Option Value):Prop
 | mk (bm) (h1:XObj C.base ca bm) (h2:Chn C.base (.ref ca::bm) m):XCls C ca m
inductive XatAt(C:Cx)(ca:Addr)(n:Txt):Prop
 | mk (mN) (h1:XCls C ca mN) (h2:mN (toS n)=none) (h3:mN "__getattribute__" = none) (h4:mN "__getattr__" = none) (h5:mN "__setattr__" = none) (h6:typeLookup (.type "ValueError") (toS n)=pure none):XatAt C ca n
noncomputable def XatC(C:Cx)(c:String)(n:Txt):Prop:=∀ ca,C.clsAt c=some ca->XatAt C ca n
inductive XinAt(C:Cx)(ca:Addr)(f:String):Prop
 | mk (mN fa oI fd) (h1:XCls C ca mN) (h2:mN "__init__" = some (.ref fa)) (h3:C.base.get? fa=some oI) (h4:oI.cls=.type "function") (h5:oI.data=.func fd) (h6:C.fnAt f=some fa):XinAt C ca f
noncomputable def XinC(C:Cx)(c f:String):Prop:=∀ ca,C.clsAt c=some ca->XinAt C ca f
inductive IsxAt(C:Cx)(ca cb:Addr)(b:Bool):Prop
 | mk (bm m bm') (h1:XObj C.base ca bm) (h2:(Value.ref ca::bm).contains (.ref cb)=b) (h3:XObj C.base cb bm') (h4:bm'.contains (.type "BaseException")=true) (h5:Chn C.base (.ref ca::bm) m) (h6:m "__getattribute__" = none) (h7:m "__class__" = none) (h8:m "__getattr__" = none):IsxAt C ca cb b
noncomputable def IsxC(C:Cx)(c c':String)(b:Bool):Prop:=∀ ca cb,C.clsAt c=some ca->C.clsAt c'=some cb->IsxAt C ca cb b
structure KOk(C:Cx)(K:Kx):Prop where
 fn:∀ {hd d f a vs cvs Z Q X P hx fs s A},C.fnAt f=some a->K.fn hd d f vs Z Q X->hx.isSome=hd->StB C P hx fs Z s->All2 AV.is vs cvs->ABk A hx fs d->(∃ e r,fs=e::r) ->
  codeAny (model C.prog C.w) A (.call (.ref a) ⟨cvs,[]⟩) (RB C P hx fs Q X) s
 att:∀ {c n},K.att c n->AttC C c n
 mth:∀ {c m f},K.mth c m f->MthC C c m f
 exc:∀ {c},K.exc c->ExcC C c
 xat:∀ {c n},K.xat c n->XatC C c n
 xin:∀ {c f},K.xin c f->XinC C c f
 isx:∀ {c c' b},K.isx c c' b->IsxC C c c' b
structure Env'(C:Cx)(K:Kx)(g:List (Str×GK)):Prop where
 c:C.Ok
 k:KOk C K
 g:GOk C g
 f:∀ n a,C.fnAt n=some a->∃ o fd,C.base.get? a=some o/\o.data=.func fd
section
variable {C:Cx}{K:Kx}{P:Kept}{f:Fx}{d:Nat}{ρ:Loc}{Z:Hp}{s:Shared}{A:Around}{Q:Post}{X:XPost}{tc:Tc}{M:Model}{E:Value->Shared->Prop}
noncomputable def SE(C:Cx)(K:Kx)(tc:Tc)(e:Expr)(pe:PE):Prop:=∀ ⦃P f d ρ Z s A Q X⦄,Fr tc f A d->St C P f ρ Z s->pe K tc.hd d ρ Z Q X ->
 wpAny (model C.prog C.w) A (eval e f.env) (RV C P f ρ Q) (RX C P f ρ X) s
inductive RT(C:Cx)(P:Kept)(f:Fx)(ρ:Loc)(Q:Post)(b:Bool)(s':Shared):Prop
 | mk (av Z') (h1:Tr av b) (h2:St C P f ρ Z' s') (h3:Q av Z'):RT C P f ρ Q b s'
noncomputable def HasT(Q:Post):Prop:=∀ v Z',Q v Z'->∃ t,Tr v t
noncomputable def ST(C:Cx)(K:Kx)(tc:Tc)(e:Expr)(pe:PE):Prop:=∀ ⦃P f d ρ Z s A Q X⦄ ⦃whole:Sem Value⦄,whole=eval e f.env->Fr tc f A d->St C P f ρ Z s->HasT Q->pe K tc.hd d ρ Z Q X ->
 wpAny (model C.prog C.w) A (isTrue e f.env whole) (RT C P f ρ Q) (RX C P f ρ X) s
theorem fit{α:Type}{t:Sem α}{Q Q':α->Shared->Prop}(h:wpAny M A t Q E s)(hQ:∀ a s,Q a s->Q' a s):wpAny M A t Q' E s:=wpAny_mono h hQ λ V V x=>x
theorem fitv{t:Sem Value}{Q':Value->Shared->Prop}(h:wpAny M A t (RV C P f ρ Q) E s)(k:∀ v s₁ av Z1,av.is v->St C P f ρ Z1 s₁->Q av Z1->Q' v s₁):wpAny M A t Q' E s:=
 fit h λ v s₁ ⟨av,Z1,hv,S,q⟩=>k v s₁ av Z1 hv S q
theorem fitt{t:Sem Bool}{Q':Bool->Shared->Prop}(h:wpAny M A t (RT C P f ρ Q) E s)(k:∀ b s₁ av Z1,Tr av b->St C P f ρ Z1 s₁->Q av Z1->Q' b s₁):wpAny M A t Q' E s:=
 fit h λ v s₁ ⟨av,Z1,hv,S,q⟩=>k v s₁ av Z1 hv S q
theorem hasT(k:Bool->Hp->AV->Prop):HasT λ v Z'=>TruP v λ t=>k t Z' v:=λ V V h=>let ⟨t,e,_⟩:=Tr.of h;⟨t,e⟩
theorem cond{c:Expr}{pc:PE}{kb:Bool->Hp->Prop}{Q':Bool->Shared->Prop}(hc:ST C K tc c pc)(H:Fr tc f A d)(S:St C P f ρ Z s)(w:pc K tc.hd d ρ Z (λ v Z'=>TruP v λ t=>kb t Z') X)
  (k:∀ b s₁ Z1,St C P f ρ Z1 s₁->kb b Z1->Q' b s₁):wpAny (model C.prog C.w) A (isTrue c f.env (eval c f.env)) Q' (RX C P f ρ X) s:=
 fitt (hc rfl H S (hasT λ t Z' V=>kb t Z') w) λ b s₁ V Z1 e S₁ q=>k b s₁ Z1 S₁ (e.get q)
theorem st_plain{e:Expr}{pe:PE}(h:SE C K tc e pe)(he:∀ env whole,isTrue e env whole=(do let v <-whole;standAt e.pos;holding [v] (truthy v))):ST C K tc e pe:=by
 intro P f d ρ Z s A Q X whole hw H S hq w
 subst hw
 refine isTrue_plain (fitv (h H S w) λ v s₁ av Z1 hv S₁ q=>?_) (he _ _)
 obtain ⟨t,e⟩:=hq _ _ q
 exact ps_truth hv e ⟨av,Z1,e,S₁,q⟩
abbrev Both (C:Cx) (K:Kx) (tc:Tc) (e:Expr) (pe:PE):Prop:=SE C K tc e pe/\ST C K tc e pe
theorem plain{e:Expr}{pe:PE}(h:SE C K tc e pe)(he:∀ env whole,isTrue e env whole=(do let v <-whole;standAt e.pos;holding [v] (truthy v))):Both C K tc e pe:=⟨h,st_plain h he⟩
theorem se_int{i:Int}{k:Nat}{pos:Pos}:SE C K tc (.Constant (.int i) k pos) (.lit (.int i)):=λ V V V V V V V V V V S w=>wpAny_Constant_int (rv (av:=.int i) ⟨_,rfl⟩ (S.tok _) w)
theorem se_str{x:Str}{k:Nat}{pos:Pos}:SE C K tc (.Constant (.str x) k pos) (.lit (.str x.cps.toList)):=λ V V V V V V V V V V S w=>
 wpAny_Constant_str (rv (av:=.str x.cps.toList) ⟨_,rfl⟩ (S.tok _) w)
theorem se_bool{b:Bool}{k:Nat}{pos:Pos}:SE C K tc (.Constant (.bool b) k pos) (.lit (.bool b)):=λ V V V V V V V V V V S w=>wpAny_Constant_bool (rv (av:=.bool b) rfl S w)
theorem se_none{k:Nat}{pos:Pos}:SE C K tc (.Constant .none k pos) (.lit .none):=λ V V V V V V V V V V S w=>wpAny_Constant_none (rv (av:=.none) rfl S w)
theorem locAt_get:∀ {ρ:Loc} {i:Nat} {v:AV},locAt ρ i=some v->ρ[i]?=some (some v)
 | _::_,0,_,h=>congrArg some h
 | _::r,i+1,_,h=>locAt_get (ρ:=r) (i:=i) h
theorem se_loc{x:Str}{pos:Pos}{i:Nat}(hi:tc.names[i]?=some x)(hd:(x==("__debug__" : Str))=false):SE C K tc (.Name x pos) (.loc i):=λ P f d ρ Z s A Q X H S w=>by
 refine okE w λ v hv q=>?_
 obtain ⟨m,cm,L⟩:=S.locs
 obtain ⟨cv,hcv,h⟩:=L.val i x v (by rw [H.names];exact hi) (locAt_get hv)
 refine wpAny_Name ?_ hd
 rcases h with ⟨h1,h2⟩ | ⟨h1,h2,h3⟩
 . exact wpAny_loadName_local H.kind h1 L.ns h2 (rv hcv S q)
 . obtain ⟨c,hc⟩:=Option.isSome_iff_exists.mp h2
   exact wpAny_loadName_cell H.kind h1 hc (h3▸L.cell x c hc) (rv hcv S q)
structure Gl(tc:Tc)(x:Str)(k:GK):Prop where
 kind:tc.kinds.lookup x=some .globalImplicit
 g:tc.g.lookup x=some k
 nd:(x==("__debug__" : Str))=false
theorem ld_glob{x:Str}{pos:Pos}{k:GK}{Q:Value->Shared->Prop}(hg:GOk C tc.g)(H:Fr tc f A d)(G:Gl tc x k)(S:St C P f ρ Z s)(h:∀ v,k.is C v->Q v s):wpAny (model C.prog C.w) A (eval (.Name x pos) f.env) Q E s:=by
 obtain ⟨mg,mb,h1,h2,h3⟩:=hg
 obtain ⟨v,hv,h4⟩:=h3 x k G.g
 refine Calls.Name_function_global H.kind (by rw [Env.kindOf,H.kinds];exact G.kind) ?_ G.nd
 have n1:s.heap.Ns f.env.globals mg:=by rw [H.glob];exact h1.keeps S.base
 have n2:s.heap.Ns f.env.builtins mb:=by rw [H.blt];exact h2.keeps S.base
 rcases h4 with h4 | ⟨h4,h5⟩
 . exact Calls.loadGlobal_global n1 h4 (h v hv)
 . exact Calls.loadGlobal_builtin n1 h4 n2 h5 (h v hv)
theorem se_glob{x:Str}{pos:Pos}{v:AV}(hg:GOk C tc.g)(G:Gl tc x (.val v)):SE C K tc (.Name x pos) (.lit v):=λ V V V V V V V V V H S w=>ld_glob hg H G S λ V hv=>rv hv S w
theorem se_bin{l r:Expr}{bop:Operator}{op:Op}{pos:Pos}{a b:PE}(ha:SE C K tc l a)(hb:SE C K tc r b)(ho:BinOk C op bop):SE C K tc (.BinOp l bop r pos) (.prim op [a,b]):=λ V V V V V V V V V H S w=>
 wpAny_BinOp (fitv (ha H S w) λ V V V V hv S₁ q=>fitv (hb H S₁ q) λ V V V V hv' S₂ q=>ho S₂ q hv hv')
theorem se_neg{x:Expr}{pos:Pos}{a:PE}(h:SE C K tc x a):SE C K tc (.UnaryOp .USub x pos) (.prim .neg [a]):=λ V V V V V V V V V H S w=>
 UnaryOp_ (fitv (h H S w) λ v V av V hv S₁ q=>by apply intE (x:=av) q hv;exact λ V V q=>PyProof.Rows.neg_int (rv is_int (S₁.tok _) q))
theorem se_not{x:Expr}{pos:Pos}{a:PE}(h:SE C K tc x a):SE C K tc (.UnaryOp .Not x pos) (.prim .not [a]):=λ P f d ρ Z s A Q X H S w=>
 UnaryOp_ (fitv (h H S w) λ V V V Z1 hv S₁ q=>let ⟨_,e,q⟩:=Tr.of (k:=λ b=>Q (.bool !b) Z1) q;not_of (ps_truth hv e (rv (av:=.bool _) rfl S₁ q)))
theorem st_not{x:Expr}{pos:Pos}{a:PE}(h:ST C K tc x a):ST C K tc (.UnaryOp .Not x pos) (.prim .not [a]):=by
 intro P f d ρ Z s A Q X whole hw H S hq w
 exact isTrue_not (fitt (h rfl H S (hasT λ t Z' V=>Q (.bool !t) Z') w) λ b s₁ av Z1 e S₁ q=>⟨.bool !b,Z1,rfl,S₁,e.get q⟩)
theorem se_ite{c x y:Expr}{pos:Pos}{pc px py:PE}(hc:ST C K tc c pc)(hx:SE C K tc x px)(hy:SE C K tc y py):SE C K tc (.IfExp c x y pos) (.ite pc px py):=λ V V V V V V V V V H S w=>
 IfExp_ (cond hc H S w λ b V V S₁ q=>by cases b;exact hy H S₁ q;exact hx H S₁ q)
theorem st_ite{c x y:Expr}{pos:Pos}{pc px py:PE}(hc:ST C K tc c pc)(hx:ST C K tc x px)(hy:ST C K tc y py):ST C K tc (.IfExp c x y pos) (.ite pc px py):=λ V V V V V V V V V V V H S hq w=>
 isTrue_IfExp (cond hc H S w λ b V V S₁ q=>by cases b;exact hy rfl H S₁ hq q;exact hx rfl H S₁ hq q)
theorem se_and{x y:Expr}{rest:List Expr}{pos:Pos}{a b:PE}(hx:SE C K tc x a)(hy:SE C K tc (.BoolOp .And (y::rest) pos) b):SE C K tc (.BoolOp .And (x::y::rest) pos) (.and a b):=λ V V V V V V V V V H S w=>
 BoolOp_and (fitv (hx H S w) λ V V V V hv S₁ q=>let ⟨t,e,q⟩:=Tr.of q;ps_truth hv e (by cases t;exact rv hv S₁ q;exact hy H S₁ q))
theorem se_or{x y:Expr}{rest:List Expr}{pos:Pos}{a b:PE}(hx:SE C K tc x a)(hy:SE C K tc (.BoolOp .Or (y::rest) pos) b):SE C K tc (.BoolOp .Or (x::y::rest) pos) (.or a b):=λ V V V V V V V V V H S w=>
 BoolOp_or (fitv (hx H S w) λ V V V V hv S₁ q=>let ⟨t,e,q⟩:=Tr.of q;ps_truth hv e (by cases t;exact hy H S₁ q;exact rv hv S₁ q))
theorem se_one{op:BoolOp}{x:Expr}{pos:Pos}{a:PE}(hx:SE C K tc x a):SE C K tc (.BoolOp op [x] pos) a:=λ V V V V V V V V V H S w=>BoolOp_one (hx H S w)
theorem st_and{x y:Expr}{rest:List Expr}{pos:Pos}{a b:PE}(hx:ST C K tc x a)(hy:ST C K tc (.BoolOp .And (y::rest) pos) b):ST C K tc (.BoolOp .And (x::y::rest) pos) (.and a b):=by
 intro P f d ρ Z s A Q X whole hw H S hq w
 refine isTrue_and (fitt (hx rfl H S (hasT λ t Z' v=>WifP t (b K tc.hd d ρ Z' Q X) (Q v Z')) w) λ c s₁ av Z1 e S₁ q=>?_)
 have q:=e.get q
 cases c with
 | true=>
  have:=hy rfl H S₁ hq q
  rw [arm_isTrue_BoolOp] at this
  rw [if_pos rfl,arm_isTrue_BoolOp];exact this
 | false=>exact ⟨av,Z1,e,S₁,q⟩
theorem st_or{x y:Expr}{rest:List Expr}{pos:Pos}{a b:PE}(hx:ST C K tc x a)(hy:ST C K tc (.BoolOp .Or (y::rest) pos) b):ST C K tc (.BoolOp .Or (x::y::rest) pos) (.or a b):=by
 intro P f d ρ Z s A Q X whole hw H S hq w
 refine isTrue_or (fitt (hx rfl H S (hasT λ t Z' v=>WifP t (Q v Z') (b K tc.hd d ρ Z' Q X)) w) λ c s₁ av Z1 e S₁ q=>?_)
 have q:=e.get q
 cases c with
 | true=>exact ⟨av,Z1,e,S₁,q⟩
 | false=>
  have:=hy rfl H S₁ hq q
  rw [arm_isTrue_BoolOp] at this
  rw [if_neg Bool.false_ne_true,arm_isTrue_BoolOp];exact this
theorem st_one{op:BoolOp}{x:Expr}{pos:Pos}{a:PE}(hx:ST C K tc x a):ST C K tc (.BoolOp op [x] pos) a:=by
 intro P f d ρ Z s A Q X whole hw H S hq w
 cases op with
 | And=>exact isTrue_and (fit (hx rfl H S hq w) λ c s₁ h=>by cases c;exact h;exact isTrue_and_nil h)
 | Or=>exact isTrue_or (fit (hx rfl H S hq w) λ c s₁ h=>by cases c;exact isTrue_or_nil h;exact h)
theorem Fr.u200(H:Fr tc f A d):A.units+200<cLine:=by have:=H.units;exact o186 this
theorem se_cmp{l r:Expr}{cop:CmpOp}{op:Op}{pos:Pos}{a b:PE}(ha:SE C K tc l a)(hb:SE C K tc r b)(ho:CmpOk C op cop)(hm:behindInMarks cop r=false):SE C K tc (.Compare l [cop] [r] pos) (.prim op [a,b]):=λ V V V V V V V V V H S w=>
 wpAny_Compare1 (fitv (ha H S w) λ V V V V hv S₁ q=>fitv (hb H S₁ q) λ V V V V hv' S₂ q=>ho S₂ H.u200 q hv hv') hm
theorem tru_of{op:Op}{cop:CmpOp}{x y:AV}{u v:Value}(ho:CmpOk C op cop)(H:Fr tc f A d)(S:St C P f ρ Z s)(hq:HasT Q)(q:op Z [x,y] Q)(hx:x.is u)(hy:y.is v):
  wpAny (model C.prog C.w) A (compareOp cop u v) (λ w s₁=>wpAny (model C.prog C.w) A (truthy w) (RT C P f ρ Q) E s₁) E s:=
 fitv (ho S H.u200 q hx hy) λ V V av Z1 hu S3 q=>let ⟨_,e⟩:=hq _ _ q;ps_truth hu e ⟨av,Z1,e,S3,q⟩
theorem st_cmp{l r:Expr}{cop:CmpOp}{op:Op}{pos:Pos}{a b:PE}(ha:SE C K tc l a)(hb:SE C K tc r b)(ho:CmpOk C op cop)(hm:behindInMarks cop r=false):ST C K tc (.Compare l [cop] [r] pos) (.prim op [a,b]):=λ V V V V V V V V V V V H S hq w=>
 wpAny_isTrue_Compare1 (fitv (ha H S w) λ V V V V hv S₁ q=>fitv (hb H S₁ q) λ V V V V hv' S₂ q=>tru_of ho H S₂ hq q hv hv') hm
theorem se_cmp2{l r r':Expr}{c₁ c₂:CmpOp}{o₁ o₂:Op}{pos:Pos}{a b c:PE}(ha:SE C K tc l a)(hb:SE C K tc r b)(hc:SE C K tc r' c)(h₁:CmpOk C o₁ c₁)(h₂:CmpOk C o₂ c₂)
  (hm:lastMarks [c₁,c₂] [r,r']=false):SE C K tc (.Compare l [c₁,c₂] [r,r'] pos) (.cmp2 o₁ o₂ a b c):=λ V V V V V V V V V H S w=>
 Compare_chain (fitv (ha H S w) λ V V V V hv S₁ q=>chain_link (fitv (hb H S₁ q) λ V V V V hv' S₂ q=>fitv (h₁ S₂ H.u200 q hv hv') λ V V V V hu S3 q=>let ⟨t,e,q⟩:=Tr.of q
  ps_truth hu e (by cases t;exact rv hu S3 q;exact chain_last (fitv (hc H S3 q) λ V V V V hv'' S4 q=>h₂ S4 H.u200 q hv' hv'')))) hm
theorem st_cmp2{l r r':Expr}{c₁ c₂:CmpOp}{o₁ o₂:Op}{pos:Pos}{a b c:PE}(ha:SE C K tc l a)(hb:SE C K tc r b)(hc:SE C K tc r' c)(h₁:CmpOk C o₁ c₁)(h₂:CmpOk C o₂ c₂)
  (hm:lastMarks [c₁,c₂] [r,r']=false):ST C K tc (.Compare l [c₁,c₂] [r,r'] pos) (.cmp2 o₁ o₂ a b c):=λ V V V V V V V V V V V H S hq w=>
 isTrue_chain (fitv (ha H S w) λ V V V V hv S₁ q=>test_link (fitv (hb H S₁ q) λ V V V V hv' S₂ q=>fitv (h₁ S₂ H.u200 q hv hv') λ V V av Z3 hu S3 q=>let ⟨t,e,q⟩:=Tr.of q
  ps_truth hu e (by cases t;exact ⟨av,Z3,e,S3,q⟩;exact test_last (fitv (hc H S3 q) λ V V V V hv'' S4 q=>tru_of h₂ H S4 hq q hv' hv'')))) hm
end
end U
namespace U
open PySem PyProof.Rows
section
variable {C:Cx}{K:Kx}{P:Kept}{f:Fx}{d:Nat}{ρ:Loc}{Z:Hp}{s:Shared}{A:Around}{Q:Post}{X:XPost}{tc:Tc}{M:Model}{E:Value->Shared->Prop}
noncomputable def notStar(e:Expr):Bool:=e.ctorIdx != 22
theorem backTo_cons{e:Expr}{es:List Expr}{env:Env}{pos:Pos}(h:notStar e=true):backTo pos (starEach (e::es) env)=(false,eval e env)::backTo pos (starEach es env):=by
 have:starEach (e::es) env=(false,eval e env)::starEach es env:=by cases e <;> first | rfl | exact absurd h Bool.false_ne_true
 rw [this];rfl
inductive RVs(C:Cx)(P:Kept)(f:Fx)(ρ:Loc)(Q:List AV->Hp->Prop)(vs:List Value)(s':Shared):Prop
 | mk (avs Z') (h1:All2 AV.is avs vs) (h2:St C P f ρ Z' s') (h3:Q avs Z'):RVs C P f ρ Q vs s'
noncomputable def SEs(C:Cx)(K:Kx)(tc:Tc)(es:List Expr)(pes:List PE):Prop:=es.all notStar=true/\∀ ⦃P f d ρ Z s A Q X⦄ (pos:Pos),Fr tc f A d->St C P f ρ Z s->pEs K tc.hd d pes ρ Z Q X ->
 wpAny (model C.prog C.w) A (spliced (backTo pos (starEach es f.env))) (RVs C P f ρ Q) (RX C P f ρ X) s
theorem ses_nil:SEs C K tc [] []:=⟨rfl,λ V V V V V V V V V V V S w=>Calls.spliced_nil ⟨[],_,.nil,S,w⟩⟩
theorem ses_cons{e:Expr}{es:List Expr}{pe:PE}{pes:List PE}(he:SE C K tc e pe)(hn:notStar e=true)(hes:SEs C K tc es pes):SEs C K tc (e::es) (pe::pes):=⟨by rw [all_cons,hn,hes.1];rfl,λ V V V V V V V V V pos H S w=>by
 rw [backTo_cons hn]
 exact Calls.spliced_cons (fitv (he H S w) λ v s₁ av Z1 hv S₁ q=>fit (hes.2 pos H S₁ q) λ vs s₂ ⟨avs,Z2,hvs,S₂,q⟩=>⟨av::avs,Z2,.cons hv hvs,S₂,q⟩)⟩
theorem star_any{es:List Expr}{env:Env}{pos:Pos}(h:es.all notStar=true):(backTo pos (starEach es env)).any (·.1)=false:=by
 induction es with
 | nil=>rfl
 | cons e es ih=>
  rw [all_cons,Bool.and_eq_true] at h
  rw [backTo_cons h.1];exact ih h.2
theorem star_all{α:Type}{l:List (Bool×α)}(h:l.any (·.1)=false):l.all (λ x=>!x.1)=true:=by
 rw [<-List.not_any_eq_all_not,h];rfl
theorem args_of{es:List Expr}{env:Env}{pos:Pos}{fv:Value}{Q:Args->Shared->Prop}(hn:es.all notStar=true)
  (h:wpAny M A (spliced (backTo pos (starEach es env))) (λ vs s'=>Q ⟨vs,[]⟩ s') E s):wpAny M A (evalArgs fv true (backTo pos (starEach es env)) []) Q E s:=by
 cases es with
 | nil=>
  unfold evalArgs
  show wpAny M A (spliced (backTo pos (starEach [] env)) >>= _) Q E s
  refine wpAny_bind (fit h λ vs s' h'=>?_)
  exact wpAny_holding (wpAny_bind (wpAny_pure (wpAny_bind (wpAny_pure (wpAny_pure h')))))
 | cons e es=>
  rw [all_cons,Bool.and_eq_true] at hn
  rw [backTo_cons hn.1] at h ⊢
  exact Calls.evalArgs_plain h
theorem args_e{es:List Expr}{pes:List PE}{pos:Pos}{fv:Value}{Qs:List AV->Hp->Prop}{Q:Args->Shared->Prop}(hes:SEs C K tc es pes)(H:Fr tc f A d)(S:St C P f ρ Z s)(w:pEs K tc.hd d pes ρ Z Qs X)
  (k:∀ vs s₁ avs Z1,All2 AV.is avs vs->St C P f ρ Z1 s₁->Qs avs Z1->Q ⟨vs,[]⟩ s₁):wpAny (model C.prog C.w) A (evalArgs fv true (backTo pos (starEach es f.env)) []) Q (RX C P f ρ X) s:=
 args_of hes.1 (fit (hes.2 pos H S w) λ vs s₁ ⟨avs,Z1,hvs,S₁,q⟩=>k vs s₁ avs Z1 hvs S₁ q)
theorem no_hand(H:Fr tc f A d)(h:tc.hd=false):A.handled=none:=by
 have:=H.hd;rw [h] at this
 rw [H.hand];cases q:f.hx with
 | none=>rfl
 | some x=>rw [q] at this;cases this
theorem se_bi{x:Str}{p pos:Pos}{id:String}{nh:Bool}{op:Op}{es:List Expr}{pes:List PE}(hg:GOk C tc.g)(G:Gl tc x (.bi id))(ho:CallOk C nh op (.builtin id))(hh:nh=true->tc.hd=false)(hes:SEs C K tc es pes):SE C K tc (.Call (.Name x p) es [] pos) (.prim op pes):=λ V V V V V V V V V H S w=>
 wpAny_Call_NameR (ld_glob hg H G S λ v hv=>by cases hv;exact Calls.callWith_builtin (star_any hes.1) (args_e hes H S w λ V V V V hvs S₁ q=>ho S₁ (λ h=>no_hand H (hh h)) q hvs))
theorem se_ty{x:Str}{p pos:Pos}{id:String}{nh:Bool}{op:Op}{es:List Expr}{pes:List PE}(hg:GOk C tc.g)(G:Gl tc x (.typ id))(ho:CallOk C nh op (.type id))(hh:nh=true->tc.hd=false)(hes:SEs C K tc es pes):SE C K tc (.Call (.Name x p) es [] pos) (.prim op pes):=λ V V V V V V V V V H S w=>
 wpAny_Call_NameR (ld_glob hg H G S λ v hv=>by cases hv;exact PySem.callWith_type (star_any hes.1) (args_e hes H S w λ V V V V hvs S₁ q=>ho S₁ (λ h=>no_hand H (hh h)) q hvs))
theorem se_isinst{x y:Str}{p py pos:Pos}{t:String}{e:Expr}{pe:PE}(hg:GOk C tc.g)(G:Gl tc x (.bi "isinstance"))(G':Gl tc y (.typ t))(ht:AnsT t)(hn:notStar e=true)(he:SE C K tc e pe):SE C K tc (.Call (.Name x p) [e,.Name y py] [] pos) (.prim (.isinst [t]) [pe]):=λ P f d ρ Z s A Q X H S w=>by
 refine wpAny_Call_NameR (ld_glob hg H G S λ v hv=>?_)
 cases hv
 have hn2:[e,Expr.Name y py].all notStar=true:=by rw [all_cons,hn];rfl
 refine Calls.callWith_builtin (star_any hn2) (args_of hn2 ?_)
 rw [backTo_cons hn,backTo_cons rfl]
 refine Calls.spliced_cons (fitv (he H S w) λ v s₁ av Z1 hv S₁ q=>Calls.spliced_cons (ld_glob hg H G' S₁ λ v' hv'=>?_))
 cases hv'
 exact Calls.spliced_nil (okE q λ k hk q=>isi_one ht S₁ hv hk λ tk=>rv is_bool (S₁.tok _) q)
theorem run_fn{n:String}{a:Addr}{avs:List AV}{vs:List Value}{d':Nat}{A':Around}(HX:KOk C K)(ha:C.fnAt n=some a)(H:Fr tc f A d)(hA:ABk A' f.hx f.fs d')(S:St C P f ρ Z s)(hv:All2 AV.is avs vs)(q:K.fn tc.hd d' n avs Z Q X):
  wpAny (model C.prog C.w) A' (call (.ref a) vs) (RV C P f ρ Q) (RX C P f ρ X) s:=by
 refine wpAny_call (codeAny_mono (HX.fn ha q H.hd S.toB hv hA (let ⟨e,r,h,_⟩:=H.top;⟨e,r,h⟩)) ?_)
 intro r s' h
 match r with
 | .ok (.ret v)=>obtain ⟨av,Z',hv,B,q⟩:=h;exact ⟨av,Z',hv,S.ofB B,q⟩
 | .ok .next=>exact h
 | .ok .brk=>exact h
 | .ok .cont=>exact h
 | .error e=>obtain ⟨a,Z',c,dd,rfl,B,hc,q⟩:=h;exact ⟨a,Z',c,dd,rfl,S.ofB B,hc,q⟩
theorem Fr.abk{d':Nat}(H:Fr tc f A (d'+1)):ABk A f.hx f.fs d':=⟨H.depth,by have:=H.units;exact o191 this,H.hand,H.frames⟩
theorem se_fn{x:Str}{p pos:Pos}{n:String}{es:List Expr}{pes:List PE}{g:List (Str×GK)}(HX:Env' C K g)(hg:tc.g=g)(G:Gl tc x (.fn n))(hes:SEs C K tc es pes):SE C K tc (.Call (.Name x p) es [] pos) (.fn n pes):=λ P f d ρ Z s A Q X H S w=>by
 refine wpAny_Call_NameR (ld_glob (hg▸HX.g) H G S λ v hv=>?_)
 obtain ⟨a,ha,rfl⟩:=hv
 obtain ⟨o,fd,e1,e2⟩:=HX.f n a ha
 refine Calls.callWith_function (o:=o) (fd:=fd) (args_e hes H S w λ vs s₁ avs Z1 hvs S₁ q=>?_)
 obtain ⟨hd,q⟩:=q
 obtain ⟨d',rfl⟩:=Nat.exists_eq_succ_of_ne_zero hd
 exact ⟨⟨S₁.base _ _ e1,e2⟩,run_fn HX.k ha H H.abk S₁ hvs q⟩
structure BmOk(C:Cx)(op:BOp)(n:Str)(id:String):Prop where
 pl:PlainAttrs op.self
 sl:Slot op.self n id
 ty:typeOf (.builtin id)=pure (.type "method_descriptor")
 ok:CallOk C false op.p (.builtin id)
theorem bm_append:BmOk C .append "append" "list.append":=⟨F.plainAttrs_list,F.slot_list_append,F.type_list_append,call_append⟩
theorem bm_get:BmOk C .get "get" "dict.get":=⟨F.plainAttrs_dict,F.slot_dict_get,F.type_dict_get,call_get⟩
theorem bm_join:BmOk C .join "join" "str.join":=⟨F.plainAttrs_str,F.slot_str_join,F.type_str_join,call_join⟩
theorem kind_type{x:AV}{u:Value}{T:String}(S:St C P f ρ Z s)(hv:x.is u)(hk:kindIs Z x=some T):s.TypeIs u T/\∀ a,u=.ref a->∃ o,s.heap.get? a=some o/\o.dict=none:=
 kindE (G:=λ T u=>s.TypeIs u T/\∀ a,u=.ref a->∃ o,s.heap.get? a=some o/\o.dict=none) S hv hk ⟨rfl,nofun⟩ (λ V=>⟨rfl,nofun⟩) (λ V V=>⟨typeIs_int _ _ _,nofun⟩) (λ V V=>⟨typeIs_str _ _ _,nofun⟩)
  (λ V o g c d=>⟨⟨o,g,c⟩,λ V e=>by cases e;exact ⟨o,g,d⟩⟩) (λ V o g c d=>⟨⟨o,g,c⟩,λ V e=>by cases e;exact ⟨o,g,d⟩⟩) λ V o g c d=>⟨⟨o,g,c⟩,λ V e=>by cases e;exact ⟨o,g,d⟩⟩
noncomputable def callArg:Expr->Bool
 | .Call _ (_::_) _ _=>true
 | _=>false
noncomputable def baseOk(e:Expr):Bool:=e.ctorIdx != 16||callArg e
theorem base_of{o:Expr}{name:Str}{env:Env}{w:Sem Value}(h:baseOk o=true):attributeBase o name env w=w:=by
 cases o with
 | Call f as ks pos=>
  cases as with
  | nil=>exact absurd h Bool.false_ne_true
  | cons a as=>cases f <;> rfl
 | _=>rfl
theorem se_bm{o:Expr}{name:Str}{apos pos:Pos}{op:BOp}{id:String}{po:PE}{es:List Expr}{pes:List PE}(hb:BmOk C op name id)(hbase:baseOk o=true)(hline:(apos.endLine==pos.line)=true)
  (hl:es.length<30) (ho:SE C K tc o po) (hes:SEs C K tc es pes):SE C K tc (.Call (.Attribute o name apos) es [] pos) (.bm op po pes):=λ P f d ρ Z s A Q X H S w=>by
 refine wpAny_Call_method_late (base_of hbase) ?_ hline rfl (fitv (ho H S w) λ v s₁ av Z1 hv S₁ q=>?_)
 . rw [star_all (star_any hes.1)];(show decide (es.length<30)=true);exact decide_eq_true hl
 . obtain ⟨k1,k2⟩:=kind_type S₁ hv q.1
   exact ⟨op.self,id,hb.pl,hb.sl,hb.ty,k1,k2,Calls.callWith_builtin (star_any hes.1) (args_e hes H S₁ q.2 λ V V V V hvs S₂ q=>hb.ok S₂ nofun q (.cons hv hvs))⟩
theorem se_list{es:List Expr}{pes:List PE}{pos:Pos}(hes:SEs C K tc es pes):SE C K tc (.List es pos) (.prim .mkList pes):=λ V V V V V V V V V H S w=>
 wpAny_List_spliced (fit (hes.2 pos H S w) λ _ _ ⟨_,_,hvs,S₁,q⟩=>⟨by rw [<-hvs.length];exact Nat.le_trans (Nat.le_of_lt q.1) (by decide),rv_list S₁ q.2 hvs⟩)
theorem se_tup{es:List Expr}{pes:List PE}{pos:Pos}{k}(hes:SEs C K tc es pes):SE C K tc (.Tuple es k pos) (.prim .mkTup pes):=λ V V V V V V V V V H S w=>
 wpAny_Tuple_spliced (fit (hes.2 pos H S w) λ _ _ ⟨_,_,hvs,S₁,q⟩=>⟨by rw [<-hvs.length];exact Nat.le_trans (Nat.le_of_lt q.1) (by decide),rv_tup S₁ q.2 hvs⟩)
theorem se_dict0{pos:Pos}(hC:C.Ok):SE C K tc (.Dict [] [] pos) (.prim .mkDict0 []):=λ V V V V V V V V V V S w=>
 wpAny_Dict_empty (rv_new S w.2 (λ V V=>⟨⟨[],.nil,λ V V e=>⟨_,#[],0,e,⟨rfl,rfl,rfl⟩,rfl,(λ V h=>absurd h (by simp)),.nil,.nil⟩⟩,S.notSys hC (Nat.le_refl _)⟩) rfl)
noncomputable def noSlice(e:Expr):Bool:=e.ctorIdx != 26
theorem se_item{x y:Expr}{pos:Pos}{px py:PE}(hx:SE C K tc x px)(hy:SE C K tc y py)(hs:noSlice y=true):SE C K tc (.Subscript x y pos) (.prim .item [px,py]):=λ P f d ρ Z s A Q X H S w=>by
 rw [eval_Subscript]
 refine wpAny_bind (fitv (hx H S w) λ v s₁ av Z1 hv S₁ q=>wpAny_bind (wpAny_holding (fitv (hy H S₁ q) λ v' s₂ av' Z2 hv' S₂ q=>wpAny_bind (wpAny_standAt ?_))))
 obtain ⟨⟨T,id,t1,t2⟩,g⟩:=ps_item (x:=av) (y:=av') S₂ q hv hv'
 exact tail_any (value:=x) (slice:=y) (ops:=[v,v']) t1 t2 g (by unfold subscripted;cases y <;> first | rfl | exact absurd hs Bool.false_ne_true)
noncomputable def SP(C:Cx)(K:Kx)(tc:Tc):Option Expr->PE->Prop
 | none,pe=>pe=.lit .none
 | some e,pe=>SE C K tc e pe
theorem sp_of{e:Option Expr}{pe:PE}(h:SP C K tc e pe)(H:Fr tc f A d)(S:St C P f ρ Z s)(w:pe K tc.hd d ρ Z Q X):wpAny (model C.prog C.w) A (evalPart e f.env) (RV C P f ρ Q) (RX C P f ρ X) s:=by
 cases e with
 | none=>cases h;exact wpAny_pure (rv (av:=.none) rfl S w)
 | some e=>exact h H S w
theorem se_slice{x:Expr}{l h t:Option Expr}{p pos:Pos}{px pl ph pt:PE}(hx:SE C K tc x px)(hl:SP C K tc l pl)(hh:SP C K tc h ph)(htt:SP C K tc t pt):
  SE C K tc (.Subscript x (.Slice l h t p) pos) (.prim .slice [px,pl,ph,pt]):=λ P f d ρ Z s A Q X H S w=>by
 rw [eval_Subscript]
 refine wpAny_bind (fitv (hx H S w) λ v s₁ av Z1 hv S₁ q=>wpAny_bind (wpAny_holding (wpAny_Slice (fitv (sp_of hl H S₁ q) λ v1 s₂ a1 Z2 h1 S₂ q=>fitv (sp_of hh H S₂ q) λ v2 s₃ a2 Z3 h2 S3 q=>fitv (sp_of htt H S3 q) λ v3 s₄ a3 Z4 h3 S4 q=>wpAny_bind (wpAny_standAt ?_)))))
 have S5:St C P f ρ Z4 { s₄ with heap:=s₄.heap.push { cls:=.type "slice",data:=.fields #[v1,v2,v3] } }:=S4.keeps λ b o e=>Heap.get?_push_of_some _ e
 obtain ⟨⟨T,id,t1,t2⟩,g⟩:=ps_slice (x:=av) (l:=a1) (h:=a2) (t:=a3) S5 q hv h1 h2 h3 (Heap.IsSliceOf.new ..)
 exact tail_any (value:=x) (slice:=.Slice l h t p) (ops:=match t with | none=>[_,v] | some _=>[v,_]) t1 t2 g (by unfold subscripted;cases t <;> rfl)
end
end U
namespace U
open PySem PyProof.Rows
section
variable {C:Cx}{K:Kx}{P:Kept}{f:Fx}{d:Nat}{ρ:Loc}{Z:Hp}{s s':Shared}{A:Around}{tc:Tc}{a:Addr}{c:String}{dd:Option Addr}
theorem tb_none(S:St C P f ρ Z s){b:Addr}{o:Obj}(h:s.heap.get? b=some o)(t:IsTb o):Z b=none:=by
 cases q:Z b with
 | none=>rfl
 | some ao=>exact absurd t ((S.rel b ao q).noTb h)
theorem St.offTb(S:St C P f ρ Z s){b:Addr}{o:Obj}(h:s.heap.get? b=some o)(t:IsTb o)(hb:C.base.get? b=none):Off C P f b where
 base:=hb
 P:=λ z q p=>by
  obtain ⟨⟨o',g,H⟩,V⟩:=S.hid z b q p
  rw [same h g] at t
  exact H.noTb ⟨H.cls▸t.1,H.data▸t.2⟩
 own:=λ hO=>by obtain ⟨m,cm,L⟩:=S.locs;exact L.noTb hO h t
 fr:=λ e he q=>by
  obtain ⟨V,L,o',h1,h2,h3,V⟩:=S.frs e he
  rw [<-same q h1,h] at h2
  exact isD_noTb h3 (Option.some.inj h2▸t)
theorem St.tb(S:St C P f ρ Z s)(T:Addr->Prop)(ha:Z a=some (.exc c dd))(hT:∀ b,T b->∃ o,s.heap.get? b=some o/\IsTb o/\C.base.get? b=none)(hT':∀ b,T b->∃ o,s'.heap.get? b=some o/\IsTb o)
  (keep:∀ b o,b≠a->¬T b->s.heap.get? b=some o->∃ o',s'.heap.get? b=some o'/\Kp f.fs b o o')
  (hi:Is C s'.heap a (.exc c dd)) (hg:s'.gens=s.gens:=by rfl) (ho:s'.os=s.os:=by rfl):St C P f ρ Z s':=by
 have off:=S.off ha rfl
 refine S.step (λ b=>b=a\/T b) (λ b h=>?_) (λ b o h e=>keep b o (λ q=>h (.inl q)) (λ q=>h (.inr q)) e) (λ b o h e t=>?_) (λ b o e=>?_) (λ V V V e=>e) (λ V c d V e=>⟨c,d,e⟩) hg ho
 . rcases h with rfl | h
   . exact off
   . obtain ⟨o,h1,h2,h3⟩:=hT b h;exact S.offTb h1 h2 h3
 . rcases h with rfl | h
   . exact absurd t ((S.rel b _ ha).noTb e)
   . exact hT' b h
 . by_cases hb:b=a
   . subst hb;rw [same e ha];exact .inr ⟨hi,off⟩
   . refine .inl ⟨λ h=>h.elim hb λ h=>?_,e⟩
     obtain ⟨o',h1,h2,V⟩:=hT b h
     exact clash e (tb_none S h1 h2)
inductive Tb(h:Heap)(a:Addr):Prop
 | mk (oe vs T) (h1:h.get? a=some oe) (h2:oe.data=.fields vs) (h3:vs[1]?=some (.ref T)):Tb h a
theorem funFrames(S:St C P f ρ Z s):∀ l:List Env,(∀ e∈l,e∈f.fs)->s.heap.FunFrames C.base l
 | [],_=>trivial
 | e::r,h=>by
  obtain ⟨h1,L,o,h2,h3,⟨es,n,h4⟩,h5,h6⟩:=S.frs e (h e (.head _))
  exact ⟨h1,⟨L,o,h2,h5,h3,λ vs q=>by rw [h4] at q;cases q⟩,funFrames S r λ e he=>h e (.tail _ he)⟩
theorem tb_set{o:Obj}{x:Value}(t:IsTb o):IsTb (o.mapFields (·.setIfInBounds 3 x)):=by
 obtain ⟨h1,ts,h2,h3⟩:=t
 exact ⟨(Obj.cls_mapFields _ _).trans h1,_,Obj.data_mapFields h2 _,by rw [Array.size_setIfInBounds];exact h3⟩
theorem tb_freed{o:Obj}(t:IsTb o):o.isFreed=false:=let ⟨_,_,h,_⟩:=t;Obj.isFreed_of_fields h
theorem St.entry(S:St C P f ρ Z s){T:Addr}{oe o:Obj}{vs:Array Value}{x:Value}(ha:Z a=some (.exc c dd))(he:s.heap.get? a=some oe)(hd:oe.data=.fields vs)(h1:vs[1]?=some (.ref T))
  (hT:s.heap.get? T=some o) (t:IsTb o) (hb:C.base.get? T=none):St C P f ρ Z { s with heap:=s.heap.update T (Obj.mapFields (·.setIfInBounds 3 x)) }/\T≠a:=by
 have hTa:T≠a:=λ q=>clash ha (q▸tb_none S hT t)
 have hself:=Heap.get?_update_self (Obj.mapFields (·.setIfInBounds 3 x)) hT (tb_freed (tb_set t))
 refine ⟨S.tb (λ b=>b=T) ha (λ b h=>by rw [h];exact ⟨o,hT,t,hb⟩) (λ b h=>by rw [h];exact ⟨_,hself,tb_set t⟩) (λ b o V hne e=>⟨o,(Heap.get?_update_other _ _ (Ne.symm hne)).trans e,.inl rfl⟩) ?_,hTa⟩
 obtain ⟨ob,e0,ca,vs',e1,e3,e4,e5,e6,e7,V⟩:=S.rel a _ ha
 cases same he e0
 rw [hd] at e5;cases e5
 exact ⟨oe,(Heap.get?_update_other _ _ hTa).trans he,ca,vs,e1,e3,e4,hd,e6,e7,.inr ⟨T,_,h1,hself,tb_set t,hb⟩⟩
theorem note_of{Q:Unit->Shared->Prop}{E:Value->Shared->Prop}(H:Fr tc f A d)(S:St C P f ρ Z s)(ha:Z a=some (.exc c dd))
  (h:∀ s',St C P f ρ Z s'->Tb s'.heap a->Q () s'):wpAny (model C.prog C.w) A (noteFrame (.ref a) f.env) Q E s:=by
 obtain ⟨e,r,t1,t2⟩:=H.top
 obtain ⟨V,L,V,hL,V⟩:=S.frs e (by rw [t1];exact .head _)
 rw [t2] at hL
 have new:∀ {s:Shared} {head:Value} {hadNext:Bool},St C P f ρ Z s ->
   wpAny (model C.prog C.w) A (do let fr <-PySem.frameOf f.env;let pl <-entryPlaceOf L hadNext;let b <-EntryCells.newEntry head fr .none (rawInt L) .none pl;setField (.ref a) 1 b) Q E s:=by
  intro s head hadNext S
  have hfo:PySem.frameOf f.env=PySem.frameOf e:=by unfold PySem.frameOf;rw [t2]
  rw [hfo]
  refine wpAny_bind (wpAny_frameOf_fun (base:=C.base) (L:=L) (outer:=r) (by rw [H.frames,t1]) (funFrames S _ λ x hx=>by rw [t1];exact hx) (by rw [t2,hL]) λ h₁ hs₁=>?_)
  refine wpAny_bind (wpAny_entryPlaceOf λ pl hpl=>?_)
  unfold EntryCells.newEntry newFields
  refine wpAny_bind (wpAny_newObj_type ?_ (hpl.sizeOk5 _ _ _ _ _))
  generalize hob:(Obj.mk (.type "traceback") none (.fields ([head,.ref L,.none,rawInt L,.none]++(if pl.isEmpty then List.replicate 6 Value.none else pl)).toArray) #[])=ob
  have tob:IsTb ob:=by
   subst hob
   refine ⟨rfl,_,rfl,?_⟩
   simp only [size_toArray,length_append,length_cons,length_nil]
   rcases hpl with rfl | ⟨_,_,_,_,_,_,_,rfl⟩ <;> simp
  have kp:∀ b o,s.heap.get? b=some o->∃ o',h₁.get? b=some o'/\Kp f.fs b o o':=λ b o g=>by
   by_cases hb:b∈(e::r).filterMap (·.frame)
   . obtain ⟨en,he,hf⟩:=List.mem_filterMap.mp hb
     rw [<-t1] at he
     obtain ⟨sl,g'⟩:=hs₁.2.2 b o g
     obtain ⟨V,L',o',f1,f2,f3,V⟩:=S.frs en he
     rw [<-same hf f1,g] at f2
     exact ⟨_,g',.inr ⟨⟨en,he,hf⟩,Option.some.inj f2▸f3,sl,rfl⟩⟩
   . exact ⟨o,(hs₁.2.1 b hb).trans g,.inl rfl⟩
  obtain ⟨oe,e2,ca,vs,e1,e3,e4,e5,e6,e7,V⟩:=S.rel a _ ha
  have he₁:h₁.get? a=some oe:=by
   obtain ⟨o',g,k⟩:=kp a oe e2
   rcases k with rfl | ⟨k,V⟩
   . exact g
   . exact clash ha (S.frNone k).1
  have he₂:=Heap.get?_push_of_some (h:=h₁) ob he₁
  have hsz:1<vs.size:=Nat.lt_trans (by decide) e6
  have hd₃:=Obj.data_mapFields e5 (·.setIfInBounds 1 (Value.ref h₁.objs.size))
  have he₃:=Heap.get?_update_self (Obj.mapFields (·.setIfInBounds 1 (Value.ref h₁.objs.size))) he₂ (Obj.isFreed_of_fields hd₃)
  have hTa:a≠h₁.objs.size:=Nat.ne_of_lt (Heap.lt_size he₁)
  have hT3:=(Heap.get?_update_other (h₁.push ob) (Obj.mapFields (·.setIfInBounds 1 (Value.ref h₁.objs.size))) hTa).trans (Heap.get?_push_size h₁ (tb_freed tob))
  have h1:(vs.setIfInBounds 1 (Value.ref h₁.objs.size))[1]?=some (.ref h₁.objs.size):=by rw [Array.getElem?_setIfInBounds_self_of_lt hsz]
  refine wpAny_setField he₂ e5 hsz (h _ (S.tb (a:=a) (λ V=>False) ha (λ V h=>h.elim) (λ V h=>h.elim) (λ b o hb V g=>?_) ⟨_,he₃,ca,_,e1,(Obj.cls_mapFields _ _).trans e3,?_,hd₃,by rw [Array.size_setIfInBounds];exact e6,?_,.inr ⟨h₁.objs.size,ob,h1,hT3,tob,?_⟩⟩) ⟨_,_,_,he₃,hd₃,h1⟩)
  . obtain ⟨o',g',k⟩:=kp b o g
    exact ⟨o',(Heap.get?_update_other _ _ (Ne.symm hb)).trans (Heap.get?_push_of_some _ g'),k⟩
  . rw [<-e4];unfold Obj.mapFields;split <;> rfl
  . rw [Array.getElem?_setIfInBounds_ne (by decide)];exact e7
  . cases q:C.base.get? h₁.objs.size with
    | none=>rfl
    | some o=>
     obtain ⟨sl,q''⟩:=hs₁.2.2 _ _ (S.base _ _ q)
     exact absurd (Heap.lt_size q'') (Nat.lt_irrefl _)
 obtain ⟨oe,e2,ca,vs,e1,e3,e4,e5,e6,e7,e8⟩:=S.rel a _ ha
 unfold noteFrame
 simp only [hL]
 rcases e8 with e8 | ⟨T,o,t1,t2,t3,t4⟩
 . refine wpAny_bind (wpAny_field e2 e5 e8 ?_)
   rw [if_neg (by decide)]
   exact new S
 . refine wpAny_bind (wpAny_field e2 e5 t1 ?_)
   rw [if_pos (show (Value.ref T != Value.none)=true from rfl)]
   obtain ⟨V,ts,d1,d2⟩:=id t3
   refine wpAny_bind (wpAny_field t2 d1 (Array.getElem?_eq_getElem (Nat.lt_trans (by decide) d2)) ?_)
   split
   . exact wpAny_pure (h _ S ⟨oe,vs,T,e2,e5,t1⟩)
   . exact wpAny_bind (wpAny_setField t2 d1 (Nat.lt_trans (by decide) d2) (new (S.entry ha e2 e5 t1 t2 t3 t4).1))
theorem flight_of{fr:Option Addr}{Q:Unit->Shared->Prop}{E:Value->Shared->Prop}(S:St C P f ρ Z s)(ha:Z a=some (.exc c dd))
  (h:∀ s',St C P f ρ Z s'->Q () s'):wpAny (model C.prog C.w) A (setFlight (.ref a) fr) Q E s:=by
 obtain ⟨oe,e2,ca,vs,e1,e3,e4,e5,e6,e7,e8⟩:=S.rel a _ ha
 unfold setFlight
 rcases e8 with e8 | ⟨T,o,t1,t2,t3,t4⟩
 . refine wpAny_bind (wpAny_field e2 e5 e8 ?_)
   rw [if_neg (by decide)]
   exact wpAny_pure (h _ S)
 . refine wpAny_bind (wpAny_field e2 e5 t1 ?_)
   rw [if_pos (show (Value.ref T != Value.none)=true from rfl)]
   obtain ⟨V,ts,d1,d2⟩:=id t3
   exact wpAny_setField t2 d1 (Nat.lt_trans (by decide) d2) (h _ (S.entry ha e2 e5 t1 t2 t3 t4).1)
inductive RXt(C:Cx)(P:Kept)(f:Fx)(ρ:Loc)(X:XPost)(x:Value)(s':Shared):Prop
 | mk (a Z' c d) (h1:x=.ref a) (h2:St C P f ρ Z' s') (h3:Z' a=some (.exc c d)) (h4:Tb s'.heap a) (h5:X a Z'):RXt C P f ρ X x s'
theorem RXt.map{C:Cx}{P P':Kept}{f f':Fx}{ρ ρ':Loc}{X:XPost}{x:Value}{s:Shared}(h:RXt C P f ρ X x s)(k:∀ {Z},St C P f ρ Z s->St C P' f' ρ' Z s):RXt C P' f' ρ' X x s:=let ⟨a,Z,c,d,h1,h2,h3,h4,h5⟩:=h;⟨a,Z,c,d,h1,k h2,h3,h4,h5⟩
theorem noted_of{X:XPost}{e:Value}{E:Value->Shared->Prop}(H:Fr tc f A d)(h:RX C P f ρ X e s)(hE:∀ s',RXt C P f ρ X e s'->E e s'):notedBy (model C.prog C.w) A f.env E e s:=by
 obtain ⟨a,Z,c,dd,rfl,S,ha,q⟩:=h
 exact note_of H S ha λ s' S' t=>hE s' ⟨a,Z,c,dd,rfl,S',ha,t,q⟩
theorem came_of{X:XPost}{e:Value}{E:Value->Shared->Prop}{env:Env}(h:RXt C P f ρ X e s)(hE:∀ s',RX C P f ρ X e s'->E e s'):cameBackBy (model C.prog C.w) A env E e s:=by
 obtain ⟨a,Z,c,dd,rfl,S,ha,⟨oe,vs,T,t1,t2,t3⟩,q⟩:=h
 unfold cameBackBy
 refine wpAny_bind (wpAny_field t1 t2 t3 ?_)
 rw [if_neg (show ¬((Value.ref T==Value.none)=true) from Bool.false_ne_true)]
 exact flight_of S ha λ s' S'=>hE s' ⟨a,Z,c,dd,rfl,S',ha,q⟩
end
end U
namespace U
open PySem PyProof.Rows
section
variable {C:Cx}{K:Kx}{P:Kept}{f:Fx}{d:Nat}{ρ ρ':Loc}{Z:Hp}{s s':Shared}{A:Around}{tc:Tc}{I a:Addr}{vs:List AV}
noncomputable def ItIs(h:Heap):It->Value->Prop
 | .one v,cv=>v.is cv
 | .two a b,cv=>∃ t ca cb n,cv=.ref t/\h.get? t=some ⟨.type "tuple",none,.seq #[ca,cb] n,#[]⟩/\a.is ca/\b.is cb
noncomputable def ownT(t:String):Bool:=["enumerate","zip","dict_itemiterator","dict_reverseitemiterator","odict_iterator","itertools.zip_longest","itertools.pairwise"].contains t
inductive WO(I:Addr)(W:Heap->Prop)(h:Heap):Prop
 | mk (o:Obj) (h1:h.get? I=some o) (h2:¬IsTb o) (h3:¬IsD o) (h4:∀ h',h'.get? I=some o->W h')
structure Wkr(C:Cx)(A:Around)(I:Addr)(its:List It)(G:Heap->Prop)(W:Nat->Heap->Prop):Prop where
 cls:∀ i h,W i h->∃ o t,h.get? I=some o/\o.cls=.type t/\ownT t=false
 obj:∀ i h,W i h->WO I (W i) h
 item:∀ i it (s:Shared) (Q:Option Value->Shared->Prop) (E:Value->Shared->Prop),its[i]?=some it->W i s.heap->G s.heap ->
  (∀ v h' tk,ItIs h' it v->W (i+1) h'->(∀ b o,b≠I->s.heap.get? b=some o->h'.get? b=some o)->Q (some v) { s with heap:=h',toks:=tk })->wpAny (model C.prog C.w) A (pyNext (.ref I)) Q E s
 done:∀ (s:Shared) (Q:Option Value->Shared->Prop) (E:Value->Shared->Prop),W its.length s.heap->G s.heap ->
  (∀ h' tk,(∀ b o,b≠I->s.heap.get? b=some o->h'.get? b=some o)->Q none { s with heap:=h',toks:=tk })->wpAny (model C.prog C.w) A (pyNext (.ref I)) Q E s
 self:∀ i (s:Shared) (Q:Value->Shared->Prop) (E:Value->Shared->Prop),W i s.heap->Q (.ref I) s->wpAny (model C.prog C.w) A (pyIter (.ref I)) Q E s
theorem obj_of{o:Obj}{t:String}{vs:Array Value}(h:o.cls=.type t)(ht:t ≠ "traceback")(hd:o.data=.fields vs):¬IsTb o/\¬IsD o:=
 ⟨λ q=>ht (by have:=h.symm.trans q.1;injection this),λ ⟨_,_,q⟩=>by rw [hd] at q;cases q⟩
theorem map_get{α β:Type}{g:α->β}{xs:List α}{i:Nat}{y:β}(h:(xs.map g)[i]?=some y):∃ x,xs[i]?=some x/\g x=y:=by
 rw [List.getElem?_map] at h;exact Option.map_eq_some_iff.mp h
noncomputable def SeqAt'(T:String)(a:Addr)(vs:List AV)(h:Heap):Prop:=∃ cs n,h.get? a=some (seqObj T cs n)/\All2 AV.is vs cs.toList
theorem seq_none{cs:Array Value}(r:All2 AV.is vs cs.toList):cs[(vs.map It.one).length]?=none:=by
 rw [length_map,r.length,Array.length_toList];exact Array.getElem?_eq_none (Nat.le_refl _)
theorem wkr_list(hh:A.handled=none):Wkr C A I (vs.map .one) (SeqAt' "list" a vs) (λ i h=>h.IsListIter I a i) where
 self:=λ V V V V hw q=>wpAny_pyIter_listiter hw q
 cls:=λ i h ⟨o,h1,h2,_⟩=>⟨o,_,h1,h2,by decide⟩
 obj:=λ i h ⟨o,h1,h2,h3⟩=>let q:=obj_of h2 (by decide) h3;⟨o,h1,q.1,q.2,λ h' e=>⟨o,e,h2,h3⟩⟩
 item:=λ i it s Q E hi hw ⟨cs,n,g1,g2⟩ hQ=>by
  obtain ⟨v,q,rfl⟩:=map_get hi
  obtain ⟨cv,e,r⟩:=g2.get q
  exact wpAny_pyNext_list_item hw ⟨_,g1,rfl,n,rfl⟩ (x:=cv) (by rw [<-Array.getElem?_toList];exact e) λ h' w' sb=>hQ cv h' s.toks r w' λ b o hb e=>(sb.2 b hb).trans e
 done:=λ s Q E hw ⟨cs,n,g1,g2⟩ hQ=>wpAny_pyNext_list_end hh hw ⟨_,g1,rfl,n,rfl⟩ (seq_none g2) λ h' eb=>hQ h' s.toks λ b o hb e=>eb b o hb e
theorem wkr_tup(hh:A.handled=none):Wkr C A I (vs.map .one) (SeqAt' "tuple" a vs) (λ i h=>h.IsTupleIter I a i) where
 self:=λ V V V V hw q=>wpAny_pyIter_tupleiter hw q
 cls:=λ i h ⟨o,h1,h2,_⟩=>⟨o,_,h1,h2,by decide⟩
 obj:=λ i h ⟨o,h1,h2,h3⟩=>let q:=obj_of h2 (by decide) h3;⟨o,h1,q.1,q.2,λ h' e=>⟨o,e,h2,h3⟩⟩
 item:=λ i it s Q E hi hw ⟨cs,n,g1,g2⟩ hQ=>by
  obtain ⟨v,q,rfl⟩:=map_get hi
  obtain ⟨cv,e,r⟩:=g2.get q
  exact wpAny_pyNext_tuple_item hw ⟨_,g1,rfl,n,rfl⟩ (x:=cv) (by rw [<-Array.getElem?_toList];exact e) λ h' w' sb=>hQ cv h' s.toks r w' λ b o hb e=>(sb.2 b hb).trans e
 done:=λ s Q E hw ⟨cs,n,g1,g2⟩ hQ=>wpAny_pyNext_tuple_end hh hw ⟨_,g1,rfl,n,rfl⟩ (seq_none g2) λ h' eb=>hQ h' s.toks λ b o hb e=>eb b o hb e
theorem toS_get(x:Txt)(j:Nat):(toS x).cps[j]?=x[j]?:=List.getElem?_toArray
theorem wkr_str{x:Txt}{t:Tok}(hh:A.handled=none):Wkr C A I (x.map λ c=>.one (.str [c])) (λ V=>True) (λ i h=>h.IsStrIter I "str_ascii_iterator" (toS x) t i) where
 self:=λ V V V V hw q=>wpAny_pyIter_striter_ascii hw q
 cls:=λ i h ⟨o,h1,h2,_⟩=>⟨o,_,h1,h2,by decide⟩
 obj:=λ i h ⟨o,h1,h2,h3⟩=>let q:=obj_of h2 (by decide) h3;⟨o,h1,q.1,q.2,λ h' e=>⟨o,e,h2,h3⟩⟩
 item:=λ i it s Q E hi hw V hQ=>by
  obtain ⟨c,q,rfl⟩:=map_get hi
  exact wpAny_pyNext_ascii_item hw (c:=c) (by rw [toS_get];exact q) λ h' w' sb=>hQ _ h' _ ⟨_,rfl⟩ w' λ b o hb e=>(sb.2 b hb).trans e
 done:=λ s Q E hw V hQ=>wpAny_pyNext_ascii_end hh hw (by rw [toS_get,length_map];exact List.getElem?_eq_none (Nat.le_refl _)) λ h' eb=>hQ h' s.toks λ b o hb e=>eb b o hb e
theorem wkr_range{lo hi:Int}(hh:A.handled=none):Wkr C A I (rangeOf lo hi) (λ V=>True) (λ i h=>IsRangeIter h I (lo+i) ((hi-lo).toNat-(i:Int)) 1) where
 self:=λ V V V V hw q=>wpAny_pyIter_rangeiter hw q
 cls:=λ i h e=>⟨_,_,e,rfl,by decide⟩
 obj:=λ i h e=>let q:=obj_of (t:="range_iterator") rfl (by decide) rfl;⟨_,e,q.1,q.2,λ h' e'=>e'⟩
 item:=λ i it s Q E hi' hw V hQ=>by
  obtain ⟨k,q,rfl⟩:=map_get hi'
  obtain ⟨hl,hk⟩:=List.getElem?_eq_some_iff.mp q
  rw [List.getElem_range] at hk;subst hk
  rw [length_range] at hl
  refine wpAny_pyNext_range_item hw (by exact o192 hl) λ h' w' sb=>hQ _ h' _ ⟨_,rfl⟩ ?_ λ b o hb e=>(sb.2 b hb).trans e
  have e1:lo+(i:Int)+1=lo+((i+1:Nat):Int):=Int.add_assoc _ _ _
  have e2:((hi-lo).toNat:Int)-(i:Int)-1=((hi-lo).toNat:Int)-((i+1:Nat):Int):=Int.sub_sub _ _ _
  rw [e1,e2] at w';exact w'
 done:=λ s Q E hw V hQ=>by
  rw [show (rangeOf lo hi).length=(hi-lo).toNat by rw [rangeOf,length_map,length_range]] at hw
  exact wpAny_pyNext_range_end hh hw (by exact o193) λ h' eb=>hQ h' s.toks λ b o hb e=>eb b o hb e
theorem St.relocs(S:St C P f ρ Z s){b0:Addr}(hb:Own f.env b0)(keep:∀ b o,b≠b0->s.heap.get? b=some o->s'.heap.get? b=some o)
  (hfr:∀ e∈f.fs,e.frame=some b0->∃ o,s'.heap.get? b0=some o/\IsD o) (hl:∃ m cm,Locs f.env f.names ρ' s'.heap m cm) (hg:s'.gens=s.gens:=by rfl) (ho:s'.os=s.os:=by rfl):St C P f ρ' Z s' where
 toStB:=S.toStB.step (·=b0) (λ b h=>h▸(S.own _ hb).2) (λ e he L h t=>t▸hfr e he (t▸h)) (λ b o h e=>⟨o,keep b o h e,.inl rfl⟩) (λ b o h e t=>by
  obtain ⟨m,cm,L⟩:=S.locs
  rw [show b=b0 from h] at e
  exact absurd t (L.noTb hb e)) (λ b o e=>.inl ⟨neN e (S.own _ hb).1,e⟩) (λ V V V e=>e) (λ V c d V e=>⟨c,d,e⟩) hg ho
 locs:=hl
 own:=S.own
theorem Locs.ncl{env:Env}{names:List Str}{h:Heap}{m cm:Str->Option Value}(L:Locs env names ρ h m cm){y:Str}{c:Addr}(hc:env.cells.lookup y=some c):c≠env.locals:=λ q=>by
 obtain ⟨o,e1,e2⟩:=L.cell y c hc
 obtain ⟨o',es,ep,h1,h2,V⟩:=L.ns
 rw [q,h1] at e1;cases e1;rw [e2] at h2;cases h2
theorem set_cases{ρ:Loc}{i j:Nat}{v w:AV}(h:(ρ.set i (some v))[j]?=some (some w)):(j=i/\w=v)\/(j≠i/\ρ[j]?=some (some w)):=by
 by_cases hj:j=i
 . subst hj
   rw [List.getElem?_set_self'] at h
   cases q:ρ[j]? with
   | none=>rw [q] at h;cases h
   | some _=>rw [q] at h;cases h;exact .inl ⟨rfl,rfl⟩
 . rw [List.getElem?_set_ne (Ne.symm hj)] at h;exact .inr ⟨hj,h⟩
structure Tn(tc:Tc)(x:Str)(i:Nat):Prop where
 here:tc.names[i]?=some x
 uniq:∀ j,tc.names[j]?=some x->j=i
 kind:tc.kinds.lookup x=some .local\/tc.kinds.lookup x=some .cell
theorem store_tn{x:Str}{i:Nat}{v:AV}{cv:Value}{Q:Unit->Shared->Prop}{E:Value->Shared->Prop}(H:Fr tc f A d)(hn:Tn tc x i)(S:St C P f ρ Z s)(hv:v.is cv)
  (h:∀ s',St C P f (ρ.set i (some v)) Z s'->Q () s'):wpAny (model C.prog C.w) A (storeName f.env x cv) Q E s:=by
 obtain ⟨m,cm,L⟩:=S.locs
 have hk:f.env.kindOf x=tc.kinds.lookup x:=by rw [Env.kindOf,H.kinds]
 have nm:∀ j y,f.names[j]?=some y->(j=i->y=x)/\(j≠i->y≠x):=λ j y e=>by
  rw [H.names] at e
  exact ⟨λ q=>same (q▸e) hn.here,λ q q'=>q (hn.uniq j (q'▸e))⟩
 rcases hn.kind with hk' | hk' <;> rw [<-hk] at hk'
 . refine wpAny_storeName_local hk' L.ns (λ h' hn' sb=>h _ ?_) (by rw [H.kind];rfl)
   refine S.relocs (.inl rfl) (λ b o hb e=>(sb.2 b hb).trans e) (λ e he hf=>?_) ⟨_,cm,hn',λ y c hc=>?_,λ j y w hy hw=>?_⟩
   . obtain ⟨o,es,ep,h1,h2,V⟩:=hn'
     exact ⟨o,h1,es,ep,h2⟩
   . obtain ⟨o,e1,e2⟩:=L.cell y c hc
     exact ⟨o,(sb.2 c (L.ncl hc)).trans e1,e2⟩
   . rcases set_cases hw with ⟨q,rfl⟩ | ⟨q,hw⟩
     . rw [(nm j y hy).1 q];exact ⟨cv,hv,.inl ⟨hk',by simp⟩⟩
     . obtain ⟨cw,h1,h2⟩:=L.val j y w hy hw
       exact ⟨cw,h1,h2.imp (λ h=>⟨h.1,by simp [(nm j y hy).2 q,h.2]⟩) id⟩
 . obtain ⟨c,hc⟩:=Option.isSome_iff_exists.mp (H.cells x (hk▸hk'))
   refine wpAny_storeName_cell H.kind hk' hc (L.cell x c hc) λ h' hn' sb=>h _ ?_
   refine S.relocs (.inr ⟨x,hc⟩) (λ b o hb e=>(sb.2 b hb).trans e) (λ e he hf=>?_) ⟨m,λ y=>if y=x then some cv else cm y,?_,λ y c' hc'=>?_,λ j y w hy hw=>?_⟩
   . obtain ⟨V,L',o,h1,h2,⟨V,V,h3⟩,V⟩:=S.frs e he
     obtain ⟨o',e1,e2⟩:=L.cell x c hc
     rw [<-same hf h1] at h2
     rw [same h2 e1,e2] at h3;cases h3
   . obtain ⟨o,es,ep,h1,h2,r⟩:=L.ns
     exact ⟨o,es,ep,(sb.2 _ (L.ncl hc).symm).trans h1,h2,r⟩
   . by_cases hy:y=x
     . rw [hy,hc] at hc';cases hc';rw [if_pos hy];exact hn'
     . obtain ⟨o,e1,e2⟩:=L.cell y c' hc'
       exact ⟨o,(sb.2 c' (λ q=>hy (H.apart y x c' hc' (by rw [q];exact hc)))).trans e1,by rw [if_neg hy];exact e2⟩
   . rcases set_cases hw with ⟨q,rfl⟩ | ⟨q,hw⟩
     . rw [(nm j y hy).1 q];exact ⟨cv,hv,.inr ⟨hk',by rw [hc];rfl,if_pos rfl⟩⟩
     . obtain ⟨cw,h1,h2⟩:=L.val j y w hy hw
       exact ⟨cw,h1,h2.imp id (λ h=>⟨h.1,h.2.1,by rw [if_neg ((nm j y hy).2 q)];exact h.2.2⟩)⟩
end
end U
namespace U
open PySem PyProof.Rows
section
variable {C:Cx}{K:Kx}{P:Kept}{f:Fx}{d:Nat}{ρ ρ':Loc}{Z:Hp}{s s':Shared}{A:Around}{tc:Tc}{E:Value->Shared->Prop}{a:Addr}
inductive RFn(C:Cx)(P:Kept)(f:Fx)(Qn:SPost)(s':Shared):Prop
 | mk (ρ' Z') (h1:St C P f ρ' Z' s') (h2:Qn ρ' Z'):RFn C P f Qn s'
inductive RFr(C:Cx)(P:Kept)(f:Fx)(Qr:Post)(v:Value)(s':Shared):Prop
 | mk (ρ' av Z') (h1:av.is v) (h2:St C P f ρ' Z' s') (h3:Qr av Z'):RFr C P f Qr v s'
noncomputable def RF(C:Cx)(P:Kept)(f:Fx)(Qn:SPost)(Qr:Post):Flow->Shared->Prop:=λ fl s'=>match fl with
 | .next=>RFn C P f Qn s'
 | .ret v=>RFr C P f Qr v s'
 | _=>False
noncomputable def RSX(C:Cx)(P:Kept)(f:Fx)(X:SX):Value->Shared->Prop:=λ e s'=>∃ ρ',RX C P f ρ' (X ρ') e s'
noncomputable def SS(C:Cx)(K:Kx)(tc:Tc)(st:Stmt)(ps:PS):Prop:=∀ ⦃P f d ρ Z s A Qn Qr X⦄,Fr tc f A d->St C P f ρ Z s->ps K tc.hd d ρ Z Qn Qr X ->
 wpAny (model C.prog C.w) A (exec st f.env) (RF C P f Qn Qr) (RSX C P f X) s
noncomputable def SSs(C:Cx)(K:Kx)(tc:Tc)(sts:List Stmt)(pss:List PS):Prop:=∀ ⦃P f d ρ Z s A Qn Qr X⦄,Fr tc f A d->St C P f ρ Z s->pSs K tc.hd d pss ρ Z Qn Qr X ->
 wpAny (model C.prog C.w) A (execs sts f.env) (RF C P f Qn Qr) (RSX C P f X) s
theorem sss_nil:SSs C K tc [] []:=λ V V V V V V V V V V V S w=>wpAny_execs_nil ⟨_,_,S,w⟩
theorem sss_cons{st:Stmt}{sts:List Stmt}{ps:PS}{pss:List PS}(h:SS C K tc st ps)(hs:SSs C K tc sts pss):SSs C K tc (st::sts) (ps::pss):=λ V V V V V V V V V V H S w=>
 wpAny_execs_cons (fit (h H S w) λ fl s₁ r=>by
  cases fl with
  | next=>obtain ⟨ρ1,Z1,S₁,q⟩:=r;exact hs H S₁ q
  | _=>exact r)
theorem rsx{X:SX}{α:Type}{t:Sem α}{Q:α->Shared->Prop}{M:Model}(h:wpAny M A t Q (RX C P f ρ (X ρ)) s):wpAny M A t Q (RSX C P f X) s:=
 wpAny_mono h (λ V V x=>x) λ V V x=>⟨ρ,x⟩
theorem ss_ret{e:Expr}{pe:PE}{pos:Pos}(h:SE C K tc e pe):SS C K tc (.Return (some e) pos) (.ret pe):=λ V V V V V V V V V V H S w=>
 wpAny_Return_some (rsx (fitv (h H S w) λ V V av Z1 hv S₁ q=>⟨_,av,Z1,hv,S₁,q⟩))
noncomputable def notComp(e:Expr):Bool:=e.ctorIdx != 8&&e.ctorIdx != 9&&e.ctorIdx != 10
theorem swaps_no{e:Expr}{t:Option Expr}{n:Nat}{env:Env}(h:notComp e=true):swapsWith e t n env=pure false:=by
 cases e <;> first | rfl | exact absurd h Bool.false_ne_true
theorem ss_expr{e:Expr}{pe:PE}{pos:Pos}(h:SE C K tc e pe)(hn:notComp e=true):SS C K tc (.Expr e pos) (.expr pe):=λ V V V V V V V V V V H S w=>
 wpAny_Expr_any (rsx (fitv (h H S w) λ V V V Z1 V S₁ q=>⟨_,Z1,S₁,q⟩)) (by unfold interactive;rw [H.kind];rfl) (swaps_no hn)
theorem ss_if{c:Expr}{a b:List Stmt}{pc:PE}{pa pb:List PS}{pos:Pos}(hc:ST C K tc c pc)(ha:SSs C K tc a pa)(hb:SSs C K tc b pb):SS C K tc (.If c a b pos) (.iff pc pa pb):=λ V V V V V V V V V V H S w=>
 wpAny_If (rsx (cond hc H S w λ c V V S₁ q=>by cases c;exact hb H S₁ q;exact ha H S₁ q))
theorem ss_name{x:Str}{i:Nat}{p pos:Pos}{e:Expr}{pe:PE}(hn:Tn tc x i)(h:SE C K tc e pe)(hc:notComp e=true):SS C K tc (.Assign [.Name x p] e pos) (.assign (.name i) pe):=λ V V V V V V V V V V H S w=>
 wpAny_Assign_Name (rsx (fitv (h H S w) λ V V V V hv S₁ q=>store_tn H hn S₁ hv λ V S'=>⟨_,_,S',q⟩)) (swaps_no hc)
theorem ent_dec{e:Txt×AV}{c:Str×Value}(k:Txt)(h:Ent e c):decide (c.1=toS k)=(e.1==k):=by
 rw [h.1]
 by_cases q:e.1=k
 . rw [q,beq_self_eq_true];exact decide_eq_true rfl
 . rw [beq_eq_false_iff_ne.mpr q];exact decide_eq_false λ h=>q (toS_inj h)
theorem ent_map{es:List (Txt×AV)}{kvs:List (Str×Value)}(r:All2 Ent es kvs)(k:Txt){v:AV}{cv:Value}(hv:v.is cv):All2 Ent (es.map λ e=>if e.1==k then (e.1,v) else e) (kvs.map λ kv=>if kv.1=toS k then (kv.1,cv) else kv):=by
 induction r with
 | nil=>exact .nil
 | @cons e c es kvs h hr ih=>
  refine .cons ?_ ih
  show Ent (if e.1==k then (e.1,v) else e) (if c.1=toS k then (c.1,cv) else c)
  by_cases q:e.1=k
  . rw [if_pos (beq_iff_eq.mpr q),if_pos (h.1.trans (congrArg toS q))];exact ⟨h.1,hv⟩
  . rw [if_neg λ x=>q (beq_iff_eq.mp x),if_neg λ x=>q (toS_inj (h.1.symm.trans x))];exact h
theorem ent_stored{es:List (Txt×AV)}{kvs:List (Str×Value)}(r:All2 Ent es kvs)(k:Txt){v:AV}{cv:Value}(hv:v.is cv):All2 Ent (dset es k v) (stored kvs (toS k) cv):=by
 have hany:kvs.any (λ kv=>kv.1=toS k)=es.any (λ e=>e.1==k):=by
  induction r with
  | nil=>rfl
  | cons h hr ih=>rw [any_cons,any_cons,ih,ent_dec k h]
 unfold dset stored
 rw [hany]
 split
 . exact ent_map r k hv
 . exact r.append (.cons ⟨rfl,hv⟩ .nil)
theorem ps_setDict{es:List (Txt×AV)}{k:Txt}{t:Tok}{v:AV}{cv:Value}{Q:Unit->Shared->Prop}(S:St C P f ρ Z s)(ha:Z a=some (.dict es))(hl:es.length<tooLong)
  (hv:v.is cv) (h:∀ s',St C P f ρ (setH Z a (.dict (dset es k v))) s'->Q () s'):wpAny (model C.prog C.w) A (setItem (.ref a) (.str (toS k) t) cv) Q E s:=by
 obtain ⟨ob,g,⟨kvs,h2,h1⟩,h3⟩:=S.rel a _ ha
 refine wpAny_setItem_pairs (k:=toS k) (strKind_is C.prog C.w (toS k) t) (h1 _ _ g) (λ h' hm sb=>h _ ?_) (by rw [<-h2.length];exact tooLong_lt hl)
 obtain ⟨o',es',ep,e1,e2⟩:=id hm
 exact S.upd (o':=.dict (dset es k v)) ha rfl (λ c d=>nofun) (λ b o hb e=>(sb.2 b hb).trans e) ⟨o',e1,⟨_,ent_stored h2 k hv,λ V V e=>⟨o',es',ep,e,e2⟩⟩,h3⟩
set_option tactic.hygienic true in
theorem ix_some{i:Int}{n j:Nat}(h:ix i n=some j):(i=(j:Int)/\j<n/\j<2 ^ 62)\/(i=Int.negSucc 0/\0<n/\j=n-1):=by
 unfold ix at h
 split at h
 . rename_i q
   obtain ⟨k,rfl⟩:=Int.eq_ofNat_of_zero_le q.1
   have:k=j:=Option.some.inj h
   subst this
   exact .inl ⟨rfl,Int.ofNat_lt.mp q.2.1,q.2.2⟩
 . split at h
   . rename_i q
     exact .inr ⟨q.1,q.2,(Option.some.inj h).symm⟩
   . cases h
set_option maxRecDepth 100000 in
theorem ps_setLast{vs:List AV}{j:Nat}{i:Int}{t:Tok}{v:AV}{cv:Value}{Q:Unit->Shared->Prop}(S:St C P f ρ Z s)(ha:Z a=some (.list vs))(hi:i=Int.negSucc 0)(hn:0<vs.length)(hj:j=vs.length-1)
  (hv:v.is cv) (h:∀ s',St C P f ρ (setH Z a (.list (vs.set j v))) s'->Q () s'):wpAny (model C.prog C.w) A (setItem (.ref a) (.int i t) cv) Q E s:=by
 refine S.at ha (λ V x=>x) λ cs n h1 h2=>?_
 have hl:=h2.length
 have hj':j<cs.size:=by rw [hj];exact Nat.lt_of_lt_of_eq (Nat.sub_lt hn (by decide)) hl
 have fin:=h _ (S.upd (s':={ s with heap:=s.heap.update a (Obj.mapSeq (·.setIfInBounds j cv)) }) (o':=.list (vs.set j v)) ha rfl (λ c d=>nofun) (λ b o hb e=>(Heap.get?_update_other _ _ (Ne.symm hb)).trans e) ⟨_,Heap.get?_update_self (Obj.mapSeq (·.setIfInBounds j cv)) h1 rfl,cs.setIfInBounds j cv,_,rfl,by rw [Array.toList_setIfInBounds];exact h2.set hv⟩)
 have hl':s.heap.IsList a cs:=⟨_,h1,rfl,n,rfl⟩
 have hidx:seqIndex? (Int.negSucc 0) cs.size=some j:=by
  rw [seqIndex_neg (by decide) (show -(cs.size:Int)<=Int.negSucc 0 from Int.neg_le_neg (Int.ofNat_le.mpr (Nat.lt_of_lt_of_eq hn hl):((1:Nat):Int)<=(cs.size:Int)))]
  rw [hj,show vs.length=cs.size from hl]
  obtain ⟨m,hm⟩:=Nat.exists_eq_succ_of_ne_zero (Nat.ne_of_gt (Nat.lt_of_lt_of_eq hn hl))
  rw [show cs.size=m+1 from hm];exact congrArg some (congrArg Int.toNat ((Int.add_comm (-1) (↑m+1)).trans (Int.add_neg_cancel_right (↑m) 1)))
 unfold setItem
 refine wpAny_holding ?_
 refine wpAny_bind (wpAny_sequenceKey hl'.typeIs (by decide) ?_)
 refine wpAny_bind (wpAny_callSpecial?_slot (name:=Str.ofString "__setitem__") hl'.typeIs PySem.F.slot_list_setitem (wpAny_call_entry PySem.F.slot_list_setitem hl'.typeIs PySem.F.entry_list_setitem ?_ (PySem.F.args_list_setitem_3 _ _ _)))
 show wpAny _ _ (Builtin.List.listSubscript? (.int i t) >>= _) _ _ s
 refine wpAny_bind (wpAny_listSubscript_int (fitsIndex_neg (by rw [hi];decide) (by rw [hi];decide)) ?_)
 subst hi
 show wpAny _ _ ((Builtin.List.listItems (.ref a) >>= λ xs=>pure ((seqIndex? (Int.negSucc 0) xs.size).bind λ i=>xs[i]?.map (i,·))) >>= _) _ _ s
 refine wpAny_bind (wpAny_bind ?_)
 show wpAny _ _ (seqItems? (.ref a) >>= _) _ _ s
 refine wpAny_bind (wpAny_seqItems h1 rfl (wpAny_pure (wpAny_pure ?_)))
 rw [hidx,Option.bind_some,Array.getElem?_eq_getElem hj',Option.map_some]
 show wpAny _ _ (setSeqItemAt a j cv >>= _) _ _ s
 refine wpAny_bind (wpAny_setSeqItemAt h1 rfl ?_)
 first
  | exact wpAny_pure ⟨.none,rfl,wpAny_pure fin⟩
  | exact wpAny_bind (wpAny_pure (wpAny_pure ⟨.none,rfl,wpAny_pure fin⟩))
set_option maxRecDepth 100000 in
theorem ps_setList{vs:List AV}{j:Nat}{i:Int}{t:Tok}{v:AV}{cv:Value}{Q:Unit->Shared->Prop}(S:St C P f ρ Z s)(ha:Z a=some (.list vs))(hi:i=(j:Int))(hj:j<vs.length)(hf:j<2 ^ 62)
  (hv:v.is cv) (h:∀ s',St C P f ρ (setH Z a (.list (vs.set j v))) s'->Q () s'):wpAny (model C.prog C.w) A (setItem (.ref a) (.int i t) cv) Q E s:=by
 refine S.at ha (λ V x=>x) λ cs n h1 h2=>?_
 have hj':j<cs.size:=Nat.lt_of_lt_of_eq hj h2.length
 have fin:=h _ (S.upd (s':={ s with heap:=s.heap.update a (Obj.mapSeq (·.setIfInBounds j cv)) }) (o':=.list (vs.set j v)) ha rfl (λ c d=>nofun) (λ b o hb e=>(Heap.get?_update_other _ _ (Ne.symm hb)).trans e) ⟨_,Heap.get?_update_self (Obj.mapSeq (·.setIfInBounds j cv)) h1 rfl,cs.setIfInBounds j cv,_,rfl,by rw [Array.toList_setIfInBounds];exact h2.set hv⟩)
 have hl':s.heap.IsList a cs:=⟨_,h1,rfl,n,rfl⟩
 have hfit:i<2 ^ 63:=by exact o194 hi hf
 have h0:0<=i:=hi▸Int.natCast_nonneg j
 unfold setItem
 refine wpAny_holding ?_
 refine wpAny_bind (wpAny_sequenceKey hl'.typeIs (by decide) ?_)
 refine wpAny_bind (wpAny_callSpecial?_slot (name:=Str.ofString "__setitem__") hl'.typeIs PySem.F.slot_list_setitem (wpAny_call_entry PySem.F.slot_list_setitem hl'.typeIs PySem.F.entry_list_setitem ?_ (PySem.F.args_list_setitem_3 _ _ _)))
 show wpAny _ _ (Builtin.List.listSubscript? (.int i t) >>= _) _ _ s
 refine wpAny_bind (wpAny_listSubscript_int (fitsIndex_of h0 hfit) ?_)
 clear hfit hf h0
 subst hi
 show wpAny _ _ ((seqItemAt a j >>= λ r=>pure (r.map (j,·))) >>= _) _ _ s
 refine wpAny_bind (wpAny_bind (wpAny_seqItemAt h1 rfl (wpAny_pure ?_)))
 rw [Array.getElem?_eq_getElem hj']
 show wpAny _ _ (setSeqItemAt a j cv >>= _) _ _ s
 refine wpAny_bind (wpAny_setSeqItemAt h1 rfl ?_)
 first
  | exact wpAny_pure ⟨.none,rfl,wpAny_pure fin⟩
  | exact wpAny_bind (wpAny_pure (wpAny_pure ⟨.none,rfl,wpAny_pure fin⟩))
theorem ps_set{x y v:AV}{u w cv:Value}{k:Hp->Prop}{Q:Unit->Shared->Prop}(S:St C P f ρ Z s)(h:StoP x y v Z k)(hx:x.is u)(hy:y.is w)(hv:v.is cv)(q:∀ s' Z',St C P f ρ Z' s'->k Z'->Q () s'):wpAny (model C.prog C.w) A (setItem u w cv) Q E s:=by
 apply refE h hx
 intro a h
 refine okE h λ o e h=>?_
 cases o with
 | list vs=>
  apply intE (x:=y) h hy
  intro i t h
  refine okE h λ j hj h'=>?_
  rcases ix_some hj with ⟨h0,h1,h2⟩ | ⟨h0,h1,h2⟩
  . exact ps_setList S e h0 h1 h2 hv λ s' S'=>q s' _ S' h'
  . exact ps_setLast S e h0 h1 h2 hv λ s' S'=>q s' _ S' h'
 | dict es=>
  apply strE (x:=y) h hy
  intro i t h
  exact ps_setDict S e h.1 hv λ s' S'=>q s' _ S' h.2
 | _=>exact h.elim
theorem ss_item{o i e:Expr}{p pos:Pos}{po pi pe:PE}(he:SE C K tc e pe)(ho:SE C K tc o po)(hi:SE C K tc i pi)(hc:notComp e=true):SS C K tc (.Assign [.Subscript o i p] e pos) (.assign (.item po pi) pe):=λ V V V V V V V V V V H S w=>
 wpAny_Assign_Subscript (rsx (fitv (he H S w) λ V V V V hv S₁ q=>rsx (fitv (ho H S₁ q) λ V V V V hx S₂ q=>rsx (fitv (hi H S₂ q) λ V V V V hy S3 q=>ps_set S3 q hx hy hv λ s' Z' S' q=>⟨_,_,S',q⟩)))) (swaps_no hc)
noncomputable def GOf(C:Cx)(A:Around)(g:Gd)(G:Heap->Prop)(Z:Hp)(s:Shared):Prop:=match g with
 | .no=>∀ h,G h
 | .keep a o=>∀ h,Is C h a o->G h
noncomputable def Src(C:Cx)(A:Around)(x:Value)(its:List It)(g:Gd)(Z:Hp)(h₀:Heap)(s:Shared):Prop:=∀ {Q:Value->Shared->Prop} {E:Value->Shared->Prop},
 (∀ I W G h',Wkr C A I its G W->W 0 h'->h₀.get? I=none->(∀ b o,h₀.get? b=some o->h'.get? b=some o)->GOf C A g G Z { s with heap:=h₀ }->Q (.ref I) { s with heap:=h' })->wpAny (model C.prog C.w) A (pyIter x) Q E s
theorem seqAt_of{T:String}{vs:List AV}{h:Heap}{ob:Obj}(g:h.get? a=some ob)(x:SeqOb T ob vs):SeqAt' T a vs h:=let ⟨cs,n,e,r⟩:=x;⟨cs,n,e▸g,r⟩
theorem src_of{x:AV}{u:Value}{k:List It->Gd->Prop}(S:St C P f ρ Z s)(hh:A.handled=none)(hi:pIters Z x k)(hv:x.is u):∃ its g,Src C A u its g Z s.heap s/\k its g:=by
 cases x with
 | ref a=>
  cases hv
  refine okE hi λ o e hi=>?_
  have push:∀ (ob:Obj) b o,s.heap.get? b=some o->(s.heap.push ob).get? b=some o:=λ ob b o e=>Heap.get?_push_of_some _ e
  cases o with
  | list vs=>exact S.at e (λ V x=>x) λ cs n h1 h2=>⟨_,.keep a (.list vs),λ h=>wpAny_pyIter_list ⟨_,h1,rfl,n,rfl⟩ (h _ _ _ _ (wkr_list hh) ⟨_,Heap.get?_push_size _ rfl,rfl,rfl⟩ (fresh_size _) (push _) λ V x=>x.elim' λ g o=>seqAt_of g o),hi⟩
  | flist vs=>exact S.at e (λ V x=>x) λ cs n h1 h2=>⟨_,.keep a (.flist vs),λ h=>wpAny_pyIter_list ⟨_,h1,rfl,n,rfl⟩ (h _ _ _ _ (wkr_list hh) ⟨_,Heap.get?_push_size _ rfl,rfl,rfl⟩ (fresh_size _) (push _) λ V x=>x.elim' λ g o=>seqAt_of g o),hi⟩
  | tup vs=>exact S.at e (λ V x=>x) λ cs n h1 h2=>⟨_,.keep a (.tup vs),λ h=>wpAny_pyIter_tuple ⟨_,h1,rfl,n,rfl⟩ (h _ _ _ _ (wkr_tup hh) ⟨_,Heap.get?_push_size _ rfl,rfl,rfl⟩ (fresh_size _) (push _) λ V x=>x.elim' λ g o=>seqAt_of g o),hi⟩
  | _=>exact hi.elim
 | str x=>
  obtain ⟨t,rfl⟩:=hv
  exact ⟨_,.no,λ h=>wpAny_pyIter_ascii (by simpa [toS] using hi.1) (h _ _ _ _ (wkr_str (t:=t) hh) ⟨_,Heap.get?_push_size _ rfl,rfl,rfl⟩ (fresh_size _) (λ b o e=>Heap.get?_push_of_some _ e) λ V=>trivial),hi.2⟩
 | none=>exact hi.elim
 | bool _=>exact hi.elim
 | int _=>exact hi.elim
inductive SIr(C:Cx)(P:Kept)(f:Fx)(A:Around)(ρ:Loc)(Q:List It->Gd->Hp->Prop)(x:Value)(s₁:Shared):Prop
 | mk (its g Z1 h₀) (S:St C P f ρ Z1 { s₁ with heap:=h₀ }) (src:Src C A x its g Z1 h₀ s₁) (q:Q its g Z1)
noncomputable def SI(C:Cx)(K:Kx)(tc:Tc)(e:Expr)(pi:PI):Prop:=∀ ⦃P f d ρ Z s A Q X⦄,Fr tc f A d->St C P f ρ Z s->pi K tc.hd d ρ Z Q X ->
 wpAny (model C.prog C.w) A (eval e f.env) (SIr C P f A ρ Q) (RX C P f ρ X) s
theorem si_of{x:Value}{its:List It}{g:Gd}{Q:List It->Gd->Hp->Prop}(S:St C P f ρ Z s)(src:Src C A x its g Z s.heap s)(q:Q its g Z):SIr C P f A ρ Q x s:=⟨_,_,_,_,S,src,q⟩
theorem si_val{e:Expr}{pe:PE}(hd:tc.hd=false)(h:SE C K tc e pe):SI C K tc e (.val pe):=λ V V V V V V V V V H S w=>
 fitv (h H S w) λ V V V Z1 hv S₁ q=>let ⟨its,g,h1,h2⟩:=src_of S₁ (no_hand H hd) q hv;⟨its,g,Z1,_,S₁,h1,h2⟩
theorem src_range{lo hi:Int}{t u v:Tok}{r:Addr}(hh:A.handled=none)(h1:lo.natAbs<tooLong)(h2:hi.natAbs<tooLong)(hr:IsRange s.heap r lo hi 1 t u v):Src C A (.ref r) (rangeOf lo hi) .no Z s.heap s:=by
 intro Q E h
 have b1:(lo.natAbs:Int)<1000000:=Int.ofNat_lt.mpr h1
 have b2:(hi.natAbs:Int)<1000000:=Int.ofNat_lt.mpr h2
 have sz:Builtin.Range.rangeSize lo hi 1=((hi-lo).toNat:Int):=by rw [rangeSize_one];split;exact (Int.toNat_of_nonneg (Int.sub_nonneg.mpr (Int.le_of_lt ‹_›))).symm;rw [Int.toNat_eq_zero.mpr (Int.sub_nonpos_of_le (Int.not_lt.mp ‹_›))];rfl
 refine wpAny_pyIter_range hr (small_one (by exact o195 b1 b2) (by exact o196 b1 b2) (by exact o197 b2) (by exact o198 b2)) (h _ _ _ _ (wkr_range (lo:=lo) (hi:=hi) hh) ?_ (fresh_size _) (λ b o e=>Heap.get?_push_of_some _ e) λ V=>trivial)
 rw [sz]
 have:=Heap.get?_push_size s.heap (o:={ cls:=.type "range_iterator",data:=.fields #[rawInt lo,rawInt ((hi-lo).toNat:Int),rawInt 1] }) rfl
 simpa [IsRangeIter] using this
theorem si_range{x:Str}{p pos:Pos}{es:List Expr}{pes:List PE}(hg:GOk C tc.g)(G:Gl tc x (.typ "range"))(hd:tc.hd=false)(hes:SEs C K tc es pes):SI C K tc (.Call (.Name x p) es [] pos) (.range pes):=λ P f d ρ Z s A Q X H S w=>by
 refine wpAny_Call_NameR (ld_glob hg H G S λ v hv=>?_)
 cases hv
 have hh:=no_hand H hd
 refine PySem.callWith_type (star_any hes.1) (args_e hes H S w λ vs s₁ avs Z1 hvs S₁ q=>?_)
 match avs,hvs,q with
 | [x],hvs,q=>
  apply hvs.one
  intro u hu
  apply intE (x:=x) q hu
  intro hi t q
  exact call_range_1 (si_of (S₁.keeps λ b o e=>Heap.get?_push_of_some _ e) (src_range hh (by decide) q.1 (IsRange.new ..)) q.2)
 | [x,y],hvs,q=>
  apply hvs.two
  intro u v hu hv
  apply iiE (x:=x) (y:=y) q hu hv
  intro lo hi t t' q
  exact call_range_2 (si_of (S₁.keeps λ b o e=>Heap.get?_push_of_some _ e) (src_range hh q.1.1 q.1.2 (IsRange.new ..)) q.2)
end
end U
namespace U
open PySem PyProof.Rows
section
variable {C:Cx}{K:Kx}{P P':Kept}{f:Fx}{d:Nat}{ρ ρ':Loc}{Z:Hp}{s s':Shared}{A:Around}{tc:Tc}
theorem RXt.less{X:XPost}{e:Value}(h:RXt C P' f ρ X e s)(k:∀ z b o,P z b o->P' z b o):RXt C P f ρ X e s:=h.map λ S=>S.less k
theorem drop_at{its:List It}{j:Nat}(hj:j<=its.length):(j=its.length/\its.drop j=[])\/∃ it,its[j]?=some it/\its.drop j=it::its.drop (j+1)/\j<its.length:=by
 rcases Nat.eq_or_lt_of_le hj with h | h
 . exact .inl ⟨h,by rw [h];exact List.drop_length⟩
 . exact .inr ⟨its[j],List.getElem?_eq_getElem h,List.drop_eq_getElem_cons h,h⟩
theorem bind_one{i:Nat}{it:It}{v:Value}{h:Heap}(e:bindIt Z [i] it ρ=some ρ')(hv:ItIs h it v):∃ av:AV,av.is v/\ρ'=ρ.set i (some av):=by
 cases it with
 | one av=>exact ⟨av,hv,by cases av <;> exact (Option.some.inj e).symm⟩
 | two a b=>cases e
theorem loop_name{x:Str}{i:Nat}{p:Pos}{body:List Stmt}{pb:List PS}{I:Addr}{its:List It}{G:Heap->Prop}{W:Nat->Heap->Prop}{g:Gd}{Qn:SPost}{Qr:Post}{X:SX}{R:Result->Shared->Prop}
  (hn:Tn tc x i) (hb:SSs C K tc body pb) (wk:Wkr C A I its G W) (H:Fr tc f A d) (hO:Off C P f I)
  (hG:∀ ρ Z s,St C P f ρ Z s->gOk g Z->G s.heap)
  (hEnd:∀ ρ Z s,St C P f ρ Z s->gOk g Z->(pOut g Z λ Z'=>Qn ρ Z')->R (.ok .next) s)
  (hRet:∀ ρ av v Z s,av.is v->St C P f ρ Z s->Qr av Z->R (.ok (.ret v)) s)
  (hErr:∀ ρ e s,RXt C P f ρ (X ρ) e s->R (.error e) s)
  (S:St C P f ρ Z s) (hI:Z I=none) (hw:W 0 s.heap) (q:pForL (λ ρ' Z'' k=>pSs K tc.hd d pb ρ' Z'' k Qr X) [i] g its ρ Z Qn):
  codeAny (model C.prog C.w) A (.forLoop (.Name x p) (.ref I) body [] f.env) R s:=by
 obtain ⟨step,hst⟩:∃ step,step=λ (ρ':Loc) (Z'':Hp) (k:SPost)=>pSs K tc.hd d pb ρ' Z'' k Qr X:=⟨_,rfl⟩
 rw [<-hst] at q
 obtain ⟨J,toJ,ofJ⟩:∃ J:Nat->Shared->Prop,(∀ {j ρ Z s},j<=its.length->St C P f ρ Z s->Z I=none->W j s.heap->pForL step [i] g (its.drop j) ρ Z Qn->J (its.length-j) s)/\∀ {n s} {p:Prop},J n s->(∀ {j ρ Z},n=its.length-j->j<=its.length->St C P f ρ Z s->Z I=none->W j s.heap->pForL step [i] g (its.drop j) ρ Z Qn->p)->p:=
  ⟨λ n s=>∃ j ρ Z,n=its.length-j/\j<=its.length/\St C P f ρ Z s/\Z I=none/\W j s.heap/\pForL step [i] g (its.drop j) ρ Z Qn,λ h1 h2 h3 h4 h5=>⟨_,_,_,rfl,h1,h2,h3,h4,h5⟩,by rintro n s p ⟨V,V,V,e,h1,h2,h3,h4,h5⟩ k;exact k e h1 h2 h3 h4 h5⟩
 refine codeAny_forLoop J (λ n s hJ=>ofJ hJ λ {j ρ Z} e hj S hI hw q=>?_) its.length (toJ (Nat.zero_le _) S hI hw q)
 clear hJ
 subst e
 obtain ⟨o0,ho0,ht₀,V⟩:=wk.obj j _ hw
 have jk:∀ h' tk,(∀ b o,b≠I->s.heap.get? b=some o->h'.get? b=some o)->St C P f ρ Z { s with heap:=h',toks:=tk }:=λ h' tk keep=>S.junk hO hI (λ o e=>same ho0 e▸ht₀) keep
 rcases drop_at hj with ⟨rfl,e⟩ | ⟨it,hit,e,hlt⟩
 . rw [e] at q
   exact wk.done s _ _ hw (hG _ _ _ S q.1) λ h' tk keep=>wpAny_execs_nil (hEnd _ _ _ (jk h' tk keep) q.1 q.2)
 . rw [e] at q
   obtain ⟨q1,ρ',hbind,q2⟩:=q
   rw [hst] at q2
   refine wk.item j it s _ _ hit hw (hG _ _ _ S q1) λ v h' tk hv hw' keep=>?_
   obtain ⟨o,ho,hto,hdo,hback⟩:=wk.obj (j+1) _ hw'
   obtain ⟨av,hav,rfl⟩:=bind_one hbind hv
   refine wpAny_assign_Name (store_tn H hn ((jk h' tk keep).hide hO hI ho hto) hav λ s₂ S3=>?_)
   refine wpAny_mono (hb H S3 q2) (λ fl s₃ r=>?_) λ e s₃ ⟨ρ3,r⟩=>noted_of H r λ s₄ r'=>hErr _ _ _ (r'.less λ V V V=>.inl)
   cases fl with
   | next=>
    obtain ⟨ρ3,Z3,S4,q⟩:=r
    obtain ⟨k1,k2⟩:=S4.hidden hdo
    exact ⟨its.length-(j+1),Nat.sub_lt_sub_left hlt (Nat.lt_succ_self j),toJ hlt S4.unhide k1 (hback _ k2) (hst▸q)⟩
   | ret v=>obtain ⟨ρ3,av',Z3,hv',S4,q⟩:=r;exact hRet _ _ _ _ _ hv' S4.unhide q
   | brk=>exact r.elim
   | cont=>exact r.elim
noncomputable def notSet(e:Expr):Bool:=e.ctorIdx != 7
theorem folded_no{e:Expr}{env:Env}(h:notSet e=true):∀ x,foldedSetIterable e env x=pure x:=by
 intro x;cases e <;> first | rfl | exact absurd h Bool.false_ne_true
theorem ss_for{x:Str}{i:Nat}{p pos:Pos}{iter:Expr}{pi:PI}{body:List Stmt}{pb:List PS}(hn:Tn tc x i)(hs:notSet iter=true)(hi:SI C K tc iter pi)(hb:SSs C K tc body pb):
  SS C K tc (.For (.Name x p) iter body [] pos) (.for [i] pi pb):=λ P f d ρ Z s A Qn Qr X H S w=>by
 refine wpAny_For (rsx (fit (hi H S w) ?_)) (folded_no hs)
 rintro xv s₁ ⟨its,g,Z1,h₀,S₁,src,q⟩
 refine src λ I W G h' wk w0 hI keep hG=>?_
 have S₂:St C P f ρ Z1 { s₁ with heap:=h' }:=S₁.keeps keep
 have hO:=S₁.offNew hI
 have hn':=S₁.newNone hI
 have key:∀ {P':Kept} {Z':Hp},(∀ z b o,P z b o->P' z b o)->Off C P' f I->(∀ ρ Z s,St C P' f ρ Z s->gOk g Z->G s.heap)->(∀ ρ Z s,St C P' f ρ Z s->gOk g Z->(pOut g Z λ Z'=>Qn ρ Z')->RF C P f Qn Qr .next s) ->
   St C P' f ρ Z' { s₁ with heap:=h' }->Z' I=none->pForL (λ ρ' Z'' k=>pSs K tc.hd d pb ρ' Z'' k (λ v Z=>g.iced=false/\Qr v Z) λ ρ a Z=>g.iced=false/\X ρ a Z) [i] g its ρ Z' Qn->codeAny (model C.prog C.w) A (.forLoop (.Name x p) (.ref I) body [] f.env)
    (λ r s'=>match r with | .ok f'=>RF C P f Qn Qr f' s' | .error e=>cameBackBy (model C.prog C.w) A f.env (RSX C P f X) e s') { s₁ with heap:=h' }:=λ hP hO hG hE S hI q=>
  loop_name (X:=λ ρ a Z=>g.iced=false/\X ρ a Z) hn hb wk H hO hG hE (λ V V V V V hv S q=>⟨_,_,_,hv,S.less hP,q.2⟩)
   (λ ρ e s h=>came_of (h.less hP) λ s' h'=>⟨ρ,let ⟨a,Z,c,d,h1,h2,h3,h4⟩:=h';⟨a,Z,c,d,h1,h2,h3,h4.2⟩⟩) S hI w0 q
 cases g with
 | no=>exact key (λ V V V h=>h) hO (λ V V V V V=>hG _) (λ V V V S V q=>⟨_,_,S,q⟩) S₂ hn' q
 | keep a o=>exact key (λ V V V h=>h) hO (λ V V V S h=>hG _ (S.rel _ _ h)) (λ V V V S V q=>⟨_,_,S,q⟩) S₂ hn' q
theorem ss_while{c:Expr}{body:List Stmt}{pc:PE}{pb:List PS}{pos:Pos}(hc:ST C K tc c pc)(hb:SSs C K tc body pb):SS C K tc (.While c body [] pos) (.while pc pb):=λ P f d ρ Z s A Qn Qr X H S w=>by
 obtain ⟨I,⟨n,hI⟩,hw⟩:=w
 refine wpAny_While (codeAny_whileLoop (λ n s=>∃ ρ Z,St C P f ρ Z s/\I n ρ Z) ?_ n ⟨ρ,Z,S,hI⟩)
 rintro n s ⟨ρ,Z,S,hI⟩
 have err:∀ ρ e s,RX C P f ρ (X ρ) e s->notedBy (model C.prog C.w) A f.env (cameBackBy (model C.prog C.w) A f.env (RSX C P f X)) e s:=λ ρ e s r=>noted_of H r λ s₄ r'=>came_of r' λ s' h'=>⟨ρ,h'⟩
 refine wpAny_mono (cond hc H S (hw n ρ Z hI) λ b s₁ Z1 S₁ q=>?_) (λ V V x=>x) (err ρ)
 cases b with
 | true=>
  refine wpAny_mono (hb H S₁ q) (λ fl s₂ r=>?_) λ e s₃ ⟨ρ3,r⟩=>err ρ3 e s₃ r
  cases fl with
  | next=>obtain ⟨ρ2,Z2,S₂,m,hm,hI⟩:=r;exact ⟨m,hm,ρ2,Z2,S₂,hI⟩
  | ret v=>exact r
  | brk=>exact r.elim
  | cont=>exact r.elim
 | false=>exact wpAny_execs_nil ⟨_,_,S₁,q⟩
end
end U
namespace U
open PySem PyProof.Rows
noncomputable def clOf(cells:List (Str×Addr)):List (Str×NameKind)->List (Str×Addr)->List (Str×Addr)
 | [],acc=>acc
 | (n,k)::r,acc=>clOf cells r (if k==.free then match cells.lookup n with | some c=>(n,c)::acc | none=>acc else acc)
theorem clOf_cons{cells:List (Str×Addr)}{n:Str}{k:NameKind}{r:List (Str×NameKind)}{acc:List (Str×Addr)}:clOf cells ((n,k)::r) acc=clOf cells r (if k==.free then match cells.lookup n with | some c=>(n,c)::acc | none=>acc else acc):=rfl
theorem closure_of{scope:Scope}{env:Env}(h:∀ x,(x,NameKind.free)∈scope.names->(env.cells.lookup x).isSome=true):closureFor scope env=pure (clOf env.cells scope.names []):=by
 unfold closureFor
 have gen:∀ (l:List (Str×NameKind)) (acc:List (Str×Addr)),(∀ x,(x,NameKind.free)∈l->(env.cells.lookup x).isSome=true) ->
   (forIn l acc (λ x cs=>do
    let (name,kind):=x
    if kind==.free then
     let c <-cellOf env name
     pure (ForInStep.yield ((name,c)::cs))
    else pure (ForInStep.yield cs)):Sem (List (Str×Addr)))=pure (clOf env.cells l acc):=by
  intro l
  induction l with
  | nil=>intro acc V;rfl
  | cons y l ih=>
   intro acc hl
   obtain ⟨n,k⟩:=y
   rw [List.forIn_cons]
   by_cases hk:(k==NameKind.free)=true
   . obtain ⟨c,hc⟩:=Option.isSome_iff_exists.mp (hl n (by rw [beq_iff_eq.mp hk];exact .head _))
     simp only [hk,if_true,cellOf,hc,clOf_cons]
     exact ih _ λ x hx=>hl x (.tail _ hx)
   . simp only [hk,clOf_cons]
     exact ih _ λ x hx=>hl x (.tail _ hx)
 have:=gen scope.names [] h
 simpa using this
set_option tactic.hygienic true in
theorem cl_sub{cells:List (Str×Addr)}:∀ (names:List (Str×NameKind)) (acc:List (Str×Addr)),(∀ x c,acc.lookup x=some c->cells.lookup x=some c)->∀ x c,(clOf cells names acc).lookup x=some c->cells.lookup x=some c
 | [],acc,h,x,c,e=>h x c e
 | (n,k)::r,acc,h,x,c,e=>by
  simp only [clOf_cons] at e
  refine cl_sub r _ ?_ x c e
  intro y b hy
  split at hy
  . split at hy
    . rename_i c' hc'
      rw [lookup_cons] at hy
      split at hy
      . rename_i q;rw [beq_iff_eq.mp q,hc'];exact hy
      . exact h y b hy
    . exact h y b hy
  . exact h y b hy
theorem cl_has{cells:List (Str×Addr)}{x:Str}(hx:(cells.lookup x).isSome=true):∀ (names:List (Str×NameKind)) (acc:List (Str×Addr)),((x,NameKind.free)∈names\/(acc.lookup x).isSome=true)->((clOf cells names acc).lookup x).isSome=true
 | [],acc,h=>h.elim (λ h=>by cases h) id
 | (n,k)::r,acc,h=>by
  simp only [clOf_cons]
  refine cl_has hx r _ ?_
  rcases h with h | h
  . rcases mem_cons.mp h with q | q
    . cases q
      obtain ⟨c,hc⟩:=Option.isSome_iff_exists.mp hx
      exact .inr (by simp [hc])
    . exact .inl q
  . refine .inr ?_
    split
    . split
      . rw [lookup_cons];split
        . rfl
        . exact h
      . exact h
    . exact h
set_option tactic.hygienic true in
theorem cl_none{cells:List (Str×Addr)}{x:Str}:∀ (names:List (Str×NameKind)) (acc:List (Str×Addr)),(x,NameKind.free)∉names->(clOf cells names acc).lookup x=acc.lookup x
 | [],acc,h=>rfl
 | (n,k)::r,acc,h=>by
  simp only [clOf_cons]
  rw [cl_none r _ λ q=>h (.tail _ q)]
  split
  . rename_i hk
    split
    . rw [lookup_cons];split
      . rename_i q
        rw [beq_iff_eq.mp hk,beq_iff_eq.mp q] at h
        exact absurd (.head _) h
      . rfl
    . rfl
  . rfl
noncomputable def compKinds(kinds names:List (Str×NameKind)):List (Str×NameKind):=names.map λ (n,k)=>if (k==.free&&kinds.lookup n==some .cell) then (n,.cell) else (n,k)
section
variable {C:Cx}{K:Kx}{P:Kept}{f:Fx}{d:Nat}{ρ ρ':Loc}{Z Z':Hp}{s s':Shared}{A:Around}{tc:Tc}
theorem relabel_names(H:Fr tc f A d)(scope:Scope):(relabel scope f.env).names=compKinds tc.kinds scope.names:=by
 unfold relabel compKinds
 simp only [H.kind,Env.kindOf,H.kinds,beq_self_eq_true,Bool.and_true]
theorem compKinds_cell{kinds:List (Str×NameKind)}{x:Str}:∀ {names:List (Str×NameKind)},(∀ y∈names,y.2≠.cell)->(compKinds kinds names).lookup x=some .cell->(x,NameKind.free)∈names/\kinds.lookup x=some .cell
 | [],_,h=>by cases h
 | (n,k)::r,hc,h=>by
  unfold compKinds at h
  rw [map_cons] at h
  by_cases hq:(x==n)=true
  . by_cases hk:(k==.free&&kinds.lookup n==some .cell)=true
    . have e:=beq_iff_eq.mp hq;subst e
      rw [Bool.and_eq_true,beq_iff_eq,beq_iff_eq] at hk
      exact ⟨hk.1▸.head _,hk.2⟩
    . simp only [hk,Bool.false_eq_true,if_false,lookup_cons,hq] at h
      exact absurd (Option.some.inj h) (hc (n,k) (.head _))
  . have:(compKinds kinds r).lookup x=some .cell:=by
     unfold compKinds
     by_cases hk:(k==.free&&kinds.lookup n==some .cell)=true
     . simpa only [hk,if_true,lookup_cons,hq] using h
     . simpa only [hk,Bool.false_eq_true,if_false,lookup_cons,hq] using h
    have:=compKinds_cell (λ y hy=>hc y (.tail _ hy)) this
    exact ⟨.tail _ this.1,this.2⟩
theorem St.forget(S:St C P f ρ Z s)(h:∀ (i:Nat) (v:AV),ρ'[i]?=some (some v)->ρ[i]?=some (some v)):St C P f ρ' Z s:=
 { S with locs:=let ⟨m,cm,L⟩:=S.locs;⟨m,cm,L.ns,L.cell,λ i x v hx hv=>L.val i x v hx (h i v hv)⟩ }
theorem St.adopt(S:St C P f ρ Z s){D:Addr}{o:AO}(hO:Off C P f D)(hn:Z D=none)(hi:Is C s.heap D o):St C P f ρ (setH Z D o) s:=
 S.step (λ V=>False) (λ V h=>h.elim) (λ b o V e=>⟨o,e,.inl rfl⟩) (λ V V h=>h.elim)
  (λ b p e=>(setH_cases e).elim (λ q=>.inr (by rw [q.1,q.2];exact ⟨hi,hO⟩)) λ q=>.inl ⟨id,q.2⟩) (λ V V V e=>setH_old e hn) (λ V c d V e=>⟨c,d,setH_old e hn⟩) rfl rfl
noncomputable def maskN:List Bool->List Str->List Str
 | c::cs,x::xs=>(match c with | true=>x | false=>Str.ofString "")::maskN cs xs
 | _,_=>[]
theorem maskN_of:∀ {cap:List Bool} {names:List Str} {i:Nat},cap[i]?=some true->(maskN cap names)[i]?=names[i]?
 | [],_,_,h=>nomatch h
 | _::_,[],_,_=>rfl
 | c::cap,y::ρ,0,h=>by cases (show some c=some true from h);rfl
 | c::cap,y::ρ,i+1,h=>maskN_of (cap:=cap) (names:=ρ) (i:=i) h
theorem maskL_of{v:AV}:∀ {cap:List Bool} {ρ:Loc} {i:Nat},cap[i]?=some true->ρ[i]?=some (some v)->(maskL cap ρ)[i]?=some (some v)
 | [],_,_,h,_=>nomatch h
 | _::_,[],_,_,h=>nomatch h
 | c::cap,y::ρ,0,h,h'=>by cases (show some c=some true from h);exact h'
 | c::cap,y::ρ,i+1,h,h'=>maskL_of (cap:=cap) (ρ:=ρ) (i:=i) h h'
theorem maskL_get{v:AV}:∀ {cap:List Bool} {ρ:Loc} {i:Nat},(maskL cap ρ)[i]?=some (some v)->cap[i]?=some true/\ρ[i]?=some (some v)
 | [],_,_,h=>by cases ‹Loc› <;> exact nomatch h
 | _::_,[],_,h=>nomatch h
 | c::cap,y::ρ,0,h=>by
  cases c with
  | true=>exact ⟨rfl,h⟩
  | false=>exact nomatch (Option.some.inj h)
 | c::cap,y::ρ,i+1,h=>maskL_get (cap:=cap) (ρ:=ρ) (i:=i) h
theorem maskL_len:∀ {cap:List Bool} {ρ:Loc},ρ.length=cap.length->(maskL cap ρ).length=cap.length
 | [],ρ,_=>by cases ρ <;> rfl
 | _::_,[],h=>nomatch h
 | c::cap,v::ρ,h=>congrArg (·+1) (maskL_len (cap:=cap) (ρ:=ρ) (Nat.succ.inj h))
theorem app_left{α:Type}{l m:List α}{i:Nat}{x:α}(h:l[i]?=some x):(l++m)[i]?=some x:=by
 rw [List.getElem?_append_left (List.getElem?_eq_some_iff.mp h).1];exact h
theorem app_none{l:Loc}{ts:List Str}{i:Nat}{v:AV}(h:(l++ts.map λ V=>none)[i]?=some (some v)):l[i]?=some (some v):=by
 rcases Nat.lt_or_ge i l.length with q | q
 . rwa [List.getElem?_append_left q] at h
 . rw [List.getElem?_append_right q] at h
   obtain ⟨V,V,e⟩:=map_get h;cases e
structure CompOk(tc:Tc)(scope:Scope)(cap:List Bool):Prop where
 kind:scope.kind=.function
 nocell:∀ y∈scope.names,y.2≠.cell
 free:∀ x,(x,NameKind.free)∈scope.names->tc.kinds.lookup x=some .cell
 locs:∀ x∈scope.names,x.2=.local->scope.names.lookup x.1=some .local
 caps:∀ (i:Nat) x,tc.names[i]?=some x->(cap[i]?=some true ↔ (x,NameKind.free)∈scope.names)
 capLen:cap.length=tc.names.length
 capKind:∀ (i:Nat) x,tc.names[i]?=some x->cap[i]?=some true->(compKinds tc.kinds scope.names).lookup x=some .cell
noncomputable def compTc(tc:Tc)(scope:Scope)(cap:List Bool)(ts:List Str):Tc:={ hd:=tc.hd,names:=maskN cap tc.names++ts,kinds:=compKinds tc.kinds scope.names,g:=tc.g }
noncomputable def Fx.comp(f:Fx)(scope:Scope)(L:Addr)(names:List Str):Fx:={ f with env:=compEnvC scope (clOf f.env.cells scope.names []) L f.env,names:=names }
noncomputable def CompP(P:Kept)(env env':Env)(s:Shared):Kept:=λ z b o=>P z b o\/(z=true/\Own env b/\¬Own env' b/\s.heap.get? b=some o)
theorem cl_cell{scope:Scope}{x:Str}{c:Addr}(h:(clOf f.env.cells scope.names []).lookup x=some c):f.env.cells.lookup x=some c:=cl_sub scope.names [] (λ V V q=>nomatch q) x c h
theorem clHas(H:Fr tc f A d){scope:Scope}{cap:List Bool}(ok:CompOk tc scope cap){x:Str}(h:(x,NameKind.free)∈scope.names):∃ c,(clOf f.env.cells scope.names []).lookup x=some c:=
 Option.isSome_iff_exists.mp (cl_has (H.cells x (ok.free x h)) scope.names [] (.inl h))
theorem Fr.comp(H:Fr tc f A d){scope:Scope}{cap:List Bool}{ts:List Str}{L:Addr}(ok:CompOk tc scope cap):Fr (compTc tc scope cap ts) (f.comp scope L (maskN cap tc.names++ts)) A d where
 names:=rfl
 kinds:=relabel_names H scope
 glob:=H.glob
 blt:=H.blt
 hd:=H.hd
 cells:=λ x h=>let ⟨c,hc⟩:=clHas H ok (compKinds_cell ok.nocell h).1;Option.isSome_iff_exists.mpr ⟨c,hc⟩
 depth:=H.depth
 units:=H.units
 hand:=H.hand
 frames:=H.frames
 kind:=ok.kind
 apart:=λ x y c h1 h2=>H.apart x y c (cl_cell h1) (cl_cell h2)
 top:=H.top
theorem St.enterC(S:St C P f ρ Z s)(H:Fr tc f A d){scope:Scope}{cap:List Bool}{ts:List Str}{L:Addr}(ok:CompOk tc scope cap)(hρ:ρ.length=cap.length)
  (hL:s'.heap.Ns L λ V=>none) (hLn:s.heap.get? L=none) (keep:∀ b o,s.heap.get? b=some o->s'.heap.get? b=some o) (hg:s'.gens=s.gens:=by rfl) (ho:s'.os=s.os:=by rfl):
  St C (CompP P f.env (f.comp scope L (maskN cap tc.names++ts)).env s) (f.comp scope L (maskN cap tc.names++ts)) (maskL cap ρ++ts.map λ V=>none) Z s':=by
 have Sk:St C P f ρ Z s':=S.keeps keep hg ho
 have hO:=S.offNew hLn
 obtain ⟨m,cm,Lc⟩:=S.locs
 refine { Sk.toStB with hid:=λ z b o p=>p.elim (Sk.hid z b o) λ ⟨h1,h2,_,h3⟩=>h1▸⟨⟨o,keep _ _ h3,.refl (Lc.noTb h2 h3)⟩,(S.own b h2).1⟩,locs:=⟨_,cm,hL,λ x c hc=>?_,λ i x v hx hv=>?_⟩,own:=λ b hb=>?_ }
 . obtain ⟨o,e1,e2⟩:=Lc.cell x c (cl_cell hc)
   exact ⟨o,keep _ _ e1,e2⟩
 . obtain ⟨hc,hv⟩:=maskL_get (app_none hv)
   have hin:i<tc.names.length:=by rw [<-ok.capLen];exact (List.getElem?_eq_some_iff.mp hc).1
   have hxn:=List.getElem?_eq_getElem hin
   have hxx:x=tc.names[i]:=same hx (app_left ((maskN_of hc).trans hxn))
   rw [<-hxx] at hxn
   have hfr:=(ok.caps i _ hxn).mp hc
   obtain ⟨c,c2⟩:=clHas H ok hfr
   obtain ⟨cv,h1,h2⟩:=Lc.val i x v (by rw [H.names];exact hxn) hv
   refine ⟨cv,h1,.inr ⟨?_,Option.isSome_iff_exists.mpr ⟨c,c2⟩,?_⟩⟩
   . show (relabel scope f.env).names.lookup x=some .cell
     rw [relabel_names H];exact ok.capKind i _ hxn hc
   . rcases h2 with ⟨h2,V⟩ | ⟨V,V,h2⟩
     . rw [Env.kindOf,H.kinds,ok.free x hfr] at h2;cases h2
     . exact h2
 . have nP:(∀ z o,¬P z b o)->∀ z o,¬CompP P f.env (f.comp scope L (maskN cap tc.names++ts)).env s z b o:=λ h z o p=>p.elim (h z o) λ p=>p.2.2.1 hb
   rcases id hb with rfl | ⟨x,hx⟩
   . exact ⟨S.newNone hLn,hO.base,nP hO.P⟩
   . obtain ⟨h1,h2,h3⟩:=S.own b (.inr ⟨x,cl_cell hx⟩)
     exact ⟨h1,h2,nP h3⟩
theorem St.leaveC(S:St C P f ρ Z s)(H:Fr tc f A d){scope:Scope}{cap:List Bool}{ts:List Str}{L:Addr}(ok:CompOk tc scope cap)(hLn:s.heap.get? L=none)
  (B:St C (CompP P f.env (f.comp scope L (maskN cap tc.names++ts)).env s) (f.comp scope L (maskN cap tc.names++ts)) (maskL cap ρ++ts.map λ V=>none) Z' s'):St C P f ρ Z' s':=by
 obtain ⟨m,cm,Lc⟩:=S.locs
 obtain ⟨m',cm',Lc'⟩:=B.locs
 have hid:∀ b,Own f.env b->¬Own (f.comp scope L (maskN cap tc.names++ts)).env b->∀ o,s.heap.get? b=some o->(∃ o',s'.heap.get? b=some o'/\o'.data=o.data)/\Z' b=none:=λ b h1 h2 o g=>by
  obtain ⟨⟨o',e',hd⟩,h⟩:=B.hid true b o (.inr ⟨rfl,h1,h2,g⟩)
  exact ⟨⟨o',e',hd.data⟩,h⟩
 have nL:∀ b,Own f.env b->b≠L:=λ b h q=>by obtain ⟨o,g⟩:=Lc.has h;exact clash g (q▸hLn)
 have nloc:¬Own (f.comp scope L (maskN cap tc.names++ts)).env f.env.locals:=λ h=>h.elim (nL _ (.inl rfl)) λ ⟨x,hx⟩=>Lc.ncl (cl_cell hx) rfl
 refine { B.toStB with hid:=λ z b o h=>B.hid z b o (.inl h),locs:=⟨m,λ x=>if ((clOf f.env.cells scope.names []).lookup x).isSome then cm' x else cm x,?_,λ x c hc=>?_,λ i x v hx hv=>?_⟩,own:=λ b hb=>⟨?_,(S.own b hb).2⟩ }
 . obtain ⟨o,es,ep,e,e1,r⟩:=Lc.ns
   obtain ⟨⟨o',e',hd⟩,V⟩:=hid _ (.inl rfl) nloc o e
   exact ⟨o',es,ep,e',hd.trans e1,r⟩
 . cases q:(clOf f.env.cells scope.names []).lookup x with
   | some c'=>
    rw [<-same hc (cl_cell q)] at q
    exact Lc'.cell x c q
   | none=>
    obtain ⟨o,e,e1⟩:=Lc.cell x c hc
    obtain ⟨⟨o',e',hd⟩,V⟩:=hid c (.inr ⟨x,hc⟩) (λ h=>h.elim (nL c (.inr ⟨x,hc⟩)) λ ⟨y,hy⟩=>by rw [H.apart y x c (cl_cell hy) hc] at hy;exact clash hy q) o e
    exact ⟨o',e',hd.trans e1⟩
 . obtain ⟨cv,h1,h2⟩:=Lc.val i x v hx hv
   rcases h2 with h2 | ⟨h2,h3,h4⟩
   . exact ⟨cv,h1,.inl h2⟩
   . rw [H.names] at hx
     by_cases hc:cap[i]?=some true
     . obtain ⟨cv',g1,g2⟩:=Lc'.val i x v (app_left ((maskN_of hc).trans hx)) (app_left (maskL_of hc hv))
       obtain ⟨c,c2⟩:=clHas H ok ((ok.caps i x hx).mp hc)
       refine ⟨cv',g1,.inr ⟨h2,h3,?_⟩⟩
       rcases g2 with ⟨g2,V⟩ | ⟨V,V,g2⟩
       . have:(relabel scope f.env).names.lookup x=some .local:=g2
         rw [relabel_names H,ok.capKind i x hx hc] at this;cases this
       . rw [if_pos (Option.isSome_iff_exists.mpr ⟨c,c2⟩)];exact g2
     . refine ⟨cv,h1,.inr ⟨h2,h3,?_⟩⟩
       rw [if_neg (by rw [cl_none scope.names [] λ q=>hc ((ok.caps i x hx).mpr q)];exact Bool.false_ne_true)];exact h4
 . by_cases h:Own (f.comp scope L (maskN cap tc.names++ts)).env b
   . exact (B.own b h).1
   . obtain ⟨o,g⟩:=Lc.has hb;exact (hid b hb h o g).2
end
end U
namespace U
open PySem PyProof.Rows
section
variable {C:Cx}{K:Kx}{P:Kept}{f:Fx}{d:Nat}{ρ ρ':Loc}{Z Z':Hp}{s s':Shared}{A:Around}{tc:Tc}
noncomputable def SC(C:Cx)(K:Kx)(tc:Tc):List Expr->Option PE->Prop
 | [],none=>True
 | [c],some pc=>ST C K tc c pc
 | _,_=>False
theorem sc_of{ifs:List Expr}{pc:Option PE}{Qb:Bool->Hp->Prop}{X:XPost}{Q':Bool->Shared->Prop}(h:SC C K tc ifs pc)(H:Fr tc f A d)(S:St C P f ρ Z s)(w:pC K tc.hd d pc ρ Z Qb X)(k:∀ b s₁ Z1,St C P f ρ Z1 s₁->Qb b Z1->Q' b s₁):
  wpAny (model C.prog C.w) A (forIn ifs true λ c r=>if r=true then do let ok <-isTrue c f.env (eval c f.env);pure (ForInStep.yield ok) else pure (ForInStep.yield r)) Q' (RX C P f ρ X) s:=by
 match ifs,pc,h with
 | [],none,_=>exact wpAny_pure (k true s Z S w)
 | [c],some pc,h=>exact wpAny_tests_one (cond h H S w k)
structure TgOk(C:Cx)(tc:Tc)(tg:Expr)(is:List Nat):Prop where
 st:∀ {P:Kept} {f:Fx} {d:Nat} {A:Around} {ρ ρ':Loc} {Z:Hp} {s:Shared} {it:It} {v:Value} {Q:Unit->Shared->Prop} {E:Value->Shared->Prop},Fr tc f A d->St C P f ρ Z s->ItIs s.heap it v->bindIt Z is it ρ=some ρ'->(∀ s',St C P f ρ' Z s'->Q () s')->wpAny (model C.prog C.w) A (assign tg f.env v) Q E s
 go:∀ {A:Around} {s:Shared} {I:Addr} {v:Value} {o:Obj} {t:String} {Q:Unit->Shared->Prop} {E:Value->Shared->Prop},s.heap.get? I=some o->o.cls=.type t->ownT t=false->Q () s->wpAny (model C.prog C.w) A (letOwnedTupleGo tg (.ref I) v) Q E s
noncomputable def Fgt(is:List Nat):Prop:=∀ {Z:Hp} {it:It} {ρ ρ':Loc},bindIt Z is it ρ=some ρ'->(∀ i∈is,∀ v:AV,ρ[i]?≠some (some v))->∀ (k:Nat) (v:AV),ρ[k]?=some (some v)->ρ'[k]?=some (some v)
theorem fgt_set{i:Nat}{a:AV}(h:∀ v,ρ[i]?≠some (some v)){k:Nat}{v:AV}(hk:ρ[k]?=some (some v)):(ρ.set i (some a))[k]?=some (some v):=by
 rw [List.getElem?_set_ne λ e=>h v (by rw [e];exact hk)];exact hk
theorem fgt_one{i:Nat}:Fgt [i]:=λ {Z it ρ ρ'} e h k v hk=>by
 cases it with
 | one av=>
  have:ρ'=ρ.set i (some av):=by cases av <;> exact (Option.some.inj e).symm
  subst this
  exact fgt_set (h i (.head _)) hk
 | two a b=>cases e
theorem tg_name{x:Str}{i:Nat}{px:Pos}(hn:Tn tc x i):TgOk C tc (.Name x px) [i]:=⟨λ H S hv hb k=>by
 obtain ⟨av,hav,rfl⟩:=bind_one hb hv
 exact wpAny_assign_Name (store_tn H hn S hav k),λ V V V q=>wpAny_of_eq rfl q⟩
set_option tactic.hygienic true in
theorem bind_two{i j:Nat}{it:It}{ρ':Loc}(e:bindIt Z [i,j] it ρ=some ρ'):(∃ t a b,it=.one (.ref t)/\Z t=some (.tup [a,b])/\ρ'=(ρ.set i (some a)).set j (some b))\/∃ a b,it=.two a b/\ρ'=(ρ.set i (some a)).set j (some b):=by
 cases it with
 | two a b=>exact .inr ⟨a,b,rfl,(Option.some.inj e).symm⟩
 | one av=>
  cases av with
  | ref t=>
   have e:(match Z t with | some (.tup vs)=>if vs.length=2 then some (setAll ρ [i,j] vs) else none | _=>none)=some ρ':=e
   split at e
   . rename_i vs hvs
     match vs,hvs,e with
     | [a,b],hvs,e=>exact .inl ⟨t,a,b,rfl,hvs,(Option.some.inj e).symm⟩
     | [],_,e=>cases e
     | [_],_,e=>cases e
     | _::_::_::_,_,e=>rw [if_neg (by simp)] at e;cases e
   . cases e
  | _=>cases e
theorem fgt_two{i j:Nat}:Fgt [i,j]:=λ {Z it ρ ρ'} e h k v hk=>by
 have:∃ a b,ρ'=(ρ.set i (some a)).set j (some b):=by rcases bind_two e with ⟨_,a,b,_,_,h⟩ | ⟨a,b,_,h⟩ <;> exact ⟨a,b,h⟩
 obtain ⟨a,b,rfl⟩:=this
 have e1:=fgt_set (a:=a) (h i (.head _)) hk
 rw [List.getElem?_set_ne λ e=>h j (.tail _ (.head _)) v (by rw [e];exact hk)];exact e1
theorem go_tup{es:List Expr}{k:Nat}{tp:Pos}{I:Addr}{v:Value}{o:Obj}{t:String}{Q:Unit->Shared->Prop}{E:Value->Shared->Prop}(h1:s.heap.get? I=some o)(h2:o.cls=.type t)(h3:ownT t=false)(hQ:Q () s):wpAny (model C.prog C.w) A (letOwnedTupleGo (.Tuple es k tp) (.ref I) v) Q E s:=by
 cases v with
 | ref a=>
  refine wpAny_bind (wpAny_load h1 ?_)
  obtain ⟨cl,dc,da,sl⟩:=o
  cases (show cl=_ from h2)
  cases da with
  | fields vs=>
   refine wpAny_ite_false (decide_eq_false λ q=>?_) (wpAny_pure hQ)
   have q:(ownT t&&vs[0]?==some (rawInt a))=true:=q
   rw [h3] at q;cases q
  | _=>exact wpAny_pure hQ
 | _=>exact wpAny_pure hQ
theorem tg_two{x y:Str}{i j k:Nat}{px py tp:Pos}(hd:tc.hd=false)(hx:Tn tc x i)(hy:Tn tc y j):TgOk C tc (.Tuple [.Name x px,.Name y py] k tp) [i,j]:=⟨λ {P f d A ρ ρ' Z s it v Q E} H S hv hb q=>by
 obtain ⟨t,ca,cb,n,a,b,rfl,h1,ha,hb',rfl⟩:∃ t ca cb n a b,v=.ref t/\s.heap.get? t=some (seqObj "tuple" #[ca,cb] n)/\a.is ca/\b.is cb/\ρ'=(ρ.set i (some a)).set j (some b):=by
  rcases bind_two hb with ⟨t,a,b,rfl,ht,e⟩ | ⟨a,b,rfl,e⟩
  . cases hv
    refine S.at ht (λ V x=>x) λ cs n h1 h2=>?_
    obtain ⟨l⟩:=cs
    have h2:All2 AV.is [a,b] l:=h2
    revert h1
    apply h2.two
    exact λ ca cb g1 g2 h1=>⟨t,ca,cb,n,a,b,rfl,h1,g1,g2,e⟩
  . obtain ⟨t,ca,cb,n,rfl,h1,h2,h3⟩:=hv
    exact ⟨t,ca,cb,n,a,b,rfl,h1,h2,h3,e⟩
 refine wpAny_assign_Tuple (no_hand H hd) (t:=t) (items:=#[ca,cb]) ⟨_,h1,rfl,_,rfl⟩ rfl rfl λ h' hx'=>?_
 have S₂:St C P f ρ Z { s with heap:=h' }:=S.keeps λ b o e=>hx' b o (Nat.ne_of_lt (Heap.lt_size e)) e
 show wpAny _ _ (holding [cb] (assign (.Name x px) f.env ca) >>= λ V=>assignInOrder [assign (.Name y py) f.env] [cb]) _ _ _
 refine wpAny_bind (wpAny_holding (wpAny_assign_Name (store_tn H hx S₂ ha λ s₃ S3=>?_)))
 show wpAny _ _ (holding [] (assign (.Name y py) f.env cb) >>= λ V=>pure ()) _ _ _
 exact wpAny_bind (wpAny_holding (wpAny_assign_Name (store_tn H hy S3 hb' λ s₄ S4=>wpAny_pure (q _ S4)))),go_tup⟩
structure CI(C:Cx)(K:Kx)(P:Kept)(f:Fx)(ρ:Loc)(I D:Addr)(its:List It)(W:Nat->Heap->Prop)(g:Gd)(step:Loc->Hp->(Option AV->Hp->Prop)->Prop)(is:List Nat)(Q:Post)(j:Nat)(Z:Hp)(acc:List AV)(cs:Array Value)(n:Nat)(s:Shared):Prop where
 le:j<=its.length
 st:St C P f ρ Z s
 hI:Z I=none
 hW:W j s.heap
 hD:Z D=none
 ho:s.heap.get? D=some (seqObj "list" cs n)
 all:All2 AV.is acc cs.toList
 q:pCompL step is ρ g (its.drop j) acc Z Q
theorem comp_turns{elt tg iter:Expr}{ifs:List Expr}{scope:Scope}{pos:Pos}{I:Addr}{acc:Value}{env:Env}{R:Result->Shared->Prop}(hgo:∀ {s:Shared} {v:Value} {o:Obj} {t:String} {Q:Unit->Shared->Prop} {E:Value->Shared->Prop},s.heap.get? I=some o->o.cls=.type t->ownT t=false->Q () s->wpAny (model C.prog C.w) A (letOwnedTupleGo tg (.ref I) v) Q E s)(J:Nat->Shared->Prop)
  (turn:∀ n s,J n s->wpAny (model C.prog C.w) A (pyNext (.ref I)) (λ r s₁=>match r with
   | none=>R (.ok .next) s₁
   | some v=>(∃ o t,s₁.heap.get? I=some o/\o.cls=.type t/\ownT t=false)/\wpAny (model C.prog C.w) A (assign tg env v) (λ V s₂=>
     wpAny (model C.prog C.w) A (forIn ifs true λ c r=>if r=true then do let ok <-isTrue c env (eval c env);pure (ForInStep.yield ok) else pure (ForInStep.yield r)) (λ ok s₃=>
      if ok=true then wpAny (model C.prog C.w) A (eval elt env) (λ x s₄=>
       wpAny (model C.prog C.w) A (call (.builtin "list.append") [acc,x]) (λ V s5=>∃ m,m<n/\J m s5) (notedBy (model C.prog C.w) A env λ e s'=>R (.error e) s') s₄) (notedBy (model C.prog C.w) A env λ e s'=>R (.error e) s') s₃
      else ∃ m,m<n/\J m s₃) (notedBy (model C.prog C.w) A env λ e s'=>R (.error e) s') s₂) (notedBy (model C.prog C.w) A env λ e s'=>R (.error e) s') s₁) (notedBy (model C.prog C.w) A env λ e s'=>R (.error e) s') s)
  (n:Nat) (h:J n s):codeAny (model C.prog C.w) A (.compLoop (.ListComp elt [⟨tg,iter,ifs,0⟩] scope pos) 0 (.ref I) acc env) R s:=by
 refine codeAny_loop rfl J (λ n s hJ=>wpAny_noted ?_) n h
 rw [compTurn_list]
 have up:∀ {α:Type} {m:Sem α} {Q Q':α->Shared->Prop} {E:Value->Shared->Prop} {s:Shared},wpAny (model C.prog C.w) A m Q E s->(∀ x s,Q x s->Q' x s)->wpAny (model C.prog C.w) A m Q' E s:=λ h g=>wpAny_mono h g λ V V x=>x
 refine wpAny_bind (wpAny_standAt (wpAny_bind (up (turn n s hJ) λ r s₁ h₁=>?_)))
 cases r with
 | none=>exact wpAny_pure h₁
 | some v=>
  obtain ⟨⟨o,t,g1,g2,g3⟩,h₁⟩:=h₁
  refine wpAny_bind (hgo g1 g2 g3 (wpAny_bind (up h₁ λ V s₂ h₂=>wpAny_bind (up h₂ λ ok s₃ h₃=>?_))))
  cases ok with
  | false=>exact wpAny_pure ⟨rfl,h₃⟩
  | true=>exact wpAny_bind (wpAny_bind (up h₃ λ x s₄ h₄=>wpAny_bind (up h₄ λ V s5 h₅=>wpAny_pure (wpAny_pure ⟨rfl,h₅⟩))))
theorem comp_loop{tg:Expr}{is:List Nat}{pos:Pos}{elt iter:Expr}{ifs:List Expr}{pe:PE}{pc:Option PE}{scope:Scope}{I D:Addr}{its:List It}{G:Heap->Prop}{W:Nat->Heap->Prop}{g:Gd}{Q:Post}{X:XPost}{R:Result->Shared->Prop}{cs:Array Value}{n:Nat}
  (hn:TgOk C tc tg is) (hf:Fgt is) (he:SE C K tc elt pe) (hc:SC C K tc ifs pc) (wk:Wkr C A I its G W) (H:Fr tc f A d) (hO:Off C P f I) (hD:Off C P f D) (hID:D≠I) (hρ:∀ i∈is,∀ v:AV,ρ[i]?≠some (some v))
  (hG:∀ ρ Z s,St C P f ρ Z s->gOk g Z->G s.heap)
  (hEnd:∀ Z s acc cs n,St C P f ρ Z s->Z D=none->s.heap.get? D=some (seqObj "list" cs n)->All2 AV.is acc cs.toList->gOk g Z->(pOut g Z λ Z'=>NewO Z' (.list acc) Q)->R (.ok .next) s)
  (hErr:∀ e s,RXt C P f ρ X e s->R (.error e) s)
  (h0:CI C K P f ρ I D its W g (λ ρ' Z' k=>pC K tc.hd d pc ρ' Z' (λ t Z''=>WifP t (pe K tc.hd d ρ' Z'' (λ v=>k (some v)) X) (k none Z'')) X) is Q 0 Z [] cs n s):
  codeAny (model C.prog C.w) A (.compLoop (.ListComp elt [⟨tg,iter,ifs,0⟩] scope pos) 0 (.ref I) (.ref D) f.env) R s:=by
 generalize hst:(λ (ρ':Loc) (Z':Hp) (k:Option AV->Hp->Prop)=>pC K tc.hd d pc ρ' Z' (λ t Z''=>WifP t (pe K tc.hd d ρ' Z'' (λ v=>k (some v)) X) (k none Z'')) X)=step at h0
 obtain ⟨J,toJ,ofJ⟩:∃ J:Nat->Shared->Prop,(∀ {j Z acc cs n s},CI C K P f ρ I D its W g step is Q j Z acc cs n s->J (its.length-j) s)/\∀ {m s} {p:Prop},J m s->(∀ {j Z acc cs n},m=its.length-j->CI C K P f ρ I D its W g step is Q j Z acc cs n s->p)->p:=
  ⟨λ m s=>∃ j Z acc cs n,m=its.length-j/\CI C K P f ρ I D its W g step is Q j Z acc cs n s,λ h=>⟨_,_,_,_,_,rfl,h⟩,by rintro m s p ⟨V,V,V,V,V,e,h⟩ k;exact k e h⟩
 refine comp_turns (λ h1 h2 h3 q=>hn.go h1 h2 h3 q) J (λ m s hJ=>ofJ hJ λ {j Z acc cs n} e hC=>?_) its.length (toJ h0)
 clear h0
 subst e
 obtain ⟨hj,S,hI,hw,hDn,hDo,hall,q⟩:=hC
 obtain ⟨o0,ho0,ht₀,V⟩:=wk.obj j _ hw
 have jk:∀ h' tk,(∀ b o,b≠I->s.heap.get? b=some o->h'.get? b=some o)->St C P f ρ Z { s with heap:=h',toks:=tk }:=λ h' tk keep=>S.junk hO hI (λ o e=>same ho0 e▸ht₀) keep
 rcases drop_at hj with ⟨rfl,e⟩ | ⟨it,hit,e,hlt⟩
 . rw [e] at q
   exact wk.done s _ _ hw (hG _ _ _ S q.1) λ h' tk keep=>hEnd Z _ acc cs n (jk h' tk keep) hDn (keep D _ hID hDo) hall q.1 q.2
 . rw [e] at q
   obtain ⟨q1,qlen,ρ',hbind,q2⟩:=q
   have q2:=Eq.mpr (congrFun (congrFun (congrFun hst _) _) _) q2
   refine wk.item j it s _ _ hit hw (hG _ _ _ S q1) λ v h' tk hv hw' keep=>?_
   obtain ⟨o,ho,hto,hdo,hback⟩:=wk.obj (j+1) _ hw'
   have hDb:¬IsTb (seqObj "list" cs n):=seqOb_noTb ⟨cs,n,rfl,hall⟩
   have hDd:¬IsD (seqObj "list" cs n):=λ ⟨_,_,h⟩=>nomatch h
   have S₂:=((jk h' tk keep).hide hO hI ho hto).hide (I:=D) (q:=seqObj "list" cs n) ⟨hD.base,λ z q p=>p.elim (hD.P z q) λ p=>hID p.2.1,hD.own,hD.fr⟩ hDn (keep D _ hID hDo) hDb
   have forg:∀ {P:Kept} {Z:Hp} {s:Shared},St C P f ρ' Z s->St C P f ρ Z s:=λ S=>S.forget λ k v hk=>hf hbind hρ k v hk
   have herr:∀ e s',RX C ((P.add true I o).add true D (seqObj "list" cs n)) f ρ' X e s'->notedBy (model C.prog C.w) A f.env (λ e s'=>R (.error e) s') e s':=λ e s' r=>noted_of H r λ s₄ r'=>hErr _ _ (r'.map λ S=>(forg S).unhide.unhide)
   have less:its.length-(j+1)<its.length-j:=Nat.sub_lt_sub_left hlt (Nat.lt_succ_self j)
   refine ⟨wk.cls _ _ hw',hn.st H S₂ hv hbind λ s₂ S3=>wpAny_mono (sc_of hc H S3 q2 λ ok s₃ Z3 S4 q3=>?_) (λ V V x=>x) herr⟩
   cases ok with
   | false=>
    obtain ⟨d1,d2⟩:=S4.hidden hDd
    obtain ⟨i1,i2⟩:=S4.unhide.hidden hdo
    exact ⟨_,less,toJ ⟨hlt,forg S4.unhide.unhide,i1,hback _ i2,d1,d2,hall,q3⟩⟩
   | true=>
    refine wpAny_mono (fitv (he H S4 q3) λ w s₄ aw Z4 hw S5 q4=>?_) (λ V V x=>x) herr
    obtain ⟨d1,d2⟩:=S5.hidden hDd
    refine wpAny_list_append_plain (items:=cs) ⟨n,d2⟩ (λ h₅ hp sb=>?_) (by rw [show cs.size=acc.length from hall.length.symm];exact tooLong_lt qlen)
    obtain ⟨n',g'⟩:=hp
    have S7:=S5.unhide.junk (s':={ s₄ with heap:=h₅ }) (a:=D) ⟨hD.base,λ z q p=>p.elim (hD.P z q) λ p=>hID p.2.1,hD.own,hD.fr⟩ d1 (λ o e=>same d2 e▸hDb) (λ b o hb e=>(sb.2 b hb).trans e)
    obtain ⟨i1,i2⟩:=S7.hidden hdo
    exact ⟨_,less,toJ ⟨hlt,forg S7.unhide,i1,hback _ i2,d1,g',by rw [Array.toList_push];exact hall.append (.cons hw .nil),q4⟩⟩
theorem ns_noTb{L:Addr}{m:Str->Option Value}{o:Obj}(h:s.heap.Ns L m)(e:s.heap.get? L=some o):¬IsTb o:=by
 obtain ⟨o',es,ep,h1,h2,V⟩:=h
 exact isD_noTb (same e h1▸⟨es,ep,h2⟩)
inductive CoreG(C:Cx)(P:Kept)(f:Fx)(ρ:Loc)(g:Gd)(G:Heap->Prop)(I:Addr)(s':Shared)(R:Hp->Prop):Prop
 | mk (P':Kept) (Z':Hp) (hP:∀ z b o,P z b o->P' z b o) (hOI:Off C P' f I) (hIn:Z' I=none) (S₂:St C P' f ρ Z' s') (hG:∀ {P'' f' ρ Z s},f'.hx=f.hx->(∀ z b o,P' z b o->P'' z b o)->St C P'' f' ρ Z s->gOk g Z->G s.heap) (hout:∀ {Z s} {k:Hp->Prop},St C P' f ρ Z s->gOk g Z->pOut g Z k->∃ Z'',St C P f ρ Z'' s/\k Z''/\∀ b,Z b=none->Z'' b=none) (q:R Z')
theorem comp_core{tg:Expr}{ts:List Str}{is:List Nat}{pos p':Pos}{elt iter:Expr}{ifs:List Expr}{pe:PE}{pc:Option PE}{pi:PI}{scope:Scope}{cap:List Bool}{use:Option (Value->Sem Unit)}{Q:Post}{X:XPost}{QV:Value->Shared->Prop}{E:Value->Shared->Prop}
  (ok:CompOk tc scope cap) (hn:TgOk C (compTc tc scope cap ts) tg is/\Fgt is) (hi:(∀ i∈is,tc.names.length<=i)/\is.length=ts.length) (hs:notSet iter=true) (hit:SI C K tc iter pi) (he:SE C K (compTc tc scope cap ts) elt pe) (hc:SC C K (compTc tc scope cap ts) ifs pc)
  (H:Fr tc f A d) (S:St C P f ρ Z s) (hE:∀ e s,RX C P f ρ X e s->E e s)
  (fin:∀ (D L:Addr) Z s,St C P f ρ Z s->Off C P f L->Z L=none->(∃ m,s.heap.Ns L m)->Q (.ref D) Z->match (generalizing:=false) use with
   | none=>∀ h',Heap.SameBut L s.heap h'->QV (.ref D) { s with heap:=h' }
   | some u=>wpAny (model C.prog C.w) A (u (.ref D)) (λ V s''=>∃ m,s''.heap.Ns L m/\∀ h',Heap.SameBut L s''.heap h'->QV .none { s'' with heap:=h' }) E s)
  (w:PE.comp cap is pi pc pe K tc.hd d ρ Z Q X):
  wpAny (model C.prog C.w) A (comprehension (.ListComp elt [⟨tg,iter,ifs,0⟩] scope pos) scope f.env p' (newList []) false (eval iter f.env) use) QV E s:=by
 obtain ⟨hρ,w⟩:=w
 refine wpAny_comprehension_free rfl (folded_no hs) (closure_of λ x h=>H.cells x (ok.free x h)) ok.kind ok.locs (wpAny_mono (hit H S w) ?_ hE)
 rintro xv s₁ ⟨its,g,Z1,h₀,S₁,src,q⟩
 refine src λ I W G h' wk w0 hI keep hG=>?_
 obtain ⟨P',Z',hP,hOI,hIn,S₂,hG',hout,q⟩:CoreG C P f ρ g G I { s₁ with heap:=h' } (λ Z'=>pCompL (λ ρ' Z' k=>pC K tc.hd d pc ρ' Z' (λ t Z''=>WifP t (pe K tc.hd d ρ' Z'' (λ v=>k (some v)) λ a Z=>g.iced=false/\X a Z) (k none Z'')) λ a Z=>g.iced=false/\X a Z) is (maskL cap ρ++is.map λ V=>none) g its [] Z' Q):=by
  have S₂:St C P f ρ Z1 { s₁ with heap:=h' }:=S₁.keeps keep
  have hO:=S₁.offNew hI
  have hn':=S₁.newNone hI
  cases g with
  | no=>exact ⟨P,Z1,λ V V V h=>h,hO,hn',S₂,λ V V V V=>hG _,λ S V q=>⟨_,S,q,λ V h=>h⟩,q⟩
  | keep a o=>exact ⟨P,Z1,λ V V V h=>h,hO,hn',S₂,λ V V S h=>hG _ (S.rel _ _ h),λ S V q=>⟨_,S,q,λ V h=>h⟩,q⟩
 have lessO:∀ {b},Off C P' f b->Off C P f b:=λ h=>⟨h.base,λ z o p=>h.P z o (hP _ _ _ p),h.own,h.fr⟩
 refine wpAny_newList (wpAny_newFunctionEnv ok.nocell (by intro y hy;cases hy) (λ h₁ hns sb=>?_) ok.kind)
 dsimp only at hns sb ⊢
 generalize hD:h'.objs.size=D at hns sb ⊢
 have hDn:h'.get? D=none:=hD▸fresh_size _
 have hDp:(h'.push { cls:=.type "list",data:=.seq ([]:List Value).toArray }).get? D=some (seqObj "list" #[] 0):=hD▸Heap.get?_push_size _ rfl
 generalize hH2:h'.push { cls:=.type "list",data:=.seq ([]:List Value).toArray }=H2 at hns sb hDp ⊢
 have keep2:∀ b o,h'.get? b=some o->H2.get? b=some o:=λ b o e=>hH2▸Heap.get?_push_of_some _ e
 generalize hL:H2.objs.size=L at hns sb ⊢
 have hLn:H2.get? L=none:=hL▸fresh_size _
 clear hD hH2 hL
 have keep3:∀ b o,H2.get? b=some o->h₁.get? b=some o:=λ b o e=>(sb.2 b (λ q=>clash e (q▸hLn))).trans (Heap.get?_push_of_some _ e)
 obtain ⟨oI,hIo,V,V,hback⟩:=wk.obj 0 _ w0
 have hDL:D≠L:=λ q=>clash hDp (q▸hLn)
 have hID:D≠I:=λ q=>clash hIo (q▸hDn)
 have hIL:I≠L:=λ q=>clash (keep2 _ _ hIo) (q▸hLn)
 have W1:=hback _ (keep3 _ _ (keep2 _ _ hIo))
 have S3:St C P' f ρ Z' { s₁ with heap:=H2 }:=S₂.keeps (s':={ s₁ with heap:=H2 }) keep2
 have hOD:Off C P' f D:=S₂.offNew hDn
 have hOL:Off C P' f L:=S3.offNew hLn
 have S4:=S3.enterC (s':={ s₁ with heap:=h₁,toks:=s₁.toks+([]:List (Str×Value)).length }) (ts:=ts) H ok hρ hns hLn keep3
 have lv:∀ {Z s},St C _ (f.comp scope L (maskN cap tc.names++ts)) (maskL cap ρ++ts.map λ V=>none) Z s->St C P' f ρ Z s:=λ B=>S3.leaveC H ok hLn B
 have offC:∀ b,Off C P' f b->b≠L->Off C (CompP P' f.env (f.comp scope L (maskN cap tc.names++ts)).env { s₁ with heap:=H2 }) (f.comp scope L (maskN cap tc.names++ts)) b:=λ b hb hbL=>
  ⟨hb.base,λ z o p=>p.elim (hb.P z o) λ p=>hb.own p.2.1,λ h=>h.elim hbL λ ⟨y,hy⟩=>hb.own (.inr ⟨y,cl_cell hy⟩),hb.fr⟩
 rw [show (is.map λ V=>(none:Option AV))=ts.map λ V=>none by rw [List.map_const',List.map_const',hi.2]] at q
 have loop:codeAny (model C.prog C.w) A (.compLoop (.ListComp elt [⟨tg,iter,ifs,0⟩] scope pos) 0 (.ref I) (.ref D) (compEnvC scope (clOf f.env.cells scope.names []) L f.env))
   (compPost (model C.prog C.w) A E use QV (.ref D) L) { s₁ with heap:=h₁,toks:=s₁.toks+([]:List (Str×Value)).length }:=by
  refine comp_loop (g:=g) (Q:=Q) (X:=λ a Z=>g.iced=false/\X a Z) hn.1 hn.2 he hc wk (H.comp (L:=L) ok) (offC I hOI hIL) (offC D hOD hDL) hID (λ i hm v h=>?_) (λ ρ Z s S h=>hG' (f':=f.comp scope L (maskN cap tc.names++ts)) (P'':=CompP P' f.env (f.comp scope L (maskN cap tc.names++ts)).env { heap:=H2,gens:=s₁.gens,drawn:=s₁.drawn,toks:=s₁.toks,os:=s₁.os }) rfl (λ V V V=>.inl) S h) (λ Z s acc cs n B hDZ hDo hall hgk hq=>?_) ?_ ⟨Nat.zero_le _,S4,hIn,W1,S₂.newNone hDn,keep3 _ _ hDp,.nil,q⟩
  . have:=(List.getElem?_eq_some_iff.mp (app_none h)).1
    rw [maskL_len hρ,ok.capLen] at this
    exact Nat.not_lt.mpr (hi.1 i hm) this
  . obtain ⟨m,cm,Lc⟩:=B.locs
    obtain ⟨Z'',S',hq,hno⟩:=hout (lv B) hgk hq
    have fn:=fin D L _ s (S'.adopt (o:=.list acc) (lessO hOD) (hno _ hDZ) ⟨_,hDo,cs,n,rfl,hall⟩) (lessO hOL) ((setH_ne (Ne.symm hDL)).trans (hno _ (B.own L (.inl rfl)).1)) ⟨m,Lc.ns⟩ (hq D (hno _ hDZ))
    cases use with
    | none=>exact ⟨m,Lc.ns,fn⟩
    | some u=>exact fn
  . rintro e s ⟨a,Z,c,dd,rfl,B,ha,⟨oe,vs,T,t1,t2,t3⟩,hX⟩
    obtain ⟨m,cm,Lc⟩:=B.locs
    refine ⟨m,Lc.ns,λ h₂ sb2 cenv' V=>?_⟩
    have hLZ:Z L=none:=(B.own L (.inl rfl)).1
    have S5:St C P' f ρ Z { s with heap:=h₂ }:=(lv B).junk (s':={ s with heap:=h₂ }) hOL hLZ (λ o e=>ns_noTb Lc.ns e) (λ b o hb e=>(sb2.2 b hb).trans e)
    unfold PySem.passOn
    refine wpAny_bind (wpAny_field ((sb2.2 a (neN ha hLZ)).trans t1) t2 t3 ?_)
    rw [if_neg (show ¬((Value.ref T==Value.none)=true) from Bool.false_ne_true)]
    exact wpAny_bind (flight_of S5 ha λ s' S'=>wpAny_throw (hE _ _ ⟨a,Z,c,dd,rfl,S'.less hP,ha,hX.2⟩))
 exact codeAny_compStart_list loop (wk.self 0 _ _ _ W1 loop)
theorem se_comp{tg:Expr}{ts:List Str}{is:List Nat}{pos:Pos}{elt iter:Expr}{ifs:List Expr}{pe:PE}{pc:Option PE}{pi:PI}{scope:Scope}{cap:List Bool}
  (ok:CompOk tc scope cap) (hn:TgOk C (compTc tc scope cap ts) tg is/\Fgt is) (hi:(∀ i∈is,tc.names.length<=i)/\is.length=ts.length) (hs:notSet iter=true) (hit:SI C K tc iter pi) (he:SE C K (compTc tc scope cap ts) elt pe) (hc:SC C K (compTc tc scope cap ts) ifs pc):
  SE C K tc (.ListComp elt [⟨tg,iter,ifs,0⟩] scope pos) (.comp cap is pi pc pe):=λ V V V V V V V V V H S w=>by
 rw [eval_ListComp]
 exact comp_core (use:=none) ok hn hi hs hit he hc H S (λ V V x=>x) (λ D L Z s S hO hL ⟨m,hns⟩ hq h' sb=>rv (av:=.ref D) rfl (S.junk (s':={ s with heap:=h' }) hO hL (λ o e=>ns_noTb hns e) (λ b o hb e=>(sb.2 b hb).trans e)) hq) w
theorem exec_Assign_comp{tg:Expr}{y:Str}{py pos spos:Pos}{elt iter:Expr}{ifs:List Expr}{scope:Scope}{env:Env}{Q:Flow->Shared->Prop}{E:Value->Shared->Prop}
  (h1:wpAny (model C.prog C.w) A (comprehension (.ListComp elt [⟨tg,iter,ifs,0⟩] scope pos) scope env (firstIterPos [⟨tg,iter,ifs,0⟩] pos) (newList []) false (eval iter env) none)
   (λ v s₁=>wpAny (model C.prog C.w) A (storeName env y v) (λ V=>Q .next) E s₁) E s)
  (h2:wpAny (model C.prog C.w) A (comprehension (.ListComp elt [⟨tg,iter,ifs,0⟩] scope pos) scope env (firstIterPos [⟨tg,iter,ifs,0⟩] pos) (newList []) false (eval iter env) (some (assign (.Name y py) env)))
   (λ V s₁=>Q .next s₁) E s):
  wpAny (model C.prog C.w) A (exec (.Assign [.Name y py] (.ListComp elt [⟨tg,iter,ifs,0⟩] scope pos) spos) env) Q E s:=by
 have e:∃ b,swapsWith (.ListComp elt [⟨tg,iter,ifs,0⟩] scope pos) (some (.Name y py)) spos.line env=pure b:=⟨_,rfl⟩
 obtain ⟨b,e⟩:=e
 cases b with
 | false=>exact wpAny_Assign_Name (by rw [eval_ListComp];exact h1) e
 | true=>
  rw [exec_Assign_Name_used y py _ spos e]
  refine wpAny_bind (wpAny_standAt (wpAny_bind ?_))
  show wpAny _ _ (comprehension _ _ _ _ _ _ _ _ >>= _) _ _ _
  exact wpAny_bind (fit h2 λ V s₁ h=>wpAny_pure (wpAny_pure h))
theorem ss_comp{tg:Expr}{ts:List Str}{is:List Nat}{y:Str}{j:Nat}{py pos spos:Pos}{elt iter:Expr}{ifs:List Expr}{pe:PE}{pc:Option PE}{pi:PI}{scope:Scope}{cap:List Bool}
  (ok:CompOk tc scope cap) (hn:TgOk C (compTc tc scope cap ts) tg is/\Fgt is) (hi:(∀ i∈is,tc.names.length<=i)/\is.length=ts.length) (hs:notSet iter=true) (hit:SI C K tc iter pi) (he:SE C K (compTc tc scope cap ts) elt pe) (hc:SC C K (compTc tc scope cap ts) ifs pc)
  (hj:Tn tc y j):SS C K tc (.Assign [.Name y py] (.ListComp elt [⟨tg,iter,ifs,0⟩] scope pos) spos) (.assign (.name j) (.comp cap is pi pc pe)):=λ P f d ρ Z s A Qn Qr X H S w=>by
 refine exec_Assign_comp ?_ ?_
 . exact comp_core (use:=none) ok hn hi hs hit he hc H S (λ V V x=>⟨ρ,x⟩) (λ D L Z s S hO hL ⟨m,hns⟩ hq h' sb=>
    store_tn (v:=.ref D) H hj (S.junk (s':={ s with heap:=h' }) hO hL (λ o e=>ns_noTb hns e) (λ b o hb e=>(sb.2 b hb).trans e)) rfl λ s' S'=>⟨_,_,S',hq⟩) w
 . refine comp_core (use:=some (assign (.Name y py) f.env)) ok hn hi hs hit he hc H S (λ V V x=>⟨ρ,x⟩) (λ D L Z s S hO hL ⟨m,hns⟩ hq=>?_) w
   obtain ⟨o,es,ep,h1,h2,h3⟩:=id hns
   refine wpAny_assign_Name (store_tn (v:=.ref D) H hj (S.hide hO hL h1 (ns_noTb hns h1)) rfl λ s' S₁=>?_)
   obtain ⟨⟨o',k2,k3⟩,k1⟩:=S₁.hid true L o (.inr ⟨rfl,rfl,rfl⟩)
   have hns':s'.heap.Ns L m:=⟨o',es,ep,k2,k3.data.trans h2,h3⟩
   exact ⟨m,hns',λ h' sb=>⟨_,_,S₁.unhide.junk (s':={ s' with heap:=h' }) hO k1 (λ o e=>ns_noTb hns' e) (λ b o hb e=>(sb.2 b hb).trans e),hq⟩⟩
noncomputable def notTup(e:Expr):Bool:=e.ctorIdx != 25
theorem swapped_no{e:Expr}{elts:List Expr}{k:Nat}{p:Pos}{env:Env}(h:notTup e=true):swappedStores [.Tuple elts k p] e env=pure none:=by
 cases e <;> first | rfl | exact absurd h Bool.false_ne_true
set_option tactic.hygienic true in
theorem ss_tup2{x y:Str}{i j k:Nat}{px py tp pos:Pos}{e:Expr}{pe:PE}(hd:tc.hd=false)(hx:Tn tc x i)(hy:Tn tc y j)(he:SE C K tc e pe)(hc:notComp e=true)(ht':notTup e=true):
  SS C K tc (.Assign [.Tuple [.Name x px,.Name y py] k tp] e pos) (.assign (.tup [i,j]) pe):=λ P f d ρ Z s A Qn Qr X H S w=>by
 refine Assign_Tuple (rsx (fitv (he H S w) λ v s₁ av Z1 hv S₁ q=>?_)) (by unfold swapsWithSole;exact swaps_no hc) (swapped_no ht')
 apply refE q hv
 intro t q
 refine okE q λ o e1 q=>?_
 cases o <;> first | exact q.elim | skip
 rename_i vs
 refine S₁.at e1 (λ V x=>x) λ cs n h1 h2=>?_
 match vs,q,h2 with
 | [a,b],q,h2=>
  obtain ⟨ca,cb,hcs,hca,hcb⟩:∃ ca cb,cs.toList=[ca,cb]/\a.is ca/\b.is cb:=by
   generalize cs.toList=l at h2
   apply h2.two;exact λ ca cb h1 h2=>⟨ca,cb,rfl,h1,h2⟩
  have hsz:cs.size=2:=by rw [<-Array.length_toList,hcs];rfl
  show wpAny _ _ (standAt tp >>= λ V=>unpack (.ref t) (assignEach [.Name x px,.Name y py] f.env)) _ _ _
  refine wpAny_bind (wpAny_standAt ?_)
  show wpAny _ _ (holding [.ref t] (unpackItems (.ref t) 2 none) >>= λ items=>assignInOrder [assign (.Name x px) f.env,assign (.Name y py) f.env] items) _ _ _
  refine wpAny_bind (wpAny_holding ?_)
  have hu:=unpackItems_tuple (prog:=C.prog) (w:=C.w) (E:=RSX C P f X) (Q:=λ items s₂=>wpAny (model C.prog C.w) A (assignInOrder [assign (.Name x px) f.env,assign (.Name y py) f.env] items) (λ V=>RF C P f Qn Qr .next) (RSX C P f X) s₂) (no_hand H hd) (⟨_,h1,rfl,n,rfl⟩:IsTup s₁.heap t cs) (λ h' hext=>?_)
  . rw [hsz] at hu;exact hu
  . rw [hcs]
    have S₂:St C P f ρ Z1 { s₁ with heap:=h' }:=S₁.keeps λ b o e=>hext b o (Nat.ne_of_lt (Heap.lt_size e)) e
    show wpAny _ _ (holding [cb] (assign (.Name x px) f.env ca) >>= λ V=>assignInOrder [assign (.Name y py) f.env] [cb]) _ _ _
    refine wpAny_bind (wpAny_holding (wpAny_assign_Name (store_tn H hx S₂ hca λ s₃ S3=>?_)))
    show wpAny _ _ (holding [] (assign (.Name y py) f.env cb) >>= λ V=>pure ()) _ _ _
    exact wpAny_bind (wpAny_holding (wpAny_assign_Name (store_tn H hy S3 hcb λ s₄ S4=>wpAny_pure ⟨_,_,S4,q.2⟩)))
 | [],q,_=>exact nomatch q.1
 | [_],q,_=>exact nomatch q.1
 | _::_::_::_,q,_=>exact nomatch q.1
end
end U
namespace U
open PySem PyProof.Rows
end U
namespace U
open PySem PyProof.Rows
theorem apart_ne{α:Type}:∀ {cells:List (Str×α)},cells.Pairwise (λ x y=>x.2≠y.2)->∀ {x y:Str} {c c':α},cells.lookup x=some c->cells.lookup y=some c'->x≠y->c≠c'
 | [],_,_,_,_,_,h,_,_=>nomatch h
 | (z,b)::r,hp,x,y,c,c',h1,h2,hne=>by
  rw [List.pairwise_cons] at hp
  rw [lookup_cons] at h1 h2
  cases q1:x==z with
  | true=>
   rw [q1] at h1
   cases q2:y==z with
   | true=>exact absurd ((beq_iff_eq.mp q1).trans (beq_iff_eq.mp q2).symm) hne
   | false=>rw [q2] at h2;rw [<-Option.some.inj h1];exact hp.1 (y,c') (mem_of_lookup h2)
  | false=>
   rw [q1] at h1
   cases q2:y==z with
   | true=>rw [q2] at h2;rw [<-Option.some.inj h2];exact λ q=>hp.1 (x,c) (mem_of_lookup h1) q.symm
   | false=>rw [q2] at h2;exact apart_ne hp.2 h1 h2 hne
theorem zip_binds:∀ (names:List Str) (vs:List Value) (L:List (Str×Value)),names.length=vs.length->(∀ p∈names.zip vs,L.lookup p.1=some p.2)->names.filterMap (λ n=>(L.lookup n).map (n,·))=names.zip vs
 | [],_,_,_,_=>rfl
 | n::names,[],_,h,_=>by simp at h
 | n::names,v::vs,L,h,hl=>by
  have h1:=hl (n,v) (.head _)
  simp only [filterMap_cons,h1,Option.map_some,List.zip_cons_cons]
  rw [zip_binds names vs L (by simpa using h) λ p hp=>hl p (.tail _ hp)]
theorem zip_lookup:∀ (names:List Str) (vs:List Value),names.Nodup->∀ p∈names.zip vs,(names.zip vs).lookup p.1=some p.2
 | [],_,_,p,h=>by simp at h
 | n::names,[],_,p,h=>by simp at h
 | n::names,v::vs,hn,p,h=>by
  rw [List.zip_cons_cons] at h ⊢
  rw [nodup_cons] at hn
  rcases mem_cons.mp h with q | q
  . subst q;simp
  . have hne:(p.1==n)=false:=beq_eq_false_iff_ne.mpr λ e=>hn.1 (e▸(of_mem_zip q).1)
    rw [lookup_cons,hne]
    exact zip_lookup names vs hn.2 p q
structure Plain(fd:FuncData)(ps:List Str):Prop where
 po:fd.params.posonlyargs=[]
 args:fd.params.args.map (·.arg)=ps
 va:fd.params.vararg=none
 ko:fd.params.kwonlyargs=[]
 kw:fd.params.kwarg=none
 df:fd.defaults=.none
 nodup:ps.Nodup
theorem no_miss{ps:List Str}{cvs:List Value}(hn:ps.Nodup)(hl:ps.length=cvs.length):(ps.filter λ n=>((ps.zip cvs).lookup n).isNone)=[]:=by
 rw [List.filter_eq_nil_iff]
 intro n hn'
 obtain ⟨i,hi,e⟩:=List.getElem_of_mem hn'
 have:(n,cvs[i]'(hl▸hi))∈ps.zip cvs:=List.mem_iff_getElem?.mpr ⟨i,List.getElem?_zip_eq_some.mpr ⟨e▸List.getElem?_eq_getElem hi,List.getElem?_eq_getElem _⟩⟩
 rw [zip_lookup ps cvs hn _ this];exact Bool.false_ne_true
theorem bind_is{fd:FuncData}{ps:List Str}(h:Plain fd ps)(cvs:List Value):∃ (E1 E2:Sem (List (Str×Value))) (B:Str×Value->List (Str×Value)->Sem (ForInStep (List (Str×Value)))) (R:List (Str×Value)->Sem (List (Str×Value))),
  (bindArgs fd ⟨cvs,[]⟩=if (decide (cvs.length>ps.length)&&true)=true then E1 else if (!((ps.take (ps.length-(List.drop (0-ps.length) ([]:List Value)).length)).filter λ n=>((ps.zip cvs).lookup n).isNone).isEmpty)=true then E2 else (forIn ((ps.drop (ps.length-(List.drop (0-ps.length) ([]:List Value)).length)).zip (List.drop (0-ps.length) [])) (ps.zip cvs) B >>= R)) /\
   R (ps.zip cvs)=pure ((ps++[]).filterMap λ n=>((ps.zip cvs).lookup n).map (n,·)):=by
 obtain ⟨nm,qn,⟨po,as,va,ko,kd,kw,df⟩,bd,sc,gl,cl,dfs,kwd,r5,r6,r7,r8,r9,r10⟩:=fd
 obtain ⟨h1,h2,h3,h4,h5,h6,h7⟩:=h
 dsimp only at h1 h2 h3 h4 h5 h6
 subst h1 h2 h3 h4 h5 h6
 refine ⟨_,_,_,_,rfl,?_⟩
 rfl
theorem bind_plain{fd:FuncData}{ps:List Str}(h:Plain fd ps){cvs:List Value}(hl:ps.length=cvs.length):bindArgs fd ⟨cvs,[]⟩=pure (ps.zip cvs):=by
 obtain ⟨E1,E2,B,R,e,r⟩:=bind_is h cvs
 rw [drop_nil,length_nil,Nat.sub_zero,List.take_length,List.drop_length,no_miss h.nodup hl] at e
 rw [append_nil,zip_binds ps cvs _ hl (zip_lookup ps cvs h.nodup)] at r
 rw [e,if_neg (by rw [hl,Bool.and_true,decide_eq_true_eq];exact Nat.lt_irrefl _)]
 exact r
theorem bindL_not{k:Str->Option NameKind}{x:Str}:∀ (bs:List (Str×Value)) (m:Str->Option Value),x∉bs.map (·.1)->bindL k bs m x=m x
 | [],_,_=>rfl
 | (n,v)::r,m,h=>by
  unfold bindL
  rw [bindL_not r _ λ q=>h (.tail _ q)]
  have hne:x≠n:=λ q=>h (q▸.head _)
  split <;> simp [hne]
theorem bindC_not{k:Str->Option NameKind}{x:Str}:∀ (bs:List (Str×Value)) (m:Str->Option Value),x∉bs.map (·.1)->bindC k bs m x=m x
 | [],_,_=>rfl
 | (n,v)::r,m,h=>by
  unfold bindC
  rw [bindC_not r _ λ q=>h (.tail _ q)]
  have hne:x≠n:=λ q=>h (q▸.head _)
  split <;> simp [hne]
theorem bindL_get{k:Str->Option NameKind}{x:Str}{v:Value}(hk:k x=some .local):∀ (bs:List (Str×Value)) (m:Str->Option Value),(bs.map (·.1)).Nodup->(x,v)∈bs->bindL k bs m x=some v
 | [],_,_,h=>by cases h
 | (n,w)::r,m,hn,h=>by
  rw [map_cons,nodup_cons] at hn
  unfold bindL
  rcases mem_cons.mp h with q | q
  . cases q
    rw [bindL_not r _ hn.1];simp [hk]
  . exact bindL_get hk r _ hn.2 q
theorem bindC_get{k:Str->Option NameKind}{x:Str}{v:Value}(hk:k x≠some .local):∀ (bs:List (Str×Value)) (m:Str->Option Value),(bs.map (·.1)).Nodup->(x,v)∈bs->bindC k bs m x=some v
 | [],_,_,h=>by cases h
 | (n,w)::r,m,hn,h=>by
  rw [map_cons,nodup_cons] at hn
  unfold bindC
  rcases mem_cons.mp h with q | q
  . cases q
    rw [bindC_not r _ hn.1];simp [hk]
  . exact bindC_get hk r _ hn.2 q
theorem cellsFrom_has{x:Str}:∀ (names:List (Str×NameKind)) (n:Nat) (acc:List (Str×Addr)),(x,NameKind.cell)∈names\/(acc.lookup x).isSome=true->((cellsFrom n names acc).lookup x).isSome=true
 | [],_,_,h=>h.elim (λ h=>by cases h) id
 | (y,k)::r,n,acc,h=>by
  unfold cellsFrom
  by_cases hk:(k==.cell)=true
  . rw [if_pos hk]
    refine cellsFrom_has r (n+1) _ ?_
    by_cases hy:(x==y)=true
    . exact .inr (by rw [lookup_cons,hy];rfl)
    . refine h.imp (λ e=>?_) λ e=>?_
      . rcases mem_cons.mp e with q | q
        . cases q;simp at hy
        . exact q
      . rw [lookup_cons];simpa only [hy] using e
  . rw [if_neg hk]
    refine cellsFrom_has r n acc (h.imp (λ e=>?_) id)
    rcases mem_cons.mp e with q | q
    . cases q;simp at hk
    . exact q
section
variable {C:Cx}{K:Kx}{P:Kept}{d:Nat}{Z:Hp}{s s':Shared}{A:Around}{tc:Tc}{hx:Option Addr}{fs:List Env}
theorem above_none{h:Heap}{a:Addr}(ha:h.objs.size<=a):h.get? a=none:=by
 cases q:h.get? a with
 | none=>rfl
 | some o=>exact absurd (Heap.lt_size q) (Nat.not_lt.mpr ha)
inductive FnAt(C:Cx)(tc:Tc)(a:Addr)(ps:List Str)(body:List Stmt):Prop
 | mk (o fd) (h1:C.base.get? a=some o) (h2:o.data=.func fd) (h3:C.base.CodeRec fd.code fd.qualname) (h4:fd.body=.stmts body) (h5:Plain fd ps) (h6:fd.closure=[]) (h7:fd.globals=mainGlobals) (h8:fd.builtins=builtinsNs) (h9:fd.scope.names=tc.kinds) (h10:fd.scope.kind=.function) (h11:fd.scope.isCoroutine=false) (h12:fd.scope.isGenerator=false):FnAt C tc a ps body
structure FnOk(C:Cx)(tc:Tc)(a:Addr)(ps:List Str)(body:List Stmt):Prop where
 fn:FnAt C tc a ps body
 pre:∀ (i:Nat) x,ps[i]?=some x->tc.names[i]?=some x
 kinds:∀ x∈ps,tc.kinds.lookup x=some .local\/tc.kinds.lookup x=some .cell
noncomputable def semFn(C:Cx)(hd:Bool)(d:Nat)(n:String)(vs:List AV)(Z:Hp)(Q:Post)(X:XPost):Prop:=∀ {a cvs P hx fs s A},C.fnAt n=some a->hx.isSome=hd->StB C P hx fs Z s->All2 AV.is vs cvs->ABk A hx fs d->(∃ e r,fs=e::r) ->
  codeAny (model C.prog C.w) A (.call (.ref a) ⟨cvs,[]⟩) (RB C P hx fs Q X) s
theorem arg_at{vs:List AV}{n i:Nat}{v:AV}(h:(args1 n vs)[i]?=some (some v)):vs[i]?=some v:=by
 unfold args1 at h
 rcases Nat.lt_or_ge i (vs.map some).length with q | q
 . rw [List.getElem?_append_left q] at h
   obtain ⟨w,h1,h2⟩:=map_get h
   rw [h1,Option.some.inj h2]
 . rw [List.getElem?_append_right q,List.getElem?_replicate] at h
   split at h <;> cases h
structure Ent'(tc:Tc)(ps:List Str)(env:Env)(s:Shared):Prop where
 kindOf:∀ x,env.kindOf x=tc.kinds.lookup x
 loc:env.locals=s.heap.objs.size
 fr:env.frame=some s.heap.objs.size
 cells:∀ x,tc.kinds.lookup x=some .cell->(env.cells.lookup x).isSome=true
 names:env.scope.names=tc.kinds
 kind:env.scope.kind=.function
 gl:env.globals=mainGlobals
 bl:env.builtins=builtinsNs
 pre:∀ (i:Nat) x,ps[i]?=some x->tc.names[i]?=some x
 kinds:∀ x∈ps,tc.kinds.lookup x=some .local\/tc.kinds.lookup x=some .cell
 nodup:ps.Nodup
theorem StB.enter{env:Env}{ps:List Str}{vs:List AV}{cvs:List Value}{n:Nat}(E:Ent' tc ps env s)(B:StB C P hx fs Z s)(hv:All2 AV.is vs cvs)(hl:ps.length=vs.length)
  (hns:s'.heap.Ns env.locals (bindL env.kindOf (ps.zip cvs) λ V=>none)) (hcell:∀ x c,env.cells.lookup x=some c->s'.heap.IsCell c (bindC env.kindOf (ps.zip cvs) (λ V=>none) x)) (keep:∀ b o,s.heap.get? b=some o->s'.heap.get? b=some o)
  (hnew:∀ x c,env.cells.lookup x=some c->s.heap.get? c=none) (hg:s'.gens=s.gens) (ho:s'.os=s.os):St C P ⟨hx,env,tc.names,env::fs⟩ (args1 n vs) Z s':=by
 have hLn:s.heap.get? env.locals=none:=by rw [E.loc];exact fresh_size _
 have hlen:ps.length=cvs.length:=hl.trans hv.length
 have B':StB C P hx fs Z s':=B.step (λ V=>False) (λ V h=>h.elim) (λ V V V V h=>h.elim) (λ b o V e=>⟨o,keep b o e,.inl rfl⟩) (λ V V h=>h.elim) (λ V V e=>.inl ⟨id,e⟩) (λ V V V e=>e) (λ V c d V e=>⟨c,d,e⟩) hg ho
 refine { B' with frs:=λ e he=>?_,locs:=⟨_,_,hns,hcell,λ i x v hx hv'=>?_⟩,own:=λ b hb=>?_ }
 . rcases mem_cons.mp he with rfl | q
   . obtain ⟨o,es,ep,e1,e2,V⟩:=hns
     exact ⟨by rw [E.kind];exact nofun,e.locals,o,by rw [E.fr,E.loc],e1,⟨es,ep,e2⟩,B.newBase hLn,B.newNone hLn⟩
   . exact B'.frs e q
 . obtain ⟨cv,hcv,hr⟩:=hv.get (arg_at hv')
   have hi:i<ps.length:=by rw [hlen];exact (List.getElem?_eq_some_iff.mp hcv).1
   have hxp:=List.getElem?_eq_getElem hi
   rw [same (E.pre i _ hxp) hx] at hxp
   have hmem:(x,cv)∈ps.zip cvs:=List.mem_iff_getElem?.mpr ⟨i,List.getElem?_zip_eq_some.mpr ⟨hxp,hcv⟩⟩
   have nodup:((ps.zip cvs).map (·.1)).Nodup:=by rw [List.map_fst_zip (Nat.le_of_eq hlen)];exact E.nodup
   refine ⟨cv,hr,?_⟩
   rcases E.kinds x (of_mem_zip hmem).1 with k | k
   . exact .inl ⟨(E.kindOf x).trans k,bindL_get ((E.kindOf x).trans k) _ _ nodup hmem⟩
   . exact .inr ⟨(E.kindOf x).trans k,E.cells x k,bindC_get (by rw [E.kindOf,k];exact nofun) _ _ nodup hmem⟩
 . have:s.heap.get? b=none:=by
    rcases hb with rfl | ⟨x,hx⟩
    . exact hLn
    . exact hnew x b hx
   exact ⟨B.newNone this,B.newBase this,B.newP this⟩
theorem enter_code{a:Addr}{ps:List Str}{body:List Stmt}{pss:List PS}{vs:List AV}{cvs:List Value}{Q:Post}{X:XPost}{n:Nat}(hC:C.Ok)(hf:FnOk C tc a ps body)(hb:SSs C K tc body pss)(hx':hx.isSome=tc.hd)(B:StB C P hx fs Z s)
  (hv:All2 AV.is vs cvs) (hl:ps.length=vs.length) (hA:ABk A hx fs d) (w:pSs K tc.hd d pss (args1 n vs) Z (λ V Z'=>Q .none Z') Q (λ V a Z'=>X a Z')):
  codeAny (model C.prog C.w) A (.call (.ref a) ⟨cvs,[]⟩) (RB C P hx fs Q X) s:=by
 obtain ⟨o,fd,h1,h2,h3,h4,h5,h6,h7,h8,h9,h10,h11,h12⟩:=hf.fn
 have cellsOk:∀ n x,tc.kinds.lookup x=some .cell->((cellsFrom n fd.scope.names []).lookup x).isSome=true:=λ n x h=>cellsFrom_has _ _ _ (.inl (by rw [h9];exact mem_of_lookup h))
 refine codeAny_call_cells (o:=o) (fd:=fd) (body:=body) (binds:=ps.zip cvs) (Nat.lt_of_le_of_lt (Nat.le_add_right _ (d+1)) hA.depth) (B.base _ _ h1) h2 (Heap.NoLimit.keeps hC B.base) ?_ h4 (bind_plain h5 (hl.trans hv.length)) h6 (λ x hx=>?_) (λ s₁ I=>?_) h11 h12 h10
 . obtain ⟨c,o,vs,t,e1,e2,e3⟩:=h3
   exact ⟨c,o,vs,t,e1,B.base _ _ e2,e3⟩
 . rw [h9]
   exact (hf.kinds x.1 (of_mem_zip hx).1).imp id λ h=>⟨h,by rw [<-h9];exact cellsOk _ _ h⟩
 . obtain ⟨⟨⟨h',tk,hs₁⟩,hns,keep,fresh⟩,hcell,hap,habove⟩:=I
   have hgens:s₁.gens=s.gens:=by rw [hs₁]
   have hos:s₁.os=s.os:=by rw [hs₁]
   clear hs₁
   have En:Ent' tc ps (callEnvC fd s.heap.objs.size a) s:=⟨λ x=>by show fd.scope.names.lookup x=_;rw [h9],rfl,rfl,λ x h=>cellsOk _ x h,h9,h10,h7,h8,hf.pre,hf.kinds,h5.nodup⟩
   generalize callEnvC fd s.heap.objs.size a=env at *
   have S₁:=B.enter (s':=s₁) (n:=n) En hv hl hns hcell keep (λ x c hc=>above_none (Nat.le_of_lt (En.loc▸habove x c (mem_of_lookup hc)))) hgens hos
   have H:Fr tc ⟨hx,env,tc.names,env::fs⟩ (A.deeper env) d:=⟨rfl,En.names,En.gl,En.bl,hx',En.cells,by have:=hA.depth;show A.depth+1+d<1000;exact o199 this,by have:=hA.units;show A.units+3+16*d+400<cLine;exact o200 this,hA.hand,by show A.frames.map (env::·)=some (env::fs);rw [hA.frames];rfl,En.kind,
    λ x y c e1 e2=>Classical.byContradiction λ hne=>apart_ne hap e1 e2 hne rfl,⟨env,fs,rfl,rfl⟩⟩
   have drop:∀ {ρ Z s},St C P ⟨hx,env,tc.names,env::fs⟩ ρ Z s->StB C P hx fs Z s:=λ S=>{ S.toStB with frs:=λ e he=>S.frs e (.tail _ he) }
   refine wpAny_mono (hb H S₁ w) (λ fl s₂ r=>?_) λ e s₂ ⟨ρ',b,Z',c,dd,e0,S',hb',q⟩=>?_
   . cases fl with
     | next=>obtain ⟨ρ',Z',S',q⟩:=r;exact ⟨.none,Z',rfl,drop S',q⟩
     | ret v=>obtain ⟨ρ',av,Z',hv',S',q⟩:=r;exact ⟨av,Z',hv',drop S',q⟩
     | brk=>exact r.elim
     | cont=>exact r.elim
   . subst e0
     unfold leaving
     exact wpAny_bind (note_of H S' hb' λ s₃ S3 V=>flight_of S3 hb' λ s₄ S4=>⟨b,Z',c,dd,rfl,drop S4,hb',q⟩)
end
end U
namespace U
open PySem PyProof.Rows
set_option tactic.hygienic true in
theorem lookup_mem{α β:Type}[BEq α][LawfulBEq α]{l:List (α×β)}{x:α}{y:β}(h:l.lookup x=some y):(x,y)∈l:=by
 induction l with
 | nil=>cases h
 | cons p r ih=>
  obtain ⟨a,b⟩:=p
  rw [lookup_cons] at h
  split at h
  . rename_i q;cases h;rw [beq_iff_eq.mp q];exact .head _
  . exact .tail _ (ih h)
theorem AttM.set{es:List (Txt×AV)}{m:Str->Option Value}{n:Txt}{v:AV}{cv:Value}(h:AttM es m)(hv:v.is cv):AttM (dset es n v) (λ y=>if y=toS n then some cv else m y):=λ k=>by
 by_cases hk:k=n
 . subst hk
   rw [dset_here]
   exact ⟨nofun,λ w e=>⟨cv,if_pos rfl,Option.some.inj e▸hv⟩⟩
 . rw [dset_ne v hk,show (λ y=>if y=toS n then some cv else m y) (toS k)=m (toS k) from if_neg λ e=>hk (toS_inj e)];exact h k
theorem AttM.within{es:List (Txt×AV)}{m:Str->Option Value}(h:AttM es m):Within m (es.map λ e=>toS e.1):=λ y hy=>by
 cases q:es.lookup y.cps.toList with
 | none=>exact absurd ((h y.cps.toList).1 q) hy
 | some v=>exact mem_map.mpr ⟨(y.cps.toList,v),lookup_mem q,rfl⟩
section
variable {C:Cx}{K:Kx}{P:Kept}{f:Fx}{d:Nat}{ρ:Loc}{Z:Hp}{s s':Shared}{A:Around}{Q:Post}{X:XPost}{tc:Tc}{E:Value->Shared->Prop}
theorem handed{x:AV}{v:Value}(h:x.is v):handedOut v=pure v:=by
 cases x <;> first | (cases h;rfl) | (obtain ⟨V,rfl⟩:=h;rfl)
end
end U
namespace U
open PySem PyProof.Rows
section
variable {C:Cx}{K:Kx}{P:Kept}{f:Fx}{d:Nat}{ρ:Loc}{Z:Hp}{s s':Shared}{A:Around}{Q:Post}{X:XPost}{tc:Tc}{E:Value->Shared->Prop}
noncomputable def Tc.on(tc:Tc):Tc:={ tc with hd:=true }
end
end U
namespace U
open PySem PyProof.Rows
section
variable {C:Cx}{K:Kx}{P:Kept}{f:Fx}{d:Nat}{ρ:Loc}{Z:Hp}{s s':Shared}{A:Around}{Q:Post}{X:XPost}{tc:Tc}{a:Addr}
theorem seq_upd{xs xs':List AV}{cs:Array Value}{n:Nat}(fn:Array Value->Array Value)(S:St C P f ρ Z s)(e:Z a=some (.list xs))(g:s.heap.get? a=some (seqObj "list" cs n))(r:All2 AV.is xs' (fn cs).toList):
  St C P f ρ (setH Z a (.list xs')) { s with heap:=s.heap.update a (Obj.mapSeq fn) }:=
 S.upd (s':={ s with heap:=s.heap.update a (Obj.mapSeq fn) }) (o':=.list xs') e rfl (λ c d=>nofun) (λ b o hb e=>((Heap.SameBut.update (f:=Obj.mapSeq fn) (a:=a) s.heap).2 b hb).trans e) ⟨_,Heap.get?_update_self _ g rfl,_,_,rfl,r⟩
theorem call_extend:CallOk C false BOp.extend.p (.builtin "list.extend"):=λ P f ρ Z s A E Q vs cvs S V h hv=>by
 apply twoE h hv
 intro x y u v hx hy h
 apply refE h hx
 intro a h
 apply refE h hy
 intro b h
 refine ownE S h λ xs cs n e g r h=>ownE S h λ ys ds m V g' r' q=>?_
 have hz:cs.size+ds.size<=sizeLine:=app_size r r' q.1
 refine call_meets F.slot_list_extend ⟨_,g,rfl⟩ F.entry_list_extend (F.args_list_extend_2 _ _) (AutoSeq1.list_extend_list_list_0 a cs n b ds m (extend_door hz) (Nat.le_trans (Nat.le_add_right _ _) hz) (Nat.le_succ_of_le hz)) ⟨g,g',rv is_none (seq_upd (λ x=>x++ds) S e g ?_) q.2⟩
 rw [Array.toList_append];exact r.append r'
theorem call_pop:CallOk C false BOp.pop.p (.builtin "list.pop"):=λ P f ρ Z s A E Q vs cvs S V h hv=>by
 apply oneE h hv
 intro x u hx h
 apply refE h hx
 intro a h
 refine ownE S h λ xs cs n e g r h=>okE h λ v hl q=>?_
 have l:xs.length=cs.size:=r.length
 rw [List.getLast?_eq_getElem?] at hl
 obtain ⟨y,hy,hvy⟩:=r.get hl
 rw [l,Array.getElem?_toList] at hy
 refine call_meets F.slot_list_pop ⟨_,g,rfl⟩ F.entry_list_pop (F.args_list_pop_1 _) (MeetsSeq.list_pop_last a cs n y hy (l▸tooLong_lt q.1)) ⟨g,rv hvy (seq_upd (λ xs=>xs.eraseIdxIfInBounds (cs.size-1)) S e g ?_) q.2⟩
 rw [Array.toList_eraseIdxIfInBounds,List.eraseIdx_eq_take_drop_succ,List.drop_of_length_le (by rw [Array.length_toList];exact o203 l),append_nil,List.dropLast_eq_take,l]
 exact r.take _
theorem bm_extend:BmOk C .extend "extend" "list.extend":=⟨F.plainAttrs_list,F.slot_list_extend,F.type_list_extend,call_extend⟩
theorem bm_pop:BmOk C .pop "pop" "list.pop":=⟨F.plainAttrs_list,F.slot_list_pop,F.type_list_pop,call_pop⟩
inductive GlTs(tc:Tc):List Expr->List String->Prop where
 | nil:GlTs tc [] []
 | cons {y p t es ts}:Gl tc y (.typ t)->AnsT t->GlTs tc es ts->GlTs tc (.Name y p::es) (t::ts)
theorem GlTs.ans{es:List Expr}{ts:List String}(h:GlTs tc es ts):∀ t∈ts,AnsT t:=by
 induction h with
 | nil=>nofun
 | cons _ T _ ih => intro t ht; rcases mem_cons.mp ht with q | q
                    . exact q▸T
                    . exact ih t q
theorem GlTs.load{es:List Expr}{ts:List String}{pos:Pos}{E:Value->Shared->Prop}{Q:List Value->Shared->Prop}(hg:GOk C tc.g)(H:Fr tc f A d)(h:GlTs tc es ts):∀ {s:Shared},St C P f ρ Z s->(∀ s',St C P f ρ Z s'->Q (ts.map .type) s')->wpAny (model C.prog C.w) A (spliced (backTo pos (starEach es f.env))) Q E s:=by
 induction h generalizing Q with
 | nil=>intro s S q;exact Calls.spliced_nil (q s S)
 | cons G _ _ ih=>intro s S q;rw [backTo_cons rfl];exact Calls.spliced_cons (ld_glob hg H G S λ v hv=>by cases hv;exact ih S λ s' S'=>q s' S')
theorem se_isinstT{x:Str}{p tp pos:Pos}{k:Nat}{ts:List String}{e:Expr}{es:List Expr}{pe:PE}(hg:GOk C tc.g)(G:Gl tc x (.bi "isinstance"))(G':GlTs tc es ts)(hl:ts.length<30)(hn:notStar e=true)(he:SE C K tc e pe):SE C K tc (.Call (.Name x p) [e,.Tuple es k tp] [] pos) (.prim (.isinst ts) [pe]):=λ P f d ρ Z s A Q X H S w=>by
 refine wpAny_Call_NameR (ld_glob hg H G S λ v hv=>?_)
 cases hv
 have hn2:[e,Expr.Tuple es k tp].all notStar=true:=by rw [all_cons,hn];rfl
 refine Calls.callWith_builtin (star_any hn2) (args_of hn2 ?_)
 rw [backTo_cons hn,backTo_cons rfl]
 refine Calls.spliced_cons (fitv (he H S w) λ v s₁ av Z1 hv S₁ q=>Calls.spliced_cons (wpAny_Tuple_spliced (G'.load hg H S₁ λ s₂ S₂=>⟨?_,?_⟩)))
 . rw [length_map];exact Nat.le_trans (Nat.le_of_lt hl) (by decide)
 . have S3:St C P f ρ Z1 { s₂ with heap:=s₂.heap.push { cls:=.type "tuple",data:=.seq (ts.map Value.type).toArray } }:=S₂.keeps λ b o e=>Heap.get?_push_of_some _ e
   exact Calls.spliced_nil (okE q λ k hk q=>IsiPair.tupleOf (ans_all S3 hv hk G'.ans) (kind_is S3 hv hk) (Heap.get?_push_size _ rfl) λ tk=>by rw [isOf_any];exact rv is_bool (S3.tok _) q)
noncomputable def KeyC(e:Option Expr)(k:Txt):Prop:=∃ n p,e=some (.Constant (.str (toS k)) n p)
theorem pairs_e{keys:List (Option Expr)}{ks:List Txt}{pos:Pos}(H:Fr tc f A d)(hk:All2 KeyC keys ks):∀ {values:List Expr} {pes:List PE} {Qs:List AV->Hp->Prop} {Q':List (Value×Value)->Shared->Prop} {s:Shared} {Z:Hp},All2 (SE C K tc) values pes->keys.length=values.length->St C P f ρ Z s->pEs K tc.hd d pes ρ Z Qs X ->
  (∀ vs s₁ avs Z1 kvs,Carries (strKind C.prog C.w) vs kvs->avs.length=ks.length->All2 Ent (ks.zip avs) kvs->St C P f ρ Z1 s₁->Qs avs Z1->Q' vs s₁)->wpAny (model C.prog C.w) A (evalPairs (pairTrees keys values f.env pos)) Q' (RX C P f ρ X) s:=by
 induction hk with
 | nil=>
  intro values pes Qs Q' s Z hv hl S w q
  cases hv with
  | nil=>exact pairTrees_nil_walk (q [] s [] Z [] trivial rfl .nil S w)
  | cons _ _=>cases hl
 | @cons ke k keys ks hk _ ih=>
  intro values pes Qs Q' s Z hv hl S w q
  cases hv with
  | nil=>cases hl
  | cons he hr=>
   obtain ⟨n,p,rfl⟩:=hk
   refine pairTrees_cons_walk (wpAny_Constant_str ?_)
   refine fitv (he H (S.tok _) w) λ vv s₂ av Z2 hvv S₂ q₂=>ih hr (Nat.succ.inj hl) S₂ q₂ λ vs s₃ avs Z3 kvs h1 h2 h3 S3 q₃=>?_
   exact q _ _ (av::avs) Z3 ((toS k,vv)::kvs) ⟨strKind_is C.prog C.w (toS k) _,rfl,h1⟩ (congrArg Nat.succ h2) (.cons ⟨rfl,hvv⟩ h3) S3 q₃
theorem ent_keys{ks:List Txt}:∀ {avs:List AV} {kvs:List (Str×Value)},avs.length=ks.length->All2 Ent (ks.zip avs) kvs->kvs.map (·.1)=ks.map toS:=by
 induction ks with
 | nil=>intro avs kvs V h;cases h;rfl
 | cons k ks ih=>
  intro avs kvs hl h
  cases avs with
  | nil=>cases hl
  | cons v avs=>cases h with
   | cons e r=>rw [map_cons,map_cons,ih (Nat.succ.inj hl) r,e.1]
theorem se_dict{keys:List (Option Expr)}{ks:List Txt}{values:List Expr}{pes:List PE}{pos:Pos}(hC:C.Ok)(hk:All2 KeyC keys ks)(hv:All2 (SE C K tc) values pes)(hl:keys.length=values.length)(hn:ks.Nodup)(h0:keys≠[])(h15:keys.length<=15):
  SE C K tc (.Dict keys values pos) (.dict ks pes):=λ P f d ρ Z s A Q X H S w=>by
 have hall:keys.all (·.isSome)=true:=by
  clear h0 h15 hl w
  induction hk with
  | nil=>rfl
  | cons h _ ih=>obtain ⟨n,p,rfl⟩:=h;rw [all_cons,ih (nodup_cons.mp hn).2];rfl
 refine wpAny_Dict_walk (knd:=strKind C.prog C.w) hall hl h0 h15 ?_
 have S0:=S.new (s':={ s with heap:=s.heap.push { cls:=.type "dict",data:=.dict #[] } }) (a:=s.heap.objs.size) (o:=.dict []) (λ V V e=>Heap.get?_push_of_some _ e) (fresh_size _)
  ⟨_,Heap.get?_push_size _ rfl,⟨[],.nil,λ V V e=>⟨_,#[],0,e,⟨rfl,rfl,rfl⟩,rfl,(λ V h=>absurd h (by simp)),.nil,.nil⟩⟩,S.notSys hC (Nat.le_refl _)⟩
 refine pairs_e H hk hv hl S0 (w _ (S.newNone (fresh_size _))) λ vs s₁ avs Z1 kvs h1 h2 h3 S₁ q=>⟨kvs,h1,?_,λ h' hd hs=>?_⟩
 . obtain ⟨ob,g,⟨kv0,r,D⟩,V⟩:=S₁.rel _ _ q.1.2
   cases r;exact D _ _ g
 . rw [merged_nil_of_nodup kvs (by rw [ent_keys h2 h3];exact List.Pairwise.map toS (λ a b h e=>h (toS_inj e)) hn)] at hd
   obtain ⟨o,es',ep,e1,e2⟩:=id hd
   refine rv (av:=.ref _) rfl (S₁.upd (s':={ s₁ with heap:=h',toks:=s₁.toks+vs.length }) (o':=.dict (ks.zip avs)) q.1.2 rfl (λ c d=>nofun) (λ b o hb e=>(hs.2 b hb).trans e) ⟨o,e1,⟨kvs,h3,λ V V e=>⟨o,es',ep,e,e2⟩⟩,S.notSys hC (Nat.le_refl _)⟩) q.2
end
end U
namespace U
open PySem PyProof.Rows
end U
namespace U
open PySem PyProof.Rows
set_option maxRecDepth 100000
theorem Chn.has{h:Heap}{l:List Value}{m:Str->Option Value}(T:Chn h l m){X:String}{b:Bool}(hb:bmV.contains (.type X)=b):l.contains (.type X)=b:=by
 induction T with
 | base=>exact hb
 | own A _ _ _ _ _ _ tl _ _ _ ih=>rw [contains_cons,ih];rfl
theorem Chn.keeps{h h':Heap}{l:List Value}{m:Str->Option Value}(T:Chn h l m)(k:∀ b o,h.get? b=some o->h'.get? b=some o):Chn h' l m:=by
 induction T with
 | base=>exact .base
 | own A c0 dd cd sl mA m tl h1 h2 _ ih=>exact .own A c0 dd cd sl mA m tl (k _ _ h1) (h2.keeps k) ih
section
variable {M:Model}{A:Around}{E:Value->Shared->Prop}{h:Heap}{g:Array GenState}{d:Drawn}{t:Nat}{os:OsState}
theorem Chn.along{l:List Value}{m:Str->Option Value}{n:Str}{y:Option Value}{Q:Option Value->Shared->Prop}(T:Chn h l m)(hB:typeLookup (.type "ValueError") n=pure y)(hq:Q (match m n with | some v=>some v | none=>y) ⟨h,g,d,t,os⟩):
  wpAny M A (lookupAlong l n) Q E ⟨h,g,d,t,os⟩:=by
 have hrest:lookupAlong bmV n=pure y:=by rw [typeLookup_eq,F.excBase_ValueError.mroIs] at hB;exact hB
 induction T with
 | base=>rw [hrest];exact wpAny_pure hq
 | own a c0 dd cd sl mA m tl h1 h2 _ ih=>
  rw [lookupAlong_cons]
  refine wpAny_bind (wpAny_classOwn_cls h1 h2 ?_)
  dsimp only at hq
  cases q:mA n with
  | some v=>rw [q] at hq;exact wpAny_pure hq
  | none=>rw [q] at hq;exact ih hq
variable {nm q:Str}{C N:Addr}{bs bm:List Value}{hdct:Bool}{sn:List Str}{sub:List Value}{ab:Bool}{col:Option Bool}{dd:Option Addr}{k0 k1 k2 k3 k5:Option Value}{m:Str->Option Value}
theorem lookX{n:Str}{y:Option Value}{Q:Option Value->Shared->Prop}(hC:h.get? C=some (excClassObj nm q C N bs bm hdct sn sub ab col dd k0 k1 k2 k3 k5 "ValueError.__new__"))(T:Chn h (.ref C::bm) m)(hB:typeLookup (.type "ValueError") n=pure y)
  (hq:Q (match m n with | some v=>some v | none=>y) ⟨h,g,d,t,os⟩):wpAny M A (typeLookup (.ref C) n) Q E ⟨h,g,d,t,os⟩:=by
 rw [typeLookup_eq]
 exact wpAny_bind (wpAny_mroOf_exc hC (T.along hB hq))
theorem chkNewX(T:Chn h (.ref C::bm) m){rest:List Value}{Q:Unit->Shared->Prop}(hC:h.get? C=some (excClassObj nm q C N bs bm hdct sn sub ab col dd k0 k1 k2 k3 k5 "ValueError.__new__"))(hq:Q () ⟨h,g,d,t,os⟩):
  wpAny M A (checkBuiltinCall "ValueError.__new__" ⟨.ref C::rest,[]⟩) Q E ⟨h,g,d,t,os⟩:=by
 have F:=F.excBase_ValueError
 have hcont:=T.has F.hasB
 have hstar:=F.noStar
 simp only [checkBuiltinCall,F.newKind,F.newSplit,F.newRow]
 repeat (first | refine wpAny_loadPart_at hC ?_ | (refine wpAny_isSubtype_exc hC ?_;rw [hcont]) | refine wpAny_staticBase_exc hC ?_ | refine wpAny_madeBy_exc hC ?_ | simp only [bne_self_eq_false,Bool.false_eq_true,if_false] | wp_step)
 exact hq
theorem chkInitX(T:Chn h (.ref C::bm) m){e:Addr}{oe:Obj}{rest:List Value}{Q:Unit->Shared->Prop}(hC:h.get? C=some (excClassObj nm q C N bs bm hdct sn sub ab col dd k0 k1 k2 k3 k5 "ValueError.__new__"))(he:h.get? e=some oe)(hcls:oe.cls=.ref C)(hq:Q () ⟨h,g,d,t,os⟩):
  wpAny M A (checkBuiltinCall "ValueError.__init__" ⟨.ref e::rest,[]⟩) Q E ⟨h,g,d,t,os⟩:=by
 have F:=F.excBase_ValueError
 have hcB:=T.has F.hasB
 have hshort:=F.noStar
 simp only [checkBuiltinCall,F.initKind,F.initSplit,F.initRow]
 repeat (first | (with_reducible refine wpAny_loadPart_at he ?_;rw [hcls]) | with_reducible refine wpAny_loadPart_at hC ?_ | (with_reducible refine wpAny_isSubtype_exc hC ?_;rw [hcB]) | wp_step)
 refine wpAny_onRaise ?_
 rw [show ∀ (a b:String) (n:Nat),Bind.check ⟨.positional,"*","ValueError",.self,[⟨"args",.varPos,false⟩]⟩ a b n (List.map (λ x=>x.fst) ({ pos:=Value.ref e::rest }:Args).kw)=pure () from λ a b n=>check_star_args _ _ _ _ _ _]
 exact wpAny_pure hq
end
section
variable {prog:Program}{w:World}{A:Around}{R:Result->Shared->Prop}{E:Value->Shared->Prop}{h:Heap}{g:Array GenState}{d:Drawn}{t:Nat}{os:OsState}
variable {nm q:Str}{C N:Addr}{bs bm:List Value}{hdct:Bool}{sn:List Str}{sub:List Value}{ab:Bool}{col:Option Bool}{dd:Option Addr}{k0 k1 k2 k3 k5:Option Value}{m:Str->Option Value}
theorem newX(T:Chn h (.ref C::bm) m){rest:List Value}(hC:h.get? C=some (excClassObj nm q C N bs bm hdct sn sub ab col dd k0 k1 k2 k3 k5 "ValueError.__new__"))
  (hq:R (.ok (.ret (.ref (h.objs.size+1)))) ⟨(h.push { cls:=.type "tuple",data:=.seq rest.toArray }).push { cls:=.ref C,data:=.fields #[.ref h.objs.size,.none,.none,.none,.bool false,.none] },g,d,t,os⟩) (hrest:rest.length<=sizeLine):
  codeAny (model prog w) A (.builtin "ValueError.__new__" ⟨.ref C::rest,[]⟩) R ⟨h,g,d,t,os⟩:=by
 have F:=F.excBase_ValueError
 have hends:=F.ends
 have hcB:=T.has F.hasB
 have hcA:=T.has F.noAttr
 have hcN:=T.has F.noName
 refine codeAny_builtinAt F.entry ?_
 unfold Builtin.«BaseException.__new__»
 refine PySem.wpAt_bind ?_
 show PySem.wpAt _ _ _ (stack >>= _) _ _ _
 refine PySem.wpAt_bind (PySem.wpAt_stack λ p below=>PySem.wpAt_of_wpAny ?_)
 wp_walk
 refine PySem.wpAt_of_wpAny ?_
 rw [F.owner]
 repeat (first | with_reducible refine wpAny_madeHere_exc F.canon hC ?_ | with_reducible refine wpAny_loadPart_at hC ?_ | (with_reducible refine wpAny_isSubtype_exc hC ?_;first | rw [hcB] | rw [hcA] | rw [hcN]) | wp_step)
 show R _ _
 rw [Heap.size_push]
 exact hq
theorem typeCallX(T:Chn h (.ref C::bm) m){rest:List Value}{fI:Addr}{oI:Obj}{Q:Fin->Shared->Prop}(hC:h.get? C=some (excClassObj nm q C N bs bm hdct sn sub ab col dd k0 k1 k2 k3 k5 "ValueError.__new__"))(hi:m "__init__" = some (.ref fI))(hfI:h.get? fI=some oI)(hfc:oI.cls=.type "function")
  (hq:∀ h' e,Heap.MadeExcOf h h' e (.ref C) rest->wpAny (model prog w) A (call (.ref fI) (.ref e::rest)) (λ r s'=>r=.none/\Q (.done (.ret (.ref e))) s') E ⟨h',g,d,t,os⟩) (hrest:rest.length<=sizeLine):
  wpAny (model prog w) A (Builtin.«type.__call__» ⟨.ref C::rest,[]⟩) Q E ⟨h,g,d,t,os⟩:=by
 repeat (first | with_reducible refine wpAny_loadPart_at hC ?_ | with_reducible refine wpAny_madeBy_exc hC ?_ | wp_step)
 refine codeAny_call_builtin_code (Code.quiet_builtin _ F.excBase_ValueError.quiet) (chkNewX T hC ?_)
 refine newX T hC ?_ hrest
 show wpAny _ _ _ _ _ _
 have kp:∀ b o,h.get? b=some o->((h.push { cls:=.type "tuple",data:=.seq rest.toArray }).push { cls:=.ref C,data:=.fields #[.ref h.objs.size,.none,.none,.none,.bool false,.none] }).get? b=some o:=λ b o e=>Heap.get?_push_of_some _ (Heap.get?_push_of_some _ e)
 have hC1:=kp _ _ hC
 have hfI1:=kp _ _ hfI
 have T₁:=T.keeps kp
 have hget:((h.push { cls:=.type "tuple",data:=.seq rest.toArray }).push { cls:=.ref C,data:=.fields #[.ref h.objs.size,.none,.none,.none,.bool false,.none] }).get? (h.objs.size+1)=some { cls:=.ref C,data:=.fields #[.ref h.objs.size,.none,.none,.none,.bool false,.none] }:=by heap_get
 have hcC:(Value.ref C::bm).contains (.ref C)=true:=by simp
 unfold isInstance
 repeat (first | with_reducible refine wpAny_loadPart_at hget ?_ | (with_reducible refine wpAny_isSubtype_exc hC1 ?_;rw [hcC]) | wp_step)
 show wpAny _ _ (typeLookup (.ref C) _) _ _ _
 refine lookX hC1 T₁ F.excBase_ValueError.init.lookup ?_
 rw [hi]
 refine wpAny_holding (wpAny_bind ?_)
 unfold bindSpecial
 refine wpAny_bind (wpAny_typeOf (T:="function") ⟨_,hfI1,hfc⟩ ?_)
 rw [if_pos (by decide)]
 refine wpAny_pure (wpAny_bind (wpAny_mono (hq _ (h.objs.size+1) ⟨kp,Heap.get?_none_of_le (Nat.le_succ _),h.objs.size,hget,Heap.get?_none_of_le (Nat.le_refl _),?_⟩) (λ r s' hr=>?_) λ V V x=>x))
 . exact Heap.get?_push_of_some _ (Heap.get?_push_at rfl rfl)
 . obtain ⟨rfl,hQ⟩:=hr
   wp_walk
   exact hQ
theorem callX(T:Chn h (.ref C::bm) m){rest:List Value}{fI:Addr}{oI:Obj}{Q:Value->Shared->Prop}(hC:h.get? C=some (excClassObj nm q C N bs bm hdct sn sub ab col dd k0 k1 k2 k3 k5 "ValueError.__new__"))(hi:m "__init__" = some (.ref fI))(hfI:h.get? fI=some oI)(hfc:oI.cls=.type "function")
  (hq:∀ h' e,Heap.MadeExcOf h h' e (.ref C) rest->wpAny (model prog w) (A.under (.builtin "type.__call__" ⟨.ref C::rest,[]⟩)) (call (.ref fI) (.ref e::rest)) (λ r s'=>r=.none/\Q (.ref e) s') E ⟨h',g,d,t,os⟩) (hrest:rest.length<=sizeLine):
  wpAny (model prog w) A (call (.ref C) rest) Q E ⟨h,g,d,t,os⟩:=by
 have f1:=tc_lookup
 have f2:=tc_bind (.ref C)
 have hT:(⟨h,g,d,t,os⟩:Shared).TypeIs (.ref C) "type":=⟨_,hC,rfl⟩
 refine wpAny_call (codeAny_of_tree ?_)
 show wpAny _ _ (callAny (.ref C) _) _ _ _
 repeat (any_goals (first | assumption | with_reducible refine wpAny_loadPart_at hC ?_ | wp_step))
 refine ⟨rfl,?_⟩
 exact codeAny_call_builtin_at (Code.quiet_builtin _ (by decide +kernel)) entry_typeCall (wpAny_check_type_call_sub hC (typeCallX T hC hi hfI hfc (λ h' e hm=>hq h' e hm) hrest))
end
end U
namespace U
open PySem PyProof.Rows
set_option maxRecDepth 100000
theorem xl1:typeLookup (.type "type") "__getattribute__" = pure (some (.builtin "type.__getattribute__")):=by rw [typeLookup_type,builtinLookup_eq_fast];kernel_rfl
theorem xl2:typeLookup (.type "type") "__init__" = pure (some (.builtin "type.__init__")):=by rw [typeLookup_type,builtinLookup_eq_fast];kernel_rfl
theorem xl3:typeLookup (.type "ValueError") "__init__" = pure (some (.builtin "ValueError.__init__")):=by rw [typeLookup_type,builtinLookup_eq_fast];kernel_rfl
theorem xl4:typeOf (.builtin "type.__init__")=pure (.type "wrapper_descriptor"):=by show builtinType _=_;rw [builtinType_eq_fast];kernel_rfl
theorem xl5:typeOf (.builtin "ValueError.__init__")=pure (.type "wrapper_descriptor"):=by show builtinType _=_;rw [builtinType_eq_fast];kernel_rfl
theorem xl6:typeLookup (.type "wrapper_descriptor") "__get__" = pure (some (.builtin "wrapper_descriptor.__get__")):=by rw [typeLookup_type,builtinLookup_eq_fast];kernel_rfl
theorem xl7:typeLookup (.type "wrapper_descriptor") "__set__" = pure none:=by rw [typeLookup_type,builtinLookup_eq_fast];kernel_rfl
theorem xl8:typeLookup (.type "wrapper_descriptor") "__delete__" = pure none:=by rw [typeLookup_type,builtinLookup_eq_fast];kernel_rfl
theorem xe1:entryFor table "type.__getattribute__" = some Builtin.«type.__getattribute__»:=entryFor_of_tree (by kernel_rfl)
theorem xo1:opaqueClassAbove (.type "ValueError")=pure none:=by unfold opaqueClassAbove;dsimp only;rw [show Manifest.isStub "ValueError" = false by decide +kernel];rfl
theorem xs1:Slot "type" "__getattribute__" "type.__getattribute__" :=
 .of (owner:="type") (n:="__getattribute__") (by rw [typeLookup_type,builtinLookup_eq_fast];kernel_rfl) (by decide +kernel) (by decide +kernel) (by decide +kernel)
  (by first | exact .inl (by decide +kernel) | exact .inr (by decide +kernel)) (by rw [isSubtype_type];kernel_rfl)
theorem xt1:typeOf (.type "ValueError")=pure (.type "type"):=by first | rfl | kernel_rfl
section
variable {C:Cx}{P:Kept}{f:Fx}{ρ:Loc}{Z:Hp}{s:Shared}{A:Around}{E:Value->Shared->Prop}
theorem getm_init{pl:Sem Bool}{Q:Value×List Value->Shared->Prop}(h:Q (.builtin "ValueError.__init__",[]) { s with toks:=s.toks+1 }):
  wpAny (model C.prog C.w) A (getMethod (.type "ValueError") "__init__" pl) Q E s:=by
 unfold getMethod specialOf
 refine wpAny_bind (wpAny_bind (wpAny_of_eq xt1 (wpAny_of_eq xl1 ?_)))
 dsimp only
 rw [if_pos (by decide +kernel)]
 refine wpAny_bind (wpAny_mono (Q:=λ v s'=>v=.builtin "ValueError.__init__" /\ s'={ s with toks:=s.toks+1 }) (E:=E) ?_ (λ v s' z=>by obtain ⟨rfl,rfl⟩:=z;exact wpAny_pure h) λ V V z=>z)
 unfold getAttr
 refine wpAny_bind (wpAny_mkText ?_)
 unfold getAttrBy
 refine wpAny_holding (wpAny_bind (wpAny_of_eq xt1 (wpAny_bind (wpAny_of_eq xl1 ?_))))
 dsimp only
 rw [if_neg (by decide)]
 unfold getAttrByItsOwn
 refine wpAny_bind (wpAny_of_eq (a:=none) rfl ?_)
 refine wpAny_bind (wpAny_attempt (wpAny_holding ?_))
 show wpAny _ _ (boundAndCalled _ _ _) _ _ _
 unfold boundAndCalled
 refine wpAny_bind (wpAny_of_eq (xs1.bind (.type "ValueError")) ?_)
 dsimp only
 refine wpAny_call_entry xs1 xt1 xe1 ?_ ?_
 . show wpAny _ _ (Builtin.«type.__getattribute__» ⟨[.type "ValueError",.str (Str.ofString "__init__") s.toks],[]⟩) _ _ _
   unfold Builtin.«type.__getattribute__» specialOf
   dsimp only
   refine wpAny_bind (wpAny_of_eq (a:=some (Str.ofString "__init__")) rfl ?_)
   dsimp only
   refine wpAny_bind (wpAny_of_eq xo1 ?_)
   dsimp only
   refine wpAny_bind (wpAny_of_eq xt1 (wpAny_bind (wpAny_of_eq xl2 ?_)))
   dsimp only
   refine wpAny_bind (wpAny_bind (wpAny_of_eq xl4 (wpAny_of_eq xl6 ?_)))
   dsimp only
   refine wpAny_bind (wpAny_bind (wpAny_of_eq xl4 (wpAny_of_eq xl7 ?_)))
   rw [if_neg (show ¬(none:Option Value).isSome=true from Bool.false_ne_true)]
   refine wpAny_bind (wpAny_bind (wpAny_of_eq xl4 (wpAny_of_eq xl8 ?_)))
   refine wpAny_bind (wpAny_pure ?_)
   rw [if_neg (show ¬(none:Option Value).isSome=true from Bool.false_ne_true)]
   refine wpAny_bind (wpAny_of_eq xl3 ?_)
   dsimp only
   rw [if_neg (by decide +kernel)]
   refine wpAny_bind (wpAny_of_eq xl5 ?_)
   rw [if_pos (by decide +kernel)]
   exact wpAny_pure ⟨_,rfl,wpAny_pure ⟨rfl,rfl⟩⟩
 . unfold argsOk;kernel_rfl
theorem exc_init{a ca:Addr}{c:String}{dd:Option Addr}{x:Str}{tk:Tok}{mN:Str->Option Value}{Q:Value->Shared->Prop}(S:St C P f ρ Z s)(ha:Z a=some (.exc c dd))(hca:C.clsAt c=some ca)(X:XCls C ca mN)
  (h:∀ s',St C P f ρ Z s'->Q .none s'):wpAny (model C.prog C.w) A (call (.builtin "ValueError.__init__") [.ref a,.str x tk]) Q E s:=by
 obtain ⟨bm,⟨N,nm,q,bs,sn,sub,ab,col,dd',k0,k1,k2,k3,k5,hC⟩,hT⟩:=X
 obtain ⟨oe,e0,ca',vs,e1,e3,e4,e5,e6,e7,e8⟩:=S.rel a _ ha
 cases same hca e1
 have hC:=S.base _ _ hC
 have hT:=hT.keeps S.base
 have F:=F.excBase_ValueError
 obtain ⟨hp,g,d,t,os⟩:=s
 refine wpAny_call (codeAny_call_builtin F.init.plain F.initEntry (chkInitX hT hC e0 e3 ?_))
 unfold Builtin.«BaseException.__init__»
 dsimp only
 rw [if_neg (by decide)]
 refine wpAny_bind (wpAny_newTuple ?_ (by show 1<=sizeLine;decide))
 unfold Builtin.BaseException.bexcPut
 have he:(hp.push { cls:=.type "tuple",data:=.seq [Value.str x tk].toArray }).get? a=some oe:=Heap.get?_push_of_some _ e0
 have h0:vs[0]?=some (vs[0]'(Nat.lt_trans (by decide) e6)):=Array.getElem?_eq_getElem _
 have hd₃:=Obj.data_mapFields e5 (·.setIfInBounds 0 (Value.ref hp.objs.size))
 have he₃:=Heap.get?_update_self (Obj.mapFields (·.setIfInBounds 0 (Value.ref hp.objs.size))) he (Obj.isFreed_of_fields hd₃)
 have kp:∀ b o,b≠a->hp.get? b=some o->((hp.push { cls:=.type "tuple",data:=.seq [Value.str x tk].toArray }).update a (Obj.mapFields (·.setIfInBounds 0 (Value.ref hp.objs.size)))).get? b=some o:=λ b o hb e=>
  (Heap.get?_update_other _ _ (Ne.symm hb)).trans (Heap.get?_push_of_some _ e)
 have S':St C P f ρ Z ⟨(hp.push { cls:=.type "tuple",data:=.seq [Value.str x tk].toArray }).update a (Obj.mapFields (·.setIfInBounds 0 (Value.ref hp.objs.size))),g,d,t,os⟩:=by
  refine S.tb (a:=a) (λ V=>False) ha (λ V h=>h.elim) (λ V h=>h.elim) (λ b o hb V e=>⟨o,kp b o hb e,.inl rfl⟩) ⟨_,he₃,ca,_,hca,(Obj.cls_mapFields _ _).trans e3,?_,hd₃,by rw [Array.size_setIfInBounds];exact e6,?_,?_⟩
  . rw [<-e4];unfold Obj.mapFields;split <;> rfl
  . rw [Array.getElem?_setIfInBounds_ne (by decide)];exact e7
  . rcases e8 with e8 | ⟨T,o,t1,t2,t3,t4⟩
    . exact .inl (by rw [Array.getElem?_setIfInBounds_ne (by decide)];exact e8)
    . exact .inr ⟨T,o,by rw [Array.getElem?_setIfInBounds_ne (by decide)];exact t1,kp T o (λ q=>clash ha (q▸tb_none S t2 t3)) t2,t3,t4⟩
 refine wpAny_bind (wpAny_bind (wpAny_field he e5 h0 (wpAny_bind (wpAny_setField he e5 (Nat.lt_trans (by decide) e6) ?_))))
 have fin:=h _ S'
 split
 . exact wpAny_letGo (wpAny_pure fin)
 . exact wpAny_pure (wpAny_pure fin)
end
end U
namespace U
open PySem PyProof.Rows
set_option maxRecDepth 100000
end U
namespace U
open PySem PyProof.Rows
section
variable {C:Cx}{K:Kx}{P:Kept}{f:Fx}{d:Nat}{ρ ρ':Loc}{Z:Hp}{s s':Shared}{A:Around}{tc:Tc}
theorem enum_len(vs:List AV):(enumOf vs).length=vs.length:=by unfold enumOf;rw [List.length_zipWith,length_range,Nat.min_self]
theorem enum_get{vs:List AV}{j:Nat}{it:It}(h:(enumOf vs)[j]?=some it):∃ v,vs[j]?=some v/\it=.two (.int (j:Int)) v:=by
 have hj:j<vs.length:=by
  rcases Nat.lt_or_ge j vs.length with q | q
  . exact q
  . rw [List.getElem?_eq_none (by rw [enum_len];exact q)] at h;cases h
 unfold enumOf at h
 rw [List.getElem?_zipWith,List.getElem?_range hj,List.getElem?_eq_getElem hj] at h
 exact ⟨_,List.getElem?_eq_getElem hj,(Option.some.inj h).symm⟩
theorem St.junk2{a b:Addr}(S:St C P f ρ Z s)(hi:Off C P f a)(hj:Off C P f b)(hn:Z a=none)(hm:Z b=none)(hc:∀ o,s.heap.get? a=some o->¬IsTb o)(hc':∀ o,s.heap.get? b=some o->¬IsTb o)
  (keep:∀ x o,x≠a->x≠b->s.heap.get? x=some o->s'.heap.get? x=some o) (hg:s'.gens=s.gens:=by rfl) (ho:s'.os=s.os:=by rfl):St C P f ρ Z s':=
 S.step (λ x=>x=a\/x=b) (λ x h=>h.elim (λ q=>q▸hi) λ q=>q▸hj) (λ x o h e=>⟨o,keep x o (λ q=>h (.inl q)) (λ q=>h (.inr q)) e,.inl rfl⟩)
  (λ x o h e t=>absurd t (h.elim (λ q=>hc o (q▸e)) λ q=>hc' o (q▸e))) (λ x o e=>.inl ⟨λ h=>h.elim (neN e hn) (neN e hm),e⟩) (λ V V V e=>e) (λ V c d V e=>⟨c,d,e⟩) hg ho
inductive EnI(C:Cx)(P:Kept)(f:Fx)(B:Loc->Hp->SPost->Prop)(Qn:SPost)(is:List Nat)(l e it:Addr)(o:AO)(vs:List AV)(n:Nat)(s:Shared):Prop
 | mk (m:Nat) (ρ:Loc) (Z:Hp) (old:Value) (h0:n=vs.length-m) (hm:m<=vs.length) (S:St C P f ρ Z s) (hI:Z e=none) (hI':Z it=none) (h1:IsEnum s.heap e it (m:Int) old) (h2:s.heap.IsListIter it l m) (q:pForL B is (.keep l o) ((enumOf vs).drop m) ρ Z Qn)
theorem loop_enum{x y:Str}{i j k:Nat}{px py tp:Pos}{body:List Stmt}{pb:List PS}{e it l:Addr}{vs:List AV}{o:AO}{Qn:SPost}{Qr:Post}{X:SX}{R:Result->Shared->Prop}(hd:tc.hd=false)
  (hx:Tn tc x i) (hy:Tn tc y j) (hb:SSs C K tc body pb) (H:Fr tc f A d) (hO:Off C P f e) (hO':Off C P f it) (hei:e≠it) (ho:o=.list vs\/o=.flist vs)
  (hEnd:∀ ρ Z s,St C P f ρ Z s->Qn ρ Z->R (.ok .next) s)
  (hRet:∀ ρ av v Z s,av.is v->St C P f ρ Z s->Qr av Z->R (.ok (.ret v)) s)
  (hErr:∀ ρ e s,RXt C P f ρ (X ρ) e s->R (.error e) s)
  (S:St C P f ρ Z s) (hI:Z e=none) (hI':Z it=none) (h1:IsEnum s.heap e it 0 .none) (h2:s.heap.IsListIter it l 0) (q:pForL (λ ρ' Z'' k=>pSs K tc.hd d pb ρ' Z'' k Qr X) [i,j] (.keep l o) (enumOf vs) ρ Z Qn):
  codeAny (model C.prog C.w) A (.forLoop (.Tuple [.Name x px,.Name y py] k tp) (.ref e) body [] f.env) R s:=by
 have hh:=no_hand H hd
 refine codeAny_forLoop_any (EnI C P f (λ ρ' Z'' k=>pSs K tc.hd d pb ρ' Z'' k Qr X) Qn [i,j] l e it o vs) ?_ vs.length ⟨0,ρ,Z,.none,rfl,Nat.zero_le _,S,hI,hI',h1,h2,q⟩
 clear q h1 h2 hI hI' S
 rintro n s ⟨m,ρ,Z,old,rfl,hm,S,hI,hI',h1,h2,q⟩
 have seqAt:∀ {Z s},St C P f ρ Z s->Z l=some o->∃ cs n,s.heap.get? l=some (seqObj "list" cs n)/\All2 AV.is vs cs.toList:=λ S h=>by
  rcases ho with rfl | rfl <;> exact S.at h (λ V x=>x) λ cs n h1 h2=>⟨cs,n,h1,h2⟩
 obtain ⟨oi,hoi,hci,hdi⟩:=id h2
 have tI:=obj_of (t:="list_iterator") hci (by decide) hdi
 have tE:∀ a b:Value,∀ c,¬IsTb { cls:=.type "enumerate",dict:=none,data:=.fields #[a,.bool false,.ref it,b,.none,c],slots:=#[] }/\¬IsD { cls:=.type "enumerate",dict:=none,data:=.fields #[a,.bool false,.ref it,b,.none,c],slots:=#[] }:=λ a b c=>obj_of (t:="enumerate") rfl (by decide) rfl
 rcases drop_at (its:=enumOf vs) (j:=m) (by rw [enum_len];exact hm) with ⟨rfl,e0⟩ | ⟨it',hit,e0,hlt⟩
 . rw [e0] at q
   obtain ⟨cs,n,g1,g2⟩:=seqAt S q.1
   refine wpAny_pyNext_enum_end hh h1 h2 ⟨_,g1,rfl,n,rfl⟩ (by rw [enum_len,g2.length,Array.length_toList];exact Array.getElem?_eq_none (Nat.le_refl _)) λ h' eb=>?_
   exact wpAny_execs_nil (hEnd _ _ _ (S.junk hO' hI' (λ o e=>same hoi e▸tI.1) λ b o hb e=>eb b o hb e) q.2)
 . rw [e0] at q
   obtain ⟨q1,ρ',hbind,q2⟩:=q
   obtain ⟨v,hv,rfl⟩:=enum_get hit
   obtain ⟨cs,n,g1,g2⟩:=seqAt S q1
   obtain ⟨cv,hcv,hvis⟩:=g2.get hv
   have hρ:ρ'=(ρ.set i (some (.int (m:Int)))).set j (some v):=(Option.some.inj hbind).symm
   subst hρ
   refine wpAny_pyNext_enum_item h1 h2 ⟨_,g1,rfl,n,rfl⟩ (x:=cv) (by rw [<-Array.getElem?_toList];exact hcv) hei λ h₁ heo hit1 ht₁ hz₁ hk₁=>?_
   have S₁:St C P f ρ Z { s with heap:=h₁,toks:=s.toks+1 }:=S.junk2 hO hO' hI hI' (λ o e=>same h1 e▸(tE _ _ _).1) (λ o e=>same hoi e▸tI.1) hk₁
   refine wpAny_letOwnedTupleGo_enum heo λ h₂ he₂ hs2=>?_
   have kp2:∀ b o,b≠e->h₁.get? b=some o->h₂.get? b=some o:=λ b o hb g=>(hs2.2 b hb).trans g
   have S₂:St C P f ρ Z { s with heap:=h₂,toks:=s.toks+1 }:=S₁.junk hO hI (λ o g=>same heo g▸(tE _ _ _).1) kp2
   have hTe:s.heap.objs.size≠e:=Nat.ne_of_gt (Heap.lt_size h1)
   refine wpAny_assign_Tuple hh (t:=s.heap.objs.size) (items:=#[.int m s.toks,cv]) ⟨_,kp2 _ _ hTe ht₁,rfl,_,rfl⟩ rfl rfl λ h₃ hx3=>?_
   have kp3:∀ b o,h₂.get? b=some o->h₃.get? b=some o:=λ b o g=>hx3 b o (Nat.ne_of_lt (Heap.lt_size g)) g
   have S3:St C P f ρ Z { s with heap:=h₃,toks:=s.toks+1 }:=S₂.keeps kp3
   obtain ⟨oj,hoj,hcj,hdj⟩:=hit1
   have tJ:=obj_of (t:="list_iterator") hcj (by decide) hdj
   have gJ:h₃.get? it=some oj:=kp3 _ _ (kp2 _ _ (Ne.symm hei) hoj)
   have gE:=kp3 _ _ he₂
   have hOe:Off C (P.add true it oj) f e:=⟨hO.base,λ z o h=>h.elim (hO.P z o) λ h=>hei h.2.1,hO.own,hO.fr⟩
   have S4:=(S3.hide hO' hI' gJ tJ.1).hide hOe hI gE (tE _ _ _).1
   show wpAny _ _ (holding [cv] (assign (.Name x px) f.env (.int m s.toks)) >>= λ V=>assignInOrder [assign (.Name y py) f.env] [cv]) _ _ _
   refine wpAny_bind (wpAny_holding (wpAny_assign_Name (store_tn H hx S4 (v:=.int (m:Int)) ⟨_,rfl⟩ λ s5 S5=>?_)))
   show wpAny _ _ (holding [] (assign (.Name y py) f.env cv) >>= λ V=>pure ()) _ _ _
   refine wpAny_bind (wpAny_holding (wpAny_assign_Name (store_tn H hy S5 hvis λ s6 S6=>wpAny_pure ?_)))
   refine wpAny_mono (hb H S6 q2) (λ fl s₃ r=>?_) λ e' s₃ ⟨ρ3,r⟩=>noted_of H r λ s₄ r'=>hErr _ _ _ (r'.less λ V V V h=>.inl (.inl h))
   cases fl with
   | next=>
    obtain ⟨ρ3,Z3,S7,q⟩:=r
    obtain ⟨k1,k2⟩:=S7.hidden (tE _ _ _).2
    obtain ⟨k3,k4⟩:=S7.unhide.hidden tJ.2
    rw [enum_len] at hlt
    exact ⟨vs.length-(m+1),by exact o206 hlt,m+1,ρ3,Z3,cv,rfl,hlt,S7.unhide.unhide,k1,k3,k2,⟨oj,k4,hcj,hdj⟩,q⟩
   | ret v=>obtain ⟨ρ3,av',Z3,hv',S7,q⟩:=r;exact hRet _ _ _ _ _ hv' S7.unhide.unhide q
   | brk=>exact r.elim
   | cont=>exact r.elim
theorem ss_enum{x y z:Str}{i j k:Nat}{px py pz tp cp pos:Pos}{e:Expr}{pe:PE}{body:List Stmt}{pb:List PS}(hg:GOk C tc.g)(hd:tc.hd=false)(G:Gl tc z (.typ "enumerate"))(hx:Tn tc x i)(hy:Tn tc y j)(hn:notStar e=true)(he:SE C K tc e pe)(hb:SSs C K tc body pb):
  SS C K tc (.For (.Tuple [.Name x px,.Name y py] k tp) (.Call (.Name z pz) [e] [] cp) body [] pos) (.for [i,j] (.enum pe) pb):=λ P f d ρ Z s A Qn Qr X H S w=>by
 have hes:SEs C K tc [e] [pe]:=ses_cons he hn ses_nil
 have w':pEs K tc.hd d [pe] ρ Z (λ vs Z'=>OneP vs λ v=>RefP v λ a=>OkP (Z' a) λ o=>ListP o λ vs=>pForL (λ ρ' Z'' k=>pSs K tc.hd d pb ρ' Z'' k (λ v Z=>(Gd.keep a o).iced=false/\Qr v Z) λ ρ a' Z=>(Gd.keep a o).iced=false/\X ρ a' Z) [i,j] (.keep a o) (enumOf vs) ρ Z' Qn) (X ρ):=w
 refine wpAny_For (rsx (ρ:=ρ) (wpAny_Call_NameR (ld_glob hg H G S λ v hv=>?_))) (folded_no rfl)
 cases hv
 refine PySem.callWith_type (star_any hes.1) (args_e hes H S w' λ vs s₁ avs Z1 hvs S₁ q=>?_)
 apply oneE q hvs
 intro a u hu q
 apply refE q hu
 intro l q
 refine okE q λ o eo q=>?_
 obtain ⟨vs',ho,q⟩:∃ vs',(o=.list vs'\/o=.flist vs')/\pForL (λ ρ' Z'' k=>pSs K tc.hd d pb ρ' Z'' k (λ v Z=>(Gd.keep l o).iced=false/\Qr v Z) λ ρ a' Z=>(Gd.keep l o).iced=false/\X ρ a' Z) [i,j] (.keep l o) (enumOf vs') ρ Z1 Qn:=by
  cases o with
  | list vs'=>exact ⟨vs',.inl rfl,q⟩
  | flist vs'=>exact ⟨vs',.inr rfl,q⟩
  | _=>exact q.elim
 obtain ⟨cs,n,g1,g2⟩:∃ cs n,s₁.heap.get? l=some (seqObj "list" cs n)/\All2 AV.is vs' cs.toList:=by
  rcases ho with rfl | rfl <;> exact S₁.at eo (λ V x=>x) λ cs n h1 h2=>⟨cs,n,h1,h2⟩
 refine call_enumerate_1 g1 λ h' he' hi' hz keep=>wpAny_pyIter_enum he' ?_
 have S₂:St C P f ρ Z1 { s₁ with heap:=h' }:=S₁.keeps keep
 have n1:s₁.heap.get? s₁.heap.objs.size=none:=fresh_size _
 have n2:s₁.heap.get? (s₁.heap.objs.size+1)=none:=by
  cases x:s₁.heap.get? (s₁.heap.objs.size+1) with
  | none=>rfl
  | some o=>exact absurd (Heap.lt_size x) (Nat.not_lt.mpr (Nat.le_succ _))
 exact loop_enum (o:=o) hd hx hy hb H (S₁.offNew n2) (S₁.offNew n1) (Nat.ne_of_gt (Nat.lt_succ_self _)) ho (λ V V V S q=>⟨_,_,S,q⟩) (λ V V V V V hv S q=>⟨_,_,_,hv,S,q.2⟩)
  (λ ρ e s h=>came_of h λ s' h'=>⟨ρ,let ⟨a,Z,c,d,h1,h2,h3,h4⟩:=h';⟨a,Z,c,d,h1,h2,h3,h4.2⟩⟩) S₂ (S₁.newNone n2) (S₁.newNone n1) he' hi' q
end
end U
namespace U
open PySem PyProof.Rows Builtin Builtin.ObjectAttr
set_option maxRecDepth 100000
section
variable {C:Cx}{K:Kx}{P:Kept}{f:Fx}{d:Nat}{ρ:Loc}{Z:Hp}{s:Shared}{A:Around}{Q:Post}{X:XPost}{tc:Tc}{E:Value->Shared->Prop}
theorem Chn.refuse{h:Heap}{l:List Value}{m:Str->Option Value}(T:Chn h l m)(self:Value)(what:Str):refuseLoop self what l=refuseLoop self what bmV:=by
 induction T with
 | base=>rfl
 | own a _ _ _ _ _ _ tl _ _ _ ih=>rw [refuseLoop_ref,ih]
section
variable {a ca N:Addr}{nm q:Str}{bs bm:List Value}{sn:List Str}{sub:List Value}{ab:Bool}{col:Option Bool}{dd:Option Addr}{k0 k1 k2 k3 k5:Option Value}{oe:Obj}{mN:Str->Option Value}{name:Str}{v:Value}{h:Heap}{g:Array GenState}{dr:Drawn}{t:Nat}{os:OsState}
theorem chkSaX{nameV:Value}{Q:Unit->Shared->Prop}(hC:h.get? ca=some (excClassObj nm q ca N bs bm true sn sub ab col dd k0 k1 k2 k3 k5 "ValueError.__new__"))(T:Chn h (.ref ca::bm) mN)(hx:h.get? a=some oe)(hc:oe.cls=.ref ca)(hq:Q () ⟨h,g,dr,t,os⟩):
  wpAny (model C.prog C.w) A (checkBuiltinCall "object.__setattr__" ⟨[.ref a,nameV,v],[]⟩) Q E ⟨h,g,dr,t,os⟩:=by
 have SF:=PySem.F.store_ValueError
 have hcB:=T.has SF.hasOwner
 have ha:=SF.args (.ref a) nameV v
 simp only [checkBuiltinCall,SF.kind,SF.split]
 refine wpAny_bind ?_
 unfold isInstance
 repeat (first | (with_reducible refine wpAny_loadPart_at hx ?_;rw [hc]) | (with_reducible refine wpAny_isSubtype_exc hC ?_;rw [hcB]) | wp_step)
 exact hq
theorem chkGaX{nameV:Value}{Q:Unit->Shared->Prop}(hC:h.get? ca=some (excClassObj nm q ca N bs bm true sn sub ab col dd k0 k1 k2 k3 k5 "ValueError.__new__"))(T:Chn h (.ref ca::bm) mN)(hx:h.get? a=some oe)(hc:oe.cls=.ref ca)(hq:Q () ⟨h,g,dr,t,os⟩):
  wpAny (model C.prog C.w) A (checkBuiltinCall "BaseException.__getattribute__" ⟨[.ref a,nameV],[]⟩) Q E ⟨h,g,dr,t,os⟩:=by
 have hk:builtinKind "BaseException.__getattribute__" = some .slot:=by decide +kernel
 have hsplit:splitId "BaseException.__getattribute__" = some ("BaseException","__getattribute__"):=by decide +kernel
 have hcB:=T.has (X:="BaseException") (b:=true) (by decide)
 have ha:=PySem.F.args_bexc_ga (.ref a) nameV
 simp only [checkBuiltinCall,hk,hsplit]
 refine wpAny_bind ?_
 unfold isInstance
 repeat (first | (with_reducible refine wpAny_loadPart_at hx ?_;rw [hc]) | (with_reducible refine wpAny_isSubtype_exc hC ?_;rw [hcB]) | wp_step)
 exact hq
set_option tactic.hygienic true in
theorem store_new{Q:Unit->Shared->Prop}(hC:h.get? ca=some (excClassObj nm q ca N bs bm true sn sub ab col dd k0 k1 k2 k3 k5 "ValueError.__new__"))(T:Chn h (.ref ca::bm) mN)(hns:mN "__setattr__" = none)(hna:mN name=none)(hB:typeLookup (.type "ValueError") name=pure none)
  (he:h.get? a=some oe) (hc:oe.cls=.ref ca) (hnc:∀ c,oe.data≠.cls c) (hd:oe.dict=none)
  (hq:∀ h' tk od,h'.get? a=some { oe with dict:=some h.objs.size }->h'.get? h.objs.size=some od->od.cls=.type "dict" -> od.dict=none->h'.Ns1 h.objs.size (λ y=>if y=name then some v else none) ->
   (∀ b o,b≠a->h.get? b=some o->h'.get? b=some o)->Q () ⟨h',g,dr,tk,os⟩):
  wpAny (model C.prog C.w) A (setAttr (.ref a) name v) Q E ⟨h,g,dr,t,os⟩:=by
 have SF:=PySem.F.store_ValueError
 have f3:=SF.slot.bind (.ref a)
 have hpass:refuseLoop (.ref a) "__setattr__" bmV=pure ():=SF.passes (.ref a)
 unfold setAttr callSpecial? specialOf
 repeat (any_goals (first | assumption | (with_reducible refine wpAny_loadPart_at he ?_;rw [hc]) | (with_reducible refine lookX hC T SF.slot.lookup ?_;rw [hns]) | wp_step))
 refine codeAny_call_builtin SF.slot.plain SF.entry (chkSaX hC T he hc ?_)
 unfold Builtin.«object.__setattr__»
 repeat (first | rw [refuse_eq] | (rw [T.refuse,hpass]) | (with_reducible refine wpAny_loadPart_at he ?_;rw [hc]) | with_reducible refine wpAny_mroOf_exc hC ?_ | (with_reducible refine lookX hC T hB ?_;rw [hna]) | wp_step)
 rw [hd,if_neg (by simp [typeHasDict])]
 split
 . rename_i hcd;cases hcd
 split
 . rename_i c hcd;exact absurd hcd (hnc c)
 have hx₁:(h.push { cls:=.type "dict",data:=.dict #[] }).get? a=some oe:=Heap.get?_push_of_some _ he
 have hxs:a≠h.objs.size:=Nat.ne_of_lt (Heap.lt_size he)
 refine wpAny_bind (wpAny_alloc' (wpAny_bind (wpAny_update' hx₁ (wpAny_pure ?_))))
 have hgd:((h.push { cls:=.type "dict",data:=.dict #[] }).update a λ o=>{ cls:=o.cls,dict:=some h.objs.size,data:=o.data,slots:=o.slots }).get? h.objs.size=some { cls:=.type "dict",data:=.dict #[] }:=
  (Heap.get?_update_other _ _ hxs).trans (Heap.get?_push_at rfl rfl)
 have hga:=Heap.get?_update_self (λ o=>{ cls:=o.cls,dict:=some h.objs.size,data:=o.data,slots:=o.slots }) hx₁ (by
  have hfr:=(Heap.get?_some_iff.mp he).2
  obtain ⟨oc,od,odt,osl⟩:=oe
  cases odt <;> first | rfl | exact hfr)
 have kp:∀ b o,b≠a->h.get? b=some o->((h.push { cls:=.type "dict",data:=.dict #[] }).update a λ o=>{ cls:=o.cls,dict:=some h.objs.size,data:=o.data,slots:=o.slots }).get? b=some o:=λ b o hb e=>(Heap.get?_update_other _ _ (Ne.symm hb)).trans (Heap.get?_push_of_some _ e)
 show wpAny _ _ (storeInDict h.objs.size (.str name _) name v) _ _ _
 generalize (h.push { cls:=.type "dict",data:=.dict #[] }).update a (λ o=>{ cls:=o.cls,dict:=some h.objs.size,data:=o.data,slots:=o.slots })=h₁ at hgd hga kp
 have hnd:h₁.Ns1 h.objs.size (λ V=>none):=Heap.Ns1.of_empty ⟨_,#[],_,hgd,rfl,λ e he=>absurd he (by simp),λ V=>rfl⟩
 unfold storeInDict newKeyGuard
 refine wpAny_bind (wpAny_pure (wpAny_bind (wpAny_nsSet1EFk hnd λ h' hn' hs hkeepD=>?_)))
 obtain ⟨oD,esD,epD,hoD,hdD,hcD⟩:=hn'.count (Within.cons name v Within.nil)
 refine wpAny_bind (wpAny_lookBehind hoD (by rw [hdD];exact pastItsLine_dict (Nat.le_trans hcD (by rw [length_cons,length_nil,sizeLine_eq];exact o207))) ?_)
 obtain ⟨od,o1,o2,o3⟩:=hkeepD _ hgd
 wp_walk
 exact hq h' _ od ((hs.2 a hxs).trans hga) o1 o2 o3 hn' λ b o hb e=>(hs.2 b (Nat.ne_of_lt (Heap.lt_size e))).trans (kp b o hb e)
variable {m:Str->Option Value}{dx:Addr}
set_option tactic.hygienic true in
theorem load_entryX{tk:Tok}{Q:Fin->Shared->Prop}(hC:h.get? ca=some (excClassObj nm q ca N bs bm true sn sub ab col dd k0 k1 k2 k3 k5 "ValueError.__new__"))(T:Chn h (.ref ca::bm) mN)(hna:mN name=none)
  (hB:typeLookup (.type "ValueError") name=pure none) (hx:h.get? a=some oe) (hc:oe.cls=.ref ca) (hnc:∀ c,oe.data≠.cls c) (hdx:oe.dict=some dx) (hns:h.Ns1 dx m) (hv:m name=some v) (hq:Q (.done (.ret v)) ⟨h,g,dr,t,os⟩):
  wpAny (model C.prog C.w) A (Builtin.«object.__getattribute__» ⟨[.ref a,.str name tk],[]⟩) Q E ⟨h,g,dr,t,os⟩:=by
 unfold Builtin.«object.__getattribute__»
 repeat (first | (with_reducible refine wpAny_loadPart_at hx ?_;rw [hc]) | (with_reducible refine lookX hC T hB ?_;rw [hna]) | wp_step)
 split
 . rename_i c hcd;exact absurd hcd (hnc c)
 unfold instanceDict
 repeat (first | (with_reducible refine wpAny_loadPart_at hx ?_;rw [hc]) | with_reducible refine wpAny_loadPart_at hC ?_ | wp_step)
 rw [hdx]
 repeat (first | (with_reducible refine wpAny_nsGet hns.ns ?_;rw [hv]) | wp_step)
 exact hq
theorem exc_load{Q:Value->Shared->Prop}(hC:h.get? ca=some (excClassObj nm q ca N bs bm true sn sub ab col dd k0 k1 k2 k3 k5 "ValueError.__new__"))(T:Chn h (.ref ca::bm) mN)(hng:mN "__getattribute__" = none)(hnh:mN "__getattr__" = none)(hna:mN name=none)
  (hB:typeLookup (.type "ValueError") name=pure none) (hx:h.get? a=some oe) (hc:oe.cls=.ref ca) (hnc:∀ c,oe.data≠.cls c) (hdx:oe.dict=some dx) (hns:h.Ns1 dx m) (hv:m name=some v) (hh:handedOut v=pure v) (hq:Q v ⟨h,g,dr,t+1,os⟩):
  wpAny (model C.prog C.w) A (getAttr (.ref a) name true) Q E ⟨h,g,dr,t,os⟩:=by
 have FB:=PySem.F.attrBase_ValueError
 have f3:=FB.ga.bind (.ref a)
 have hx0:(true&&onTheHeap (Value.builtin "BaseException.__getattribute__"))=false:=rfl
 have hx2:(Value.builtin "BaseException.__getattribute__" == Value.builtin "object.__getattribute__")=false:=by decide +kernel
 have hx1:(onTheHeap (Value.ref ca)&&Value.builtin "BaseException.__getattribute__" == Value.builtin "object.__getattribute__")=false:=by rw [hx2];rfl
 unfold getAttr getAttrBy
 repeat (any_goals (first | assumption | (with_reducible refine wpAny_loadPart_at hx ?_;rw [hc]) | (with_reducible refine lookX hC T FB.ga.lookup ?_;rw [hng]) | (with_reducible refine lookX hC T FB.noGetattr ?_;rw [hnh]) | wp_step))
 refine codeAny_call_builtin FB.ga.plain F.entry_bexc_ga (chkGaX hC T hx hc (load_entryX hC T hna hB hx hc hnc hdx hns hv ?_))
 show wpAny _ _ (handedOut v) _ _ _
 rw [hh]
 exact wpAny_pure hq
end
theorem St.xnew{a d':Addr}{c:String}{n:Txt}{v:AV}{h':Heap}{tk:Nat}(S:St C P f ρ Z s)(ea:Z a=some (.exc c none))(ia:Is C h' d' (.attrs [(n,v)]))(ie:Is C h' a (.exc c (some d')))
  (hd:s.heap.get? d'=none) (kp:∀ b o,b≠a->s.heap.get? b=some o->h'.get? b=some o):St C P f ρ (setH (setH Z d' (.attrs [(n,v)])) a (.exc c (some d'))) { s with heap:=h',toks:=tk }:=by
 have off:=S.off ea rfl
 refine S.step (·=a) (λ b h=>h▸off) (λ b o h e=>⟨o,kp b o h e,.inl rfl⟩) (λ b o h e t=>absurd t ((S.rel a _ ea).noTb (h▸e))) (λ b o e=>?_) (λ b es h e=>?_) (λ x c₁ d₁ V e=>?_) rfl rfl
 . rcases setH_cases e with ⟨rfl,rfl⟩ | ⟨hb,e⟩
   . exact .inr ⟨ie,off⟩
   . rcases setH_cases e with ⟨rfl,rfl⟩ | ⟨hb',e⟩
     . exact .inr ⟨ia,S.offNew hd⟩
     . exact .inl ⟨hb,e⟩
 . rw [setH_ne h];exact setH_old e (S.newNone hd)
 . by_cases hx:x=a
   . exact ⟨c,some d',by rw [hx];exact setH_here _ _ _⟩
   . exact ⟨c₁,d₁,by rw [setH_ne hx];exact setH_old e (S.newNone hd)⟩
theorem fields_nc{oe:Obj}{vs:Array Value}(h:oe.data=.fields vs):∀ c,oe.data≠.cls c:=λ c q=>by rw [h] at q;cases q
theorem xobE{x:AV}{u:Value}{k:Addr->String->Option Addr->Prop}{G:Value->Prop}(h:XobP Z x k)(hx:x.is u)(g:∀ a c dd,Z a=some (.exc c dd)->k a c dd->G (.ref a)):G u:=by
 apply refE h hx
 intro a h
 refine okE h λ o e h=>?_
 cases o <;> first | exact h.elim | skip
 exact g a _ _ e h
set_option tactic.hygienic true in
theorem ps_xattr{x:AV}{u:Value}{n:Txt}(hk:KOk C K)(S:St C P f ρ Z s)(h:XobP Z x λ V c dd=>K.xat c n/\OkP dd λ dd=>OkP (Z dd) λ oa=>AttP oa λ es=>OkP (es.lookup n) λ u=>Q u Z)(hx:x.is u):wpAny (model C.prog C.w) A (getAttr u (toS n) true) (RV C P f ρ Q) E s:=by
 apply xobE h hx
 intro a c dd ea q
 obtain ⟨oe,e0,ca,vs,e1,e3,e4,e5,e6,e7,e8⟩:=S.rel a _ ea
 obtain ⟨mN,⟨bm,⟨N,nm,q',bs,sn,sub,ab,col,dd',k0,k1,k2,k3,k5,hC⟩,hT⟩,m1,m2,m3,m4,m5⟩:=hk.xat q.1 ca e1
 refine okE q.2 λ dx edx q=>okE q λ oa e' q=>?_
 cases oa <;> first | exact q.elim | skip
 rename_i es
 refine okE q λ v hv q=>?_
 obtain ⟨od,g2,c1,c2,m,hm,hns⟩:=S.rel _ _ e'
 obtain ⟨cv,e,hcv⟩:=(hm n).2 v hv
 have hq:=rv (Q:=Q) hcv (S.tok (s.toks+1)) q
 have hC:=S.base _ _ hC
 have hT:=hT.keeps S.base
 obtain ⟨hh,g,dr,t,os⟩:=s
 exact exc_load hC hT m2 m3 m1 m5 e0 e3 (fields_nc e5) (e4.trans edx) (hns _ _ g2) e (handed hcv) hq
theorem se_xattr{o:Expr}{n:Txt}{pos:Pos}{po:PE}(hk:KOk C K)(ho:SE C K tc o po)(hb:baseOk o=true):SE C K tc (.Attribute o (toS n) pos) (.xattr n po):=λ V V V V V V V V V H S w=>by
 rw [arm_eval_Attribute,base_of hb]
 exact wpAny_bind (fitv (ho H S w) λ V V V V hv S₁ q=>wpAny_bind (wpAny_standAt (wpAny_bind (wpAny_holding (fit (ps_xattr hk S₁ q hv) λ r s₂ h=>wpAny_bind (wpAny_letTemporaryGo (wpAny_pure h)))))))
theorem ps_xset{x v:AV}{u cv:Value}{n:Txt}{k:Hp->Prop}{Q:Unit->Shared->Prop}(hk:KOk C K)(S:St C P f ρ Z s)(h:XobP Z x λ a c dd=>K.xat c n/\xset Z a c dd n v k)(hx:x.is u)(hv:v.is cv)
  (q:∀ s' Z',St C P f ρ Z' s'->k Z'->Q () s'):wpAny (model C.prog C.w) A (setAttr u (toS n) cv) Q E s:=by
 apply xobE h hx
 intro a c dd ea q'
 obtain ⟨oe,e0,ca,vs,e1,e3,e4,e5,e6,e7,e8⟩:=S.rel a _ ea
 obtain ⟨mN,⟨bm,⟨N,nm,q₁,bs,sn,sub,ab,col,dd',k0,k1,k2,k3,k5,hC⟩,hT⟩,m1,m2,m3,m4,m5⟩:=hk.xat q'.1 ca e1
 have hC:=S.base _ _ hC
 have hT:=hT.keeps S.base
 have q':=q'.2
 have tb:∀ {h':Heap},(∀ b o,b≠a->s.heap.get? b=some o->IsTb o->h'.get? b=some o)->TbOk C h' vs:=λ kp=>by
  rcases e8 with e8 | ⟨T,o,t1,t2,t3,t4⟩
  . exact .inl e8
  . exact .inr ⟨T,o,t1,kp T o (λ q=>clash ea (q▸tb_none S t2 t3)) t2 t3,t3,t4⟩
 cases dd with
 | none=>
  have mk:∀ h' tk od,h'.get? a=some { oe with dict:=some s.heap.objs.size }->h'.get? s.heap.objs.size=some od->od.cls=.type "dict" -> od.dict=none->h'.Ns1 s.heap.objs.size (λ y=>if y=toS n then some cv else none) ->
    (∀ b o,b≠a->s.heap.get? b=some o->h'.get? b=some o)->Q () { s with heap:=h',toks:=tk }:=λ h' tk od g1 g2 g3 g4 g5 kp=>by
   have hN0:=S.newNone (fresh_size s.heap)
   refine q _ _ ?_ (q' s.heap.objs.size hN0)
   have am:AttM [(n,v)] (λ y=>if y=toS n then some cv else none):=λ k=>by
    rw [lookup_cons]
    by_cases e:k=n
    . subst e
      rw [beq_self_eq_true]
      exact ⟨nofun,λ w hw=>⟨cv,if_pos rfl,Option.some.inj hw▸hv⟩⟩
    . rw [beq_eq_false_iff_ne.mpr e]
      exact ⟨λ V=>if_neg λ q=>e (toS_inj q),λ w hw=>nomatch hw⟩
   have ia:Is C h' s.heap.objs.size (.attrs [(n,v)]):=⟨od,g2,g3,g4,_,am,λ h b e=>by
    obtain ⟨o₂,es2,ep2,r1,r2⟩:=g5
    exact ⟨o₂,es2,ep2,same g2 r1▸e,r2⟩⟩
   have ie:Is C h' a (.exc c (some s.heap.objs.size)):=⟨_,g1,ca,vs,e1,e3,rfl,e5,e6,e7,tb λ b o hb g V=>kp b o hb g⟩
   exact S.xnew ea ia ie (fresh_size _) kp
  obtain ⟨h,g,dr,t,os⟩:=s
  exact store_new hC hT m4 m1 m5 e0 e3 (fields_nc e5) e4 mk
 | some dx=>exact q'.elim
theorem ss_xattr{o e:Expr}{n:Txt}{p pos:Pos}{po pe:PE}(hk:KOk C K)(he:SE C K tc e pe)(ho:SE C K tc o po)(hc:notComp e=true):SS C K tc (.Assign [.Attribute o (toS n) p] e pos) (.assign (.xattr po n) pe):=λ V V V V V V V V V V H S w=>
 plainObj_wpAny_Assign_Attribute (rsx (fitv (he H S w) λ V V V V hv S₁ q=>rsx (fitv (ho H S₁ q) λ V V V V hx S₂ q=>ps_xset hk S₂ q hx hv λ s' Z' S' q=>⟨_,_,S',q⟩))) (swaps_no hc)
end
end U
namespace U
open PySem PyProof.Rows
set_option maxRecDepth 100000
section
variable {C:Cx}{K:Kx}{P:Kept}{f:Fx}{d:Nat}{ρ:Loc}{Z:Hp}{s:Shared}{A:Around}{Q:Post}{X:XPost}{tc:Tc}{E:Value->Shared->Prop}
theorem se_binit{x:Str}{np apos pos:Pos}{e:Expr}{pe:PE}{t:Str}{kk:Nat}{cp:Pos}(hk:KOk C K)(hg:GOk C tc.g)(G:Gl tc x (.typ "ValueError"))(hline:(apos.endLine==pos.line)=true)(hn:notStar e=true)(he:SE C K tc e pe):
  SE C K tc (.Call (.Attribute (.Name x np) "__init__" apos) [e,.Constant (.str t) kk cp] [] pos) (.binit pe t.cps.toList):=λ P f d ρ Z s A Q X H S w=>by
 have hes:SEs C K tc [e,.Constant (.str t) kk cp] [pe,.lit (.str t.cps.toList)]:=ses_cons he hn (ses_cons se_str rfl ses_nil)
 have w':pEs K tc.hd d [pe,.lit (.str t.cps.toList)] ρ Z (λ vs Z'=>TwoP vs λ v y=>StrP y λ V=>XobP Z' v λ V c V=>XK K c/\Q .none Z') X:=w
 rw [arm_eval_Call,base_of rfl]
 refine wpAny_bind (ld_glob hg H G S λ v hv=>wpAny_bind (wpAny_standAt ?_))
 cases hv
 have hform:methodCallForm ([e,.Constant (.str t) kk cp].length+([]:List Keyword).length) (backTo pos (starEach [e,.Constant (.str t) kk cp] f.env)) (backToKw pos (keywordEach [] f.env))=true:=by
  show (_&&_&&_)=true
  rw [star_all (star_any hes.1)];rfl
 have hpos:methodCallPos true (.Name x np) f.env apos pos=pure pos:=by unfold methodCallPos;simp [hline]
 unfold methodCall
 rw [hform]
 refine wpAny_bind (wpAny_holding ?_)
 show wpAny _ _ (getMethod (.type "ValueError") "__init__" _) _ _ _
 refine getm_init (C:=C) ?_
 refine wpAny_bind (wpAny_of_eq hpos ?_)
 refine Calls.callWith_builtin (star_any hes.1) (args_e hes H (S.tok _) w' λ vs s₁ avs Z1 hvs S₁ q=>?_)
 apply twoE q hvs
 intro a b u u' hu hu' q
 apply strE q hu'
 intro b t' q
 apply xobE q hu
 intro a c dd ea q
 obtain ⟨⟨fnm,hx⟩,q⟩:=q
 obtain ⟨oe,e0,ca,vs',e1,e3,e4,e5,e6,e7,e8⟩:=S₁.rel a _ ea
 obtain ⟨mN,fa,oI,fd,X',V⟩:=hk.xin hx ca e1
 exact exc_init S₁ ea e1 X' λ s' S'=>rv (av:=.none) rfl S' q
theorem callWith_x{a N:Addr}{nm q:Str}{bs bm:List Value}{sn:List Str}{sub:List Value}{ab:Bool}{col:Option Bool}{dd:Option Addr}{k0 k1 k2 k3 k5:Option Value}{pos:Pos}{args:List (Bool×Sem Value)}{Q:Value->Shared->Prop}
  (hC:C.base.get? a=some (excClassObj nm q a N bs bm true sn sub ab col dd k0 k1 k2 k3 k5 "ValueError.__new__")) (hst:args.any (·.1)=false)
  (h:wpAny (model C.prog C.w) A (evalArgs (.ref a) true args []) (λ as s₁=>as.kw=[]/\(∀ b o,C.base.get? b=some o->s₁.heap.get? b=some o)/\wpAny (model C.prog C.w) A (call (.ref a) as.pos) Q E s₁) E s):
  wpAny (model C.prog C.w) A (callWith pos (.ref a) [] args []) Q E s:=by
 unfold callWith
 refine wpAny_bind (wpAny_holding (fit h λ as s₁ h₁=>?_))
 obtain ⟨apos,akw⟩:=as
 obtain ⟨e,hk,hc⟩:=h₁
 cases (show akw=[] from e)
 obtain ⟨hh,g,d,t,os⟩:=s₁
 have hC:=hk _ _ hC
 refine wpAny_bind (wpAny_standAt ?_)
 rw [hst]
 refine wpAny_bind (wpAny_keeperOf_exc hC ?_)
 exact wpAny_bind (fit hc λ r s' hr=>wpAny_bind (wpAny_holding (wpAny_point (wpAny_pure hr))))
inductive NewP(C:Cx)(P:Kept)(f:Fx)(ρ:Loc)(c:String)(Y:Addr->Hp->Prop)(v:Value)(s':Shared):Prop
 | mk (a:Addr) (Z':Hp) (dd:Option Addr) (ca:Addr) (mN:Str->Option Value) (e:v=.ref a) (S:St C P f ρ Z' s') (ea:Z' a=some (.exc c dd)) (hc:C.clsAt c=some ca) (X':XCls C ca mN) (y:Y a Z')
theorem new_x{x:Str}{p pos:Pos}{c fnm:String}{es:List Expr}{pes:List PE}(hk:KOk C K)(hg:GOk C tc.g)(G:Gl tc x (.cls c))(hes:SEs C K tc es pes){P f d ρ Z s A}{X:XPost}{Y:Addr->Hp->Prop}(H:Fr tc f A d)(S:St C P f ρ Z s)
  (w:(2<=d/\K.xin c fnm)/\pEs K tc.hd d pes ρ Z (λ vs Z'=>vs.length<tooLong/\∀ a,Z' a=none->K.fn tc.hd (d-2) fnm (.ref a::vs) (setH Z' a (.exc c none)) (λ r Z''=>(r=.none/\∃ dd,Z'' a=some (.exc c dd))/\Y a Z'') X) X):
  wpAny (model C.prog C.w) A (eval (.Call (.Name x p) es [] pos) f.env) (NewP C P f ρ c Y) (RX C P f ρ X) s:=by
 obtain ⟨⟨hd,hm⟩,w⟩:=w
 refine wpAny_Call_NameR (ld_glob hg H G S λ v hv=>?_)
 obtain ⟨ca,ha,rfl⟩:=hv
 obtain ⟨mN,fa,oI,fd,X',i1,i2,i3,i4,i5⟩:=hk.xin hm ca ha
 obtain ⟨bm,⟨N,nm,q,bs,sn,sub,ab,col,dd,k0,k1,k2,k3,k5,hC⟩,hT⟩:=id X'
 refine callWith_x hC (star_any hes.1) (args_e hes H S w λ vs s₁ avs Z1 hvs S₁ q=>⟨rfl,S₁.base,?_⟩)
 obtain ⟨d',rfl⟩:∃ d',d=d'+2:=⟨d-2,(Nat.sub_add_cancel hd).symm⟩
 have hC1:=S₁.base _ _ hC
 have hT1:=hT.keeps S₁.base
 have hf1:=S₁.base _ _ i2
 have key:∀ h' e,Heap.MadeExcOf s₁.heap h' e (.ref ca) vs->wpAny (model C.prog C.w) (A.under (.builtin "type.__call__" ⟨.ref ca::vs,[]⟩)) (call (.ref fa) (.ref e::vs)) (λ r s'=>r=.none/\NewP C P f ρ c Y (.ref e) s') (RX C P f ρ X) { s₁ with heap:=h' }:=λ h' e M=>by
  obtain ⟨t,m1,m2,m3⟩:=M.there
  have S₂:St C P f ρ (setH Z1 e (.exc c none)) { s₁ with heap:=h' }:=S₁.new (o:=.exc c none) M.keeps M.new ⟨_,m1,ca,_,ha,rfl,rfl,rfl,Nat.lt_succ_of_lt (Nat.lt_succ_self 4),rfl,.inl rfl⟩
  refine fitv (run_fn hk i5 H ⟨?_,?_,H.hand,H.frames⟩ S₂ (.cons (x:=AV.ref e) (y:=Value.ref e) rfl hvs) (q.2 e (S₁.newNone M.new))) λ v s₂ av Z2 hv S4 q=>?_
  . show A.depth+1+d'+1<1000
    have:=H.depth;exact o201 this
  . show A.units+1+16*d'+416<cLine
    have:=H.units;exact o202 this
  . obtain ⟨⟨rfl,dd,h1⟩,q⟩:=q
    exact ⟨hv,e,Z2,dd,ca,mN,rfl,S4,h1,ha,X',q⟩
 have hl:vs.length<=sizeLine:=by rw [<-hvs.length];exact tooLong_lt q.1
 obtain ⟨hh,g,dr,t,os⟩:=s₁
 exact callX hT1 hC1 i1 hf1 i3 key hl
theorem raise_x{c:String}{x:Sem Value}{env:Env}{Q:Flow->Shared->Prop}(hh:A.handled=none)
  (h:wpAny (model C.prog C.w) A x (NewP C P f ρ c λ a Z'=>∀ s₂,St C P f ρ Z' s₂->E (.ref a) s₂) E s):
  wpAny (model C.prog C.w) A (raiseStmt env (some x) none) Q E s:=by
 unfold raiseStmt
 refine wpAny_bind (wpAny_mono h (λ v s₁ h₁=>?_) λ V V x=>x)
 obtain ⟨a,Z',dd,ca,mN,rfl,S,ea,hca,⟨bm,⟨N,nm,q,bs,sn,sub,ab,col,dd',k0,k1,k2,k3,k5,hC⟩,hT⟩,hE⟩:=h₁
 obtain ⟨oe,he,ca',vs,e1,e3,e4,e5,e6,e7,e8⟩:=S.rel a _ ea
 cases same hca e1
 have hC:=S.base _ _ hC
 have hcB:(Value.ref ca::bm).contains (.type "BaseException")=true:=hT.has (by decide)
 have fl:wpAny (model C.prog C.w) A (setFlight (.ref a) none >>= λ V=>(raiseNew (.ref a):Sem Flow)) Q E s₁:=wpAny_bind (flight_of S ea λ s' S'=>wpAny_raiseNew_none hh (hE s' S'))
 clear h e1 e4 e6 e7 e8 hca hE S ea hT
 obtain ⟨hp,g,d,tk,os⟩:=s₁
 repeat (first | assumption | (with_reducible refine wpAny_loadPart_at he ?_;rw [e3]) | with_reducible refine wpAny_loadPart_at hC ?_ | (with_reducible refine wpAny_isSubtype_exc hC ?_;rw [hcB]) | wp_step)
theorem ss_raiseI{x:Str}{np cpos pos:Pos}{c fnm:String}{es:List Expr}{pes:List PE}(hk:KOk C K)(hg:GOk C tc.g)(hd:tc.hd=false)(G:Gl tc x (.cls c))(hes:SEs C K tc es pes):
  SS C K tc (.Raise (some (.Call (.Name x np) es [] cpos)) none pos) (.raiseI c fnm pes):=λ P f d ρ Z s A Qn Qr X H S w=>by
 rw [arm_exec_Raise]
 refine wpAny_bind (wpAny_standAt (raise_x (C:=C) (P:=P) (f:=f) (ρ:=ρ) (c:=c) (no_hand H hd) ?_))
 refine wpAny_bind (wpAny_mono (new_x hk hg G hes H S w) (λ v s₁ h₁=>wpAny_bind (wpAny_standAt (wpAny_pure ?_))) λ e s₁ h=>⟨ρ,h⟩)
 obtain ⟨a,Z',dd,ca,mN,rfl,S',ea,hca,X',q⟩:=h₁
 exact ⟨a,Z',dd,ca,mN,rfl,S',ea,hca,X',λ s₂ S₂=>⟨ρ,a,Z',c,dd,rfl,S₂,ea,q⟩⟩
theorem se_newX{x:Str}{p pos:Pos}{c fnm:String}{es:List Expr}{pes:List PE}(hk:KOk C K)(hg:GOk C tc.g)(G:Gl tc x (.cls c))(hes:SEs C K tc es pes):SE C K tc (.Call (.Name x p) es [] pos) (.newX c fnm pes):=λ P f d ρ Z s A Q X H S w=>by
 refine wpAny_mono (new_x hk hg G hes (Y:=λ a Z=>Q (.ref a) Z) H S w) (λ v s₁ h₁=>?_) λ V V x=>x
 obtain ⟨a,Z',dd,ca,mN,rfl,S',ea,hca,X',q⟩:=h₁
 exact ⟨.ref a,Z',rfl,S',q⟩
end
end U
namespace U
open PySem PyProof.Rows
set_option maxRecDepth 100000
section
variable {prog:Program}{w:World}{A:Around}{E:Value->Shared->Prop}{h:Heap}{g:Array GenState}{d:Drawn}{t:Nat}{os:OsState}
variable {nm q:Str}{C N:Addr}{bs bm:List Value}{hdct:Bool}{sn:List Str}{sub:List Value}{ab:Bool}{col:Option Bool}{dd:Option Addr}{k0 k1 k2 k3 k5:Option Value}{newId:String}
variable {nm' q':Str}{U N':Addr}{bs' bm':List Value}{hdct':Bool}{sn':List Str}{sub':List Value}{ab':Bool}{col':Option Bool}{dd':Option Addr}{j0 j1 j2 j3 j5:Option Value}{newId':String}{e:Addr}{oe:Obj}
theorem excMatchX{M:Model}{Q:Bool->Shared->Prop}(hC:h.get? C=some (excClassObj nm q C N bs bm hdct sn sub ab col dd k0 k1 k2 k3 k5 newId))(hU:h.get? U=some (excClassObj nm' q' U N' bs' bm' hdct' sn' sub' ab' col' dd' j0 j1 j2 j3 j5 newId'))(he:h.get? e=some oe)(hcls:oe.cls=.ref C)
  (hin:(Value.ref C::bm).contains (.ref U)=true) (hbase:bm'.contains (.type "BaseException")=true) (hq:Q true ⟨h,g,d,t,os⟩):wpAny M A (excMatches (.ref e) (.ref U)) Q E ⟨h,g,d,t,os⟩:=by
 have hcB:(Value.ref U::bm').contains (.type "BaseException")=true:=by rw [contains_cons,hbase,Bool.or_true]
 have f:=tc_notTuple
 unfold excMatches
 repeat (first | (with_reducible refine wpAny_loadPart_at he ?_;rw [hcls]) | with_reducible refine wpAny_loadPart_at hU ?_ | (with_reducible refine wpAny_isSubtype_exc hU ?_;rw [hcB]) | (with_reducible refine wpAny_isSubtype_exc hC ?_;rw [hin]) | wp_step)
 exact hq
theorem lk_cls:typeLookup (.type "ValueError") "__class__" = pure (some (.builtin "object.__class__")):=by rw [typeLookup_type,builtinLookup_eq_fast];kernel_rfl
variable {m:Str->Option Value}{Cc:Cx}
theorem clsGetX{R:Result->Shared->Prop}(hC:h.get? C=some (excClassObj nm q C N bs bm true sn sub ab col dd k0 k1 k2 k3 k5 "ValueError.__new__"))(T:Chn h (.ref C::bm) m)(he:h.get? e=some oe)(hcls:oe.cls=.ref C)(hq:R (.ok (.ret (.ref C))) ⟨h,g,d,t,os⟩):
  codeAny (model prog w) A (.call (.builtin "getset_descriptor.__get__") ⟨[.builtin "object.__class__",.ref e,.ref C],[]⟩) R ⟨h,g,d,t,os⟩:=by
 have hT5:(⟨h,g,d,t,os⟩:Shared).TypeIs (.builtin "object.__class__") "getset_descriptor":=PySem.F.typeOf_object_class
 have hcB:(Value.ref C::bm).contains (.type (".".intercalate ("object.__class__".cutAt '.').dropLast))=true:=by rw [PySem.F.owner_object_class];exact T.has (by decide)
 refine codeAny_call_builtin PySem.F.slot_gs_get.plain PySem.F.entry_gs_get (PySem.F.slot_gs_get.check _ _ _ _ _ _ _ _ hT5 (PySem.F.args_gs_get _ _ _) ?_)
 repeat (any_goals (first | assumption | (with_reducible refine wpAny_loadPart_at he ?_;rw [hcls]) | (with_reducible refine wpAny_isSubtype_exc hC ?_;rw [hcB]) | wp_step))
 refine ⟨Code.quiet_builtin _ (by decide +kernel),codeAny_builtin PySem.F.entry_object_class ?_⟩
 repeat (any_goals (first | assumption | (with_reducible refine wpAny_loadPart_at he ?_;rw [hcls]) | wp_step))
theorem clsEntryX{tk:Tok}{Q:Fin->Shared->Prop}(hC:h.get? C=some (excClassObj nm q C N bs bm true sn sub ab col dd k0 k1 k2 k3 k5 "ValueError.__new__"))(T:Chn h (.ref C::bm) m)(hm:m "__class__" = none)(he:h.get? e=some oe)(hcls:oe.cls=.ref C)(hq:Q (.done (.ret (.ref C))) ⟨h,g,d,t,os⟩):
  wpAny (model prog w) A (Builtin.«object.__getattribute__» ⟨[.ref e,.str "__class__" tk],[]⟩) Q E ⟨h,g,d,t,os⟩:=by
 have hT5:(⟨h,g,d,t,os⟩:Shared).TypeIs (.builtin "object.__class__") "getset_descriptor":=PySem.F.typeOf_object_class
 have f5:=PySem.F.typeOf_object_class
 have f6:=PySem.F.slot_gs_get.lookup
 have f7:=PySem.F.slot_gs_set.lookup
 repeat (any_goals (first | assumption | (with_reducible refine wpAny_loadPart_at he ?_;rw [hcls]) | (with_reducible refine lookX hC T lk_cls ?_;rw [hm]) | wp_step))
 refine clsGetX hC T he hcls ?_
 repeat (any_goals (first | assumption | wp_step))
theorem clsAttrX{Q:Option Value->Shared->Prop}(hC:h.get? C=some (excClassObj nm q C N bs bm true sn sub ab col dd k0 k1 k2 k3 k5 "ValueError.__new__"))(T:Chn h (.ref C::bm) m)(hg:m "__getattribute__" = none)(hm:m "__class__" = none)(hh:m "__getattr__" = none)(he:h.get? e=some oe)(hcls:oe.cls=.ref C)(hq:Q (some (.ref C)) ⟨h,g,d,t+1,os⟩):
  wpAny (model Cc.prog Cc.w) A (getAttr? (.ref e) "__class__") Q E ⟨h,g,d,t,os⟩:=by
 have FB:=PySem.F.attrBase_ValueError
 have f3:=FB.ga.bind (.ref e)
 have hx0:(false&&onTheHeap (Value.builtin "BaseException.__getattribute__"))=false:=rfl
 have hx2:(Value.builtin "BaseException.__getattribute__" == Value.builtin "object.__getattribute__")=false:=by decide +kernel
 have hx1:(onTheHeap (Value.ref C)&&Value.builtin "BaseException.__getattribute__" == Value.builtin "object.__getattribute__")=false:=by rw [hx2];rfl
 unfold getAttr? getAttrBy? getAttrBy
 repeat (any_goals (first | assumption | (with_reducible refine wpAny_loadPart_at he ?_;rw [hcls]) | (with_reducible refine lookX hC T FB.ga.lookup ?_;rw [hg]) | (with_reducible refine lookX hC T FB.noGetattr ?_;rw [hh]) | wp_step))
 refine codeAny_call_builtin FB.ga.plain PySem.F.entry_bexc_ga (chkGaX hC T he hcls (clsEntryX hC T hm he hcls ?_))
 repeat (any_goals (first | assumption | wp_step))
theorem isiX{b:Bool}{Q:Value->Shared->Prop}(hC:h.get? C=some (excClassObj nm q C N bs bm true sn sub ab col dd k0 k1 k2 k3 k5 "ValueError.__new__"))(hU:h.get? U=some (excClassObj nm' q' U N' bs' bm' hdct' sn' sub' ab' col' dd' j0 j1 j2 j3 j5 newId'))(T:Chn h (.ref C::bm) m)(hg:m "__getattribute__" = none)(hm:m "__class__" = none)(hh:m "__getattr__" = none)(he:h.get? e=some oe)(hcls:oe.cls=.ref C)
  (hin:(Value.ref C::bm).contains (.ref U)=b) (hq:∀ tk,Q (.bool b) ⟨h,g,d,tk,os⟩):wpAny (model Cc.prog Cc.w) A (call (.builtin "isinstance") [.ref e,.ref U]) Q E ⟨h,g,d,t,os⟩:=by
 refine call_isinstance_of ?_ (by intro q;cases q)
 unfold Builtin.«isinstance.nested»
 repeat (first | (with_reducible refine wpAny_loadPart_at he ?_;rw [hcls]) | wp_step)
 by_cases hCU:C=U
 . subst hCU
   have hb:b=true:=by rw [<-hin];simp
   subst hb
   rw [if_pos (beq_self_eq_true _)]
   repeat (first | refine wpAny_pure ?_ | refine wpAny_rule ?_ | refine wpAny_bind ?_)
   exact hq _
 . rw [if_neg (λ q=>hCU (by simpa using q))]
   repeat (first | (with_reducible refine wpAny_loadPart_at he ?_;rw [hcls]) | with_reducible refine wpAny_loadPart_at hU ?_ | (with_reducible refine wpAny_isSubtype_exc hC ?_;rw [hin]) | wp_step)
   cases b with
   | true=>
    rw [if_pos rfl]
    exact wpAny_pure (wpAny_pure (hq _))
   | false=>
    rw [if_neg Bool.false_ne_true]
    refine wpAny_bind (clsAttrX hC T hg hm hh he hcls ?_)
    repeat (first | with_reducible refine wpAny_loadPart_at hC ?_ | (with_reducible refine wpAny_isSubtype_exc hC ?_;rw [hin]) | wp_step)
    all_goals exact hq _
end
end U
namespace U
open PySem PyProof.Rows
set_option maxRecDepth 100000
section
variable {C:Cx}{K:Kx}{P:Kept}{f:Fx}{d:Nat}{ρ:Loc}{Z:Hp}{s:Shared}{A:Around}{tc:Tc}{E:Value->Shared->Prop}
theorem set_none{ρ:Loc}{i j:Nat}{w:AV}(h:(ρ.set i none)[j]?=some (some w)):j≠i/\ρ[j]?=some (some w):=by
 by_cases hj:j=i
 . subst hj
   rw [List.getElem?_set_self'] at h
   cases q:ρ[j]? with
   | none=>rw [q] at h;cases h
   | some _=>rw [q] at h;cases h
 . rw [List.getElem?_set_ne (Ne.symm hj)] at h;exact ⟨hj,h⟩
theorem unbind_tn{x:Str}{i:Nat}{pos:Pos}{Q:Shared->Prop}{A':Around}(H:Fr tc f A d)(hn:Tn tc x i)(hl:tc.kinds.lookup x=some .local)(S:St C P f ρ Z s)(h:∀ s',St C P f (ρ.set i none) Z s'->Q s'):
  wpAny (model C.prog C.w) A' (do bindName f.env x .none;unbindBehindTheSuite f.env x pos) (λ V s'=>Q s') E s:=by
 obtain ⟨m,cm,L⟩:=S.locs
 have hk:f.env.kindOf x=some .local:=by rw [Env.kindOf,H.kinds];exact hl
 have nm:∀ j y,f.names[j]?=some y->j≠i->y≠x:=λ j y e q q'=>by
  rw [H.names] at e
  exact q (hn.uniq j (q'▸e))
 refine wpAny_bind (wpAny_bindName (wpAny_storeName_local hk L.ns (λ h₁ n₁ sb1=>?_) (by rw [H.kind];rfl)))
 unfold unbindBehindTheSuite
 refine wpAny_onRaise (wpAny_unbindName_local hk n₁ (if_pos rfl) (by rw [H.kind];rfl) λ h₂ u n₂ sb2=>h _ ?_)
 have sb:∀ b,b≠f.env.locals->h₂.get? b=s.heap.get? b:=λ b hb=>(sb2.2 b hb).trans (sb1.2 b hb)
 refine S.relocs (.inl rfl) (λ b o hb e=>(sb b hb).trans e) (λ e he hf=>?_) ⟨_,cm,n₂,λ y c hc=>?_,λ j y w hy hw=>?_⟩
 . obtain ⟨o,es,ep,h1,h2,V⟩:=n₂
   exact ⟨o,h1,es,ep,h2⟩
 . obtain ⟨o,e1,e2⟩:=L.cell y c hc
   exact ⟨o,(sb c (L.ncl hc)).trans e1,e2⟩
 . obtain ⟨q,hw⟩:=set_none hw
   obtain ⟨cw,h1,h2⟩:=L.val j y w hy hw
   exact ⟨cw,h1,h2.imp (λ h=>⟨h.1,by simp [nm j y hy q,h.2]⟩) id⟩
theorem ss_tryAs{x n:Str}{np hpos pos:Pos}{c:String}{i:Nat}{body:List Stmt}{b0:Stmt}{suite:List Stmt}{pb ph:List PS}(hk:KOk C K)(hg:GOk C tc.g)(hd:tc.hd=false)(G:Gl tc x (.cls c))(hn:Tn tc n i)(hl:tc.kinds.lookup n=some .local)
  (hb:SSs C K tc body pb) (hh:SSs C K tc.on (b0::suite) ph):
  SS C K tc (.Try body [.ExceptHandler (some (.Name x np)) (some n) (b0::suite) hpos] [] [] pos) (.tryAs pb c i ph):=λ P f d ρ Z s A Qn Qr X H S w=>by
 refine wpAny_Try_except (wpAny_mono (hb H S w) (λ fl s₁ r=>?_) λ e s₁ r=>?_)
 . cases fl with
   | next=>exact wpAny_execs_nil r
   | _=>exact r
 . obtain ⟨ρ',a,Z',c',dd,rfl,S',ha,q⟩:=r
   have q:OkP (Z' a) λ o=>ExcP o λ c' V=>K.isx c' c true/\pSs K true d ph (ρ'.set i (some (.ref a))) Z' (λ ρ'' Z''=>Qn (ρ''.set i none) Z'') Qr (λ V V V=>False):=q
   rw [ha] at q
   obtain ⟨hxi,q'⟩:=q
   have hx0:f.hx=none:=by
    have:=H.hd;rw [hd] at this
    cases h:f.hx with
    | none=>rfl
    | some x=>rw [h] at this;cases this
   have H':Fr tc.on { f with hx:=some a } (A.mark (some (.ref a))) d:={ H with hd:=rfl,hand:=rfl }
   have on:∀ {ρ' Z s},Z a=some (.exc c' dd)->St C P f ρ' Z s->St C P { f with hx:=some a } ρ' Z s:=λ ha S=>{ S with hand:=λ x h=>by cases h;exact ⟨c',dd,ha⟩ }
   have off:∀ {ρ Z s},St C P { f with hx:=some a } ρ Z s->St C P f ρ Z s:=λ S=>{ S with hand:=λ x h=>by rw [hx0] at h;cases h }
   refine note_of H S' ha λ s₂ S₂ V=>flight_of S₂ ha λ s₃ S3=>?_
   obtain ⟨ob,g1,ca,vs,e1,e2,V⟩:=S3.rel a _ ha
   refine wpAny_handleBy_cons (codeAny_handlers_test (wpAny_mono (ld_glob (tc:=tc.on) (f:={ f with hx:=some a }) (Q:=λ c₁ s₄=>(∃ cb,C.clsAt c=some cb/\c₁=.ref cb)/\s₄=s₃) (E:=λ V V=>False) hg H' ⟨G.kind,G.g,G.nd⟩ (on ha S3) λ v hv=>?_) (λ c₁ s₄ h₁=>?_) λ V V y=>y.elim)) (by intro q;cases q)
   . obtain ⟨a',ha',rfl⟩:=hv
     exact ⟨⟨a',ha',rfl⟩,rfl⟩
   obtain ⟨⟨cb,hcb,rfl⟩,rfl⟩:=h₁
   obtain ⟨bm,m,bm',⟨N,nm,q₁,bs,sn,sub,ab,col,dd',k0,k1,k2,k3,k5,hC⟩,hin,⟨N',nm',qq,bs',sn',sub',ab',col',dd2,j0,j1,j2,j3,j5,hU⟩,hbe,V,V,V,V⟩:=hk.isx hxi ca cb e1 hcb
   have hC:=S3.base _ _ hC
   have hU:=S3.base _ _ hU
   have suite:codeAny (model C.prog C.w) (A.mark (some (.ref a))) (.handlers (.ref a) [.ExceptHandler none (some n) (b0::suite) hpos] f.env) (λ r s'=>match r with
     | .ok fl=>wpAny (model C.prog C.w) A (do bindName f.env n .none;unbindBehindTheSuite f.env n hpos) (λ V s5=>RF C P f Qn Qr fl s5) (RSX C P f X) s'
     | .error e=>cameBackBy (model C.prog C.w) A f.env (RSX C P f X) e s') s₄:=by
    refine codeAny_handlers_suite_as (flight_of (on ha S3) ha λ s5 S5=>store_tn (tc:=tc.on) (f:={ f with hx:=some a }) H' ⟨hn.here,hn.uniq,hn.kind⟩ S5 (v:=.ref a) rfl λ s6 S6=>?_)
    refine wpAny_mono (hh (f:={ f with hx:=some a }) H' S6 q') (λ fl s5 r=>?_) λ e s5 h=>by obtain ⟨V,V,V,V,V,V,V,V,h⟩:=h;exact h.elim
    cases fl with
    | next=>
     obtain ⟨ρ3,Z3,S5,q⟩:=r
     exact unbind_tn H hn hl (off S5) λ s' S'=>⟨_,_,S',q⟩
    | ret v=>
     obtain ⟨ρ3,av,Z3,hv,S5,q⟩:=r
     exact unbind_tn H hn hl (off S5) λ s' S'=>⟨_,av,Z3,hv,S',q⟩
    | brk=>exact r.elim
    | cont=>exact r.elim
   obtain ⟨hp,g,dr,tk,os⟩:=s₄
   exact excMatchX hC hU g1 e2 hin hbe suite
end
end U
namespace U
open PySem PyProof.Rows
end U
namespace U
open PySem PyProof.Rows PySem.SeqAt
section
variable {C:Cx}{K:Kx}{P:Kept}{f:Fx}{d:Nat}{ρ ρ':Loc}{Z:Hp}{s s':Shared}{A:Around}{tc:Tc}{E:Value->Shared->Prop}{Q:Post}
theorem range_any'(bs:List Bool):((List.range bs.length).any λ i=>bs[i]?.getD false)=bs.any id:=by
 rw [Bool.eq_iff_iff,any_eq_true,any_eq_true]
 constructor
 . rintro ⟨i,hi,e⟩
   have hi':=List.mem_range.mp hi
   rw [List.getElem?_eq_getElem hi',Option.getD_some] at e
   exact ⟨_,getElem_mem hi',e⟩
 . rintro ⟨b,hb,e⟩
   obtain ⟨i,hi,rfl⟩:=List.getElem_of_mem hb
   exact ⟨i,List.mem_range.mpr hi,by rw [List.getElem?_eq_getElem hi,Option.getD_some];exact e⟩
theorem call_any:CallOk C true .any (.builtin "any"):=λ P f ρ Z s A E Q vs cvs S hh h hv=>by
 apply oneE h hv
 intro x u hx h
 apply refE h hx
 intro a h
 refine ownE S h λ xs cs n V g r h=>okE h λ bs e q=>?_
 rw [bools_ok e] at r
 have l:bs.length=cs.size:=by rw [<-length_map (f:=AV.bool)];exact r.length
 refine call_any_walk (wpAny_pyIter_list ⟨_,g,rfl,n,rfl⟩ ?_)
 refine ⟨_,_,_,_,_,_,λ i=>bs[i]?.getD false,rfl,Walks.list (A:=A.in1) (hh rfl) _ a (Nat.ne_of_lt (Heap.lt_size g)) cs,⟨⟨_,Heap.get?_push_size _ rfl,rfl,rfl⟩,⟨_,Heap.get?_push_of_some _ g,rfl,n,rfl⟩⟩,?_,?_⟩
 . intro i v s' Q' E' hP hQ
   obtain ⟨b,q1,q2⟩:=map_at r (i:=i) (v:=v) (by rw [Array.getElem?_toList];exact hP)
   cases q2
   dsimp only at hQ
   rw [q1,Option.getD_some] at hQ
   exact wpAny_truthy_bool hQ
 . intro h' tk hk
   rw [<-l,range_any']
   exact rv is_bool (S.keeps (s':={ s with heap:=h',toks:=tk }) λ b o e=>hk b o (λ h=>Nat.ne_of_lt (Heap.lt_size e) (mem_singleton.mp h)) (Heap.get?_push_of_some _ e)) q
theorem ints_ok:∀ {xs:List AV} {is:List Int},ints? xs=some is->xs=is.map .int
 | [],_,h=>by cases h;rfl
 | .int i::r,is,h=>by
  obtain ⟨js,e,rfl⟩:=Option.map_eq_some_iff.mp (show (ints? r).map (i::·)=some is from h)
  rw [ints_ok e];rfl
 | .none::_,_,h=>by cases h
 | .bool _::_,_,h=>by cases h
 | .str _::_,_,h=>by cases h
 | .ref _::_,_,h=>by cases h
theorem ints_are:∀ {ns:List Int} {vs:List Value},All2 AV.is (ns.map .int) vs->IntsAre vs ns
 | [],_,h=>by cases h;exact .nil
 | n::ns,_,h=>by
  cases h with
  | cons h1 h2=>obtain ⟨t,rfl⟩:=h1;exact .cons n t (ints_are h2)
theorem call_sum:CallOk C true .sum (.builtin "sum"):=λ P f ρ Z s A E Q vs cvs S hh h hv=>by
 apply oneE h hv
 intro x u hx h
 apply refE h hx
 intro a h
 refine ownE S h λ xs cs n V g r h=>okE h λ ns e q=>?_
 rw [ints_ok e] at r
 have hi:=ints_are r
 obtain ⟨ys,hy⟩:=hi.allInts.items
 have hl:s.heap.IsList a (intItems ys):=by rw [<-hy];exact ⟨_,g,rfl,n,rfl⟩
 refine sum_intListG (hh rfl) hl λ h' tk t' hk=>?_
 have e1:ns=ys.toList.map (·.1):=by
  rw [<-nums_intItems,<-hy]
  exact hi.numsOf.symm
 rw [preSum_eq,List.take_of_length_le (by simp),<-e1]
 exact rv (av:=.int ns.sum) ⟨t',rfl⟩ (S.keeps (s':={ s with heap:=h',toks:=tk }) hk) q
theorem count_p{ss:List Txt}{k:Txt}:∀ {vs:List Value},All2 AV.is (ss.map .str) vs->vs.countP (strIs k)=ss.count k:=by
 induction ss with
 | nil=>intro vs h;cases h;rfl
 | cons x r ih=>
  intro vs h
  cases h with
  | cons h1 h2=>
   obtain ⟨t,rfl⟩:=h1
   rw [List.countP_cons,List.count_cons,ih h2,show strIs k (.str (toS x) t)=(x==k) from toS_beq _ _]
theorem call_count:CallOk C false BOp.count.p (.builtin "list.count"):=λ P f ρ Z s A E Q vs cvs S V h hv=>by
 apply twoE h hv
 intro x y u v hx hy h
 apply refE h hx
 intro a h
 apply strE h hy
 intro k t h
 refine ownE S h λ xs cs n V g r h=>okE h λ ss e q=>?_
 rw [strs_ok e] at r
 refine call_meets F.slot_list_count ⟨_,g,rfl⟩ F.entry_list_count (F.args_list_count_2 _ _) (SeqAt.list_countAt a cs n none #[] (.str (toS k) t) (strIs k)) ⟨g,λ y hy=>?_,?_⟩
 . obtain ⟨x,hx,t',e⟩:∃ x,x∈ss/\∃ t',y=.str (toS x) t':=by
    obtain ⟨av,hav,ha⟩:=r.mem (Array.mem_toList_iff.mpr hy)
    obtain ⟨x,hx,rfl⟩:=mem_map.mp hav
    obtain ⟨t',e⟩:=ha
    exact ⟨x,hx,t',e⟩
   rw [e]
   exact EqAt.str_str _ t' (toS k) t
 . rw [count_p r]
   exact rv is_int (S.tok _) q.2
theorem bm_count:BmOk C .count "count" "list.count":=⟨F.plainAttrs_list,F.slot_list_count,F.type_list_count,call_count⟩
theorem All2.drop{α β:Type}{R:α->β->Prop}{xs:List α}{ys:List β}(h:All2 R xs ys):∀ n,All2 R (xs.drop n) (ys.drop n):=by
 induction h with
 | nil=>intro n;rw [drop_nil,drop_nil];exact .nil
 | cons h1 h2 ih=>
  intro n
  cases n with
  | zero=>exact .cons h1 h2
  | succ n=>exact ih n
theorem item_all{t sl:Addr}{items:Array Value}{u:Tok}{Q:Value->Shared->Prop}(ht:IsTup s.heap t items)(hs:s.heap.IsSliceOf sl (.int 0 u) .none .none)(h:Q (.ref t) s):wpAny (model C.prog C.w) A (getItem (.ref t) (.ref sl)) Q E s:=by
 obtain ⟨os,hos,hcs,hds⟩:=id hs
 have hTs:s.TypeIs (.ref sl) "slice":=⟨os,hos,hcs⟩
 unfold getItem
 refine wpAny_holding (wpAny_bind (wpAny_sequenceKey ht.typeIs (by decide) ?_))
 refine wpAny_bind (wpAny_callSpecial?_slot (name:=Str.ofString "__getitem__") ht.typeIs slot_tuple_getitem
  (wpAny_call_entry slot_tuple_getitem ht.typeIs entry_tuple_getitem ?_ (args_tuple_getitem _ _)))
 show wpAny _ _ (Builtin.Tuple.tupleItemsOf (.ref t) >>= _) _ _ s
 refine wpAny_bind (tupleItemsOf_ ht ?_)
 refine wpAny_bind (wpAny_typeOf hTs ?_)
 rw [if_pos (by decide)]
 refine wpAny_bind (sliceApplied_from (a:=0) hs (Nat.zero_le _) ?_)
 show wpAny _ _ (if ((0:Int)==0&&(1:Int)==1&&(items.size-0)==items.size)=true then _ else _) _ _ s
 rw [if_pos (by simp)]
 refine wpAny_bind (wpAny_bind (wpAny_typeOf ht.typeIs (wpAny_pure ?_)))
 rw [if_pos (by decide)]
 exact wpAny_bind (wpAny_rule (wpAny_pure ⟨_,rfl,wpAny_pure h⟩))
theorem se_from{x l:Expr}{p pos:Pos}{px pl:PE}(hx:SE C K tc x px)(hl:SE C K tc l pl):
  SE C K tc (.Subscript x (.Slice (some l) none none p) pos) (.prim .from [px,pl]):=λ P f d ρ Z s A Q X H S w=>by
 rw [eval_Subscript]
 refine wpAny_bind (fitv (hx H S w) λ v s₁ av Z1 hv S₁ q=>wpAny_bind (wpAny_holding (wpAny_Slice (fitv (sp_of (e:=some l) hl H S₁ q) λ v1 s₂ a1 Z2 h1 S₂ q=>wpAny_pure (wpAny_pure (wpAny_bind (wpAny_standAt ?_)))))))
 have q:RefP av λ a=>IntP a1 λ i=>OkP (Z2 a) λ o=>TupP o λ xs=>(0<=i/\i.toNat<=xs.length/\xs.length<tooLong)/\WifP (i==0) (Q (.ref a) Z2) (NewO Z2 (.tup (xs.drop i.toNat)) Q):=q
 apply refE q hv
 intro a q
 apply intE q h1
 intro i t q
 refine okE q λ o e q=>?_
 cases o with
 | tup xs=>
  obtain ⟨⟨q0,q1,q2⟩,q⟩:=(show (0<=i/\i.toNat<=xs.length/\xs.length<tooLong)/\WifP (i==0) (Q (.ref a) Z2) (NewO Z2 (.tup (xs.drop i.toNat)) Q) from q)
  obtain ⟨n,rfl⟩:=Int.eq_ofNat_of_zero_le q0
  have S5:St C P f ρ Z2 { s₂ with heap:=s₂.heap.push { cls:=.type "slice",data:=.fields #[.int (n:Int) t,.none,.none] } }:=S₂.keeps λ b o e=>Heap.get?_push_of_some _ e
  refine S5.at e (λ V x=>x) λ cs m g r=>?_
  have ht:IsTup (s₂.heap.push { cls:=.type "slice",data:=.fields #[.int (n:Int) t,.none,.none] }) a cs:=⟨_,g,rfl,_,rfl⟩
  have l:xs.length=cs.size:=r.length
  have hsl:=Heap.IsSliceOf.new (h:=s₂.heap) (l:=.int (n:Int) t) (u:=.none) (st:=.none)
  refine tail_any (value:=x) (slice:=.Slice (some _) none none p) (ops:=[_,_]) ht.typeIs slot_tuple_getitem.lookup ?_ (by unfold subscripted;rfl)
  cases n with
  | zero=>exact item_all ht hsl (rv (av:=.ref a) rfl S5 q)
  | succ n=>
   refine getItem_tuple_from ht hsl (Nat.succ_le_succ (Nat.zero_le _)) (l▸q1) ?_ (by rw [<-l];exact tooLong_lt q2)
   exact rv_tup S5 q (All2.drop r _)
 | _=>exact False.elim q
theorem ss_never{st:Stmt}:SS C K tc st .never:=λ V V V V V V V V V V V V w=>w.elim
end
end U
namespace U
open PySem PyProof.Rows
section
variable {C:Cx}{K:Kx}{P:Kept}{f:Fx}{d:Nat}{ρ ρ':Loc}{Z:Hp}{s s':Shared}{A:Around}{tc:Tc}{E:Value->Shared->Prop}{Q:Post}
theorem all2_rep{xs:List AV}{vs:List Value}(h:All2 AV.is xs vs):∀ k:Nat,All2 AV.is (List.replicate k xs).flatten (List.replicate k vs).flatten
 | 0=>.nil
 | k+1=>by rw [replicate_succ,replicate_succ,flatten_cons,flatten_cons];exact h.append (all2_rep h k)
set_option tactic.hygienic true in
theorem bin_rep:BinOk C .rep .Mult:=λ P f ρ Z s A E Q x y u v S h hx hy=>by
 have h:IntP y λ i=>RepP Z x i Q:=h
 apply intE h hy
 intro i t h
 cases x with
 | str w=>
  obtain ⟨t',rfl⟩:=hx
  obtain ⟨hi,q⟩:=h
  have hok:MulOk (toS w) i:=by
   rcases hi with rfl | rfl
   . exact ⟨by decide,λ h=>absurd (by decide) h,λ h=>absurd (by decide) h⟩
   . exact ⟨by decide,(λ V h=>absurd h (by simp)),(λ V h=>absurd h (by simp))⟩
  refine SB.mul hok λ tk k=>?_
  rw [show Txt.mul (toS w) i=toS (bif i==1 then w else []) by rcases hi with rfl | rfl <;> rfl]
  exact rv is_str (S.tok k) q
 | ref a=>
  cases hx
  have h:OkP (Z a) λ o=>OwnL o λ xs=>(xs≠[]/\0<=i/\xs.length*i.toNat<tooLong)/\NewO Z (.list (List.replicate i.toNat xs).flatten) Q:=h
  refine okE h λ o e1 h=>?_
  cases o <;> first | exact h.elim | skip
  rename_i xs
  obtain ⟨⟨hne,h0,hl⟩,q⟩:=h
  refine S.at e1 (λ V x=>x) λ cs n g1 r1=>?_
  have hsz:cs.size=xs.length:=r1.length.symm
  have htl:U.tooLong=1000000:=rfl
  have hx:i.toNat<=xs.length*i.toNat:=Nat.le_mul_of_pos_left _ (List.length_pos_iff.mpr hne)
  have hmul:cs.size*i.toNat=xs.length*i.toNat:=by rw [hsz]
  have hne':cs.isEmpty=false:=by
   cases q:cs.isEmpty with
   | false=>rfl
   | true=>
    have:cs.size=0:=by simpa using q
    rw [hsz] at this
    exact absurd (List.length_eq_zero_iff.mp this) hne
  refine wpAny_binaryOp_repeat_ref (T:="list") (U:="int") (by decide) ⟨_,g1,rfl⟩ (λ s'=>typeIs_int s' i t) noFill_list_mul PySem.F.fills_int_mul PySem.F.slot_int_rmul repeat_list PySem.F.slot_int_index.lookup
   (call_meets PySem.F.slot_int_rmul (typeIs_int s i t) PySem.F.entry_int_rmul (PySem.F.args_int_rmul_2 _ _) (int___rmul___int_list i t a cs n)
    ⟨g1,rfl,⟨_,g1,rfl⟩,call_meets PySem.F.slot_list_mul ⟨_,g1,rfl⟩ PySem.F.entry_list_mul (PySem.F.args_list_mul_2 _ _)
     (AutoListH.list___mul___list_int_3 a cs n i t (by simp [Builtin.List.listFitsIndex];omega) (by omega) (by rw [hsz];simp [Builtin.List.listTooLong,sizeLine];omega)) ⟨g1,?_⟩⟩)
  rw [hne',if_neg Bool.false_ne_true,listMul_foldl]
  exact rv_list S q (all2_rep r1 _)
 | _=>exact h.elim
theorem se_isX{x y:Str}{p py pos:Pos}{c:String}{e:Expr}{pe:PE}(hk:KOk C K)(hg:GOk C tc.g)(G:Gl tc x (.bi "isinstance"))(G':Gl tc y (.cls c))(hn:notStar e=true)(he:SE C K tc e pe):SE C K tc (.Call (.Name x p) [e,.Name y py] [] pos) (.isX c pe):=λ P f d ρ Z s A Q X H S w=>by
 refine wpAny_Call_NameR (ld_glob hg H G S λ v hv=>?_)
 cases hv
 have hn2:[e,Expr.Name y py].all notStar=true:=by rw [all_cons,hn];rfl
 refine Calls.callWith_builtin (star_any hn2) (args_of hn2 ?_)
 rw [backTo_cons hn,backTo_cons rfl]
 refine Calls.spliced_cons (fitv (he H S w) λ v s₁ av Z1 hv S₁ q=>Calls.spliced_cons (ld_glob hg H G' S₁ λ v' hv'=>?_))
 obtain ⟨cb,hcb,rfl⟩:=hv'
 refine Calls.spliced_nil ?_
 apply xobE q hv
 intro a c' dd ea q
 obtain ⟨b,hx,q⟩:=q
 obtain ⟨oe,e0,ca,vs,e1,e3,e4,e5,e6,e7,e8⟩:=S₁.rel a _ ea
 obtain ⟨bm,m,bm',⟨N,nm,q₁,bs,sn,sub,ab,col,dd',k0,k1,k2,k3,k5,hC⟩,hin,⟨N',nm',qq,bs',sn',sub',ab',col',dd2,j0,j1,j2,j3,j5,hU⟩,hbe,hT,m1,m2,m3⟩:=hk.isx hx ca cb e1 hcb
 have hC:=S₁.base _ _ hC
 have hU:=S₁.base _ _ hU
 have hT:=hT.keeps S₁.base
 have fin:=λ tk=>rv is_bool (S₁.tok tk) q
 obtain ⟨hp,g,dr,tk,os⟩:=s₁
 exact isiX hC hU hT m1 m2 m3 e0 e3 hin fin
theorem se_isV{x y:Str}{p py pos:Pos}{e:Expr}{pe:PE}(hk:KOk C K)(hg:GOk C tc.g)(G:Gl tc x (.bi "isinstance"))(G':Gl tc y (.typ "ValueError"))(hn:notStar e=true)(he:SE C K tc e pe):SE C K tc (.Call (.Name x p) [e,.Name y py] [] pos) (.isV pe):=λ P f d ρ Z s A Q X H S w=>by
 refine wpAny_Call_NameR (ld_glob hg H G S λ v hv=>?_)
 cases hv
 have hn2:[e,Expr.Name y py].all notStar=true:=by rw [all_cons,hn];rfl
 refine Calls.callWith_builtin (star_any hn2) (args_of hn2 ?_)
 rw [backTo_cons hn,backTo_cons rfl]
 refine Calls.spliced_cons (fitv (he H S w) λ v s₁ av Z1 hv S₁ q=>Calls.spliced_cons (ld_glob hg H G' S₁ λ v' hv'=>?_))
 cases hv'
 refine Calls.spliced_nil ?_
 apply xobE q hv
 intro a c' dd ea q
 obtain ⟨⟨fnm,hx⟩,q⟩:=q
 obtain ⟨oe,e0,ca,vs,e1,e3,e4,e5,e6,e7,e8⟩:=S₁.rel a _ ea
 obtain ⟨mN,fa,oI,fd,⟨bm,⟨N,nm,q₁,bs,sn,sub,ab,col,dd',k0,k1,k2,k3,k5,hC⟩,hT⟩,V⟩:=hk.xin hx ca e1
 have hC:=S₁.base _ _ hC
 have hin:=(hT.keeps S₁.base).has (X:="ValueError") (b:=true) (by decide)
 have fin:=rv is_bool S₁ q
 obtain ⟨hp,g,dr,tk,os⟩:=s₁
 refine call_isinstance_of ?_ (by intro q;cases q)
 unfold Builtin.«isinstance.nested»
 have hty:typeOf (.type "ValueError")=pure (.type "type"):=by first | rfl | kernel_rfl
 repeat (first | (with_reducible refine wpAny_loadPart_at e0 ?_;rw [e3]) | (with_reducible refine wpAny_isSubtype_exc hC ?_;rw [hin]) | wp_step)
 exact fin
end
end U
namespace U
open PySem PyProof.Rows
noncomputable def tnOf(tc:Tc)(x:Str):Option Nat:=match tc.names.findIdx? (·==x) with
 | some i=>if !(tc.names.drop (i+1)).contains x&&(tc.kinds.lookup x==some .local||tc.kinds.lookup x==some .cell) then some i else none
 | none=>none
set_option tactic.hygienic true in
theorem tnOf_ok{tc:Tc}{x:Str}{i:Nat}(h:tnOf tc x=some i):Tn tc x i:=by
 unfold tnOf at h
 split at h
 . rename_i j hj
   split at h
   . rename_i hc
     cases h
     rw [Bool.and_eq_true,Bool.or_eq_true,beq_iff_eq,beq_iff_eq] at hc
     obtain ⟨h1,h2⟩:=hc
     rw [List.findIdx?_eq_some_iff_getElem] at hj
     obtain ⟨hlt,hj1,hj2⟩:=hj
     refine ⟨by rw [List.getElem?_eq_getElem hlt,beq_iff_eq.mp hj1],λ k hk=>?_,h2⟩
     rcases Nat.lt_trichotomy k i with q | q | q
     . have:=hj2 k q
       rw [List.getElem?_eq_getElem (Nat.lt_trans q hlt)] at hk
       rw [Option.some.inj hk] at this
       simp at this
     . exact q
     . have:x∈tc.names.drop (i+1):=List.mem_iff_getElem?.mpr ⟨k-(i+1),by rw [List.getElem?_drop,Nat.add_sub_cancel' q];exact hk⟩
       simp [this] at h1
   . cases h
 . cases h
noncomputable def nodupB:List Str->Bool
 | []=>true
 | x::r=>!r.contains x&&nodupB r
theorem nodupB_ok:∀ {l:List Str},nodupB l=true->l.Nodup
 | [],_=>.nil
 | x::r,h=>by
  unfold nodupB at h
  rw [Bool.and_eq_true] at h
  refine nodup_cons.mpr ⟨λ q=>?_,nodupB_ok h.2⟩
  have:=h.1;simp [q] at this
noncomputable def isFree(scope:Scope)(x:Str):Bool:=scope.names.any λ p=>p.1==x&&p.2==.free
theorem isFree_iff{scope:Scope}{x:Str}:isFree scope x=true ↔ (x,NameKind.free)∈scope.names:=by
 unfold isFree
 rw [any_eq_true]
 constructor
 . rintro ⟨⟨y,k⟩,hm,h⟩
   simp only [Bool.and_eq_true,beq_iff_eq] at h
   rw [<-h.1,<-h.2];exact hm
 . exact λ h=>⟨_,h,by simp⟩
noncomputable def compCap(tc:Tc)(scope:Scope):List Bool:=tc.names.map λ x=>isFree scope x
noncomputable def compChk(tc:Tc)(scope:Scope):Bool:=scope.kind==.function&&scope.names.all (λ p=>!(p.2==.cell))&&scope.names.all (λ p=>!(p.2==.free)||(tc.kinds.lookup p.1==some .cell&&(compKinds tc.kinds scope.names).lookup p.1==some .cell)) &&
 scope.names.all (λ p=>!(p.2==.local)||scope.names.lookup p.1==some .local)
theorem compChk_ok{tc:Tc}{scope:Scope}(h:compChk tc scope=true):CompOk tc scope (compCap tc scope):=by
 unfold compChk at h
 simp only [Bool.and_eq_true,beq_iff_eq,all_eq_true,Bool.or_eq_true,Bool.not_eq_true',beq_eq_false_iff_ne] at h
 obtain ⟨⟨⟨h1,h2⟩,h3⟩,h5⟩:=h
 have cap:∀ (i:Nat) x,tc.names[i]?=some x->(compCap tc scope)[i]?=some (isFree scope x):=λ i x hx=>by unfold compCap;rw [List.getElem?_map,hx];rfl
 refine ⟨h1,λ y hy=>h2 y hy,λ x hx=>?_,λ x hx hl=>?_,λ i x hx=>?_,length_map _,λ i x hx hc=>?_⟩
 . exact ((h3 _ hx).resolve_left λ q=>q rfl).1
 . exact (h5 _ hx).resolve_left λ q=>q hl
 . rw [cap i x hx,Option.some.injEq];exact isFree_iff
 . rw [cap i x hx,Option.some.injEq] at hc
   exact ((h3 _ (isFree_iff.mp hc)).resolve_left λ q=>q rfl).2
section
variable {C:Cx}{K:Kx}{g:List (Str×GK)}(X:Env' C K g){tc:Tc}(hg:tc.g=g)
abbrev CE (C:Cx) (K:Kx) (tc:Tc) (e:Expr):=Option { pe:PE // Both C K tc e pe }
abbrev CEs (C:Cx) (K:Kx) (tc:Tc) (es:List Expr):=Option { pes:List PE // SEs C K tc es pes }
noncomputable def glOf(tc:Tc)(x:Str):Option { k:GK // Gl tc x k }:=match h:tc.g.lookup x with
 | some k=>if h2:(tc.kinds.lookup x==some .globalImplicit&&!(x==("__debug__" : Str)))=true then some ⟨k,by
   rw [Bool.and_eq_true,beq_iff_eq,Bool.not_eq_true'] at h2;exact ⟨h2.1,h,h2.2⟩⟩ else none
 | none=>none
noncomputable def trConst(c:Const)(k:Nat)(p:Pos):CE C K tc (.Constant c k p):=match c with
 | .int i=>some ⟨.lit (.int i),plain se_int λ V V=>rfl⟩
 | .str x=>some ⟨.lit (.str x.cps.toList),plain se_str λ V V=>rfl⟩
 | .bool b=>some ⟨.lit (.bool b),plain se_bool λ V V=>rfl⟩
 | .none=>some ⟨.lit .none,plain se_none λ V V=>rfl⟩
 | _=>none
include X hg in
theorem gok:GOk C tc.g:=hg▸X.g
noncomputable def trLoc(x:Str)(p:Pos):CE C K tc (.Name x p):=match h:tc.names.findIdx? (·==x) with
 | some i=>if h2:(x==("__debug__" : Str))=false then some ⟨.loc i,plain (se_loc (by
   obtain ⟨hlt,hi,V⟩:=List.findIdx?_eq_some_iff_getElem.mp h
   rw [List.getElem?_eq_getElem hlt,beq_iff_eq.mp hi]) h2) λ V V=>rfl⟩ else none
 | none=>none
noncomputable def trName(x:Str)(p:Pos):CE C K tc (.Name x p):=match glOf tc x with
 | some ⟨.val v,G⟩=>some ⟨.lit v,plain (se_glob (gok X hg) G) λ V V=>rfl⟩
 | some _=>none
 | none=>trLoc x p
noncomputable def opB(b:Operator):Option { o:Op // BinOk C o b }:=match b with
 | .Add=>some ⟨.add,bin_add⟩
 | .Sub=>some ⟨.sub,bin_sub⟩
 | .Mult=>some ⟨.mul,bin_mul⟩
 | .FloorDiv=>some ⟨.fdiv,bin_fdiv⟩
 | .Mod=>some ⟨.mod,bin_mod⟩
 | _=>none
noncomputable def opC(b:CmpOp):{ o:Op // CmpOk C o b }:=match b with
 | .Eq=>⟨.eq,cmp_eq⟩
 | .NotEq=>⟨.ne,cmp_ne⟩
 | .Lt=>⟨.lt,cmp_lt⟩
 | .LtE=>⟨.le,cmp_le⟩
 | .Gt=>⟨.gt,cmp_gt⟩
 | .GtE=>⟨.ge,cmp_ge⟩
 | .Is=>⟨.is,cmp_is⟩
 | .IsNot=>⟨.isnot,cmp_isnot⟩
 | .In=>⟨.isin,cmp_in⟩
 | .NotIn=>⟨.notin,cmp_notin⟩
variable (F:(e:Expr)->CE C K tc e)
noncomputable def trEs:(es:List Expr)->CEs C K tc es
 | []=>some ⟨[],ses_nil⟩
 | e::es=>if h:notStar e=true then (F e).bind λ a=>(trEs es).bind λ as=>some ⟨a.1::as.1,ses_cons a.2.1 h as.2⟩ else none
noncomputable def trBin(l:Expr)(op:Operator)(r:Expr)(p:Pos):CE C K tc (.BinOp l op r p):=match opB (C:=C) op with
 | some o=>(F l).bind λ a=>(F r).bind λ b=>some ⟨.prim o.1 [a.1,b.1],plain (se_bin a.2.1 b.2.1 o.2) λ V V=>rfl⟩
 | none=>none
noncomputable def trUn(op:UnaryOp)(x:Expr)(p:Pos):CE C K tc (.UnaryOp op x p):=match op with
 | .Not=>(F x).bind λ a=>some ⟨.prim .not [a.1],se_not a.2.1,st_not a.2.2⟩
 | .USub=>(F x).bind λ a=>some ⟨.prim .neg [a.1],plain (se_neg a.2.1) λ V V=>rfl⟩
 | _=>none
noncomputable def trBool(op:BoolOp)(p:Pos):(es:List Expr)->CE C K tc (.BoolOp op es p)
 | []=>none
 | [x]=>(F x).bind λ a=>some ⟨a.1,se_one a.2.1,st_one a.2.2⟩
 | x::y::r=>(F x).bind λ a=>(trBool op p (y::r)).bind λ b=>match op,b with
  | .And,b=>some ⟨.and a.1 b.1,se_and a.2.1 b.2.1,st_and a.2.2 b.2.2⟩
  | .Or,b=>some ⟨.or a.1 b.1,se_or a.2.1 b.2.1,st_or a.2.2 b.2.2⟩
noncomputable def trCmp(l:Expr)(os:List CmpOp)(rs:List Expr)(p:Pos):CE C K tc (.Compare l os rs p):=match os,rs with
 | [o],[r]=>if h:behindInMarks o r=false then (F l).bind λ a=>(F r).bind λ b=>some ⟨.prim (opC (C:=C) o).1 [a.1,b.1],se_cmp a.2.1 b.2.1 (opC o).2 h,st_cmp a.2.1 b.2.1 (opC o).2 h⟩ else none
 | [o,o'],[r,r']=>if h:lastMarks [o,o'] [r,r']=false then (F l).bind λ a=>(F r).bind λ b=>(F r').bind λ c=>some ⟨.cmp2 (opC (C:=C) o).1 (opC (C:=C) o').1 a.1 b.1 c.1,se_cmp2 a.2.1 b.2.1 c.2.1 (opC o).2 (opC o').2 h,st_cmp2 a.2.1 b.2.1 c.2.1 (opC o).2 (opC o').2 h⟩ else none
 | _,_=>none
noncomputable def isiOf(t:String):Option (PLift (AnsT t)):=
 if h:t = "str" then some ⟨h▸ans_str⟩ else if h:t = "int" then some ⟨h▸ans_int⟩ else if h:t = "bool" then some ⟨h▸ans_bool⟩ else if h:t = "tuple" then some ⟨h▸ans_tuple⟩ else if h:t = "list" then some ⟨h▸ans_list⟩ else if h:t = "dict" then some ⟨h▸ans_dict⟩ else none
noncomputable def trTs(tc:Tc):(es:List Expr)->Option { ts:List String // GlTs tc es ts }
 | []=>some ⟨[],.nil⟩
 | .Name y _::r=>(match glOf tc y with
  | some ⟨.typ t,G⟩=>(isiOf t).bind λ h=>(trTs tc r).bind λ ts=>some ⟨t::ts.1,.cons G h.down ts.2⟩
  | _=>none)
 | _=>none
noncomputable def trIsi{x:Str}{p pos:Pos}(G:Gl tc x (.bi "isinstance"))(es:List Expr):CE C K tc (.Call (.Name x p) es [] pos):=match es with
 | [e,.Name y _]=>(match glOf tc y with
  | some ⟨.typ t,G'⟩=>(isiOf t).bind λ h=>if hn:notStar e=true then (F e).bind λ a=>some ⟨.prim (.isinst [t]) [a.1],plain (se_isinst (gok X hg) G G' h.down hn a.2.1) λ V V=>rfl⟩ else none
  | _=>none)
 | [e,.Tuple es _ _]=>if hn:notStar e=true then (trTs tc es).bind λ ts=>if hl:ts.1.length<30 then (F e).bind λ a=>some ⟨.prim (.isinst ts.1) [a.1],plain (se_isinstT (gok X hg) G ts.2 hl hn a.2.1) λ V V=>rfl⟩ else none else none
 | _=>none
structure Bi(C:Cx)(c:Value) where
 nh:Bool
 op:Op
 ok:CallOk C nh op c
noncomputable def biOf(id:String):Option (Bi C (.builtin id)):=
 if h:id = "len" then some ⟨false,.len,h▸call_len⟩ else if h:id = "all" then some ⟨true,.all,h▸call_all⟩ else none
noncomputable def tyOf(hC:C.Ok)(id:String):Option (Bi C (.type id)):=
 if h:id = "int" then some ⟨false,.toInt,h▸call_toInt⟩ else if h:id = "str" then some ⟨false,.toStr,h▸call_toStr⟩ else none
theorem hd_ok{nh hd:Bool}(h:(!nh||!hd)=true):nh=true->hd=false:=by
 intro e;subst e;cases hd
 . rfl
 . exact absurd h (by decide)
variable (ms:List (Str×String))
noncomputable def trCallG{x:Str}{k:GK}{p pos:Pos}(G:Gl tc x k)(es:List Expr):CE C K tc (.Call (.Name x p) es [] pos):=match k,G with
 | .bi id,G=>if h:id = "isinstance" then trIsi X hg F (h▸G) es else (biOf (C:=C) id).bind λ b=>if h:(!b.nh||!tc.hd)=true then (trEs F es).bind λ as=>some ⟨.prim b.op as.1,plain (se_bi (gok X hg) G b.ok (hd_ok h) as.2) λ V V=>rfl⟩ else none
 | .typ id,G=>(tyOf (C:=C) X.c id).bind λ b=>if h:(!b.nh||!tc.hd)=true then (trEs F es).bind λ as=>some ⟨.prim b.op as.1,plain (se_ty (gok X hg) G b.ok (hd_ok h) as.2) λ V V=>rfl⟩ else none
 | .fn f,G=>(trEs F es).bind λ as=>some ⟨.fn f as.1,plain (se_fn X hg G as.2) λ V V=>rfl⟩
 | .cls c,G=>(ms.lookup x).bind λ V=>none
 | _,_=>none
structure Bm(C:Cx)(n:Str) where
 op:BOp
 id:String
 ok:BmOk C op n id
noncomputable def bmOf(n:Str):Option (Bm C n):=
 if h:n = "append" then some ⟨_,_,h▸bm_append⟩ else if h:n = "get" then some ⟨_,_,h▸bm_get⟩ else if h:n = "join" then some ⟨_,_,h▸bm_join⟩ else if h:n = "extend" then some ⟨_,_,h▸bm_extend⟩ else if h:n = "pop" then some ⟨_,_,h▸bm_pop⟩ else none
theorem bm_chk{o:Expr}{a b:Pos}{es:List Expr}(h:(baseOk o&&(a.endLine==b.line)&&decide (es.length<30))=true):baseOk o=true/\(a.endLine==b.line)=true/\es.length<30:=by
 simp only [Bool.and_eq_true,decide_eq_true_eq] at h;exact ⟨h.1.1,h.1.2,h.2⟩
noncomputable def trMeth(o:Expr)(name:Str)(apos:Pos)(es:List Expr)(pos:Pos):CE C K tc (.Call (.Attribute o name apos) es [] pos):=
 if h:(baseOk o&&(apos.endLine==pos.line)&&decide (es.length<30))=true then (F o).bind λ a=>(trEs F es).bind λ as=>match bmOf (C:=C) name with
  | some b=>some ⟨.bm b.op a.1 as.1,plain (se_bm b.ok (bm_chk h).1 (bm_chk h).2.1 (bm_chk h).2.2 a.2.1 as.2) λ V V=>rfl⟩
  | none=>(ms.lookup name).bind λ V=>(λ _:Env' C K g=>none) X else none
noncomputable def trCall(f:Expr)(es:List Expr)(pos:Pos):CE C K tc (.Call f es [] pos):=match f with
 | .Name x _=>(glOf tc x).bind λ k=>trCallG X hg F ms k.2 es
 | .Attribute o name apos=>trMeth X F ms o name apos es pos
 | _=>none
noncomputable def trKs:(ks:List (Option Expr))->Option { ts:List Txt // All2 KeyC ks ts }
 | []=>some ⟨[],.nil⟩
 | some (.Constant (.str x) n p)::r=>(trKs r).bind λ ts=>some ⟨x.cps.toList::ts.1,.cons ⟨n,p,rfl⟩ ts.2⟩
 | _=>none
noncomputable def trVs:(es:List Expr)->Option { pes:List PE // All2 (SE C K tc) es pes }
 | []=>some ⟨[],.nil⟩
 | e::r=>(F e).bind λ a=>(trVs r).bind λ as=>some ⟨a.1::as.1,.cons a.2.1 as.2⟩
noncomputable def trDict(ks:List (Option Expr))(es:List Expr)(p:Pos):CE C K tc (.Dict ks es p):=(trKs ks).bind λ ts=>(trVs F es).bind λ as=>if h:ks.length=es.length/\ts.1.Nodup/\0<ks.length/\ks.length<=15 then
  some ⟨.dict ts.1 as.1,plain (se_dict X.c ts.2 as.2 h.1 h.2.1 (List.ne_nil_of_length_pos h.2.2.1) h.2.2.2) λ V V=>rfl⟩ else none
noncomputable def trP(e:Option Expr):Option { pe:PE // SP C K tc e pe }:=match e with
 | none=>some ⟨.lit .none,rfl⟩
 | some e=>(F e).bind λ a=>some ⟨a.1,a.2.1⟩
noncomputable def trSub(x y:Expr)(p:Pos):CE C K tc (.Subscript x y p):=match y with
 | .Slice l h t _=>(F x).bind λ a=>(trP F l).bind λ l=>(trP F h).bind λ h=>(trP F t).bind λ t=>some ⟨.prim .slice [a.1,l.1,h.1,t.1],plain (se_slice a.2.1 l.2 h.2 t.2) λ V V=>rfl⟩
 | .ListComp ..=>none
 | y=>if h:noSlice y=true then (F x).bind λ a=>(F y).bind λ b=>some ⟨.prim .item [a.1,b.1],plain (se_item a.2.1 b.2.1 h) λ V V=>rfl⟩ else none
noncomputable def trI(e:Expr):Option { pi:PI // SI C K tc e pi }:=if hd:tc.hd=false then
  match e with
  | .Call (.Name x p) es [] pos=>(match glOf tc x with
   | some ⟨.typ t,G⟩=>if h:t = "range" then (trEs F es).bind λ as=>some ⟨.range as.1,si_range (gok X hg) (h▸G) hd as.2⟩ else none
   | _=>(F (.Call (.Name x p) es [] pos)).bind λ a=>some ⟨.val a.1,si_val hd a.2.1⟩)
  | e=>(F e).bind λ a=>some ⟨.val a.1,si_val hd a.2.1⟩
 else none
noncomputable def trC(e:List Expr):Option { pc:Option PE // SC C K tc e pc }:=match e with
 | []=>some ⟨none,trivial⟩
 | [c]=>(F c).bind λ a=>some ⟨some a.1,a.2.2⟩
 | _=>none
noncomputable def tgNames:Expr->List Str
 | .Name x _=>[x]
 | .Tuple [.Name x _,.Name y _] _ _=>[x,y]
 | _=>[]
noncomputable def trTg(tc:Tc)(e:Expr):Option { is:List Nat // TgOk C tc e is/\Fgt is }:=match e with
 | .Name x _=>(match ht:tnOf tc x with
  | some i=>some ⟨[i],tg_name (tnOf_ok ht),fgt_one⟩
  | none=>none)
 | .Tuple [.Name x _,.Name y _] _ _=>if hd:tc.hd=false then (match ht:tnOf tc x,ht':tnOf tc y with
  | some i,some j=>some ⟨[i,j],tg_two hd (tnOf_ok ht) (tnOf_ok ht'),fgt_two⟩
  | _,_=>none) else none
 | _=>none
structure Cm(C:Cx)(K:Kx)(tc:Tc)(elt:Expr)(tg:Expr)(it:Expr)(ifs:List Expr)(sc:Scope) where
 is:List Nat
 pi:PI
 pc:Option PE
 pe:PE
 ok:CompOk tc sc (compCap tc sc)
 tn:TgOk C (compTc tc sc (compCap tc sc) (tgNames tg)) tg is/\Fgt is
 hi:(∀ i∈is,tc.names.length<=i)/\is.length=(tgNames tg).length
 ns:notSet it=true
 si:SI C K tc it pi
 se:SE C K (compTc tc sc (compCap tc sc) (tgNames tg)) elt pe
 sc:SC C K (compTc tc sc (compCap tc sc) (tgNames tg)) ifs pc
variable (G:(tc':Tc)->tc'.g=g->(e:Expr)->CE C K tc' e)
noncomputable def trComp(elt tg:Expr)(it:Expr)(ifs:List Expr)(sc:Scope):Option (Cm C K tc elt tg it ifs sc):=
 if h:compChk tc sc=true then if hn:notSet it=true then (trTg (C:=C) (compTc tc sc (compCap tc sc) (tgNames tg)) tg).bind λ i=>
   if hi:(∀ j∈i.1,tc.names.length<=j)/\i.1.length=(tgNames tg).length then (trI X hg F it).bind λ pi=>(G (compTc tc sc (compCap tc sc) (tgNames tg)) hg elt).bind λ pe=>(trC (G (compTc tc sc (compCap tc sc) (tgNames tg)) hg) ifs).bind λ pc=>
    some ⟨i.1,pi.1,pc.1,pe.1,compChk_ok h,i.2,hi,hn,pi.2,pe.2.1,pc.2⟩ else none
 else none else none
noncomputable def Cm.e{elt tg:Expr}{it:Expr}{ifs:List Expr}{sc:Scope}(m:Cm C K tc elt tg it ifs sc):PE:=.comp (compCap tc sc) m.is m.pi m.pc m.pe
noncomputable def trX(e:Expr):CE C K tc e:=match e with
 | .Constant c k p=>trConst c k p
 | .Name x p=>trName X hg x p
 | .BinOp l op r p=>trBin F l op r p
 | .UnaryOp op x p=>trUn F op x p
 | .BoolOp op es p=>trBool F op p es
 | .IfExp c x y _=>(F c).bind λ c=>(F x).bind λ a=>(F y).bind λ b=>some ⟨.ite c.1 a.1 b.1,se_ite c.2.2 a.2.1 b.2.1,st_ite c.2.2 a.2.2 b.2.2⟩
 | .Compare l os rs p=>trCmp F l os rs p
 | .Call f es [] pos=>trCall X hg F ms f es pos
 | .List es _=>(trEs F es).bind λ as=>some ⟨.prim .mkList as.1,plain (se_list as.2) λ V V=>rfl⟩
 | .Tuple es _ _=>(trEs F es).bind λ as=>some ⟨.prim .mkTup as.1,plain (se_tup as.2) λ V V=>rfl⟩
 | .Dict [] [] _=>some ⟨.prim .mkDict0 [],plain (se_dict0 X.c) λ V V=>rfl⟩
 | .Dict ks es p=>trDict X F ks es p
 | .Subscript x y p=>trSub F x y p
 | .ListComp elt [⟨tg,it,ifs,0⟩] sc _=>(trComp X hg F G elt tg it ifs sc).bind λ m=>some ⟨m.e,plain (se_comp m.ok m.tn m.hi m.ns m.si m.se m.sc) λ V V=>rfl⟩
 | _=>none
end
section
variable {C:Cx}{K:Kx}{g:List (Str×GK)}(X:Env' C K g){tc:Tc}(hg:tc.g=g)
abbrev CS (C:Cx) (K:Kx) (tc:Tc) (st:Stmt):=Option { ps:PS // SS C K tc st ps }
abbrev CSs (C:Cx) (K:Kx) (tc:Tc) (sts:List Stmt):=Option { pss:List PS // SSs C K tc sts pss }
noncomputable def trSs(F:(st:Stmt)->CS C K tc st):(sts:List Stmt)->CSs C K tc sts
 | []=>some ⟨[],sss_nil⟩
 | st::sts=>(F st).bind λ a=>(trSs F sts).bind λ as=>some ⟨a.1::as.1,sss_cons a.2 as.2⟩
noncomputable def tn(tc:Tc)(x:Str):Option { i:Nat // Tn tc x i }:=match h:tnOf tc x with
 | some i=>some ⟨i,tnOf_ok h⟩
 | none=>none
variable (E:(tc:Tc)->tc.g=g->(e:Expr)->CE C K tc e)
noncomputable def trName'(y:Str)(py:Pos)(e:Expr)(p:Pos):CS C K tc (.Assign [.Name y py] e p):=(tn tc y).bind λ j=>match e with
 | .ListComp elt [⟨tg,it,ifs,0⟩] sc _=>(trComp X hg (E tc hg) E elt tg it ifs sc).bind λ m=>some ⟨.assign (.name j.1) m.e,ss_comp m.ok m.tn m.hi m.ns m.si m.se m.sc j.2⟩
 | .Slice ..=>none
 | e=>if h:notComp e=true then (E tc hg e).bind λ a=>some ⟨.assign (.name j.1) a.1,ss_name j.2 a.2.1 h⟩ else none
noncomputable def trTwo(x:Str)(px:Pos)(y:Str)(py:Pos)(k:Nat)(tp:Pos)(e:Expr)(p:Pos):CS C K tc (.Assign [.Tuple [.Name x px,.Name y py] k tp] e p):=(tn tc x).bind λ i=>(tn tc y).bind λ j=>match e with
 | e=>if h:notComp e=true/\notTup e=true/\tc.hd=false then (E tc hg e).bind λ a=>some ⟨.assign (.tup [i.1,j.1]) a.1,ss_tup2 h.2.2 i.2 j.2 a.2.1 h.1 h.2.1⟩ else none
noncomputable def trAss(t e:Expr)(p:Pos):CS C K tc (.Assign [t] e p):=match t with
 | .Name y py=>trName' X hg E y py e p
 | .Subscript o i _=>if h:notComp e=true then (E tc hg e).bind λ a=>(E tc hg o).bind λ o=>(E tc hg i).bind λ i=>some ⟨.assign (.item o.1 i.1) a.1,ss_item a.2.1 o.2.1 i.2.1 h⟩ else none
 | .Tuple [.Name x px,.Name y py] k tp=>trTwo hg E x px y py k tp e p
 | _=>none
variable (F:(tc:Tc)->tc.g=g->(st:Stmt)->CS C K tc st)
noncomputable def trT(st:Stmt):CS C K tc st:=match st with
 | .Return (some e) _=>(E tc hg e).bind λ a=>some ⟨.ret a.1,ss_ret a.2.1⟩
 | .Expr e _=>if h:notComp e=true then (E tc hg e).bind λ a=>some ⟨.expr a.1,ss_expr a.2.1 h⟩ else none
 | .Assign [t] e p=>trAss X hg E t e p
 | .If c a b _=>(E tc hg c).bind λ c=>(trSs (F tc hg) a).bind λ a=>(trSs (F tc hg) b).bind λ b=>some ⟨.iff c.1 a.1 b.1,ss_if c.2.2 a.2 b.2⟩
 | .For (.Name x _) it body [] _=>if h:notSet it=true then (tn tc x).bind λ i=>(trI X hg (E tc hg) it).bind λ pi=>(trSs (F tc hg) body).bind λ b=>some ⟨.for [i.1] pi.1 b.1,ss_for i.2 h pi.2 b.2⟩ else none
 | .While c body [] _=>(E tc hg c).bind λ c=>(trSs (F tc hg) body).bind λ b=>some ⟨.while c.1 b.1,ss_while c.2.2 b.2⟩
 | _=>none
end
end U
namespace U
open PySem PyProof.Rows
section
variable {C:Cx}{K:Kx}{g:List (Str×GK)}(X:Env' C K g){tc:Tc}(hg:tc.g=g)
noncomputable def tyOf2(hC:C.Ok)(id:String):Option (Bi C (.type id)):=
 none
variable (F:(e:Expr)->CE C K tc e)(ms:List (Str×String))(xs:List Str)(G:(tc':Tc)->tc'.g=g->(e:Expr)->CE C K tc' e)
noncomputable def trTy{x:Str}{id:String}{p pos:Pos}(G':Gl tc x (.typ id))(es:List Expr):CE C K tc (.Call (.Name x p) es [] pos):=match tyOf2 (C:=C) X.c id with
 | some b=>if h:(!b.nh||!tc.hd)=true then (trEs F es).bind λ as=>some ⟨.prim b.op as.1,plain (se_ty (gok X hg) G' b.ok (hd_ok h) as.2) λ V V=>rfl⟩ else none
 | none=>trX X hg F ms G (.Call (.Name x p) es [] pos)
noncomputable def trIsx{x:Str}{p pos:Pos}(G':Gl tc x (.bi "isinstance"))(es:List Expr):CE C K tc (.Call (.Name x p) es [] pos):=match es with
 | [e,.Name y py]=>if hn:notStar e=true then (match glOf tc y with
  | some ⟨.cls c,Gy⟩=>(F e).bind λ a=>some ⟨.isX c a.1,plain (se_isX X.k (gok X hg) G' Gy hn a.2.1) λ V V=>rfl⟩
  | some ⟨.typ t,Gy⟩=>if h:t = "ValueError" then (F e).bind λ a=>some ⟨.isV a.1,plain (se_isV X.k (gok X hg) G' (h▸Gy) hn a.2.1) λ V V=>rfl⟩ else trX X hg F ms G (.Call (.Name x p) [e,.Name y py] [] pos)
  | _=>none) else none
 | es=>trX X hg F ms G (.Call (.Name x p) es [] pos)
noncomputable def trBi3{x:Str}{id:String}{p pos:Pos}(G':Gl tc x (.bi id))(es:List Expr):CE C K tc (.Call (.Name x p) es [] pos):=
 if h:id = "isinstance" then trIsx X hg F ms G (h▸G') es else
 if h:id = "any" /\ tc.hd=false then (trEs F es).bind λ as=>some ⟨.prim .any as.1,plain (se_bi (gok X hg) (h.1▸G') call_any (λ V=>h.2) as.2) λ V V=>rfl⟩ else
 if h:id = "sum" /\ tc.hd=false then (trEs F es).bind λ as=>some ⟨.prim .sum as.1,plain (se_bi (gok X hg) (h.1▸G') call_sum (λ V=>h.2) as.2) λ V V=>rfl⟩ else trX X hg F ms G (.Call (.Name x p) es [] pos)
noncomputable def trCount(o:Expr)(name:Str)(apos:Pos)(e:Expr)(pos:Pos):CE C K tc (.Call (.Attribute o name apos) [e] [] pos):=
 if hn:name = "count" then (if h:(baseOk o&&(apos.endLine==pos.line)&&decide ([e].length<30))=true then (F o).bind λ a=>(trEs F [e]).bind λ as=>some ⟨.bm .count a.1 as.1,hn▸plain (se_bm bm_count (bm_chk h).1 (bm_chk h).2.1 (bm_chk h).2.2 a.2.1 as.2) λ V V=>rfl⟩ else none)
 else trX X hg F ms G (.Call (.Attribute o name apos) [e] [] pos)
noncomputable def trCallN(x:Str)(p:Pos)(es:List Expr)(pos:Pos):CE C K tc (.Call (.Name x p) es [] pos):=match glOf tc x with
 | some ⟨.typ id,G'⟩=>trTy X hg F ms G G' es
 | some ⟨.bi id,G'⟩=>trBi3 X hg F ms G G' es
 | some ⟨.cls c,G'⟩=>(ms.lookup x).bind λ fnm=>(trEs F es).bind λ as=>some ⟨.newX c fnm as.1,plain (se_newX X.k (gok X hg) G' as.2) λ V V=>rfl⟩
 | _=>trX X hg F ms G (.Call (.Name x p) es [] pos)
noncomputable def trBase(x:Str)(np:Pos)(m:Str)(apos:Pos)(e:Expr)(t:Str)(kk:Nat)(cp pos:Pos):CE C K tc (.Call (.Attribute (.Name x np) m apos) [e,.Constant (.str t) kk cp] [] pos):=
 if hm:m = "__init__" then (match glOf tc x with
  | some ⟨.typ id,G'⟩=>if h:id = "ValueError" /\ (apos.endLine==pos.line)=true/\notStar e=true then (F e).bind λ a=>some ⟨.binit a.1 t.cps.toList,hm▸plain (se_binit X.k (gok X hg) (h.1▸G') h.2.1 h.2.2 a.2.1) λ V V=>rfl⟩ else none
  | _=>none)
 else trX X hg F ms G (.Call (.Attribute (.Name x np) m apos) [e,.Constant (.str t) kk cp] [] pos)
noncomputable def isRep:Expr->Bool
 | .Constant (.str _) _ _=>true
 | .List ..=>true
 | _=>false
noncomputable def trMul(l r:Expr)(p:Pos):CE C K tc (.BinOp l .Mult r p):=if isRep l then (F l).bind λ a=>(F r).bind λ b=>some ⟨.prim .rep [a.1,b.1],plain (se_bin a.2.1 b.2.1 bin_rep) λ V V=>rfl⟩ else trX X hg F ms G (.BinOp l .Mult r p)
noncomputable def trX2(e:Expr):CE C K tc e:=match e with
 | .BinOp l .Mult r p=>trMul X hg F ms G l r p
 | .Call (.Name x p) es [] pos=>trCallN X hg F ms G x p es pos
 | .Call (.Attribute (.Name x np) m apos) [e,.Constant (.str t) kk cp] [] pos=>trBase X hg F ms G x np m apos e t kk cp pos
 | .Call (.Attribute o m apos) [e] [] pos=>trCount X hg F ms G o m apos e pos
 | .Subscript x (.Slice (some l) none none _) _=>(F x).bind λ a=>(F l).bind λ b=>some ⟨.prim .from [a.1,b.1],plain (se_from a.2.1 b.2.1) λ V V=>rfl⟩
 | .Attribute o n p=>if xs.contains n then (if h:baseOk o=true then (F o).bind λ a=>some ⟨.xattr n.cps.toList a.1,plain (se_xattr (n:=n.cps.toList) X.k a.2.1 h) λ V V=>rfl⟩ else none) else trX X hg F ms G (.Attribute o n p)
 | e=>trX X hg F ms G e
end
noncomputable def trE2{C:Cx}{K:Kx}{g:List (Str×GK)}(X:Env' C K g)(ms:List (Str×String))(xs:List Str):Nat->(tc:Tc)->tc.g=g->(e:Expr)->CE C K tc e
 | 0,_,_,_=>none
 | n+1,tc,h,e=>trX2 X h (trE2 X ms xs n tc h) ms xs (trE2 X ms xs n) e
section
variable {C:Cx}{K:Kx}{g:List (Str×GK)}(X:Env' C K g){tc:Tc}(hg:tc.g=g)(ms:List (Str×String))(xs:List Str)
variable (E:(tc:Tc)->tc.g=g->(e:Expr)->CE C K tc e)(F:(tc:Tc)->tc.g=g->(st:Stmt)->CS C K tc st)
noncomputable def trRaise2(x:Str)(np:Pos)(es:List Expr)(cp p:Pos):CS C K tc (.Raise (some (.Call (.Name x np) es [] cp)) none p):=match ms.lookup x with
 | some fnm=>(match glOf tc x with
  | some ⟨.cls c,G⟩=>if h:tc.hd=false then (trEs (E tc hg) es).bind λ as=>some ⟨.raiseI c fnm as.1,ss_raiseI X.k (gok X hg) h G as.2⟩ else none
  | _=>none)
 | none=>some ⟨.never,ss_never⟩
noncomputable def trEnum(x:Str)(px:Pos)(y:Str)(py:Pos)(k:Nat)(tp:Pos)(z:Str)(pz:Pos)(e:Expr)(cp:Pos)(body:List Stmt)(pos:Pos):CS C K tc (.For (.Tuple [.Name x px,.Name y py] k tp) (.Call (.Name z pz) [e] [] cp) body [] pos):=match glOf tc z with
 | some ⟨.typ id,G⟩=>if h:id = "enumerate" /\ tc.hd=false/\notStar e=true then (tn tc x).bind λ i=>(tn tc y).bind λ j=>(E tc hg e).bind λ a=>(trSs (F tc hg) body).bind λ b=>
   some ⟨.for [i.1,j.1] (.enum a.1) b.1,ss_enum (gok X hg) h.2.1 (h.1▸G) i.2 j.2 h.2.2 a.2.1 b.2⟩ else none
 | _=>none
noncomputable def trTryAs(x:Str)(np:Pos)(n:Str)(hp p:Pos)(body:List Stmt)(b:Stmt)(hs:List Stmt):CS C K tc (.Try body [.ExceptHandler (some (.Name x np)) (some n) (b::hs) hp] [] [] p):=match glOf tc x with
 | some ⟨.cls c,G⟩=>if h:tc.hd=false/\tc.kinds.lookup n=some .local then (tn tc n).bind λ i=>(trSs (F tc hg) body).bind λ pb=>(trSs (F tc.on hg) (b::hs)).bind λ ph=>some ⟨.tryAs pb.1 c i.1 ph.1,ss_tryAs X.k (gok X hg) h.1 G i.2 h.2 pb.2 ph.2⟩ else none
 | _=>none
noncomputable def trT2(st:Stmt):CS C K tc st:=match st with
 | .Assign [.Attribute o n p] e pos=>if xs.contains n then (if h:notComp e=true then (E tc hg e).bind λ a=>(E tc hg o).bind λ o=>some ⟨.assign (.xattr o.1 n.cps.toList) a.1,ss_xattr (n:=n.cps.toList) X.k a.2.1 o.2.1 h⟩ else none) else trT X hg E F (.Assign [.Attribute o n p] e pos)
 | .Assign [.Name x p] e pos=>trT X hg E F (.Assign [.Name x p] e pos)
 | .For (.Name x p) (.Name y q) body [] pos=>trT X hg E F (.For (.Name x p) (.Name y q) body [] pos)
 | .For (.Tuple [.Name x px,.Name y py] k tp) (.Call (.Name z pz) [e] [] cp) body [] pos=>trEnum X hg E F x px y py k tp z pz e cp body pos
 | .Raise (some (.Call (.Name x np) es [] cp)) none p=>trRaise2 X hg ms E x np es cp p
 | .Try body [.ExceptHandler (some (.Name x np)) (some n) (b::hs) hp] [] [] p=>trTryAs X hg F x np n hp p body b hs
 | st=>trT X hg E F st
end
noncomputable def trS2{C:Cx}{K:Kx}{g:List (Str×GK)}(X:Env' C K g)(ms:List (Str×String))(xs:List Str):Nat->(tc:Tc)->tc.g=g->(st:Stmt)->CS C K tc st
 | 0,_,_,_=>none
 | n+1,_,h,st=>trT2 X h ms xs (trE2 X ms xs 40) (trS2 X ms xs n) st
end U
namespace U
open PySem PyProof.Rows PySem.W
structure CT where
 c:String
 at':List Txt
 ms:List (Txt×String)
structure XT where
 c:String
 at':List Txt
 f:String
 subs:List String
 rs:List String
structure Bd where
 q:Program
 loose:List Str
 fns:List String
 vals:List (Str×GK)
 refs:List (Str×Addr)
 cts:List CT
 exs:List String
 xts:List XT
structure FR where
 nm:Str
 ql:Str
 params:Arguments
 body:List Stmt
 scope:Scope
noncomputable def recOf(q:Program)(n:String):Option DefRec:=(recsOf q).find? λ d=>d.name==Str.ofString n
noncomputable def methOf(b:Bd)(n:String):Option (ClsRec×MethRec):=((b.cts.flatMap λ t=>t.ms.map λ e=>(e.2,Str.ofString t.c,toS e.1)).lookup n).bind λ e=>
 ((plainsOf b.q (looseW b.q b.loose)).find? λ c=>c.name==e.1).bind λ c=>(c.meths.find? λ m=>m.name==e.2).map λ m=>(c,m)
noncomputable def xrec(b:Bd)(c:String):Option (ClsRec×MethRec):=(clsOf? b.q (Str.ofString c)).bind λ r=>(r.meths.find? λ m=>m.name==("__init__" : Str)).map λ m=>(r,m)
noncomputable def xmOf(b:Bd)(n:String):Option (ClsRec×MethRec):=((b.xts.map λ t=>(t.f,t.c)).lookup n).bind (xrec b)
noncomputable def frOf(b:Bd)(n:String):Option FR:=match recOf b.q n with
 | some d=>some ⟨d.name,d.name,d.params,d.body,d.scope⟩
 | none=>(match methOf b n with
  | some r=>some ⟨r.2.name,r.1.name ++ "." ++ r.2.name,r.2.params,r.2.body,r.2.scope⟩
  | none=>(xmOf b n).map λ r=>⟨r.2.name,r.1.name ++ "." ++ r.2.name,r.2.params,r.2.body,r.2.scope⟩)
noncomputable def quietX:List Str:=["__setattr__","__getattribute__","__getattr__","__class__"]
inductive SubAt(h:Heap)(mg:Str->Option Value)(at':List Str)(nm:Str)(U f:Addr)(x:Str):Prop
 | mk (C:Addr) (mC:Str->Option Value) (e1:mg x=some (.ref C)) (e2:C≠U) (e3:XObj h C (.ref U::bmV)) (e4:Chn h (.ref C::.ref U::bmV) mC) (e5:∀ n∈quietX++at',mC n=none) (e6:mC nm=some (.ref f)):SubAt h mg at' nm U f x
inductive OwnAt(h:Heap)(at':List Str)(nm:Str)(U f:Addr):Prop
 | mk (mC:Str->Option Value) (e4:Chn h (.ref U::bmV) mC) (e5:∀ n∈quietX++at',mC n=none) (e6:mC nm=some (.ref f)):OwnAt h at' nm U f
inductive XIs(h:Heap)(mg:Str->Option Value)(subs at':List Str)(r:ClsRec×MethRec)(f:Addr):Prop
 | mk (U o pm cd doc) (h1:mg r.1.name=some (.ref U)) (h2:XObj h U bmV) (h6:h.get? f=some o) (h7:o.cls=.type "function") (h8:o.data=.func (methDef r.2.name (r.1.name ++ "." ++ r.2.name) r.2.params r.2.body r.2.scope pm cd doc)) (h9:h.CodeRec cd (r.1.name ++ "." ++ r.2.name))
   (h10:∀ x∈subs,SubAt h mg at' r.2.name U f x) (h11:∀ x∈subs,∀ y∈subs,x≠y->∀ C:Addr,mg x=some (.ref C)->mg y=some (.ref C)->False) (h12:OwnAt h at' r.2.name U f):XIs h mg subs at' r f
noncomputable def xats(b:Bd):List Str:=b.xts.flatMap λ t=>t.at'.map toS
noncomputable def xsubs(b:Bd):List Str:=b.xts.flatMap λ t=>t.subs.map Str.ofString
inductive MthIs(h:Heap)(mg:Str->Option Value)(r:ClsRec×MethRec)(f:Addr):Prop
 | mk (C N mN o pm cd doc) (h1:mg r.1.name=some (.ref C)) (h2:PlainAt h r.1 C N mN) (h3:mN r.2.name=some (.ref f)) (h4:h.get? f=some o) (h5:o.cls=.type "function") (h6:o.data=.func (methDef r.2.name (r.1.name ++ "." ++ r.2.name) r.2.params r.2.body r.2.scope pm cd doc)) (h7:h.CodeRec cd (r.1.name ++ "." ++ r.2.name)):MthIs h mg r f
open Classical in
noncomputable def fnOf(b:Bd)(mg:Str->Option Value)(h:Heap)(n:String):Option Addr:=match recOf b.q n with
 | some d=>(match mg d.name with | some (.ref a)=>some a | _=>none)
 | none=>(match methOf b n with
  | some r=>if x:∃ f,MthIs h mg r f then some (Classical.choose x) else none
  | none=>(match xmOf b n with
   | some r=>if x:∃ f,XIs h mg (xsubs b) (xats b) r f then some (Classical.choose x) else none
   | none=>none))
noncomputable def clsOf(mg:Str->Option Value)(c:String):Option Addr:=match mg (Str.ofString c) with
 | some (.ref a)=>some a
 | _=>none
noncomputable def cxOf(prog:Program)(w:World)(s:Shared)(b:Bd)(mg:Str->Option Value):Cx:={ prog,w,base:=s.heap,gens:=s.gens,os:=s.os,clsAt:=clsOf mg,fnAt:=fnOf b mg s.heap }
noncomputable def semK(C:Cx):Kx:=⟨semFn C,AttC C,MthC C,ExcC C,XatC C,XinC C,IsxC C⟩
theorem semK_ok(C:Cx):KOk C (semK C):=⟨λ ha h hx B hv hA hf=>h ha hx B hv hA hf,id,id,id,id,id,id⟩
noncomputable def gBoot:List (Str×GK):=[("len",.bi "len"),("min",.bi "min"),("max",.bi "max"),("all",.bi "all"),("any",.bi "any"),("isinstance",.bi "isinstance"),("sum",.bi "sum"),
 ("int",.typ "int"),("str",.typ "str"),("dict",.typ "dict"),("list",.typ "list"),("tuple",.typ "tuple"),("bool",.typ "bool"),("range",.typ "range"),("enumerate",.typ "enumerate"),("reversed",.typ "reversed"),("ValueError",.typ "ValueError"),("Exception",.typ "Exception")]
noncomputable def vTyp(t:String):Value->Bool
 | .type u=>t==u
 | _=>false
noncomputable def vBi(t:String):Value->Bool
 | .builtin u=>t==u
 | _=>false
noncomputable def gkB(k:GK)(v:Value):Bool:=match k with
 | .typ t=>vTyp t v
 | .bi t=>vBi t v
 | _=>false
noncomputable def dInt(i:Int):PyData->Bool
 | .int j=>i==j
 | _=>false
noncomputable def dStr(s:Txt):PyData->Bool
 | .str x=>x.cps.toList==s
 | _=>false
noncomputable def avD(a:AV)(d:PyData):Bool:=match a with
 | .int i=>dInt i d
 | .str s=>dStr s d
 | _=>false
noncomputable def gkD(k:GK)(d:PyData):Bool:=match k with
 | .val a=>avD a d
 | _=>false
theorem boot_all:gBoot.all (λ e=>(match bootBuiltins e.1 with | some v=>gkB e.2 v | none=>false)&&!(e.1==("__name__" : Str)))=true:=by decide +kernel
noncomputable def objNo(n:Str):Bool:=match fastLookup "object" n with
 | some none=>true
 | _=>false
set_option tactic.hygienic true in
theorem objNo_ok{n:Str}(h:objNo n=true):typeLookup (.type "object") n=pure none:=by
 unfold objNo at h
 rw [typeLookup_type,builtinLookup_eq_fast]
 split at h
 . rename_i e;rw [e]
 . cases h
noncomputable def excNo(n:Str):Bool:=match fastLookup "ValueError" n with
 | some none=>true
 | _=>false
set_option tactic.hygienic true in
theorem excNo_ok{n:Str}(h:excNo n=true):typeLookup (.type "ValueError") n=pure none:=by
 unfold excNo at h
 rw [typeLookup_type,builtinLookup_eq_fast]
 split at h
 . rename_i e;rw [e]
 . cases h
theorem objIs_ok{n:Str}(h:(fastLookup "object" n).isSome=true):∃ y,typeLookup (.type "object") n=pure y:=by
 rw [typeLookup_type,builtinLookup_eq_fast]
 cases e:fastLookup "object" n with
 | some y=>exact ⟨y,rfl⟩
 | none=>rw [e] at h;cases h
noncomputable def ctChk(b:Bd)(t:CT):Bool:=match (plainsOf b.q (looseW b.q b.loose)).find? λ c=>c.name==Str.ofString t.c with
 | some r=>t.at'.all (λ n=>r.quiet.contains (toS n)&&objNo (toS n))&&t.ms.all λ e=>(recOf b.q e.2).isNone&&(fastLookup "object" (toS e.1)).isSome&&(match methOf b e.2 with | some x=>x.1.name==Str.ofString t.c&&x.2.name==toS e.1 | none=>false)
 | none=>false
noncomputable def excIs(o:OwnSpec):Bool:=o.newId == "Exception.__new__" && o.bm==[.type "Exception",.type "BaseException",.type "object"]
noncomputable def exChk(b:Bd)(c:String):Bool:=match (ownsOf b.q).find? λ o=>o.name==Str.ofString c with
 | some o=>excIs o
 | none=>false
noncomputable def xtChk(b:Bd)(t:XT):Bool:=t.at'.all (λ n=>excNo (toS n))&&(recOf b.q t.f).isNone&&(methOf b t.f).isNone&&(match xmOf b t.f with | some x=>x.1.name==Str.ofString t.c&&x.2.name==("__init__" : Str) | none=>false)
noncomputable def gChk(b:Bd):Bool:=
 b.vals.all (λ e=>match valOf b.q e.1 with | some d=>gkD e.2 d | none=>false)&&b.fns.all (λ n=>(recOf b.q n).isSome)&&b.cts.all (ctChk b)&&b.exs.all (exChk b)&&b.xts.all (xtChk b) &&
 gBoot.all (λ e=>!startupNames.contains e.1&&!(looseW b.q b.loose).contains e.1&&!((recsOf b.q).map (·.name)).contains e.1&&!((litsOf b.q).map (·.1)).contains e.1&&!((clssOf b.q (looseW b.q b.loose)).map (·.name)).contains e.1)
noncomputable def gOf(b:Bd):List (Str×GK):=b.fns.map (λ n=>(Str.ofString n,.fn n))++b.vals++b.refs.map (λ r=>(r.1,.val (.ref r.2)))++(b.cts.map (·.c)++b.exs++b.xts.flatMap (λ t=>t.c::t.subs)).map (λ c=>(Str.ofString c,.cls c))++gBoot
noncomputable def msOf(b:Bd):List (Str×String):=(b.cts.flatMap λ t=>t.ms.map λ e=>(if e.1==initT then Str.ofString t.c else toS e.1,e.2))++b.xts.flatMap λ t=>t.rs.map λ c=>(Str.ofString c,t.f)
structure BdOk(b:Bd)(mean:ExcName->Option Value)(mg mb:Str->Option Value)(s:Shared):Prop where
 T:Top b.q (looseW b.q b.loose) mean mg mb s.heap
 E:TopE b.q (looseW b.q b.loose) mg s.heap
 g:gChk b=true
 r:∀ r∈b.refs,mg r.1=some (.ref r.2)
 x:∀ t∈b.xts,∀ r,xmOf b t.f=some r->∃ f,XIs s.heap mg (xsubs b) (xats b) r f
structure ChkOk(b:Bd):Prop where
 v:∀ e∈b.vals,(match valOf b.q e.1 with | some d=>gkD e.2 d | none=>false)=true
 f:∀ n∈b.fns,(recOf b.q n).isSome=true
 c:∀ t∈b.cts,ctChk b t=true
 x:∀ c∈b.exs,exChk b c=true
 y:∀ t∈b.xts,xtChk b t=true
 b:∀ e∈gBoot,(!startupNames.contains e.1&&!(looseW b.q b.loose).contains e.1&&!((recsOf b.q).map (·.name)).contains e.1&&!((litsOf b.q).map (·.1)).contains e.1&&!((clssOf b.q (looseW b.q b.loose)).map (·.name)).contains e.1)=true
theorem chk_ok{b:Bd}(h:gChk b=true):ChkOk b:=by
 unfold gChk at h
 rw [Bool.and_eq_true,Bool.and_eq_true,Bool.and_eq_true,Bool.and_eq_true,Bool.and_eq_true,all_eq_true,all_eq_true,all_eq_true,all_eq_true,all_eq_true,all_eq_true] at h
 exact ⟨h.1.1.1.1.1,h.1.1.1.1.2,h.1.1.1.2,h.1.1.2,h.1.2,h.2⟩
theorem gkB_ok{C:Cx}{k:GK}{v:Value}(h:gkB k v=true):k.is C v:=by
 cases k with
 | typ t=>cases v <;> first | (cases beq_iff_eq.mp h;rfl) | cases h
 | bi t=>cases v <;> first | (cases beq_iff_eq.mp h;rfl) | cases h
 | _=>cases h
theorem gkD_ok{C:Cx}{k:GK}{d:PyData}{v:Value}{h':Heap}(h:gkD k d=true)(r:Reads h' v d []):k.is C v:=by
 cases k with
 | val a=>
  cases a with
  | int i=>cases r <;> first | (cases beq_iff_eq.mp h;exact ⟨_,rfl⟩) | cases h
  | str t=>
   cases r with
   | str x tok=>
    have h:x.cps.toList=t:=beq_iff_eq.mp h
    subst h
    exact ⟨tok,by simp [toS]⟩
   | _=>cases h
  | _=>cases h
 | _=>cases h
section
variable {prog:Program}{w:World}{s:Shared}{mg mb:Str->Option Value}{mean:ExcName->Option Value}{b:Bd}
theorem recOf_mem{q:Program}{n:String}{d:DefRec}(h:recOf q n=some d):d∈recsOf q/\d.name=Str.ofString n:=⟨List.mem_of_find?_eq_some h,beq_iff_eq.mp (List.find?_some (p:=λ d:DefRec=>d.name==Str.ofString n) h)⟩
theorem methOf_mem{n:String}{r:ClsRec×MethRec}(h:methOf b n=some r):r.1∈plainsOf b.q (looseW b.q b.loose)/\r.2∈r.1.meths:=by
 unfold methOf at h
 obtain ⟨e,V,h⟩:=Option.bind_eq_some_iff.mp h
 obtain ⟨c,hc,h⟩:=Option.bind_eq_some_iff.mp h
 obtain ⟨m,hm,h⟩:=Option.map_eq_some_iff.mp h
 subst h
 exact ⟨List.mem_of_find?_eq_some hc,List.mem_of_find?_eq_some hm⟩
theorem mth_is(E:TopE b.q (looseW b.q b.loose) mg s.heap){n:String}{r:ClsRec×MethRec}(h:methOf b n=some r):∃ f,MthIs s.heap mg r f:=by
 obtain ⟨h1,h2⟩:=methOf_mem h
 obtain ⟨C,N,mN,e,P⟩:=E r.1 h1
 obtain ⟨f,o,pm,cd,doc,k1,k2,k3,k4,k5⟩:=P.ofCmp.meths r.2 h2
 exact ⟨f,C,N,mN,o,pm,cd,doc,e,P.ofCmp,k1,k2,k3,k4,k5⟩
theorem fnOf_meth(E:TopE b.q (looseW b.q b.loose) mg s.heap){n:String}{r:ClsRec×MethRec}(h0:recOf b.q n=none)(h:methOf b n=some r):∃ f,fnOf b mg s.heap n=some f/\MthIs s.heap mg r f:=by
 refine ⟨Classical.choose (mth_is E h),?_,Classical.choose_spec (mth_is E h)⟩
 unfold fnOf;rw [h0,h]
 exact dif_pos (mth_is E h)
theorem cls_of{c:Str}{n:String}{a:Addr}(e:c=Str.ofString n)(h:mg c=some (.ref a)):clsOf mg n=some a:=by
 unfold clsOf;rw [<-e,h]
set_option tactic.hygienic true in
theorem own_at(X:BdOk b mean mg mb s){c:String}(h:exChk b c=true):∃ a bm newId,OwnClsQ (Str.ofString c) a bm newId mg s.heap/\newId = "Exception.__new__" /\ bm=[.type "Exception",.type "BaseException",.type "object"]:=by
 unfold exChk at h
 split at h
 . rename_i o ho
   obtain ⟨a,O,V⟩:=X.T.own o (List.mem_of_find?_eq_some ho)
   unfold excIs at h
   rw [Bool.and_eq_true,beq_iff_eq,beq_iff_eq] at h
   have e:o.name=Str.ofString c:=beq_iff_eq.mp (List.find?_some (p:=λ o:OwnSpec=>o.name==Str.ofString c) ho)
   exact ⟨a,_,_,e▸O,h.1,h.2⟩
 . cases h
inductive CtAt(b:Bd)(mg:Str->Option Value)(h:Heap)(t:CT):Prop
 | mk (a N mN r) (h1:mg (Str.ofString t.c)=some (.ref a)) (h2:r∈plainsOf b.q (looseW b.q b.loose)) (h3:PlainAt h r a N mN) (h4:∀ n∈t.at',toS n∈r.quiet/\objNo (toS n)=true) (h5:∀ e∈t.ms,recOf b.q e.2=none/\(fastLookup "object" (toS e.1)).isSome=true/\∃ x,methOf b e.2=some x/\x.1.name=Str.ofString t.c/\x.2.name=toS e.1)
set_option tactic.hygienic true in
theorem ct_at(X:BdOk b mean mg mb s){t:CT}(h:ctChk b t=true):CtAt b mg s.heap t:=by
 unfold ctChk at h
 split at h
 . rename_i r hr
   obtain ⟨a,N,mN,e,P⟩:=X.E r (List.mem_of_find?_eq_some hr)
   have en:r.name=Str.ofString t.c:=beq_iff_eq.mp (List.find?_some (p:=λ c:ClsRec=>c.name==Str.ofString t.c) hr)
   rw [Bool.and_eq_true,all_eq_true,all_eq_true] at h
   refine ⟨a,N,mN,r,en▸e,List.mem_of_find?_eq_some hr,P.ofCmp,λ n hn=>?_,λ e he=>?_⟩
   . have:=h.1 n hn
     rw [Bool.and_eq_true,contains_iff_mem] at this
     exact this
   . have:=h.2 e he
     rw [Bool.and_eq_true,Bool.and_eq_true,Option.isNone_iff_eq_none] at this
     obtain ⟨⟨k1,k2⟩,k3⟩:=this
     refine ⟨k1,k2,?_⟩
     split at k3
     . rename_i x hx
       rw [Bool.and_eq_true,beq_iff_eq,beq_iff_eq] at k3
       exact ⟨x,hx,k3.1,k3.2⟩
     . cases k3
 . cases h
set_option tactic.hygienic true in
theorem xt_at(X:BdOk b mean mg mb s){t:XT}(ht:t∈b.xts)(h:xtChk b t=true):(∀ n∈t.at',typeLookup (.type "ValueError") (toS n)=pure none)/\∃ r f,xmOf b t.f=some r/\r.1.name=Str.ofString t.c/\r.2.name=("__init__" : Str)/\fnOf b mg s.heap t.f=some f/\XIs s.heap mg (xsubs b) (xats b) r f:=by
 unfold xtChk at h
 rw [Bool.and_eq_true,Bool.and_eq_true,Bool.and_eq_true,all_eq_true,Option.isNone_iff_eq_none,Option.isNone_iff_eq_none] at h
 obtain ⟨⟨⟨h1,h2⟩,h3⟩,h4⟩:=h
 refine ⟨λ n hn=>excNo_ok (h1 n hn),?_⟩
 split at h4
 . rename_i r hr
   rw [Bool.and_eq_true,beq_iff_eq,beq_iff_eq] at h4
   have x:=X.x t ht r hr
   refine ⟨r,Classical.choose x,hr,h4.1,h4.2,?_,Classical.choose_spec x⟩
   unfold fnOf;rw [h2,h3,hr]
   exact dif_pos x
 . cases h4
theorem sub_mem{t:XT}(ht:t∈b.xts){c:String}(hc:c∈t.subs):Str.ofString c∈xsubs b:=mem_flatMap.mpr ⟨t,ht,mem_map.mpr ⟨c,hc,rfl⟩⟩
set_option tactic.hygienic true in
theorem gOk_of(X:BdOk b mean mg mb s):GOk (cxOf prog w s b mg) (gOf b):=by
 obtain ⟨h1,h2,hc,hx,hy,h3⟩:=chk_ok X.g
 have T:=X.T
 refine ⟨mg,mb,T.g,T.b,λ x k hk=>?_⟩
 have hm:=lookup_mem hk
 unfold gOf at hm
 rcases mem_append.mp hm with hm | hm
 . rcases mem_append.mp hm with hm | hm
   . rcases mem_append.mp hm with hm | hm
     . rcases mem_append.mp hm with hm | hm
       . obtain ⟨n,hn,e⟩:=mem_map.mp hm
         cases e
         obtain ⟨d,hd⟩:=Option.isSome_iff_exists.mp (h2 n hn)
         obtain ⟨hd1,hd2⟩:=recOf_mem hd
         obtain ⟨a,V,V,V,V,ha,V⟩:=T.fn d hd1
         refine ⟨.ref a,⟨a,?_,rfl⟩,.inl (hd2▸ha)⟩
         show fnOf b mg s.heap n=some a
         unfold fnOf;rw [hd];simp only [ha]
       . have:=h1 _ hm
         split at this
         . rename_i d hd
           obtain ⟨v,e1,e2⟩:=T.const _ _ hd
           exact ⟨v,gkD_ok this (e2 s.heap),.inl e1⟩
         . cases this
     . obtain ⟨r,hrm,e⟩:=mem_map.mp hm
       cases e
       exact ⟨_,rfl,.inl (X.r r hrm)⟩
   . obtain ⟨c,hcm,e⟩:=mem_map.mp hm
     cases e
     rcases mem_append.mp hcm with q | q
     . rcases mem_append.mp q with q | q
       . obtain ⟨t,ht,rfl⟩:=mem_map.mp q
         obtain ⟨a,N,mN,r,e1,V⟩:=ct_at X (hc t ht)
         exact ⟨.ref a,⟨a,cls_of rfl e1,rfl⟩,.inl e1⟩
       . obtain ⟨a,bm,nid,O,V⟩:=own_at X (hx c q)
         exact ⟨.ref a,⟨a,cls_of rfl O.bound,rfl⟩,.inl O.bound⟩
     . obtain ⟨t,ht,q⟩:=mem_flatMap.mp q
       obtain ⟨V,r,f,V,j1,V,V,U,o,pm,cd,doc,e1,V,V,V,V,V,e10,V,V⟩:=xt_at X ht (hy t ht)
       rcases mem_cons.mp q with rfl | q
       . rw [j1] at e1
         exact ⟨.ref U,⟨U,cls_of rfl e1,rfl⟩,.inl e1⟩
       . obtain ⟨C,mC,e1,V⟩:=e10 _ (sub_mem ht q)
         exact ⟨.ref C,⟨C,cls_of rfl e1,rfl⟩,.inl e1⟩
 . have q:=h3 _ hm
   have bb:=all_eq_true.mp U.boot_all _ hm
   rw [Bool.and_eq_true] at bb
   simp only [Bool.and_eq_true,Bool.not_eq_true'] at q
   obtain ⟨⟨⟨⟨q1,q2⟩,q3⟩,q4⟩,q5⟩:=q
   split at bb
   . rename_i v hv
     refine ⟨v,gkB_ok bb.1,.inr ⟨T.free x ?_ ?_ ?_ ?_ ?_,?_⟩⟩
     . simpa using q1
     . simpa using q2
     . simpa using q3
     . simpa using q4
     . simpa using q5
     . rw [T.builtins x (by have:=bb.2;simpa using this)];exact hv
   . exact absurd bb.1 Bool.false_ne_true
set_option tactic.hygienic true in
theorem fn_is(X:BdOk b mean mg mb s){n:String}{r:FR}{a:Addr}(h:frOf b n=some r)(ha:fnOf b mg s.heap n=some a):∃ o pm cd doc,s.heap.get? a=some o/\o.data=.func (methDef r.nm r.ql r.params r.body r.scope pm cd doc)/\s.heap.CodeRec cd r.ql:=by
 unfold frOf at h
 split at h
 . rename_i d hd
   cases h
   obtain ⟨a',o,pm,code,doc,e1,e2,e3,e4⟩:=X.T.fn d (recOf_mem hd).1
   unfold fnOf at ha
   rw [hd] at ha
   simp only [e1] at ha
   cases ha
   exact ⟨o,pm,code,doc,e2,e3,e4⟩
 . rename_i hd
   split at h
   . rename_i x hx
     cases h
     obtain ⟨f,e1,C,N,mN,o,pm,cd,doc,k0,k1,k2,k3,k4,k5,k6⟩:=fnOf_meth X.E hd hx
     cases same e1 ha
     exact ⟨o,pm,cd,doc,k3,k5,k6⟩
   . rename_i hm
     obtain ⟨x,hx,rfl⟩:=Option.map_eq_some_iff.mp h
     unfold fnOf at ha
     rw [hd,hm,hx] at ha
     dsimp only at ha
     split at ha
     . rename_i y
       cases ha
       obtain ⟨U,o,pm,cd,doc,V,V,j1,V,j2,j3,V,V⟩:=Classical.choose_spec y
       exact ⟨o,pm,cd,doc,j1,j2,j3⟩
     . cases ha
set_option tactic.hygienic true in
theorem env_of(X:BdOk b mean mg mb s):Env' (cxOf prog w s b mg) (semK (cxOf prog w s b mg)) (gOf b) where
 c:=X.T.nolimit
 k:=semK_ok _
 g:=gOk_of X
 f:=λ n a ha=>by
  have ha':fnOf b mg s.heap n=some a:=ha
  have:∃ r,frOf b n=some r:=by
   unfold fnOf at ha'
   unfold frOf
   split at ha'
   . exact ⟨_,rfl⟩
   . split at ha'
     . exact ⟨_,rfl⟩
     . split at ha'
       . rename_i r hr;rw [hr];exact ⟨_,rfl⟩
       . cases ha'
  obtain ⟨r,hr⟩:=this
  obtain ⟨o,pm,cd,doc,h1,h2,V⟩:=fn_is X hr ha
  exact ⟨o,_,h1,h2⟩
structure Kc(K:Kx)(cts:List CT)(exs:List String)(xts:List XT):Prop where
 att:∀ t∈cts,∀ n∈t.at',K.att t.c n
 mth:∀ t∈cts,∀ e∈t.ms,K.mth t.c e.1 e.2
 xat:∀ t∈xts,∀ c∈t.subs,∀ n∈t.at',K.xat c n
 xin:∀ t∈xts,∀ c∈t.subs,K.xin c t.f
 isu:∀ t∈xts,∀ c∈t.subs,K.isx c t.c true
 isx:∀ t∈xts,∀ c∈t.subs,∀ c'∈t.subs,K.isx c c' (decide (Str.ofString c=Str.ofString c'))
 xau:∀ t∈xts,∀ n∈t.at',K.xat t.c n
 xiu:∀ t∈xts,K.xin t.c t.f
theorem bmV_base(l:List Value):(l++bmV).contains (.type "BaseException")=true:=by rw [contains_iff_mem];exact mem_append_right _ (by decide)
theorem kc_of(X:BdOk b mean mg mb s):Kc (semK (cxOf prog w s b mg)) b.cts b.exs b.xts:=by
 obtain ⟨V,V,hc,hx,hy,V⟩:=chk_ok X.g
 refine ⟨λ t ht n hn a ha=>?_,λ t ht e he a ha=>?_,λ t ht c hcm n hn a ha=>?_,λ t ht c hcm a ha=>?_,λ t ht c hcm a a' ha ha'=>?_,λ t ht c hcm c' hcm' a a' ha ha'=>?_,λ t ht n hn a ha=>?_,λ t ht a ha=>?_⟩
 . obtain ⟨a',N,mN,r,e1,V,P,k,V⟩:=ct_at X (hc t ht)
   cases same (cls_of rfl e1) ha
   exact ⟨N,mN,P.cls,P.quiet _ (mem_append_left _ (.tail _ (.head _))),P.quiet _ (mem_append_left _ (.head _)),P.quiet _ (k n hn).1,objNo_ok (k n hn).2⟩
 . obtain ⟨a',N0,mN0,r,e1,V,P0,V,k⟩:=ct_at X (hc t ht)
   cases same (cls_of rfl e1) ha
   obtain ⟨k1,k2,x,k3,k4,k5⟩:=k e he
   obtain ⟨f,e2,C,N,mN,o,pm,cd,doc,j0,P,j2,j3,j4,j5,j6⟩:=fnOf_meth X.E k1 k3
   rw [k4,e1] at j0
   cases j0
   exact ⟨N,mN,f,o,_,P.cls,P.quiet _ (mem_append_left _ (.tail _ (.head _))),P.quiet _ (mem_append_left _ (.tail _ (.tail _ (.head _)))),k5▸j2,j3,j4,j5,e2,_,(objIs_ok k2).choose_spec⟩
 . obtain ⟨h1,r,f,V,V,V,V,U,o,pm,cd,doc,V,V,V,V,V,V,e10,V,V⟩:=xt_at X ht (hy t ht)
   obtain ⟨C,mC,e1,V,e3,e4,e5,V⟩:=e10 _ (sub_mem ht hcm)
   cases same (cls_of rfl e1) ha
   exact ⟨mC,⟨_,e3,e4⟩,e5 _ (mem_append_right _ (mem_flatMap.mpr ⟨t,ht,mem_map.mpr ⟨n,hn,rfl⟩⟩)),e5 _ (.tail _ (.head _)),e5 _ (.tail _ (.tail _ (.head _))),e5 _ (.head _),h1 n hn⟩
 . obtain ⟨h1,r,f,V,V,j2,j3,U,o,pm,cd,doc,V,V,e6,e7,e8,V,e10,V⟩:=xt_at X ht (hy t ht)
   obtain ⟨C,mC,e1,V,e3,e4,V,i6⟩:=e10 _ (sub_mem ht hcm)
   cases same (cls_of rfl e1) ha
   exact ⟨mC,f,o,_,⟨_,e3,e4⟩,j2▸i6,e6,e7,e8,j3⟩
 . obtain ⟨h1,r,f,V,j1,V,V,U,o,pm,cd,doc,u1,u2,V,V,V,V,e10,V,V⟩:=xt_at X ht (hy t ht)
   obtain ⟨C,mC,e1,V,e3,e4,e5,V⟩:=e10 _ (sub_mem ht hcm)
   cases same (cls_of rfl e1) ha
   rw [j1] at u1
   cases same (cls_of rfl u1) ha'
   exact ⟨_,mC,bmV,e3,by rw [contains_iff_mem];exact .tail _ (.head _),u2,bmV_base [],e4,e5 _ (.tail _ (.head _)),e5 _ (.tail _ (.tail _ (.tail _ (.head _)))),e5 _ (.tail _ (.tail _ (.head _)))⟩
 . obtain ⟨h1,r,f,V,j1,V,V,U,o,pm,cd,doc,u1,u2,V,V,V,V,e10,e11⟩:=xt_at X ht (hy t ht)
   obtain ⟨C,mC,e1,V,e3,e4,e5,V⟩:=e10 _ (sub_mem ht hcm)
   obtain ⟨C',mC',e1',n2,e3',V⟩:=e10 _ (sub_mem ht hcm')
   cases same (cls_of rfl e1) ha
   cases same (cls_of rfl e1') ha'
   refine ⟨_,mC,_,e3,?_,e3',bmV_base [.ref U],e4,e5 _ (.tail _ (.head _)),e5 _ (.tail _ (.tail _ (.tail _ (.head _)))),e5 _ (.tail _ (.tail _ (.head _)))⟩
   by_cases q:Str.ofString c=Str.ofString c'
   . rw [q] at e1
     cases e1.symm.trans e1'
     rw [decide_eq_true q,contains_iff_mem];exact .head _
   . rw [decide_eq_false q]
     have hn:a≠a':=λ z=>e11 _ (sub_mem ht hcm) _ (sub_mem ht hcm') q a e1 (z▸e1')
     cases hh:(Value.ref a::.ref U::bmV).contains (.ref a') with
     | false=>rfl
     | true=>
      have hh:=contains_iff_mem.mp hh
      rcases mem_cons.mp hh with z | hh
      . cases z;exact absurd rfl hn
      . rcases mem_cons.mp hh with z | hh
        . cases z;exact absurd rfl n2
        . exact absurd hh (by simp [bmV])
 . obtain ⟨h1,r,f,V,j1,V,V,U,o,pm,cd,doc,u1,u2,V,V,V,V,V,V,⟨mC,e4,e5,V⟩⟩:=xt_at X ht (hy t ht)
   rw [j1] at u1
   cases same (cls_of rfl u1) ha
   exact ⟨mC,⟨_,u2,e4⟩,e5 _ (mem_append_right _ (mem_flatMap.mpr ⟨t,ht,mem_map.mpr ⟨n,hn,rfl⟩⟩)),e5 _ (.tail _ (.head _)),e5 _ (.tail _ (.tail _ (.head _))),e5 _ (.head _),h1 n hn⟩
 . obtain ⟨h1,r,f,V,j1,j2,j3,U,o,pm,cd,doc,u1,u2,e6,e7,e8,V,V,V,⟨mC,e4,V,e9⟩⟩:=xt_at X ht (hy t ht)
   rw [j1] at u1
   cases same (cls_of rfl u1) ha
   exact ⟨mC,f,o,_,⟨_,u2,e4⟩,j2▸e9,e6,e7,e8,j3⟩
end
noncomputable def namesOf(d:FR):List Str:=
 let ps:=d.params.args.map (·.arg)
 ps++((d.scope.names.filter λ e=>e.2==.local||e.2==.cell).map (·.1)).filter λ x=>!ps.contains x
noncomputable def tcOf(hd:Bool)(g:List (Str×GK))(d:FR):Tc:={ hd,names:=namesOf d,kinds:=d.scope.names,g }
noncomputable def fnChk (d : FR) : Bool := d.params.posonlyargs.isEmpty && d.params.vararg.isNone && d.params.kwonlyargs.isEmpty && d.params.kwarg.isNone && nodupB (d.params.args.map (·.arg)) && d.scope.kind == .function && !d.scope.isCoroutine && !d.scope.isGenerator &&
      (d.params.args.map (·.arg)).all (λ x=>d.scope.names.lookup x==some .local||d.scope.names.lookup x==some .cell)
noncomputable def EntOk(C:Cx)(hd:Bool)(n:String)(fn:Fn):Prop:=∀ {d vs Z Q X} {a cvs P hx fs s A},vs.length=fn.np->pSs (semK C) hd d fn.body (args1 fn.names vs) Z (λ V Z'=>Q .none Z') Q (λ V a Z'=>X a Z') ->
 C.fnAt n=some a->hx.isSome=hd->StB C P hx fs Z s->All2 AV.is vs cvs->ABk A hx fs d->codeAny (model C.prog C.w) A (.call (.ref a) ⟨cvs,[]⟩) (RB C P hx fs Q X) s
section
variable {prog:Program}{w:World}{s:Shared}{mg mb:Str->Option Value}{mean:ExcName->Option Value}{b:Bd}
theorem ent_of(X:BdOk b mean mg mb s){hd:Bool}{n:String}{dr:FR}{pss:List PS}(hfd:frOf b n=some dr)(hc:fnChk dr=true)
  (hS:SSs (cxOf prog w s b mg) (semK (cxOf prog w s b mg)) (tcOf hd (gOf b) dr) dr.body pss):EntOk (cxOf prog w s b mg) hd n ⟨dr.params.args.length,(namesOf dr).length,pss⟩:=λ {d vs Z Q X' a cvs P hx fs s' A} hl wp ha hxd B hv hA=>by
 unfold fnChk at hc
 simp only [Bool.and_eq_true,List.isEmpty_iff,Option.isNone_iff_eq_none,beq_iff_eq,Bool.not_eq_true',all_eq_true,Bool.or_eq_true] at hc
 obtain ⟨⟨⟨⟨⟨⟨⟨⟨c1,c2⟩,c3⟩,c4⟩,c6⟩,c10⟩,c11⟩,c12⟩,c14⟩:=hc
 obtain ⟨o,pm,code,doc,e2,e3,e4⟩:=fn_is X hfd ha
 refine enter_code (tc:=tcOf hd (gOf b) dr) (ps:=dr.params.args.map (·.arg)) X.T.nolimit ⟨?_,λ i x hx=>app_left hx,λ x hx=>c14 x hx⟩ hS hxd B hv (by rw [length_map];exact hl.symm) hA wp
 exact ⟨_,_,e2,e3,e4,rfl,⟨c1,rfl,c2,c3,c4,rfl,nodupB_ok c6⟩,rfl,rfl,rfl,rfl,c10,c11,c12⟩
noncomputable def trFn(X:BdOk b mean mg mb s)(hd:Bool)(n:String):Option { fn:Fn // EntOk (cxOf prog w s b mg) hd n fn }:=match h:frOf b n with
 | some d=>if hc:fnChk d=true then (trSs (trS2 (env_of X) (msOf b) (xats b) 40 (tcOf hd (gOf b) d) rfl) d.body).bind λ pss=>some ⟨⟨d.params.args.length,(namesOf d).length,pss.1⟩,ent_of X h hc pss.2⟩ else none
 | none=>none
theorem trFn_ok{X:BdOk b mean mg mb s}{hd:Bool}{n:String}{fn:Fn}(h:(trFn (prog:=prog) (w:=w) X hd n).map (·.1)=some fn):EntOk (cxOf prog w s b mg) hd n fn:=by
 obtain ⟨x,V,rfl⟩:=Option.map_eq_some_iff.mp h
 exact x.2
end
end U
namespace U
open PySem PyProof.Rows PySem.W
theorem vOf_ok{v:Value}{x:AV}(h:vOf v=some x):x.is v:=by
 cases v with
 | int i t=>cases h;exact ⟨t,rfl⟩
 | str s t=>cases h;exact ⟨t,by simp [toS]⟩
 | _=>cases h
theorem vOfs_ok:∀ {vs:List Value} {xs:List AV},vs.map vOf=xs.map some->All2 AV.is xs vs
 | [],[],_=>.nil
 | [],_::_,h=>by cases h
 | _::_,[],h=>by cases h
 | _::_,_::_,h=>by
  rw [map_cons,map_cons,List.cons.injEq] at h
  exact .cons (vOf_ok h.1) (vOfs_ok h.2)
theorem adrB_ok{h:Heap}{n:Str}{a:Addr}(e:adrB h n=some a):h.nsMap mainGlobals n=some (.ref a):=by
 obtain ⟨v,e1,e2⟩:=Option.bind_eq_some_iff.mp e
 cases v with
 | ref b=>cases e2;exact e1
 | _=>cases e2
noncomputable def TupAt(h:Heap)(a:Addr)(xs:List AV):Prop:=∃ vs n,h.get? a=some { cls:=.type "tuple",data:=.seq vs n }/\All2 AV.is xs vs.toList
theorem tSeen_ok{h:Heap}{n:Str}{xs:List AV}(e:tSeen h n=some (true,xs.map some)):∃ a,adrB h n=some a/\TupAt h a xs:=by
 obtain ⟨a,ha,e⟩:=Option.bind_eq_some_iff.mp e
 obtain ⟨⟨c,d,dt,sl⟩,hg,e⟩:=Option.bind_eq_some_iff.mp e
 obtain ⟨vs,e1,e⟩:=Option.map_eq_some_iff.mp e
 obtain ⟨h1,h2⟩:=Prod.mk.inj e
 obtain ⟨h1,h3⟩:=Bool.and_eq_true_iff.mp h1
 obtain ⟨h1,h4⟩:=Bool.and_eq_true_iff.mp h1
 cases (of_decide_eq_true h1:c=_)
 cases (Option.isNone_iff_eq_none.mp h4:d=_)
 cases (Array.eq_empty_of_size_eq_zero (eq_of_beq h3):sl=_)
 cases dt with
 | seq us m=>cases e1;exact ⟨a,ha,vs,m,hg,vOfs_ok h2⟩
 | _=>cases e1
noncomputable def DicAt(w:World)(h:Heap)(a:Addr)(es:List (Txt×AV)):Prop:=∃ ob,h.get? a=some ob/\ob.cls=.type "dict" /\ (∀ prog,∃ kvs,All2 Ent es kvs/\∀ (h:Heap) b,h.get? b=some ob->h.DictOf (strKind prog w) b kvs)/\(a==sysModules)=false
theorem ents_ok{prog:Program}{w:World}:∀ {l:List DictEntry} {es:List (Txt×AV)},(l.map λ e=>(e.hash,vOf e.key,vOf e.val))=(es.map λ e=>(hashStr w (toS e.1),some (.str e.1),some e.2)) ->
  ∃ kvs,Pairs (strKind prog w) l kvs/\All2 Ent es kvs/\(∀ e∈l,∃ k,(strKind prog w).is k e.key=true/\e.hash=(strKind prog w).hash k)/\kvs.map (·.1)=es.map λ e=>toS e.1
 | [],[],_=>⟨[],.nil,.nil,(λ V h=>nomatch h),rfl⟩
 | [],_::_,h=>by cases h
 | _::_,[],h=>by cases h
 | e::l,x::es,h=>by
  rw [map_cons,map_cons,List.cons.injEq] at h
  obtain ⟨kvs,p1,p2,p3,p4⟩:=ents_ok (prog:=prog) h.2
  obtain ⟨h1,h2⟩:=Prod.mk.inj h.1
  obtain ⟨h2,h3⟩:=Prod.mk.inj h2
  obtain ⟨t1,k1⟩:=vOf_ok h2
  have hk:(strKind prog w).is (toS x.1) e.key=true:=by rw [k1];exact beq_self_eq_true _
  refine ⟨(toS x.1,e.val)::kvs,.cons hk rfl p1,.cons ⟨rfl,vOf_ok h3⟩ p2,λ y hy=>?_,by rw [map_cons,map_cons,p4]⟩
  rcases mem_cons.mp hy with rfl | q
  . exact ⟨_,hk,h1⟩
  . exact p3 y q
theorem dSeen_ok{w:World}{h:Heap}{n:Str}{es:List (Txt×AV)}(hn:(es.map λ e=>toS e.1).Nodup)(e:dSeen h n=dVal w es):∃ a,adrB h n=some a/\DicAt w h a es:=by
 obtain ⟨a,ha,e⟩:=Option.bind_eq_some_iff.mp e
 obtain ⟨⟨c,d,dt,sl⟩,hg,e⟩:=Option.bind_eq_some_iff.mp e
 obtain ⟨es',e1,e⟩:=Option.map_eq_some_iff.mp e
 obtain ⟨h1,h2⟩:=Prod.mk.inj e
 obtain ⟨h1,h5⟩:=Bool.and_eq_true_iff.mp h1
 obtain ⟨h1,h3⟩:=Bool.and_eq_true_iff.mp h1
 obtain ⟨h1,h4⟩:=Bool.and_eq_true_iff.mp h1
 cases (of_decide_eq_true h1:c=_)
 cases (Option.isNone_iff_eq_none.mp h4:d=_)
 cases (Array.eq_empty_of_size_eq_zero (eq_of_beq h3):sl=_)
 cases dt with
 | dict us ep=>
  cases e1
  refine ⟨a,ha,_,hg,rfl,λ prog=>?_,(Bool.not_eq_true' _).mp h5⟩
  obtain ⟨kvs,p1,p2,p3,p4⟩:=ents_ok (prog:=prog) h2
  exact ⟨kvs,p2,λ h' b hb=>⟨_,es',ep,hb,⟨rfl,rfl,rfl⟩,rfl,λ e he=>p3 e (Array.mem_toList_iff.mpr he),p1,by rw [p4];exact hn⟩⟩
 | _=>cases e1
structure Cst(w:World)(h:Heap)(ts:List (Str×List AV))(ds:List (Str×List (Txt×AV)))(m:Str->Option Value)(adr:Str->Addr):Prop where
 ns:h.Ns mainGlobals m
 nd:((ts.map (·.1)++ds.map (·.1)).map adr).Nodup
 t:∀ c∈ts,m c.1=some (.ref (adr c.1))/\TupAt h (adr c.1) c.2
 d:∀ c∈ds,m c.1=some (.ref (adr c.1))/\DicAt w h (adr c.1) c.2
theorem cst_of{w:World}{s:Shared}{ts:List (Str×List AV)}{ds:List (Str×List (Txt×AV))}(hn:∀ c∈ds,(c.2.map λ e=>toS e.1).Nodup)(e:cObs ts ds s=cVal ts ds w):Cst w s.heap ts ds (s.heap.nsMap mainGlobals) (adr0 s.heap):=by
 obtain ⟨e1,e2⟩:=Prod.mk.inj e
 obtain ⟨e2,e3⟩:=Prod.mk.inj e2
 obtain ⟨e3,e4⟩:=Prod.mk.inj e3
 refine ⟨.of_isNs e1,of_decide_eq_true e4,λ c hc=>?_,λ c hc=>?_⟩
 . obtain ⟨a,h1,h2⟩:=tSeen_ok (List.map_inj_left.mp e2 c hc)
   rw [show adr0 s.heap c.1=a by unfold adr0;rw [h1];rfl]
   exact ⟨adrB_ok h1,h2⟩
 . obtain ⟨a,h1,h2⟩:=dSeen_ok (hn c hc) (List.map_inj_left.mp e3 c hc)
   rw [show adr0 s.heap c.1=a by unfold adr0;rw [h1];rfl]
   exact ⟨adrB_ok h1,h2⟩
theorem Cst.keeps{w:World}{h h':Heap}{ts:List (Str×List AV)}{ds:List (Str×List (Txt×AV))}{m:Str->Option Value}{adr:Str->Addr}(C:Cst w h ts ds m adr)(hk:∀ b o,h.get? b=some o->h'.get? b=some o):Cst w h' ts ds m adr:=
 ⟨C.ns.keeps hk,C.nd,λ c hc=>let ⟨q1,vs,n,q2,q3⟩:=C.t c hc;⟨q1,vs,n,hk _ _ q2,q3⟩,λ c hc=>let ⟨q1,ob,q2,q3⟩:=C.d c hc;⟨q1,ob,hk _ _ q2,q3⟩⟩
inductive XoR(h:Heap)(bm:List Value)(ns:List Str)(C:Addr)(cd:ClassData):Prop
 | mk (nm q bs sn sub ab col dd k0 k1 k2 k3 k5) (h1:h.get? C=some (excClassObj nm q C cd.ns bs bm true sn sub ab col dd k0 k1 k2 k3 k5 "ValueError.__new__")) (h2:h.Ns cd.ns (h.nsMap cd.ns)) (h3:∀ n∈ns,h.nsMap cd.ns n=none):XoR h bm ns C cd
theorem xOk_ok{h:Heap}{bm:List Value}{ns:List Str}{C:Addr}{o:Obj}{cd:ClassData}(x:xOk h bm ns (C,o,cd)=true)(ho:h.get? C=some o)(hd:o.data=.cls cd):XoR h bm ns C cd:=by
 unfold xOk at x
 simp only [Bool.and_eq_true,decide_eq_true_eq,Bool.not_eq_true'] at x
 obtain ⟨⟨⟨⟨⟨⟨⟨x1,x2⟩,x3⟩,x4⟩,x6⟩,x7⟩,x8⟩,x9⟩:=x
 obtain ⟨oc,od,odt,osl⟩:=o
 obtain ⟨sl⟩:=osl
 obtain ⟨k0,k1,k2,k3,k5,rfl⟩:=six_places (l:=sl) (by simpa using x6) (by simpa using x7)
 obtain ⟨cn,cb,cm,cns,cq,chd,csn,csub,cab,ccol,cdel⟩:=cd
 simp only at x1 x2 x3 x4 x8 x9 hd
 subst x1 hd x3 x4 x2
 refine ⟨cn,cq,cb,csn,csub,cab,ccol,od,k0,k1,k2,k3,k5,ho,.of_isNs x8,λ n hn'=>?_⟩
 have:=all_eq_true.mp x9 n hn'
 exact Option.isNone_iff_eq_none.mp this
theorem inj_of_nodup{α β:Type}{f:α->β}:∀ {l:List α},(l.map f).Nodup->∀ {x y:α},x∈l->y∈l->f x=f y->x=y
 | [],_,_,_,h,_,_=>nomatch h
 | a::l,hn,x,y,hx,hy,e=>by
  rw [map_cons,nodup_cons] at hn
  rcases mem_cons.mp hx with q | hx
  . rcases mem_cons.mp hy with q' | hy
    . rw [q,q']
    . exact absurd (mem_map.mpr ⟨y,hy,by rw [<-e,q]⟩) hn.1
  . rcases mem_cons.mp hy with q' | hy
    . exact absurd (mem_map.mpr ⟨x,hx,by rw [e,q']⟩) hn.1
    . exact inj_of_nodup hn.2 hx hy e
theorem adr_at{h:Heap}{n:Str}{a:Addr}(e:h.nsMap mainGlobals n=some (.ref a)):adr0 h n=a:=by unfold adr0 adrB;rw [e];rfl
theorem fam_of{h:Heap}{at' subs:List Str}{r:ClsRec×MethRec}(x:fSeen h at' subs r=some (true,some (r.2.shape r.1.name))):∃ f,XIs h (h.nsMap mainGlobals) subs at' r f:=by
 unfold fSeen at x
 cases hf:h.clsAt mainGlobals r.1.name with
 | none=>rw [hf] at x;cases x
 | some y=>
  obtain ⟨U,o,cd⟩:=y
  rw [hf] at x
  obtain ⟨hn,ho,hd⟩:=Heap.clsAt_spec hf
  clear hf
  simp only [Option.map_some,Option.some.injEq,Prod.mk.injEq,Bool.and_eq_true,decide_eq_true_eq] at x
  obtain ⟨⟨⟨⟨x1,x11⟩,x3⟩,x4⟩,x10⟩:=x
  obtain ⟨nm,q,bs,sn,sub,ab,col,dd,k0,k1,k2,k3,k5,hU,hM,hq⟩:=xOk_ok x1 ho hd
  have hs:=x10
  unfold Heap.shapeAt at hs
  cases hfn:h.fnAt cd.ns r.2.name with
  | none=>rw [hfn] at hs;cases hs
  | some z=>
   obtain ⟨f,of,fd⟩:=z
   rw [hfn] at hs x11
   obtain ⟨h1,h2,h3⟩:=Heap.fnAt_spec hfn
   have hcl:of.cls=.type "function":=by simpa using x11
   clear hfn x10 x11
   simp only [Option.map_some,Option.some.injEq,MethRec.shape,FnShape.mk.injEq] at hs
   obtain ⟨y1,y2,y3,y4,y5,y6,y7,y8,y9,y10,y11,y12,y13⟩:=hs
   obtain ⟨fn,fq,fp,fb,fsc,fg,fcl,fdf,fkw,fdoc,fpm,fan,fcode,fct,fbl⟩:=fd
   simp only at y1 y2 y3 y4 y5 y6 y7 y8 y9 y10 y11 y12 y13
   subst y1 y2 y3 y4 y5 y6 y7 y8 y9 y10 y11 y12
   refine ⟨f,U,of,fpm,fcode,fdoc,hn,⟨_,nm,q,bs,sn,sub,ab,col,dd,k0,k1,k2,k3,k5,hU⟩,h2,hcl,h3,.of_ok y13,λ x hx=>?_,λ x hx y hy hne C e e'=>hne (inj_of_nodup x4 hx hy ((adr_at e).trans (adr_at e').symm)),⟨_,.own U _ _ _ _ _ _ _ hU hM .base,λ n hn'=>by rw [hq n hn'],by rw [h1]⟩⟩
   have hx':=all_eq_true.mp x3 x hx
   unfold subOk at hx'
   cases hf:h.clsAt mainGlobals x with
   | none=>rw [hf] at hx';cases hx'
   | some y=>
    obtain ⟨C,o',cd'⟩:=y
    rw [hf] at hx'
    obtain ⟨gn,go,gd⟩:=Heap.clsAt_spec hf
    simp only [Bool.and_eq_true,Bool.not_eq_true',beq_eq_false_iff_ne] at hx'
    obtain ⟨nm',q',bs',sn',sub',ab',col',dd',j0,j1,j2,j3,j5,hC,hN,hq'⟩:=xOk_ok hx'.1 go gd
    refine ⟨C,_,gn,hx'.2,⟨_,nm',q',bs',sn',sub',ab',col',dd',j0,j1,j2,j3,j5,hC⟩,.own C _ _ _ _ _ _ _ hC hN (.own U _ _ _ _ _ _ _ hU hM .base),λ n hn'=>?_,?_⟩
    . rw [hq' n (mem_append_left _ hn'),hq n hn']
    . rw [hq' _ (mem_append_right _ (.head _)),h1]
theorem XObj.kp{h h':Heap}{ca:Addr}{bm:List Value}(x:XObj h ca bm)(k:∀ b o,h.get? b=some o->h'.get? b=some o):XObj h' ca bm:=by
 obtain ⟨N,nm,q,bs,sn,sub,ab,col,dd,k0,k1,k2,k3,k5,e⟩:=x
 exact ⟨N,nm,q,bs,sn,sub,ab,col,dd,k0,k1,k2,k3,k5,k _ _ e⟩
theorem XIs.keeps{h h':Heap}{mg:Str->Option Value}{subs at':List Str}{r:ClsRec×MethRec}{f:Addr}(x:XIs h mg subs at' r f)(k:∀ b o,h.get? b=some o->h'.get? b=some o):XIs h' mg subs at' r f:=by
 obtain ⟨U,o,pm,cd,doc,e1,e2,e6,e7,e8,e9,e10,e11,⟨mU,u1,u2,u3⟩⟩:=x
 refine ⟨U,o,pm,cd,doc,e1,e2.kp k,k _ _ e6,e7,e8,e9.keeps k,λ x hx=>?_,e11,⟨mU,u1.keeps k,u2,u3⟩⟩
 obtain ⟨C,mC,i1,i2,i3,i4,i5,i6⟩:=e10 x hx
 exact ⟨C,mC,i1,i2,i3.kp k,i4.keeps k,i5,i6⟩
noncomputable def eHook(ts:List (Str×List AV))(ds:List (Str×List (Txt×AV)))(hn:∀ c∈ds,(c.2.map λ e=>toS e.1).Nodup)(at' subs:List Str)(r:ClsRec×MethRec):Hook where
 α:=(Bool×List (Option (Bool×List (Option AV)))×List (Option (Bool×List (Int×Option AV×Option AV)))×Bool)×Option (Bool×Option FnShape)
 obs:=λ s=>(cObs ts ds s,fSeen s.heap at' subs r)
 val:=λ w=>(cVal ts ds w,some (true,some (r.2.shape r.1.name)))
 says:=λ w h=>∃ m adr,Cst w h ts ds m adr/\∃ f,XIs h m subs at' r f
 of:=λ w s e=>by
  obtain ⟨e1,e2⟩:=Prod.mk.inj e
  exact ⟨_,_,cst_of hn e1,fam_of e2⟩
 keeps:=λ w h h' ⟨m,adr,C,f,x⟩ hk=>⟨m,adr,C.keeps hk,f,x.keeps hk⟩
inductive CstAt(w:World)(h:Heap)(a:Addr):AO->Prop
 | tup (xs:List AV) (t:TupAt h a xs):CstAt w h a (.tup xs)
 | dic (es:List (Txt×AV)) (t:DicAt w h a es):CstAt w h a (.fdict es)
theorem lookup_nodup{α:Type}:∀ {cs:List (Addr×α)} {c:Addr×α},(cs.map (·.1)).Nodup->c∈cs->cs.lookup c.1=some c.2
 | [],_,_,h=>by cases h
 | (a,x)::cs,c,hn,h=>by
  rw [map_cons,nodup_cons] at hn
  rcases mem_cons.mp h with q | q
  . subst q;simp [List.lookup]
  . have:(c.1==a)=false:=beq_eq_false_iff_ne.mpr λ e=>hn.1 (e▸mem_map.mpr ⟨c,q,rfl⟩)
    rw [lookup_cons,this];exact lookup_nodup hn.2 q
section
variable {prog:Program}{w:World}{s:Shared}{mg mb:Str->Option Value}{mean:ExcName->Option Value}{b:Bd}
theorem well_ints{P:Params}{h:Heap}:∀ {xs:List Int} {vs:List Value},WellAll P h vs (ofPys (xs.map PyData.int))->All2 AV.is (xs.map AV.int) vs
 | [],_,hw=>by
  simp only [map_nil,ofPys] at hw
  cases hw;exact .nil
 | x::xs,_,hw=>by
  simp only [map_cons,ofPys] at hw
  cases hw with
  | cons h1 h2=>
   simp only [ofPy] at h1
   cases h1 with
   | int i t=>exact .cons ⟨t,rfl⟩ (well_ints h2)
set_option tactic.hygienic true in
theorem law_run{fa l:Addr}{xs:List Int}{cs:List (Addr×AO)}{fn:Fn}{D:Nat}{R:Result->Shared->Prop}(hcs:∀ c∈cs,CstAt w s.heap c.1 c.2)(hnd:(cs.map (·.1)).Nodup)(hgens:s.gens=#[])
  (hfn:EntOk (cxOf prog w s b mg) false "law" fn) (hrec:(recOf b.q "law").isSome=true) (hnp:fn.np=1) (hmg:mg "law" = some (.ref fa)) (hw:Well w.params s.heap (.ref l) (ofPy (PyData.list (xs.map PyData.int)))) (hD:D<=590)
  (hcall:∀ Z,Z l=some (.flist (xs.map .int))->(∀ c∈cs,Z c.1=some c.2)->pSs (semK (cxOf prog w s b mg)) false D fn.body (args1 fn.names [.ref l]) Z (λ V V=>AV.none=.bool true) (λ v V=>v=.bool true) (λ V V V=>False))
  (hR:∀ s',(∀ b o,s.heap.get? b=some o->s'.heap.get? b=some o)->s'.os=s.os->s'.gens=#[]->R (.ok (.ret (.bool true))) s'):
  codeAny (model prog w) callerA (.call (.ref fa) ⟨[.ref l],[]⟩) R s:=by
 obtain ⟨vs,ho,hvs⟩:∃ vs:List Value,s.heap.get? l=some { cls:=.type "list",data:=.seq vs.toArray }/\All2 AV.is (xs.map AV.int) vs:=by
  simp only [ofPy] at hw
  cases hw with
  | list e1 e2=>exact ⟨_,e1,well_ints e2⟩
 have hlc:∀ c∈cs,c.1≠l:=λ c hc q=>by
  obtain ⟨a,o⟩:=c
  have h:=hcs _ hc
  cases h with
  | tup xs h=>
   obtain ⟨vs',n,e,V⟩:=h
   rw [show a=l from q,ho] at e
   have:=congrArg (λ o:Option Obj=>o.map Obj.cls) e
   simp at this
  | dic es h=>
   obtain ⟨ob,e,e2,V⟩:=h
   rw [show a=l from q,ho] at e
   cases e
   simp at e2
 let Z:Hp:=λ b=>if b=l then some (.flist (xs.map .int)) else cs.lookup b
 have hZ:∀ b o,Z b=some o->(b=l/\o=.flist (xs.map .int))\/(b,o)∈cs:=λ b o h=>by
  have h:(if b=l then some (AO.flist (xs.map .int)) else cs.lookup b)=some o:=h
  split at h
  . rename_i e;exact .inl ⟨e,(Option.some.inj h).symm⟩
  . exact .inr (lookup_mem h)
 have B:StB (cxOf prog w s b mg) (λ V V V=>False) none [] Z s:={
  base:=λ V V e=>e
  hid:=λ V V V h=>h.elim
  rel:=λ b o h=>by
   rcases hZ b o h with ⟨rfl,rfl⟩ | hm
   . exact ⟨_,ho,vs.toArray,0,rfl,hvs⟩
   . cases hcs _ hm with
     | tup xs h=>obtain ⟨vs',n,e1,e2⟩:=h;exact ⟨_,e1,vs',n,rfl,e2⟩
     | dic es h=>obtain ⟨ob,e1,V,e2,e3⟩:=h;obtain ⟨kvs,e4,e5⟩:=e2 prog;exact ⟨_,e1,⟨kvs,e4,e5⟩,e3⟩
  nb:=λ b o h hm=>by
   rcases hZ b o h with ⟨rfl,rfl⟩ | hc
   . cases hm
   . cases hcs _ hc <;> cases hm
  go:=⟨rfl,rfl⟩
  frs:=λ V h=>nomatch h
  hand:=λ V h=>nomatch h }
 have hfa:fnOf b mg s.heap "law" = some fa:=by
  unfold fnOf
  obtain ⟨d,e⟩:=Option.isSome_iff_exists.mp hrec
  have e2:mg d.name=some (.ref fa):=by rw [(recOf_mem e).2];exact hmg
  simp only [e,e2]
 refine codeAny_mono (hfn (d:=D) (vs:=[.ref l]) (Q:=λ v V=>v=.bool true) (X:=λ V V=>False) hnp.symm (hcall Z (if_pos rfl) λ c hc=>?_) hfa (hx:=none) rfl B (.cons rfl .nil) ⟨?_,?_,rfl,rfl⟩) ?_
 . show (if c.1=l then _ else _)=_
   rw [if_neg (hlc c hc),lookup_nodup hnd hc]
 . show 1+claimMargin+D+1<1000
   have:claimMargin=300:=rfl
   exact o208 hD this
 . show 4+16*D+416<cLine
   have:cLine=9900:=rfl
   exact o209 hD this
 . intro r s' h
   match r with
   | .ok (.ret v)=>
    obtain ⟨av,Z',h1,h2,rfl⟩:=h
    cases h1
    exact hR s' h2.base h2.go.2 (h2.go.1.trans hgens)
   | .ok .next=>exact h.elim
   | .ok .brk=>exact h.elim
   | .ok .cont=>exact h.elim
   | .error e=>obtain ⟨V,V,V,V,V,V,V,h⟩:=h;exact h.elim
theorem tab_of{X:BdOk b mean mg mb s}{hd:Bool}:∀ {tab:List (String×Fn)},(tab.map λ e=>(trFn (prog:=prog) (w:=w) X hd e.1).map (·.1))=(tab.map λ e=>some e.2)->∀ n fn,(n,fn)∈tab->EntOk (cxOf prog w s b mg) hd n fn
 | [],_,_,_,h=>nomatch h
 | e::r,h,n,fn,hm=>by
  rw [map_cons,map_cons,List.cons.injEq] at h
  rcases mem_cons.mp hm with q | q
  . rw [<-q] at h;exact trFn_ok h.1
  . exact tab_of h.2 n fn q
theorem tab_ok{tab:List (String×Fn)}(h:∀ n fn,(n,fn)∈tab->EntOk (cxOf prog w s b mg) false n fn):Tab (semK (cxOf prog w s b mg)) tab:=
 ⟨λ n fn hm {d vs Z Q X'} hl hp=>by
  intro a cvs P hx fs s₁ A ha hxd B hv hA V
  exact h n fn hm hl hp ha hxd B hv hA⟩
theorem tabH_ok{tab:List (String×Fn)}(h:∀ n fn,(n,fn)∈tab->EntOk (cxOf prog w s b mg) true n fn):TabH (semK (cxOf prog w s b mg)) tab:=
 ⟨λ n fn hm {d vs Z Q X'} hl hp=>by
  intro a cvs P hx fs s₁ A ha hxd B hv hA V
  exact h n fn hm hl hp ha hxd B hv hA⟩
theorem law_end{fa l:Addr}{xs:List Int}{cs:List (Addr×AO)}{fn:Fn}{D:Nat}{R:Result->Shared->Prop}{tab tabh:List (String×Fn)}(X:BdOk b mean mg mb s)
  (ht:((("law",fn)::tab).map λ e=>(trFn (prog:=prog) (w:=w) X false e.1).map (·.1))=((("law",fn)::tab).map λ e=>some e.2)) (hth:(tabh.map λ e=>(trFn (prog:=prog) (w:=w) X true e.1).map (·.1))=(tabh.map λ e=>some e.2)) (hcs:∀ c∈cs,CstAt w s.heap c.1 c.2) (hnd:(cs.map (·.1)).Nodup) (hgens:s.gens=#[])
  (hrec:(recOf b.q "law").isSome=true) (hnp:fn.np=1) (hmg:mg "law" = some (.ref fa)) (hw:Well w.params s.heap (.ref l) (ofPy (PyData.list (xs.map PyData.int)))) (hD:D<=590)
  (hcall:∀ {K:Kx} {Z:Hp},Tab K tab->TabH K tabh->Kc K b.cts b.exs b.xts->Z l=some (.flist (xs.map .int))->(∀ c∈cs,Z c.1=some c.2)->pSs K false D fn.body (args1 fn.names [.ref l]) Z (λ V V=>AV.none=.bool true) (λ v V=>v=.bool true) (λ V V V=>False))
  (hR:∀ s',(∀ b o,s.heap.get? b=some o->s'.heap.get? b=some o)->s'.os=s.os->s'.gens=#[]->R (.ok (.ret (.bool true))) s'):
  codeAny (model prog w) callerA (.call (.ref fa) ⟨[.ref l],[]⟩) R s:=
 law_run hcs hnd hgens (tab_of ht _ _ (.head _)) hrec hnp hmg hw hD (λ V=>hcall (tab_ok λ n fn h=>tab_of ht n fn (.tail _ h)) (tabH_ok λ n fn h=>tab_of hth n fn h) (kc_of X)) hR
end
end U
namespace U
open PySem
noncomputable def f__law_cell_at:Fn:=⟨2,2,[.iff (.prim .lt [.loc 1,.prim .len [.loc 0]]) [.ret (.prim .item [.loc 0,.loc 1])] [],
 .ret (.lit (.int 0))]⟩
noncomputable def f__law_mixed:Fn:=⟨2,3,[.assign (.name 2) (.prim .mod [.prim .mul [.prim .add [.prim .add [.loc 0,.prim .mul [.lit (.int 7),.loc 1]],.lit (.int 3)],.lit (.int 48271)],.lit (.int 2147483647)]),
 .ret (.prim .mod [.prim .mul [.loc 2,.loc 2],.lit (.int 2147483647)])]⟩
noncomputable def f__law_whole:Fn:=⟨1,1,[.ret (.and (.prim (.isinst ["int"]) [.loc 0]) (.prim .not [.prim (.isinst ["bool"]) [.loc 0]]))]⟩
noncomputable def f__law_names:Fn:=⟨1,9,[.assign (.name 1) (.lit (.str [97,98,99,100,101,102,103,104,105,106,107,108,109,110,111,112,113,114,115,116,117,118,119,120,121,122])),
 .assign (.name 2) (.prim .mkList []),
 .assign (.name 3) (.prim .item [.prim .mkList [.lit (.int 1),.lit (.int 3),.lit (.int 4),.lit (.int 5),.lit (.int 6)],.prim .mod [.prim .fdiv [.loc 0,.lit (.int 3)],.lit (.int 5)]]),
 .assign (.name 4) (.bm .join (.lit (.str [])) [.comp [true,true,false,false,false,false,false,false,false] [9] (.range [.lit (.int 6)]) none (.prim .item [.loc 1,.prim .mod [.prim .add [.prim .add [.prim .fdiv [.loc 0,.lit (.int 72)],.prim .mul [.lit (.int 5),.loc 9]],.lit (.int 1)],.lit (.int 26)]])]),
 .for [5] (.range [.lit (.int 12)]) [.assign (.name 6) (.prim .item [.loc 1,.prim .mod [.prim .add [.prim .fdiv [.loc 0,.lit (.int 72)],.prim .mul [.lit (.int 5),.loc 5]],.lit (.int 26)]]),
 .iff (.prim .eq [.prim .mod [.loc 0,.lit (.int 3)],.lit (.int 1)]) [.assign (.name 7) (.prim .mod [.prim .fdiv [.loc 0,.lit (.int 15)],.loc 3]),
 .assign (.name 6) (.prim .add [.prim .add [.prim .slice [.loc 4,.lit .none,.loc 7,.lit .none],.loc 6],.prim .slice [.loc 4,.prim .add [.loc 7,.lit (.int 1)],.loc 3,.lit .none]])] [.iff (.prim .eq [.prim .mod [.loc 0,.lit (.int 3)],.lit (.int 2)]) [.assign (.name 6) (.prim .item [.loc 1,.prim .mod [.prim .add [.prim .fdiv [.loc 0,.lit (.int 72)],.prim .mul [.lit (.int 7),.prim .fdiv [.loc 5,.lit (.int 4)]]],.lit (.int 26)]]),
 .assign (.name 6) (.prim .add [.loc 6,.prim .slice [.prim .add [.lit (.str [52]),.loc 4],.lit .none,.prim .add [.prim .mod [.loc 5,.lit (.int 4)],.prim .mod [.prim .fdiv [.loc 0,.lit (.int 18)],.lit (.int 3)]],.lit .none]])] [.iff (.prim .gt [.prim .mod [.prim .add [.prim .fdiv [.loc 0,.lit (.int 26)],.loc 5],.lit (.int 6)],.lit (.int 0)]) [.assign (.name 6) (.prim .add [.loc 6,.prim .toStr [.prim .mod [.prim .add [.loc 0,.loc 5],.lit (.int 10)]]]),
 .assign (.name 6) (.prim .add [.loc 6,.prim .slice [.loc 4,.lit .none,.prim .sub [.prim .mod [.prim .add [.prim .fdiv [.loc 0,.lit (.int 26)],.loc 5],.lit (.int 6)],.lit (.int 1)],.lit .none]])] []]],
 .expr (.bm .append (.loc 2) [(.loc 6)])],
 .iff (.prim .eq [.prim .mod [.loc 0,.lit (.int 5)],.lit (.int 3)]) [.assign (.name 8) (.prim .mkList [.lit (.str [105,102,120]),.lit (.str [102,105,120]),.lit (.str [117,110,100,111,110,101]),.lit (.str [112,117,108,108,101,100]),.lit (.str [112,117,115,104,101,115]),.lit (.str [98,108,111,99,107,115]),.lit (.str [108,111,111,112,115]),.lit (.str [112,117,116]),.lit (.str [115,119,97,112]),.lit (.str [114,111,117,110,100])]),
 .iff (.prim .notin [.prim .item [.loc 8,.prim .mod [.prim .fdiv [.loc 0,.lit (.int 40)],.lit (.int 10)]],.loc 2]) [.assign (.item (.loc 2) (.prim .mod [.prim .fdiv [.loc 0,.lit (.int 5)],.lit (.int 8)])) (.prim .item [.loc 8,.prim .mod [.prim .fdiv [.loc 0,.lit (.int 40)],.lit (.int 10)]])] []] [],
 .iff (.prim .eq [.prim .mod [.loc 0,.lit (.int 7)],.lit (.int 2)]) [.assign (.name 2) (.prim .add [.prim .slice [.loc 2,.lit .none,.lit (.int 8),.lit .none],.prim .slice [.loc 2,.lit .none,.lit (.int 4),.lit .none]])] [],
 .ret (.loc 2)]⟩
noncomputable def f__law_thing:Fn:=⟨3,5,[.assign (.name 3) (.prim .item [.loc 2,.prim .mod [.prim .fdiv [.loc 0,.lit (.int 2)],.lit (.int 5)]]),
 .iff (.and (.prim .eq [.prim .mod [.loc 0,.lit (.int 2)],.lit (.int 0)]) (.prim .ne [.loc 3,.loc 1])) [.ret (.loc 3)] [],
 .assign (.name 4) (.prim .mkList [.prim .mod [.prim .fdiv [.loc 0,.lit (.int 2)],.lit (.int 4)],.prim .mod [.prim .fdiv [.loc 0,.lit (.int 2)],.lit (.int 1000)],.prim .mod [.prim .fdiv [.loc 0,.lit (.int 2)],.lit (.int 1000000)],.prim .sub [.lit (.int 999999),.prim .mod [.prim .fdiv [.loc 0,.lit (.int 2)],.lit (.int 3)]]]),
 .ret (.prim .item [.loc 4,.prim .mod [.prim .fdiv [.loc 0,.lit (.int 20)],.lit (.int 4)]])]⟩
noncomputable def f__law_sum:Fn:=⟨3,4,[.assign (.name 3) (.fn "_law_thing" [.prim .fdiv [.loc 0,.lit (.int 8)],.loc 1,.loc 2]),
 .iff (.prim .eq [.prim .mod [.loc 0,.lit (.int 8)],.lit (.int 0)]) [.ret (.prim .mkTup [.loc 3])] [],
 .ret (.prim .mkTup [.prim .item [.prim .mkList [.lit (.str [43]),.lit (.str [45]),.lit (.str [42]),.lit (.str [60]),.lit (.str [61]),.lit (.str [62,61]),.lit (.str [33,61])],.prim .sub [.prim .mod [.loc 0,.lit (.int 8)],.lit (.int 1)]],.loc 3,.fn "_law_thing" [.prim .fdiv [.loc 0,.lit (.int 640)],.loc 1,.loc 2]])]⟩
noncomputable def f__law_question:Fn:=⟨2,3,[.assign (.name 2) (.fn "_law_thing" [.prim .fdiv [.loc 0,.lit (.int 4)],.lit (.str []),.loc 1]),
 .ret (.prim .mkTup [.prim .item [.prim .mkList [.lit (.str [60]),.lit (.str [61]),.lit (.str [62,61]),.lit (.str [33,61])],.prim .mod [.loc 0,.lit (.int 4)]],.loc 2,.fn "_law_thing" [.prim .fdiv [.loc 0,.lit (.int 320)],.lit (.str []),.loc 1]])]⟩
noncomputable def tabA:List (String×Fn):=[("_law_cell_at",f__law_cell_at),("_law_mixed",f__law_mixed),("_law_whole",f__law_whole),("_law_thing",f__law_thing),("_law_sum",f__law_sum),("_law_question",f__law_question)]
noncomputable def tabD:List (String×Fn):=[("_law_names",f__law_names)]
end U
namespace U
open PySem
noncomputable def sm(i:Int):Prop:=0<=i/\i<1000000
inductive Th where
 | s (k:Txt)
 | n (i:Int)
noncomputable def Th.av:Th->AV
 | .s k=>.str k
 | .n i=>.int i
noncomputable def Th.ok(own:Txt)(ns:List Txt):Th->Prop
 | .s k=>k≠own/\k∈ns
 | .n i=>sm i
noncomputable def signs4:List Txt:=[[60],[61],[62,61],[33,61]]
noncomputable def signs7:List Txt:=[[43],[45],[42],[60],[61],[62,61],[33,61]]
inductive Tot where
 | one (x:Th)
 | two (s:Txt) (x y:Th)
noncomputable def Tot.avs:Tot->List AV
 | .one x=>[x.av]
 | .two s x y=>[.str s,x.av,y.av]
noncomputable def Tot.ok(own:Txt)(ns:List Txt):Tot->Prop
 | .one x=>x.ok own ns
 | .two s x y=>s∈signs7/\x.ok own ns/\y.ok own ns
structure Qu where
 s:Txt
 x:Th
 y:Th
noncomputable def Qu.avs(q:Qu):List AV:=[.str q.s,q.x.av,q.y.av]
noncomputable def Qu.ok(ns:List Txt)(q:Qu):Prop:=q.s∈signs4/\q.x.ok [] ns/\q.y.ok [] ns
noncomputable def mixI(c k:Int):Int:=Int.fmod (Int.fmod ((c+7*k+3)*48271) 2147483647*Int.fmod ((c+7*k+3)*48271) 2147483647) 2147483647
end U
namespace U
open PySem
theorem none_le{Z Z':Hp}{x:Addr}(hl:Le Z Z')(e:Z' x=none):Z x=none:=by
 cases q:Z x with
 | none=>rfl
 | some o=>rw [hl _ _ q] at e;cases e
theorem pick_map{α:Type}(f:α->AV)(d:α){xs:List α}{i:Int}(h0:0<=i)(h1:i<xs.length):pick (xs.map f) i=f (xs.getD i.toNat d):=by
 unfold pick
 simp only [List.getD_eq_getElem?_getD,List.getElem?_map]
 rw [List.getElem?_eq_getElem (by exact o21 h0 h1)];rfl
theorem getD_mem{α:Type}{xs:List α}{n:Nat}{d:α}(h:n<xs.length):xs.getD n d∈xs:=by
 simp only [List.getD_eq_getElem?_getD]
 rw [List.getElem?_eq_getElem h]
 exact getElem_mem _
theorem mixI_lo(c k:Int):0<=mixI c k:=fmod_lo _ (by decide)
theorem fdiv_lo{a b:Int}(h:0<=a)(hb:0<b):0<=Int.fdiv a b:=Int.fdiv_nonneg h (by exact o27 hb)
theorem sm_mod(a:Int){b:Int}(h:0<b)(h':b<=1000000):sm (Int.fmod a b):=⟨fmod_lo a h,by have:=fmod_hi a h;exact o28 h h' this⟩
section
variable {K:Kx}(T:Tab K tabA){d:Nat}{Z:Hp}{Q:Post}{X:XPost}{l:Addr}{ns:List Txt}
include T
theorem s_cell_at{xs:List Int}(k:Nat)(h:Z l=some (.flist (xs.map .int)))(hl:xs.length<=63)(hq:Q (.int (xs.getD k 0)) Z):K.fn false d "_law_cell_at" [.ref l,.int (k:Int)] Z Q X:=by
 have ht:tooLong=1000000:=rfl
 have hlen:(xs.map AV.int).length=xs.length:=length_map _
 (refine ent' T f__law_cell_at (by walk_at"mm") rfl (by unfold f__law_cell_at;walk_at"aa";exact rfl) ?_;dsimp only [f__law_cell_at])
 refine seq λ R hR=>iffI λ A B hA hB=>?_
 walk_at"ug"
 refine wifd (λ hk=>hA _ (last ?_)) λ hk=>hB _ (hR _ _ (last ?_))
 . walk_at"ug"
   refine okP (itemL_ok (Int.natCast_nonneg k) hk (by exact o29 hl ht hlen)) ?_
   rw [pick_map AV.int 0 (Int.natCast_nonneg k) (by exact o30 hlen hk)]
   exact hq
 . walk_at"ug"
   have:xs.getD k 0=0:=by
    simp only [List.getD_eq_getElem?_getD]
    rw [List.getElem?_eq_none (by exact o31 hlen hk)];rfl
   rw [this] at hq;exact hq
theorem s_mixed(c k:Int)(hq:Q (.int (mixI c k)) Z):K.fn false d "_law_mixed" [.int c,.int k] Z Q X:=by
 have h1:=fmod_lo ((c+7*k+3)*48271) (b:=2147483647) (by decide)
 have h2:=fmod_hi ((c+7*k+3)*48271) (b:=2147483647) (by decide)
 (refine ent' T f__law_mixed (by walk_at"mm") rfl (by unfold f__law_mixed;walk_at"aa";exact rfl) ?_;dsimp only [f__law_mixed])
 refine seq λ R hR=>?_
 walk_at"ug"
 refine hR _ _ (last ?_)
 walk_at"ug"
 exact hq
theorem s_whole_int(i:Int)(hq:Q (.bool true) Z):K.fn false d "_law_whole" [.int i] Z Q X:=by
 (refine ent' T f__law_whole (by walk_at"mm") rfl (by unfold f__law_whole;walk_at"aa";exact rfl) ?_;dsimp only [f__law_whole])
 refine last ?_
 (walk_at"ug";repeat (dsimp only [Zo16,Zo17,Zo18,Zo24];walk_at"ug"))
 exact hq
theorem s_thing(n:Int)(own:Txt)(h:Z l=some (.list (ns.map .str)))(h5:5<=ns.length)(hm:ns.length<1000000)(hn:0<=n)(hq:∀ (x:Th) Z',Le Z Z'->x.ok own (ns.take 5)->Q x.av Z'):K.fn false d "_law_thing" [.int n,.str own,.ref l] Z Q X:=by
 have p1:=fmod_hi (Int.fdiv n 2) (b:=5) (by decide)
 have p2:=fmod_lo (Int.fdiv n 2) (b:=5) (by decide)
 (refine ent' T f__law_thing (by walk_at"mm") rfl (by unfold f__law_thing;walk_at"aa";exact rfl) ?_;dsimp only [f__law_thing])
 refine seq λ R hR=>?_
 walk_at"ug"
 refine okP (itemL_mod (by decide) (by simp only [length_map];exact o32 h5 hm) (by simpa [tooLong] using hm)) ?_
 rw [pick_map AV.str [] p2 (by exact o33 h5 hm p1 p2)]
 generalize hw:ns.getD (Int.fmod (Int.fdiv n 2) 5).toNat []=w
 have hmem:w∈ns.take 5:=by
  have:ns.getD (Int.fmod (Int.fdiv n 2) 5).toNat []=(ns.take 5).getD (Int.fmod (Int.fdiv n 2) 5).toNat []:=by
   simp only [List.getD_eq_getElem?_getD,List.getElem?_take]
   rw [if_pos (by exact o34 p1 p2)]
  rw [<-hw,this]
  exact getD_mem (by rw [length_take];exact o35 h5 hm p1 p2)
 refine hR _ _ ?_
 clear hR hw
 refine seq λ R hR=>iffI λ A B hA hB=>?_
 have rest:B Z:=by
  refine hB _ (hR _ _ ?_)
  refine seq λ R hR=>?_
  walk_at"ug"
  refine newO λ b Z1 hb l1 hb₁=>hR _ _ (last ?_)
  walk_at"ug"
  refine okP (itemL_mod (by decide) (by simp) (by simp [tooLong])) ?_
  have h1:=fmod_hi (Int.fdiv n 20) (b:=4) (by decide)
  have h2:=fmod_lo (Int.fdiv n 20) (b:=4) (by decide)
  generalize Int.fmod (Int.fdiv n 20) 4=j at h1 h2 ⊢
  have hj:j=0\/j=1\/j=2\/j=3:=by exact o36 h1 h2
  rcases hj with rfl | rfl | rfl | rfl
  . exact hq (.n _) Z1 l1 (sm_mod _ (by decide) (by decide))
  . exact hq (.n _) Z1 l1 (sm_mod _ (by decide) (by decide))
  . exact hq (.n _) Z1 l1 (sm_mod _ (by decide) (by decide))
  . have h3:=fmod_hi (Int.fdiv n 2) (b:=3) (by decide)
    have h4:=fmod_lo (Int.fdiv n 2) (b:=3) (by decide)
    exact hq (.n _) Z1 l1 ⟨by exact o37 h3 h4,by exact o38 h3 h4⟩
 walk_at"ug"
 refine wif (λ hz=>?_) λ hz=>?_
 . walk_at"ug"
   refine wif (λ ho=>hA _ (last ?_)) λ ho=>rest
   walk_at"ug"
   exact hq (.s _) Z (Le.refl _) ⟨by simpa using ho,hmem⟩
 . rw [hz];exact rest
theorem s_sum(hd:0<d)(n:Int)(own:Txt)(h:Z l=some (.list (ns.map .str)))(h5:5<=ns.length)(hm:ns.length<1000000)(hn:0<=n)(hq:∀ (m:Tot) t Z',Le Z Z'->Z t=none->Z' t=some (.tup m.avs)->m.ok own (ns.take 5)->Q (.ref t) Z'):K.fn false d "_law_sum" [.int n,.str own,.ref l] Z Q X:=by
 (refine ent' T f__law_sum (by walk_at"mm") rfl (by unfold f__law_sum;walk_at"aa";exact rfl) ?_;dsimp only [f__law_sum])
 refine seq λ R hR=>?_
 walk_at"ug"
 refine s_thing T _ own h h5 hm (fdiv_lo hn (by decide)) λ x Z1 l1 hx=>hR _ _ ?_
 refine seq λ R hR=>iffI λ A B hA hB=>?_
 walk_at"ug"
 refine wif (λ hz=>hA _ (last ?_)) λ hz=>hB _ (hR _ _ (last ?_))
 . walk_at"ug"
   exact newO λ b Z2 hb l₂ hb2=>hq (.one x) b Z2 (l1.trans l₂) (none_le l1 hb) hb2 hx
 . walk_at"ug"
   refine newO λ b Z2 hb l₂ hb2=>?_
   have h1:=fmod_hi n (b:=8) (by decide)
   have h2:=fmod_lo n (b:=8) (by decide)
   have h3:Int.fmod n 8≠0:=by simpa using hz
   walk_at"ug"
   refine okP (itemL_ok (by exact o39 h1 h2 h3) (by simp only [length_cons,length_nil];exact o40 h1 h2) (by decide)) ?_
   walk_at"ug"
   refine s_thing T _ own (l₂ _ _ (l1 _ _ h)) h5 hm (fdiv_lo hn (by decide)) λ y Z3 l₃ hy=>?_
   walk_at"ug"
   refine newO λ c Z4 hc l4 hc4=>?_
   generalize Int.fmod n 8=j at h1 h2 h3 hc4
   have hj:j=1\/j=2\/j=3\/j=4\/j=5\/j=6\/j=7:=by exact o41 h1 h2 h3
   have L:=l1.trans (l₂.trans (l₃.trans l4))
   rcases hj with rfl | rfl | rfl | rfl | rfl | rfl | rfl <;> exact hq (.two _ x y) c Z4 L (none_le (l1.trans (l₂.trans l₃)) hc) hc4 ⟨by decide,hx,hy⟩
theorem s_question(hd:0<d)(n:Int)(h:Z l=some (.list (ns.map .str)))(h5:5<=ns.length)(hm:ns.length<1000000)(hn:0<=n)(hq:∀ (q:Qu) t Z',Le Z Z'->Z t=none->Z' t=some (.tup q.avs)->q.ok (ns.take 5)->Q (.ref t) Z'):K.fn false d "_law_question" [.int n,.ref l] Z Q X:=by
 (refine ent' T f__law_question (by walk_at"mm") rfl (by unfold f__law_question;walk_at"aa";exact rfl) ?_;dsimp only [f__law_question])
 refine seq λ R hR=>?_
 walk_at"ug"
 refine s_thing T _ [] h h5 hm (fdiv_lo hn (by decide)) λ x Z1 l1 hx=>hR _ _ (last ?_)
 walk_at"ug"
 refine newO λ b Z2 hb l₂ hb2=>?_
 walk_at"ug"
 refine okP (itemL_mod (by decide) (by simp) (by simp [tooLong])) ?_
 walk_at"ug"
 refine s_thing T _ [] (l₂ _ _ (l1 _ _ h)) h5 hm (fdiv_lo hn (by decide)) λ y Z3 l₃ hy=>?_
 walk_at"ug"
 refine newO λ c Z4 hc l4 hc4=>?_
 have h1:=fmod_hi n (b:=4) (by decide)
 have h2:=fmod_lo n (b:=4) (by decide)
 generalize Int.fmod n 4=j at h1 h2 hc4
 have hj:j=0\/j=1\/j=2\/j=3:=by exact o36 h1 h2
 have L:=l1.trans (l₂.trans (l₃.trans l4))
 rcases hj with rfl | rfl | rfl | rfl <;> exact hq ⟨_,x,y⟩ c Z4 L (none_le (l1.trans (l₂.trans l₃)) hc) hc4 ⟨by simp [signs4],hx,hy⟩
end
end U
namespace U
open PySem
end U
namespace U
open PySem
noncomputable def ltrs:Txt:=[97,98,99,100,101,102,103,104,105,106,107,108,109,110,111,112,113,114,115,116,117,118,119,120,121,122]
noncomputable def fgrs:Txt:=[48,49,50,51,52,53,54,55,56,57]
noncomputable def keptT:List Txt:=[[98,108,111,99,107],[105,102],[101,108,115,101],[102,105],[102,114,111,109],[108,111,111,112],[117,110,116,105,108],[99,97,108,108],[117,110,100,111],[112,117,115,104],[112,117,108,108]]
noncomputable def goodB(w:Txt):Bool:=decide (1<=w.length)&&decide (w.length<=6)&&!keptT.contains w&&ltrs.contains (w.getD 0 0)&&w.all λ c=>ltrs.contains c||fgrs.contains c
noncomputable def ltr(n:Nat):Nat:=97+n % 26
noncomputable def tl(q:Nat):Txt:=[ltr (q+1),ltr (q+6),ltr (q+11),ltr (q+16),ltr (q+21),ltr (q+26)]
theorem ltr_in(n:Nat):ltrs.contains (ltr n)=true:=by
 have:∀ m<26,ltrs.contains (97+m)=true:=by decide
 exact this _ (Nat.mod_lt _ (by decide))
theorem tl_in{q c:Nat}(h:c∈tl q):ltrs.contains c=true:=by
 simp only [tl,mem_cons,not_mem_nil,or_false] at h
 rcases h with rfl | rfl | rfl | rfl | rfl | rfl <;> exact ltr_in _
theorem good_one(q k:Nat):goodB [ltr (q+5*k)]=true:=by
 have:∀ m<26,goodB [97+m]=true:=by decide
 exact this _ (Nat.mod_lt _ (by decide))
theorem good_of{w:Txt}(h1:1<=w.length)(h2:w.length<=6)(hk:w∉keptT)(ha:∀ c∈w,ltrs.contains c=true):goodB w=true:=by
 have hk':keptT.contains w=false:=by simpa using hk
 have ha':w.all (λ c=>ltrs.contains c||fgrs.contains c)=true:=by
  rw [all_eq_true];intro c hc;rw [ha c hc];rfl
 have h0:ltrs.contains (w.getD 0 0)=true:=ha _ (by cases w with | nil=>simp at h1 | cons c r=>simp)
 unfold goodB
 rw [hk',ha',h0]
 simp [h1,h2]
theorem kept_mis:∀ w∈keptT,4<=w.length->∀ q<26,∀ p<5,∃ i∈[0,1,2,3],i≠p/\w.getD i 0≠ltr (q+(5*i+1)):=by decide +kernel
theorem good_mid{q s p x:Nat}(hq:q<26)(hs:s∈[1,3,4,5,6])(hp:p<s)(hx:ltrs.contains x=true):goodB ((tl q).take p++[x]++((tl q).take s).drop (p+1))=true:=by
 have hs':s≠2/\1<=s/\s<=6:=(by decide:∀ s∈[1,3,4,5,6],s≠2/\1<=s/\s<=6) s hs
 have htl:((tl q).take s).length=s:=by rw [length_take];exact Nat.min_eq_left hs'.2.2
 have e:(tl q).take p++[x]++((tl q).take s).drop (p+1)=((tl q).take s).set p x:=by
  rw [List.set_eq_take_append_cons_drop,if_pos (by rw [htl];exact hp),List.take_take,Nat.min_eq_left (Nat.le_of_lt hp),append_assoc];rfl
 rw [e]
 have hl:(((tl q).take s).set p x).length=s:=by rw [List.length_set,htl]
 refine good_of (by rw [hl];exact hs'.2.1) (by rw [hl];exact hs'.2.2) (λ hk=>?_) λ c hc=>?_
 . have h4:=(by decide:∀ w∈keptT,w.length=2\/(4<=w.length/\w.length<=5)) _ hk
   rw [hl] at h4
   obtain ⟨h4,h5⟩:=h4.resolve_left hs'.1
   obtain ⟨i,hi,h1,h2⟩:=kept_mis _ hk (by rw [hl];exact h4) q hq p (Nat.lt_of_lt_of_le hp h5)
   refine h2 ?_
   have hi4:i<s:=Nat.lt_of_lt_of_le ((by decide:∀ i∈[0,1,2,3],i<4) i hi) h4
   rw [List.getD_eq_getElem?_getD,List.getElem?_set_ne (Ne.symm h1),List.getElem?_take,if_pos hi4]
   simp only [mem_cons,not_mem_nil,or_false] at hi
   rcases hi with rfl | rfl | rfl | rfl <;> rfl
 . rcases List.mem_or_eq_of_mem_set hc with hc | rfl
   . exact tl_in (mem_of_mem_take hc)
   . exact hx
theorem good_fig{x y:Nat}{r:Txt}(hx:ltrs.contains x=true)(hy:fgrs.contains y=true)(hr:∀ c∈r,ltrs.contains c=true)(hl:r.length<=4):goodB (x::y::r)=true:=by
 have hk:keptT.contains (x::y::r)=false:=by
  have h1:∀ w∈keptT,fgrs.contains (w.getD 1 0)=false:=by decide
  cases q:keptT.contains (x::y::r) with
  | false=>rfl
  | true=>
   have:=h1 _ (by simpa using q)
   simp only [List.getD_cons_succ,List.getD_cons_zero] at this
   rw [hy] at this;cases this
 have ha:(x::y::r).all (λ c=>ltrs.contains c||fgrs.contains c)=true:=by
  rw [all_eq_true]
  intro c hc
  rcases mem_cons.mp hc with rfl | hc
  . rw [hx];rfl
  . rcases mem_cons.mp hc with rfl | hc
    . rw [hy];simp
    . rw [hr c hc];rfl
 unfold goodB
 rw [hk,ha]
 simp only [List.getD_cons_zero,hx,length_cons]
 simp
 omega
theorem ltr_at(x:Int)(n:Nat){y:Int}(hy:y=(n:Int)):ltrs.getD (Int.fmod (x+y) 26).toNat 0=ltr ((Int.fmod x 26).toNat+n):=by
 subst hy
 have h0:=fmod_lo x (b:=26) (by decide)
 have:(Int.fmod (x+(n:Int)) 26).toNat=((Int.fmod x 26).toNat+n) % 26:=by
  rw [Int.fmod_eq_emod_of_nonneg _ (by decide)] at *
  rw [Int.fmod_eq_emod_of_nonneg _ (by decide)] at *
  obtain ⟨a,ha⟩:=Int.eq_ofNat_of_zero_le h0
  rw [<-Int.emod_add_emod,ha];rfl
 rw [this]
 have:∀ m<26,ltrs.getD m 0=97+m:=by decide
 rw [this _ (Nat.mod_lt _ (by decide))];rfl
theorem figs_small{i:Int}(h0:0<=i)(h1:i<10):∃ c,figs i=[c]/\fgrs.contains c=true:=by
 obtain ⟨n,rfl⟩:=Int.eq_ofNat_of_zero_le h0
 exact ⟨48+n,(by decide:∀ n:Nat,n<10->figs (n:Int)=[48+n]/\fgrs.contains (48+n)=true) n (Int.ofNat_lt.mp h1)⟩
theorem all_str{ss:List Txt}:(ss.map AV.str).all AV.scal=true:=by simp [AV.scal]
theorem any_str{ss:List Txt}{w:Txt}:(ss.map AV.str).any (eqS · (.str w))=ss.contains w:=by
 induction ss with
 | nil=>rfl
 | cons x r ih=>
  rw [map_cons,any_cons,ih,contains_cons]
  congr 1
  show (x==w)=(w==x)
  rw [Bool.eq_iff_iff,beq_iff_eq,beq_iff_eq];exact eq_comm
end U
namespace U
open PySem
theorem list6{vs:List AV}{f:Nat->AV}(h:vs.length=6)(hf:∀ k v,vs[k]?=some v->v=f k):vs=[f 0,f 1,f 2,f 3,f 4,f 5]:=by
 exact List.ext_getElem (l₂:=(List.range 6).map f) (by rw [h,length_map,length_range]) λ i h1 V=>(hf i _ (List.getElem?_eq_getElem h1)).trans (by rw [List.getElem_map,List.getElem_range])
theorem strAt_ltr(x:Int)(n:Nat){y:Int}(hy:y=(n:Int)):itemL ltrs (Int.fmod (x+y) 26)=some (ltr ((Int.fmod x 26).toNat+n)):=by
 rw [strAt_mod (by decide) (by decide) (by decide),ltr_at x n hy]
theorem sz_of(j:Int)(h1:j<5)(h2:0<=j):∃ sz:Nat,pick [.int 1,.int 3,.int 4,.int 5,.int 6] j=.int (sz:Int)/\sz∈[1,3,4,5,6]:=by
 have e:=pick_map (λ n:Nat=>AV.int (n:Int)) 0 (xs:=[1,3,4,5,6]) h2 h1
 exact ⟨_,e,getD_mem ((Int.toNat_lt h2).mpr h1)⟩
noncomputable def oddWords:List Txt:=[[105,102,120],[102,105,120],[117,110,100,111,110,101],[112,117,108,108,101,100],[112,117,115,104,101,115],[98,108,111,99,107,115],[108,111,111,112,115],[112,117,116],[115,119,97,112],[114,111,117,110,100]]
theorem word_of(j:Int)(h1:j<10)(h2:0<=j):∃ w,pick [.str [105,102,120],.str [102,105,120],.str [117,110,100,111,110,101],.str [112,117,108,108,101,100],.str [112,117,115,104,101,115],.str [98,108,111,99,107,115],.str [108,111,111,112,115],.str [112,117,116],.str [115,119,97,112],.str [114,111,117,110,100]] j=.str w/\goodB w=true:=by
 have e:=pick_map AV.str [] (xs:=oddWords) h2 h1
 have hlt:j.toNat<oddWords.length:=(Int.toNat_lt h2).mpr h1
 exact ⟨_,e,(by decide:∀ w∈oddWords,goodB w=true) _ (getD_mem hlt)⟩
theorem good_w2(a b:Nat){m:Nat}(q:Nat)(hm:m<=5):goodB ([ltr a]++(52::tl q).take m)=true:=by
 cases m with
 | zero=>
  exact good_of (by simp) (by simp) (λ q=>(by decide:∀ w∈keptT,w.length≠1) _ q rfl) λ c hc=>by rw [mem_singleton.mp hc];exact ltr_in _
 | succ m=>exact good_fig (ltr_in _) (by decide) (λ c hc=>tl_in (mem_of_mem_take hc)) (by rw [length_take];omega)
end U
namespace U8
open U PySem
noncomputable def ltrs:Txt:=[97,98,99,100,101,102,103,104,105,106,107,108,109,110,111,112,113,114,115,116,117,118,119,120,121,122]
noncomputable def ltr(x:Int):Nat:=ltrs.getD (Int.fmod x 26).toNat 0
theorem ltr_is(x:Int):itemL ltrs (Int.fmod x 26)=some (ltr x):=strAt_mod (by decide) (by decide) (by decide)
theorem ltr_ne{x y:Int}(h:Int.fmod x 26≠Int.fmod y 26):ltr x≠ltr y:=by
 have a1:=fmod_lo x (b:=26) (by decide)
 have a2:=fmod_hi x (b:=26) (by decide)
 have b1:=fmod_lo y (b:=26) (by decide)
 have b2:=fmod_hi y (b:=26) (by decide)
 unfold ltr
 generalize Int.fmod x 26=i at *
 generalize Int.fmod y 26=j at *
 obtain ⟨i,rfl⟩:=Int.eq_ofNat_of_zero_le a1
 obtain ⟨j,rfl⟩:=Int.eq_ofNat_of_zero_le b1
 have:=(by decide:∀ i:Nat,i<26->∀ j:Nat,j<26->i≠j->ltrs.getD i 0≠ltrs.getD j 0) i (by exact o247 a1 a2) j (by exact o247 b1 b2) (λ e=>h (by rw [e]))
 exact this
noncomputable def Mk(c:Int)(p:Nat)(k:Nat)(w:Txt):Prop:=if Int.fmod c 3=2 then w[0]?=some (ltr (Int.fdiv c 72+7*Int.fdiv (k:Int) 4))/\w.length=1+min (Int.fmod (k:Int) 4+Int.fmod (Int.fdiv c 18) 3).toNat 7 else w[p]?=some (ltr (Int.fdiv c 72+5*(k:Int)))
set_option tactic.hygienic true in
theorem Mk.ne{c:Int}{p i j:Nat}{w:Txt}(h:Mk c p i w)(h':Mk c p j w)(hi:i<12)(hj:j<12):i=j:=by
 apply Decidable.byContradiction
 intro hij
 unfold Mk at h h'
 split at h
 . rename_i q
   rw [if_pos q] at h'
   obtain ⟨h1,h2⟩:=h
   obtain ⟨g1,g2⟩:=h'
   rw [h1] at g1
   rw [h2] at g2
   have r1:=fmod_lo (Int.fdiv c 18) (b:=3) (by decide)
   have r2:=fmod_hi (Int.fdiv c 18) (b:=3) (by decide)
   generalize Int.fmod (Int.fdiv c 18) 3=r at *
   rw [Int.fmod_eq_emod_of_nonneg _ (by decide),Int.fmod_eq_emod_of_nonneg _ (by decide)] at g2
   refine ltr_ne ?_ (Option.some.inj g1)
   rw [Int.fmod_eq_emod_of_nonneg _ (by decide),Int.fmod_eq_emod_of_nonneg _ (by decide),Int.fdiv_eq_ediv_of_nonneg (i:Int) (by decide),Int.fdiv_eq_ediv_of_nonneg (j:Int) (by decide)]
   exact o393 hi hj hij g2 r1 r2
 . rename_i q
   rw [if_neg q,h] at h'
   refine ltr_ne ?_ (Option.some.inj h')
   rw [Int.fmod_eq_emod_of_nonneg _ (by decide),Int.fmod_eq_emod_of_nonneg _ (by decide)]
   exact o394 hi hj hij q
noncomputable def Dj(ws:List Txt):Prop:=∀ (i j:Nat) w,ws[i]?=some w->ws[j]?=some w->i=j
theorem Dj.set{ws:List Txt}{w:Txt}{k:Nat}(h:Dj ws)(hw:w∉ws):Dj (ws.set k w):=λ i j v hi hj=>by
 rw [List.getElem?_set] at hi hj
 split at hi <;> split at hj
 . exact (‹k=i›:k=i)▸‹k=j›
 . split at hi
   . cases hi;exact absurd (List.mem_of_getElem? hj) hw
   . cases hi
 . split at hj
   . cases hj;exact absurd (List.mem_of_getElem? hi) hw
   . cases hj
 . exact h i j v hi hj
structure Nm8(ns:List Txt):Prop where
 len:ns.length=12
 six:∀ w,ns[6]?=some w->w∉ns.take 5
 bk:∀ (i j:Nat) w,ns[8+i]?=some w->ns[8+j]?=some w->i=j
theorem Dj.nm{ws:List Txt}(h:Dj ws)(l:ws.length=12):Nm8 ws:=by
 refine ⟨l,λ w hw hm=>?_,λ i j w h1 h2=>Nat.add_left_cancel (h _ _ w h1 h2)⟩
 obtain ⟨i,hi⟩:=List.mem_iff_getElem?.mp hm
 rw [List.getElem?_take] at hi
 split at hi
 . have:=h _ _ w hw hi;omega
 . cases hi
theorem Dj.nm2{ws:List Txt}(h:Dj ws)(l:ws.length=12):Nm8 (ws.take 8++ws.take 4):=by
 have l8:(ws.take 8).length=8:=by rw [length_take,l];rfl
 have g:∀ (i:Nat) w,(ws.take 8++ws.take 4)[8+i]?=some w->ws[i]?=some w:=λ i w q=>by
  rw [List.getElem?_append_right (by rw [l8];exact Nat.le_add_right _ _),l8,Nat.add_sub_cancel_left,List.getElem?_take] at q
  split at q
  . exact q
  . cases q
 refine ⟨by rw [length_append,length_take,length_take,l];rfl,λ w hw=>?_,λ i j w h1 h2=>h _ _ w (g i w h1) (g j w h2)⟩
 rw [List.getElem?_append_left (by rw [l8];decide),List.getElem?_take_of_lt (by decide)] at hw
 rw [List.take_append_of_le_length (by rw [l8];decide),List.take_take]
 exact (h.nm l).six w hw
end U8
namespace W2
open U PySem
end W2
namespace V3
open U PySem
noncomputable def nobT:Txt:=[110,111,98,111,100,121]
noncomputable def Gq(w:Txt):Prop:=goodB w=true/\(w==nobT)=false
theorem nob_two{x y:Nat}{r:Txt}(h:y≠111):((x::y::r)==nobT)=false:=beq_eq_false_iff_ne.mpr λ e=>by
 injection e with _ e
 injection e with e _
 exact h e
theorem nob_fig{x y:Nat}{r:Txt}(h:fgrs.contains y=true):((x::y::r)==nobT)=false:=nob_two λ e=>by rw [e] at h;exact absurd h (by decide)
theorem nob_w2{x:Nat}{t:Txt}{m:Nat}:(([x]++(52::t).take m)==nobT)=false:=by
 cases m with
 | zero=>exact beq_eq_false_iff_ne.mpr λ e=>by injection e with _ e;cases e
 | succ m=>exact nob_two (by decide)
theorem nob_one{x:Nat}:([x]==nobT)=false:=beq_eq_false_iff_ne.mpr λ e=>by injection e with _ e;cases e
theorem tl_no1:∀ q<26,ltr (q+1)=110->ltr (q+6)≠111:=by decide
theorem tl_no2:∀ q<26,ltr (q+11)=98->ltr (q+16)≠111:=by decide
theorem nob_mid{q sz p x:Nat}(hq:q<26)(hp:p<sz)(hs:sz<=6):(((tl q).take p++[x]++((tl q).take sz).drop (p+1))==nobT)=false:=by
 refine beq_eq_false_iff_ne.mpr λ e=>?_
 have hg:∀ i,i≠p->i<sz->((tl q).take p++[x]++((tl q).take sz).drop (p+1))[i]?=(tl q)[i]?:=λ i h1 h2=>by
  have hl:((tl q).take p).length=p:=by rw [length_take];exact Nat.min_eq_left (Nat.le_trans (Nat.le_of_lt hp) hs)
  rw [append_assoc]
  rcases Nat.lt_or_gt_of_ne h1 with h | h
  . rw [List.getElem?_append_left (by rw [hl];exact h),List.getElem?_take_of_lt h]
  . rw [List.getElem?_append_right (by rw [hl];exact Nat.le_of_lt h),hl]
    obtain ⟨k,rfl⟩:∃ k,i=p+1+k:=⟨i-(p+1),by exact o1358 hl h⟩
    rw [show p+1+k-p=k+1 by exact o1359,List.singleton_append,List.getElem?_cons_succ,List.getElem?_drop,List.getElem?_take_of_lt h2]
 have hsz:sz=6:=by
  have:=congrArg List.length e
  simp only [length_append,length_take,length_drop,length_singleton] at this
  have h6:(tl q).length=6:=rfl
  have h6':nobT.length=6:=rfl
  exact o1360 hp hs this h6 h6'
 subst hsz
 rw [e] at hg
 by_cases h:2<=p
 . have a0:=hg 0 (by exact o1361 hp h) (by decide)
   have a1:=hg 1 (by exact o1362 hp h) (by decide)
   exact tl_no1 q hq (Option.some.inj a0).symm (Option.some.inj a1).symm
 . have a0:=hg 2 (by exact o1363 hp h) (by decide)
   have a1:=hg 3 (by exact o1364 hp h) (by decide)
   exact tl_no2 q hq (Option.some.inj a0).symm (Option.some.inj a1).symm
theorem word_of3(j:Int)(h1:j<10)(h2:0<=j):∃ w,pick [.str [105,102,120],.str [102,105,120],.str [117,110,100,111,110,101],.str [112,117,108,108,101,100],.str [112,117,115,104,101,115],.str [98,108,111,99,107,115],.str [108,111,111,112,115],.str [112,117,116],.str [115,119,97,112],.str [114,111,117,110,100]] j=.str w/\Gq w:=by
 obtain ⟨w,hw,hg⟩:=word_of j h1 h2
 refine ⟨w,hw,hg,?_⟩
 obtain rfl | rfl | rfl | rfl | rfl | rfl | rfl | rfl | rfl | rfl:j=0\/j=1\/j=2\/j=3\/j=4\/j=5\/j=6\/j=7\/j=8\/j=9:=by exact o1138 h1 h2
 all_goals (cases hw;rfl)
inductive Words7(c:Int)(pp:Nat)(Z:Hp)(a:Addr)(n:Nat):Prop
 | mk (ws:List Txt) (h1:Z a=some (.list (ws.map .str))) (h2:ws.length=n) (h3:∀ (i:Nat) w,ws[i]?=some w->U8.Mk c pp i w) (h4:∀ w∈ws,Gq w)
inductive NmI(c:Int)(pp:Nat)(sz:Nat)(tq:Txt)(a₀:Addr)(Z:Hp)(k:Nat)(ρ:U.Loc)(Z':Hp):Prop
 | mk (x y z:Option AV) (e:ρ=[some (.int c),some (.str ltrs),some (.ref a₀),some (.int (sz:Int)),some (.str tq),x,y,z,none]) (l:Le Z Z') (w:Words7 c pp Z' a₀ k)
section
variable {K:Kx}(T:Tab K tabD){d:Nat}{Z:Hp}{Q:Post}{X:XPost}
include T
theorem s_names13(c:Int)(hq:∀ a (ns:List Txt) Z',Le Z Z'->Z a=none->Z' a=some (.list (ns.map .str))->U8.Nm8 ns->(∀ w∈ns,Gq w)->Q (.ref a) Z'):K.fn false d "_law_names" [.int c] Z Q X:=by
 have ht:tooLong=1000000:=rfl
 (refine ent' T f__law_names (by walk_at"mm") rfl (by unfold f__law_names;walk_at"aa";exact rfl) ?_;dsimp only [f__law_names])
 refine seq λ R hR=>?_
 walk_at"ug"
 refine hR _ _ (seq λ R hR=>?_)
 walk_at"ug"
 refine newO λ a₀ Z1 ha₀ l1 ha1=>hR _ _ (seq λ R hR=>?_)
 walk_at"ug"
 refine newO λ a₁ Z2 V l₂ ha₂=>?_
 walk_at"ug"
 refine okP (itemL_mod (by decide) (by decide) (by decide)) ?_
 obtain ⟨sz,hsz,hszm⟩:=sz_of _ (fmod_hi (Int.fdiv c 3) (b:=5) (by decide)) (fmod_lo (Int.fdiv c 3) (b:=5) (by decide))
 have hsz1:1<=sz/\sz<=6:=by have hz':=hszm;simp only [mem_cons,not_mem_nil,or_false] at hz';exact o50 hz'
 rw [hsz]
 refine hR _ _ ?_
 have L2:=l1.trans l₂
 replace ha1:=l₂ _ _ ha1
 clear hR hsz ha₂ l1 l₂
 refine seq λ R hR=>?_
 walk_at"ug"
 refine comp_new (n:=6) (by decide) (λ Z'=>Le Z2 Z') (λ k v=>v=.str [ltr ((Int.fmod (Int.fdiv c 72) 26).toNat+(5*k+1))]) (Le.refl _) ?_ ?_
 . intro k Z' cont hk hle hc
   walk_at"ug"
   have e:Int.fdiv c 72+5*(k:Int)+1=Int.fdiv c 72+(5*(k:Int)+1):=by exact o738
   rw [e]
   exact okP (strAt_ltr (Int.fdiv c 72) (5*k+1) (y:=5*(k:Int)+1) (by exact o739)) (hc _ _ hle rfl)
 . intro vs Z3 a₃ Z4 hle hlen hP V l₃ ha4
   have hv:=list6 (f:=λ k=>.str [ltr ((Int.fmod (Int.fdiv c 72) 26).toNat+(5*k+1))]) hlen hP
   have hq0:(Int.fmod (Int.fdiv c 72) 26).toNat<26:=by
    have:=fmod_hi (Int.fdiv c 72) (b:=26) (by decide)
    have:=fmod_lo (Int.fdiv c 72) (b:=26) (by decide)
    omega
   generalize hq26:(Int.fmod (Int.fdiv c 72) 26).toNat=q at hv hq0
   subst hv
   have l4:=hle.trans l₃
   have L4:=L2.trans l4
   have hs4:Z4 a₀=some (.list []):=l4 _ _ ha1
   clear hP hlen hle l₃ l4 L2 ha1
   walk_at"ug"
   refine hR _ _ ?_
   clear hR ha4
   have j1:(tl q).length=6:=rfl
   obtain ⟨tq,htq⟩:∃ tq,tq=tl q:=⟨_,rfl⟩
   rw [<-htq] at j1
   obtain ⟨pp,hpp⟩:∃ pp:Nat,pp=if Int.fmod c 3=1 then (Int.fmod (Int.fdiv c 15) (sz:Int)).toNat else 0:=⟨_,rfl⟩
   show pSs K false d _ [some (.int c),some (.str ltrs),some (.ref a₀),some (.int (sz:Int)),some (.str (tl q)),none,none,none,none] Z4 _ _ _
   rw [<-htq]
   show pSs K false d _ [some (.int c),some (.str ltrs),some (.ref a₀),some (.int (sz:Int)),some (.str tq),none,none,none,none] Z4 _ _ _
   refine seq λ R0 hR0=>forI λ F hF=>?_
   walk_at"ug"
   refine hF _ _ _ (for_range (n:=12) (NmI c pp sz tq a₀ Z) ⟨_,_,_,rfl,L4,[],hs4,rfl,(λ i w q=>nomatch q),nofun⟩ ?_ ?_)
   . clear hF hR0 hq hs4 L4
     rintro k ρ Z5 cont hk ⟨x,y,z,rfl,l₅,ws,h₅,hlen,hmk,hgd⟩ hc
     have e0:itemL ltrs (Int.fmod (Int.fdiv c 72+5*(k:Int)) 26)=some (U8.ltr (Int.fdiv c 72+5*(k:Int))):=U8.ltr_is (Int.fdiv c 72+5*(k:Int))
     have e0':=strAt_ltr (Int.fdiv c 72) (5*k) (y:=5*(k:Int)) (by exact o742)
     rw [hq26] at e0'
     have x0g:ltrs.contains (U8.ltr (Int.fdiv c 72+5*(k:Int)))=true:=by rw [Option.some.inj (e0.symm.trans e0')];exact ltr_in _
     have x0k:goodB [U8.ltr (Int.fdiv c 72+5*(k:Int))]=true:=by rw [Option.some.inj (e0.symm.trans e0')];exact good_one q k
     clear e0'
     generalize hx0:U8.ltr (Int.fdiv c 72+5*(k:Int))=x0 at e0 x0g x0k
     refine seq λ R hR=>?_
     walk_at"ug"
     refine hR _ _ (seq λ R hR=>?_)
     have fin:∀ w z,U8.Mk c pp k w->Gq w->R [some (.int c),some (.str ltrs),some (.ref a₀),some (.int (sz:Int)),some (.str tq),some (.int (k:Int)),some (.str w),z,none] Z5:=by
      intro w z hM hG
      refine hR _ _ (last ?_)
      walk_at"ug"
      refine ⟨by rw [length_map];exact o51 ht hk hlen,setN l₅ ha₀ λ Z6 h₆ l6 V=>?_⟩
      refine hc _ _ ⟨_,_,_,rfl,l6,ws++[w],by rw [h₆,map_append];rfl,by rw [length_append,hlen];rfl,λ i v hv=>?_,λ v hv=>(mem_append.mp hv).elim (hgd v) λ hv=>by rw [mem_singleton.mp hv];exact hG⟩
      rcases Nat.lt_or_ge i ws.length with q | q
      . rw [List.getElem?_append_left q] at hv;exact hmk i v hv
      . rw [List.getElem?_append_right q] at hv
        have e0:i-ws.length=0:=by
         rcases Nat.eq_zero_or_pos (i-ws.length) with r | r
         . exact r
         . rw [List.getElem?_eq_none (by exact r)] at hv;cases hv
        rw [e0] at hv;cases hv
        have:i=k:=by exact o254 hlen q e0
        rw [this];exact hM
     have mk0:∀ {w:Txt},Int.fmod c 3≠2->w[pp]?=some x0->U8.Mk c pp k w:=λ q e=>by unfold U8.Mk;rw [if_neg q,e,hx0]
     have htl:tq.length=6:=j1
     clear hc hR h₅ hlen hmk hgd
     refine iffI λ A B hA hB=>?_
     walk_at"ug"
     refine wif (λ hz=>hA _ (seq λ R hR=>?_)) λ hz=>hB _ (last (iffI λ A B hA hB=>?_))
     . have p1:=fmod_lo (Int.fdiv c 15) (b:=(sz:Int)) (by exact o52 hsz1)
       have p2:=fmod_hi (Int.fdiv c 15) (b:=(sz:Int)) (by exact o52 hsz1)
       have hgo380:=o380 hsz1
       walk_at"ug"
       refine hR _ _ (last ?_)
       have hgo376:=o376 ht j1
       walk_at"ug"
       generalize hpe:Int.fmod (Int.fdiv c 15) (sz:Int)=p at p1 p2
       rw [cut_to _ p1,cut_mid _ (by exact o53 p1) (by exact o54 hsz1)]
       have e:(p+1).toNat=p.toNat+1:=by exact o55 p1
       rw [e,Int.toNat_natCast]
       refine ⟨by rw [length_take,htl];exact o56 ht,?_⟩
       refine ⟨by rw [htl];decide,?_⟩
       refine ⟨by rw [length_append,length_take,length_drop,length_take,htl];dsimp only [List.length];exact o57 ht hsz1,?_⟩
       refine fin _ _ (mk0 (by rw [beq_iff_eq.mp hz];decide) ?_) ⟨by rw [htq];exact good_mid hq0 hszm (by exact o743 hsz1 p2) x0g,by rw [htq];exact nob_mid hq0 (by exact o743 hsz1 p2) hsz1.2⟩
       rw [hpp,if_pos (beq_iff_eq.mp hz),hpe,append_assoc,List.getElem?_append_right (by rw [length_take,htl];exact o255),length_take,htl]
       have:p.toNat-min p.toNat 6=0:=by exact o256 hsz1 p2
       rw [this];rfl
     . have hz1:=hz
       walk_at"ug"
       refine wif (λ hz=>hA _ (seq λ R hR=>?_)) λ hz=>hB _ (last (iffI λ A B hA hB=>?_))
       . have p1:=fmod_lo (Int.fdiv c 18) (b:=3) (by decide)
         have p2:=fmod_hi (Int.fdiv c 18) (b:=3) (by decide)
         have p3:=fmod_lo (k:Int) (b:=4) (by decide)
         have p4:=fmod_hi (k:Int) (b:=4) (by decide)
         walk_at"ug"
         have e1:itemL ltrs (Int.fmod (Int.fdiv c 72+7*Int.fdiv (k:Int) 4) 26)=some (U8.ltr (Int.fdiv c 72+7*Int.fdiv (k:Int) 4)):=U8.ltr_is (Int.fdiv c 72+7*Int.fdiv (k:Int) 4)
         have hk4:7*Int.fdiv (k:Int) 4=((7*(k / 4):Nat):Int):=by rw [Int.fdiv_eq_ediv_of_nonneg _ (by decide)];exact o935
         have e1':=strAt_ltr (Int.fdiv c 72) (7*(k / 4)) hk4
         have e1g:U8.ltr (Int.fdiv c 72+7*Int.fdiv (k:Int) 4)=ltr (q+7*(k / 4)):=by rw [hq26] at e1';exact Option.some.inj (e1.symm.trans e1')
         refine okP e1 ?_
         refine hR _ _ (last ?_)
         have hgo378:=o378 ht j1
         have hgo379:=o379 ht j1
         walk_at"ug"
         rw [cut_to _ (by exact o58 p1 p2 p3 p4)]
         refine ⟨by rw [length_take];dsimp only [List.length];exact o59 ht j1,?_⟩
         refine fin _ _ ?_ ⟨by rw [htq,e1g];exact good_w2 _ 0 q (by exact o936 p1 p2 p3 p4),nob_w2⟩
         unfold U8.Mk
         rw [if_pos (beq_iff_eq.mp hz)]
         refine ⟨rfl,?_⟩
         rw [length_cons,length_take,length_cons,htl,Nat.add_comm]
       . have p1:=fmod_lo (Int.fdiv c 26+(k:Int)) (b:=6) (by decide)
         have p2:=fmod_hi (Int.fdiv c 26+(k:Int)) (b:=6) (by decide)
         have p3:=fmod_lo (c+(k:Int)) (b:=10) (by decide)
         have p4:=fmod_hi (c+(k:Int)) (b:=10) (by decide)
         walk_at"ug"
         have n2:Int.fmod c 3≠2:=λ e=>by rw [e] at hz;cases hz
         have n1:pp=0:=by rw [hpp,if_neg];intro e;rw [e] at hz1;cases hz1
         refine wifd (λ hz=>hA _ (seq λ R hR=>?_)) λ hz=>hB _ (fin _ _ (mk0 n2 (by rw [n1];rfl)) ⟨x0k,nob_one⟩)
         obtain ⟨f,hf,hff⟩:=figs_small p3 p4
         have hgo377:=o377 p3 p4
         walk_at"ug"
         rw [hf]
         refine ⟨by simp [tooLong],hR _ _ (last ?_)⟩
         have hgo376:=o376 ht j1
         walk_at"ug"
         rw [cut_to _ (by exact o60 p1 p2 hz)]
         refine ⟨by rw [length_take];exact o61 ht j1,?_⟩
         exact fin _ _ (mk0 n2 (by rw [n1];rfl)) ⟨good_fig x0g hff (λ c hc=>tl_in (htq▸mem_of_mem_take hc)) (by rw [length_take];exact o937 j1 p1 p2 hz),nob_fig hff⟩
   . clear hF hs4 L4
     rintro ρ Z5 ⟨x,y,z,rfl,l₅,ws,h₅,hlen,hmk,hgd⟩
     have six:U8.Dj ws:=λ i j w h1 h2=>(hmk i w h1).ne (hmk j w h2) (by rw [<-hlen];exact (List.getElem?_eq_some_iff.mp h1).1) (by rw [<-hlen];exact (List.getElem?_eq_some_iff.mp h2).1)
     clear hmk
     refine hR0 _ _ (seq λ R hR=>?_)
     have after:∀ (ws:List Txt) u Z',Le Z Z'->Z' a₀=some (.list (ws.map .str))->ws.length=12->U8.Dj ws->(∀ w∈ws,Gq w)->R [some (.int c),some (.str ltrs),some (.ref a₀),some (.int (sz:Int)),some (.str tq),x,y,z,u] Z':=by
      intro ws u Z6 l6 h₆ hlen six hgd
      have hlm:(ws.map AV.str).length=12:=by rw [length_map,hlen]
      refine hR _ _ (seq λ R hR=>iffI λ A B hA hB=>?_)
      walk_at"ug"
      refine wif (λ hz=>hA _ (last ?_)) λ hz=>hB _ (hR _ _ (last ?_))
      . walk_at"ug"
        refine ⟨⟨by decide,by exact o62 ht hlm⟩,newO λ b₁ Z7 V l7 hb7=>?_⟩
        have h₇:=l7 _ _ h₆
        walk_at"ug"
        refine ⟨⟨by decide,by exact o62 ht hlm⟩,newO λ b₂ Z8 V l₈ hb8=>?_⟩
        have h₈:=l₈ _ _ hb7
        walk_at"ug"
        rw [cut_to _ (by decide),cut_to _ (by decide)]
        refine ⟨by rw [length_take,length_take];exact o63 ht hlm,newO λ b₃ Z9 hb3 l9 hb9=>hR _ _ (last ?_)⟩
        walk_at"ug"
        have L8:=l6.trans (l7.trans l₈)
        refine hq b₃ (ws.take 8++ws.take 4) Z9 (L8.trans l9) ?_ ?_ (six.nm2 hlen) (λ w hw=>(mem_append.mp hw).elim (λ h=>hgd w (mem_of_mem_take h)) λ h=>hgd w (mem_of_mem_take h))
        . cases e:Z b₃ with
          | none=>rfl
          | some o=>rw [L8 _ _ e] at hb3;cases hb3
        . rw [hb9,map_append,map_take,map_take];rfl
      . walk_at"ug"
        exact hq a₀ ws Z6 l6 ha₀ h₆ (six.nm hlen) hgd
     clear hR hR0 hq
     refine iffI λ A B hA hB=>?_
     walk_at"ug"
     refine wif (λ hz=>hA _ (seq λ R hR=>?_)) λ hz=>hB _ (after _ _ _ l₅ h₅ hlen six hgd)
     walk_at"ug"
     refine newO λ b₁ Z6 V l6 hb6=>hR _ _ (last (iffI λ A B hA hB=>?_))
     have h₆:=l6 _ _ h₅
     obtain ⟨w,hw,hwg⟩:=word_of3 _ (fmod_hi (Int.fdiv c 40) (b:=10) (by decide)) (fmod_lo (Int.fdiv c 40) (b:=10) (by decide))
     walk_at"ug"
     refine okP (itemL_mod (by decide) (by decide) (by decide)) ?_
     rw [hw]
     walk_at"ug"
     refine inS rfl all_str ?_
     refine wifn (wif (λ hn=>hB _ (after _ _ _ (l₅.trans l6) h₆ hlen six hgd)) λ hn=>hA _ (last ?_))
     walk_at"ug"
     refine okP (itemL_mod (by decide) (by decide) (by decide)) ?_
     rw [hw]
     have h1:=fmod_hi (Int.fdiv c 5) (b:=8) (by decide)
     have h2:=fmod_lo (Int.fdiv c 5) (b:=8) (by decide)
     walk_at"ug"
     have hlm:(ws.map AV.str).length=12:=by rw [length_map,hlen]
     refine okP (ix_ok h2 (by exact o64 h1 h2 hlm) (by exact o62 ht hlm)) ?_
     refine setN (l₅.trans l6) ha₀ λ Z7 h₇ l7 V=>?_
     exact after (ws.set (Int.fmod (Int.fdiv c 5) 8).toNat w) _ _ l7 (by rw [h₇,List.map_set]) (by rw [List.length_set,hlen]) (six.set (λ hm=>by
      have:(ws.map AV.str).any (eqS · (.str w))=true:=any_eq_true.mpr ⟨.str w,mem_map.mpr ⟨w,hm,rfl⟩,by show (w==w)=true;exact beq_self_eq_true _⟩
      rw [this] at hn;cases hn)) (λ v hv=>(List.mem_or_eq_of_mem_set hv).elim (hgd v) λ e=>e▸hwg)
end
end V3
namespace U
end U
namespace U
open PySem
noncomputable def f__law_alike:Fn:=⟨2,2,[.iff (.prim (.isinst ["tuple","list","dict"]) [.loc 1]) [.iff (.or (.prim .not [.prim (.isinst ["tuple","list","dict"]) [.loc 0]]) (.prim .ne [.prim .len [.loc 0],.prim .len [.loc 1]])) [.ret (.lit (.bool false))] [],
 .iff (.prim .ne [.prim (.isinst ["tuple"]) [.loc 0],.prim (.isinst ["tuple"]) [.loc 1]]) [.ret (.lit (.bool false))] [],
 .iff (.prim .ne [.prim (.isinst ["dict"]) [.loc 0],.prim (.isinst ["dict"]) [.loc 1]]) [.ret (.lit (.bool false))] [],
 .iff (.prim (.isinst ["dict"]) [.loc 1]) [.ret (.prim .all [.comp [true,true] [2] (.val (.loc 1)) none (.and (.prim .isin [.loc 2,.loc 0]) (.fn "_law_alike" [.prim .item [.loc 0,.loc 2],.prim .item [.loc 1,.loc 2]]))])] [],
 .ret (.prim .all [.comp [true,true] [2] (.range [.prim .len [.loc 1]]) none (.fn "_law_alike" [.prim .item [.loc 0,.loc 2],.prim .item [.loc 1,.loc 2]])])] [],
 .iff (.or (.prim .is [.loc 1,.lit .none]) (.prim (.isinst ["str"]) [.loc 1])) [.ret (.ite (.prim .is [.loc 1,.lit .none]) (.prim .is [.loc 0,.lit .none]) (.and (.prim (.isinst ["str"]) [.loc 0]) (.prim .eq [.loc 0,.loc 1])))] [],
 .ret (.and (.fn "_law_whole" [.loc 0]) (.prim .eq [.loc 0,.loc 1]))]⟩
noncomputable def tabK:List (String×Fn):=[("_law_alike",f__law_alike)]
theorem trues{vs:List AV}(h:∀ v∈vs,v=.bool true):vs=(List.replicate vs.length true).map AV.bool:=by
 induction vs with
 | nil=>rfl
 | cons v r ih=>
  rw [length_cons,replicate_succ,map_cons,<-ih λ v hv=>h v (.tail _ hv),h v (.head _)]
theorem all_yes(n:Nat):(List.replicate n true).all id=true:=by
 induction n with
 | zero=>rfl
 | succ n ih=>rw [replicate_succ,all_cons,ih];rfl
section
variable {K:Kx}(TA:Tab K tabA)(T:Tab K tabK){d:Nat}{Z:Hp}{Q:Post}{X:XPost}
include TA T
theorem s_al_str(s:Txt)(hq:Q (.bool true) Z):K.fn false d "_law_alike" [.str s,.str s] Z Q X:=by
 (refine ent' T f__law_alike (by walk_at"mm") rfl (by unfold f__law_alike;walk_at"aa";exact rfl) ?_;dsimp only [f__law_alike])
 refine seq λ R hR=>iffI λ A B hA hB=>?_
 walk_at"ug"
 refine hB _ (hR _ _ (seq λ R hR=>iffI λ A B hA hB=>?_))
 walk_at"ug"
 refine hA _ (last ?_)
 walk_at"ug"
 rw [beq_self_eq_true]
 exact hq
theorem s_al_int(hd:0<d)(i:Int)(hq:Q (.bool true) Z):K.fn false d "_law_alike" [.int i,.int i] Z Q X:=by
 (refine ent' T f__law_alike (by walk_at"mm") rfl (by unfold f__law_alike;walk_at"aa";exact rfl) ?_;dsimp only [f__law_alike])
 refine seq λ R hR=>iffI λ A B hA hB=>?_
 walk_at"ug"
 refine hB _ (hR _ _ (seq λ R hR=>iffI λ A B hA hB=>?_))
 walk_at"ug"
 refine hB _ (hR _ _ (last ?_))
 walk_at"ug"
 refine s_whole_int TA i ?_
 walk_at"ug"
 rw [beq_self_eq_true]
 exact hq
theorem s_al_none(hd:0<d)(hq:Q (.bool true) Z):K.fn false d "_law_alike" [.none,.none] Z Q X:=by
 (refine ent' T f__law_alike (by walk_at"mm") rfl (by unfold f__law_alike;walk_at"aa";exact rfl) ?_;dsimp only [f__law_alike])
 refine seq λ R hR=>iffI λ A B hA hB=>?_
 walk_at"ug"
 refine hB _ (hR _ _ (seq λ R hR=>iffI λ A B hA hB=>?_))
 walk_at"ug"
 refine hA _ (last ?_)
 walk_at"ug"
 exact hq
noncomputable def AlkS(x y:AV):Prop:=x=y/\((∃ i,x=.int i)\/(∃ s,x=.str s)\/x=.none)
noncomputable def Alk(Z:Hp):Nat->AV->AV->Prop
 | 0,x,y=>AlkS x y
 | n+1,x,y=>AlkS x y\/∃ r r',x=.ref r/\y=.ref r'/\(False \/
   ∃ xs ys,xs.length=ys.length/\xs.length<5000/\((Z r=some (.list xs)/\Z r'=some (.list ys))\/(Z r=some (.tup xs)/\Z r'=some (.tup ys)))/\∀ (k:Nat) x y,xs[k]?=some x->ys[k]?=some y->Alk Z n x y)
omit TA T in
theorem Alk.le{Z Z':Hp}(l:Le Z Z'):∀ {n:Nat} {x y:AV},Alk Z n x y->Alk Z' n x y
 | 0,_,_,h=>h
 | n+1,x,y,h=>by
  rcases h with h | ⟨r,r',e1,e2,h⟩
  . exact .inl h
  . refine .inr ⟨r,r',e1,e2,?_⟩
    rcases h with h | ⟨xs,ys,h1,h2,h3,h4⟩
    . exact h.elim
    . exact .inr ⟨xs,ys,h1,h2,h3.imp (λ h=>⟨l _ _ h.1,l _ _ h.2⟩) λ h=>⟨l _ _ h.1,l _ _ h.2⟩,λ k x y hx hy=>Alk.le l (h4 k x y hx hy)⟩
theorem s_alikeS{x y:AV}{Z:Hp}{d:Nat}{Q:Post}{X:XPost}(h:AlkS x y)(hd:1<=d)(hq:∀ Z',Le Z Z'->Q (.bool true) Z'):K.fn false d "_law_alike" [x,y] Z Q X:=by
 obtain ⟨rfl,⟨i,rfl⟩ | ⟨s,rfl⟩ | rfl⟩:=h
 . exact s_al_int TA T hd i (hq _ (Le.refl _))
 . exact s_al_str TA T s (hq _ (Le.refl _))
 . exact s_al_none TA T hd (hq _ (Le.refl _))
theorem s_alike:∀ (n:Nat) {x y:AV} {Z:Hp} {d:Nat} {Q:Post} {X:XPost},Alk Z n x y->n+1<=d->(∀ Z',Le Z Z'->Q (.bool true) Z')->K.fn false d "_law_alike" [x,y] Z Q X
 | 0,x,y,Z,d,Q,X,h,hd,hq=>s_alikeS TA T h hd hq
 | n+1,x,y,Z,d,Q,X,h,hd,hq=>by
  have htl:tooLong=1000000:=rfl
  rcases h with h | ⟨r,r',rfl,rfl,h⟩
  . exact s_alikeS TA T h (by exact qli [_,_] (.i 0 1 (.a (.a Y1 X1) X1) Y0 (.g 0 X1 Y0)) rfl hd) hq
  . rcases h with h | ⟨xs,ys,h1,h2,h3,h4⟩
    . exact h.elim
    . have fin:∀ (o o':AO),Z r=some o->Z r'=some o'->(o=.list xs/\o'=.list ys\/o=.tup xs/\o'=.tup ys)->pCompL (λ ρ' Z' k=>pC K false d none ρ' Z' (λ t Z''=>WifP t (PE.fn "_law_alike" [PE.prim Op.item [PE.loc 0,PE.loc 2],PE.prim Op.item [PE.loc 1,PE.loc 2]] K false d ρ' Z'' (λ v=>k (some v)) λ a Z=>Gd.no.iced=false/\X a Z) (k none Z'')) λ a Z=>Gd.no.iced=false/\X a Z) [2] [some (.ref r),some (.ref r'),none] .no (rangeOf 0 (ys.length:Int)) [] Z (λ v Z'=>Op.all Z' [v] Q):=λ o o' e e' hk=>by
       refine comp_new (n:=ys.length) (by exact o363 htl h1 h2) (λ Z'=>Le Z Z') (λ k v=>v=.bool true) (Le.refl _) ?_ ?_
       . intro k Z1 c hk' l1 hc
         have e₁:=l1 _ _ e
         have e'1:=l1 _ _ e'
         obtain ⟨x,hx⟩:∃ x,xs[k]?=some x:=⟨_,List.getElem?_eq_getElem (by exact o69 h1 hk')⟩
         obtain ⟨y,hy⟩:∃ y,ys[k]?=some y:=⟨_,List.getElem?_eq_getElem (by exact o70 hk')⟩
         have ix:∀ {zs:List AV} {z:AV},zs[k]?=some z->zs.length<5000->itemL zs (k:Int)=some z:=λ {zs z} hz hl=>by
          have:k<zs.length:=by
           rcases Nat.lt_or_ge k zs.length with q | q
           . exact q
           . rw [List.getElem?_eq_none q] at hz;cases hz
          unfold itemL
          rw [if_pos (by exact o364 h1 h2 hk'),seqIndex_ok (by exact o72) (by exact o73 this)];exact hz
         rcases hk with ⟨rfl,rfl⟩ | ⟨rfl,rfl⟩
         . walk_at"ug"
           refine okP (ix hx h2) ?_
           walk_at"ug"
           refine okP (ix hy (by exact o365 h1 h2)) ?_
           have hgo392:=o392 hd
           walk_at"ug"
           exact s_alike n (d:=d-1) (Q:=λ v=>c (some v)) ((h4 k x y hx hy).le l1) (by exact o75 hd) λ Z2 l₂=>hc _ _ (l1.trans l₂) rfl
         . walk_at"ug"
           refine okP (ix hx h2) ?_
           walk_at"ug"
           refine okP (ix hy (by exact o365 h1 h2)) ?_
           have hgo392:=o392 hd
           walk_at"ug"
           exact s_alike n (d:=d-1) (Q:=λ v=>c (some v)) ((h4 k x y hx hy).le l1) (by exact o75 hd) λ Z2 l₂=>hc _ _ (l1.trans l₂) rfl
       . intro vs Z1 a Z2 l1 hlen hP ha l₂ ha₂
         walk_at"ug"
         refine okP (v:=List.replicate vs.length true) ?_ ?_
         . have:=trues (vs:=vs) λ v hv=>by obtain ⟨k,hk⟩:=List.mem_iff_getElem?.mp hv;exact hP k v hk
           rw [this,length_map,List.length_replicate];exact bools_map
         . rw [all_yes];exact hq Z2 (l1.trans l₂)
      have hne:(!((ys.length:Int)==(ys.length:Int)))=false:=by rw [beq_self_eq_true];rfl
      rcases h3 with ⟨e,e'⟩ | ⟨e,e'⟩
      . (refine ent' T f__law_alike (by walk_at"mm") rfl (by unfold f__law_alike;walk_at"aa";exact rfl) ?_;dsimp only [f__law_alike])
        refine seq λ R hR=>iffI λ A B hA hB=>?_
        walk_at"ug"
        refine hA _ (seq λ R hR=>iffI λ A B hA hB=>?_)
        walk_at"ug"
        show WifP false _ _
        walk_at"ug"
        rw [h1,hne]
        refine hB _ (hR _ _ (seq λ R hR=>iffI λ A B hA hB=>?_))
        walk_at"ug"
        refine hB _ (hR _ _ (seq λ R hR=>iffI λ A B hA hB=>?_))
        walk_at"ug"
        refine hB _ (hR _ _ (seq λ R hR=>iffI λ A B hA hB=>?_))
        walk_at"ug"
        refine hB _ (hR _ _ (last ?_))
        have hgo391:=o391 htl h1 h2
        walk_at"ug"
        exact fin _ _ e e' (.inl ⟨rfl,rfl⟩)
      . (refine ent' T f__law_alike (by walk_at"mm") rfl (by unfold f__law_alike;walk_at"aa";exact rfl) ?_;dsimp only [f__law_alike])
        refine seq λ R hR=>iffI λ A B hA hB=>?_
        walk_at"ug"
        refine hA _ (seq λ R hR=>iffI λ A B hA hB=>?_)
        walk_at"ug"
        show WifP false _ _
        walk_at"ug"
        rw [h1,hne]
        refine hB _ (hR _ _ (seq λ R hR=>iffI λ A B hA hB=>?_))
        walk_at"ug"
        refine hB _ (hR _ _ (seq λ R hR=>iffI λ A B hA hB=>?_))
        walk_at"ug"
        refine hB _ (hR _ _ (seq λ R hR=>iffI λ A B hA hB=>?_))
        walk_at"ug"
        refine hB _ (hR _ _ (last ?_))
        have hgo391:=o391 htl h1 h2
        walk_at"ug"
        exact fin _ _ e e' (.inr ⟨rfl,rfl⟩)
end
end U
namespace U12
open U PySem
structure Gs where
 KEPT:Addr
 QUESTION_SIGNS:Addr
 SUM_SIGNS:Addr
 OPPOSITES:Addr
 LENGTHS:Addr
noncomputable def f_is_name(g:Gs):Fn:=⟨1,1,[.iff (.or (.prim .not [.prim (.isinst ["str"]) [.loc 0]]) (.or (.prim .not [.cmp2 .le .le (.lit (.int 1)) (.prim .len [.loc 0]) (.lit (.int 6))]) (.or (.prim .isin [.loc 0,.lit (.ref g.KEPT)]) (.prim .notin [.prim .item [.loc 0,.lit (.int 0)],.lit (.str [97,98,99,100,101,102,103,104,105,106,107,108,109,110,111,112,113,114,115,116,117,118,119,120,121,122])])))) [.ret (.lit (.bool false))] [],
 .ret (.prim .all [.comp [false] [1] (.val (.loc 0)) none (.or (.prim .isin [.loc 1,.lit (.str [97,98,99,100,101,102,103,104,105,106,107,108,109,110,111,112,113,114,115,116,117,118,119,120,121,122])]) (.prim .isin [.loc 1,.lit (.str [48,49,50,51,52,53,54,55,56,57])]))])]⟩
noncomputable def f_is_number:Fn:=⟨1,1,[.ret (.and (.prim (.isinst ["int"]) [.loc 0]) (.and (.prim .not [.prim (.isinst ["bool"]) [.loc 0]]) (.cmp2 .le .lt (.lit (.int 0)) (.loc 0) (.lit (.int 1000000)))))]⟩
noncomputable def f_need_sum(g:Gs):Fn:=⟨2,2,[.iff (.and (.prim (.isinst ["tuple"]) [.loc 0]) (.prim .eq [.prim .len [.loc 0],.lit (.int 1)])) [.expr (.fn "need_thing" [.prim .item [.loc 0,.lit (.int 0)],.loc 1])] [.expr (.fn "need_two" [.loc 0,.lit (.ref g.SUM_SIGNS),.loc 1])]]⟩
noncomputable def f_is_block:Fn:=⟨1,1,[.ret (.and (.prim (.isinst ["tuple"]) [.loc 0]) (.and (.prim .eq [.prim .len [.loc 0],.lit (.int 2)]) (.and (.fn "is_name" [.prim .item [.loc 0,.lit (.int 0)]]) (.prim (.isinst ["list"]) [.prim .item [.loc 0,.lit (.int 1)]]))))]⟩
end U12
namespace U12
open U PySem
set_option genSizeOf false
set_option genInjectivity false
inductive Up2(A B:Nat->Prop)(h:Nat):Prop
 | mk (h':Nat) (e:h=h'+1) (ha:A h') (hb:B h')
end U12
namespace U12
open U PySem
end U12
namespace U12
open U PySem
end U12
namespace U12
open U PySem
end U12
namespace U12
open U PySem
set_option genSizeOf false
set_option genInjectivity false
theorem itemL_last{xs:List AV}{v:AV}:itemL (xs++[v]) (-1)=some v:=by
 unfold itemL
 have e:seqIndex? (-1) (xs++[v]).length=some xs.length:=by
  unfold seqIndex?
  simp only [length_append,length_cons,length_nil]
  have h1:((-1:Int)<0):=by decide
  simp only [h1,if_true]
  rw [if_pos (by simp only [Bool.and_eq_true,decide_eq_true_eq];exact o333)]
  congr 1;exact o334
 rw [if_pos (by decide),e]
 show (xs++[v])[xs.length]?=some v
 rw [List.getElem?_append_right (Nat.le_refl _),Nat.sub_self];rfl
end U12
namespace U12
open U PySem
end U12
namespace U12
open U PySem
end U12
namespace U12
open U PySem
end U12
namespace U12
open U PySem
set_option genSizeOf false
set_option genInjectivity false
noncomputable def putT:Txt:=[112,117,116]
noncomputable def swapT:Txt:=[115,119,97,112]
noncomputable def pushT:Txt:=[112,117,115,104]
noncomputable def callT:Txt:=[99,97,108,108]
noncomputable def undoT:Txt:=[117,110,100,111]
noncomputable def brT(b:Bool):Txt:=bif b then [114,111,117,110,100] else [105,102]
noncomputable def sgT(g:Bool):Txt:=bif g then [45] else [43]
inductive Tl where
 | nil
 | put (k:Txt) (g:Bool) (m:Tot) (r:Tl)
 | swap (k j:Txt) (r:Tl)
 | two (w k:Txt) (r:Tl)
 | br (b:Bool) (q:Qu) (x y:Tl) (q':Qu) (r:Tl)
inductive PutC(Z:Hp)(R:List AV->Prop)(k:Txt)(g:Bool)(m:Tot)(vs:List AV):Prop
 | mk (t u:Addr) (vs':List AV) (e:vs=.ref t::vs') (h1:Z t=some (.tup [.str putT,.str k,.str (sgT g),.ref u])) (h2:Z u=some (.tup m.avs)) (h3:R vs')
inductive TupC(Z:Hp)(R:List AV->Prop)(x:List AV)(vs:List AV):Prop
 | mk (t:Addr) (vs':List AV) (e:vs=.ref t::vs') (h1:Z t=some (.tup x)) (h3:R vs')
inductive BrC(N:Addr->Prop)(Z:Hp)(X Y R:List AV->Prop)(b:Bool)(q q':Qu)(vs:List AV):Prop
 | mk (t u u' la lb:Addr) (va vb vs':List AV) (e:vs=.ref t::vs') (h1:Z t=some (.tup [.str (brT b),.ref u,.ref la,.ref lb,.ref u'])) (h2:Z u=some (.tup q.avs)) (h3:Z u'=some (.tup q'.avs)) (h4:N la/\Z la=some (.list va)) (h5:X va) (h6:N lb/\Z lb=some (.list vb)) (h7:Y vb) (h8:R vs')
noncomputable def RepT(N:Addr->Prop)(Z:Hp):Tl->List AV->Prop
 | .nil=>λ vs=>vs=[]
 | .put k g m r=>PutC Z (RepT N Z r) k g m
 | .swap k j r=>TupC Z (RepT N Z r) [.str swapT,.str k,.str j]
 | .two w k r=>TupC Z (RepT N Z r) [.str w,.str k]
 | .br b q x y q' r=>BrC N Z (RepT N Z x) (RepT N Z y) (RepT N Z r) b q q'
noncomputable def KtT(Z Z':Hp):Prop:=∀ x vs,Z x=some (.tup vs)->Z' x=some (.tup vs)
noncomputable def KlL(N N':Addr->Prop)(Z Z':Hp):Prop:=∀ x vs,N x->Z x=some (.list vs)->N' x/\Z' x=some (.list vs)
theorem RepT.mono{N N':Addr->Prop}{Z Z':Hp}(ht:KtT Z Z')(hl:KlL N N' Z Z'){t:Tl}:∀ {vs:List AV},RepT N Z t vs->RepT N' Z' t vs:=by
 induction t with
 | nil=>exact λ e=>e
 | put _ _ _ _ ih=>intro vs h;obtain ⟨t,u,vs',h1,h2,h3,h4⟩:=h;exact ⟨t,u,vs',h1,ht _ _ h2,ht _ _ h3,ih h4⟩
 | swap _ _ _ ih=>intro vs h;obtain ⟨t,vs',h1,h2,h3⟩:=h;exact ⟨t,vs',h1,ht _ _ h2,ih h3⟩
 | two _ _ _ ih=>intro vs h;obtain ⟨t,vs',h1,h2,h3⟩:=h;exact ⟨t,vs',h1,ht _ _ h2,ih h3⟩
 | br _ _ _ _ _ _ ia ib ih=>intro vs h;obtain ⟨t,u,u',la,lb,va,vb,vs',h1,h2,h3,h4,h5,h6,h7,h8,h9⟩:=h;exact ⟨t,u,u',la,lb,va,vb,vs',h1,ht _ _ h2,ht _ _ h3,ht _ _ h4,hl _ _ h5.1 h5.2,ia h6,hl _ _ h7.1 h7.2,ib h8,ih h9⟩
theorem RepT.le{N:Addr->Prop}{Z Z':Hp}(l:Le Z Z'){t:Tl}{vs:List AV}(h:RepT N Z t vs):RepT N Z' t vs:=h.mono (λ V V e=>l _ _ e) λ V V n e=>⟨n,l _ _ e⟩
noncomputable def Tl.app:Tl->Tl->Tl
 | .nil,s=>s
 | .put k g m r,s=>.put k g m (r.app s)
 | .swap k j r,s=>.swap k j (r.app s)
 | .two w k r,s=>.two w k (r.app s)
 | .br b q x y q' r,s=>.br b q x y q' (r.app s)
theorem RepT.app{N:Addr->Prop}{Z:Hp}{s t:Tl}{ws:List AV}(h':RepT N Z s ws):∀ {vs:List AV},RepT N Z t vs->RepT N Z (t.app s) (vs++ws):=by
 induction t with
 | nil=>intro vs e;rw [show vs=[] from e];exact h'
 | put _ _ _ _ ih=>intro vs h;obtain ⟨t,u,vs',h1,h2,h3,h4⟩:=h;exact ⟨t,u,_,by rw [h1];rfl,h2,h3,ih h4⟩
 | swap _ _ _ ih=>intro vs h;obtain ⟨t,vs',h1,h2,h3⟩:=h;exact ⟨t,_,by rw [h1];rfl,h2,ih h3⟩
 | two _ _ _ ih=>intro vs h;obtain ⟨t,vs',h1,h2,h3⟩:=h;exact ⟨t,_,by rw [h1];rfl,h2,ih h3⟩
 | br _ _ _ _ _ _ ia ib ih=>intro vs h;obtain ⟨t,u,u',la,lb,va,vb,vs',h1,h2,h3,h4,h5,h6,h7,h8,h9⟩:=h;exact ⟨t,u,u',la,lb,va,vb,_,by rw [h1];rfl,h2,h3,h4,h5,h6,h7,h8,ih h9⟩
noncomputable def Tl.len:Tl->Nat
 | .nil=>0
 | .put _ _ _ r=>r.len+1
 | .swap _ _ r=>r.len+1
 | .two _ _ r=>r.len+1
 | .br _ _ _ _ _ r=>r.len+1
theorem RepT.len{N:Addr->Prop}{Z:Hp}{t:Tl}:∀ {vs:List AV},RepT N Z t vs->vs.length=t.len:=by
 induction t with
 | nil=>intro vs e;rw [show vs=[] from e];rfl
 | put _ _ _ _ ih=>intro vs h;obtain ⟨t,u,vs',h1,h2,h3,h4⟩:=h;rw [h1,length_cons,ih h4];rfl
 | swap _ _ _ ih=>intro vs h;obtain ⟨t,vs',h1,h2,h3⟩:=h;rw [h1,length_cons,ih h3];rfl
 | two _ _ _ ih=>intro vs h;obtain ⟨t,vs',h1,h2,h3⟩:=h;rw [h1,length_cons,ih h3];rfl
 | br _ _ _ _ _ _ _ _ ih=>intro vs h;obtain ⟨t,u,u',la,lb,va,vb,vs',h1,h2,h3,h4,h5,h6,h7,h8,h9⟩:=h;rw [h1,length_cons,ih h9];rfl
noncomputable def lenE:List (Txt×AV):=[(putT,.int 4),(swapT,.int 3),(pushT,.int 2),([112,117,108,108],.int 2),([105,102],.int 5),([114,111,117,110,100],.int 5),(callT,.int 2),(undoT,.int 2)]
end U12
namespace U12
open U PySem
end U12
namespace U12
open U PySem
noncomputable def words4:List Txt:=[pushT,[112,117,108,108],callT,undoT]
noncomputable def Tl.lv:Tl->Nat->Prop
 | .nil,_=>True
 | .put _ _ _ r,h=>r.lv h
 | .swap _ _ r,h=>r.lv h
 | .two w _ r,h=>w∈words4/\r.lv h
 | .br _ _ x y _ r,h=>Up2 x.lv y.lv h/\r.lv h
theorem Tl.app_lv{s:Tl}{h:Nat}(hs:s.lv h)(t:Tl):t.lv h->(t.app s).lv h:=by
 induction t with
 | nil=>exact λ V=>hs
 | put _ _ _ _ ih=>exact ih
 | swap _ _ _ ih=>exact ih
 | two _ _ _ ih=>exact λ h=>⟨h.1,ih h.2⟩
 | br _ _ _ _ _ _ _ _ ih=>exact λ h=>⟨h.1,ih h.2⟩
noncomputable def Tl.cnt:Tl->Nat
 | .nil=>0
 | .put _ _ _ r=>1+r.cnt
 | .swap _ _ r=>1+r.cnt
 | .two _ _ r=>1+r.cnt
 | .br _ _ x y _ r=>1+x.cnt+y.cnt+r.cnt
noncomputable def brs:List AV:=[.str [105,102],.str [114,111,117,110,100]]
theorem yes_br(b:Bool):brs.any (eqS · (.str (brT b)))=true:=by cases b <;> rfl
noncomputable def AlkL(Z:Hp)(n:Nat)(xs ys:List AV):Prop:=xs.length=ys.length/\∀ (k:Nat) x y,xs[k]?=some x->ys[k]?=some y->Alk Z n x y
theorem AlkL.nil{Z:Hp}{n:Nat}:AlkL Z n [] []:=⟨rfl,λ k x y h=>nomatch h⟩
theorem AlkL.cons{Z:Hp}{n:Nat}{x y:AV}{xs ys:List AV}(h:Alk Z n x y)(h':AlkL Z n xs ys):AlkL Z n (x::xs) (y::ys):=⟨by rw [length_cons,length_cons,h'.1],λ k u v h1 h2=>by
 cases k with
 | zero=>cases h1;cases h2;exact h
 | succ k=>exact h'.2 k u v h1 h2⟩
theorem alk_str{Z:Hp}{n:Nat}(s:Txt):Alk Z n (.str s) (.str s):=by cases n <;> first | exact ⟨rfl,.inr (.inl ⟨s,rfl⟩)⟩ | exact .inl ⟨rfl,.inr (.inl ⟨s,rfl⟩)⟩
theorem alk_int{Z:Hp}{n:Nat}(s:Int):Alk Z n (.int s) (.int s):=by cases n <;> first | exact ⟨rfl,.inl ⟨s,rfl⟩⟩ | exact .inl ⟨rfl,.inl ⟨s,rfl⟩⟩
theorem alk_tup{Z:Hp}{n:Nat}{t t':Addr}{xs ys:List AV}(h:Z t=some (.tup xs))(h':Z t'=some (.tup ys))(a:AlkL Z n xs ys)(hl:xs.length<5000):Alk Z (n+1) (.ref t) (.ref t'):=.inr ⟨t,t',rfl,rfl,.inr ⟨xs,ys,a.1,hl,.inr ⟨h,h'⟩,a.2⟩⟩
theorem alk_list{Z:Hp}{n:Nat}{t t':Addr}{xs ys:List AV}(h:Z t=some (.list xs))(h':Z t'=some (.list ys))(a:AlkL Z n xs ys)(hl:xs.length<5000):Alk Z (n+1) (.ref t) (.ref t'):=.inr ⟨t,t',rfl,rfl,.inr ⟨xs,ys,a.1,hl,.inl ⟨h,h'⟩,a.2⟩⟩
theorem cnt_len(t:Tl):t.len<=t.cnt:=by
 induction t with
 | nil=>exact Nat.le_refl _
 | put _ _ _ r ih=>exact (o542 ih:r.len+1<=1+r.cnt)
 | swap _ _ r ih=>exact (o542 ih:r.len+1<=1+r.cnt)
 | two _ _ r ih=>exact (o542 ih:r.len+1<=1+r.cnt)
 | br _ _ x y _ r _ _ ih=>exact ((qli [_,_,_,_] (.i 0 1 (.v 0) (.v 3) (.g 0 (.a (.v 0) (.n 1)) (.a (.a (.a (.n 1) (.v 1)) (.v 2)) (.v 3)))) rfl ih):r.len+1<=1+x.cnt+y.cnt+r.cnt)
end U12
namespace U12
open U PySem
noncomputable def ThG:Th->Prop
 | .s k=>goodB k=true
 | .n i=>sm i
noncomputable def TotG(own:Txt):Tot->Prop
 | .one x=>ThG x/\x≠.s own
 | .two s x y=>s∈signs7/\(ThG x/\x≠.s own)/\(ThG y/\y≠.s own)
structure QG(q:Qu):Prop where
 s:q.s∈signs4
 x:ThG q.x
 y:ThG q.y
end U12
namespace U12
open U PySem
noncomputable def en:Nat->List AV->List It
 | _,[]=>[]
 | a,v::r=>It.two (.int (a:Int)) v::en (a+1) r
theorem enumOf_en(vs:List AV):enumOf vs=en 0 vs:=by
 have:∀ (vs:List AV) (a:Nat),(List.range' a vs.length).zipWith (λ (k:Nat) v=>It.two (.int (k:Int)) v) vs=en a vs:=by
  intro vs
  induction vs with
  | nil=>intro a;rfl
  | cons v r ih=>intro a;rw [length_cons,List.range'_succ,List.zipWith_cons_cons,ih (a+1)];rfl
 unfold enumOf
 rw [List.range_eq_range'];exact this vs 0
theorem for_en{body:U.Loc->Hp->SPost->Prop}{i j:Nat}{Q:SPost}{x:Addr}{o:AO}(I:Nat->List AV->U.Loc->Hp->Prop)(hg:∀ a r ρ Z,I a r ρ Z->Z x=some o)
  (hs:∀ a v r ρ Z (c:SPost),I a (v::r) ρ Z->(∀ ρ' Z',I (a+1) r ρ' Z'->c ρ' Z')->body ((ρ.set i (some (.int (a:Int)))).set j (some v)) Z c) (he:∀ a ρ Z,I a [] ρ Z->Q ρ Z):
  ∀ (vs:List AV) (a:Nat) (ρ:U.Loc) (Z:Hp),I a vs ρ Z->pForL body [i,j] (.keep x o) (en a vs) ρ Z Q
 | [],a,ρ,Z,h=>⟨hg _ _ _ _ h,he _ _ _ h⟩
 | v::r,a,ρ,Z,h=>⟨hg _ _ _ _ h,_,rfl,hs _ _ _ _ _ _ h λ ρ' Z' h'=>for_en I hg hs he r (a+1) ρ' Z' h'⟩
noncomputable def Tl.good(ns:List Txt):Tl->Prop
 | .nil=>True
 | .put k _ m r=>(goodB k=true/\TotG k m)/\r.good ns
 | .swap k j r=>(goodB k=true/\goodB j=true)/\r.good ns
 | .two w k r=>(w∈words4/\goodB k=true/\(w=callT\/w=undoT->k∈ns))/\r.good ns
 | .br _ q x y q' r=>(QG q/\QG q'/\x.good ns/\y.good ns)/\r.good ns
end U12
namespace U12
open U PySem
end U12
namespace U12
open U PySem
set_option genSizeOf false
set_option genInjectivity false
structure Bk where
 b:Addr
 l:Addr
 nm:Txt
 vs:List AV
 t:Tl
structure BkAt(N:Addr->Prop)(Z:Hp)(ns:List Txt)(k:Bk):Prop where
 b:Z k.b=some (.tup [.str k.nm,.ref k.l])
 l:Z k.l=some (.list k.vs)
 r:RepT N Z k.t k.vs
 g:goodB k.nm=true
 o:k.t.good ns
 v:k.t.lv 7
theorem BkAt.le{N:Addr->Prop}{Z Z':Hp}{ns:List Txt}{b:Bk}(h:BkAt N Z ns b)(l:Le Z Z'):BkAt N Z' ns b:=⟨l _ _ h.b,l _ _ h.l,h.r.le l,h.g,h.o,h.v⟩
end U12
namespace U12
open U PySem
end U12
namespace U12
open U PySem
theorem Tl.app_good{ns:List Txt}{s:Tl}(hs:s.good ns)(t:Tl):t.good ns->(t.app s).good ns:=by
 induction t with
 | nil=>exact λ V=>hs
 | put _ _ _ _ ih=>exact λ h=>⟨h.1,ih h.2⟩
 | swap _ _ _ ih=>exact λ h=>⟨h.1,ih h.2⟩
 | two _ _ _ ih=>exact λ h=>⟨h.1,ih h.2⟩
 | br _ _ _ _ _ _ _ _ ih=>exact λ h=>⟨h.1,ih h.2⟩
theorem Tl.app_cnt(a b:Tl):(a.app b).cnt=a.cnt+b.cnt:=by
 induction a with
 | nil=>exact (Nat.zero_add _).symm
 | put _ _ _ r ih=>exact (congrArg (1+·) ih).trans (Nat.add_assoc ..).symm
 | swap _ _ r ih=>exact (congrArg (1+·) ih).trans (Nat.add_assoc ..).symm
 | two _ _ r ih=>exact (congrArg (1+·) ih).trans (Nat.add_assoc ..).symm
 | br _ _ x y _ r _ _ ih=>exact (congrArg (1+x.cnt+y.cnt+·) ih).trans (Nat.add_assoc ..).symm
end U12
namespace W2
open U PySem
noncomputable def f__law_simple:Fn:=⟨2,3,[.assign (.name 2) (.prim .item [.loc 1,.prim .mod [.prim .fdiv [.loc 0,.lit (.int 8)],.lit (.int 5)]]),
 .iff (.prim .lt [.prim .mod [.loc 0,.lit (.int 8)],.lit (.int 4)]) [.ret (.prim .mkList [.prim .mkTup [.lit (.str [112,117,116]),.loc 2,.prim .item [.lit (.str [43,45]),.prim .mod [.loc 0,.lit (.int 2)]],.fn "_law_sum" [.prim .fdiv [.loc 0,.lit (.int 40)],.loc 2,.loc 1]]])] [],
 .iff (.prim .lt [.prim .mod [.loc 0,.lit (.int 8)],.lit (.int 6)]) [.ret (.prim .mkList [.prim .mkTup [.lit (.str [115,119,97,112]),.loc 2,.prim .item [.loc 1,.prim .mod [.prim .fdiv [.loc 0,.lit (.int 40)],.lit (.int 5)]]]])] [],
 .iff (.prim .eq [.prim .mod [.loc 0,.lit (.int 8)],.lit (.int 6)]) [.ret (.prim .mkList [.prim .mkTup [.lit (.str [112,117,115,104]),.loc 2]])] [],
 .ret (.prim .mkList [.prim .mkTup [.lit (.str [112,117,108,108]),.prim .item [.loc 1,.lit (.int 6)]],.prim .mkTup [.lit (.str [112,117,116]),.loc 2,.prim .item [.lit (.str [43,45]),.prim .mod [.prim .fdiv [.loc 0,.lit (.int 40)],.lit (.int 2)]],.prim .mkTup [.prim .item [.loc 1,.lit (.int 6)]]],.prim .mkTup [.lit (.str [112,117,115,104]),.prim .item [.loc 1,.lit (.int 6)]]])]⟩
noncomputable def f__law_closed:Fn:=⟨4,10,[.iff (.prim .eq [.prim .item [.loc 0,.lit (.int 0)],.lit (.str [105,102])]) [.assign (.name 4) (.prim .mkTup [.prim .item [.prim .mkList [.lit (.str [61]),.lit (.str [60])],.prim .mod [.prim .item [.loc 0,.lit (.int 4)],.lit (.int 2)]],.prim .item [.loc 3,.lit (.int 5)],.prim .mod [.prim .fdiv [.prim .item [.loc 0,.lit (.int 4)],.lit (.int 2)],.lit (.int 4)]]),
 .assign (.name 5) (.loc 4),
 .iff (.prim .eq [.prim .mod [.prim .fdiv [.prim .item [.loc 0,.lit (.int 4)],.lit (.int 8)],.lit (.int 16)],.lit (.int 0)]) [.assign (.name 5) (.fn "_law_question" [.prim .fdiv [.prim .item [.loc 0,.lit (.int 4)],.lit (.int 128)],.loc 3])] [],
 .ret (.prim .mkList [.prim .mkTup [.lit (.str [105,102]),.loc 4,.prim .item [.loc 0,.lit (.int 2)],.prim .item [.loc 0,.lit (.int 3)],.loc 5]])] [],
 .assign (.name 6) (.prim .add [.prim .add [.lit (.str [114]),.prim .toStr [.loc 1]],.prim .toStr [.loc 2]]),
 .assign (.name 7) (.prim .add [.prim .item [.loc 0,.lit (.int 3)],.prim .mkList [.prim .mkTup [.lit (.str [112,117,116]),.loc 6,.lit (.str [43]),.prim .mkTup [.lit (.int 1)]]]]),
 .assign (.name 8) (.prim .mod [.prim .item [.loc 0,.lit (.int 4)],.lit (.int 4)]),
 .assign (.name 9) (.prim .mkTup [.lit (.str [61]),.loc 6,.lit (.int 0)]),
 .iff (.prim .eq [.prim .mod [.prim .fdiv [.prim .item [.loc 0,.lit (.int 4)],.lit (.int 8)],.lit (.int 16)],.lit (.int 0)]) [.assign (.name 9) (.fn "_law_question" [.prim .fdiv [.prim .item [.loc 0,.lit (.int 4)],.lit (.int 128)],.loc 3])] [],
 .assign (.name 5) (.prim .mkTup [.prim .item [.prim .mkList [.lit (.str [61]),.lit (.str [62,61])],.prim .mod [.prim .fdiv [.prim .item [.loc 0,.lit (.int 4)],.lit (.int 4)],.lit (.int 2)]],.loc 6,.loc 8]),
 .ret (.prim .mkList [.prim .mkTup [.lit (.str [114,111,117,110,100]),.loc 9,.prim .item [.loc 0,.lit (.int 2)],.loc 7,.loc 5],.prim .mkTup [.lit (.str [112,117,116]),.loc 6,.lit (.str [45]),.prim .mkTup [.loc 8]]])]⟩
noncomputable def f__law_close:Fn:=⟨3,5,[.assign (.name 3) (.prim .item [.loc 0,.prim .neg [.lit (.int 1)]]),
 .iff (.prim .eq [.prim .item [.loc 3,.lit (.int 1)],.lit (.int 0)]) [.assign (.item (.loc 3) (.lit (.int 1))) (.lit (.int 1))] [.expr (.bm .pop (.loc 0) []),
 .assign (.name 4) (.prim .item [.loc 0,.prim .neg [.lit (.int 1)]]),
 .expr (.bm .extend (.prim .item [.loc 4,.prim .add [.lit (.int 2),.prim .item [.loc 4,.lit (.int 1)]]]) [.fn "_law_closed" [.loc 3,.loc 1,.prim .len [.loc 0],.loc 2]])]]⟩
noncomputable def f__law_block_rows:Fn:=⟨4,10,[.assign (.name 4) (.prim .mkList [.prim .mkList [.lit (.str []),.lit (.int 0),.prim .mkList [],.prim .mkList [],.lit (.int 0)]]),
 .for [5] (.range [.prim .len [.loc 0]]) [.assign (.name 6) (.fn "_law_mixed" [.prim .item [.loc 0,.loc 5],.loc 5]),
 .assign (.name 7) (.prim .fdiv [.loc 6,.lit (.int 16)]),
 .assign (.name 8) (.prim .item [.loc 4,.prim .neg [.lit (.int 1)]]),
 .iff (.prim .lt [.prim .mod [.loc 6,.lit (.int 16)],.lit (.int 8)]) [.expr (.bm .extend (.prim .item [.loc 8,.prim .add [.lit (.int 2),.prim .item [.loc 8,.lit (.int 1)]]]) [.fn "_law_simple" [.loc 7,.loc 3]])] [.iff (.and (.prim .eq [.prim .mod [.loc 6,.lit (.int 16)],.lit (.int 8)]) (.prim .lt [.prim .add [.loc 1,.lit (.int 1)],.loc 2])) [.assign (.name 9) (.prim .item [.loc 3,.prim .add [.prim .add [.prim .add [.lit (.int 8),.loc 1],.lit (.int 1)],.prim .mod [.loc 7,.prim .sub [.prim .sub [.loc 2,.loc 1],.lit (.int 1)]]]]),
 .expr (.bm .append (.prim .item [.loc 8,.prim .add [.lit (.int 2),.prim .item [.loc 8,.lit (.int 1)]]]) [.prim .mkTup [.prim .item [.prim .mkList [.lit (.str [99,97,108,108]),.lit (.str [117,110,100,111])],.prim .mod [.prim .fdiv [.loc 7,.lit (.int 8)],.lit (.int 2)]],.loc 9]])] [.iff (.and (.prim .lt [.prim .mod [.loc 6,.lit (.int 16)],.lit (.int 13)]) (.prim .lt [.prim .len [.loc 4],.lit (.int 4)])) [.expr (.bm .append (.loc 4) [.prim .mkList [.prim .item [.prim .mkList [.lit (.str [105,102]),.lit (.str [105,102]),.lit (.str [114,111,117,110,100])],.prim .mod [.loc 7,.lit (.int 3)]],.lit (.int 0),.prim .mkList [],.prim .mkList [],.prim .fdiv [.loc 7,.lit (.int 3)]]])] [.iff (.prim .gt [.prim .len [.loc 4],.lit (.int 1)]) [.expr (.fn "_law_close" [.loc 4,.loc 1,.loc 3])] []]]]],
 .while (.prim .gt [.prim .len [.loc 4],.lit (.int 1)]) [.expr (.fn "_law_close" [.loc 4,.loc 1,.loc 3])],
 .ret (.prim .item [.prim .item [.loc 4,.lit (.int 0)],.lit (.int 2)])]⟩
noncomputable def f__law_program:Fn:=⟨3,8,[.assign (.name 3) (.prim .add [.lit (.int 1),.prim .mod [.loc 2,.lit (.int 3)]]),
 .assign (.name 4) (.prim .mkList []),
 .for [5] (.range [.loc 3]) [.expr (.bm .append (.loc 4) [.prim .mkTup [.prim .item [.loc 1,.prim .add [.lit (.int 8),.loc 5]],.fn "_law_block_rows" [.prim .slice [.loc 0,.loc 5,.lit .none,.loc 3],.loc 5,.loc 3,.loc 1]]])],
 .iff (.prim .eq [.prim .mod [.prim .fdiv [.loc 2,.lit (.int 3)],.lit (.int 8)],.lit (.int 5)]) [.assign (.name 6) (.prim .mkTup [.prim .item [.prim .mkList [.lit (.str [99,97,108,108]),.lit (.str [117,110,100,111])],.prim .mod [.prim .fdiv [.loc 2,.lit (.int 72)],.lit (.int 2)]],.prim .item [.loc 1,.prim .add [.lit (.int 8),.prim .mod [.prim .fdiv [.loc 2,.lit (.int 24)],.loc 3]]]]),
 .assign (.name 7) (.prim .mkTup [.lit (.str [62,61]),.prim .item [.loc 1,.lit (.int 5)],.lit (.int 0)]),
 .iff (.prim .gt [.prim .mod [.prim .fdiv [.loc 2,.lit (.int 144)],.lit (.int 3)],.lit (.int 0)]) [.assign (.name 6) (.prim .mkTup [.prim .item [.prim .mkList [.lit (.str [105,102]),.lit (.str [114,111,117,110,100])],.prim .sub [.prim .mod [.prim .fdiv [.loc 2,.lit (.int 144)],.lit (.int 3)],.lit (.int 1)]],.loc 7,.prim .mkList [.loc 6],.prim .mkList [],.loc 7])] [],
 .expr (.bm .append (.prim .item [.prim .item [.loc 4,.prim .neg [.lit (.int 1)]],.lit (.int 1)]) [.loc 6])] [],
 .ret (.loc 4)]⟩
end W2
namespace W2
open U U12 PySem
structure Nms(Z:Hp)(nl:Addr)(ns:List Txt):Prop where
 at':Z nl=some (.list (ns.map .str))
 n8:U8.Nm8 ns
 g:∀ w∈ns,goodB w=true
theorem Nms.le{Z Z':Hp}{nl:Addr}{ns:List Txt}(h:Nms Z nl ns)(l:Le Z Z'):Nms Z' nl ns:=⟨l _ _ h.at',h.n8,h.g⟩
theorem Nms.pick{Z:Hp}{nl:Addr}{ns:List Txt}(h:Nms Z nl ns){i:Int}(h0:0<=i)(h1:i<12):∃ w,itemL (ns.map AV.str) i=some (.str w)/\ns[i.toNat]?=some w/\goodB w=true:=by
 obtain ⟨k,rfl⟩:=Int.eq_ofNat_of_zero_le h0
 have hk:k<ns.length:=by rw [h.n8.len];exact o888 h0 h1
 have e:=itemL_ok (xs:=ns.map AV.str) h0 (by rw [length_map,h.n8.len];exact h1) (by rw [length_map,h.n8.len];decide)
 refine ⟨ns[k],?_,List.getElem?_eq_getElem hk,h.g _ (getElem_mem _)⟩
 rw [e];unfold U.pick
 rw [Int.toNat_natCast,List.getD_eq_getElem?_getD,List.getElem?_map,List.getElem?_eq_getElem hk];rfl
theorem thG_of'{own:Txt}{ns:List Txt}{x:Th}(h:x.ok own (ns.take 5))(hg:∀ w∈ns,goodB w=true):ThG x/\x≠.s own:=by
 cases x with
 | s k=>exact ⟨hg k (mem_of_mem_take h.2),λ e=>h.1 (by cases e;rfl)⟩
 | n i=>exact ⟨h,nofun⟩
theorem totG_of'{own:Txt}{ns:List Txt}{m:Tot}(h:m.ok own (ns.take 5))(hg:∀ w∈ns,goodB w=true):TotG own m:=by
 cases m with
 | one x=>exact thG_of' h hg
 | two s x y=>exact ⟨h.1,thG_of' h.2.1 hg,thG_of' h.2.2 hg⟩
theorem qG_of'{ns:List Txt}{q:Qu}(h:q.ok (ns.take 5))(hg:∀ w∈ns,goodB w=true):QG q:=⟨h.1,(thG_of' h.2.1 hg).1,(thG_of' h.2.2 hg).1⟩
theorem sign_of(j:Int):∃ g,itemL [43,45] (Int.fmod j 2)=some (bif g then 45 else 43):=by
 have p1:=fmod_lo j (b:=2) (by decide)
 have p2:=fmod_hi j (b:=2) (by decide)
 generalize Int.fmod j 2=i at p1 p2 ⊢
 obtain rfl | rfl:i=0\/i=1:=by exact o122 p1 p2
 . exact ⟨false,rfl⟩
 . exact ⟨true,rfl⟩
theorem sg_is(g:Bool):[bif g then 45 else 43]=sgT g:=by cases g <;> rfl
noncomputable def tabS:List (String×Fn):=[("_law_simple",f__law_simple)]
structure New(bns:List Txt)(t:Tl)(h n:Nat):Prop where
 g:t.good bns
 lv:t.lv h
 c:t.cnt<=n
section
variable {K:Kx}(TA:Tab K tabA)(T:Tab K tabS){d:Nat}{Z:Hp}{Q:Post}{X:XPost}{nl:Addr}{ns bns:List Txt}
include TA T
theorem s_simple{N:Addr->Prop}{h:Nat}(hd:2<=d){n:Int}(hn:0<=n)(hN:Nms Z nl ns)
  (hq:∀ a t vs Z',Le Z Z'->Z a=none->Z' a=some (.list vs)->RepT N Z' t vs->New bns t h 3->Q (.ref a) Z'):K.fn false d "_law_simple" [.int n,.ref nl] Z Q X:=by
 have htl:tooLong=1000000:=rfl
 have hd0:d≠0:=by exact o889 hd
 have h1:=hN.at'
 have l5:5<=ns.length:=by rw [hN.n8.len];decide
 have lm:ns.length<1000000:=by rw [hN.n8.len];decide
 (refine ent' T f__law_simple (by walk_at"mm") rfl (by unfold f__law_simple;walk_at"aa";exact rfl) ?_;dsimp only [f__law_simple])
 obtain ⟨own,ho,ho',hog⟩:=hN.pick (i:=Int.fmod (Int.fdiv n 8) 5) (fmod_lo _ (by decide)) (by have:=fmod_hi (Int.fdiv n 8) (b:=5) (by decide);exact o890 this)
 obtain ⟨jw,hj,V,hjg⟩:=hN.pick (i:=Int.fmod (Int.fdiv n 40) 5) (fmod_lo _ (by decide)) (by have:=fmod_hi (Int.fdiv n 40) (b:=5) (by decide);exact o890 this)
 obtain ⟨w6,h6,h6',h6g⟩:=hN.pick (i:=6) (by decide) (by decide)
 have ne6:w6≠own:=λ e=>hN.n8.six w6 h6' (e▸List.mem_iff_getElem?.mpr ⟨(Int.fmod (Int.fdiv n 8) 5).toNat,by
  rw [List.getElem?_take_of_lt ((Int.toNat_lt (fmod_lo (Int.fdiv n 8) (b:=5) (by decide))).mpr (fmod_hi (Int.fdiv n 8) (b:=5) (by decide)))];exact ho'⟩)
 refine seq λ R hR=>?_
 walk_at"ug"
 refine hR _ _ (seq λ R hR=>iffI λ A B hA hB=>?_)
 walk_at"ug"
 refine wifd (λ hz=>hA _ (last ?_)) λ hz=>hB _ (hR _ _ (seq λ R hR=>iffI λ A B hA hB=>?_))
 . obtain ⟨g,hg⟩:=sign_of n
   walk_at"ug"
   refine s_sum TA (by exact o129 hd) _ own h1 l5 lm (fdiv_lo hn (by decide)) λ m u Z1 l1 hu0 hu hm=>?_
   walk_at"ug"
   refine newO λ t Z2 ht l₂ ht₂=>?_
   walk_at"ug"
   refine newO λ c Z3 hc l₃ hc₃=>?_
   rw [sg_is] at ht₂
   exact hq c (.put own g m .nil) [.ref t] Z3 (l1.trans (l₂.trans l₃)) (none_le (l1.trans l₂) hc) hc₃ ⟨t,u,[],rfl,l₃ _ _ ht₂,(l₂.trans l₃) _ _ hu,rfl⟩ ⟨⟨⟨hog,totG_of' hm hN.g⟩,trivial⟩,trivial,by show 1<=3;decide⟩
 walk_at"ug"
 refine wifd (λ hz=>hA _ (last ?_)) λ hz=>hB _ (hR _ _ (seq λ R hR=>iffI λ A B hA hB=>?_))
 . walk_at"ug"
   refine newO λ t Z2 ht l₂ ht₂=>?_
   walk_at"ug"
   refine newO λ c Z3 hc l₃ hc₃=>?_
   exact hq c (.swap own jw .nil) [.ref t] Z3 (l₂.trans l₃) (none_le l₂ hc) hc₃ ⟨t,[],rfl,l₃ _ _ ht₂,rfl⟩ ⟨⟨⟨hog,hjg⟩,trivial⟩,trivial,by show 1<=3;decide⟩
 walk_at"ug"
 refine wif (λ hz=>hA _ (last ?_)) λ hz=>hB _ (hR _ _ (last ?_))
 . walk_at"ug"
   refine newO λ t Z2 ht l₂ ht₂=>?_
   walk_at"ug"
   refine newO λ c Z3 hc l₃ hc₃=>?_
   exact hq c (.two pushT own .nil) [.ref t] Z3 (l₂.trans l₃) (none_le l₂ hc) hc₃ ⟨t,[],rfl,l₃ _ _ ht₂,rfl⟩ ⟨⟨⟨.head _,hog,λ q=>by rcases q with q | q <;> cases q⟩,trivial⟩,⟨.head _,trivial⟩,by show 1<=3;decide⟩
 obtain ⟨g,hg⟩:=sign_of (Int.fdiv n 40)
 walk_at"ug"
 refine newO λ t1 Z1 ht1 l1 h1'=>?_
 have h1₁:=l1 _ _ h1
 walk_at"ug"
 refine newO λ u Z2 hu0 l₂ hu=>?_
 walk_at"ug"
 refine newO λ t2 Z3 ht2 l₃ h2'=>?_
 have h13:=(l₂.trans l₃) _ _ h1₁
 walk_at"ug"
 refine newO λ t3 Z4 ht3 l4 h3'=>?_
 walk_at"ug"
 refine newO λ c Z5 hc l₅ hc5=>?_
 rw [sg_is] at h2'
 have m3:=l4.trans l₅
 have m2:=l₃.trans m3
 have L4:=l1.trans (l₂.trans (l₃.trans l4))
 exact hq c (.two [112,117,108,108] w6 (.put own g (.one (.s w6)) (.two pushT w6 .nil))) [.ref t1,.ref t2,.ref t3] Z5 (L4.trans l₅) (none_le L4 hc) hc5
  ⟨t1,_,rfl,(l₂.trans m2) _ _ h1',t2,u,_,rfl,m3 _ _ h2',m2 _ _ hu,t3,_,rfl,l₅ _ _ h3',rfl⟩
  ⟨⟨⟨by decide,h6g,λ q=>by rcases q with q | q <;> cases q⟩,⟨hog,h6g,λ e=>ne6 (by cases e;rfl)⟩,⟨.head _,h6g,λ q=>by rcases q with q | q <;> cases q⟩,trivial⟩,⟨by decide,.head _,trivial⟩,Nat.le_refl 3⟩
end
end W2
namespace W2
open U U12 PySem
noncomputable def cntN(b l:Nat):Txt:=114::figs (b:Int)++figs (l:Int)
theorem cntN_ok:∀ b<3,∀ l<4,goodB (cntN b l)=true/\(figs (b:Int)).length=1/\(figs (l:Int)).length=1:=by decide
theorem two_of{a b:Txt}(j:Int)(ha:a∈signs4)(hb:b∈signs4):∃ s,itemL [AV.str a,.str b] (Int.fmod j 2)=some (.str s)/\s∈signs4:=by
 have p1:=fmod_lo j (b:=2) (by decide)
 have p2:=fmod_hi j (b:=2) (by decide)
 generalize Int.fmod j 2=i at p1 p2 ⊢
 obtain rfl | rfl:i=0\/i=1:=by exact o122 p1 p2
 . exact ⟨a,rfl,ha⟩
 . exact ⟨b,rfl,hb⟩
noncomputable def tabZ:List (String×Fn):=[("_law_closed",f__law_closed),("_law_close",f__law_close),("_law_block_rows",f__law_block_rows),("_law_program",f__law_program)]
section
variable {K:Kx}(TA:Tab K tabA)(T:Tab K tabZ){d:Nat}{Z:Hp}{Q:Post}{X:XPost}{nl:Addr}{ns bns:List Txt}
include TA T
theorem s_closed{N:Addr->Prop}{h n2 n3:Nat}(hd:2<=d){f l2 l3:Addr}{kd:Txt}{pos num:Int}{lv bk:Nat}{v2 v3:List AV}{t2 t3:Tl}(hN:Nms Z nl ns)(hb:bk<3)(hlv:lv<4)(hnum:0<=num)
  (hf:Z f=some (.list [.str kd,.int pos,.ref l2,.ref l3,.int num])) (h2:N l2/\Z l2=some (.list v2)) (h3:N l3/\Z l3=some (.list v3)) (r2:RepT N Z t2 v2) (r3:RepT N Z t3 v3) (o2:New bns t2 h n2) (o3:New bns t3 h n3) (hz:n3<10000) (hF:∀ x,Z x=none->N x)
  (hq:∀ c vc t Z',Le Z Z'->Z c=none->Z' c=some (.list vc)->RepT N Z' t vc->New bns t (h+1) (n2+n3+3)->t.len<=2->Q (.ref c) Z'):K.fn false d "_law_closed" [.ref f,.int (bk:Int),.int (lv:Int),.ref nl] Z Q X:=by
 have htl:tooLong=1000000:=rfl
 have hd0:d≠0:=by exact o889 hd
 have h1:=hN.at'
 have l5:5<=ns.length:=by rw [hN.n8.len];decide
 have lm:ns.length<1000000:=by rw [hN.n8.len];decide
 have n0:∀ {x} {Z':Hp},Le Z Z'->Z' x=none->N x:=λ l e=>hF _ (none_le l e)
 have c2:=o2.c
 have c3:=o3.c
 (refine ent' T f__law_closed (by walk_at"mm") rfl (by unfold f__law_closed;walk_at"aa";exact rfl) ?_;dsimp only [f__law_closed])
 refine seq λ R hR=>iffI λ A B hA hB=>?_
 walk_at"ug"
 refine wif (λ hk=>hA _ (seq λ R hR=>?_)) λ hk=>hB _ (hR _ _ (seq λ R hR=>?_))
 . obtain ⟨w5,h5,V,h5g⟩:=hN.pick (i:=5) (by decide) (by decide)
   obtain ⟨s0,hs0,hs0g⟩:=two_of (a:=[61]) (b:=[60]) num (by decide) (by decide)
   walk_at"ug"
   refine newO λ z Z1 V l1 hz1=>?_
   have hf1:=l1 _ _ hf
   have h1₁:=l1 _ _ h1
   walk_at"ug"
   refine newO λ u Z2 hu0 l₂ hu=>hR _ _ (seq λ R hR=>?_)
   walk_at"ug"
   refine hR _ _ (seq λ R hR=>iffI λ A B hA hB=>?_)
   have L2:=l1.trans l₂
   have q0:QG ⟨s0,.s w5,.n (Int.fmod (Int.fdiv num 2) 4)⟩:=⟨hs0g,h5g,sm_mod _ (by decide) (by decide)⟩
   have fin:∀ (u':Addr) (q':Qu) (Z3:Hp),Le Z2 Z3->Z3 u'=some (.tup q'.avs)->QG q'->R [some (.ref f),some (.int (bk:Int)),some (.int (lv:Int)),some (.ref nl),some (.ref u),some (.ref u'),none,none,none,none] Z3:=by
    intro u' q' Z3 l₃ hu' hq'
    have hf3:=(L2.trans l₃) _ _ hf
    refine hR _ _ (last ?_)
    walk_at"ug"
    refine newO λ t Z4 ht l4 ht₄=>?_
    walk_at"ug"
    refine newO λ c Z5 hc l₅ hc5=>?_
    have L4:=L2.trans (l₃.trans l4)
    have L5:=L4.trans l₅
    exact hq c [.ref t] (.br false ⟨s0,.s w5,.n (Int.fmod (Int.fdiv num 2) 4)⟩ t2 t3 q' .nil) Z5 L5 (none_le L4 hc) hc5 ⟨t,u,u',l2,l3,v2,v3,[],rfl,l₅ _ _ ht₄,(l₃.trans (l4.trans l₅)) _ _ hu,(l4.trans l₅) _ _ hu',⟨h2.1,L5 _ _ h2.2⟩,r2.le L5,⟨h3.1,L5 _ _ h3.2⟩,r3.le L5,rfl⟩
     ⟨⟨⟨q0,hq',o2.g,o3.g⟩,trivial⟩,⟨⟨h,rfl,o2.lv,o3.lv⟩,trivial⟩,by simp only [Tl.cnt];exact qli [_,_,_,_] (.i 0 1 Y0 Y2 (.i 0 1 Y1 Y3 (.g 0 (.a (.a (.a X1 Y0) Y1) X0) (.a (.a Y2 Y3) (.n 3))))) rfl c2 c3⟩ (by show 1<=2;decide)
   have hf2:=L2 _ _ hf
   walk_at"ug"
   refine wif (λ hk=>hA _ (last ?_)) λ hk=>hB _ (fin u ⟨s0,.s w5,.n (Int.fmod (Int.fdiv num 2) 4)⟩ Z2 (Le.refl _) hu q0)
   walk_at"ug"
   refine s_question TA (by exact o129 hd) _ (L2 _ _ h1) l5 lm (fdiv_lo hnum (by decide)) λ q u' Z3 l₃ V hu' hqo=>?_
   exact fin u' q Z3 l₃ hu' (qG_of' hqo hN.g)
 . obtain ⟨gc,e1,e2⟩:=cntN_ok bk hb lv hlv
   have nb:(bk:Int).natAbs<10 ^ 9:=by exact o892 hb
   have nl':(lv:Int).natAbs<10 ^ 9:=by exact o893 hlv
   have hv3:=r3.len
   have hv3c:=cnt_len t3
   have hgo383:=o383 htl e1
   have hgo384:=o384 htl e1 e2
   walk_at"ug"
   refine hR _ _ ?_
   show pSs K false d _ [some (.ref f),some (.int (bk:Int)),some (.int (lv:Int)),some (.ref nl),none,none,some (.str (cntN bk lv)),none,none,none] Z _ _ _
   generalize cntN bk lv=cn at gc
   refine seq λ R hR=>?_
   have h3₀:=h3.2
   walk_at"ug"
   refine newO λ u1 Z1 hu1 l1 hu1'=>?_
   walk_at"ug"
   refine newO λ t1 Z2 ht1 l₂ ht1'=>?_
   walk_at"ug"
   refine newO λ p1 Z3 hp1 l₃ hp1'=>?_
   have L3:=l1.trans (l₂.trans l₃)
   have h33:=L3 _ _ h3₀
   have hlen:v3.length+1<tooLong:=by exact qli [_,_,_,_,_] (.i 1 1 Y2 (.n 10000) (.i 5 1 Y1 (.n 1000000) (.i 0 1 Y3 Y2 (.i 2 1 Y0 Y4 (.i 0 1 Y4 Y3 (.h 0 (.a Y0 X1) Y1)))))) rfl hz htl c3 hv3 hv3c
   walk_at"ug"
   refine newO λ b1 Z4 hb1 l4 hb1'=>hR _ _ (seq λ R hR=>?_)
   have L4:=L3.trans l4
   have hf4:=L4 _ _ hf
   walk_at"ug"
   refine hR _ _ (seq λ R hR=>?_)
   walk_at"ug"
   refine newO λ u2 Z5 hu2 l₅ hu2'=>hR _ _ (seq λ R hR=>iffI λ A B hA hB=>?_)
   have L5:=L4.trans l₅
   have hf5:=L5 _ _ hf
   have smj:sm (Int.fmod num 4):=sm_mod _ (by decide) (by decide)
   have hsm0:sm 0:=⟨by decide,by decide⟩
   have hsm1:sm 1:=⟨by decide,by decide⟩
   obtain ⟨s1,hs1,hs1g⟩:=two_of (a:=[61]) (b:=[62,61]) (Int.fdiv num 4) (by decide) (by decide)
   have fin:∀ (u':Addr) (q':Qu) (Z6:Hp),Le Z5 Z6->Z6 u'=some (.tup q'.avs)->QG q'->R [some (.ref f),some (.int (bk:Int)),some (.int (lv:Int)),some (.ref nl),none,none,some (.str cn),some (.ref b1),some (.int (Int.fmod num 4)),some (.ref u')] Z6:=by
    intro u' q' Z6 l6 hu' hq'
    have L6:=L5.trans l6
    have hf6:=L6 _ _ hf
    refine hR _ _ (seq λ R hR=>?_)
    walk_at"ug"
    refine newO λ z Z7 V l7 hz7=>?_
    have hf7:=l7 _ _ hf6
    walk_at"ug"
    refine newO λ u3 Z8 hu3 l₈ hu3'=>hR _ _ (last ?_)
    have hf8:=l₈ _ _ hf7
    walk_at"ug"
    refine newO λ t4 Z9 ht4 l9 ht4'=>?_
    walk_at"ug"
    refine newO λ u5 Z10 hu5 l10 hu5'=>?_
    walk_at"ug"
    refine newO λ t5 Z11 ht5 l11 ht5'=>?_
    walk_at"ug"
    refine newO λ c Z12 hc l12 hc'=>?_
    have w11:=l12
    have w10:=l11.trans w11
    have w9:=l10.trans w10
    have w8:=l9.trans w9
    have w6:=l7.trans (l₈.trans w8)
    have w5:=l6.trans w6
    have w4:=l₅.trans w5
    have w2:=l₃.trans (l4.trans w4)
    have w1:=l₂.trans w2
    have L12:=l1.trans w1
    have L11:Le Z Z11:=L6.trans (l7.trans (l₈.trans (l9.trans (l10.trans l11))))
    have rb:RepT N Z12 (t3.app (.put cn false (.one (.n 1)) .nil)) (v3++[.ref t1]):=RepT.app (s:=.put cn false (.one (.n 1)) .nil) ⟨t1,u1,[],rfl,w2 _ _ ht1',w1 _ _ hu1',rfl⟩ (r3.le L12)
    refine hq c [.ref t4,.ref t5] (.br true q' t2 (t3.app (.put cn false (.one (.n 1)) .nil)) ⟨s1,.s cn,.n (Int.fmod num 4)⟩ (.put cn true (.one (.n (Int.fmod num 4))) .nil)) Z12 L12 (none_le L11 hc) hc'
     ⟨t4,u',u3,l2,b1,v2,v3++[.ref t1],[.ref t5],rfl,w9 _ _ ht4',w6 _ _ hu',w8 _ _ hu3',⟨h2.1,L12 _ _ h2.2⟩,r2.le L12,⟨n0 L3 hb1,w4 _ _ hb1'⟩,rb,t5,u5,[],rfl,w11 _ _ ht5',w10 _ _ hu5',rfl⟩ ?_ (by show 2<=2;decide)
    refine ⟨⟨⟨hq',⟨hs1g,gc,smj⟩,o2.g,Tl.app_good (s:=.put cn false (.one (.n 1)) .nil) ⟨⟨gc,hsm1,nofun⟩,trivial⟩ _ o3.g⟩,⟨gc,smj,nofun⟩,trivial⟩,⟨⟨h,rfl,o2.lv,Tl.app_lv (s:=.put cn false (.one (.n 1)) .nil) trivial _ o3.lv⟩,trivial⟩,?_⟩
    simp only [Tl.cnt,Tl.app_cnt];exact qli [_,_,_,_] (.i 0 1 Y0 Y2 (.i 0 1 Y1 Y3 (.g 0 (.a (.a (.a X1 Y0) (.a Y1 (.a X1 X0))) (.a X1 X0)) (.a (.a Y2 Y3) (.n 3))))) rfl c2 c3
   walk_at"ug"
   refine wif (λ hk=>hA _ (last ?_)) λ hk=>hB _ (fin u2 ⟨[61],.s cn,.n 0⟩ Z5 (Le.refl _) hu2' ⟨by show [61]∈signs4;decide,gc,hsm0⟩)
   walk_at"ug"
   refine s_question TA (by exact o129 hd) _ (L5 _ _ h1) l5 lm (fdiv_lo hnum (by decide)) λ q u' Z6 l6 V hu' hqo=>?_
   exact fin u' q Z6 l6 hu' (qG_of' hqo hN.g)
end
end W2
namespace W2
open U U12 PySem
set_option genSizeOf false
set_option genInjectivity false
structure Fm where
 f:Addr
 l2:Addr
 l3:Addr
 kd:Txt
 pos:Nat
 num:Int
 t2:Tl
 t3:Tl
noncomputable def Fm.own(x:Fm):List Addr:=[x.f,x.l2,x.l3]
noncomputable def owns(fl:Addr)(st:List Fm):List Addr:=fl::st.flatMap Fm.own
structure FmAt(bns:List Txt)(N:Addr->Prop)(Z:Hp)(h:Nat)(x:Fm):Prop where
 fr:Z x.f=some (.list [.str x.kd,.int x.pos,.ref x.l2,.ref x.l3,.int x.num])
 r2:∃ v,Z x.l2=some (.list v)/\RepT N Z x.t2 v
 r3:∃ v,Z x.l3=some (.list v)/\RepT N Z x.t3 v
 o2:New bns x.t2 h x.t2.cnt
 o3:New bns x.t3 h x.t3.cnt
 n:0<=x.num
 p:x.pos=0\/x.pos=1
noncomputable def Stk(bns:List Txt)(N:Addr->Prop)(Z:Hp):List Fm->Prop
 | []=>True
 | x::r=>FmAt bns N Z (3-r.length) x/\Stk bns N Z r
section
variable {bns:List Txt}
theorem FmAt.keep{N N':Addr->Prop}{Z Z':Hp}{h:Nat}{x:Fm}(A:FmAt bns N Z h x)(hk:∀ a∈x.own,∀ o,Z a=some o->Z' a=some o)(ht:KtT Z Z')(hl:KlL N N' Z Z'):FmAt bns N' Z' h x:=
 ⟨hk _ (.head _) _ A.fr,let ⟨v,h1,h2⟩:=A.r2;⟨v,hk _ (.tail _ (.head _)) _ h1,h2.mono ht hl⟩,let ⟨v,h1,h2⟩:=A.r3;⟨v,hk _ (.tail _ (.tail _ (.head _))) _ h1,h2.mono ht hl⟩,A.o2,A.o3,A.n,A.p⟩
theorem Stk.keep{N N':Addr->Prop}{Z Z':Hp}:∀ {st:List Fm},Stk bns N Z st->(∀ a∈st.flatMap Fm.own,∀ o,Z a=some o->Z' a=some o)->KtT Z Z'->KlL N N' Z Z'->Stk bns N' Z' st
 | [],_,_,_,_=>trivial
 | x::r,⟨h1,h2⟩,hk,ht,hl=>⟨h1.keep (λ a ha=>hk a (by rw [flatMap_cons];exact mem_append_left _ ha)) ht hl,h2.keep (λ a ha=>hk a (by rw [flatMap_cons];exact mem_append_right _ ha)) ht hl⟩
theorem ktT_set{Z Z':Hp}{a:Addr}{v:List AV}(h:Z a=some (.list v))(k:∀ b,b≠a->Z' b=Z b):KtT Z Z':=λ y vs e=>by rw [k y (λ q=>by rw [q,h] at e;cases e)];exact e
theorem ktT_le{Z Z':Hp}(l:Le Z Z'):KtT Z Z':=λ V V e=>l _ _ e
theorem ktT_trans{Z Z' Z'':Hp}(h:KtT Z Z')(h':KtT Z' Z''):KtT Z Z'':=λ V V e=>h' _ _ (h _ _ e)
theorem New.app{t s:Tl}{h:Nat}(ht:New bns t h t.cnt)(hs:New bns s h s.cnt):New bns (t.app s) h (t.app s).cnt:=⟨Tl.app_good hs.g _ ht.g,Tl.app_lv hs.lv _ ht.lv,Nat.le_refl _⟩
noncomputable def tot:List Fm->Nat
 | []=>0
 | x::r=>x.t2.cnt+x.t3.cnt+tot r
noncomputable def meas:List Fm->Nat
 | []=>0
 | x::r=>(2-x.pos)+meas r
noncomputable def Out(Z0:Hp)(fl:Addr)(st:List Fm)(y:Addr):Prop:=Z0 y=none/\y∉owns fl st
structure Bld(bns:List Txt)(Z0 Z:Hp)(fl:Addr)(st:List Fm):Prop where
 lst:Z fl=some (.list ((st.map λ x=>AV.ref x.f).reverse))
 nd:(owns fl st).Nodup
 stk:Stk bns (Out Z0 fl st) Z st
 new:∀ a∈owns fl st,Z0 a=none
 le:Le Z0 Z
theorem own_off{fl:Addr}{x:Fm}{r:List Fm}(h:(owns fl (x::r)).Nodup):fl∉x.own/\fl∉r.flatMap Fm.own/\x.f≠x.l2/\x.f≠x.l3/\x.l2≠x.l3/\(∀ a∈x.own,a∉r.flatMap Fm.own)/\(owns fl r).Nodup:=by
 unfold owns at h
 rw [flatMap_cons,nodup_cons,nodup_append,mem_append] at h
 obtain ⟨h1,h2,h3,h4⟩:=h
 have h5:=h2
 unfold Fm.own at h5
 rw [nodup_cons,nodup_cons] at h5
 refine ⟨λ q=>h1 (.inl q),λ q=>h1 (.inr q),λ q=>h5.1 (by rw [q];exact .head _),λ q=>h5.1 (by rw [q];exact .tail _ (.head _)),λ q=>h5.2.1 (by rw [q];exact .head _),λ a ha hb=>h4 a ha a hb rfl,nodup_cons.mpr ⟨λ q=>h1 (.inr q),h3⟩⟩
theorem Stk.alloc{N:Addr->Prop}{Z:Hp}:∀ {st:List Fm},Stk bns N Z st->∀ a∈st.flatMap Fm.own,∃ o,Z a=some o
 | [],_,_,h=>nomatch h
 | x::r,⟨A,S⟩,a,h=>by
  rw [flatMap_cons] at h
  rcases mem_append.mp h with h | h
  . unfold Fm.own at h
    simp only [mem_cons,not_mem_nil,or_false] at h
    rcases h with rfl | rfl | rfl
    . exact ⟨_,A.fr⟩
    . obtain ⟨v,h,V⟩:=A.r2;exact ⟨_,h⟩
    . obtain ⟨v,h,V⟩:=A.r3;exact ⟨_,h⟩
  . exact S.alloc a h
theorem Bld.alloc{Z0 Z:Hp}{fl:Addr}{st:List Fm}(B:Bld bns Z0 Z fl st):∀ a,Z a=none->a∉owns fl st:=λ a e h=>by
 rcases mem_cons.mp h with rfl | h
 . rw [B.lst] at e;cases e
 . obtain ⟨o,ho⟩:=B.stk.alloc a h;rw [ho] at e;cases e
theorem Bld.ext2{Z0 Z1 Z2 Z3:Hp}{fl:Addr}{w:Fm}{r:List Fm}{v vc:List AV}{tr:Tl}(B:Bld bns Z0 Z1 fl (w::r))(l₂:Le Z1 Z2)(hv:Z1 w.l2=some (.list v))(rv:RepT (Out Z0 fl (w::r)) Z1 w.t2 v)(rt:RepT (Out Z0 fl (w::r)) Z2 tr vc)(ot:New bns tr (3-r.length) tr.cnt)
  (h₃:Z3 w.l2=some (.list (v++vc))) (k₃:∀ b,b≠w.l2->Z3 b=Z2 b):Bld bns Z0 Z3 fl ({ w with t2:=w.t2.app tr }::r):=by
 obtain ⟨m1,m2,m3,m4,m5,m6,nd''⟩:=own_off B.nd
 obtain ⟨Aw,Ar⟩:=B.stk
 have lin:w.l2∈owns fl (w::r):=.tail _ (by rw [flatMap_cons];exact mem_append_left _ (.tail _ (.head _)))
 have T2:KtT Z2 Z3:=ktT_set (l₂ _ _ hv) k₃
 have G2:KlL (Out Z0 fl (w::r)) (Out Z0 fl (w::r)) Z2 Z3:=λ y vs n e=>⟨n,by rw [k₃ _ (λ q=>n.2 (by rw [q];exact lin))];exact e⟩
 have T1:KtT Z1 Z3:=ktT_trans (ktT_le l₂) T2
 have G1:KlL (Out Z0 fl (w::r)) (Out Z0 fl (w::r)) Z1 Z3:=λ y vs n e=>G2 y vs n (l₂ _ _ e)
 refine ⟨?_,B.nd,⟨⟨by rw [k₃ _ m3];exact l₂ _ _ Aw.fr,⟨_,h₃,RepT.app (rt.mono T2 G2) (rv.mono T1 G1)⟩,(let ⟨u,u1,u2⟩:=Aw.r3;⟨u,by rw [k₃ _ (Ne.symm m5)];exact l₂ _ _ u1,u2.mono T1 G1⟩),Aw.o2.app ot,Aw.o3,Aw.n,Aw.p⟩,Ar.keep (λ a ha o e=>by rw [k₃ _ (λ q=>m6 _ (.tail _ (.head _)) (q▸ha))];exact l₂ _ _ e) T1 G1⟩,B.new,λ y o e=>by rw [k₃ _ (λ q=>by rw [q,B.new _ lin] at e;cases e)];exact l₂ _ _ (B.le _ _ e)⟩
 rw [k₃ _ (λ q=>m1 (by rw [q];exact .tail _ (.head _)))]
 exact l₂ _ _ B.lst
theorem Bld.ext3{Z0 Z1 Z2 Z3:Hp}{fl:Addr}{w:Fm}{r:List Fm}{v vc:List AV}{tr:Tl}(B:Bld bns Z0 Z1 fl (w::r))(l₂:Le Z1 Z2)(hv:Z1 w.l3=some (.list v))(rv:RepT (Out Z0 fl (w::r)) Z1 w.t3 v)(rt:RepT (Out Z0 fl (w::r)) Z2 tr vc)(ot:New bns tr (3-r.length) tr.cnt)
  (h₃:Z3 w.l3=some (.list (v++vc))) (k₃:∀ b,b≠w.l3->Z3 b=Z2 b):Bld bns Z0 Z3 fl ({ w with t3:=w.t3.app tr }::r):=by
 obtain ⟨m1,m2,m3,m4,m5,m6,nd''⟩:=own_off B.nd
 obtain ⟨Aw,Ar⟩:=B.stk
 have lin:w.l3∈owns fl (w::r):=.tail _ (by rw [flatMap_cons];exact mem_append_left _ (.tail _ (.tail _ (.head _))))
 have T2:KtT Z2 Z3:=ktT_set (l₂ _ _ hv) k₃
 have G2:KlL (Out Z0 fl (w::r)) (Out Z0 fl (w::r)) Z2 Z3:=λ y vs n e=>⟨n,by rw [k₃ _ (λ q=>n.2 (by rw [q];exact lin))];exact e⟩
 have T1:KtT Z1 Z3:=ktT_trans (ktT_le l₂) T2
 have G1:KlL (Out Z0 fl (w::r)) (Out Z0 fl (w::r)) Z1 Z3:=λ y vs n e=>G2 y vs n (l₂ _ _ e)
 refine ⟨?_,B.nd,⟨⟨by rw [k₃ _ m4];exact l₂ _ _ Aw.fr,(let ⟨u,u1,u2⟩:=Aw.r2;⟨u,by rw [k₃ _ m5];exact l₂ _ _ u1,u2.mono T1 G1⟩),⟨_,h₃,RepT.app (rt.mono T2 G2) (rv.mono T1 G1)⟩,Aw.o2,Aw.o3.app ot,Aw.n,Aw.p⟩,Ar.keep (λ a ha o e=>by rw [k₃ _ (λ q=>m6 _ (.tail _ (.tail _ (.head _))) (q▸ha))];exact l₂ _ _ e) T1 G1⟩,B.new,λ y o e=>by rw [k₃ _ (λ q=>by rw [q,B.new _ lin] at e;cases e)];exact l₂ _ _ (B.le _ _ e)⟩
 rw [k₃ _ (λ q=>m1 (by rw [q];exact .tail _ (.tail _ (.head _))))]
 exact l₂ _ _ B.lst
inductive Top(bns:List Txt)(Z0 Z1:Hp)(fl:Addr)(w:Fm)(r:List Fm):Prop
 | mk (la:Addr) (v:List AV) (ix:itemL [AV.str w.kd,.int (w.pos:Int),.ref w.l2,.ref w.l3,.int w.num] (2+(w.pos:Int))=some (.ref la)) (h:Z1 la=some (.list v)) (len:v.length<=w.t2.cnt+w.t3.cnt)
   (ext:∀ {Z2 Z3:Hp} {vc:List AV} {tr:Tl},Le Z1 Z2->RepT (Out Z0 fl (w::r)) Z2 tr vc->New bns tr (3-r.length) tr.cnt->Z3 la=some (.list (v++vc))->(∀ b,b≠la->Z3 b=Z2 b)->∃ w':Fm,Bld bns Z0 Z3 fl (w'::r)/\w'.t2.cnt+w'.t3.cnt=w.t2.cnt+w.t3.cnt+tr.cnt/\w'.pos=w.pos)
theorem Bld.top{Z0 Z1:Hp}{fl:Addr}{w:Fm}{r:List Fm}(B:Bld bns Z0 Z1 fl (w::r)):Top bns Z0 Z1 fl w r:=by
 have A:=B.stk.1
 rcases A.p with hp | hp
 . obtain ⟨v,hv,rv⟩:=A.r2
   exact ⟨w.l2,v,by rw [hp];exact itemL_2,hv,Nat.le_trans (rv.len▸cnt_len _) (Nat.le_add_right _ _),λ l₂ rt ot h₃ k₃=>⟨_,B.ext2 l₂ hv rv rt ot h₃ k₃,by show (w.t2.app _).cnt+w.t3.cnt=_;rw [Tl.app_cnt,Nat.add_right_comm],rfl⟩⟩
 . obtain ⟨v,hv,rv⟩:=A.r3
   exact ⟨w.l3,v,by rw [hp];exact itemL_3,hv,Nat.le_trans (rv.len▸cnt_len _) (Nat.le_add_left _ _),λ l₂ rt ot h₃ k₃=>⟨_,B.ext3 l₂ hv rv rt ot h₃ k₃,by show w.t2.cnt+(w.t3.app _).cnt=_;rw [Tl.app_cnt,Nat.add_assoc],rfl⟩⟩
end
section
variable {K:Kx}(TA:Tab K tabA)(T:Tab K tabZ){d:Nat}{Z0 Z:Hp}{Q:Post}{X:XPost}{nl fl:Addr}{ns bns:List Txt}
include TA T
theorem s_close(hd:2<d){x w:Fm}{r:List Fm}{bk:Nat}(B:Bld bns Z0 Z fl (x::w::r))(hr3:r.length<=2)(hN:Nms Z0 nl ns)(hb:bk<3)(hz:tot (x::w::r)<9000)
  (hq:∀ st Z',Bld bns Z0 Z' fl st->1<=st.length->st.length<=r.length+2->tot st<=tot (x::w::r)+3->meas st+1<=meas (x::w::r)->Q .none Z'):K.fn false d "_law_close" [.ref fl,.int (bk:Int),.ref nl] Z Q X:=by
 have htl:tooLong=1000000:=rfl
 have hl:=B.lst
 obtain ⟨Ax,Aw,Ar⟩:=B.stk
 have hfx:=Ax.fr
 obtain ⟨n1,n2,n3,n4,n5,n6,nd'⟩:=own_off B.nd
 obtain ⟨m1,m2,m3,m4,m5,m6,nd''⟩:=own_off nd'
 rw [map_cons,reverse_cons] at hl
 (refine ent' T f__law_close (by walk_at"mm") rfl (by unfold f__law_close;walk_at"aa";exact rfl) ?_;dsimp only [f__law_close])
 refine seq λ R hR=>?_
 walk_at"ug"
 refine okP itemL_last (hR _ _ (last (iffI λ A B' hA hB=>?_)))
 walk_at"ug"
 refine wif (λ hk=>?_) λ hk=>?_
 . have hp:x.pos=0:=by simpa using hk
   refine hA _ (last ?_)
   walk_at"ug"
   refine okP (v:=1) rfl (setO λ Z1 h₁ k₁=>?_)
   have fin:x.f∈owns fl (x::w::r):=.tail _ (by rw [flatMap_cons];exact mem_append_left _ (.head _))
   have T1:KtT Z Z1:=ktT_set hfx k₁
   have G1:KlL (Out Z0 fl (x::w::r)) (Out Z0 fl (x::w::r)) Z Z1:=λ y vs n e=>⟨n,by rw [k₁ _ (λ q=>n.2 (by rw [q];exact fin))];exact e⟩
   refine hq ({ x with pos:=1 }::w::r) Z1 ⟨?_,B.nd,⟨⟨h₁,(let ⟨u,u1,u2⟩:=Ax.r2;⟨u,by rw [k₁ _ (Ne.symm n3)];exact u1,u2.mono T1 G1⟩),(let ⟨u,u1,u2⟩:=Ax.r3;⟨u,by rw [k₁ _ (Ne.symm n4)];exact u1,u2.mono T1 G1⟩),Ax.o2,Ax.o3,Ax.n,.inr rfl⟩,Stk.keep (st:=w::r) ⟨Aw,Ar⟩ (λ a ha o e=>by rw [k₁ _ (λ q=>n6 _ (.head _) (q▸ha))];exact e) T1 G1⟩,B.new,λ y o e=>by rw [k₁ _ (λ q=>by rw [q,B.new _ fin] at e;cases e)];exact B.le _ _ e⟩ (Nat.le_add_left _ _) (Nat.le_refl _) (by simp only [tot];exact qli [_,_,_,_,_] (.g 0 (.a (.a Y0 Y1) (.a (.a Y2 Y3) Y4)) (.a (.a (.a Y0 Y1) (.a (.a Y2 Y3) Y4)) (.n 3))) rfl) (by simp only [meas];exact o570 hp)
   rw [k₁ _ (λ q=>n1 (by rw [q];exact .head _))]
   exact B.lst
 . refine hB _ (seq λ R hR=>?_)
   walk_at"ug"
   refine okP (v:=.ref x.f) (by simp) ?_
   refine ⟨by simp only [length_append,length_reverse,length_cons,length_map,length_nil];exact qli [_,_] (.i 0 1 Y0 (.n 2) (.i 5 1 Y1 (.n 1000000) (.h 0 (.a (.a Y0 X1) (.a X0 X1)) Y1))) rfl hr3 htl,setO λ Z1 h₁ k₁=>hR _ _ (seq λ R hR=>?_)⟩
   rw [List.dropLast_concat,reverse_cons] at h₁
   walk_at"ug"
   refine okP itemL_last (hR _ _ (last ?_))
   have xin:∀ {a},a∈x.own->a≠fl/\a∉owns fl (w::r):=λ {a} h=>⟨λ q=>n1 (q▸h),λ q=>by
    rcases mem_cons.mp q with q | q
    . exact n1 (q▸h)
    . exact n6 _ h q⟩
   have T1:KtT Z Z1:=ktT_set B.lst k₁
   have G1:KlL (Out Z0 fl (x::w::r)) (Out Z0 fl (w::r)) Z Z1:=λ y vs n e=>⟨⟨n.1,λ q=>n.2 (by
    rcases mem_cons.mp q with q | q
    . rw [q];exact .head _
    . unfold owns;rw [flatMap_cons];exact .tail _ (mem_append_right _ q))⟩,by rw [k₁ _ (λ q=>n.2 (by rw [q];exact .head _))];exact e⟩
   have hfx1:=(k₁ _ (xin (.head _)).1).trans hfx
   obtain ⟨v2,e2,q2⟩:=Ax.r2
   obtain ⟨v3,e3,q3⟩:=Ax.r3
   have x2:=(xin (a:=x.l2) (.tail _ (.head _)))
   have x3:=(xin (a:=x.l3) (.tail _ (.tail _ (.head _))))
   replace e2:=(k₁ _ x2.1).trans e2
   replace e3:=(k₁ _ x3.1).trans e3
   have l1:Le Z0 Z1:=λ y o e=>by rw [k₁ _ (λ q=>by rw [q,B.new _ (.head _)] at e;cases e)];exact B.le _ _ e
   have S₁:Stk bns (Out Z0 fl (w::r)) Z1 (w::r):=Stk.keep ⟨Aw,Ar⟩ (λ a ha o e=>by rw [k₁ _ (λ q=>n2 (q▸ha))];exact e) T1 G1
   have B1:Bld bns Z0 Z1 fl (w::r):=⟨by rw [h₁,map_cons,reverse_cons],nd',S₁,λ a ha=>B.new a (by
    rcases mem_cons.mp ha with q | q
    . rw [q];exact .head _
    . unfold owns;rw [flatMap_cons];exact .tail _ (mem_append_right _ q)),l1⟩
   have hal:∀ x,Z1 x=none->Out Z0 fl (w::r) x:=λ x e=>⟨none_le l1 e,B1.alloc x e⟩
   have xnew:∀ {a},a∈x.own->Z0 a=none:=λ h=>B.new _ (.tail _ (by rw [flatMap_cons];exact mem_append_left _ h))
   have hfw1:=B1.stk.1.fr
   obtain ⟨la,v,ix,hv1,hvl,ext⟩:=B1.top
   clear S₁
   have hgl0:(r.map λ x=>AV.ref x.f).length=r.length:=length_map _
   walk_at"ug"
   refine ⟨by simp only [length_append,length_reverse,length_cons,length_map,length_nil];exact qli [_,_,_] (.i 0 1 Y0 (.n 2) (.i 5 1 Y1 (.n 1000000) (.i 2 0 Y2 Y0 (.h 0 (.a Y0 (.a X0 X1)) Y1)))) rfl hr3 htl hgl0,?_⟩
   rw [show ((((r.map λ x=>AV.ref x.f).reverse++[AV.ref w.f]).length:Nat):Int)=((r.length+1:Nat):Int) by rw [length_append,length_reverse,length_map];rfl]
   walk_at"ug"
   simp only [tot] at hz
   have hm2:=q2.mono T1 G1
   have hm3:=q3.mono T1 G1
   refine s_closed TA T (N:=Out Z0 fl (w::r)) (h:=3-(w::r).length) (by exact o897 hd) (hN.le l1) hb (by exact qli [_,_] (.i 0 1 Y0 (.n 2) (.i 2 0 Y1 Y0 (.h 0 (.a Y0 X1) (.n 4)))) rfl hr3 hgl0) Ax.n hfx1 ⟨⟨xnew (.tail _ (.head _)),x2.2⟩,e2⟩ ⟨⟨xnew (.tail _ (.tail _ (.head _))),x3.2⟩,e3⟩ hm2 hm3 Ax.o2 Ax.o3 (by exact qli [_,_,_,_,_,_] (.i 1 1 (.a (.a Y1 Y0) (.a (.a Y2 Y3) Y4)) (.n 9000) (.i 0 0 Y5 (.a Y2 Y3) (.h 0 Y0 (.n 10000)))) rfl hz hvl) hal λ c vc tr Z2 l₂ hc hc₂ rt ot tl2=>?_
   have hv2:=l₂ _ _ hv1
   have hvc:=rt.len
   have hgl:v.length+vc.length<tooLong:=by exact qli [_,_,_,_,_,_,_,_,_] (.i 1 1 (.a (.a Y3 Y4) (.a (.a Y5 Y6) Y7)) (.n 9000) (.i 5 1 Y2 (.n 1000000) (.i 0 1 Y0 (.a Y5 Y6) (.i 0 1 Y8 (.n 2) (.i 2 1 Y1 Y8 (.h 0 (.a Y0 Y1) Y2)))))) rfl hz htl hvl tl2 hvc
   walk_at"ug"
   refine setO λ Z3 h₃ k₃=>?_
   rw [show 3-(w::r).length+1=3-r.length by simp only [length_cons];exact o901 hr3 hgl0] at ot
   obtain ⟨w',B3,hs,hp'⟩:=ext l₂ rt ⟨ot.g,ot.lv,Nat.le_refl _⟩ h₃ k₃
   have hxp:=Ax.p
   have otc:=ot.c
   exact hq (w'::r) Z3 B3 (Nat.succ_pos _) (Nat.le_succ _) (by simp only [tot];exact qli [_,_,_,_,_,_,_,_] (.i 2 1 (.a Y0 Y1) (.a (.a Y5 Y6) Y7) (.i 0 1 Y7 (.a (.a Y3 Y4) (.n 3)) (.g 0 (.a (.a Y0 Y1) Y2) (.a (.a (.a Y3 Y4) (.a (.a Y5 Y6) Y2)) (.n 3))))) rfl hs otc) (by simp only [meas,hp'];exact o724 hxp)
end
end W2
namespace W2
open U U12 PySem
theorem Bld.push{bns:List Txt}{Z0 Z1 Z2 Z3:Hp}{fl f l2 l3:Addr}{kd:Txt}{num:Int}{st:List Fm}(B:Bld bns Z0 Z1 fl st)(l₂:Le Z1 Z2)(hf0:Z1 f=none)(h20:Z1 l2=none)(h30:Z1 l3=none)(n1:f≠l2)(n2:f≠l3)(n3:l2≠l3)
  (hf:Z2 f=some (.list [.str kd,.int 0,.ref l2,.ref l3,.int num])) (h2:Z2 l2=some (.list [])) (h3:Z2 l3=some (.list [])) (hn:0<=num) (h₃:Z3 fl=some (.list ((st.map λ x=>AV.ref x.f).reverse++[.ref f]))) (k₃:∀ b,b≠fl->Z3 b=Z2 b):
  Bld bns Z0 Z3 fl (⟨f,l2,l3,kd,0,num,.nil,.nil⟩::st):=by
 have al:∀ {a},Z1 a=none->a∉owns fl st:=λ e=>B.alloc _ e
 have nfl:∀ {a},Z1 a=none->a≠fl:=λ e q=>al e (by rw [q];exact .head _)
 have T1:KtT Z1 Z3:=ktT_trans (ktT_le l₂) (ktT_set (l₂ _ _ B.lst) k₃)
 have G1:KlL (Out Z0 fl st) (Out Z0 fl (⟨f,l2,l3,kd,0,num,.nil,.nil⟩::st)) Z1 Z3:=λ y vs n e=>⟨⟨n.1,λ q=>by
  unfold owns at q
  rw [flatMap_cons] at q
  rcases mem_cons.mp q with q | q
  . exact n.2 (by rw [q];exact .head _)
  . rcases mem_append.mp q with q | q
    . have h:=e
      unfold Fm.own at q
      simp only [mem_cons,not_mem_nil,or_false] at q
      rcases q with q | q | q
      . rw [q,hf0] at h;cases h
      . rw [q,h20] at h;cases h
      . rw [q,h30] at h;cases h
    . exact n.2 (.tail _ q)⟩,by rw [k₃ _ (λ q=>n.2 (by rw [q];exact .head _))];exact l₂ _ _ e⟩
 refine ⟨by rw [h₃,map_cons,reverse_cons],?_,⟨⟨by rw [k₃ _ (nfl hf0)];exact hf,⟨[],by rw [k₃ _ (nfl h20)];exact h2,rfl⟩,⟨[],by rw [k₃ _ (nfl h30)];exact h3,rfl⟩,⟨trivial,trivial,Nat.le_refl _⟩,⟨trivial,trivial,Nat.le_refl _⟩,hn,.inl rfl⟩,B.stk.keep (λ a ha o e=>by rw [k₃ _ (λ q=>(nodup_cons.mp B.nd).1 (q▸ha))];exact l₂ _ _ e) T1 G1⟩,?_,?_⟩
 . unfold owns
   rw [flatMap_cons,nodup_cons,nodup_append,mem_append]
   refine ⟨?_,?_,(nodup_cons.mp B.nd).2,?_⟩
   . rintro (q | q)
     . unfold Fm.own at q
       simp only [mem_cons,not_mem_nil,or_false] at q
       rcases q with q | q | q
       . exact nfl hf0 q.symm
       . exact nfl h20 q.symm
       . exact nfl h30 q.symm
     . exact (nodup_cons.mp B.nd).1 q
   . unfold Fm.own;simp [n1,n2,n3]
   . intro a ha b hb q
     subst q
     unfold Fm.own at ha
     simp only [mem_cons,not_mem_nil,or_false] at ha
     rcases ha with rfl | rfl | rfl
     . exact al hf0 (.tail _ hb)
     . exact al h20 (.tail _ hb)
     . exact al h30 (.tail _ hb)
 . intro a ha
   unfold owns at ha
   rw [flatMap_cons] at ha
   rcases mem_cons.mp ha with q | q
   . exact B.new _ (by rw [q];exact .head _)
   . rcases mem_append.mp q with q | q
     . unfold Fm.own at q
       simp only [mem_cons,not_mem_nil,or_false] at q
       rcases q with rfl | rfl | rfl
       . exact none_le B.le hf0
       . exact none_le B.le h20
       . exact none_le B.le h30
     . exact B.new _ (.tail _ q)
 . exact λ y o e=>by rw [k₃ _ (λ q=>by rw [q,B.new _ (.head _)] at e;cases e)];exact l₂ _ _ (B.le _ _ e)
theorem meas_le:∀ st:List Fm,meas st<=2*st.length
 | []=>Nat.le_refl _
 | x::r=>by have:=meas_le r;simp only [meas,length_cons];exact o571 this
end W2
namespace W2
open U U12 PySem
inductive RwI(bns:List Txt)(Z:Hp)(cl nl fl:Addr)(bk mn:Nat)(k:Nat)(ρ:U.Loc)(Z':Hp):Prop
 | mk (st:List Fm) (x5 x6 x7 x8 x9:Option AV) (e:ρ=[some (.ref cl),some (.int (bk:Int)),some (.int (mn:Int)),some (.ref nl),some (.ref fl),x5,x6,x7,x8,x9]) (B:Bld bns Z Z' fl st) (hl:1<=st.length/\st.length<=4) (ht:tot st<=3*k)
inductive RcI(cap:Nat)(bns:List Txt)(Z:Hp)(cl nl fl:Addr)(bk mn:Nat)(x5 x6 x7 x8 x9:Option AV)(m:Nat)(ρ:U.Loc)(Z':Hp):Prop
 | mk (st:List Fm) (e:ρ=[some (.ref cl),some (.int (bk:Int)),some (.int (mn:Int)),some (.ref nl),some (.ref fl),x5,x6,x7,x8,x9]) (B:Bld bns Z Z' fl st) (hl:1<=st.length/\st.length<=4) (hm:m=meas st) (ht:tot st+3*meas st<=cap)
section
variable {K:Kx}(TA:Tab K tabA)(TS:Tab K tabS)(T:Tab K tabZ){d:Nat}{Z:Hp}{Q:Post}{X:XPost}{nl cl:Addr}{ns bns:List Txt}
include TA TS T
theorem s_brows(hd:3<d){cs:List Int}{bk mn:Nat}(hN:Nms Z nl ns)(hb:bk<mn)(hm:mn<=3)(hbn:∀ i w,i<mn->ns[8+i]?=some w->w∈bns)(hcl:Z cl=some (.list (cs.map .int)))(hcs:cs.length<=50){cap:Nat}(hca:3*cs.length+24<=cap)(hcb:cap<=200)
  (hq:∀ l va t Z',Le Z Z'->Z l=none->Z' l=some (.list va)->RepT (λ x=>Z x=none/\x≠l) Z' t va->New bns t 3 cap->Q (.ref l) Z'):K.fn false d "_law_block_rows" [.ref cl,.int (bk:Int),.int (mn:Int),.ref nl] Z Q X:=by
 have htl:tooLong=1000000:=rfl
 have lc:(cs.map AV.int).length=cs.length:=length_map _
 (refine ent' T f__law_block_rows (by walk_at"mm") rfl (by unfold f__law_block_rows;walk_at"aa";exact rfl) ?_;dsimp only [f__law_block_rows])
 refine seq λ R hR=>?_
 walk_at"ug"
 refine newO λ l2 Z1 hl2 l1 hl2'=>?_
 walk_at"ug"
 refine newO λ l3 Z2 hl3 l₂ hl3'=>?_
 walk_at"ug"
 refine newO λ f Z3 hf l₃ hf'=>?_
 walk_at"ug"
 refine newO λ fl Z4 hfl l4 hfl'=>?_
 have L2:=l1.trans l₂
 have L3:=L2.trans l₃
 have L4:=L3.trans l4
 have n23:l2≠l3:=ne_of hl2' hl3
 have nf2:f≠l2:=(ne_of (l₂ _ _ hl2') hf).symm
 have nf3:f≠l3:=(ne_of hl3' hf).symm
 have nl2:fl≠l2:=(ne_of ((l₂.trans l₃) _ _ hl2') hfl).symm
 have nl3:fl≠l3:=(ne_of (l₃ _ _ hl3') hfl).symm
 have nlf:fl≠f:=(ne_of hf' hfl).symm
 have B0:Bld bns Z Z4 fl [⟨f,l2,l3,[],0,0,.nil,.nil⟩]:=⟨hfl',by unfold owns Fm.own;simp [n23,nf2,nf3,nl2,nl3,nlf],⟨⟨l4 _ _ hf',⟨[],(l₂.trans (l₃.trans l4)) _ _ hl2',rfl⟩,⟨[],(l₃.trans l4) _ _ hl3',rfl⟩,⟨trivial,trivial,Nat.le_refl _⟩,⟨trivial,trivial,Nat.le_refl _⟩,Int.le_refl 0,.inl rfl⟩,trivial⟩,λ a ha=>by
  unfold owns Fm.own at ha
  simp only [flatMap_cons,List.flatMap_nil,append_nil,mem_cons,not_mem_nil,or_false] at ha
  rcases ha with rfl | rfl | rfl | rfl
  . exact none_le L3 hfl
  . exact none_le L2 hf
  . exact hl2
  . exact none_le l1 hl3,L4⟩
 refine hR _ _ ?_
 clear hR hl2' hl3' hf' hfl'
 have hcl4:=L4 _ _ hcl
 refine seq λ R0 hR0=>forI λ G hG=>?_
 have hgo1:(cs.map AV.int).length<tooLong:=by exact o903 hcs htl lc
 have hgo1052:=o1052 hcs htl lc
 walk_at"ug"
 rw [lc]
 refine hG _ _ _ (for_range (n:=cs.length) (RwI bns Z cl nl fl bk mn) ⟨_,_,_,_,_,_,rfl,B0,⟨Nat.le_refl 1,(by decide:1<=4)⟩,Nat.le_refl _⟩ ?_ ?_)
 . clear hG hR0 hq B0 L2 L3 L4 hcl4
   rintro k ρ Z1 c hk ⟨st,x5,x6,x7,x8,x9,rfl,B,hlen,htot⟩ hc
   have hcl1:=B.le _ _ hcl
   have hN1:=hN.le B.le
   have hn1:=hN1.at'
   refine seq λ R hR=>?_
   walk_at"ug"
   refine okP (itemL_ok (by exact o72) (by rw [lc];exact o572 lc hk) (by exact o70 hgo1)) ?_
   have e0:pick (cs.map .int) (k:Int)=.int (cs.getD k 0):=pick_map AV.int 0 (by exact o72) (by exact o572 lc hk)
   rw [e0]
   walk_at"ug"
   refine s_mixed TA _ _ (hR _ _ (seq λ R hR=>?_))
   walk_at"ug"
   have hm0:=mixI_lo (cs.getD k 0) k
   generalize mixI (cs.getD k 0) k=mx at hm0
   refine hR _ _ (seq λ R hR=>?_)
   match st,B,hlen,htot with
   | [],_,hlen,_=>exact absurd hlen.1 (by decide)
   | x::r,B,hlen,htot=>
    have hl:=B.lst
    obtain ⟨Ax,Ar⟩:=B.stk
    have hfx:=Ax.fr
    rw [map_cons,reverse_cons] at hl
    have hln:((r.map λ x=>AV.ref x.f).reverse++[AV.ref x.f]).length=r.length+1:=by rw [length_append,length_reverse,length_map];rfl
    simp only [length_cons] at hlen
    walk_at"ug"
    refine okP itemL_last (hR _ _ (last (iffI λ A C hA hC=>?_)))
    walk_at"ug"
    refine wifd (λ hz=>hA _ (last ?_)) λ hz=>hC _ (last (iffI λ A C hA hC=>?_))
    . obtain ⟨la,v,ix,hv,hvl,ext⟩:=B.top
      walk_at"ug"
      refine s_simple TA TS (bns:=bns) (N:=Out Z fl (x::r)) (h:=3-r.length) (by exact o904 hd) (fdiv_lo hm0 (by decide)) hN1 λ a t vs Z2 l₂ ha0 ha rt ot=>?_
      have hv2:=l₂ _ _ hv
      simp only [tot] at htot
      have hvs:=rt.len
      have hvc:=cnt_len t
      have otc:=ot.c
      have hgl:v.length+vs.length<tooLong:=by exact qli [_,_,_,_,_,_,_,_,_,_,_] (.i 0 3 Y3 (.n 50) (.i 5 1 Y2 (.n 1000000) (.i 2 0 Y4 Y3 (.i 1 3 Y5 Y3 (.i 0 1 (.a (.a Y6 Y7) Y8) (.m 3 Y5) (.i 0 1 Y0 (.a Y6 Y7) (.i 2 1 Y1 Y9 (.i 0 1 Y9 (.v 10) (.i 0 1 (.v 10) (.n 3) (.h 0 (.a Y0 Y1) Y2)))))))))) rfl hcs htl lc hk htot hvl hvs hvc otc
      walk_at"ug"
      refine setO λ Z3 h₃ k₃=>?_
      obtain ⟨w',B4,hs,V⟩:=ext l₂ rt ⟨ot.g,ot.lv,Nat.le_refl _⟩ h₃ k₃
      exact hc _ _ ⟨_,_,_,_,_,_,rfl,B4,hlen,by simp only [tot];exact qli [_,_,_,_,_,_,_] (.i 0 1 (.a (.a Y4 Y5) Y2) (.m 3 Y3) (.i 0 1 Y6 (.n 3) (.i 2 1 (.a Y0 Y1) (.a (.a Y4 Y5) Y6) (.g 0 (.a (.a Y0 Y1) Y2) (.m 3 (.a Y3 X1)))))) rfl htot otc hs⟩
    . walk_at"ug"
      have fourth:C Z1:=by
       refine hC _ (last (iffI λ A C hA hC=>?_))
       walk_at"ug"
       have third:C Z1:=by
        refine hC _ (last (iffI λ A C hA hC=>?_))
        have hgo2:((r.map λ x=>AV.ref x.f).reverse++[AV.ref x.f]).length<tooLong:=by exact o709 htl hlen hln
        walk_at"ug"
        rw [hln]
        refine wifd (λ hz=>hA _ (last ?_)) λ hz=>hC _ (hc _ _ ⟨_,_,_,_,_,_,rfl,B,by simpa using hlen,by exact qli [_,_] (.i 0 1 Y0 (.m 3 Y1) (.g 0 Y0 (.m 3 (.a Y1 X1)))) rfl htot⟩)
        match r,B,hlen,htot,hz with
        | [],_,_,_,hz=>exact absurd hz (by decide)
        | w::r,B,hlen,htot,hz=>
         walk_at"ug"
         simp only [length_cons] at hlen
         exact s_close TA T (by exact o582 hd) B (by exact o583 hlen) hN (by exact o907 hb hm) (by exact qli [_,_,_,_] (.i 0 3 Y1 (.n 50) (.i 2 0 Y2 Y1 (.i 1 3 Y3 Y1 (.i 0 1 Y0 (.m 3 Y3) (.h 0 Y0 (.n 9000)))))) rfl hcs lc hk htot) λ st Z2 B2 h1 h2 h3 h4=>hc _ _ ⟨st,_,_,_,_,_,rfl,B2,⟨h1,by exact o585 hlen h2⟩,by exact qli [_,_,_] (.i 0 1 Y2 (.m 3 Y1) (.i 0 1 Y0 (.a Y2 (.n 3)) (.g 0 Y0 (.m 3 (.a Y1 X1))))) rfl htot h3⟩
       refine wifd (λ hz=>?_) λ hz=>?_
       . have hgo2:((r.map λ x=>AV.ref x.f).reverse++[AV.ref x.f]).length<tooLong:=by exact o709 htl hlen hln
         walk_at"ug"
         rw [hln]
         refine wifd (λ hz'=>hA _ (last ?_)) λ V=>third
         walk_at"ug"
         refine newO λ p Z2 hp l₂ hp'=>?_
         walk_at"ug"
         refine okP (itemL_mod (by decide) (by decide) (by decide)) ?_
         obtain ⟨kn,hkn⟩:∃ kn,pick [.str [105,102],.str [105,102],.str [114,111,117,110,100]] (Int.fmod (Int.fdiv mx 16) 3)=.str kn:=by
          have p1:=fmod_lo (Int.fdiv mx 16) (b:=3) (by decide)
          have p2:=fmod_hi (Int.fdiv mx 16) (b:=3) (by decide)
          generalize Int.fmod (Int.fdiv mx 16) 3=j at p1 p2
          obtain rfl | rfl | rfl:j=0\/j=1\/j=2:=by exact o210 p1 p2
          . exact ⟨_,rfl⟩
          . exact ⟨_,rfl⟩
          . exact ⟨_,rfl⟩
         rw [hkn]
         walk_at"ug"
         refine newO λ a2 Z3 ha2 l₃ ha2'=>?_
         walk_at"ug"
         refine newO λ a3 Z4 ha3 l4 ha3'=>?_
         walk_at"ug"
         refine newO λ af Z5 haf l₅ haf'=>?_
         have m3:=l₂.trans l₃
         have m4:=m3.trans l4
         have m5:=m4.trans l₅
         have hl5:=m5 _ _ hl
         walk_at"ug"
         refine setO λ Z6 h₆ k₆=>?_
         refine hc _ _ ⟨_,_,_,_,_,_,rfl,B.push (kd:=kn) (num:=Int.fdiv (Int.fdiv mx 16) 3) m5 (none_le m4 haf) (none_le l₂ ha2) (none_le m3 ha3) (ne_of (l4 _ _ ha2') haf).symm (ne_of ha3' haf).symm (ne_of ha2' ha3) haf' ((l4.trans l₅) _ _ ha2') (l₅ _ _ ha3') (fdiv_lo (fdiv_lo hm0 (by decide)) (by decide)) (by rw [h₆,map_cons,reverse_cons]) k₆,⟨by simp only [length_cons];exact o587 hlen hln hz',by simp only [length_cons];exact o588 hlen hln hz'⟩,?_⟩
         simp only [tot,Tl.cnt] at htot ⊢;exact qli [_,_,_,_] (.i 0 1 (.a (.a Y0 Y1) Y2) (.m 3 Y3) (.g 0 (.a (.a X0 X0) (.a (.a Y0 Y1) Y2)) (.m 3 (.a Y3 X1)))) rfl htot
       . rw [decide_eq_false hz]
         exact third
      refine wif (λ hz=>?_) λ hz=>by rw [hz];exact fourth
      walk_at"ug"
      refine wifd (λ hz'=>hA _ (seq λ R hR=>?_)) λ V=>fourth
      have hpos:0<(mn:Int)-bk-1:=by exact o222 hz'
      have p1:=fmod_lo (Int.fdiv mx 16) hpos
      have p2:=fmod_hi (Int.fdiv mx 16) hpos
      have hgo1051:=o1051 hz'
      walk_at"ug"
      obtain ⟨gw,hgw,hgw',hgg⟩:=hN.pick (i:=8+(bk:Int)+1+Int.fmod (Int.fdiv mx 16) ((mn:Int)-bk-1)) (by exact o909 hm hz' p1) (by exact o910 hm p2)
      refine okP hgw ?_
      have gin:gw∈bns:=by
       refine hbn ((bk:Int)+1+Int.fmod (Int.fdiv mx 16) ((mn:Int)-bk-1)).toNat gw (by exact o911 p1 p2) ?_
       rw [<-hgw'];congr 1;exact o912 hm hz' p1
      walk_at"ug"
      refine hR _ _ (last ?_)
      obtain ⟨la,v,ix,hv,hvl,ext⟩:=B.top
      walk_at"ug"
      refine newO λ p Z2 hp l₂ hp'=>?_
      obtain ⟨cw,hcw,hcw4⟩:∃ cw,itemL [AV.str [99,97,108,108],.str [117,110,100,111]] (Int.fmod (Int.fdiv (Int.fdiv mx 16) 8) 2)=some (.str cw)/\cw∈words4:=by
       have p1:=fmod_lo (Int.fdiv (Int.fdiv mx 16) 8) (b:=2) (by decide)
       have p2:=fmod_hi (Int.fdiv (Int.fdiv mx 16) 8) (b:=2) (by decide)
       generalize Int.fmod (Int.fdiv (Int.fdiv mx 16) 8) 2=j at p1 p2
       obtain rfl | rfl:j=0\/j=1:=by exact o122 p1 p2
       . exact ⟨_,rfl,by decide⟩
       . exact ⟨_,rfl,by decide⟩
      walk_at"ug"
      refine newO λ t Z3 ht l₃ ht₃=>?_
      have l23:=l₂.trans l₃
      have hv₃:=l23 _ _ hv
      simp only [tot] at htot
      have hgl:v.length<tooLong:=by exact qli [_,_,_,_,_,_,_,_] (.i 0 3 Y2 (.n 50) (.i 5 1 Y1 (.n 1000000) (.i 2 0 Y3 Y2 (.i 1 3 Y4 Y2 (.i 0 1 (.a (.a Y5 Y6) Y7) (.m 3 Y4) (.i 0 1 Y0 (.a Y5 Y6) (.h 0 Y0 Y1))))))) rfl hcs htl lc hk htot hvl
      walk_at"ug"
      refine setO λ Z4 h₄ k₄=>?_
      obtain ⟨w',B4,hs,V⟩:=ext (tr:=.two cw gw .nil) l23 ⟨t,[],rfl,ht₃,rfl⟩ ⟨⟨⟨hcw4,hgg,λ V=>gin⟩,trivial⟩,⟨hcw4,trivial⟩,Nat.le_refl _⟩ h₄ k₄
      exact hc _ _ ⟨_,_,_,_,_,_,rfl,B4,hlen,by simp only [Tl.cnt] at hs;simp only [tot];exact qli [_,_,_,_,_,_] (.i 0 1 (.a (.a Y4 Y5) Y2) (.m 3 Y3) (.i 2 1 (.a Y0 Y1) (.a (.a Y4 Y5) (.a X1 X0)) (.g 0 (.a (.a Y0 Y1) Y2) (.m 3 (.a Y3 X1))))) rfl htot hs⟩
 . clear hG hcl4 B0 L2 L3 L4
   rintro ρ Z5 ⟨st,x5,x6,x7,x8,x9,rfl,B,hlen,htot⟩
   refine hR0 _ _ (seq λ R hR=>?_)
   have hme:=meas_le st
   refine ⟨RcI cap bns Z cl nl fl bk mn x5 x6 x7 x8 x9,⟨_,st,rfl,B,hlen,rfl,by exact o1298 hca lc hlen htot hme⟩,?_⟩
   rintro m ρ Z6 ⟨st,rfl,B,hlen,rfl,hz⟩
   match st,B,hlen,hz with
   | [],_,hlen,_=>exact absurd hlen.1 (by decide)
   | [x],B,hlen,hz=>
    have hl:Z6 fl=some (.list [.ref x.f]):=B.lst
    obtain ⟨Ax,V⟩:=B.stk
    have hfx:=Ax.fr
    obtain ⟨v,hv,rv⟩:=Ax.r2
    have lin:x.l2∈owns fl [x]:=.tail _ (by rw [flatMap_cons];exact mem_append_left _ (.tail _ (.head _)))
    walk_at"ug"
    refine hR _ _ (last ?_)
    walk_at"ug"
    exact hq x.l2 v x.t2 Z6 B.le (B.new _ lin) hv (rv.mono (λ V V e=>e) λ y vs n e=>⟨⟨n.1,λ q=>n.2 (by rw [q];exact lin)⟩,e⟩) ⟨Ax.o2.g,Ax.o2.lv,by simp only [tot] at hz;exact qli [_,_,_,_] (.i 0 1 (.a (.a (.a Y0 Y2) X0) (.m 3 Y3)) Y1 (.g 0 Y0 Y1)) rfl hz⟩
   | x::w::r,B,hlen,hz=>
    have hl:=B.lst
    have hln:(AV.ref x.f::AV.ref w.f::r.map λ x=>AV.ref x.f).reverse.length=r.length+2:=by rw [length_reverse,length_cons,length_cons,length_map]
    simp only [length_cons] at hlen
    have hgo2:(AV.ref x.f::AV.ref w.f::r.map λ x=>AV.ref x.f).reverse.length<tooLong:=by exact o707 htl hlen hln
    walk_at"ug"
    rw [hln]
    refine wifd (λ V=>last ?_) λ q=>absurd q (by exact o592 hlen hln q)
    walk_at"ug"
    have hm2:=meas_le (x::w::r)
    exact s_close TA T (by exact o582 hd) B (by exact o593 hlen hln) hN (by exact o907 hb hm) (by exact qli [_,_] (.i 0 1 (.a Y0 (.m 3 Y1)) (.n 200) (.h 0 Y0 (.n 9000))) rfl (Nat.le_trans hz hcb)) λ st Z2 B2 h1 h2 h3 h4=>⟨meas st,by exact o595 h4,st,rfl,B2,⟨h1,by exact o596 hlen hln h2⟩,rfl,by exact qli [_,_,_,_,_] (.i 0 1 (.a Y3 (.m 3 Y4)) Y2 (.i 0 1 Y0 (.a Y3 (.n 3)) (.i 0 3 (.a Y1 X1) Y4 (.g 0 (.a Y0 (.m 3 Y1)) Y2)))) rfl hz h3 h4⟩
end
end W2
namespace W2
open U U12 PySem
theorem cut_step_len{α:Type}(xs:List α){i m:Nat}(hm:1<=m):(cut xs (some (i:Int)) none (some (m:Int))).length<=(xs.length+m-1) / m:=by
 unfold cut sliceRange
 have e:(sliceBounds (some (i:Int)) none (some (m:Int)) xs.length)=(((min i xs.length:Nat):Int),(xs.length:Int),(m:Int)):=by
  unfold sliceBounds
  have h1:(m:Int)>0:=by exact o347 hm
  have h2:¬((i:Int)<0):=by exact o170
  simp only [Option.getD_some,h1,h2,if_true,if_false]
  refine Prod.ext ?_ rfl
  show max 0 (min (i:Int) (xs.length:Int))=((min i xs.length:Nat):Int)
  exact o348 h2
 rw [e]
 refine Nat.le_trans (List.length_filterMap_le _ _) ?_
 have h1:(m:Int)>0:=by exact o347 hm
 simp only [h1,if_true,length_map,length_range]
 split
 . have h2:((xs.length:Int)-((min i xs.length:Nat):Int)+m-1) / m<=(((xs.length+m-1:Nat):Int)) / m:=Int.ediv_le_ediv h1 (by rw [Int.ofNat_sub (Nat.le_trans hm (Nat.le_add_left _ _))];exact Int.sub_le_sub_right (Int.add_le_add_right (Int.sub_le_self _ (Int.natCast_nonneg _)) _) _)
   have h3:(((xs.length+m-1:Nat):Int)) / m=(((xs.length+m-1) / m:Nat):Int):=rfl
   rw [h3] at h2
   exact Int.toNat_le.mpr h2
 . exact Nat.zero_le _
theorem cut_map'{α β:Type}(f:α->β)(xs:List α)(lo hi st:Option Int):cut (xs.map f) lo hi st=(cut xs lo hi st).map f:=by
 unfold cut;rw [length_map,List.map_filterMap];simp only [List.getElem?_map]
noncomputable def Nof(Z0:Hp)(pr:Addr)(bs:List Bk)(x:Addr):Prop:=Z0 x=none/\x≠pr/\x∉bs.map (·.l)
structure Bn(N:Addr->Prop)(Z0 Z:Hp)(bns:List Txt)(m:Nat)(b:Bk):Prop where
 at':BkAt N Z bns b
 v3:b.t.lv 3
 c:b.t.cnt<=m
 l0:Z0 b.l=none
structure Pg(Z0 Z:Hp)(ns bns:List Txt)(m:Nat)(pr:Addr)(bs:List Bk):Prop where
 le:Le Z0 Z
 p0:Z0 pr=none
 at':Z pr=some (.list (bs.map λ b=>.ref b.b))
 bk:∀ b∈bs,Bn (Nof Z0 pr bs) Z0 Z bns m b
 nm:∀ (i:Nat) b,bs[i]?=some b->ns[8+i]?=some b.nm
 nd:(bs.map (·.l)).Nodup
 pl:pr∉bs.map (·.l)
theorem lv_up{t:Tl}:∀ {h h':Nat},h<=h'->t.lv h->t.lv h':=by
 induction t with
 | nil=>exact λ V V=>trivial
 | put _ _ _ _ ih=>exact λ q h=>ih q h
 | swap _ _ _ ih=>exact λ q h=>ih q h
 | two _ _ _ ih=>exact λ q h=>⟨h.1,ih q h.2⟩
 | br _ _ _ _ _ _ ia ib ih=>
  intro h h' q hh
  obtain ⟨⟨k,e,h1,h2⟩,h3⟩:=hh
  exact ⟨⟨h'-1,by exact o915 q e,ia (by exact o916 q e) h1,ib (by exact o916 q e) h2⟩,ih q h3⟩
theorem Pg.add{Z0 Z2 Z5 Z6:Hp}{ns bns:List Txt}{m:Nat}{pr a tp:Addr}{bs:List Bk}{w:Txt}{va:List AV}{t:Tl}(P:Pg Z0 Z2 ns bns m pr bs)(l₅:Le Z2 Z5)(ha0:Z2 a=none)(ha:Z5 a=some (.list va))(rt:RepT (λ x=>Z2 x=none/\x≠a) Z5 t va)(ot:New bns t 3 m)(hw:ns[8+bs.length]?=some w)(hg:goodB w=true)
  (ht:Z5 tp=some (.tup [.str w,.ref a])) (h₆:Z6 pr=some (.list (bs.map (λ b=>.ref b.b)++[.ref tp]))) (k₆:∀ b,b≠pr->Z6 b=Z5 b):Pg Z0 Z6 ns bns m pr (bs++[⟨tp,a,w,va,t⟩]):=by
 have hpr5:=l₅ _ _ P.at'
 have T:KtT Z5 Z6:=ktT_set hpr5 k₆
 have nap:a≠pr:=(ne_of P.at' ha0).symm
 have nal:a∉bs.map (·.l):=λ q=>by
  obtain ⟨b,hb,e⟩:=mem_map.mp q
  have:=(P.bk b hb).at'.l
  rw [e,ha0] at this;cases this
 have mem:∀ {x},x∈(bs++[(⟨tp,a,w,va,t⟩:Bk)]).map (·.l)->x∈bs.map (·.l)\/x=a:=λ {x} q=>by
  rw [map_append] at q
  rcases mem_append.mp q with q | q
  . exact .inl q
  . exact .inr (mem_singleton.mp q)
 refine ⟨λ y o e=>by rw [k₆ _ (λ q=>by rw [q,P.p0] at e;cases e)];exact l₅ _ _ (P.le _ _ e),P.p0,by rw [h₆,map_append];rfl,λ b hb=>?_,λ i b hb=>?_,?_,?_⟩
 . rcases mem_append.mp hb with hb | hb
   . have A:=P.bk b hb
     refine ⟨⟨T _ _ (l₅ _ _ A.at'.b),?_,A.at'.r.mono (ktT_trans (ktT_le l₅) T) λ x vs n e=>⟨⟨n.1,n.2.1,λ q=>?_⟩,?_⟩,A.at'.g,A.at'.o,A.at'.v⟩,A.v3,A.c,A.l0⟩
     . rw [k₆ _ (λ q=>P.pl (q▸mem_map_of_mem hb))];exact l₅ _ _ A.at'.l
     . rw [k₆ _ n.2.1];exact l₅ _ _ e
     . rcases mem q with q | q
       . exact n.2.2 q
       . rw [q,ha0] at e;cases e
   . rw [mem_singleton.mp hb]
     refine ⟨⟨T _ _ ht,(k₆ a nap).trans ha,rt.mono T λ x vs n e=>?_,hg,ot.g,lv_up (by decide) ot.lv⟩,ot.lv,ot.c,none_le P.le ha0⟩
     have np:x≠pr:=(ne_of P.at' n.1).symm
     refine ⟨⟨none_le P.le n.1,np,λ q=>?_⟩,(k₆ x np).trans e⟩
     rcases mem q with q | q
     . obtain ⟨b,hb,e⟩:=mem_map.mp q
       have:=(P.bk b hb).at'.l
       rw [e,n.1] at this;cases this
     . exact n.2 q
 . rcases Nat.lt_or_ge i bs.length with q | q
   . rw [List.getElem?_append_left q] at hb;exact P.nm i b hb
   . rw [List.getElem?_append_right q] at hb
     have e0:i-bs.length=0:=by
      rcases Nat.eq_zero_or_pos (i-bs.length) with r | r
      . exact r
      . rw [List.getElem?_eq_none (by exact r)] at hb;cases hb
     rw [e0] at hb
     cases hb
     rw [show i=bs.length by exact o917 q e0];exact hw
 . rw [map_append,nodup_append]
   exact ⟨P.nd,nodup_cons.mpr ⟨nofun,List.nodup_nil⟩,λ x hx y hy q=>nal (by have ey:y=a:=mem_singleton.mp hy;rw [<-ey,<-q];exact hx)⟩
 . intro q
   rcases mem q with q | q
   . exact P.pl q
   . exact nap q.symm
theorem Pg.app{Z0 Z1 Z2 Z3:Hp}{ns bns:List Txt}{m n:Nat}{pr:Addr}{rest:List Bk}{e:Bk}{ws:List AV}{s:Tl}(P:Pg Z0 Z1 ns bns m pr (rest++[e]))(l₂:Le Z1 Z2)(rs:RepT (λ x=>Z1 x=none) Z2 s ws)(os:New bns s 3 n)
  (h₃:Z3 e.l=some (.list (e.vs++ws))) (k₃:∀ b,b≠e.l->Z3 b=Z2 b):Pg Z0 Z3 ns bns (m+n) pr (rest++[{ e with vs:=e.vs++ws,t:=e.t.app s }]):=by
 have E:=P.bk e (mem_append_right _ (.head _))
 have T:KtT Z2 Z3:=ktT_set (l₂ _ _ E.at'.l) k₃
 have T':=ktT_trans (ktT_le l₂) T
 have ml:(rest++[{ e with vs:=e.vs++ws,t:=e.t.app s }]).map (λ b:Bk=>b.l)=(rest++[e]).map (·.l):=by rw [map_append,map_append];rfl
 have el:e.l∈(rest++[e]).map (·.l):=mem_map_of_mem (mem_append_right _ (.head _))
 have npl:pr≠e.l:=λ q=>P.pl (q▸el)
 have G:KlL (Nof Z0 pr (rest++[e])) (Nof Z0 pr (rest++[{ e with vs:=e.vs++ws,t:=e.t.app s }])) Z1 Z3:=λ x vs n h=>⟨⟨n.1,n.2.1,by rw [ml];exact n.2.2⟩,by rw [k₃ x (λ q=>n.2.2 (by rw [q];exact el))];exact l₂ _ _ h⟩
 have os':=os.c
 refine ⟨λ y o h=>by rw [k₃ _ (λ q=>by rw [q,E.l0] at h;cases h)];exact l₂ _ _ (P.le _ _ h),P.p0,?_,λ b hb=>?_,λ i b hb=>?_,by rw [ml];exact P.nd,by rw [ml];exact P.pl⟩
 . rw [k₃ _ npl,l₂ _ _ P.at',map_append,map_append];rfl
 . rcases mem_append.mp hb with hb | hb
   . have A:=P.bk b (mem_append_left _ hb)
     refine ⟨⟨T' _ _ A.at'.b,?_,A.at'.r.mono T' G,A.at'.g,A.at'.o,A.at'.v⟩,A.v3,Nat.le_trans A.c (Nat.le_add_right _ _),A.l0⟩
     rw [k₃ _ (λ q=>?_)]
     . exact l₂ _ _ A.at'.l
     . have nd:=P.nd
       rw [map_append,nodup_append] at nd
       exact nd.2.2 b.l (mem_map_of_mem hb) e.l (.head _) q
   . rw [mem_singleton.mp hb]
     have c0:=E.c
     refine ⟨⟨T' _ _ E.at'.b,h₃,RepT.app (rs.mono T λ x vs n h=>?_) (E.at'.r.mono T' G),E.at'.g,Tl.app_good os.g _ E.at'.o,Tl.app_lv (lv_up (by decide) os.lv) _ E.at'.v⟩,Tl.app_lv os.lv _ E.v3,by show (e.t.app s).cnt<=_;rw [Tl.app_cnt];exact qli [_,_,_,_] (.i 0 1 Y1 Y3 (.i 0 1 Y0 Y2 (.g 0 (.a Y0 Y1) (.a Y2 Y3)))) rfl os' c0,E.l0⟩
     have nx:x∉(rest++[e]).map (·.l):=λ q=>by
      obtain ⟨b,hb,e'⟩:=mem_map.mp q
      have:=(P.bk b hb).at'.l
      rw [e',n] at this;cases this
     exact ⟨⟨none_le P.le n,(ne_of P.at' n).symm,by rw [ml];exact nx⟩,by rw [k₃ x (λ q=>nx (by rw [q];exact el))];exact h⟩
 . rcases Nat.lt_or_ge i rest.length with q | q
   . rw [List.getElem?_append_left q] at hb;exact P.nm i b (by rw [List.getElem?_append_left q];exact hb)
   . rw [List.getElem?_append_right q] at hb
     have h2:=P.nm i e
     rw [List.getElem?_append_right q] at h2
     have e0:i-rest.length=0:=by
      rcases Nat.eq_zero_or_pos (i-rest.length) with r | r
      . exact r
      . rw [List.getElem?_eq_none (by exact r)] at hb;cases hb
     rw [e0] at hb h2
     cases hb
     exact h2 rfl
theorem Pg.grow{Z0 Z Z':Hp}{ns bns:List Txt}{m:Nat}{pr:Addr}{bs:List Bk}(P:Pg Z0 Z ns bns m pr bs)(l:Le Z Z'):Pg Z0 Z' ns bns m pr bs:=
 ⟨P.le.trans l,P.p0,l _ _ P.at',λ b hb=>let A:=P.bk b hb;⟨A.at'.le l,A.v3,A.c,A.l0⟩,P.nm,P.nd,P.pl⟩
theorem Pg.more{Z0 Z:Hp}{ns bns:List Txt}{m m':Nat}{pr:Addr}{bs:List Bk}(P:Pg Z0 Z ns bns m pr bs)(h:m<=m'):Pg Z0 Z ns bns m' pr bs:=
 ⟨P.le,P.p0,P.at',λ b hb=>let A:=P.bk b hb;⟨A.at',A.v3,Nat.le_trans A.c h,A.l0⟩,P.nm,P.nd,P.pl⟩
end W2
namespace W2
open U U12 PySem
inductive PrI(cap:Nat)(Z:Hp)(ns bns:List Txt)(cl l pr:Addr)(way:Int)(many:Nat)(j:Nat)(ρ:U.Loc)(Z':Hp):Prop
 | mk (bs:List Bk) (x y z:Option AV) (e:ρ=[some (.ref cl),some (.ref l),some (.int way),some (.int (many:Int)),some (.ref pr),x,y,z]) (P:Pg Z Z' ns bns cap pr bs) (hl:bs.length=j)
set_option tactic.hygienic true in
theorem names_of{Z0 Z:Hp}{ns:List Txt}{m many:Nat}{pr:Addr}{bns:List Txt}{bs:List Bk}(P:Pg Z0 Z ns bns m pr bs)(hl:bs.length=many)(h12:ns.length=12)(h3:many<=3):bs.map (·.nm)=(ns.drop 8).take many:=by
 refine List.ext_getElem? λ i=>?_
 rw [List.getElem?_map,List.getElem?_take,List.getElem?_drop]
 split <;> rename_i h
 . have hi:i<bs.length:=Nat.lt_of_lt_of_eq h hl.symm
   rw [List.getElem?_eq_getElem hi,P.nm i _ (List.getElem?_eq_getElem hi)];rfl
 . rw [List.getElem?_eq_none (Nat.le_trans (Nat.le_of_eq hl) (Nat.le_of_not_lt h))];rfl
theorem names_nd{Z0 Z:Hp}{ns:List Txt}{m:Nat}{pr:Addr}{bns:List Txt}{bs:List Bk}(P:Pg Z0 Z ns bns m pr bs)(H:U8.Nm8 ns):(bs.map (·.nm)).Nodup:=by
 refine List.nodup_iff_pairwise_ne.mpr (List.pairwise_iff_getElem.mpr λ i j hi hj hij q=>?_)
 simp only [length_map] at hi hj
 have h1:=P.nm i _ (List.getElem?_eq_getElem hi)
 have h2:=P.nm j _ (List.getElem?_eq_getElem hj)
 simp only [List.getElem_map] at q
 rw [q] at h1
 exact absurd (H.bk _ _ _ h1 h2) (by exact o919 hij)
section
variable {K:Kx}(TA:Tab K tabA)(TS:Tab K tabS)(T:Tab K tabZ){d:Nat}{Z:Hp}{Q:Post}{X:XPost}{l cl:Addr}{ns:List Txt}{cs:List Int}
include TA TS T
theorem s_programM{cap:Nat}(hd:5<=d)(hc:Z cl=some (.list (cs.map .int)))(hcs:cs.length<=50)(hca:3*cs.length+24<=cap)(hcb:cap<=200)(hN:Nms Z l ns)(way:Int)
  (hq:∀ pr bs Z',Pg Z Z' ns (bs.map (·.nm)) (cap+2) pr bs->1<=bs.length->bs.length<=3->(bs.map (·.nm)).Nodup->Q (.ref pr) Z'):K.fn false d "_law_program" [.ref cl,.ref l,.int way] Z Q X:=by
 have htl:tooLong=1000000:=rfl
 have h12:=hN.n8.len
 have p1:=fmod_lo way (b:=3) (by decide)
 have p2:=fmod_hi way (b:=3) (by decide)
 obtain ⟨many,hm⟩:∃ many:Nat,1+Int.fmod way 3=(many:Int):=⟨(1+Int.fmod way 3).toNat,by exact o266 p1 p2⟩
 have hm1:1<=many:=by exact o267 p1 p2 hm
 have hm3:many<=3:=by exact o268 p1 p2 hm
 clear p1 p2
 have hbn:∀ i w,i<many->ns[8+i]?=some w->w∈(ns.drop 8).take many:=λ i w hi e=>List.mem_iff_getElem?.mpr ⟨i,by rw [List.getElem?_take_of_lt hi,List.getElem?_drop];exact e⟩
 generalize hbns:(ns.drop 8).take many=bns at hbn
 (refine ent' T f__law_program (by walk_at"mm") rfl (by unfold f__law_program;walk_at"aa";exact rfl) ?_;dsimp only [f__law_program])
 refine seq λ R hR=>?_
 walk_at"ug"
 rw [hm]
 refine hR _ _ (seq λ R hR=>?_)
 walk_at"ug"
 refine newO λ pr Z1 hpr l1 hpr1=>hR _ _ (seq λ R hR=>forI λ F hF=>?_)
 have hgo385:=o385 htl hm1 hm3
 walk_at"ug"
 refine hF _ _ _ (for_range (n:=many) (PrI cap Z ns bns cl l pr way many) ⟨[],_,_,_,rfl,⟨l1,hpr,hpr1,nofun,nofun,List.nodup_nil,nofun⟩,rfl⟩ ?_ ?_)
 . rintro j ρ Z2 cc hj ⟨bs,x,y,z,rfl,P,hbl⟩ hcc
   have hc₂:=P.le _ _ hc
   have hN2:=hN.le P.le
   have h₂:=hN2.at'
   have hpr2:=P.at'
   obtain ⟨w,hw,hw',hwg⟩:=hN2.pick (i:=8+(j:Int)) (by exact o920 hbl) (by exact o921 hm1 hm3 hj hbl)
   refine last ?_
   walk_at"ug"
   refine ⟨⟨λ e=>by have:=Option.some.inj e;exact o272 hm1 hm3 this,by rw [length_map];exact o922 hcs htl⟩,newO λ c₁ Z3 hc0 l₃ hc₃=>⟨by exact o274 hd,?_⟩⟩
   rw [cut_map'] at hc₃
   have hlen:=cut_step_len cs (i:=j) hm1
   generalize cut cs (some (j:Int)) none (some (many:Int))=cs' at hc₃ hlen
   have h35:cs'.length<=cs.length:=by
    refine Nat.le_trans hlen ?_
    obtain rfl | rfl | rfl:many=1\/many=2\/many=3:=by exact o269 hm1 hm3
    . exact o1301 hcs
    . exact o1302 hcs
    . exact o1303 hcs
   have h36:cs'.length<=50:=Nat.le_trans h35 hcs
   refine s_brows TA TS T (bns:=bns) (by exact o923 hd) (hN2.le l₃) hj hm3 hbn hc₃ h36 (by exact qli [_,_,_] (.i 0 1 (.a (.m 3 Y2) (.n 24)) Y1 (.i 0 3 Y0 Y2 (.g 0 (.a (.m 3 Y0) (.n 24)) Y1))) rfl hca h35) hcb λ a va t Z4 l4 ha0 ha rt ot=>⟨by decide,newO λ tp Z5 ht₀ l₅ ht=>?_⟩
   have l25:=l₃.trans (l4.trans l₅)
   have hp5:=l25 _ _ hpr2
   walk_at"ug"
   refine ⟨by rw [length_map];exact o277 htl hm1 hm3 hj hbl,setO λ Z6 h₆ k₆=>?_⟩
   refine hcc _ _ ⟨bs++[⟨tp,a,w,va,t⟩],_,_,_,rfl,P.add l25 (none_le l₃ ha0) (l₅ _ _ ha) ((rt.le l₅).mono (λ V V e=>e) λ x vs n e=>⟨⟨none_le l₃ n.1,n.2⟩,e⟩) ot (by rw [hbl,<-hw'];congr 1) hwg ht h₆ k₆,by rw [length_append,length_singleton,hbl]⟩
 . rintro ρ Z2 ⟨bs,x,y,z,rfl,P,hbl⟩
   have fin:∀ {Z' bs},Pg Z Z' ns bns (cap+2) pr bs->bs.length=many->Q (.ref pr) Z':=λ {Z' bs} P hb=>by
    have e:=names_of P hb h12 hm3
    rw [hbns] at e
    exact hq pr bs Z' (by rw [e];exact P) (by exact o924 hm1 hm3 hbl hb) (by exact o925 hm1 hm3 hbl hb) (names_nd P hN.n8)
   refine hR _ _ (seq λ R hR=>iffI λ A' B' hA' hB'=>?_)
   walk_at"ug"
   cases Int.fmod (Int.fdiv way 3) 8==5 with
   | false=>
    refine hB' _ (hR _ _ (last ?_))
    walk_at"ug"
    exact fin (P.more (Nat.le_add_right _ _)) hbl
   | true=>
    have hN2:=hN.le P.le
    have h₂:=hN2.at'
    refine hA' _ (seq λ R' hR'=>?_)
    have hmp:0<(many:Int):=by exact o280 hm1 hm3 hbl
    have p1:=fmod_lo (Int.fdiv way 24) hmp
    have p2:=fmod_hi (Int.fdiv way 24) hmp
    obtain ⟨gw,hgw,hgw',hgg⟩:=hN2.pick (i:=8+Int.fmod (Int.fdiv way 24) (many:Int)) (by exact o926 p1) (by exact o927 hm1 hm3 hbl p2)
    have gin:gw∈bns:=by
     refine hbn (Int.fmod (Int.fdiv way 24) (many:Int)).toNat gw (by exact o928 hbl p1 p2) ?_
     rw [<-hgw'];congr 1;exact o929 p1
    have hmz:(many:Int)≠0:=by exact o285 hm1 hm3 hbl
    obtain ⟨w5,hw5,V,hw5g⟩:=hN2.pick (i:=5) (by decide) (by decide)
    obtain ⟨cw,hcw,hcw4⟩:∃ cw,itemL [AV.str [99,97,108,108],.str [117,110,100,111]] (Int.fmod (Int.fdiv way 72) 2)=some (.str cw)/\cw∈words4:=by
     have p1:=fmod_lo (Int.fdiv way 72) (b:=2) (by decide)
     have p2:=fmod_hi (Int.fdiv way 72) (b:=2) (by decide)
     generalize Int.fmod (Int.fdiv way 72) 2=j at p1 p2
     obtain rfl | rfl:j=0\/j=1:=by exact o122 p1 p2
     . exact ⟨_,rfl,by decide⟩
     . exact ⟨_,rfl,by decide⟩
    walk_at"ug"
    refine newO λ z1 Z3 V l₃ hz1=>?_
    have h₃:=l₃ _ _ h₂
    walk_at"ug"
    refine newO λ t₁ Z4 ht0 l4 ht₁=>hR' _ _ (seq λ R' hR'=>?_)
    have h₄:=l4 _ _ h₃
    walk_at"ug"
    refine newO λ u Z5 V l₅ hu=>hR' _ _ (seq λ R' hR'=>iffI λ A' B' hA' hB'=>?_)
    have l25:=l₃.trans (l4.trans l₅)
    have ht₅:=l₅ _ _ ht₁
    obtain ⟨rest,e,rfl⟩:∃ rest e,bs=rest++[e]:=⟨bs.dropLast,bs.getLast (List.ne_nil_of_length_pos (by exact o286 hm1 hm3 hbl)),(List.dropLast_concat_getLast _).symm⟩
    have key:∀ {Z':Hp} {v:AV} {s:Tl} {p:Option AV},Le Z2 Z'->RepT (λ x=>Z2 x=none) Z' s [v]->New bns s 3 2->R' [some (.ref cl),some (.ref l),some (.int way),some (.int (many:Int)),some (.ref pr),p,some v,some (.ref u)] Z':=λ {Z' v s p} l' rs os=>by
     refine hR' _ _ (last ?_)
     have E:=P.bk e (mem_append_right _ (.head _))
     have hpr':=l' _ _ P.at'
     have heb:=l' _ _ E.at'.b
     have hel:=l' _ _ E.at'.l
     have hlast:itemL ((rest++[e]).map λ e=>AV.ref e.b) (-1)=some (.ref e.b):=by rw [map_append];exact itemL_last
     have hvl:=E.at'.r.len
     have hvc:=cnt_len e.t
     have hvm:=E.c
     have hz1:e.vs.length<tooLong:=by exact qli [_,_,_,_] (.i 5 1 Y1 (.n 1000000) (.i 2 1 Y0 Y2 (.i 0 1 Y2 Y3 (.i 0 1 Y3 (.n 200) (.h 0 Y0 Y1))))) rfl htl hvl hvc (Nat.le_trans hvm hcb)
     walk_at"ug"
     refine setO λ Z'' h'' k''=>?_
     refine hR _ _ (last ?_)
     walk_at"ug"
     exact fin (P.app l' rs os h'' k'') (by rw [<-hbl,length_append,length_append];rfl)
    walk_at"ug"
    have G1:(Tl.two cw gw .nil).good bns:=⟨⟨hcw4,hgg,λ V=>gin⟩,trivial⟩
    refine wifd (λ hg=>hA' _ (last ?_)) λ V=>hB' _ (key (s:=.two cw gw .nil) l25 ⟨t₁,[],rfl,ht₅,rfl⟩ ⟨G1,⟨hcw4,trivial⟩,by show 1<=2;decide⟩)
    have q1:=fmod_hi (Int.fdiv way 144) (b:=3) (by decide)
    obtain ⟨w,hw⟩:∃ w,itemL [AV.str [105,102],.str [114,111,117,110,100]] (Int.fmod (Int.fdiv way 144) 3-1)=some (.str (brT w)):=by
     generalize Int.fmod (Int.fdiv way 144) 3=i at hg q1 ⊢
     obtain rfl | rfl:i=1\/i=2:=by exact o289 hg q1
     . exact ⟨false,rfl⟩
     . exact ⟨true,rfl⟩
    walk_at"ug"
    refine newO λ z2 Z6 V l6 hz2=>?_
    walk_at"ug"
    refine newO λ a Z7 ha₀ l7 ha=>?_
    walk_at"ug"
    refine newO λ b Z8 hb0 l₈ hb=>?_
    walk_at"ug"
    refine newO λ t₂ Z9 V l9 ht₂=>?_
    have m8:=l₈.trans l9
    have m7:=l7.trans m8
    have m6:=l6.trans m7
    have hs0:QG ⟨[62,61],.s w5,.n 0⟩:=⟨by show [62,61]∈signs4;decide,hw5g,by decide,by decide⟩
    exact key (s:=.br w ⟨[62,61],.s w5,.n 0⟩ (.two cw gw .nil) .nil ⟨[62,61],.s w5,.n 0⟩ .nil) (l25.trans m6)
     ⟨t₂,u,u,a,b,[.ref t₁],[],[],rfl,ht₂,m6 _ _ hu,m6 _ _ hu,⟨none_le (l25.trans l6) ha₀,m8 _ _ ha⟩,⟨t₁,[],rfl,m6 _ _ ht₅,rfl⟩,⟨none_le (l25.trans (l6.trans l7)) hb0,l9 _ _ hb⟩,rfl,rfl⟩
     ⟨⟨⟨hs0,hs0,G1,trivial⟩,trivial⟩,⟨⟨2,rfl,⟨hcw4,trivial⟩,trivial⟩,trivial⟩,by show 1+1+0+0<=2;decide⟩
end
end W2
namespace W9
open U U12 PySem
theorem all_bools(w:Txt)(f:Nat->Bool):(w.map f).all id=w.all f:=by rw [all_map];rfl
end W9
namespace V2
open U U12 PySem
noncomputable def f_UndoError___init__:Fn:=⟨2,2,[.expr (.binit (.loc 0) [114,101,102,117,115,101,100]),
 .assign (.xattr (.loc 0) [97,116]) (.loc 1)]⟩
noncomputable def f__law_word:Fn:=⟨1,2,[.assign (.name 1) (.prim .add [.prim .rep [.lit (.str [112,114,111,103,114,97,109]),.prim .toInt [.isX "BadProgram" (.loc 0)]],.prim .rep [.lit (.str [114,111,119]),.prim .toInt [.isX "BadRow" (.loc 0)]]]),
 .assign (.name 1) (.prim .add [.prim .add [.loc 1,.prim .rep [.lit (.str [110,97,109,101]),.prim .toInt [.isX "BadName" (.loc 0)]]],.prim .rep [.lit (.str [110,117,109,98,101,114]),.prim .toInt [.isX "BadNumber" (.loc 0)]]]),
 .assign (.name 1) (.prim .add [.prim .add [.loc 1,.prim .rep [.lit (.str [111,119,110]),.prim .toInt [.isX "OwnBox" (.loc 0)]]],.prim .rep [.lit (.str [100,101,101,112]),.prim .toInt [.isX "TooDeep" (.loc 0)]]]),
 .ret (.prim .add [.prim .add [.loc 1,.prim .rep [.lit (.str [108,105,110,101]),.prim .toInt [.isX "BadLine" (.loc 0)]]],.prim .rep [.lit (.str [110,111,110,101]),.prim .toInt [.prim .not [.isV (.loc 0)]]]])]⟩
noncomputable def f__law_refusal:Fn:=⟨1,2,[.tryAs [.ret (.prim .mkList [.fn "checked" [.loc 0]])] "UndoError" 1 [.ret (.prim .mkList [.fn "_law_word" [.loc 1],.xattr [97,116] (.loc 1)])]]⟩
end V2
namespace V2
open U U12 PySem
structure Gk(Z:Hp)(g:Gs):Prop where
 kept:Z g.KEPT=some (.tup (keptT.map .str))
 qs:Z g.QUESTION_SIGNS=some (.tup (signs4.map .str))
 ss:Z g.SUM_SIGNS=some (.tup (signs7.map .str))
 len:Z g.LENGTHS=some (.fdict lenE)
theorem Gk.le{Z Z':Hp}{g:Gs}(h:Gk Z g)(l:Le Z Z'):Gk Z' g:=⟨l _ _ h.kept,l _ _ h.qs,l _ _ h.ss,l _ _ h.len⟩
end V2
namespace V2
open U U12 PySem
end V2
namespace V2
open U U12 PySem
end V2
namespace V2
open U U12 PySem
end V2
namespace V3
open U U12 PySem
noncomputable def f_need_thing:Fn:=⟨2,2,[.iff (.prim (.isinst ["str"]) [.loc 0]) [.iff (.prim .not [.fn "is_name" [.loc 0]]) [.raiseI "BadName" "UndoError.__init__" [.loc 1]] []] [.iff (.prim .not [.fn "is_number" [.loc 0]]) [.raiseI "BadNumber" "UndoError.__init__" [.loc 1]] []]]⟩
noncomputable def f_need_two:Fn:=⟨3,3,[.iff (.or (.prim .not [.prim (.isinst ["tuple"]) [.loc 0]]) (.or (.prim .ne [.prim .len [.loc 0],.lit (.int 3)]) (.or (.prim .not [.prim (.isinst ["str"]) [.prim .item [.loc 0,.lit (.int 0)]]]) (.prim .notin [.prim .item [.loc 0,.lit (.int 0)],.loc 1])))) [.raiseI "BadRow" "UndoError.__init__" [.loc 2]] [],
 .expr (.fn "need_thing" [.prim .item [.loc 0,.lit (.int 1)],.loc 2]),
 .expr (.fn "need_thing" [.prim .item [.loc 0,.lit (.int 2)],.loc 2])]⟩
noncomputable def f_need_name:Fn:=⟨2,2,[.iff (.prim .not [.fn "is_name" [.loc 0]]) [.raiseI "BadName" "UndoError.__init__" [.loc 1]] []]⟩
noncomputable def f_need_put:Fn:=⟨2,2,[.expr (.fn "need_name" [.prim .item [.loc 0,.lit (.int 1)],.loc 1]),
 .iff (.or (.prim .not [.prim (.isinst ["str"]) [.prim .item [.loc 0,.lit (.int 2)]]]) (.prim .notin [.prim .item [.loc 0,.lit (.int 2)],.prim .mkTup [.lit (.str [43]),.lit (.str [45])]])) [.raiseI "BadRow" "UndoError.__init__" [.loc 1]] [],
 .expr (.fn "need_sum" [.prim .item [.loc 0,.lit (.int 3)],.loc 1]),
 .iff (.prim .isin [.prim .item [.loc 0,.lit (.int 1)],.prim .from [.prim .item [.loc 0,.lit (.int 3)],.prim .fdiv [.prim .len [.prim .item [.loc 0,.lit (.int 3)]],.lit (.int 2)]]]) [.raiseI "OwnBox" "UndoError.__init__" [.loc 1]] []]⟩
noncomputable def f_need_parts(g:Gs):Fn:=⟨3,3,[.iff (.prim .eq [.prim .item [.loc 0,.lit (.int 0)],.lit (.str [112,117,116])]) [.expr (.fn "need_put" [.loc 0,.loc 1])] [.iff (.prim .eq [.prim .item [.loc 0,.lit (.int 0)],.lit (.str [115,119,97,112])]) [.expr (.fn "need_name" [.prim .item [.loc 0,.lit (.int 1)],.loc 1]),
 .expr (.fn "need_name" [.prim .item [.loc 0,.lit (.int 2)],.loc 1])] [.iff (.prim .isin [.prim .item [.loc 0,.lit (.int 0)],.prim .mkTup [.lit (.str [99,97,108,108]),.lit (.str [117,110,100,111])]]) [.iff (.or (.prim .not [.fn "is_name" [.prim .item [.loc 0,.lit (.int 1)]]]) (.prim .notin [.prim .item [.loc 0,.lit (.int 1)],.loc 2])) [.raiseI "BadName" "UndoError.__init__" [.loc 1]] []] [.iff (.prim .isin [.prim .item [.loc 0,.lit (.int 0)],.prim .mkTup [.lit (.str [112,117,115,104]),.lit (.str [112,117,108,108])]]) [.expr (.fn "need_name" [.prim .item [.loc 0,.lit (.int 1)],.loc 1])] [.expr (.fn "need_two" [.prim .item [.loc 0,.lit (.int 1)],.lit (.ref g.QUESTION_SIGNS),.loc 1]),
 .iff (.or (.prim .not [.prim (.isinst ["list"]) [.prim .item [.loc 0,.lit (.int 2)]]]) (.prim .not [.prim (.isinst ["list"]) [.prim .item [.loc 0,.lit (.int 3)]]])) [.raiseI "BadRow" "UndoError.__init__" [.loc 1]] [],
 .expr (.fn "need_two" [.prim .item [.loc 0,.lit (.int 4)],.lit (.ref g.QUESTION_SIGNS),.loc 1])]]]]]⟩
noncomputable def f_counted(g:Gs):Fn:=⟨4,8,[.assign (.name 4) (.lit (.int 0)),
 .for [5,6] (.enum (.loc 0)) [.assign (.name 7) (.prim .add [.loc 1,.prim .mkTup [.loc 5]]),
 .iff (.or (.prim .not [.prim (.isinst ["tuple"]) [.loc 6]]) (.or (.prim .eq [.prim .len [.loc 6],.lit (.int 0)]) (.prim .not [.prim (.isinst ["str"]) [.prim .item [.loc 6,.lit (.int 0)]]]))) [.raiseI "BadRow" "UndoError.__init__" [.loc 7]] [],
 .iff (.or (.prim .notin [.prim .item [.loc 6,.lit (.int 0)],.lit (.ref g.LENGTHS)]) (.prim .ne [.prim .len [.loc 6],.prim .item [.lit (.ref g.LENGTHS),.prim .item [.loc 6,.lit (.int 0)]]])) [.raiseI "BadRow" "UndoError.__init__" [.loc 7]] [],
 .iff (.prim .gt [.loc 2,.lit (.int 8)]) [.raiseI "TooDeep" "UndoError.__init__" [.loc 7]] [],
 .expr (.fn "need_parts" [(.loc 6),(.loc 7),(.loc 3)]),
 .assign (.name 4) (.prim .add [.loc 4,.lit (.int 1)]),
 .iff (.prim .isin [.prim .item [.loc 6,.lit (.int 0)],.prim .mkTup [.lit (.str [105,102]),.lit (.str [114,111,117,110,100])]]) [.assign (.name 4) (.prim .add [.loc 4,.fn "counted" [.prim .item [.loc 6,.lit (.int 2)],.prim .add [.loc 7,.prim .mkTup [.lit (.int 0)]],.prim .add [.loc 2,.lit (.int 1)],.loc 3]]),
 .assign (.name 4) (.prim .add [.loc 4,.fn "counted" [.prim .item [.loc 6,.lit (.int 3)],.prim .add [.loc 7,.prim .mkTup [.lit (.int 1)]],.prim .add [.loc 2,.lit (.int 1)],.loc 3]])] []],
 .ret (.loc 4)]⟩
noncomputable def f_checked:Fn:=⟨1,2,[.iff (.or (.prim .not [.prim (.isinst ["list"]) [.loc 0]]) (.prim .not [.cmp2 .le .le (.lit (.int 1)) (.prim .len [.loc 0]) (.lit (.int 12))])) [.raiseI "BadProgram" "UndoError.__init__" [.lit .none]] [],
 .iff (.prim .not [.prim .all [.comp [false,false] [2] (.val (.loc 0)) none (.fn "is_block" [.loc 2])]]) [.raiseI "BadProgram" "UndoError.__init__" [.lit .none]] [],
 .assign (.name 1) (.comp [false,false] [2] (.val (.loc 0)) none (.prim .item [.loc 2,.lit (.int 0)])),
 .iff (.prim .any [.comp [false,true] [2] (.val (.loc 1)) none (.prim .gt [.bm .count (.loc 1) [.loc 2],.lit (.int 1)])]) [.raiseI "BadName" "UndoError.__init__" [.lit .none]] [],
 .ret (.prim .sum [.comp [false,true] [2,3] (.val (.loc 0)) none (.fn "counted" [.loc 3,.prim .mkTup [.loc 2],.lit (.int 1),.loc 1])])]⟩
noncomputable def f__law_has_form:Fn:=⟨1,2,[.assign (.name 1) (.dict [[112,117,116],[115,119,97,112],[112,117,115,104],[112,117,108,108],[105,102],[114,111,117,110,100],[99,97,108,108],[117,110,100,111]] [.lit (.int 4),.lit (.int 3),.lit (.int 2),.lit (.int 2),.lit (.int 5),.lit (.int 5),.lit (.int 2),.lit (.int 2)]),
 .iff (.or (.prim .not [.prim (.isinst ["tuple"]) [.loc 0]]) (.or (.prim .eq [.loc 0,.prim .mkTup []]) (.prim .not [.prim (.isinst ["str"]) [.prim .item [.loc 0,.lit (.int 0)]]]))) [.ret (.lit (.bool false))] [],
 .ret (.prim .eq [.bm .get (.loc 1) [.prim .item [.loc 0,.lit (.int 0)],.lit (.int 0)],.prim .len [.loc 0]])]⟩
noncomputable def f__law_spoil:Fn:=⟨4,13,[.assign (.name 4) (.prim .mod [.prim .fdiv [.loc 2,.lit (.int 31)],.prim .len [.loc 0]]),
 .assign (.name 5) (.prim .item [.prim .item [.loc 0,.loc 4],.lit (.int 1)]),
 .assign (.name 6) (.prim .mkTup [.prim .item [.loc 3,.prim .add [.lit (.int 8),.loc 4]]]),
 .assign (.name 7) (.prim .mkTup [.lit (.str [61]),.prim .item [.loc 3,.lit (.int 0)],.lit (.int 1)]),
 .assign (.name 8) (.prim .mod [.loc 2,.lit (.int 4)]),
 .iff (.prim .eq [.prim .mod [.prim .fdiv [.loc 2,.lit (.int 7)],.lit (.int 8)],.lit (.int 3)]) [.assign (.name 8) (.lit (.int 8))] [],
 .for [9] (.range [.loc 8]) [.assign (.name 10) (.prim .mod [.prim .fdiv [.prim .fdiv [.loc 2,.lit (.int 4)],.prim .item [.prim .mkList [.lit (.int 1),.lit (.int 2),.lit (.int 4)],.prim .mod [.loc 9,.lit (.int 3)]]],.lit (.int 2)]),
 .assign (.name 11) (.prim .mkList [.prim .mkList [],.prim .mkList []]),
 .iff (.prim .lt [.loc 8,.lit (.int 8)]) [.assign (.name 11) (.prim .mkList [.prim .rep [.prim .mkList [.prim .mkTup [.lit (.str [115,119,97,112]),.prim .item [.loc 3,.lit (.int 1)],.prim .item [.loc 3,.lit (.int 2)]]],.prim .mod [.prim .fdiv [.loc 2,.lit (.int 32)],.lit (.int 3)]],.prim .rep [.prim .mkList [.prim .mkTup [.lit (.str [112,117,115,104]),.prim .item [.loc 3,.lit (.int 3)]]],.prim .mod [.prim .fdiv [.loc 2,.lit (.int 96)],.lit (.int 3)]]])] [],
 .expr (.bm .append (.loc 5) [.prim .mkTup [.prim .item [.prim .mkList [.lit (.str [105,102]),.lit (.str [114,111,117,110,100])],.prim .mod [.prim .fdiv [.prim .fdiv [.loc 2,.lit (.int 288)],.prim .item [.prim .mkList [.lit (.int 1),.lit (.int 2),.lit (.int 4)],.prim .mod [.loc 9,.lit (.int 3)]]],.lit (.int 2)]],.loc 7,.prim .item [.loc 11,.lit (.int 0)],.prim .item [.loc 11,.lit (.int 1)],.loc 7]]),
 .assign (.name 6) (.prim .add [.loc 6,.prim .mkTup [.prim .sub [.prim .len [.loc 5],.lit (.int 1)],.loc 10]]),
 .assign (.name 5) (.prim .item [.loc 11,.loc 10])],
 .assign (.name 12) (.fn "_law_bad_row" [(.loc 1)]),
 .expr (.bm .append (.loc 5) [.prim .item [.loc 12,.lit (.int 0)]]),
 .assign (.name 6) (.prim .add [.loc 6,.prim .mkTup [.prim .sub [.prim .len [.loc 5],.lit (.int 1)]]]),
 .expr (.bm .append (.loc 5) [.prim .mkTup [.lit (.str [112,117,115,104]),.prim .item [.loc 3,.lit (.int 1)]]]),
 .iff (.prim .eq [.prim .mod [.prim .fdiv [.loc 2,.lit (.int 2304)],.lit (.int 2)],.lit (.int 1)]) [.expr (.bm .append (.loc 5) [.prim .item [.fn "_law_bad_row" [.prim .add [.prim .fdiv [.loc 1,.lit (.int 63)],.prim .mul [.lit (.int 5),.loc 2]]],.lit (.int 0)]])] [],
 .iff (.prim .eq [.prim .mod [.prim .fdiv [.loc 2,.lit (.int 4608)],.lit (.int 3)],.lit (.int 1)]) [.expr (.bm .append (.prim .item [.prim .item [.loc 0,.prim .neg [.lit (.int 1)]],.lit (.int 1)]) [.prim .item [.fn "_law_bad_row" [.prim .add [.prim .fdiv [.loc 1,.lit (.int 65)],.prim .mul [.lit (.int 7),.loc 2]]],.lit (.int 0)]])] [],
 .iff (.and (.prim .eq [.loc 8,.lit (.int 8)]) (.fn "_law_has_form" [.prim .item [.loc 12,.lit (.int 0)]])) [.ret (.prim .mkList [.lit (.str [100,101,101,112]),.loc 6])] [],
 .ret (.prim .mkList [.prim .item [.loc 12,.lit (.int 1)],.loc 6])]⟩
noncomputable def f__law_holds:Fn:=⟨3,10,[.assign (.name 3) (.fn "_law_mixed" [.fn "_law_cell_at" [.loc 0,.lit (.int 1)],.prim .mul [.lit (.int 3),.loc 1]]),
 .assign (.name 4) (.fn "_law_mixed" [.fn "_law_cell_at" [.loc 0,.lit (.int 2)],.prim .mul [.lit (.int 5),.loc 1]]),
 .iff (.prim .eq [.prim .mod [.prim .fdiv [.loc 3,.lit (.int 63)],.lit (.int 9)],.lit (.int 4)]) [.assign (.tup [5,6]) (.fn "_law_bad_program" [.loc 4]),
 .ret (.fn "_law_alike" [.fn "_law_refusal" [.loc 5],.prim .mkList [.loc 6,.lit .none]])] [],
 .assign (.name 5) (.fn "_law_program" [.prim .slice [.loc 0,.lit (.int 3),.lit (.int 11),.lit .none],.loc 2,.fn "_law_cell_at" [.loc 0,.lit (.int 0)]]),
 .assign (.name 7) (.fn "_law_spoil" [(.loc 5),(.loc 3),(.loc 4),(.loc 2)]),
 .assign (.name 8) (.comp [false,false,false,false,false,false,false,false,false,false] [10,11] (.val (.loc 5)) none (.prim .len [.loc 11])),
 .assign (.name 9) (.fn "_law_refusal" [(.loc 5)]),
 .ret (.and (.fn "_law_alike" [.loc 9,.loc 7]) (.prim .eq [.comp [false,false,false,false,false,false,false,false,false,false] [10,11] (.val (.loc 5)) none (.prim .len [.loc 11]),.loc 8]))]⟩
noncomputable def f__law_made:Fn:=⟨0,2,[.assign (.name 0) (.prim .mkTup [.lit (.str [97]),.lit (.int 1),.lit (.int 0),.lit (.int 2)]),
 .assign (.name 1) (.prim .mkList [.newX "BadRow" "UndoError.__init__" [.loc 0],.newX "BadName" "UndoError.__init__" [.loc 0],.newX "BadNumber" "UndoError.__init__" [.loc 0],.newX "OwnBox" "UndoError.__init__" [.loc 0],.newX "TooDeep" "UndoError.__init__" [.loc 0],.newX "UndoError" "UndoError.__init__" [.loc 0]]),
 .iff (.prim .not [.prim .all [.comp [true,false] [2] (.val (.loc 1)) none (.and (.prim (.isinst ["tuple"]) [.xattr [97,116] (.loc 2)]) (.prim .eq [.xattr [97,116] (.loc 2),.loc 0]))]]) [.ret (.lit (.bool false))] [],
 .ret (.and (.prim .is [.xattr [97,116] (.newX "BadProgram" "UndoError.__init__" [.lit .none]),.lit .none]) (.prim .eq [.xattr [97,116] (.newX "BadLine" "UndoError.__init__" [.lit (.int 7)]),.lit (.int 7)]))]⟩
noncomputable def f_law:Fn:=⟨1,2,[.assign (.name 1) (.fn "_law_names" [.fn "_law_cell_at" [.loc 0,.lit (.int 0)]]),
 .ret (.and (.fn "_law_made" []) (.prim .all [.comp [true,true] [2] (.range [.lit (.int 3)]) none (.fn "_law_holds" [.loc 0,.loc 2,.loc 1])]))]⟩
end V3
namespace V3
open U U12 PySem
inductive Lt where
 | v (a:AV)
 | neg (n:Int)
 | ask
 | dct
 | tup (l:Lt)
 | lst (l:Lt)
 | nil
 | cons (x l:Lt)
noncomputable def Lt.pp(k:Nat):Lt->PE×List PE
 | .v a=>(.lit a,[])
 | .neg n=>(.prim .neg [.lit (.int n)],[])
 | .ask=>(.loc k,[])
 | .dct=>(.prim .mkDict0 [],[])
 | .tup l=>(.prim .mkTup (l.pp k).2,[])
 | .lst l=>(.prim .mkList (l.pp k).2,[])
 | .nil=>(.lit .none,[])
 | .cons x l=>(.lit .none,(x.pp k).1::(l.pp k).2)
noncomputable def Lt.len:Lt->Nat
 | .cons _ l=>l.len+1
 | _=>0
noncomputable def avOk:AV->Bool
 | .ref _=>false
 | .str s=>decide (s.length<1000)&&s.all λ c=>decide (c<128)
 | _=>true
noncomputable def Lt.ok:Lt->Bool×Bool
 | .v a=>(avOk a,false)
 | .neg _=>(true,false)
 | .ask=>(true,false)
 | .dct=>(true,false)
 | .tup l=>(l.ok.2&&decide (l.len<100),false)
 | .lst l=>(l.ok.2&&decide (l.len<100),false)
 | .nil=>(false,true)
 | .cons x l=>(false,x.ok.1&&l.ok.2)
noncomputable def askV:List AV:=[.str [61],.int 0,.int 0]
noncomputable def Nw(Z0:Hp):Addr->Prop:=λ a=>Z0 a=none
inductive Rt(N:Addr->Prop)(Z:Hp):Lt->List AV->Prop
 | v (a:AV):Rt N Z (.v a) [a]
 | neg (n:Int):Rt N Z (.neg n) [.int (-n)]
 | ask (a:Addr) (n:N a) (h:Z a=some (.tup askV)):Rt N Z .ask [.ref a]
 | dct (a:Addr) (n:N a) (h:Z a=some (.dict [])):Rt N Z .dct [.ref a]
 | tup (a:Addr) (l:Lt) (vs:List AV) (n:N a) (h:Z a=some (.tup vs)) (r:Rt N Z l vs):Rt N Z (.tup l) [.ref a]
 | lst (a:Addr) (l:Lt) (vs:List AV) (n:N a) (h:Z a=some (.list vs)) (r:Rt N Z l vs):Rt N Z (.lst l) [.ref a]
 | nil:Rt N Z .nil []
 | cons (x l:Lt) (v:AV) (vs:List AV) (h:Rt N Z x [v]) (r:Rt N Z l vs):Rt N Z (.cons x l) (v::vs)
theorem Rt.mv{N N':Addr->Prop}{Z Z':Hp}(m:∀ a,N a->N' a)(k:∀ a o,N a->Z a=some o->Z' a=some o){t:Lt}{vs:List AV}(h:Rt N Z t vs):Rt N' Z' t vs:=by
 induction h with
 | v a=>exact .v a
 | neg n=>exact .neg n
 | ask a n h=>exact .ask a (m _ n) (k _ _ n h)
 | dct a n h=>exact .dct a (m _ n) (k _ _ n h)
 | tup a l vs n h _ ih=>exact .tup a l vs (m _ n) (k _ _ n h) ih
 | lst a l vs n h _ ih=>exact .lst a l vs (m _ n) (k _ _ n h) ih
 | nil=>exact .nil
 | cons x l v vs _ _ h r=>exact .cons x l v vs h r
theorem Rt.le{N:Addr->Prop}{Z Z':Hp}(k:Le Z Z'){t:Lt}{vs:List AV}(h:Rt N Z t vs):Rt N Z' t vs:=h.mv (λ V n=>n) λ V V V e=>k _ _ e
theorem Rt.len{N:Addr->Prop}{Z:Hp}{t:Lt}{vs:List AV}(h:Rt N Z t vs):t.ok.2=true->vs.length=t.len:=by
 induction h with
 | nil=>exact λ V=>rfl
 | cons x l v vs _ _ _ ih=>exact λ e=>congrArg (·+1) (ih (Bool.and_eq_true_iff.mp e).2)
 | _=>exact nofun
theorem ev_lit{K:Kx}{hd:Bool}{d k:Nat}{ρ:U.Loc}{Z0:Hp}{X:XPost}{a0:Addr}(hk:locAt ρ k=some (.ref a0))(n0:Z0 a0=none)(t:Lt):
  (t.ok.1=true->∀ Z Q,Le Z0 Z->Z a0=some (.tup askV)->(∀ v Z',Le Z Z'->Rt (Nw Z0) Z' t [v]->Q v Z')->(t.pp k).1 K hd d ρ Z Q X) /\
  (t.ok.2=true->∀ Z (Q:List AV->Hp->Prop),Le Z0 Z->Z a0=some (.tup askV)->(∀ vs Z',Le Z Z'->Rt (Nw Z0) Z' t vs->Q vs Z')->pEs K hd d (t.pp k).2 ρ Z Q X):=by
 have tl:∀ n,n<100->n<tooLong:=λ n h=>Nat.lt_trans h (by decide)
 have fr:∀ {Z:Hp} {a:Addr},Le Z0 Z->Z a=none->Z0 a=none:=λ {Z a} l h=>by
  cases e:Z0 a with
  | none=>rfl
  | some o=>rw [l _ _ e] at h;cases h
 have nw:∀ {Z:Hp} {o:AO} {Q:Post},(∀ a Z',Z a=none->Le Z Z'->Z' a=some o->Q (.ref a) Z')->NewO Z o Q:=λ {Z o Q} h a ha=>h a _ ha (λ b p e=>by rw [setH_ne (λ q=>by rw [q,ha] at e;cases e)];exact e) (setH_here _ _ _)
 induction t with
 | v a=>exact ⟨λ V Z Q V V q=>q a Z (Le.refl _) (.v a),nofun⟩
 | neg n=>exact ⟨λ V Z Q V V q=>q _ Z (Le.refl _) (.neg n),nofun⟩
 | ask=>
  refine ⟨λ V Z Q l h q=>?_,nofun⟩
  show OkP (locAt ρ k) _
  rw [hk];exact q _ Z (Le.refl _) (.ask a0 n0 h)
 | dct=>exact ⟨λ V Z Q l h q=>⟨rfl,nw λ a Z' n l' e=>q _ Z' l' (.dct a (fr l n) e)⟩,nofun⟩
 | tup t ih=>
  refine ⟨λ o Z Q l h q=>?_,nofun⟩
  obtain ⟨o1,o2⟩:=Bool.and_eq_true_iff.mp o
  refine ih.2 o1 Z _ l h λ vs Z' l' r=>⟨by rw [r.len o1];exact tl _ (of_decide_eq_true o2),nw λ a Z2 n l₂ e=>?_⟩
  exact q _ Z2 (l'.trans l₂) (.tup a t vs (fr (l.trans l') n) e (r.le l₂))
 | lst t ih=>
  refine ⟨λ o Z Q l h q=>?_,nofun⟩
  obtain ⟨o1,o2⟩:=Bool.and_eq_true_iff.mp o
  refine ih.2 o1 Z _ l h λ vs Z' l' r=>⟨by rw [r.len o1];exact tl _ (of_decide_eq_true o2),nw λ a Z2 n l₂ e=>?_⟩
  exact q _ Z2 (l'.trans l₂) (.lst a t vs (fr (l.trans l') n) e (r.le l₂))
 | nil=>exact ⟨nofun,λ V Z Q V V q=>q [] Z (Le.refl _) .nil⟩
 | cons x t hx ht=>
  refine ⟨nofun,λ o Z Q l h q=>?_⟩
  obtain ⟨o1,o2⟩:=Bool.and_eq_true_iff.mp o
  refine hx.1 o1 Z _ l h λ v Z1 l1 r₁=>ht.2 o2 Z1 _ (l.trans l1) (l1 _ _ h) λ vs Z2 l₂ r₂=>q _ Z2 (l1.trans l₂) (.cons x t v vs (r₁.le l₂) r₂)
end V3
namespace V3
open U U12 PySem
noncomputable def ofL(ts:List Lt):Lt:=ts.foldr .cons .nil
noncomputable def tu(ts:List Lt):Lt:=.tup (ofL ts)
noncomputable def li(ts:List Lt):Lt:=.lst (ofL ts)
noncomputable def rowsP:List (List Lt):=[[.v .none,.v (.int 7),.v (.str [115,119,97,112]),li [],tu [],tu [.v (.str [115,119,97,112])],tu [.v (.str [115,119,97,112]),.v (.str [97])],tu [.v (.str [115,119,97,112]),.v (.str [97]),.v (.str [98]),.v (.str [99])],li [.v (.str [115,119,97,112]),.v (.str [97]),.v (.str [98])]],
 [tu [.v (.str [103,111]),.v (.str [97])]],
 [tu [.v (.str [80,117,116]),.v (.str [97]),.v (.str [43]),tu [.v (.int 1)]],tu [.v (.str [112,117,116]),.v (.str [97]),.v (.str [43])],tu [.v (.str [112,117,116]),.v (.str [97]),.v (.str [42]),tu [.v (.int 1)]],tu [.v (.str [112,117,116]),.v (.str [97]),.v (.int 1),tu [.v (.int 1)]]],
 [tu [.v (.str [112,117,116]),.v (.str [97]),.v (.str [43]),.v (.int 1)],tu [.v (.str [112,117,116]),.v (.str [97]),.v (.str [43]),tu []],tu [.v (.str [112,117,116]),.v (.str [97]),.v (.str [43]),li [.v (.int 1)]],tu [.v (.str [112,117,116]),.v (.str [97]),.v (.str [43]),tu [.v (.str [43]),.v (.int 1)]]],
 [tu [.v (.str [112,117,116]),.v (.str [97]),.v (.str [43]),tu [.v (.str [42,42]),.v (.str [98]),.v (.int 1)]],tu [.v (.str [112,117,116]),.v (.str [97]),.v (.str [43]),tu [.v .none,.v (.str [98]),.v (.int 1)]],tu [.v (.str [112,117,116]),.v (.str [97]),li [.v (.str [43])],tu [.v (.int 1)]]],
 [tu [.v (.str [112,117,116]),.v (.str [97]),.v (.str [43]),tu [li [.v (.str [43])],.v (.str [98]),.v (.int 1)]],tu [.v (.str [105,102]),.ask,li [],li []],tu [.v (.str [105,102]),tu [.v (.str [61]),.v (.int 1)],li [],li [],.ask]],
 [tu [.v (.str [105,102]),tu [.v (.str [43]),.v (.int 1),.v (.int 1)],li [],li [],.ask],tu [.v (.str [105,102]),.ask,tu [],li [],.ask],tu [.v (.str [105,102]),.ask,li [],.v .none,.ask]],
 [tu [.v (.str [114,111,117,110,100]),.ask,li [],li [],.v (.str [61])],tu [li [],.v (.str [97]),.v (.str [98])],tu [.dct,.v (.str [97])],tu [.v .none,.v (.str [97]),.v (.str [98])],tu [li [.v (.str [112,117,115,104])],.v (.str [97])]],
 [tu [.v (.str [114,111,117,110,100]),.ask,li [],li [],tu [.v (.str [61]),.v (.int 1),.v (.int 1),.v (.int 1)]],tu [.v (.str [112,117,115,104]),.v (.str [97]),.v (.str [98])],tu [.v (.str [99,97,108,108]),.v (.str [97]),.v (.str [98])]]]
noncomputable def namesP:List (List Lt):=[[tu [.v (.str [115,119,97,112]),.v (.str []),.v (.str [97])],tu [.v (.str [115,119,97,112]),.v (.str [97]),.v (.str [97,98,99,100,101,102,103])],tu [.v (.str [112,117,115,104]),.v (.str [105,102])],tu [.v (.str [112,117,108,108]),.v (.str [49,97])],tu [.v (.str [112,117,116]),.v (.str [65]),.v (.str [43]),tu [.v (.int 1)]]],
 [tu [.v (.str [112,117,116]),.v (.str [97]),.v (.str [43]),tu [.v (.str [101,108,115,101])]],tu [.v (.str [112,117,116]),.v (.str [97]),.v (.str [43]),tu [.v (.str [60]),.v (.str [98]),.v (.str [99,45,100])]],tu [.v (.str [99,97,108,108]),.v (.str [110,111,98,111,100,121])],tu [.v (.str [117,110,100,111]),.v (.int 5)]],
 [tu [.v (.str [99,97,108,108]),li [.v (.str [120])]],tu [.v (.str [105,102]),tu [.v (.str [61]),.v (.str []),.v (.int 1)],li [],li [],.ask],tu [.v (.str [105,102]),.ask,li [],li [],tu [.v (.str [61]),.v (.int 1),.v (.str [98,32])]]],
 [tu [.v (.str [112,117,115,104]),.v .none],tu [.v (.str [112,117,116]),.v (.int 5),.v (.str [43]),tu [.v (.int 1)]],tu [.v (.str [115,119,97,112]),.v (.str [97]),.v (.bool true)],tu [.v (.str [117,110,100,111]),.dct],tu [.v (.str [112,117,108,108]),li [.v (.str [97])]]]]
noncomputable def twiceP:List (List Lt):=[[tu [tu [.v (.str [112,117,116]),.v (.str [65]),.v (.str [42]),tu [.neg 1]],.v (.str [110,97,109,101])],tu [tu [.v (.str [112,117,116]),.v (.str [97]),.v (.str [42]),tu [.v (.str [97])]],.v (.str [114,111,119])],tu [tu [.v (.str [115,119,97,112]),.v (.str [65]),.v (.int 5)],.v (.str [110,97,109,101])]],
 [tu [tu [.v (.str [112,117,116]),.v (.str [97]),.v (.str [43]),tu [.v (.str [43]),.neg 1,.v (.str [97])]],.v (.str [110,117,109,98,101,114])],tu [tu [.v (.str [112,117,116]),.v (.str [97]),.v (.str [43]),tu [.v (.str [43]),.v (.str [97]),.v .none]],.v (.str [110,117,109,98,101,114])]],
 [tu [tu [.v (.str [105,102]),tu [.v (.str [61]),.v (.str [65]),.v (.int 1)],tu [],li [],.ask],.v (.str [110,97,109,101])],tu [tu [.v (.str [105,102]),.ask,tu [],li [],tu [.v (.str [43]),.v (.int 1),.v (.int 1)]],.v (.str [114,111,119])]],
 [tu [tu [.v (.str [105,102]),.ask,li [.v (.int 5)],.v .none,tu [.v (.str [61]),.v (.int 1),.v (.bool true)]],.v (.str [114,111,119])],tu [tu [.v (.str [105,102]),.ask,li [.v (.int 5)],li [],tu [.v (.str [61]),.v (.int 1),.v (.bool true)]],.v (.str [110,117,109,98,101,114])]],
 [tu [tu [.v (.str [114,111,117,110,100]),tu [.v (.str [60]),.v .none,.v (.str [65])],li [],li [],.ask],.v (.str [110,117,109,98,101,114])],tu [tu [.v (.str [112,117,116]),.v (.str [97]),.v (.str [43]),tu [.v (.str [42,42]),.v (.str [65]),.v (.int 1)]],.v (.str [114,111,119])]],
 [tu [tu [.v (.str [114,111,117,110,100]),tu [.v (.str [60]),.v (.str [65]),.v .none],li [],li [],.ask],.v (.str [110,97,109,101])],tu [tu [.v (.str [112,117,116]),.v (.str [97]),.v (.str [45]),tu [.v (.str [61]),.v (.str [65]),.v (.str [97])]],.v (.str [110,97,109,101])]]]
noncomputable def numP:List Lt:=[.neg 1,.v (.int 1000000),.v (.bool true),.v .none,li []]
noncomputable def numQ:List Lt:=[tu [.v (.str [105,102]),tu [.v (.str [61]),.v (.int 1),.v .none],li [],li [],.ask],tu [.v (.str [114,111,117,110,100]),.ask,li [],li [],tu [.v (.str [60]),.dct,.v (.int 1)]]]
noncomputable def ownP:List Lt:=[tu [.v (.str [112,117,116]),.v (.str [97]),.v (.str [43]),tu [.v (.str [97])]],tu [.v (.str [112,117,116]),.v (.str [98]),.v (.str [45]),tu [.v (.str [42]),.v (.int 3),.v (.str [98])]],tu [.v (.str [112,117,116]),.v (.str [98]),.v (.str [45]),tu [.v (.str [60]),.v (.str [98]),.v (.str [98])]]]
section
variable {N:Addr->Prop}{Z:Hp}
theorem Rt.nil'{vs:List AV}(h:Rt N Z (ofL []) vs):vs=[]:=by cases h;rfl
theorem Rt.cons'{t:Lt}{ts:List Lt}{vs:List AV}(h:Rt N Z (ofL (t::ts)) vs):∃ v r,vs=v::r/\Rt N Z t [v]/\Rt N Z (ofL ts) r:=by
 cases h with
 | cons _ _ v r h q=>exact ⟨v,r,rfl,h,q⟩
theorem Rt.app{us:List Lt}{ws:List AV}(h':Rt N Z (ofL us) ws):∀ {ts:List Lt} {vs:List AV},Rt N Z (ofL ts) vs->Rt N Z (ofL (ts++us)) (vs++ws)
 | [],_,h=>by cases h.nil';exact h'
 | t::ts,_,h=>by obtain ⟨v,r,rfl,h1,h2⟩:=h.cons';exact .cons t _ v _ h1 (Rt.app h' h2)
theorem Rt.lenL:∀ {ts:List Lt} {vs:List AV},Rt N Z (ofL ts) vs->vs.length=ts.length
 | [],_,h=>by cases h.nil';rfl
 | t::ts,_,h=>by obtain ⟨v,r,rfl,h1,h2⟩:=h.cons';exact congrArg (·+1) (Rt.lenL h2)
theorem Rt.at':∀ {ts:List Lt} {vs:List AV} {i:Nat} {v:AV},Rt N Z (ofL ts) vs->vs[i]?=some v->∃ t,ts[i]?=some t/\Rt N Z t [v]
 | [],_,_,_,h,e=>by cases h.nil';cases e
 | t::ts,_,0,_,h,e=>by obtain ⟨v,r,rfl,h1,h2⟩:=h.cons';cases e;exact ⟨t,rfl,h1⟩
 | t::ts,_,i+1,_,h,e=>by obtain ⟨v,r,rfl,h1,h2⟩:=h.cons';exact Rt.at' (i:=i) h2 e
theorem Rt.list{ts:List Lt}{v:AV}(h:Rt N Z (li ts) [v]):∃ a vs,v=.ref a/\N a/\Z a=some (.list vs)/\Rt N Z (ofL ts) vs:=by
 cases h with
 | lst a _ vs n h r=>exact ⟨a,vs,rfl,n,h,r⟩
theorem Rt.tuple{ts:List Lt}{v:AV}(h:Rt N Z (tu ts) [v]):∃ a vs,v=.ref a/\N a/\Z a=some (.tup vs)/\Rt N Z (ofL ts) vs:=by
 cases h with
 | tup a _ vs n h r=>exact ⟨a,vs,rfl,n,h,r⟩
end
noncomputable def accS(p:List Lt):PS:=.assign (.name 1) (.prim .add [.loc 1,((li p).pp 0).1])
noncomputable def accB:List (List Lt)->List PS
 | []=>[]
 | p::ps=>.assign (.name 0) (.prim .mkTup [.lit (.str [61]),.lit (.int 0),.lit (.int 0)])::.assign (.name 1) ((li p).pp 0).1::(ps.map accS++[.ret (.loc 1)])
noncomputable def f__law_bad_rows:Fn:=⟨0,2,accB rowsP⟩
noncomputable def f__law_bad_names:Fn:=⟨0,2,accB namesP⟩
noncomputable def f__law_bad_twice:Fn:=⟨0,2,accB twiceP⟩
noncomputable def okP'(p:List Lt):Bool:=(li p).ok.1
inductive LtL(Z0 Z:Hp)(ts:List Lt)(v:AV):Prop
 | mk (a:Addr) (vs:List AV) (e:v=.ref a) (n:Z0 a=none) (h:Z a=some (.list vs)) (r:Rt (Nw Z0) Z (ofL ts) vs)
theorem acc_ok{K:Kx}{hd:Bool}{d:Nat}{Qn:SPost}{Qr:Post}{X:SX}{Z0:Hp}{a0:Addr}(n0:Z0 a0=none):∀ (ps:List (List Lt)) {ts:List Lt} {a:Addr} {vs:List AV} {Z:Hp},ps.all okP'=true->ts.length+ps.flatten.length<500 ->
  Le Z0 Z->Z a0=some (.tup askV)->Z a=some (.list vs)->Z0 a=none->Rt (Nw Z0) Z (ofL ts) vs->(∀ v Z',Le Z Z'->LtL Z0 Z' (ts++ps.flatten) v->Qr v Z') ->
  pSs K hd d (ps.map accS++[.ret (.loc 1)]) [some (.ref a0),some (.ref a)] Z Qn Qr X
 | [],ts,a,vs,Z,_,_,l,h0,h,n,r,q=>q _ Z (Le.refl _) ⟨a,vs,rfl,n,h,by rw [List.flatten_nil,append_nil];exact r⟩
 | p::ps,ts,a,vs,Z,o,hl,l,h0,h,n,r,q=>by
  obtain ⟨o1,o2⟩:=Bool.and_eq_true_iff.mp o
  rw [flatten_cons,length_append] at hl
  refine seq λ R hR=>?_
  show ((li p).pp 0).1 K hd d [some (.ref a0),some (.ref a)] Z _ _
  refine (ev_lit (k:=0) rfl n0 (li p)).1 o1 Z _ l h0 λ v Z1 l1 r₁=>?_
  obtain ⟨b,ws,rfl,nb,hb,rb⟩:=r₁.list
  show OkP (Z1 a) λ o=>OkP (Z1 b) λ p=>AddR Z1 o p _
  refine okP (l1 _ _ h) (okP hb ⟨?_,newO λ c Z2 hc l₂ hc₂=>?_⟩)
  . rw [r.lenL,rb.lenL];exact Nat.lt_trans (Nat.lt_of_le_of_lt (Nat.le_trans (Nat.le_add_right _ _) (Nat.le_of_eq (Nat.add_assoc ..))) hl) (by decide)
  have nc:Z0 c=none:=by
   cases e:Z0 c with
   | none=>rfl
   | some o=>rw [(l.trans l1) _ _ e] at hc;cases hc
  refine hR _ _ (acc_ok n0 ps (ts:=ts++p) o2 ?_ (l.trans (l1.trans l₂)) ((l1.trans l₂) _ _ h0) hc₂ nc (((rb.le l₂).app (r.le (l1.trans l₂)))) λ v Z' l' r'=>q v Z' ((l1.trans l₂).trans l') ?_)
  . rw [length_append,Nat.add_assoc];exact hl
  . rw [flatten_cons,<-append_assoc];exact r'
theorem acc_fn{K:Kx}{hd:Bool}{d:Nat}{Qn:SPost}{Qr:Post}{X:SX}{Z:Hp}(ps:List (List Lt))(hp:ps≠[])(o:ps.all okP'=true)(hl:ps.flatten.length<500)(q:∀ v Z',Le Z Z'->LtL Z Z' ps.flatten v->Qr v Z'):
  pSs K hd d (accB ps) [none,none] Z Qn Qr X:=by
 cases ps with
 | nil=>exact absurd rfl hp
 | cons p ps=>
  obtain ⟨o1,o2⟩:=Bool.and_eq_true_iff.mp o
  refine seq λ R hR=>⟨by decide,newO λ a0 Z1 n0 l1 h0=>hR _ _ ?_⟩
  refine seq λ R hR=>?_
  show ((li p).pp 0).1 K hd d [some (.ref a0),none] Z1 _ _
  refine (ev_lit (k:=0) rfl n0 (li p)).1 o1 Z1 _ l1 h0 λ v Z2 l₂ r₂=>?_
  obtain ⟨b,ws,rfl,nb,hb,rb⟩:=r₂.list
  rw [flatten_cons] at hl q
  exact hR _ _ (acc_ok n0 ps o2 (by rw [length_append] at hl;exact hl) (l1.trans l₂) (l₂ _ _ h0) hb nb rb λ v Z' l' r'=>q v Z' ((l1.trans l₂).trans l') r')
end V3
namespace V3
open U U12 PySem
theorem fresh_le{Z0 Z:Hp}{a:Addr}(l:Le Z0 Z)(h:Z a=none):Z0 a=none:=by
 cases e:Z0 a with
 | none=>rfl
 | some o=>rw [l _ _ e] at h;cases h
theorem Rt.base{Z0 Z1 Z:Hp}(k:Le Z0 Z1){t:Lt}{vs:List AV}(h:Rt (Nw Z1) Z t vs):Rt (Nw Z0) Z t vs:=h.mv (λ V n=>fresh_le k n) λ V V V e=>e
theorem LtL.base{Z0 Z1 Z:Hp}(k:Le Z0 Z1){ts:List Lt}{v:AV}(h:LtL Z1 Z ts v):LtL Z0 Z ts v:=by
 obtain ⟨a,vs,e,n,h,r⟩:=h
 exact ⟨a,vs,e,fresh_le k n,h,r.base k⟩
theorem LtL.le{Z0 Z Z':Hp}(k:Le Z Z'){ts:List Lt}{v:AV}(h:LtL Z0 Z ts v):LtL Z0 Z' ts v:=by
 obtain ⟨a,vs,e,n,h,r⟩:=h
 exact ⟨a,vs,e,n,k _ _ h,r.le k⟩
theorem Rt.tupI{Z0 Z:Hp}{a:Addr}{ts:List Lt}{vs:List AV}(n:Nw Z0 a)(h:Z a=some (.tup vs))(r:Rt (Nw Z0) Z (ofL ts) vs):Rt (Nw Z0) Z (tu ts) [.ref a]:=.tup a _ vs n h r
theorem add_ltl{Z0 Z:Hp}{ts us:List Lt}{v w:AV}{Q:Post}(l:Le Z0 Z)(h:LtL Z0 Z ts v)(h':LtL Z0 Z us w)(hl:ts.length+us.length<500)(q:∀ x Z',Le Z Z'->LtL Z0 Z' (ts++us) x->Q x Z'):Op.add Z [v,w] Q:=by
 obtain ⟨a,vs,rfl,n,h,r⟩:=h
 obtain ⟨b,ws,rfl,n',h',r'⟩:=h'
 show OkP (Z a) λ o=>OkP (Z b) λ p=>AddR Z o p _
 refine okP h (okP h' ⟨?_,newO λ c Z2 hc l₂ hc₂=>q _ Z2 l₂ ⟨c,_,rfl,fresh_le l hc,hc₂,(r'.app r).le l₂⟩⟩)
 rw [r.lenL,r'.lenL];exact Nat.lt_trans hl (by decide)
theorem cl_loop{step:U.Loc->Hp->(Option AV->Hp->Prop)->Prop}{i:Nat}{ρ:U.Loc}{Q:Post}{Z0:Hp}{src:Addr}{vs0:List AV}(F:Lt->Lt)
  (st:∀ t x Z (k:Option AV->Hp->Prop),Le Z0 Z->Rt (Nw Z0) Z t [x]->(∀ y Z',Le Z Z'->Rt (Nw Z0) Z' (F t) [y]->k (some y) Z')->step (ρ.set i (some x)) Z k):
  ∀ (ts:List Lt) {us:List Lt} {vs acc:List AV} {Z:Hp},us.length+ts.length<500->Le Z0 Z->Z src=some (.list vs0)->Rt (Nw Z0) Z (ofL ts) vs->Rt (Nw Z0) Z (ofL us) acc ->
  (∀ v Z',Le Z Z'->LtL Z0 Z' (us++ts.map F) v->Q v Z')->pCompL step [i] ρ (.keep src (.list vs0)) (vs.map .one) acc Z Q
 | [],us,vs,acc,Z,hl,l,hs,r,ra,q=>by
  cases r.nil'
  exact ⟨hs,newO λ c Z2 hc l₂ hc₂=>q _ Z2 l₂ ⟨c,_,rfl,fresh_le l hc,hc₂,by rw [map_nil,append_nil];exact ra.le l₂⟩⟩
 | t::ts,us,vs,acc,Z,hl,l,hs,r,ra,q=>by
  obtain ⟨v,vs,rfl,r1,r2⟩:=r.cons'
  rw [length_cons] at hl
  refine ⟨hs,?_,_,rfl,st t v Z _ l r1 λ y Z' l' ry=>?_⟩
  . rw [ra.lenL];exact Nat.lt_trans (Nat.lt_of_le_of_lt (Nat.le_add_right _ _) hl) (by decide)
  refine cl_loop F st ts (us:=us++[F t]) (by rw [length_append,length_singleton,Nat.add_assoc,Nat.add_comm 1];exact hl) (l.trans l') (l' _ _ hs) (r2.le l') (.app (.cons _ _ _ _ ry .nil) (ra.le l')) λ w Z2 l₂ h=>q w Z2 (l'.trans l₂) ?_
  rw [append_assoc] at h;exact h
noncomputable def cmpE(src elt:PE):PE:=.comp [false,false,false,false,false] [5] (.val src) none elt
theorem cmp_ok{K:Kx}{hd:Bool}{d:Nat}{r0 r1 r2 r3 r4:Option AV}{Z Z0:Hp}{Q:Post}{X:XPost}{src elt:PE}{ts:List Lt}(F:Lt->Lt)(hl:ts.length<500)(l:Le Z0 Z)
  (hs:∀ Q':Post,(∀ v Z1,Le Z Z1->LtL Z0 Z1 ts v->Q' v Z1)->src K hd d [r0,r1,r2,r3,r4] Z Q' X)
  (he:∀ t x Z1 (Q':Post) X',Le Z0 Z1->Rt (Nw Z0) Z1 t [x]->(∀ y Z',Le Z1 Z'->Rt (Nw Z0) Z' (F t) [y]->Q' y Z')->elt K hd d [none,none,none,none,none,some x] Z1 Q' X')
  (q:∀ v Z',Le Z Z'->LtL Z0 Z' (ts.map F) v->Q v Z'):cmpE src elt K hd d [r0,r1,r2,r3,r4] Z Q X:=by
 refine ⟨rfl,hs _ λ v Z1 l1 h=>?_⟩
 obtain ⟨a,vs,rfl,n,h,r⟩:=h
 show OkP (Z1 a) _
 refine okP h ?_
 refine cl_loop F (λ t x Z2 k l₂ rx hk=>?_) ts (us:=[]) (by rw [length_nil,Nat.zero_add];exact hl) (l.trans l1) h r .nil λ v Z' l' h'=>q v Z' (l1.trans l') h'
 exact he t x Z2 _ _ l₂ rx λ y Z' l' ry=>hk y Z' l' ry
noncomputable def pairE(w:Txt):PE:=.prim .mkTup [.loc 5,.lit (.str w)]
noncomputable def pr(w:Txt)(t:Lt):Lt:=tu [t,.v (.str w)]
theorem pair_ok{K:Kx}{hd:Bool}{d:Nat}{Z0:Hp}(w:Txt)(t:Lt)(x:AV)(Z1:Hp)(Q':Post)(X':XPost)(l:Le Z0 Z1)(r:Rt (Nw Z0) Z1 t [x])(h:∀ y Z',Le Z1 Z'->Rt (Nw Z0) Z' (pr w t) [y]->Q' y Z'):
  pairE w K hd d [none,none,none,none,none,some x] Z1 Q' X':=
 ⟨show 2<tooLong by decide,newO λ a Z2 n l₂ e=>h _ Z2 l₂ (.tupI (fresh_le l n) e (.cons _ _ _ _ (r.le l₂) (.cons _ _ _ _ (.v _) .nil)))⟩
noncomputable def numE:PE:=.prim .mkTup [.lit (.str [112,117,116]),.lit (.str [97]),.lit (.str [43]),.prim .mkTup [.loc 5]]
noncomputable def putN(t:Lt):Lt:=tu [.v (.str [112,117,116]),.v (.str [97]),.v (.str [43]),tu [t]]
theorem num_ok{K:Kx}{hd:Bool}{d:Nat}{Z0:Hp}(t:Lt)(x:AV)(Z1:Hp)(Q':Post)(X':XPost)(l:Le Z0 Z1)(r:Rt (Nw Z0) Z1 t [x])(h:∀ y Z',Le Z1 Z'->Rt (Nw Z0) Z' (putN t) [y]->Q' y Z'):
  numE K hd d [none,none,none,none,none,some x] Z1 Q' X':=
 ⟨show 1<tooLong by decide,newO λ a Z2 n l₂ e=>⟨show 4<tooLong by decide,newO λ b Z3 n' l₃ e'=>h _ Z3 (l₂.trans l₃) (.tupI (fresh_le (l.trans l₂) n') e' (.cons _ _ _ _ (.v _) (.cons _ _ _ _ (.v _) (.cons _ _ _ _ (.v _) (.cons _ _ _ _ (.tupI (fresh_le l n) (l₃ _ _ e) (.cons _ _ _ _ (r.le (l₂.trans l₃)) .nil)) .nil)))))⟩⟩
noncomputable def rowW:Txt:=[114,111,119]
noncomputable def nameW:Txt:=[110,97,109,101]
noncomputable def numW:Txt:=[110,117,109,98,101,114]
noncomputable def ownW:Txt:=[111,119,110]
noncomputable def f__law_bad_row:Fn:=⟨1,5,[.assign (.name 1) (.prim .mkTup [.lit (.str [61]),.lit (.int 0),.lit (.int 0)]),
 .assign (.name 2) (cmpE ((li numP).pp 1).1 numE),
 .assign (.name 2) (.prim .add [.loc 2,((li numQ).pp 1).1]),
 .assign (.name 3) ((li ownP).pp 1).1,
 .assign (.name 4) (.prim .add [cmpE (.fn "_law_bad_rows" []) (pairE rowW),cmpE (.fn "_law_bad_names" []) (pairE nameW)]),
 .assign (.name 4) (.prim .add [.prim .add [.prim .add [.loc 4,cmpE (.loc 2) (pairE numW)],cmpE (.loc 3) (pairE ownW)],.fn "_law_bad_twice" []]),
 .ret (.prim .item [.loc 4,.prim .mod [.loc 0,.prim .len [.loc 4]]])]⟩
noncomputable def allP:List Lt:=rowsP.flatten.map (pr rowW)++namesP.flatten.map (pr nameW)++(numP.map putN++numQ).map (pr numW)++ownP.map (pr ownW)++twiceP.flatten
noncomputable def tabB:List (String×Fn):=[("_law_bad_rows",f__law_bad_rows),("_law_bad_names",f__law_bad_names),("_law_bad_twice",f__law_bad_twice),("_law_bad_row",f__law_bad_row)]
section
variable {K:Kx}(T:Tab K tabB){d:Nat}{Z:Hp}{Q:Post}{X:XPost}
include T
theorem s_bad_rows(q:∀ v Z',Le Z Z'->LtL Z Z' rowsP.flatten v->Q v Z'):K.fn false d "_law_bad_rows" [] Z Q X:=
 ent' T f__law_bad_rows (.head _) rfl (ρ:=[none,none]) rfl (acc_fn rowsP nofun (by decide) (by decide) q)
theorem s_bad_names(q:∀ v Z',Le Z Z'->LtL Z Z' namesP.flatten v->Q v Z'):K.fn false d "_law_bad_names" [] Z Q X:=
 ent' T f__law_bad_names (.tail _ (.head _)) rfl (ρ:=[none,none]) rfl (acc_fn namesP nofun (by decide) (by decide) q)
theorem s_bad_twice(q:∀ v Z',Le Z Z'->LtL Z Z' twiceP.flatten v->Q v Z'):K.fn false d "_law_bad_twice" [] Z Q X:=
 ent' T f__law_bad_twice (.tail _ (.tail _ (.head _))) rfl (ρ:=[none,none]) rfl (acc_fn twiceP nofun (by decide) (by decide) q)
theorem s_bad_row{n:Int}(hd:d≠0)(q:∀ t∈allP,∀ v Z',Le Z Z'->Rt (Nw Z) Z' t [v]->Q v Z'):K.fn false d "_law_bad_row" [.int n] Z Q X:=by
 refine ent' T f__law_bad_row (.tail _ (.tail _ (.tail _ (.head _)))) rfl (ρ:=[some (.int n),none,none,none,none]) rfl ?_
 refine seq λ R hR=>⟨by decide,newO λ a0 Z1 n0 l1 h0=>hR _ _ (seq λ R hR=>?_)⟩
 refine cmp_ok (Z0:=Z) putN (ts:=numP) (by decide) l1 (λ Q' hQ=>(ev_lit (k:=1) rfl n0 (li numP)).1 (by decide) Z1 _ l1 h0 λ v Z2 l₂ r=>hQ v Z2 l₂ ?_) num_ok λ v2 Z2 l₂ g2=>hR _ _ (seq λ R hR=>?_)
 . obtain ⟨a,vs,e,n,h,r⟩:=r.list;exact ⟨a,vs,e,n,h,r⟩
 have L2:=l1.trans l₂
 refine (ev_lit (k:=1) rfl n0 (li numQ)).1 (by decide) Z2 _ L2 (l₂ _ _ h0) λ v Z3 l₃ r=>add_ltl (L2.trans l₃) (g2.le l₃) (by obtain ⟨a,vs,e,n,h,r⟩:=r.list;exact ⟨a,vs,e,n,h,r⟩) (by decide) λ v3 Z4 l4 g3=>hR _ _ (seq λ R hR=>?_)
 have L4:=L2.trans (l₃.trans l4)
 refine (ev_lit (k:=1) rfl n0 (li ownP)).1 (by decide) Z4 _ L4 ((l₂.trans (l₃.trans l4)) _ _ h0) λ v4 Z5 l₅ r=>hR _ _ (seq λ R hR=>?_)
 have g4:LtL Z Z5 ownP v4:=by obtain ⟨a,vs,e,n,h,r⟩:=r.list;exact ⟨a,vs,e,n,h,r⟩
 have L5:=L4.trans l₅
 refine cmp_ok (Z0:=Z) (pr rowW) (ts:=rowsP.flatten) (by decide) L5 (λ Q' hQ=>⟨hd,s_bad_rows T λ v Z' l' g=>hQ v Z' l' (g.base L5)⟩) (pair_ok rowW) λ v5 Z6 l6 g5=>?_
 have L6:=L5.trans l6
 refine cmp_ok (Z0:=Z) (pr nameW) (ts:=namesP.flatten) (by decide) L6 (λ Q' hQ=>⟨hd,s_bad_names T λ v Z' l' g=>hQ v Z' l' (g.base L6)⟩) (pair_ok nameW) λ v6 Z7 l7 g6=>?_
 have L7:=L6.trans l7
 refine add_ltl L7 (g5.le l7) g6 (by decide) λ v7 Z8 l₈ g7=>hR _ _ (seq λ R hR=>?_)
 have L8:=L7.trans l₈
 refine cmp_ok (Z0:=Z) (pr numW) (ts:=numP.map putN++numQ) (by decide) L8 (λ Q' hQ=>hQ v3 Z8 (Le.refl _) (g3.le (l₅.trans (l6.trans (l7.trans l₈))))) (pair_ok numW) λ v8 Z9 l9 g8=>?_
 have L9:=L8.trans l9
 refine add_ltl L9 (g7.le l9) g8 (by decide) λ v9 Z10 l10 g9=>?_
 have L10:=L9.trans l10
 refine cmp_ok (Z0:=Z) (pr ownW) (ts:=ownP) (by decide) L10 (λ Q' hQ=>hQ v4 Z10 (Le.refl _) (g4.le (l6.trans (l7.trans (l₈.trans (l9.trans l10)))))) (pair_ok ownW) λ v10 Z11 l11 g10=>?_
 have L11:=L10.trans l11
 refine add_ltl L11 (g9.le l11) g10 (by decide) λ v11 Z12 l12 g11=>?_
 have L12:=L11.trans l12
 refine ⟨hd,s_bad_twice T λ v12 Z13 l13 g12=>?_⟩
 refine add_ltl (L12.trans l13) (g11.le l13) (g12.base L12) (by decide) λ v13 Z14 l14 g13=>hR _ _ (last ?_)
 obtain ⟨a,vs,rfl,na,ha,r⟩:=g13
 have hlen:vs.length=75:=r.lenL
 have L14:=L12.trans (l13.trans l14)
 show OkP (Z14 a) _
 refine okP ha ⟨by rw [hlen];decide,?_⟩
 show _≠_/\_
 refine ⟨by rw [hlen];decide,?_⟩
 show OkP (Z14 a) _
 refine okP ha ?_
 rw [hlen]
 have h0:0<=Int.fmod n 75:=fmod_lo _ (by decide)
 have h1:Int.fmod n 75<75:=fmod_hi _ (by decide)
 refine okP (itemL_ok h0 (by rw [hlen];exact h1) (by rw [hlen];decide)) ?_
 obtain ⟨t,ht,rt⟩:=r.at' (i:=(Int.fmod n 75).toNat) (v:=pick vs (Int.fmod n 75)) (by
  have:(Int.fmod n 75).toNat<vs.length:=by rw [hlen];exact (Int.toNat_lt h0).mpr h1
  rw [pick,List.getElem?_eq_getElem this,List.getD_eq_getElem?_getD,List.getElem?_eq_getElem this];rfl)
 exact q t (List.mem_of_getElem? ht) _ Z14 L14 rt
end
end V3
namespace V3
open U U12 PySem
noncomputable def Lt.kn:Lt->String
 | .v .none=>"NoneType"
 | .v (.bool _)=>"bool"
 | .v (.int _)=>"int"
 | .v (.str _)=>"str"
 | .neg _=>"int"
 | .ask=>"tuple"
 | .dct=>"dict"
 | .tup _=>"tuple"
 | .lst _=>"list"
 | _=>""
noncomputable def Lt.str?:Lt->Option Txt
 | .v (.str s)=>some s
 | _=>none
noncomputable def Lt.int?:Lt->Option Int
 | .v (.int i)=>some i
 | .neg n=>some (-n)
 | _=>none
noncomputable def Lt.tl:Lt->List Lt
 | .cons x l=>x::l.tl
 | _=>[]
noncomputable def Lt.its:Lt->Option (List Lt)
 | .ask=>some [.v (.str [61]),.v (.int 0),.v (.int 0)]
 | .tup l=>some l.tl
 | _=>none
noncomputable def Lt.isL:Lt->Bool
 | .lst _=>true
 | _=>false
theorem av_cases{P:AV->Prop}{a:AV}(o:avOk a=true)(h1:P .none)(h2:∀ b,P (.bool b))(h3:∀ i,P (.int i))(h4:∀ s,P (.str s)):P a:=by
 cases a with
 | none=>exact h1
 | bool b=>exact h2 b
 | int i=>exact h3 i
 | str s=>exact h4 s
 | ref a=>cases o
section
variable {N:Addr->Prop}{Z:Hp}{t:Lt}{v:AV}
theorem Rt.kind(h:Rt N Z t [v])(o:t.ok.1=true):kindIs Z v=some t.kn:=by
 cases h with
 | v=>exact av_cases (P:=λ a=>kindIs Z a=some (Lt.v a).kn) o rfl (λ V=>rfl) (λ V=>rfl) λ V=>rfl
 | neg=>rfl
 | ask a n h=>show kO (Z a)=_;rw [h];rfl
 | dct a n h=>show kO (Z a)=_;rw [h];rfl
 | tup a l vs n h r=>show kO (Z a)=_;rw [h];rfl
 | lst a l vs n h r=>show kO (Z a)=_;rw [h];rfl
 | cons=>cases o
theorem kn_str(o:t.ok.1=true):isOf t.kn ["str"]=t.str?.isSome:=by
 cases t with
 | v a=>exact av_cases (P:=λ a=>isOf (Lt.v a).kn ["str"]=(Lt.v a).str?.isSome) o (by decide) (λ V=>by decide +revert) (λ V=>rfl) λ V=>rfl
 | nil=>cases o
 | cons=>cases o
 | _=>rfl
theorem kn_tup(o:t.ok.1=true):isOf t.kn ["tuple"]=t.its.isSome:=by
 cases t with
 | v a=>exact av_cases (P:=λ a=>isOf (Lt.v a).kn ["tuple"]=(Lt.v a).its.isSome) o rfl (λ V=>rfl) (λ V=>rfl) λ V=>rfl
 | nil=>cases o
 | cons=>cases o
 | _=>rfl
theorem kn_lst(o:t.ok.1=true):isOf t.kn ["list"]=t.isL:=by
 cases t with
 | v a=>exact av_cases (P:=λ a=>isOf (Lt.v a).kn ["list"]=(Lt.v a).isL) o rfl (λ V=>rfl) (λ V=>rfl) λ V=>rfl
 | nil=>cases o
 | cons=>cases o
 | _=>rfl
theorem Rt.str(h:Rt N Z t [v]){s:Txt}(e:t.str?=some s):t=.v (.str s)/\v=.str s:=by
 cases h with
 | v=>cases v <;> cases e;exact ⟨rfl,rfl⟩
 | _=>cases e
theorem tl_of:∀ {l:Lt},l.ok.2=true->ofL l.tl=l/\l.tl.all (λ t=>t.ok.1)=true
 | .nil,_=>⟨rfl,rfl⟩
 | .cons x l,o=>by
  obtain ⟨o1,o2⟩:=Bool.and_eq_true_iff.mp o
  obtain ⟨h1,h2⟩:=tl_of o2
  exact ⟨congrArg (Lt.cons x) h1,Bool.and_eq_true_iff.mpr ⟨o1,h2⟩⟩
 | .v _,o | .neg _,o | .ask,o | .dct,o | .tup _,o | .lst _,o=>by cases o
theorem Rt.items(h:Rt N Z t [v])(o:t.ok.1=true){ts:List Lt}(e:t.its=some ts):∃ a vs,v=.ref a/\Z a=some (.tup vs)/\Rt N Z (ofL ts) vs/\ts.all (λ t=>t.ok.1)=true:=by
 cases h with
 | ask a n h=>cases e;exact ⟨a,_,rfl,h,.cons _ _ _ _ (.v _) (.cons _ _ _ _ (.v _) (.cons _ _ _ _ (.v _) .nil)),by decide⟩
 | tup a l vs n h r=>
  cases e
  obtain ⟨h1,h2⟩:=tl_of (Bool.and_eq_true_iff.mp o).1
  exact ⟨a,vs,rfl,h,by rw [h1];exact r,h2⟩
 | _=>cases e
theorem tl_len:∀ {l:Lt},l.tl.length=l.len
 | .cons x l=>congrArg (·+1) (tl_len (l:=l))
 | .v _ | .neg _ | .ask | .dct | .tup _ | .lst _ | .nil=>rfl
theorem its_len(o:t.ok.1=true){ts:List Lt}(e:t.its=some ts):ts.length<100:=by
 cases t with
 | ask=>cases e;decide
 | tup l=>cases e;rw [tl_len];exact of_decide_eq_true (Bool.and_eq_true_iff.mp o).2
 | _=>cases e
end
end V3
namespace V3
open U U12 PySem
noncomputable def nmB(t:Lt):Bool:=match t.str? with
 | some s=>goodB s
 | none=>false
noncomputable def nuB(t:Lt):Bool:=match t.int? with
 | some i=>decide (0<=i)&&decide (i<1000000)
 | none=>false
noncomputable def sgB(ss:List Txt)(t:Lt):Bool:=match t.str? with
 | some s=>ss.contains s
 | none=>false
noncomputable def orO(a b:Option String):Option String:=match a with
 | some c=>some c
 | none=>b
noncomputable def ifO(b:Bool)(c:String)(r:Option String):Option String:=match b with
 | true=>r
 | false=>some c
noncomputable def nThing(t:Lt):Option String:=match t.str?.isSome with
 | true=>ifO (nmB t) "BadName" none
 | false=>ifO (nuB t) "BadNumber" none
noncomputable def nName(t:Lt):Option String:=ifO (nmB t) "BadName" none
noncomputable def nTwoL(ss:List Txt):List Lt->Option String
 | [s,x,y]=>ifO (sgB ss s) "BadRow" (orO (nThing x) (nThing y))
 | _=>some "BadRow"
noncomputable def nTwo(ss:List Txt)(t:Lt):Option String:=match t.its with
 | some ts=>nTwoL ss ts
 | none=>some "BadRow"
noncomputable def nSumL:List Lt->Option String
 | [x]=>nThing x
 | ts=>nTwoL signs7 ts
noncomputable def nSum(t:Lt):Option String:=match t.its with
 | some ts=>nSumL ts
 | none=>some "BadRow"
noncomputable def hasK(w:Txt)(ts:List Lt):Bool:=ts.any λ t=>t.str?==some w
noncomputable def behL:List Lt->List Lt
 | [_,x,y]=>[x,y]
 | ts=>ts
noncomputable def thsL(t:Lt):List Lt:=match t.its with
 | some ts=>behL ts
 | none=>[]
noncomputable def ownB(k m:Lt):Bool:=match k.str? with
 | some w=>hasK w (thsL m)
 | none=>false
noncomputable def nPut(k g m:Lt):Option String:=orO (nName k) (ifO (sgB [[43],[45]] g) "BadRow" (orO (nSum m) (ifO (!ownB k m) "OwnBox" none)))
noncomputable def clsL:List String:=["BadProgram","BadRow","BadName","BadNumber","OwnBox","TooDeep"]
structure PK(K:Kx):Prop where
 a:∀ c∈clsL,K.xat c [97,116]
 i:∀ c∈clsL,K.xin c "UndoError.__init__"
inductive RefC(Z:Hp)(c:String)(p:AV)(a:Addr)(Z':Hp):Prop
 | mk (e:Addr) (le:Le Z Z') (h1:Z' a=some (.exc c (some e))) (h2:Z' e=some (.attrs [([97,116],p)])) (n:Z a=none)
theorem RefC.up{Z0 Z Z':Hp}{c:String}{p:AV}{a:Addr}(l:Le Z0 Z)(h:RefC Z c p a Z'):RefC Z0 c p a Z':=by
 obtain ⟨e,le,h1,h2,n⟩:=h
 exact ⟨e,l.trans le,h1,h2,fresh_le l n⟩
noncomputable def tabI:List (String×Fn):=[("UndoError.__init__",V2.f_UndoError___init__)]
noncomputable def tabN(g:Gs):List (String×Fn):=[("is_name",f_is_name g),("is_number",f_is_number),("need_thing",f_need_thing),("need_two",f_need_two),("need_sum",f_need_sum g),("need_name",f_need_name),("need_put",f_need_put),("need_parts",f_need_parts g)]
noncomputable def Need(K:Kx)(d:Nat)(f:String)(vs:List AV)(p:AV)(Z:Hp)(o:Option String):Prop:=∀ Q X,(o=none->∀ Z',Le Z Z'->Q .none Z')->(∀ c,o=some c->∀ a Z',RefC Z c p a Z'->X a Z')->K.fn false d f vs Z Q X
section
variable {K:Kx}(P:PK K)(TI:Tab K tabI)
include P TI
theorem s_uinit{c:String}(hc:c∈clsL){d:Nat}{Z:Hp}{Q:Post}{X:XPost}{a:Addr}{v:AV}(ha:Z a=some (.exc c none))(hq:∀ e Z',Z e=none->Z' e=some (.attrs [([97,116],v)])->Z' a=some (.exc c (some e))->(∀ b o,b≠a->Z b=some o->Z' b=some o)->Q .none Z'):K.fn false d "UndoError.__init__" [.ref a,v] Z Q X:=by
 have hx:XK K c:=⟨_,P.i c hc⟩
 have hat:=P.a c hc
 have T:=TI
 refine ent' T V2.f_UndoError___init__ (.head _) rfl (ρ:=[some (.ref a),some v]) rfl ?_
 dsimp only [V2.f_UndoError___init__]
 refine seq λ R hR=>?_
 walk_at"ug"
 refine hR _ _ (last ?_)
 walk_at"ug"
 intro e he
 refine hq e _ he ?_ (setH_here _ _ _) λ b o hb ho=>?_
 . rw [setH_ne (λ q=>by rw [q,ha] at he;cases he),setH_here]
 . rw [setH_ne hb,setH_ne (λ q=>by rw [q,he] at ho;cases ho)];exact ho
theorem raise_ok{c:String}(hc:c∈clsL){d:Nat}{Z:Hp}{Qn:SPost}{Qr:Post}{X:SX}{ρ:U.Loc}{e:PE}{p:AV}(hd:2<=d)(he:∀ Q:Post,Q p Z->e K false d ρ Z Q (X ρ))(q:∀ a Z',RefC Z c p a Z'->X ρ a Z'):
  pSs K false d [PS.raiseI c "UndoError.__init__" [e]] ρ Z Qn Qr X:=by
 refine last ⟨⟨hd,P.i c hc⟩,he _ ⟨show 1<tooLong by decide,λ a na=>?_⟩⟩
 refine s_uinit P TI hc (setH_here _ _ _) λ ea Z5 hea he1 he2 k₅=>⟨⟨rfl,_,he2⟩,q a Z5 ⟨ea,λ b o ho=>?_,he2,he1,na⟩⟩
 exact k₅ b o (λ q=>by rw [q,na] at ho;cases ho) (by rw [setH_ne (λ q=>by rw [q,na] at ho;cases ho)];exact ho)
end
section
variable {K:Kx}{g:Gs}(T:Tab K (tabN g)){d:Nat}{Z:Hp}{Q:Post}{X:XPost}
include T
theorem s_isname(w:Txt)(hG:V2.Gk Z g)(hlen:w.length<1000)(hasc:∀ c∈w,c<128)(hq:∀ Z',Le Z Z'->Q (.bool (goodB w)) Z'):K.fn false d "is_name" [.str w] Z Q X:=by
 have ht:tooLong=1000000:=rfl
 have hk:=hG.kept
 have hgb:goodB w=(decide (1<=w.length)&&decide (w.length<=6)&&!keptT.contains w&&ltrs.contains (w.getD 0 0)&&w.all λ c=>ltrs.contains c||fgrs.contains c):=rfl
 (refine ent' T (f_is_name g) (by walk_at"mm") rfl (by unfold f_is_name;walk_at"aa";exact rfl) ?_;dsimp only [f_is_name])
 refine seq λ R hR=>iffI λ A B hA hB=>?_
 have no:goodB w=false->A Z:=λ e=>hA _ (last (by
  walk_at"ug"
  have:=hq Z (Le.refl _)
  rw [e] at this;exact this))
 (walk_at"ug";repeat (dsimp only [Zo16,Zo17,Zo18,Zo24];walk_at"ug"))
 by_cases h1:1<=w.length
 case neg=>
  rw [decide_eq_false (show ¬(1:Int)<=(w.length:Int) from Int.not_le.mpr (Int.ofNat_lt.mpr (Nat.lt_of_not_le h1)))]
  (walk_at"ug";repeat (dsimp only [Zo16,Zo17,Zo18,Zo24];walk_at"ug"))
  exact no (by rw [hgb,decide_eq_false h1];rfl)
 rw [decide_eq_true (show (1:Int)<=(w.length:Int) from Int.ofNat_le.mpr h1)]
 (walk_at"ug";repeat (dsimp only [Zo16,Zo17,Zo18,Zo24];walk_at"ug"))
 by_cases h2:w.length<=6
 case neg=>
  rw [decide_eq_false (show ¬(w.length:Int)<=6 from Int.not_le.mpr (Int.ofNat_lt.mpr (Nat.lt_of_not_le h2)))]
  (walk_at"ug";repeat (dsimp only [Zo16,Zo17,Zo18,Zo24];walk_at"ug"))
  exact no (by rw [hgb,decide_eq_false h2,Bool.and_false];rfl)
 rw [decide_eq_true (show (w.length:Int)<=6 from Int.ofNat_le.mpr h2)]
 (walk_at"ug";repeat (dsimp only [Zo16,Zo17,Zo18,Zo24];walk_at"ug"))
 refine inS rfl all_str ?_
 rw [any_str]
 cases h3:keptT.contains w with
 | true=>exact no (by rw [hgb,h3,Bool.not_true,Bool.and_false];rfl)
 | false=>
 obtain ⟨c,r,hcr⟩:∃ c r,w=c::r:=by
  cases w with
  | nil=>simp at h1
  | cons c r=>exact ⟨c,r,rfl⟩
 have e0:itemL w 0=some c:=by rw [hcr];exact itemL_0
 have e00:w.getD 0 0=c:=by rw [hcr];rfl
 clear hcr
 walk_at"ug"
 show WifP (!ltrs.contains c) _ _
 cases h4:ltrs.contains c with
 | false=>exact no (by rw [hgb,e00,h4,Bool.and_false];rfl)
 | true=>
 refine hB _ (hR _ _ (last ?_))
 walk_at"ug"
 refine comp_each (g:=.no) (λ c=>AV.str [c]) (λ c=>.bool (ltrs.contains c||fgrs.contains c)) (λ Z'=>Le Z Z') (λ V V=>trivial) w [] Z (Le.refl _) (by simp only [length_nil];exact qli [_,_] (.i 1 0 Y0 (.n 1000) (.i 5 1 Y1 (.n 1000000) (.i 0 0 X1 Y0 (.i 0 1 Y0 (.n 6) (.h 0 (.a X0 Y0) Y1))))) rfl hlen ht h1 h2) ?_ ?_
 . intro x hx Z' cont hle hc
   walk_at"ug"
   show WifP (ltrs.contains x) (cont (some (.bool (ltrs.contains x))) Z') (cont (some (.bool (fgrs.contains x))) Z')
   have hc:=hc Z' hle
   cases h7:ltrs.contains x with
   | true=>rw [h7] at hc;exact hc
   | false=>rw [h7,Bool.false_or] at hc;exact hc
 . intro Z1 h₁ b Z2 hb h₂ hb2
   rw [List.nil_append] at hb2
   walk_at"ug"
   refine okP (v:=w.map λ c=>ltrs.contains c||fgrs.contains c) ?_ ?_
   . have:=bools_map (ss:=w.map λ c=>ltrs.contains c||fgrs.contains c);rw [map_map] at this;exact this
   . rw [W9.all_bools]
     have:=hq Z2 (h₁.trans h₂)
     rw [hgb,decide_eq_true h1,decide_eq_true h2,h3,e00,h4] at this
     exact this
theorem l_is_name{N:Addr->Prop}{t:Lt}{v:AV}(hG:V2.Gk Z g)(h:Rt N Z t [v])(o:t.ok.1=true)(hq:∀ Z',Le Z Z'->Q (.bool (nmB t)) Z'):K.fn false d "is_name" [v] Z Q X:=by
 cases e:t.str? with
 | some s=>
  obtain ⟨rfl,rfl⟩:=h.str e
  obtain ⟨o1,o2⟩:=Bool.and_eq_true_iff.mp o
  exact s_isname T s hG (of_decide_eq_true o1) (λ c hc=>of_decide_eq_true (all_eq_true.mp o2 c hc)) hq
 | none=>
  refine ent' T (f_is_name g) (.head _) rfl (ρ:=[some v]) rfl (seq λ R hR=>iffI λ A B hA hB=>?_)
  have hk:isOf t.kn ["str"]=false:=by rw [kn_str o,e];rfl
  show OkP (kindIs Z v) _
  refine okP (h.kind o) ?_
  show WifP (!isOf t.kn ["str"]) (TruP (.bool (!isOf t.kn ["str"])) λ t=>WifP t (A Z) (B Z)) _
  rw [hk]
  refine hA _ (last ?_)
  have:=hq Z (Le.refl _)
  rw [show nmB t=false by unfold nmB;rw [e]] at this;exact this
theorem l_is_number{N:Addr->Prop}{t:Lt}{v:AV}(h:Rt N Z t [v])(o:t.ok.1=true)(hq:Q (.bool (nuB t)) Z):K.fn false d "is_number" [v] Z Q X:=by
 refine ent' T f_is_number (.tail _ (.head _)) rfl (ρ:=[some v]) rfl ?_
 have num:∀ i:Int,Q (.bool (decide (0<=i)&&decide (i<1000000))) Z->pSs K false d f_is_number.body [some (.int i)] Z (λ V Z'=>Q .none Z') Q (λ V a Z'=>X a Z'):=λ i hq=>by
  show WifP (decide (0<=i)) (Q (.bool (decide (i<1000000))) Z) (Q (.bool (decide (0<=i))) Z)
  cases hh:decide (0<=i) with
  | true=>rw [hh] at hq;exact hq
  | false=>rw [hh] at hq;exact hq
 have ref:∀ a k,kO (Z a)=some k->isOf k ["int"]=false->Q (.bool false) Z->pSs K false d f_is_number.body [some (.ref a)] Z (λ V Z'=>Q .none Z') Q (λ V a Z'=>X a Z'):=λ a k e e' hq=>by
  show OkP (kO (Z a)) _
  refine okP e ?_
  show TruP (.bool (isOf k ["int"])) _
  rw [e'];exact hq
 cases h with
 | v=>
  revert hq
  exact av_cases (P:=λ a=>Q (.bool (nuB (.v a))) Z->pSs K false d f_is_number.body [some a] Z (λ V Z'=>Q .none Z') Q (λ V a Z'=>X a Z')) o (λ hq=>hq) (λ b hq=>hq) (λ i hq=>num i hq) λ s hq=>hq
 | neg n=>exact num _ hq
 | ask a n h=>exact ref a "tuple" (by rw [h];rfl) rfl hq
 | dct a n h=>exact ref a "dict" (by rw [h];rfl) rfl hq
 | tup a l vs n h r=>exact ref a "tuple" (by rw [h];rfl) rfl hq
 | lst a l vs n h r=>exact ref a "list" (by rw [h];rfl) rfl hq
 | cons=>cases o
end
end V3
namespace V3
open U U12 PySem
section
variable {K:Kx}{g:Gs}(P:PK K)(TI:Tab K tabI)(T:Tab K (tabN g)){d:Nat}{Z:Hp}{N:Addr->Prop}{p:AV}
include P TI T
theorem not_name{ρ:U.Loc}{i j:Nat}{t:Lt}{v:AV}{Qn:SPost}{Qr:Post}{X:SX}(hd:2<=d)(hG:V2.Gk Z g)(h:Rt N Z t [v])(o:t.ok.1=true){e e':PE}(he:∀ Q:Post,Q v Z->e K false d ρ Z Q (X ρ))(he':∀ (Q:Post) Z',Q p Z'->e' K false d ρ Z' Q (X ρ))
  (hq:nmB t=true->∀ Z',Le Z Z'->Qn ρ Z') (hX:nmB t=false->∀ a Z',RefC Z "BadName" p a Z'->X ρ a Z'):pSs K false d [.iff (.prim .not [.fn "is_name" [e]]) [.raiseI "BadName" "UndoError.__init__" [e']] []] ρ Z Qn Qr X:=by
 refine last (iffI λ A B hA hB=>he _ ⟨Nat.ne_of_gt (Nat.lt_of_lt_of_le (by decide) hd),l_is_name T hG h o λ Z1 l1=>?_⟩)
 show WifP (!nmB t) (A Z1) (B Z1)
 cases em:nmB t with
 | true=>exact hB _ (hq em Z1 l1)
 | false=>exact hA _ (raise_ok P TI (by decide) hd (λ Q q=>he' Q Z1 q) λ a Z' r=>hX em a Z' (r.up l1))
theorem n_name{t:Lt}{v:AV}(hd:2<=d)(hG:V2.Gk Z g)(h:Rt N Z t [v])(o:t.ok.1=true):Need K d "need_name" [v,p] p Z (nName t):=λ Q X hq hX=>by
 refine ent' T f_need_name (by walk_at"mm") rfl (ρ:=[some v,some p]) rfl ?_
 refine not_name (i:=0) (j:=0) P TI T (p:=p) hd hG h o (λ Q q=>q) (λ Q Z' q=>q) (λ e Z' l=>hq (by unfold nName;rw [e];rfl) Z' l) λ e a Z' r=>hX _ (by unfold nName;rw [e];rfl) a Z' r
theorem n_thing{t:Lt}{v:AV}(hd:2<=d)(hG:V2.Gk Z g)(h:Rt N Z t [v])(o:t.ok.1=true):Need K d "need_thing" [v,p] p Z (nThing t):=λ Q X hq hX=>by
 refine ent' T f_need_thing (by walk_at"mm") rfl (ρ:=[some v,some p]) rfl (last (iffI λ A B hA hB=>?_))
 show OkP (kindIs Z v) _
 refine okP (h.kind o) ?_
 show WifP (isOf t.kn ["str"]) (A Z) (B Z)
 rw [kn_str o]
 have hn:nThing t=match t.str?.isSome with
  | true=>ifO (nmB t) "BadName" none
  | false=>ifO (nuB t) "BadNumber" none:=rfl
 cases es:t.str?.isSome with
 | true=>
  rw [es] at hn
  exact hA _ (not_name (i:=0) (j:=0) P TI T (p:=p) hd hG h o (λ Q q=>q) (λ Q Z' q=>q) (λ e Z' l=>hq (by rw [hn,e];rfl) Z' l) λ e a Z' r=>hX _ (by rw [hn,e];rfl) a Z' r)
 | false=>
  rw [es] at hn
  refine hB _ (last (iffI λ A B hA hB=>?_))
  show d≠0/\K.fn false (d-1) "is_number" [v] Z _ _
  refine ⟨Nat.ne_of_gt (Nat.lt_of_lt_of_le (by decide) hd),l_is_number T h o ?_⟩
  show WifP (!nuB t) (A Z) (B Z)
  cases em:nuB t with
  | true=>exact hB _ (hq (by rw [hn,em];rfl) Z (Le.refl _))
  | false=>exact hA _ (raise_ok P TI (by decide) hd (λ Q q=>q) λ a Z' r=>hX _ (by rw [hn,em];rfl) a Z' r)
theorem n_two{t:Lt}{v:AV}{sa:Addr}{ss:List Txt}(hd:3<=d)(hG:V2.Gk Z g)(hs:Z sa=some (.tup (ss.map .str)))(h:Rt N Z t [v])(o:t.ok.1=true):Need K d "need_two" [v,.ref sa,p] p Z (nTwo ss t):=λ Q X hq hX=>by
 have htl:tooLong=1000000:=rfl
 have hd0:d≠0:=Nat.ne_of_gt (Nat.lt_of_lt_of_le (by decide) hd)
 have hd2:2<=d-1:=Nat.le_sub_of_add_le hd
 refine ent' T f_need_two (by walk_at"mm") rfl (ρ:=[some v,some (.ref sa),some p]) rfl (seq λ R hR=>iffI λ A B hA hB=>?_)
 have no:nTwo ss t=some "BadRow" -> A Z:=λ e=>hA _ (raise_ok P TI (by decide) (Nat.le_trans (by decide) hd) (λ Q q=>q) λ a Z' r=>hX _ e a Z' r)
 have hk:kindIs Z v=some t.kn:=h.kind o
 have ht:=kn_tup o
 cases ei:t.its with
 | none=>
  rw [ei] at ht
  have e:nTwo ss t=some "BadRow":=by unfold nTwo;rw [ei]
  show OkP (kindIs Z v) _
  refine okP hk ?_
  show WifP (!isOf t.kn ["tuple"]) (TruP (.bool (!isOf t.kn ["tuple"])) λ t=>WifP t (A Z) (B Z)) _
  rw [ht];exact no e
 | some ts=>
  rw [ei] at ht
  obtain ⟨a,vs,rfl,ha,r,oo⟩:=h.items o ei
  have e2:nTwo ss t=nTwoL ss ts:=by unfold nTwo;rw [ei]
  show OkP (kindIs Z (.ref a)) _
  refine okP hk ?_
  show WifP (!isOf t.kn ["tuple"]) _ _
  rw [ht]
  show OkP (Z a) _
  refine okP ha ?_
  have hll:vs.length=ts.length:=r.lenL
  rcases ts with V | ⟨s,V | ⟨x,V | ⟨y,V | ⟨z,ts⟩⟩⟩⟩
  . cases r.nil';exact ⟨by decide,no e2⟩
  . obtain ⟨v1,r1,rfl,h1,r⟩:=r.cons';cases r.nil';exact ⟨show 1<tooLong by decide,no e2⟩
  . obtain ⟨v1,r1,rfl,h1,r⟩:=r.cons';obtain ⟨v2,r2,rfl,h2,r⟩:=r.cons';cases r.nil';exact ⟨show 2<tooLong by decide,no e2⟩
  . obtain ⟨v1,r1,rfl,h1,r⟩:=r.cons';obtain ⟨v2,r2,rfl,h2,r⟩:=r.cons';obtain ⟨v3,r3,rfl,h3,r⟩:=r.cons';cases r.nil'
    refine ⟨show 3<tooLong by decide,?_⟩
    obtain ⟨o1,oo⟩:=Bool.and_eq_true_iff.mp oo
    obtain ⟨o2,oo⟩:=Bool.and_eq_true_iff.mp oo
    obtain ⟨o3,oo⟩:=Bool.and_eq_true_iff.mp oo
    have hk1:=h1.kind o1
    walk_at"ug"
    show WifP (!isOf s.kn ["str"]) (TruP (.bool (!isOf s.kn ["str"])) λ t=>WifP t (A Z) (B Z)) _
    rw [kn_str o1]
    cases es:s.str? with
    | none=>exact no (by rw [e2];show ifO (sgB ss s) _ _=_;rw [show sgB ss s=false by unfold sgB;rw [es]];rfl)
    | some w=>
     obtain ⟨rfl,rfl⟩:=h1.str es
     show WifP false _ _
     walk_at"ug"
     refine inS rfl all_str ?_
     rw [any_str]
     show WifP (!ss.contains w) (A Z) (B Z)
     have e2:nTwo ss t=ifO (ss.contains w) "BadRow" (orO (nThing x) (nThing y)):=e2
     cases ec:ss.contains w with
     | false=>exact no (by rw [e2,ec];rfl)
     | true=>
      rw [ec] at e2
      replace e2:nTwo ss t=orO (nThing x) (nThing y):=e2
      refine hB _ (hR _ _ (seq λ R hR=>?_))
      walk_at"ug"
      refine n_thing P TI T hd2 hG h2 o2 _ _ (λ e Z1 l1=>?_) λ c e a' Z' r'=>hX c (by rw [e2,e];rfl) a' Z' r'
      refine hR _ _ (last ?_)
      have ha1:=l1 _ _ ha
      walk_at"ug"
      exact n_thing P TI T hd2 (hG.le l1) (h3.le l1) o3 _ _ (λ e' Z2 l₂=>hq (by rw [e2,e];exact e') Z2 (l1.trans l₂)) λ c e' a' Z' r'=>hX c (by rw [e2,e];exact e') a' Z' (r'.up l1)
  . refine ⟨?_,?_⟩
    . rw [hll];exact Nat.lt_trans (its_len o ei) (by decide)
    . show WifP (!((vs.length:Int)==3)) (TruP (.bool (!((vs.length:Int)==3))) λ t=>WifP t (A Z) (B Z)) _
      rw [show ((vs.length:Int)==3)=false from beq_eq_false_iff_ne.mpr (by rw [hll];intro q;have:=Int.ofNat.inj q;simp at this)]
      exact no e2
end
end V3
namespace V3
open U U12 PySem
theorem orO_none{a b:Option String}(h:orO a b=none):a=none/\b=none:=by
 cases a with
 | none=>exact ⟨rfl,h⟩
 | some c=>cases h
theorem ifO_none{b:Bool}{c:String}{r:Option String}(h:ifO b c r=none):b=true/\r=none:=by
 cases b with
 | true=>exact ⟨rfl,h⟩
 | false=>cases h
theorem name_str{t:Lt}(h:nmB t=true):∃ w,t=.v (.str w)/\goodB w=true:=by
 cases t with
 | v a=>
  cases a with
  | str s=>exact ⟨s,rfl,h⟩
  | _=>cases h
 | _=>cases h
theorem thing_scal{N:Addr->Prop}{Z:Hp}{t:Lt}{v:AV}(h:Rt N Z t [v])(n:nThing t=none):v.scal=true/\∀ w,eqS v (.str w)=(t.str?==some w):=by
 cases h with
 | v a=>
  cases v with
  | none=>cases n
  | bool b=>cases n
  | int i=>exact ⟨rfl,λ V=>rfl⟩
  | str s=>exact ⟨rfl,λ w=>by show (s==w)=(some s==some w);rfl⟩
  | ref a=>cases n
 | neg n=>exact ⟨rfl,λ V=>rfl⟩
 | ask=>cases n
 | dct=>cases n
 | tup=>cases n
 | lst=>cases n
 | cons=>cases n
section
variable {K:Kx}{g:Gs}(P:PK K)(TI:Tab K tabI)(T:Tab K (tabN g)){d:Nat}{Z:Hp}{N:Addr->Prop}{p:AV}
include P TI T
theorem n_sum{t:Lt}{v:AV}(hd:4<=d)(hG:V2.Gk Z g)(h:Rt N Z t [v])(o:t.ok.1=true):Need K d "need_sum" [v,p] p Z (nSum t):=λ Q X hq hX=>by
 have htl:tooLong=1000000:=rfl
 have hd0:d≠0:=Nat.ne_of_gt (Nat.lt_of_lt_of_le (by decide) hd)
 have hd3:3<=d-1:=Nat.le_sub_of_add_le hd
 have hd2:2<=d-1:=Nat.le_trans (by decide) hd3
 refine ent' T (f_need_sum g) (by walk_at"mm") rfl (ρ:=[some v,some p]) rfl (last (iffI λ A B hA hB=>?_))
 have two:nSum t=nTwo signs7 t->B Z:=λ e=>hB _ (last (by
  show d≠0/\_
  exact ⟨hd0,n_two P TI T hd3 hG hG.ss h o _ _ (λ e'=>hq (e.trans e')) λ c e'=>hX c (e.trans e')⟩))
 have hk:kindIs Z v=some t.kn:=h.kind o
 have ht:=kn_tup o
 show OkP (kindIs Z v) _
 refine okP hk ?_
 show WifP (isOf t.kn ["tuple"]) _ (TruP (.bool (isOf t.kn ["tuple"])) λ t=>WifP t (A Z) (B Z))
 rw [ht]
 cases ei:t.its with
 | none=>exact two (by unfold nSum nTwo;rw [ei])
 | some ts=>
  obtain ⟨a,vs,rfl,ha,r,oo⟩:=h.items o ei
  have hll:vs.length=ts.length:=r.lenL
  have e2:nSum t=nSumL ts:=by unfold nSum;rw [ei]
  have e3:nTwo signs7 t=nTwoL signs7 ts:=by unfold nTwo;rw [ei]
  show OkP (Z a) _
  refine okP ha ⟨by rw [hll];exact Nat.lt_trans (its_len o ei) (by decide),?_⟩
  show WifP ((vs.length:Int)==1) (A Z) (B Z)
  rcases ts with V | ⟨x,V | ⟨y,ts⟩⟩
  . cases r.nil';exact two (e2.trans e3.symm)
  . obtain ⟨v1,r1,rfl,h1,r⟩:=r.cons';cases r.nil'
    refine hA _ (last ?_)
    walk_at"ug"
    exact n_thing P TI T hd2 hG h1 (Bool.and_eq_true_iff.mp oo).1 _ _ (λ e'=>hq (e2.trans e')) λ c e'=>hX c (e2.trans e')
  . rw [show ((vs.length:Int)==1)=false from beq_eq_false_iff_ne.mpr (by rw [hll];intro q;have:=Int.ofNat.inj q;simp at this)]
    exact two (e2.trans e3.symm)
theorem sum_items{m:Lt}(h:nSum m=none):(∃ x,m.its=some [x]/\nThing x=none)\/∃ s x y,m.its=some [s,x,y]/\nThing x=none/\nThing y=none:=by
 have two:∀ ts,m.its=some ts->nTwoL signs7 ts=none->∃ s x y,m.its=some [s,x,y]/\nThing x=none/\nThing y=none:=λ ts e h=>by
  rcases ts with V | ⟨s,V | ⟨x,V | ⟨y,V | ⟨z,ts⟩⟩⟩⟩
  . cases h
  . cases h
  . cases h
  . obtain ⟨V,h⟩:=ifO_none (show ifO (sgB signs7 s) "BadRow" (orO (nThing x) (nThing y))=none from h)
    exact ⟨s,x,y,e,orO_none h⟩
  . cases h
 unfold nSum at h
 cases ei:m.its with
 | none=>rw [ei] at h;cases h
 | some ts=>
  rw [ei] at h
  rcases ts with V | ⟨x,V | ⟨y,ts⟩⟩
  . cases h
  . exact .inl ⟨x,rfl,h⟩
  . rw [<-ei];exact .inr (two _ ei h)
theorem n_put{k s m:Lt}{a:Addr}{w v1 v2 v3:AV}(hd:5<=d)(hG:V2.Gk Z g)(ha:Z a=some (.tup [w,v1,v2,v3]))(h1:Rt N Z k [v1])(h2:Rt N Z s [v2])(h3:Rt N Z m [v3])(o1:k.ok.1=true)(o2:s.ok.1=true)(o3:m.ok.1=true):Need K d "need_put" [.ref a,p] p Z (nPut k s m):=λ Q X hq hX=>by
 have htl:tooLong=1000000:=rfl
 have hd0:d≠0:=Nat.ne_of_gt (Nat.lt_of_lt_of_le (by decide) hd)
 have hd4:4<=d-1:=Nat.le_sub_of_add_le hd
 have hd2:2<=d-1:=Nat.le_trans (by decide) hd4
 refine ent' T f_need_put (by walk_at"mm") rfl (ρ:=[some (.ref a),some p]) rfl (seq λ R hR=>?_)
 walk_at"ug"
 refine n_name P TI T hd2 hG h1 o1 _ _ (λ e1 Z1 l1=>?_) λ c e a' Z' r=>hX c (by unfold nPut;rw [e];rfl) a' Z' r
 refine hR _ _ (seq λ R hR=>iffI λ A B hA hB=>?_)
 have hX1:nPut k s m=ifO (sgB [[43],[45]] s) "BadRow" (orO (nSum m) (ifO (!ownB k m) "OwnBox" none)):=by unfold nPut;rw [e1];rfl
 replace ha:=l1 _ _ ha
 replace hG:=hG.le l1
 have no:sgB [[43],[45]] s=false->∀ Z2,Le Z1 Z2->A Z2:=λ e Z2 l₂=>hA _ (raise_ok P TI (by decide) (Nat.le_trans (by decide) hd) (λ Q q=>q) λ a' Z' r=>hX _ (by rw [hX1,e];rfl) a' Z' (r.up (l1.trans l₂)))
 have hk2:=(h2.le l1).kind o2
 walk_at"ug"
 show WifP (!isOf s.kn ["str"]) (TruP (.bool (!isOf s.kn ["str"])) λ t=>WifP t (A Z1) (B Z1)) _
 rw [kn_str o2]
 cases es:s.str? with
 | none=>exact no (by unfold sgB;rw [es]) Z1 (Le.refl _)
 | some sg=>
  obtain ⟨rfl,rfl⟩:=h2.str es
  show WifP false _ _
  walk_at"ug"
  refine newO λ z Z2 V l₂ hz=>?_
  walk_at"ug"
  refine inS rfl rfl ?_
  have esg:[AV.str [43],AV.str [45]].any (eqS · (.str sg))=sgB [[43],[45]] (.v (.str sg)):=by
   show (([43]:Txt)==sg||(([45]:Txt)==sg||false))=(sg==[43]||(sg==[45]||false))
   rw [BEq.comm (a:=([43]:Txt)),BEq.comm (a:=([45]:Txt))]
  rw [esg]
  show WifP (!sgB [[43],[45]] (.v (.str sg))) (A Z2) (B Z2)
  cases ec:sgB [[43],[45]] (.v (.str sg)) with
  | false=>exact no ec Z2 l₂
  | true=>
   rw [ec] at hX1
   replace hX1:nPut k (.v (.str sg)) m=orO (nSum m) (ifO (!ownB k m) "OwnBox" none):=hX1
   refine hB _ (hR _ _ (seq λ R hR=>?_))
   have L2:=l1.trans l₂
   replace ha:=l₂ _ _ ha
   walk_at"ug"
   refine n_sum P TI T hd4 (hG.le l₂) (h3.le L2) o3 _ _ (λ e3 Z3 l₃=>?_) λ c e a' Z' r=>hX c (by rw [hX1,e];rfl) a' Z' (r.up L2)
   replace hX1:nPut k (.v (.str sg)) m=ifO (!ownB k m) "OwnBox" none:=by rw [hX1,e3];rfl
   refine hR _ _ (last (iffI λ A B hA hB=>?_))
   have L3:=L2.trans l₃
   replace ha:=l₃ _ _ ha
   obtain ⟨kw,rfl,hkw⟩:=name_str (ifO_none e1).1
   cases h1
   have fin:∀ Z4,Le Z3 Z4->WifP (ownB (.v (.str kw)) m) (A Z4) (B Z4):=λ Z4 l4=>by
    cases eo:ownB (.v (.str kw)) m with
    | true=>exact hA _ (raise_ok P TI (by decide) (Nat.le_trans (by decide) hd) (λ Q q=>q) λ a' Z' r=>hX _ (by rw [hX1,eo];rfl) a' Z' (r.up (L3.trans l4)))
    | false=>exact hB _ (hq (by rw [hX1,eo];rfl) Z4 (L3.trans l4))
   rcases sum_items P TI T e3 with ⟨x,ei,nx⟩ | ⟨ss,x,y,ei,nx,ny⟩
   . obtain ⟨u,vs,rfl,hu,r,oo⟩:=(h3.le L3).items o3 ei
     obtain ⟨w1,r1,rfl,q1,r⟩:=r.cons';cases r.nil'
     obtain ⟨s1,s2⟩:=thing_scal q1 nx
     have eo:ownB (.v (.str kw)) m=hasK kw [x]:=by unfold ownB thsL;rw [ei];rfl
     walk_at"ug"
     show WifP true _ _
     walk_at"ug"
     refine inS rfl (by show (w1.scal&&true)=true;rw [s1];rfl) ?_
     rw [show [w1].any (eqS · (.str kw))=hasK kw [x] by show (eqS w1 (.str kw)||false)=(x.str?==some kw||false);rw [s2],<-eo]
     exact fin Z3 (Le.refl _)
   . obtain ⟨u,vs,rfl,hu,r,oo⟩:=(h3.le L3).items o3 ei
     obtain ⟨w0,r0,rfl,q0,r⟩:=r.cons'
     obtain ⟨w1,r1,rfl,q1,r⟩:=r.cons'
     obtain ⟨w2,r2,rfl,q2,r⟩:=r.cons';cases r.nil'
     obtain ⟨s1,s2⟩:=thing_scal q1 nx
     obtain ⟨s3,s4⟩:=thing_scal q2 ny
     have eo:ownB (.v (.str kw)) m=hasK kw [x,y]:=by unfold ownB thsL;rw [ei];rfl
     walk_at"ug"
     show WifP false _ _
     walk_at"ug"
     refine newO λ z Z4 V l4 hz=>?_
     have hz:Z4 z=some (.tup [w1,w2]):=hz
     walk_at"ug"
     refine inS rfl (by show (w1.scal&&(w2.scal&&true))=true;rw [s1,s3];rfl) ?_
     rw [show [w1,w2].any (eqS · (.str kw))=hasK kw [x,y] by show (eqS w1 (.str kw)||(eqS w2 (.str kw)||false))=(x.str?==some kw||(y.str?==some kw||false));rw [s2,s4],<-eo]
     exact fin Z4 l4
end
end V3
namespace V3
open U U12 PySem
noncomputable def nParts(nb:List Txt)(w:Txt):List Lt->Option String
 | [k]=>match ([callT,undoT]:List Txt).contains w with
  | true=>ifO (nmB k&&sgB nb k) "BadName" none
  | false=>nName k
 | [k,j]=>orO (nName k) (nName j)
 | [k,s,m]=>nPut k s m
 | [q,x,y,q']=>orO (nTwo signs4 q) (ifO (x.isL&&y.isL) "BadRow" (nTwo signs4 q'))
 | _=>none
inductive Wd(w:Txt)(n:Nat):Prop
 | put (e:w=putT) (h:n=3)
 | swap (e:w=swapT) (h:n=2)
 | pp (e:w=pushT\/w=[112,117,108,108]) (h:n=1)
 | cu (e:w=callT\/w=undoT) (h:n=1)
 | br (b:Bool) (e:w=brT b) (h:n=4)
theorem lk_mem{v:AV}{k:Txt}:∀ {l:List (Txt×AV)},l.lookup k=some v->(k,v)∈l
 | [],h=>by cases h
 | (a,b)::l,h=>by
  rw [lookup_cons] at h
  cases e:k==a with
  | true=>rw [e] at h;cases h;rw [eq_of_beq e];exact .head _
  | false=>rw [e] at h;exact .tail _ (lk_mem h)
theorem wd_of{w:Txt}{n:Nat}(h:lenE.lookup w=some (.int ((n+1:Nat):Int))):Wd w n:=by
 have hm:=lk_mem h
 simp only [lenE,mem_cons,Prod.mk.injEq,AV.int.injEq,not_mem_nil,or_false] at hm
 have e:∀ k:Nat,((n+1:Nat):Int)=((k+1:Nat):Int)->n=k:=λ k q=>Nat.succ.inj (Int.ofNat.inj q)
 rcases hm with ⟨h,q⟩ | ⟨h,q⟩ | ⟨h,q⟩ | ⟨h,q⟩ | ⟨h,q⟩ | ⟨h,q⟩ | ⟨h,q⟩ | ⟨h,q⟩
 . exact .put h (e 3 q)
 . exact .swap h (e 2 q)
 . exact .pp (.inl h) (e 1 q)
 . exact .pp (.inr h) (e 1 q)
 . exact .br false h (e 4 q)
 . exact .br true h (e 4 q)
 . exact .cu (.inl h) (e 1 q)
 . exact .cu (.inr h) (e 1 q)
section
variable {K:Kx}{g:Gs}(P:PK K)(TI:Tab K tabI)(T:Tab K (tabN g)){d:Nat}{Z:Hp}{N:Addr->Prop}{p:AV}
include P TI T
theorem n_parts{nb:List Txt}{w:Txt}{rs:List Lt}{a nl:Addr}{vs:List AV}(hd:6<=d)(hG:V2.Gk Z g)(hn:Z nl=some (.list (nb.map .str)))(h:Z a=some (.tup (.str w::vs)))(r:Rt N Z (ofL rs) vs)(oo:rs.all (λ t=>t.ok.1)=true)(hw:Wd w rs.length):
  Need K d "need_parts" [.ref a,p,.ref nl] p Z (nParts nb w rs):=λ Q X hq hX=>by
 have htl:tooLong=1000000:=rfl
 have hd0:d≠0:=Nat.ne_of_gt (Nat.lt_of_lt_of_le (by decide) hd)
 have hd5:5<=d-1:=Nat.le_sub_of_add_le hd
 have hd2:2<=d-1:=Nat.le_trans (by decide) hd5
 have hd3:3<=d-1:=Nat.le_trans (by decide) hd5
 refine ent' T (f_need_parts g) (by walk_at"mm") rfl (ρ:=[some (.ref a),some p,some (.ref nl)]) rfl (last (iffI λ A B hA hB=>?_))
 cases hw with
 | put e hl=>
  subst e
  obtain ⟨k,s,m,rfl⟩:∃ k s m,rs=[k,s,m]:=by
   rcases rs with _ | ⟨k,_ | ⟨s,_ | ⟨m,_ | ⟨z,rs⟩⟩⟩⟩ <;> first | exact ⟨_,_,_,rfl⟩ | (simp at hl)
  obtain ⟨v1,r1,rfl,h1,r⟩:=r.cons';obtain ⟨v2,r2,rfl,h2,r⟩:=r.cons';obtain ⟨v3,r3,rfl,h3,r⟩:=r.cons';cases r.nil'
  obtain ⟨o1,oo⟩:=Bool.and_eq_true_iff.mp oo
  obtain ⟨o2,oo⟩:=Bool.and_eq_true_iff.mp oo
  obtain ⟨o3,oo⟩:=Bool.and_eq_true_iff.mp oo
  have h:Z a=some (.tup [.str [112,117,116],v1,v2,v3]):=h
  walk_at"ug"
  refine hA _ (last ?_)
  walk_at"ug"
  exact n_put P TI T hd5 hG h h1 h2 h3 o1 o2 o3 _ _ hq hX
 | swap e hl=>
  subst e
  obtain ⟨k,j,rfl⟩:∃ k j,rs=[k,j]:=by
   rcases rs with _ | ⟨k,_ | ⟨s,_ | ⟨m,rs⟩⟩⟩ <;> first | exact ⟨_,_,rfl⟩ | (simp at hl)
  obtain ⟨v1,r1,rfl,h1,r⟩:=r.cons';obtain ⟨v2,r2,rfl,h2,r⟩:=r.cons';cases r.nil'
  obtain ⟨o1,oo⟩:=Bool.and_eq_true_iff.mp oo
  obtain ⟨o2,oo⟩:=Bool.and_eq_true_iff.mp oo
  have h:Z a=some (.tup [.str [115,119,97,112],v1,v2]):=h
  walk_at"ug"
  refine hB _ (last (iffI λ A B hA hB=>?_))
  walk_at"ug"
  refine hA _ (seq λ R hR=>?_)
  walk_at"ug"
  refine n_name P TI T hd2 hG h1 o1 _ _ (λ e Z1 l1=>hR _ _ (last ?_)) λ c e a' Z' r=>hX c (by show orO (nName k) (nName j)=_;rw [e];rfl) a' Z' r
  have h₁:=l1 _ _ h
  walk_at"ug"
  exact n_name P TI T hd2 (hG.le l1) (h2.le l1) o2 _ _ (λ e' Z2 l₂=>hq (by show orO (nName k) (nName j)=_;rw [e];exact e') Z2 (l1.trans l₂)) λ c e' a' Z' r=>hX c (by show orO (nName k) (nName j)=_;rw [e];exact e') a' Z' (r.up l1)
 | pp e hl=>
  obtain ⟨k,rfl⟩:∃ k,rs=[k]:=by
   rcases rs with _ | ⟨k,_ | ⟨m,rs⟩⟩ <;> first | exact ⟨_,rfl⟩ | (simp at hl)
  obtain ⟨v1,r1,rfl,h1,r⟩:=r.cons';cases r.nil'
  obtain ⟨o1,oo⟩:=Bool.and_eq_true_iff.mp oo
  have en:nParts nb w [k]=nName k:=by
   show (match ([callT,undoT]:List Txt).contains w with
    | true=>ifO (nmB k&&sgB nb k) "BadName" none
    | false=>nName k)=_
   rw [show ([callT,undoT]:List Txt).contains w=false by rcases e with rfl | rfl <;> rfl]
  rw [en] at hq hX
  walk_at"ug"
  rw [show (w==[112,117,116])=false by rcases e with rfl | rfl <;> rfl]
  refine hB _ (last (iffI λ A B hA hB=>?_))
  walk_at"ug"
  rw [show (w==[115,119,97,112])=false by rcases e with rfl | rfl <;> rfl]
  refine hB _ (last (iffI λ A B hA hB=>?_))
  walk_at"ug"
  refine newO λ z Z1 V l1 hz=>?_
  have h₁:=l1 _ _ h
  walk_at"ug"
  refine inS rfl rfl ?_
  rw [show [AV.str [99,97,108,108],.str [117,110,100,111]].any (eqS · (.str w))=false by rcases e with rfl | rfl <;> rfl]
  refine hB _ (last (iffI λ A B hA hB=>?_))
  walk_at"ug"
  refine newO λ z' Z2 V l₂ hz'=>?_
  have h₂:=l₂ _ _ h₁
  walk_at"ug"
  refine inS rfl rfl ?_
  rw [show [AV.str [112,117,115,104],.str [112,117,108,108]].any (eqS · (.str w))=true by rcases e with rfl | rfl <;> rfl]
  refine hA _ (last ?_)
  have L2:=l1.trans l₂
  walk_at"ug"
  exact n_name P TI T hd2 (hG.le L2) (h1.le L2) o1 _ _ (λ e' Z3 l₃=>hq e' Z3 (L2.trans l₃)) λ c e' a' Z' r=>hX c e' a' Z' (r.up L2)
 | cu e hl=>
  obtain ⟨k,rfl⟩:∃ k,rs=[k]:=by
   rcases rs with _ | ⟨k,_ | ⟨m,rs⟩⟩ <;> first | exact ⟨_,rfl⟩ | (simp at hl)
  obtain ⟨v1,r1,rfl,h1,r⟩:=r.cons';cases r.nil'
  obtain ⟨o1,oo⟩:=Bool.and_eq_true_iff.mp oo
  have en:nParts nb w [k]=ifO (nmB k&&sgB nb k) "BadName" none:=by
   show (match ([callT,undoT]:List Txt).contains w with
    | true=>ifO (nmB k&&sgB nb k) "BadName" none
    | false=>nName k)=_
   rw [show ([callT,undoT]:List Txt).contains w=true by rcases e with rfl | rfl <;> rfl]
  rw [en] at hq hX
  walk_at"ug"
  rw [show (w==[112,117,116])=false by rcases e with rfl | rfl <;> rfl]
  refine hB _ (last (iffI λ A B hA hB=>?_))
  walk_at"ug"
  rw [show (w==[115,119,97,112])=false by rcases e with rfl | rfl <;> rfl]
  refine hB _ (last (iffI λ A B hA hB=>?_))
  walk_at"ug"
  refine newO λ z Z1 V l1 hz=>?_
  have h₁:=l1 _ _ h
  walk_at"ug"
  refine inS rfl rfl ?_
  rw [show [AV.str [99,97,108,108],.str [117,110,100,111]].any (eqS · (.str w))=true by rcases e with rfl | rfl <;> rfl]
  refine hA _ (last (iffI λ A B hA hB=>?_))
  have no:∀ Z2,Le Z Z2->(nmB k&&sgB nb k)=false->A Z2:=λ Z2 l e=>hA _ (raise_ok P TI (by decide) (Nat.le_trans (by decide) hd) (λ Q q=>q) λ a' Z' r=>hX _ (by rw [e];rfl) a' Z' (r.up l))
  walk_at"ug"
  refine l_is_name T (hG.le l1) (h1.le l1) o1 λ Z2 l₂=>?_
  have L2:=l1.trans l₂
  show WifP (!nmB k) (TruP (.bool (!nmB k)) λ t=>WifP t (A Z2) (B Z2)) _
  cases em:nmB k with
  | false=>exact no Z2 L2 (by rw [em];rfl)
  | true=>
   obtain ⟨kw,rfl,hkw⟩:=name_str em
   cases h1
   have h₂:=l₂ _ _ h₁
   have hn₂:=L2 _ _ hn
   show WifP false _ _
   walk_at"ug"
   refine inS rfl all_str ?_
   rw [any_str]
   show WifP (!nb.contains kw) (A Z2) (B Z2)
   cases ec:nb.contains kw with
   | false=>exact no Z2 L2 (by show (nmB (.v (.str kw))&&nb.contains kw)=false;rw [ec,Bool.and_false])
   | true=>exact hB _ (hq (by show ifO (nmB (.v (.str kw))&&nb.contains kw) _ _=_;rw [ec,em];rfl) Z2 L2)
 | br b e hl=>
  subst e
  obtain ⟨q,x,y,q',rfl⟩:∃ q x y q',rs=[q,x,y,q']:=by
   rcases rs with _ | ⟨k,_ | ⟨s,_ | ⟨m,_ | ⟨z,_ | ⟨y,rs⟩⟩⟩⟩⟩ <;> first | exact ⟨_,_,_,_,rfl⟩ | (simp at hl)
  obtain ⟨v1,r1,rfl,h1,r⟩:=r.cons';obtain ⟨v2,r2,rfl,h2,r⟩:=r.cons';obtain ⟨v3,r3,rfl,h3,r⟩:=r.cons';obtain ⟨v4,r4,rfl,h4,r⟩:=r.cons';cases r.nil'
  obtain ⟨o1,oo⟩:=Bool.and_eq_true_iff.mp oo
  obtain ⟨o2,oo⟩:=Bool.and_eq_true_iff.mp oo
  obtain ⟨o3,oo⟩:=Bool.and_eq_true_iff.mp oo
  obtain ⟨o4,oo⟩:=Bool.and_eq_true_iff.mp oo
  have en:nParts nb (brT b) [q,x,y,q']=orO (nTwo signs4 q) (ifO (x.isL&&y.isL) "BadRow" (nTwo signs4 q')):=rfl
  rw [en] at hq hX
  walk_at"ug"
  rw [show (brT b==[112,117,116])=false by cases b <;> rfl]
  refine hB _ (last (iffI λ A B hA hB=>?_))
  walk_at"ug"
  rw [show (brT b==[115,119,97,112])=false by cases b <;> rfl]
  refine hB _ (last (iffI λ A B hA hB=>?_))
  walk_at"ug"
  refine newO λ z Z1 V l1 hz=>?_
  have h₁:=l1 _ _ h
  walk_at"ug"
  refine inS rfl rfl ?_
  rw [show [AV.str [99,97,108,108],.str [117,110,100,111]].any (eqS · (.str (brT b)))=false by cases b <;> rfl]
  refine hB _ (last (iffI λ A B hA hB=>?_))
  walk_at"ug"
  refine newO λ z' Z2 V l₂ hz'=>?_
  have h₂:=l₂ _ _ h₁
  walk_at"ug"
  refine inS rfl rfl ?_
  rw [show [AV.str [112,117,115,104],.str [112,117,108,108]].any (eqS · (.str (brT b)))=false by cases b <;> rfl]
  refine hB _ (seq λ R hR=>?_)
  have L2:=l1.trans l₂
  walk_at"ug"
  refine n_two P TI T hd3 (hG.le L2) (L2 _ _ hG.qs) (h1.le L2) o1 _ _ (λ e1 Z3 l₃=>hR _ _ (seq λ R hR=>iffI λ A B hA hB=>?_)) λ c e a' Z' r=>hX c (by rw [e];rfl) a' Z' (r.up L2)
  have L3:=L2.trans l₃
  rw [e1] at hq hX
  have h₃:=L3 _ _ h
  have k2:=(h2.le L3).kind o2
  have k3:=(h3.le L3).kind o3
  have no:(x.isL&&y.isL)=false->A Z3:=λ e=>hA _ (raise_ok P TI (by decide) (Nat.le_trans (by decide) hd) (λ Q q=>q) λ a' Z' r=>hX _ (by rw [e];rfl) a' Z' (r.up L3))
  walk_at"ug"
  show WifP (!isOf x.kn ["list"]) (TruP (.bool (!isOf x.kn ["list"])) λ t=>WifP t (A Z3) (B Z3)) _
  rw [kn_lst o2]
  cases e2:x.isL with
  | false=>exact no (by rw [e2];rfl)
  | true=>
   show WifP false _ _
   walk_at"ug"
   show WifP (!isOf y.kn ["list"]) (A Z3) (B Z3)
   rw [kn_lst o3]
   cases e3:y.isL with
   | false=>exact no (by rw [e3,Bool.and_false])
   | true=>
    rw [e2,e3] at hq hX
    refine hB _ (hR _ _ (last ?_))
    walk_at"ug"
    exact n_two P TI T hd3 (hG.le L3) (L3 _ _ hG.qs) (h4.le L3) o4 _ _ (λ e Z4 l4=>hq e Z4 (L3.trans l4)) λ c e a' Z' r=>hX c e a' Z' (r.up L3)
end
end V3
namespace V3
open U U12 PySem
noncomputable def lenB(w:Txt)(n:Nat):Bool:=match lenE.lookup w with
 | some v=>eqS v (.int (n:Int))
 | none=>false
noncomputable def formL:List Lt->Option (Txt×List Lt)
 | []=>none
 | h::rs=>match h.str? with
  | some w=>match lenB w (rs.length+1) with
   | true=>some (w,rs)
   | false=>none
  | none=>none
noncomputable def formW(t:Lt):Option (Txt×List Lt):=match t.its with
 | some ts=>formL ts
 | none=>none
noncomputable def rowS(nb:List Txt)(lv:Nat)(t:Lt):Option String:=match formW t with
 | none=>some "BadRow"
 | some (w,rs)=>ifO (!decide (8<lv)) "TooDeep" (nParts nb w rs)
noncomputable def lstO:Lt->Option Lt
 | .lst l=>some l
 | _=>none
noncomputable def twoL:Option Lt->Option Lt->Option (Lt×Lt)
 | some a,some b=>some (a,b)
 | _,_=>none
noncomputable def brsL:List Lt->Option (Lt×Lt)
 | [_,_,x,y,_]=>twoL (lstO x) (lstO y)
 | _=>none
noncomputable def brs(t:Lt):Option (Lt×Lt):=match t.its with
 | some ts=>brsL ts
 | none=>none
noncomputable def inC(i j:Nat):List Int×String->List Int×String
 | (q,c)=>((i:Int)::(j:Int)::q,c)
noncomputable def badB(i:Nat)(sub:Lt->Option (List Int×String))(r:Option (List Int×String)):Option (Lt×Lt)->Option (List Int×String)
 | none=>r
 | some (a,b)=>match sub a with
  | some q=>some (inC i 0 q)
  | none=>match sub b with
   | some q=>some (inC i 1 q)
   | none=>r
noncomputable def badL(nb:List Txt)(sub:Lt->Option (List Int×String))(lv:Nat):Lt->Nat->Option (List Int×String)
 | .cons x r,i=>match rowS nb lv x with
  | some c=>some ([(i:Int)],c)
  | none=>badB i sub (badL nb sub lv r (i+1)) (brs x)
 | _,_=>none
noncomputable def badN(nb:List Txt):Nat->Nat->Lt->Option (List Int×String)
 | 0,lv,l=>badL nb (λ V=>none) lv l 0
 | n+1,lv,l=>badL nb (badN nb n (lv+1)) lv l 0
theorem len_int:∀ x∈lenE,∃ i,x.2=AV.int i:=λ x hx=>by
 simp only [lenE,mem_cons,not_mem_nil,or_false] at hx
 rcases hx with rfl | rfl | rfl | rfl | rfl | rfl | rfl | rfl <;> exact ⟨_,rfl⟩
theorem lenB_true{w:Txt}{n:Nat}(h:lenB w n=true):lenE.lookup w=some (.int (n:Int)):=by
 unfold lenB at h
 cases e:lenE.lookup w with
 | none=>rw [e] at h;cases h
 | some v=>
  rw [e] at h
  obtain ⟨i,hi⟩:=len_int _ (lk_mem e)
  cases (show v=.int i from hi)
  rw [show i=(n:Int) from eq_of_beq h]
theorem lenB_false{w:Txt}{n:Nat}(h:lenB w n=false):lenE.lookup w=none\/∃ i,lenE.lookup w=some (.int i)/\((n:Int)==i)=false:=by
 unfold lenB at h
 cases e:lenE.lookup w with
 | none=>exact .inl rfl
 | some v=>
  rw [e] at h
  obtain ⟨i,hi⟩:=len_int _ (lk_mem e)
  cases (show v=.int i from hi)
  exact .inr ⟨i,rfl,by rw [BEq.comm];exact h⟩
inductive RefL(Z:Hp)(c:String)(ps:List AV)(a:Addr)(Z':Hp):Prop
 | mk (pl:Addr) (r:RefC Z c (.ref pl) a Z') (h:Z' pl=some (.tup ps))
theorem RefL.up{Z0 Z Z':Hp}{c:String}{ps:List AV}{a:Addr}(l:Le Z0 Z)(h:RefL Z c ps a Z'):RefL Z0 c ps a Z':=by
 obtain ⟨pl,r,h⟩:=h
 exact ⟨pl,r.up l,h⟩
noncomputable def tabC(g:Gs):List (String×Fn):=[("counted",f_counted g)]
noncomputable def CnL(K:Kx)(g:Gs)(nb:List Txt)(n lv:Nat):Prop:=∀ {N:Addr->Prop} {d:Nat} {Z:Hp} {Q:Post} {X:XPost} {la p nl:Addr} {vs ps:List AV} {l:Lt},20<=d+lv->l.ok.2=true->Z la=some (.list vs)->Rt N Z l vs->V2.Gk Z g->Z nl=some (.list (nb.map .str))->Z p=some (.tup ps)->ps≠[]->ps.length<=2*lv ->
 (badN nb n lv l=none->∀ k Z',Le Z Z'->Q (.int k) Z')->(∀ q c,badN nb n lv l=some (q,c)->∀ a Z',RefL Z c (ps++q.map .int) a Z'->X a Z')->K.fn false d "counted" [.ref la,.ref p,.int (lv:Int),.ref nl] Z Q X
inductive CkL(N:Addr->Prop)(nb:List Txt)(la p nl:Addr)(lv:Nat)(sub:Lt->Option (List Int×String))(L:Lt)(Z:Hp)(a:Nat)(rest:List AV)(ρ:U.Loc)(Z':Hp):Prop
 | mk (l':Lt) (k:Int) (x y z:Option AV) (e:ρ=[some (.ref la),some (.ref p),some (.int (lv:Int)),some (.ref nl),some (.int k),x,y,z]) (le:Le Z Z') (r:Rt N Z l' rest) (o:l'.ok.2=true) (hb:badL nb sub lv L 0=badL nb sub lv l' a)
theorem Rt.cons2{N:Addr->Prop}{Z:Hp}{l:Lt}{v:AV}{vs:List AV}(o:l.ok.2=true)(h:Rt N Z l (v::vs)):∃ t r,l=.cons t r/\Rt N Z t [v]/\Rt N Z r vs:=by
 cases l with
 | cons t r=>cases h with | cons _ _ _ _ h q=>exact ⟨t,r,rfl,h,q⟩
 | nil=>cases h
 | _=>cases o
theorem Rt.nil2{N:Addr->Prop}{Z:Hp}{l:Lt}(o:l.ok.2=true)(h:Rt N Z l []):l=.nil:=by
 cases l with
 | nil=>rfl
 | cons t r=>cases h
 | _=>cases o
theorem isL_of{t:Lt}(h:t.isL=true):∃ l,t=.lst l:=by
 cases t with
 | lst l=>exact ⟨l,rfl⟩
 | _=>cases h
theorem bad_eq{nb:List Txt}{n lv:Nat}{l:Lt}(h:lv+n=9):∃ sub,badN nb n lv l=badL nb sub lv l 0/\(lv<=8->∃ m,n=m+1/\sub=badN nb m (lv+1)):=by
 cases n with
 | zero=>exact ⟨_,rfl,λ q=>absurd h (by exact o1306 h q)⟩
 | succ m=>exact ⟨_,rfl,λ V=>⟨m,rfl,rfl⟩⟩
section
variable {K:Kx}{g:Gs}(P:PK K)(TI:Tab K tabI)(TN:Tab K (tabN g))(T:Tab K (tabC g))
include P TI TN T
set_option maxHeartbeats 2000000 in
theorem cl_step{nb:List Txt}{n lv:Nat}(h9:lv+n=9)(IH:∀ m,n=m+1->CnL K g nb m (lv+1)):CnL K g nb n lv:=by
 intro N d Z Q X la p nl vs ps l hd ol hl hr hG hn hp hp0 hp1 hq hX
 have htl:tooLong=1000000:=rfl
 have hd0:d≠0:=by exact o1307 h9 hd
 obtain ⟨sub,hbn,hsub⟩:=bad_eq (nb:=nb) (l:=l) h9
 rw [hbn] at hq hX
 refine ent' T (f_counted g) (.head _) rfl (ρ:=[some (.ref la),some (.ref p),some (.int (lv:Int)),some (.ref nl),none,none,none,none]) rfl ?_
 dsimp only [f_counted]
 refine seq λ R hR=>?_
 walk_at"ug"
 refine hR _ _ (seq λ R hR=>forI λ F hF=>?_)
 walk_at"ug"
 refine hF _ _ _ ?_
 rw [enumOf_en]
 refine for_en (λ a=>CkL N nb la p nl lv sub l Z a) (λ V V V V h=>by obtain ⟨V,V,V,V,V,V,le,V⟩:=h;exact le _ _ hl) ?_ ?_ vs 0 _ _ ⟨l,0,_,_,_,rfl,Le.refl _,hr,ol,rfl⟩
 . rintro a x rest ρ Z2 cc ⟨l',k,x1,x2,x3,rfl,l₂,hr',ol',hb⟩ hcc
   obtain ⟨t,r,rfl,rt,rr⟩:=hr'.cons2 ol'
   obtain ⟨ot,orr⟩:=Bool.and_eq_true_iff.mp ol'
   have hp2:=l₂ _ _ hp
   have hG2:=hG.le l₂
   refine seq λ R hR=>?_
   walk_at"ug"
   refine newO λ z Z3 V l₃ hz=>?_
   have hp3:=l₃ _ _ hp2
   walk_at"ug"
   refine ⟨⟨hp0,nofun,by (try simp only [length_cons,length_nil]);exact qli [_,_,_,_] (.i 2 2 (.a Y2 Y3) (.n 9) (.i 0 1 Y0 (.m 2 Y2) (.i 5 1 Y1 (.n 1000000) (.h 0 (.a Y0 X1) Y1)))) rfl h9 hp1 htl⟩,newO λ hr' Z4 V l4 hhr=>hR _ _ (seq λ R hR=>iffI λ A B hA hB=>?_)⟩
   have L4:=l₂.trans (l₃.trans l4)
   have hL:=L4 _ _ hG.len
   have hn4:=L4 _ _ hn
   have rt4:=rt.le L4
   have hk:kindIs Z4 x=some t.kn:=rt4.kind ot
   have ht:=kn_tup ot
   have bd:∀ c,rowS nb lv t=some c->∀ a' Z' Z5,Le Z4 Z5->RefC Z5 c (.ref hr') a' Z'->X a' Z':=λ c e a' Z' Z5 l₅ r=>hX [(a:Int)] c (by rw [hb];show (match rowS nb lv t with | some c=>some ([(a:Int)],c) | none=>_)=_;rw [e]) a' Z' (.up L4 ⟨hr',r.up l₅,by obtain ⟨V,le,V⟩:=r.up l₅;exact le _ _ hhr⟩)
   have no:formW t=none->A Z4:=λ e=>hA _ (raise_ok P TI (by decide) (by exact o1309 h9 hd) (λ Q q=>q) λ a' Z' r=>⟨rfl,bd "BadRow" (by unfold rowS;rw [e]) a' Z' Z4 (Le.refl _) r⟩)
   walk_at"ug"
   show WifP (!isOf t.kn ["tuple"]) (TruP (.bool (!isOf t.kn ["tuple"])) λ t=>WifP t (A Z4) (B Z4)) _
   rw [ht]
   cases ei:t.its with
   | none=>exact no (by unfold formW;rw [ei])
   | some ts=>
   have ef:formW t=formL ts:=by unfold formW;rw [ei]
   obtain ⟨ta,tv,rfl,hta,rts,oo⟩:=rt4.items ot ei
   have hll:tv.length=ts.length:=rts.lenL
   have h100:=its_len ot ei
   have hlt:tv.length<tooLong:=by rw [hll];exact Nat.lt_trans h100 (by decide)
   show WifP false _ _
   walk_at"ug"
   rcases ts with V | ⟨h,rs⟩
   . cases rts.nil';exact no ef
   obtain ⟨vh,vr,rfl,rh,rvr⟩:=rts.cons'
   obtain ⟨oh,ors⟩:=Bool.and_eq_true_iff.mp oo
   have hlz:(((vh::vr).length:Nat):Int)≠0:=λ q=>nomatch Int.ofNat.inj q
   rw [show ((((vh::vr).length:Nat):Int)==0)=false from beq_eq_false_iff_ne.mpr hlz]
   have hkh:=rh.kind oh
   walk_at"ug"
   show WifP (!isOf h.kn ["str"]) (A Z4) (B Z4)
   rw [kn_str oh]
   cases es:h.str? with
   | none=>exact no (by rw [ef];show (match h.str? with | some w=>(match lenB w (rs.length+1) with | true=>some (w,rs) | false=>none) | none=>none)=none;rw [es])
   | some w=>
   obtain ⟨rfl,rfl⟩:=rh.str es
   have hll':vr.length=rs.length:=rvr.lenL
   have ef':formW t=match lenB w (rs.length+1) with
    | true=>some (w,rs)
    | false=>none:=ef
   show WifP false _ _
   refine hB _ (hR _ _ (seq λ R hR=>iffI λ A B hA hB=>?_))
   have no:lenB w (rs.length+1)=false->A Z4:=λ e=>hA _ (raise_ok P TI (by decide) (by exact o1309 h9 hd) (λ Q q=>q) λ a' Z' r=>⟨rfl,bd "BadRow" (by unfold rowS;rw [ef',e]) a' Z' Z4 (Le.refl _) r⟩)
   walk_at"ug"
   show WifP (!(lenE.lookup w).isSome) (TruP (.bool (!(lenE.lookup w).isSome)) λ t=>WifP t (A Z4) (B Z4)) _
   cases eb:lenB w (rs.length+1) with
   | false=>
    rcases lenB_false eb with e | ⟨i,e,e'⟩
    . rw [e];exact no eb
    . rw [e]
      show WifP false _ _
      walk_at"ug"
      show WifP (!((((AV.str w::vr).length:Nat):Int)==i)) (A Z4) (B Z4)
      rw [length_cons,hll',e']
      exact no eb
   | true=>
   have e:=lenB_true eb
   have hw:Wd w rs.length:=wd_of e
   rw [eb] at ef'
   replace ef':formW t=some (w,rs):=ef'
   have ers:rowS nb lv t=ifO (!decide (8<lv)) "TooDeep" (nParts nb w rs):=by unfold rowS;rw [ef']
   rw [e]
   show WifP false _ _
   walk_at"ug"
   show WifP (!((((AV.str w::vr).length:Nat):Int)==((rs.length+1:Nat):Int))) (A Z4) (B Z4)
   rw [length_cons,hll',beq_self_eq_true]
   refine hB _ (hR _ _ (seq λ R hR=>iffI λ A B hA hB=>?_))
   walk_at"ug"
   by_cases h8:8<lv
   . rw [decide_eq_true (show (8:Int)<(lv:Int) from Int.ofNat_lt.mpr h8)]
     exact hA _ (raise_ok P TI (by decide) (by exact qli [_,_,_] (.i 2 1 (.a Y1 Y2) (.n 9) (.i 0 1 (.n 20) (.a Y0 Y1) (.i 1 0 (.n 8) Y1 (.g 0 (.n 2) Y0)))) rfl h9 hd h8) (λ Q q=>q) λ a' Z' r=>⟨rfl,bd "TooDeep" (by rw [ers,decide_eq_true h8];rfl) a' Z' Z4 (Le.refl _) r⟩)
   have h8':lv<=8:=Nat.le_of_not_lt h8
   obtain ⟨m,hm,hsm⟩:=hsub h8'
   rw [decide_eq_false h8] at ers
   replace ers:rowS nb lv t=nParts nb w rs:=ers
   rw [show decide ((8:Int)<(lv:Int))=false from decide_eq_false λ q=>h8 (Int.ofNat_lt.mp q)]
   refine hB _ (hR _ _ (seq λ R hR=>?_))
   walk_at"ug"
   refine n_parts P TI TN (by exact o1311 h9 hd h8 hm) (hG.le L4) hn4 hta rvr ors hw _ _ (λ en Z5 l₅=>hR _ _ (seq λ R hR=>?_)) λ c e a' Z' r=>⟨rfl,bd c (by rw [ers,e]) a' Z' Z4 (Le.refl _) r⟩
   have hbr:badL nb sub lv l 0=badB a sub (badL nb sub lv r (a+1)) (brs t):=by rw [hb];show (match rowS nb lv t with | some c=>some ([(a:Int)],c) | none=>badB a sub (badL nb sub lv r (a+1)) (brs t))=_;rw [ers,en]
   have ebr:brs t=brsL (.v (.str w)::rs):=by unfold brs;rw [ei]
   have L5:=L4.trans l₅
   have hta5:=l₅ _ _ hta
   walk_at"ug"
   refine hR _ _ (last (iffI λ A B hA hB=>?_))
   walk_at"ug"
   refine newO λ z' Z6 V l6 hz'=>?_
   have hta6:=l6 _ _ hta5
   have L6:=L5.trans l6
   walk_at"ug"
   refine inS rfl rfl ?_
   have nxt:∀ (k':Int) (x y z:Option AV) (Z3:Hp),Le Z Z3->badL nb sub lv l 0=badL nb sub lv r (a+1)->CkL N nb la p nl lv sub l Z (a+1) rest [some (.ref la),some (.ref p),some (.int (lv:Int)),some (.ref nl),some (.int k'),x,y,z] Z3:=λ k' x y z Z3 l' e=>⟨r,k',x,y,z,rfl,l',rr,orr,e⟩
   by_cases hbb:∃ b,w=brT b
   . obtain ⟨b,rfl⟩:=hbb
     rw [show [AV.str [105,102],.str [114,111,117,110,100]].any (eqS · (.str (brT b)))=true from yes_br b]
     have h4:rs.length=4:=by
      have e5:lenE.lookup (brT b)=some (.int 5):=by cases b <;> rfl
      rw [e5] at e
      exact (Nat.succ.inj (Int.ofNat.inj (AV.int.inj (Option.some.inj e)))).symm
     obtain ⟨q,x,y,q',rfl⟩:∃ q x y q',rs=[q,x,y,q']:=by
      rcases rs with _ | ⟨k,_ | ⟨s,_ | ⟨m,_ | ⟨z,_ | ⟨y,rs⟩⟩⟩⟩⟩ <;> first | exact ⟨_,_,_,_,rfl⟩ | (simp at h4)
     have en2:=(ifO_none (orO_none (show orO (nTwo signs4 q) (ifO (x.isL&&y.isL) "BadRow" (nTwo signs4 q'))=none from en)).2).1
     obtain ⟨xa,rfl⟩:=isL_of (Bool.and_eq_true_iff.mp en2).1
     obtain ⟨ya,rfl⟩:=isL_of (Bool.and_eq_true_iff.mp en2).2
     obtain ⟨v1,w1,rfl,V,rvr⟩:=rvr.cons';obtain ⟨v2,w2,rfl,r2,rvr⟩:=rvr.cons';obtain ⟨v3,w3,rfl,r3,rvr⟩:=rvr.cons';obtain ⟨v4,w4,rfl,V,rvr⟩:=rvr.cons';cases rvr.nil'
     obtain ⟨V,ors⟩:=Bool.and_eq_true_iff.mp ors
     obtain ⟨ox,ors⟩:=Bool.and_eq_true_iff.mp ors
     obtain ⟨oy,V⟩:=Bool.and_eq_true_iff.mp ors
     cases r2 with
     | lst xA _ xv _ hxA rx=>
     cases r3 with
     | lst yA _ yv _ hyA ry=>
     have hbr':badL nb sub lv l 0=match sub xa with
      | some q=>some (inC a 0 q)
      | none=>match sub ya with
       | some q=>some (inC a 1 q)
       | none=>badL nb sub lv r (a+1):=by rw [hbr,ebr];rfl
     subst hsm
     have l46:=l₅.trans l6
     have hhr6:=l46 _ _ hhr
     refine hA _ (seq λ R hR=>?_)
     walk_at"ug"
     refine newO λ z0 Z7 V l7 hz0=>?_
     have hhr7:=l7 _ _ hhr6
     walk_at"ug"
     refine ⟨⟨λ e=>(by simp at e),nofun,by simp only [length_append,length_cons,length_nil];exact o1312 h9 hp1 htl h8 hm⟩,newO λ p0 Z8 V l₈ hp0'=>?_⟩
     have l48:=l46.trans (l7.trans l₈)
     have L8:=L4.trans l48
     rw [show (lv:Int)+1=((lv+1:Nat):Int) from rfl]
     refine ⟨hd0,IH m hm (l:=xa) (by exact o1313 h9 hd h8 hm) (Bool.and_eq_true_iff.mp ox).1 (l48 _ _ hxA) (rx.le l48) (hG.le L8) (L8 _ _ hn) hp0' (λ e=>(by simp at e)) (by simp only [length_append,length_cons,length_nil];exact o1314 h9 hp1 hm) (λ hno k1 Z9 l9=>?_) λ pq c hpq ex Z' rf=>⟨rfl,hX ((a:Int)::0::pq) c (by rw [hbr',hpq];rfl) ex Z' (by have:=rf.up L8;rw [append_assoc,append_assoc] at this;exact this)⟩⟩
     walk_at"ug"
     refine hR _ _ (last ?_)
     have l69:=(l7.trans l₈).trans l9
     have hta9:=l69 _ _ hta6
     have hhr9:=l69 _ _ hhr6
     walk_at"ug"
     refine newO λ z1 Z10 V l10 hz1=>?_
     have hhr10:=l10 _ _ hhr9
     walk_at"ug"
     refine ⟨⟨λ e=>(by simp at e),nofun,by simp only [length_append,length_cons,length_nil];exact o1312 h9 hp1 htl h8 hm⟩,newO λ p1 Z11 V l11 hp1'=>?_⟩
     have l4b:=l46.trans (l69.trans (l10.trans l11))
     have L11:=L4.trans l4b
     rw [show (lv:Int)+1=((lv+1:Nat):Int) from rfl]
     refine ⟨hd0,IH m hm (l:=ya) (by exact o1313 h9 hd h8 hm) (Bool.and_eq_true_iff.mp oy).1 (l4b _ _ hyA) (ry.le l4b) (hG.le L11) (L11 _ _ hn) hp1' (λ e=>(by simp at e)) (by simp only [length_append,length_cons,length_nil];exact o1314 h9 hp1 hm) (λ hno' k2 Z12 l12=>?_) λ pq c hpq ex Z' rf=>⟨rfl,hX ((a:Int)::1::pq) c (by rw [hbr',hno,hpq];rfl) ex Z' (by have:=rf.up L11;rw [append_assoc,append_assoc] at this;exact this)⟩⟩
     walk_at"ug"
     exact hcc _ _ (nxt _ _ _ _ _ (L11.trans l12) (by rw [hbr',hno,hno']))
   . have ef:[AV.str [105,102],.str [114,111,117,110,100]].any (eqS · (.str w))=false:=by
      cases hw with
      | put e h=>subst e;rfl
      | swap e h=>subst e;rfl
      | pp e h=>rcases e with rfl | rfl <;> rfl
      | cu e h=>rcases e with rfl | rfl <;> rfl
      | br b e h=>exact absurd ⟨b,e⟩ hbb
     rw [ef]
     have e4:brs t=none:=by
      rw [ebr]
      have:rs.length≠4:=by
       cases hw with
       | put e h=>rw [h];decide
       | swap e h=>rw [h];decide
       | pp e h=>rw [h];decide
       | cu e h=>rw [h];decide
       | br b e h=>exact absurd ⟨b,e⟩ hbb
      rcases rs with _ | ⟨r1,_ | ⟨r2,_ | ⟨r3,_ | ⟨r4,_ | ⟨r5,rs⟩⟩⟩⟩⟩ <;> first | rfl | exact absurd rfl this
     exact hB _ (hcc _ _ (nxt _ _ _ _ _ L6 (by rw [hbr,e4];rfl)))
 . rintro a ρ Z2 ⟨l',k,x1,x2,x3,rfl,l₂,hr',ol',hb⟩
   cases hr'.nil2 ol'
   refine hR _ _ (last ?_)
   walk_at"ug"
   exact hq hb k Z2 l₂
theorem s_counted{nb:List Txt}:∀ n lv,lv+n=9->CnL K g nb n lv
 | 0,lv,h=>cl_step P TI TN T h nofun
 | n+1,lv,h=>cl_step P TI TN T h λ m e=>by cases e;exact s_counted n (lv+1) (by exact o1070 h)
end
end V3
namespace V3
open U U12 PySem
noncomputable def blkL:List Lt->Bool
 | [n,l]=>nmB n&&l.isL
 | _=>false
noncomputable def blkB(t:Lt):Bool:=match t.its with
 | some ts=>blkL ts
 | none=>false
noncomputable def nameL:List Lt->Txt
 | n::_=>n.str?.getD []
 | _=>[]
noncomputable def nameOf(t:Lt):Txt:=match t.its with
 | some ts=>nameL ts
 | none=>[]
noncomputable def rowsL:List Lt->Lt
 | [_,l]=>(lstO l).getD .nil
 | _=>.nil
noncomputable def rowsOf(t:Lt):Lt:=match t.its with
 | some ts=>rowsL ts
 | none=>.nil
noncomputable def kPb(nb:List Txt):List Lt->Option (List AV×String)
 | []=>none
 | b::r=>match badN nb 8 1 (rowsOf b) with
  | some (q,c)=>some (.str (nameOf b)::q.map .int,c)
  | none=>kPb nb r
noncomputable def dupB(ns:List Txt):Bool:=(ns.map λ w=>decide ((1:Int)<(ns.count w:Int))).any id
noncomputable def kPl(bs:List Lt):Option (Option (List AV)×String):=
 match decide (1<=bs.length)&&decide (bs.length<=12)&&bs.all blkB with
 | false=>some (none,"BadProgram")
 | true=>match dupB (bs.map nameOf) with
  | true=>some (none,"BadName")
  | false=>(kPb (bs.map nameOf) bs).map λ x=>(some x.1,x.2)
noncomputable def kP(t:Lt):Option (Option (List AV)×String):=match lstO t with
 | some l=>kPl l.tl
 | none=>some (none,"BadProgram")
inductive RefA(Z:Hp)(c:String)(a:Addr)(Z':Hp):Option (List AV)->Prop
 | no (r:RefC Z c .none a Z'):RefA Z c a Z' none
 | pl (ps:List AV) (r:RefL Z c ps a Z'):RefA Z c a Z' (some ps)
theorem Rt.zip{N:Addr->Prop}{Z:Hp}:∀ {ts:List Lt} {vs:List AV},Rt N Z (ofL ts) vs->(ts.zip vs).map Prod.snd=vs/\(ts.zip vs).map Prod.fst=ts/\∀ x∈ts.zip vs,Rt N Z x.1 [x.2]
 | [],_,h=>by cases h.nil';exact ⟨rfl,rfl,nofun⟩
 | t::ts,_,h=>by
  obtain ⟨v,r,rfl,h1,h2⟩:=h.cons'
  obtain ⟨e1,e2,e3⟩:=Rt.zip h2
  refine ⟨congrArg (v::·) e1,congrArg (t::·) e2,λ x hx=>?_⟩
  rcases mem_cons.mp hx with rfl | hx
  . exact h1
  . exact e3 x hx
noncomputable def tabK:List (String×Fn):=[("is_block",f_is_block),("checked",f_checked)]
section
variable {K:Kx}{g:Gs}(P:PK K)(TI:Tab K tabI)(TN:Tab K (tabN g))(TC:Tab K (tabC g))(T:Tab K tabK)
include TN T
theorem l_is_block{N:Addr->Prop}{d:Nat}{Z:Hp}{Q:Post}{X:XPost}{t:Lt}{v:AV}(hd:d≠0)(hG:V2.Gk Z g)(h:Rt N Z t [v])(o:t.ok.1=true)(hq:∀ Z',Le Z Z'->Q (.bool (blkB t)) Z'):K.fn false d "is_block" [v] Z Q X:=by
 have htl:tooLong=1000000:=rfl
 refine ent' T f_is_block (.head _) rfl (ρ:=[some v]) rfl (last ?_)
 have hk:kindIs Z v=some t.kn:=h.kind o
 have ht:=kn_tup o
 show OkP (kindIs Z v) _
 refine okP hk ?_
 show WifP (isOf t.kn ["tuple"]) _ (Q (.bool (isOf t.kn ["tuple"])) Z)
 rw [ht]
 cases ei:t.its with
 | none=>have:=hq Z (Le.refl _);rw [show blkB t=false by unfold blkB;rw [ei]] at this;exact this
 | some ts=>
  have eb:blkB t=blkL ts:=by unfold blkB;rw [ei]
  rw [eb] at hq
  obtain ⟨a,vs,rfl,ha,r,oo⟩:=h.items o ei
  have hll:vs.length=ts.length:=r.lenL
  show OkP (Z a) _
  refine okP ha ⟨by rw [hll];exact Nat.lt_trans (its_len o ei) (by decide),?_⟩
  show WifP ((vs.length:Int)==2) _ (Q (.bool ((vs.length:Int)==2)) Z)
  rcases ts with V | ⟨n,V | ⟨l,V | ⟨y,ts⟩⟩⟩
  . cases r.nil';exact hq Z (Le.refl _)
  . obtain ⟨v1,r1,rfl,h1,r⟩:=r.cons';cases r.nil';exact hq Z (Le.refl _)
  . obtain ⟨v1,r1,rfl,h1,r⟩:=r.cons';obtain ⟨v2,r2,rfl,h2,r⟩:=r.cons';cases r.nil'
    obtain ⟨o1,oo⟩:=Bool.and_eq_true_iff.mp oo
    obtain ⟨o2,V⟩:=Bool.and_eq_true_iff.mp oo
    show WifP true _ _
    walk_at"ug"
    refine l_is_name TN hG h1 o1 λ Z1 l1=>?_
    have hq:Q (.bool (nmB n&&l.isL)) Z1:=hq Z1 l1
    have ha1:=l1 _ _ ha
    have hk2:=(h2.le l1).kind o2
    cases em:nmB n with
    | false=>rw [em] at hq;exact hq
    | true=>
     rw [em] at hq
     walk_at"ug"
     rw [kn_lst o2];exact hq
  . rw [show ((vs.length:Int)==2)=false from beq_eq_false_iff_ne.mpr (by rw [hll];intro q;have:=Int.ofNat.inj q;simp at this)]
    exact hq Z (Le.refl _)
end
end V3
namespace V3
open U U12 PySem
inductive BkL(N:Addr->Prop)(Z:Hp)(t:Lt)(v:AV):Prop
 | mk (b l:Addr) (vs:List AV) (e:v=.ref b) (h:Z b=some (.tup [.str (nameOf t),.ref l])) (hl:Z l=some (.list vs)) (r:Rt N Z (rowsOf t) vs) (o:(rowsOf t).ok.2=true)
theorem bk_of{N:Addr->Prop}{Z:Hp}{t:Lt}{v:AV}(h:Rt N Z t [v])(o:t.ok.1=true)(hb:blkB t=true):BkL N Z t v:=by
 unfold blkB at hb
 cases ei:t.its with
 | none=>rw [ei] at hb;cases hb
 | some ts=>
  rw [ei] at hb
  obtain ⟨a,vs,rfl,ha,r,oo⟩:=h.items o ei
  rcases ts with V | ⟨n,V | ⟨l,V | ⟨y,ts⟩⟩⟩
  . cases hb
  . cases hb
  . obtain ⟨h1,h2⟩:=Bool.and_eq_true_iff.mp hb
    obtain ⟨w,rfl,V⟩:=name_str h1
    obtain ⟨l,rfl⟩:=isL_of h2
    obtain ⟨v1,r1,rfl,q1,r⟩:=r.cons';obtain ⟨v2,r2,rfl,q2,r⟩:=r.cons';cases r.nil'
    obtain ⟨V,oo⟩:=Bool.and_eq_true_iff.mp oo
    obtain ⟨o2,V⟩:=Bool.and_eq_true_iff.mp oo
    have e1:nameOf t=w:=by unfold nameOf;rw [ei];rfl
    have e2:rowsOf t=l:=by unfold rowsOf;rw [ei];rfl
    cases q1
    cases q2 with
    | lst b _ us _ hb q=>exact ⟨a,b,us,rfl,by rw [e1];exact ha,hb,by rw [e2];exact q,by rw [e2];exact (Bool.and_eq_true_iff.mp o2).1⟩
  . cases hb
theorem BkL.le{N:Addr->Prop}{Z Z':Hp}{t:Lt}{v:AV}(l:Le Z Z')(h:BkL N Z t v):BkL N Z' t v:=by
 obtain ⟨b,l',vs,e,h,hl,r,o⟩:=h
 exact ⟨b,l',vs,e,l _ _ h,l _ _ hl,r.le l,o⟩
inductive CpI(nb:List Txt)(xs:List (Lt×AV))(Z:Hp)(r:List (Lt×AV))(acc:List AV)(Z':Hp):Prop
 | mk (is:List Int) (le:Le Z Z') (hm:∀ b∈r,b∈xs) (hl:acc.length+r.length=xs.length) (he:acc=is.map .int) (hb:kPb nb (xs.map Prod.fst)=kPb nb (r.map Prod.fst))
theorem ints_any(is:List Int):ints? (is.map .int)=some is:=ints_map
section
variable {K:Kx}{g:Gs}(P:PK K)(TI:Tab K tabI)(TN:Tab K (tabN g))(TC:Tab K (tabC g))(T:Tab K tabK)
include P TI TN TC T
set_option maxHeartbeats 2000000 in
theorem s_checked{N:Addr->Prop}{d:Nat}{Z:Hp}{Q:Post}{X:XPost}{t:Lt}{v:AV}(hd:30<=d)(hG:V2.Gk Z g)(h:Rt N Z t [v])(o:t.ok.1=true)
  (hq:kP t=none->∀ k Z',Le Z Z'->Q (.int k) Z') (hX:∀ w c,kP t=some (w,c)->∀ a Z',RefA Z c a Z' w->X a Z'):K.fn false d "checked" [v] Z Q X:=by
 have htl:tooLong=1000000:=rfl
 have hd0:d≠0:=by exact o1071 hd
 refine ent' T f_checked (.tail _ (.head _)) rfl (ρ:=[some v,none]) rfl (seq λ R hR=>iffI λ A B hA hB=>?_)
 have rz:∀ {Z1:Hp} {ρ:U.Loc} {c:String} {Qn:SPost},c∈clsL->Le Z Z1->kP t=some (none,c)->pSs K false d [PS.raiseI c "UndoError.__init__" [.lit .none]] ρ Z1 Qn Q (λ V a Z'=>X a Z'):=λ hc l e=>raise_ok P TI hc (by exact o1315 hd) (λ Q q=>q) λ a Z' r=>hX _ _ e a Z' (.no (r.up l))
 have hk:kindIs Z v=some t.kn:=h.kind o
 have hkl:=kn_lst o
 show OkP (kindIs Z v) _
 refine okP hk ?_
 show WifP (!isOf t.kn ["list"]) (TruP (.bool (!isOf t.kn ["list"])) λ t=>WifP t (A Z) (B Z)) _
 rw [hkl]
 cases el:t.isL with
 | false=>
  have:kP t=some (none,"BadProgram"):=by
   unfold kP
   cases t with
   | lst l=>cases el
   | _=>rfl
  exact hA _ (rz (by decide) (Le.refl _) this)
 | true=>
 obtain ⟨l,rfl⟩:=isL_of el
 obtain ⟨ol,o100⟩:=Bool.and_eq_true_iff.mp o
 obtain ⟨etl,oa⟩:=tl_of ol
 cases h with
 | lst pr _ vs _ hpr r=>
 generalize hbs:l.tl=bs at *
 rw [<-etl] at r
 have ekp:kP (.lst l)=kPl bs:=by show kPl l.tl=_;rw [hbs]
 rw [ekp] at hq hX
 replace rz:∀ {Z1:Hp} {ρ:U.Loc} {c:String} {Qn:SPost},c∈clsL->Le Z Z1->kPl bs=some (none,c)->pSs K false d [PS.raiseI c "UndoError.__init__" [.lit .none]] ρ Z1 Qn Q (λ V a Z'=>X a Z'):=λ hc l e=>rz hc l (ekp.trans e)
 have hll:vs.length=bs.length:=r.lenL
 have h100:bs.length<100:=by rw [<-hbs,tl_len];exact of_decide_eq_true o100
 have hlt:vs.length<tooLong:=by rw [hll];exact o1316 htl hll h100
 have bp:(decide (1<=bs.length)&&decide (bs.length<=12)&&bs.all blkB)=false->kPl bs=some (none,"BadProgram"):=λ e=>by unfold kPl;rw [e]
 show WifP false _ _
 walk_at"ug"
 by_cases h1:1<=bs.length
 case neg=>
  rw [decide_eq_false (show ¬(1:Int)<=(vs.length:Int) by rw [hll];exact o1317 hll h100 h1)]
  walk_at"ug"
  exact hA _ (rz (by decide) (Le.refl _) (bp (by rw [decide_eq_false h1];rfl)))
 rw [decide_eq_true (show (1:Int)<=(vs.length:Int) by rw [hll];exact o1318 hll h100 h1)]
 walk_at"ug"
 by_cases h12:bs.length<=12
 case neg=>
  rw [decide_eq_false (show ¬(vs.length:Int)<=12 by rw [hll];exact o1319 hll h100 h1 h12)]
  walk_at"ug"
  exact hA _ (rz (by decide) (Le.refl _) (bp (by rw [decide_eq_false h12,Bool.and_false];rfl)))
 rw [decide_eq_true (show (vs.length:Int)<=12 by rw [hll];exact o1320 hll h100 h1 h12)]
 refine hB _ (hR _ _ (seq λ R hR=>iffI λ A B hA hB=>?_))
 obtain ⟨z1,z2,z3⟩:=r.zip
 generalize hxs:bs.zip vs=xs at z1 z2 z3
 have hxl:xs.length=bs.length:=by rw [<-z2,length_map]
 have oz:∀ x∈xs,x.1.ok.1=true:=λ x hx=>all_eq_true.mp oa x.1 (by rw [<-z2];exact mem_map.mpr ⟨x,hx,rfl⟩)
 subst z1
 walk_at"ug"
 rw [map_map]
 refine comp_each (g:=.keep pr (.list (xs.map Prod.snd))) (λ x:Lt×AV=>x.2) (λ x=>.bool (blkB x.1)) (λ Z'=>Le Z Z') (λ V l=>l _ _ hpr) xs [] Z (Le.refl _) (by simp only [length_nil];exact o1321 htl h100 h1 h12 hxl hll) ?_ ?_
 . intro x hx Z1 cont l1 hc
   walk_at"ug"
   exact l_is_block TN T (by exact o1322 hd) (hG.le l1) ((z3 x hx).le l1) (oz x hx) λ Z2 l₂=>hc Z2 (l1.trans l₂)
 intro Z1 l1 a Z2 ha l₂ ha₂
 rw [List.nil_append] at ha₂
 walk_at"ug"
 refine okP (v:=xs.map λ x=>blkB x.1) (by have:=bools_map (ss:=xs.map λ x:Lt×AV=>blkB x.1);rw [map_map] at this;exact this) ?_
 have eall:(xs.map λ x=>blkB x.1).all id=bs.all blkB:=by rw [<-z2,all_map,all_map];rfl
 rw [eall]
 cases ea:bs.all blkB with
 | false=>exact hA _ (rz (by decide) (l1.trans l₂) (bp (by rw [ea,Bool.and_false])))
 | true=>
 refine hB _ (hR _ _ (seq λ R hR=>?_))
 have hb:∀ x∈xs,BkL N Z x.1 x.2:=λ x hx=>bk_of (z3 x hx) (oz x hx) (all_eq_true.mp ea x.1 (by rw [<-z2];exact mem_map.mpr ⟨x,hx,rfl⟩))
 have ekl:kPl bs=match dupB (bs.map nameOf) with
  | true=>some (none,"BadName")
  | false=>(kPb (bs.map nameOf) bs).map λ x=>(some x.1,x.2):=by unfold kPl;rw [decide_eq_true h1,decide_eq_true h12,ea];rfl
 have L2:=l1.trans l₂
 have hpr2:=L2 _ _ hpr
 clear ha₂ ha
 walk_at"ug"
 rw [map_map]
 refine comp_each (g:=.keep pr (.list (xs.map Prod.snd))) (λ x:Lt×AV=>x.2) (λ x=>.str (nameOf x.1)) (λ Z'=>Le Z2 Z') (λ V l=>l _ _ hpr2) xs [] Z2 (Le.refl _) (by simp only [length_nil];exact o1321 htl h100 h1 h12 hxl hll) ?_ ?_
 . intro x hx Z3 cont l₃ hc
   obtain ⟨b,l',vs',e,h3,V⟩:=(hb x hx).le (L2.trans l₃)
   rw [e]
   walk_at"ug"
   exact hc Z3 l₃
 intro Z3 l₃ nl Z4 V l4 hnl
 rw [List.nil_append] at hnl
 have hnl:Z4 nl=some (.list ((bs.map nameOf).map .str)):=by rw [hnl,<-z2,map_map,map_map];rfl
 refine hR _ _ (seq λ R hR=>iffI λ A B hA hB=>?_)
 have L4:=L2.trans (l₃.trans l4)
 have hns:(bs.map nameOf).length=bs.length:=length_map _
 generalize hnn:bs.map nameOf=ns at hnl hns ekl
 have hnt:ns.length<tooLong:=by exact o1323 htl h100 h1 h12 hxl hll hns
 walk_at"ug"
 rw [map_map]
 refine comp_each (g:=.keep nl (.list (ns.map .str))) (λ w:Txt=>AV.str w) (λ w=>.bool (decide ((1:Int)<(ns.count w:Int)))) (λ Z'=>Le Z4 Z') (λ V l=>l _ _ hnl) ns [] Z4 (Le.refl _) (by simp only [length_nil];exact qli [_,_,_,_,_] (.i 5 1 Y1 (.n 1000000) (.i 1 0 Y2 (.n 100) (.i 0 0 X1 Y2 (.i 0 1 Y2 (.n 12) (.i 2 0 Y3 Y2 (.i 2 0 Y4 Y2 (.i 2 1 Y0 Y2 (.h 0 (.a X0 Y0) Y1)))))))) rfl htl h100 h1 h12 hxl hll hns) ?_ ?_
 . intro w hw Z5 cont l₅ hc
   have h5:=l₅ _ _ hnl
   walk_at"ug"
   refine okP strs_map ⟨hnt,?_⟩
   exact hc Z5 l₅
 intro Z5 l₅ a₅ Z6 V l6 ha6
 rw [List.nil_append] at ha6
 walk_at"ug"
 refine okP (v:=ns.map λ w=>decide ((1:Int)<(ns.count w:Int))) (by have:=bools_map (ss:=ns.map λ w=>decide ((1:Int)<(ns.count w:Int)));rw [map_map] at this;exact this) ?_
 have L6:=L4.trans (l₅.trans l6)
 show WifP (dupB ns) (A Z6) (B Z6)
 cases ed:dupB ns with
 | true=>rw [ed] at ekl;exact hA _ (rz (by decide) L6 ekl)
 | false=>
 rw [ed] at ekl
 replace ekl:kPl bs=(kPb ns bs).map λ x=>(some x.1,x.2):=ekl
 refine hB _ (hR _ _ (last ?_))
 have hpr6:=L6 _ _ hpr
 have hnl6:=(l₅.trans l6) _ _ hnl
 walk_at"ug"
 rw [map_map]
 refine comp_inv (a:=pr) (o:=.list (xs.map Prod.snd)) (λ x:Lt×AV=>It.one x.2) (λ x:Lt×AV=>[none,some (.ref nl),some (.str (nameOf x.1)),locAt ((match Z6 (match x.2 with | .ref b=>b | _=>0) with | some (.tup [_,w])=>[some w] | _=>[none])) 0]) (CpI ns xs Z6) (λ r acc Z' h=>by obtain ⟨is,h1,h2,h3,h4⟩:=h;exact ⟨h1 _ _ hpr6,by omega⟩) ?_ ?_ xs [] Z6 ⟨[],Le.refl _,λ V h=>h,by simp,rfl,rfl⟩
 . rintro ⟨bt,bv⟩ r acc Z7 c ⟨is,l7,hm,hlen,he,hdb⟩ hc
   have L7:=L6.trans l7
   obtain ⟨b,bl,bvs,rfl,hbb,hbl,rb,ob⟩:=hb _ (hm _ (.head _))
   have e6:=L6 _ _ hbb
   have e7:=L7 _ _ hbb
   refine ⟨by show (match Z7 b with | some (.tup vs)=>_ | _=>_)=_;rw [e7];simp only [e6];rfl,?_⟩
   have hnl7:=l7 _ _ hnl6
   simp only [e6]
   walk_at"ug"
   refine newO λ z Z8 V l₈ hz=>?_
   have L8:=L7.trans l₈
   walk_at"ug"
   have ek:kPb ns bs=match badN ns 8 1 (rowsOf bt) with
    | some (q,c)=>some (.str (nameOf bt)::q.map .int,c)
    | none=>kPb ns (r.map Prod.fst):=by rw [z2] at hdb;exact hdb
   refine s_counted P TI TN TC 8 1 rfl (by exact o1073 hd) ob (L8 _ _ hbl) (rb.le L8) (hG.le L8) (l₈ _ _ hnl7) hz nofun (by show 1<=2;decide) (λ hno k Z9 l9=>hc _ _ ⟨is++[k],l7.trans (l₈.trans l9),λ b hb=>hm b (.tail _ hb),by rw [length_append,length_singleton];rw [length_cons] at hlen;exact o1325 hxl hll hns hlen,by rw [he,map_append];rfl,by rw [z2,ek,hno]⟩) λ q c hq' a Z9 hR=>⟨trivial,hX _ c (by rw [ekl,ek,hq'];rfl) a Z9 (.pl _ (hR.up L8))⟩
 . rintro acc Z7 ⟨is,l7,V,V,he,hdb⟩
   subst he
   refine newO λ a8 Z8 V l₈ ha8=>?_
   walk_at"ug"
   refine okP (ints_any is) ?_
   refine hq ?_ _ Z8 (L6.trans (l7.trans l₈))
   rw [z2] at hdb
   rw [ekl,hdb];rfl
end
end V3
namespace V3
open U U12 PySem
noncomputable def noT:Txt:=[110,111,98,111,100,121]
noncomputable def clsW(w:Txt):String:=if w==rowW then "BadRow" else if w==nameW then "BadName" else if w==numW then "BadNumber" else "OwnBox"
noncomputable def callL(w:Txt):List Lt->Bool
 | [k]=>!([callT,undoT]:List Txt).contains w||(match k.str? with | some s=>s==noT | none=>true)
 | _=>true
noncomputable def callOk(t:Lt):Bool:=match formW t with
 | some (w,rs)=>callL w rs
 | none=>true
noncomputable def okRow(row:Lt)(w:Txt):Bool:=rowS [] 1 row==some (clsW w)&&callOk row&&row.ok.1&&((formW row).isSome||w==rowW)&&([rowW,nameW,numW,ownW]:List Txt).contains w
noncomputable def chkT:Lt->Bool
 | .tup (.cons row (.cons (.v (.str w)) .nil))=>okRow row w
 | _=>false
theorem all_chk:allP.all chkT=true:=by decide +kernel
theorem parts_nb{nb:List Txt}{w:Txt}{rs:List Lt}(hn:nb.contains noT=false)(h:callL w rs=true):nParts nb w rs=nParts [] w rs:=by
 rcases rs with _ | ⟨k,_ | ⟨j,_ | ⟨s,_ | ⟨m,_ | ⟨z,rs⟩⟩⟩⟩⟩ <;> try rfl
 show (match ([callT,undoT]:List Txt).contains w with | true=>ifO (nmB k&&sgB nb k) "BadName" none | false=>nName k)=(match ([callT,undoT]:List Txt).contains w with | true=>ifO (nmB k&&sgB [] k) "BadName" none | false=>nName k)
 cases e:([callT,undoT]:List Txt).contains w with
 | false=>rfl
 | true=>
  have h:(!([callT,undoT]:List Txt).contains w||(match k.str? with | some s=>s==noT | none=>true))=true:=h
  rw [e] at h
  have e2:sgB nb k=sgB [] k:=by
   unfold sgB
   cases ek:k.str? with
   | none=>rfl
   | some s=>
    rw [ek] at h
    cases eq_of_beq (show (s==noT)=true from h)
    exact hn
  show ifO (nmB k&&sgB nb k) "BadName" none=ifO (nmB k&&sgB [] k) "BadName" none
  rw [e2]
theorem rowS_nb{nb:List Txt}{lv:Nat}{t:Lt}(hn:nb.contains noT=false)(hl:lv<=8)(h:callOk t=true):rowS nb lv t=rowS [] 1 t:=by
 unfold rowS
 unfold callOk at h
 cases e:formW t with
 | none=>rfl
 | some x=>
  obtain ⟨w,rs⟩:=x
  rw [e] at h
  show ifO (!decide (8<lv)) "TooDeep" (nParts nb w rs)=ifO (!decide (8<1)) "TooDeep" (nParts [] w rs)
  rw [decide_eq_false (Nat.not_lt.mpr hl),parts_nb hn h];rfl
structure Bad(row:Lt)(w:Txt):Prop where
 ok:row.ok.1=true
 lo:∀ {nb lv},nb.contains noT=false->lv<=8->rowS nb lv row=some (clsW w)
 hi:∀ {nb lv},8<lv->rowS nb lv row=some (match (formW row).isSome with | true=>"TooDeep" | false=>"BadRow")
 fm:(formW row).isSome=true\/w=rowW
 wd:w∈[rowW,nameW,numW,ownW]
set_option tactic.hygienic true in
theorem bad_of{t:Lt}(h:t∈allP):∃ row w,t=pr w row/\Bad row w:=by
 have:=all_eq_true.mp all_chk t h
 unfold chkT at this
 split at this
 . rename_i row w
   unfold okRow at this
   simp only [Bool.and_eq_true,Bool.or_eq_true] at this
   obtain ⟨⟨⟨⟨h1,h2⟩,h3⟩,h4⟩,h5⟩:=this
   refine ⟨row,w,rfl,h3,λ hn hl=>(rowS_nb hn hl h2).trans (eq_of_beq h1),λ {nb lv} hl=>?_,h4.imp id λ e=>eq_of_beq e,contains_iff_mem.mp h5⟩
   unfold rowS
   cases e:formW row with
   | none=>rfl
   | some x=>
    show ifO (!decide (8<lv)) "TooDeep" (nParts nb x.1 x.2)=_
    rw [decide_eq_true hl];rfl
 . cases this
end V3
namespace V3
open U U12 PySem
noncomputable def cls7:List String:=["BadProgram","BadRow","BadName","BadNumber","OwnBox","TooDeep","BadLine"]
structure PX(K:Kx):Prop where
 p:PK K
 u:∀ c∈clsL,K.isx c "UndoError" true
 f:∀ c∈clsL,∀ n∈cls7,c≠n->K.isx c n false
 t:∀ c∈clsL,K.isx c c true
noncomputable def progW:Txt:=[112,114,111,103,114,97,109]
noncomputable def deepW:Txt:=[100,101,101,112]
noncomputable def wordC(c:String):Txt:=if c = "BadProgram" then progW else if c = "BadRow" then rowW else if c = "BadName" then nameW else if c = "BadNumber" then numW else if c = "OwnBox" then ownW else deepW
inductive AtV(Z:Hp):Option (List AV)->AV->Prop
 | no:AtV Z none .none
 | pl (ps:List AV) (a:Addr) (h:Z a=some (.tup ps)):AtV Z (some ps) (.ref a)
theorem AtV.le{Z Z':Hp}{w:Option (List AV)}{v:AV}(l:Le Z Z')(h:AtV Z w v):AtV Z' w v:=by
 cases h with
 | no=>exact .no
 | pl ps a h=>exact .pl ps a (l _ _ h)
inductive Exc(Z:Hp)(c:String)(w:Option (List AV))(a:Addr)(Z':Hp):Prop
 | mk (e:Addr) (v:AV) (le:Le Z Z') (h1:Z' a=some (.exc c (some e))) (h2:Z' e=some (.attrs [([97,116],v)])) (h3:AtV Z' w v)
theorem RefA.exc{Z Z':Hp}{c:String}{w:Option (List AV)}{a:Addr}(h:RefA Z c a Z' w):Exc Z c w a Z':=by
 cases h with
 | no r=>obtain ⟨e,le,h1,h2,n⟩:=r;exact ⟨e,_,le,h1,h2,.no⟩
 | pl ps r=>obtain ⟨pl,r,h⟩:=r;obtain ⟨e,le,h1,h2,n⟩:=r;exact ⟨e,_,le,h1,h2,.pl ps pl h⟩
noncomputable def tabT:List (String×Fn):=[("_law_word",V2.f__law_word)]
noncomputable def tabF:List (String×Fn):=[("_law_refusal",V2.f__law_refusal)]
section
variable {K:Kx}{g:Gs}(P:PX K)(TI:Tab K tabI)(TN:Tab K (tabN g))(TC:Tab K (tabC g))(TK:Tab K tabK)(TH:TabH K tabT)(T:Tab K tabF)
include P TH
theorem s_word{c:String}(hc:c∈clsL){d:Nat}{Z:Hp}{Q:Post}{X:XPost}{a:Addr}{e:Option Addr}(ha:Z a=some (.exc c e))(hq:Q (.str (wordC c)) Z):K.fn true d "_law_word" [.ref a] Z Q X:=by
 have htl:tooLong=1000000:=rfl
 have hx:XK K c:=⟨_,P.p.i c hc⟩
 have f:=P.f c hc
 have t:=P.t c hc
 refine TH.ent "_law_word" V2.f__law_word (.head _) (vs:=[.ref a]) rfl ?_
 show pSs K true d V2.f__law_word.body [some (.ref a),none] Z _ _ _
 dsimp only [V2.f__law_word]
 simp only [clsL,mem_cons,not_mem_nil,or_false] at hc
 refine seq λ R hR=>?_
 rcases hc with rfl | rfl | rfl | rfl | rfl | rfl
 all_goals
  walk_at"ug"
  first | refine ⟨true,t,?_⟩ | refine ⟨false,f "BadProgram" (by decide) (by decide),?_⟩
  walk_at"ug"
  first | refine ⟨true,t,?_⟩ | refine ⟨false,f "BadRow" (by decide) (by decide),?_⟩
  walk_at"ug"
  refine hR _ _ (seq λ R hR=>?_)
  walk_at"ug"
  first | refine ⟨true,t,?_⟩ | refine ⟨false,f "BadName" (by decide) (by decide),?_⟩
  walk_at"ug"
  first | refine ⟨true,t,?_⟩ | refine ⟨false,f "BadNumber" (by decide) (by decide),?_⟩
  walk_at"ug"
  refine hR _ _ (seq λ R hR=>?_)
  walk_at"ug"
  first | refine ⟨true,t,?_⟩ | refine ⟨false,f "OwnBox" (by decide) (by decide),?_⟩
  walk_at"ug"
  first | refine ⟨true,t,?_⟩ | refine ⟨false,f "TooDeep" (by decide) (by decide),?_⟩
  walk_at"ug"
  refine hR _ _ (last ?_)
  walk_at"ug"
  refine ⟨false,f "BadLine" (by decide) (by decide),?_⟩
  walk_at"ug"
  exact hq
include TI TN TC TK T
theorem s_refusal{N:Addr->Prop}{d:Nat}{Z:Hp}{Q:Post}{X:XPost}{t:Lt}{v:AV}{w:Option (List AV)}{c:String}(hd:32<=d)(hG:V2.Gk Z g)(h:Rt N Z t [v])(o:t.ok.1=true)(hk:kP t=some (w,c))(hc:c∈clsL)
  (hq:∀ la x Z',Le Z Z'->Z' la=some (.list [.str (wordC c),x])->Z la=none->AtV Z' w x->Q (.ref la) Z'):K.fn false d "_law_refusal" [v] Z Q X:=by
 have htl:tooLong=1000000:=rfl
 have hd0:d≠0:=by exact o1074 hd
 have hat:=P.p.a c hc
 refine ent' T V2.f__law_refusal (.head _) rfl (ρ:=[some v,none]) rfl ?_
 dsimp only [V2.f__law_refusal]
 refine last ?_
 dsimp only [PS.tryAs]
 refine last ?_
 walk_at"ug"
 refine s_checked P.p TI TN TC TK (by exact o1075 hd) hG h o (λ hno=>?_) λ w' c' hk' a Z1 hR=>?_
 . rw [hk] at hno;cases hno
 . rw [hk] at hk'
   cases hk'
   obtain ⟨e,x,le,e1,e2,e3⟩:=hR.exc
   refine okP e1 ⟨P.u c hc,last ?_⟩
   walk_at"ug"
   refine s_word P TH hc e1 ?_
   walk_at"ug"
   refine okP (v:=x) rfl ?_
   walk_at"ug"
   exact newO λ la Z2 n l₂ hc=>hq la x Z2 (le.trans l₂) hc (fresh_le le n) (e3.le l₂)
end
end V3
namespace V3
open U U12 PySem
noncomputable def tabG:List (String×Fn):=[("_law_has_form",f__law_has_form)]
section
variable {K:Kx}(T:Tab K tabG){d:Nat}{Z:Hp}{Q:Post}{X:XPost}
include T
theorem s_has_form{N:Addr->Prop}{t:Lt}{v:AV}(h:Rt N Z t [v])(o:t.ok.1=true)(hq:∀ Z',Le Z Z'->Q (.bool (formW t).isSome) Z'):K.fn false d "_law_has_form" [v] Z Q X:=by
 have htl:tooLong=1000000:=rfl
 refine ent' T f__law_has_form (.head _) rfl (ρ:=[some v,none]) rfl ?_
 dsimp only [f__law_has_form]
 refine seq λ R hR=>?_
 intro da nda
 refine ⟨⟨rfl,setH_here _ _ _⟩,setO λ Z1 hda k₁=>hR _ _ (seq λ R hR=>iffI λ A B hA hB=>?_)⟩
 have l1:Le Z Z1:=λ b o e=>by
  have q:b≠da:=λ q=>by rw [q,nda] at e;cases e
  rw [k₁ _ q,setH_ne q];exact e
 have hda:Z1 da=some (.dict lenE):=hda
 have h1:=h.le l1
 have hk:kindIs Z1 v=some t.kn:=h1.kind o
 have ht:=kn_tup o
 have no:∀ Z',Le Z Z'->(formW t).isSome=false->A Z':=λ Z' l e=>hA _ (last (by have:=hq Z' l;rw [e] at this;exact this))
 walk_at"ug"
 show WifP (!isOf t.kn ["tuple"]) (TruP (.bool (!isOf t.kn ["tuple"])) λ t=>WifP t (A Z1) (B Z1)) _
 rw [ht]
 cases ei:t.its with
 | none=>exact no Z1 l1 (by unfold formW;rw [ei];rfl)
 | some ts=>
 have ef:formW t=formL ts:=by unfold formW;rw [ei]
 rw [ef] at hq no
 obtain ⟨ta,tv,rfl,hta,rts,oo⟩:=h1.items o ei
 have hll:tv.length=ts.length:=rts.lenL
 have h100:=its_len o ei
 have hlt:tv.length<tooLong:=by rw [hll];exact Nat.lt_trans h100 (by decide)
 show WifP false _ _
 walk_at"ug"
 refine newO λ za Z2 nza l₂ hza=>?_
 have hta2:=l₂ _ _ hta
 have hda2:=l₂ _ _ hda
 have L2:=l1.trans l₂
 have hne:ta≠za:=λ q=>by rw [q,nza] at hta;cases hta
 rcases ts with V | ⟨hh,rs⟩
 . cases rts.nil'
   exact ⟨true,.seqs hne hta2 hza rfl rfl rfl rfl .nil,no Z2 L2 rfl⟩
 obtain ⟨vh,vr,rfl,rh,rvr⟩:=rts.cons'
 obtain ⟨oh,ors⟩:=Bool.and_eq_true_iff.mp oo
 refine ⟨false,.lens hne hta2 hza rfl rfl rfl (by simp) (.inr (.inr rfl)),?_⟩
 have hkh:=(rh.le l₂).kind oh
 walk_at"ug"
 show WifP (!isOf hh.kn ["str"]) (A Z2) (B Z2)
 rw [kn_str oh]
 cases es:hh.str? with
 | none=>exact no Z2 L2 (by show (match hh.str? with | some w=>(match lenB w (rs.length+1) with | true=>some (w,rs) | false=>none) | none=>none).isSome=false;rw [es];rfl)
 | some w=>
 obtain ⟨rfl,rfl⟩:=rh.str es
 show WifP false _ _
 refine hB _ (hR _ _ (last ?_))
 walk_at"ug"
 have hll':vr.length=rs.length:=rvr.lenL
 have fin:=hq Z2 L2
 have ef2:(formL (.v (.str w)::rs)).isSome=lenB w (rs.length+1):=by
  show (match lenB w (rs.length+1) with | true=>some (w,rs) | false=>none).isSome=_
  cases lenB w (rs.length+1) <;> rfl
 rw [ef2] at fin
 rw [hll']
 unfold lenB at fin
 cases e:lenE.lookup w with
 | none=>
  rw [e] at fin
  show Q (.bool ((0:Int)==((rs.length+1:Nat):Int))) Z2
  rw [show ((0:Int)==((rs.length+1:Nat):Int))=false from beq_eq_false_iff_ne.mpr λ q=>nomatch Int.ofNat.inj q]
  exact fin
 | some v=>
  rw [e] at fin
  obtain ⟨i,hi⟩:=len_int _ (lk_mem e)
  cases (show v=.int i from hi)
  exact fin
end
end V3
namespace V3
open U U12 PySem
noncomputable def Lt.sub:Lt->Lt->Lt
 | .ask,H=>H
 | .tup l,H=>.tup (l.sub H)
 | .lst l,H=>.lst (l.sub H)
 | .cons x l,H=>.cons (x.sub H) (l.sub H)
 | .v a,_=>.v a
 | .neg n,_=>.neg n
 | .dct,_=>.dct
 | .nil,_=>.nil
theorem sub_len(H:Lt):∀ t:Lt,t.ok.2=true->∀ {N:Addr->Prop} {Z:Hp} {vs:List AV},Rt N Z (t.sub H) vs->vs.length=t.len
 | .nil,_,_,_,_,h=>by cases h;rfl
 | .cons x l,o,_,_,_,h=>by
  cases h with
  | cons _ _ v vs _ r=>exact congrArg (·+1) (sub_len H l (Bool.and_eq_true_iff.mp o).2 r)
 | .v _,o,_,_,_,_ | .neg _,o,_,_,_,_ | .ask,o,_,_,_,_ | .dct,o,_,_,_,_ | .tup _,o,_,_,_,_ | .lst _,o,_,_,_,_=>by cases o
noncomputable def Ev(K:Kx)(hd:Bool)(d:Nat)(ρ:U.Loc)(Z0:Hp)(I:Hp->Prop)(e:PE)(t:Lt):Prop:=∀ Z Q X,Le Z0 Z->I Z->(∀ v Z',Le Z Z'->Rt (Nw Z0) Z' t [v]->Q v Z')->e K hd d ρ Z Q X
theorem ev_sub{K:Kx}{hd:Bool}{d k:Nat}{ρ:U.Loc}{Z0:Hp}{v0:AV}(H:Lt)(hk:locAt ρ k=some v0)(t:Lt):
  (t.ok.1=true->Ev K hd d ρ Z0 (λ Z=>Rt (Nw Z0) Z H [v0]) (t.pp k).1 (t.sub H)) /\
  (t.ok.2=true->∀ Z (Q:List AV->Hp->Prop) X,Le Z0 Z->Rt (Nw Z0) Z H [v0]->(∀ vs Z',Le Z Z'->Rt (Nw Z0) Z' (t.sub H) vs->Q vs Z')->pEs K hd d (t.pp k).2 ρ Z Q X):=by
 have tl:∀ n,n<100->n<tooLong:=λ n h=>Nat.lt_trans h (by decide)
 induction t with
 | v a=>exact ⟨λ V Z Q X V V q=>q a Z (Le.refl _) (.v a),nofun⟩
 | neg n=>exact ⟨λ V Z Q X V V q=>q _ Z (Le.refl _) (.neg n),nofun⟩
 | ask=>
  refine ⟨λ V Z Q X l h q=>?_,nofun⟩
  show OkP (locAt ρ k) _
  rw [hk];exact q _ Z (Le.refl _) h
 | dct=>exact ⟨λ V Z Q X l h q=>⟨rfl,newO λ a Z' n l' e=>q _ Z' l' (.dct a (fresh_le l n) e)⟩,nofun⟩
 | tup t ih=>
  refine ⟨λ o Z Q X l h q=>?_,nofun⟩
  obtain ⟨o1,o2⟩:=Bool.and_eq_true_iff.mp o
  refine ih.2 o1 Z _ _ l h λ vs Z' l' r=>⟨by rw [sub_len H t o1 r];exact tl _ (of_decide_eq_true o2),newO λ a Z2 n l₂ e=>?_⟩
  exact q _ Z2 (l'.trans l₂) (.tup a _ vs (fresh_le (l.trans l') n) e (r.le l₂))
 | lst t ih=>
  refine ⟨λ o Z Q X l h q=>?_,nofun⟩
  obtain ⟨o1,o2⟩:=Bool.and_eq_true_iff.mp o
  refine ih.2 o1 Z _ _ l h λ vs Z' l' r=>⟨by rw [sub_len H t o1 r];exact tl _ (of_decide_eq_true o2),newO λ a Z2 n l₂ e=>?_⟩
  exact q _ Z2 (l'.trans l₂) (.lst a _ vs (fresh_le (l.trans l') n) e (r.le l₂))
 | nil=>exact ⟨nofun,λ V Z Q X V V q=>q [] Z (Le.refl _) .nil⟩
 | cons x t hx ht=>
  refine ⟨nofun,λ o Z Q X l h q=>?_⟩
  obtain ⟨o1,o2⟩:=Bool.and_eq_true_iff.mp o
  exact hx.1 o1 Z _ _ l h λ v Z1 l1 r₁=>ht.2 o2 Z1 _ _ (l.trans l1) (h.le l1) λ vs Z2 l₂ r₂=>q _ Z2 (l1.trans l₂) (.cons _ _ v vs (r₁.le l₂) r₂)
theorem ev_all{K:Kx}{hd:Bool}{d:Nat}{ρ:U.Loc}{Z0:Hp}{I:Hp->Prop}(hI:∀ Z Z',I Z->Le Z Z'->I Z'):∀ (xs:List (PE×Lt)),(∀ x∈xs,Ev K hd d ρ Z0 I x.1 x.2)->∀ Z (Q:List AV->Hp->Prop) X,Le Z0 Z->I Z->(∀ vs Z',Le Z Z'->Rt (Nw Z0) Z' (ofL (xs.map Prod.snd)) vs->Q vs Z')->pEs K hd d (xs.map Prod.fst) ρ Z Q X
 | [],_,Z,Q,X,_,_,q=>q [] Z (Le.refl _) .nil
 | x::xs,h,Z,Q,X,l,i,q=>h x (.head _) Z _ X l i λ v Z1 l1 r₁=>ev_all hI xs (λ y hy=>h y (.tail _ hy)) Z1 _ X (l.trans l1) (hI _ _ i l1) λ vs Z2 l₂ r₂=>q _ Z2 (l1.trans l₂) (.cons _ _ v vs (r₁.le l₂) r₂)
noncomputable def blkT:Lt:=tu [.v (.str [97]),li [tu [.v (.str [112,117,115,104]),.v (.str [97])]]]
noncomputable def progA:List Lt:=[.v .none,tu [.ask],li [],.dct,.v (.str [97])]
noncomputable def thirT:Lt:=li ((List.range 13).map λ k:Nat=>tu [.v (.str (98::figs (k:Int))),li []])
noncomputable def progB:List Lt:=[li [.v .none],li [li [.v (.str [97]),li []]],li [tu [.v (.str [97])]]]
noncomputable def progC:List Lt:=[li [tu [.v (.str [97]),li [],li []]],li [tu [.v (.str [105,102]),li []]],li [tu [.v (.str [97]),tu []]],li [tu [.v (.int 5),li []]],li [.ask,tu [.v (.str [65]),li []]],li [tu [.v (.str [97]),.v .none],.ask]]
noncomputable def dupP:Lt:=li [.ask,tu [.v (.str [98]),li []],tu [.v (.str [97]),li []]]
noncomputable def progS:List Lt:=progA.map (·.sub blkT)++thirT::(progB.map (·.sub blkT)++progC.map (·.sub blkT))
noncomputable def isBP(c:String)(t:Lt):Bool:=t.ok.1&&(match kP t with | some (none,x)=>x==c | _=>false)
theorem kp_of{t:Lt}{c:String}(h:isBP c t=true):t.ok.1=true/\kP t=some (none,c):=by
 unfold isBP at h
 obtain ⟨h1,h2⟩:=Bool.and_eq_true_iff.mp h
 refine ⟨h1,?_⟩
 cases e:kP t with
 | none=>rw [e] at h2;cases h2
 | some x=>
  rw [e] at h2
  obtain ⟨x,y⟩:=x
  cases x with
  | none=>rw [eq_of_beq (show (y==c)=true from h2)]
  | some _=>cases h2
theorem prog_bad:progS.all (isBP "BadProgram")=true:=by decide +kernel
theorem dup_bad:isBP "BadName" (dupP.sub blkT)=true:=by decide +kernel
end V3
namespace V3
open U U12 PySem
noncomputable def thirE:PE:=.comp [false,false,false] [3] (.range [.lit (.int 13)]) none (.prim .mkTup [.prim .add [.lit (.str [98]),.prim .toStr [.loc 3]],.prim .mkList []])
noncomputable def thirF(k:Nat):Lt:=tu [.v (.str (98::figs (k:Int))),li []]
theorem ev_thir{K:Kx}{hd:Bool}{d:Nat}{r0 r1 r2:Option AV}{Z0:Hp}{I:Hp->Prop}:Ev K hd d [r0,r1,r2] Z0 I thirE thirT:=λ Z Q X l V q=>by
 refine ⟨rfl,⟨by decide,?_⟩⟩
 have fl:∀ k:Nat,k<13->(figs (k:Int)).length<10:=by decide
 have er:rangeOf 0 13=(List.range 13).map λ (k:Nat)=>It.one (.int (((0:Nat):Int)+(k:Int))):=rfl
 dsimp only [pIn]
 rw [er]
 refine comp_range_from (I:=λ k acc Z'=>Le Z Z'/\Rt (Nw Z0) Z' (ofL ((List.range k).map thirF)) acc) (n:=13) (by decide) (λ acc Z' a h ha=>?_) (λ k acc Z' h=>?_) (λ k acc Z' c hk h hc=>?_) 13 0 rfl [] Z ⟨Le.refl _,.nil⟩
 . exact q _ _ (h.1.trans (Le.new ha)) (.lst a _ acc (fresh_le (l.trans h.1) ha) (setH_here _ _ _) (h.2.le (Le.new ha)))
 . rw [h.2.lenL,length_map,length_range];exact Nat.le_refl _
 . obtain ⟨l1,r⟩:=h
   show (k:Int).natAbs<10 ^ 9/\_
   refine ⟨Nat.lt_trans hk (by decide),?_⟩
   show 1+(figs (k:Int)).length<tooLong/\_
   refine ⟨Nat.lt_trans (Nat.add_lt_add_left (fl k hk) 1) (by decide),⟨show 0<tooLong by decide,newO λ b Z2 nb l₂ hb=>⟨show 2<tooLong by decide,newO λ a Z3 na l₃ ha=>hc _ _ ⟨l1.trans (l₂.trans l₃),?_⟩⟩⟩⟩
   rw [List.range_succ,map_append]
   refine .app (.cons _ _ _ _ (.tupI (fresh_le (l.trans (l1.trans l₂)) na) ha (.cons _ _ _ _ (.v _) (.cons _ _ _ _ (.lst b _ [] (fresh_le (l.trans l1) nb) (l₃ _ _ hb) .nil) .nil))) .nil) (r.le (l₂.trans l₃))
theorem asg_list{K:Kx}{hd:Bool}{d i:Nat}{ρ:U.Loc}{Z Z0:Hp}{I:Hp->Prop}{R:SPost}{Qr:Post}{X:SX}(hI:∀ Z Z',I Z->Le Z Z'->I Z')(xs:List (PE×Lt))(hx:∀ x∈xs,Ev K hd d ρ Z0 I x.1 x.2)(l:Le Z0 Z)(hi:I Z)(hl:xs.length<500)
  (q:∀ v Z',Le Z Z'->LtL Z0 Z' (xs.map Prod.snd) v->R (ρ.set i (some v)) Z'):PS.assign (.name i) (.prim .mkList (xs.map Prod.fst)) K hd d ρ Z R Qr X:=
 ev_all hI xs hx Z _ _ l hi λ vs Z2 l₂ r₂=>⟨by rw [r₂.lenL,length_map];exact Nat.lt_trans hl (by decide),newO λ pl Z3 n3 l₃ h3=>q _ Z3 (l₂.trans l₃) ⟨pl,vs,rfl,fresh_le (l.trans l₂) n3,h3,r₂.le l₃⟩⟩
noncomputable def progE:List (PE×Lt):=progA.map (λ t=>((t.pp 1).1,t.sub blkT))++(thirE,thirT)::progB.map (λ t=>((t.pp 1).1,t.sub blkT))
noncomputable def f__law_bad_program:Fn:=⟨1,3,[.assign (.name 1) (blkT.pp 0).1,
 .assign (.name 2) (.prim .mkList (progE.map Prod.fst)),
 .assign (.name 2) (.prim .add [.loc 2,((li progC).pp 1).1]),
 .iff (.prim .eq [.prim .mod [.loc 0,.lit (.int 8)],.lit (.int 0)]) [.ret (.prim .mkTup [(dupP.pp 1).1,.lit (.str nameW)])] [],
 .ret (.prim .mkTup [.prim .item [.loc 2,.prim .mod [.prim .fdiv [.loc 0,.lit (.int 8)],.prim .len [.loc 2]]],.lit (.str progW)])]⟩
noncomputable def tabP:List (String×Fn):=[("_law_bad_program",f__law_bad_program)]
structure BadP(t:Lt)(w:Txt)(c:String):Prop where
 o:t.ok.1=true
 k:kP t=some (none,c)
 w:wordC c=w
 m:c∈clsL
section
variable {K:Kx}(T:Tab K tabP){d:Nat}{Z:Hp}{Q:Post}{X:XPost}
include T
set_option maxHeartbeats 4000000 in
theorem s_bad_program{n:Int}(q:∀ a x t w c Z',Le Z Z'->Z' a=some (.tup [x,.str w])->Rt (Nw Z) Z' t [x]->BadP t w c->Q (.ref a) Z'):K.fn false d "_law_bad_program" [.int n] Z Q X:=by
 refine ent' T f__law_bad_program (.head _) rfl (ρ:=[some (.int n),none,none]) rfl (seq λ R hR=>?_)
 refine (ev_sub (k:=0) (.v (.int n)) rfl blkT).1 (by decide) Z _ _ (Le.refl _) (.v _) λ b Z1 l1 rb=>hR _ _ (seq λ R hR=>?_)
 have rb:Rt (Nw Z) Z1 blkT [b]:=rb
 refine asg_list (Z0:=Z) (I:=λ Z'=>Rt (Nw Z) Z' blkT [b]) (λ V V h l=>h.le l) progE (λ x hx=>?_) l1 rb (by decide) λ pl Z3 l₂ g1=>hR _ _ (seq λ R hR=>?_)
 . rcases mem_append.mp hx with h | h
   . obtain ⟨t,ht,rfl⟩:=mem_map.mp h
     exact (ev_sub (k:=1) blkT rfl t).1 ((by decide:∀ t∈progA,t.ok.1=true) t ht)
   . rcases mem_cons.mp h with rfl | h
     . exact ev_thir
     . obtain ⟨t,ht,rfl⟩:=mem_map.mp h
       exact (ev_sub (k:=1) blkT rfl t).1 ((by decide:∀ t∈progB,t.ok.1=true) t ht)
 have L3:=l1.trans l₂
 have rb3:=rb.le l₂
 refine (ev_sub (k:=1) blkT rfl (li progC)).1 (by decide) Z3 _ _ L3 rb3 λ v Z4 l4 r₄=>?_
 have g2:LtL Z Z4 (progC.map (·.sub blkT)) v:=by
  obtain ⟨a,vs,e,n,h,r⟩:=(show Rt (Nw Z) Z4 (li (progC.map (·.sub blkT))) [v] from r₄).list
  exact ⟨a,vs,e,n,h,r⟩
 refine add_ltl (L3.trans l4) (g1.le l4) g2 (by decide) λ w Z5 l₅ g3=>hR _ _ (seq λ R hR=>iffI λ A B hA hB=>?_)
 have L5:=L3.trans (l4.trans l₅)
 have rb5:=rb3.le (l4.trans l₅)
 show (8:Int)≠0/\WifP (Int.fmod n 8==0) (A Z5) (B Z5)
 refine ⟨by decide,?_⟩
 cases e8:Int.fmod n 8==0 with
 | true=>
  refine hA _ (last ?_)
  refine (ev_sub (k:=1) blkT rfl dupP).1 (by decide) Z5 _ _ L5 rb5 λ x Z6 l6 r₆=>⟨show 2<tooLong by decide,newO λ a Z7 na l7 ha=>?_⟩
  obtain ⟨o1,k1⟩:=kp_of dup_bad
  exact q a x (dupP.sub blkT) nameW "BadName" Z7 (L5.trans (l6.trans l7)) ha (r₆.le l7) ⟨o1,k1,rfl,by decide⟩
 | false=>
  refine hB _ (hR _ _ (last ?_))
  obtain ⟨a,ws,rfl,na,ha,r⟩:=g3
  have hlen:ws.length=15:=r.lenL
  refine ⟨by decide,?_⟩
  show OkP (Z5 a) _
  refine okP ha ⟨by rw [hlen];decide,?_⟩
  show _≠_/\_
  refine ⟨by rw [hlen];decide,?_⟩
  show OkP (Z5 a) _
  refine okP ha ?_
  rw [hlen]
  have h0:0<=Int.fmod (Int.fdiv n 8) 15:=fmod_lo _ (by decide)
  have h1:Int.fmod (Int.fdiv n 8) 15<15:=fmod_hi _ (by decide)
  refine okP (itemL_ok h0 (by rw [hlen];exact h1) (by rw [hlen];decide)) ⟨show 2<tooLong by decide,newO λ z Z6 nz l6 hz=>?_⟩
  obtain ⟨t,ht,rt⟩:=r.at' (i:=(Int.fmod (Int.fdiv n 8) 15).toNat) (v:=pick ws (Int.fmod (Int.fdiv n 8) 15)) (by
   have:(Int.fmod (Int.fdiv n 8) 15).toNat<ws.length:=by rw [hlen];exact (Int.toNat_lt h0).mpr h1
   rw [pick,List.getElem?_eq_getElem this,List.getD_eq_getElem?_getD,List.getElem?_eq_getElem this];rfl)
  obtain ⟨o1,k1⟩:=kp_of (all_eq_true.mp prog_bad t (List.mem_of_getElem? ht))
  exact q z _ t progW "BadProgram" Z6 (L5.trans l6) hz (rt.le l6) ⟨o1,k1,rfl,by decide⟩
end
end V3
namespace V3
open U U12 PySem
noncomputable def thsT:List AV->List Lt:=List.map .v
noncomputable def toL:Tl->Lt
 | .nil=>.nil
 | .put k g m r=>.cons (tu [.v (.str putT),.v (.str k),.v (.str (sgT g)),tu (thsT m.avs)]) (toL r)
 | .swap k j r=>.cons (tu [.v (.str swapT),.v (.str k),.v (.str j)]) (toL r)
 | .two w k r=>.cons (tu [.v (.str w),.v (.str k)]) (toL r)
 | .br b q x y q' r=>.cons (tu [.v (.str (brT b)),tu (thsT q.avs),.lst (toL x),.lst (toL y),tu (thsT q'.avs)]) (toL r)
theorem rt_vs{N:Addr->Prop}{Z:Hp}:∀ vs:List AV,Rt N Z (ofL (thsT vs)) vs
 | []=>.nil
 | v::vs=>.cons _ _ v vs (.v v) (rt_vs vs)
theorem rep_rt{N N':Addr->Prop}{Z:Hp}(ht:∀ a vs,Z a=some (.tup vs)->N' a)(hl:∀ a,N a->N' a){t:Tl}:∀ {vs:List AV},RepT N Z t vs->Rt N' Z (toL t) vs:=by
 have tp:∀ {a:Addr} {ts:List Lt} {vs:List AV},Z a=some (.tup vs)->Rt N' Z (ofL ts) vs->Rt N' Z (tu ts) [.ref a]:=λ h r=>.tup _ _ _ (ht _ _ h) h r
 induction t with
 | nil=>intro vs h;cases h;exact .nil
 | put k g m r ih=>
  intro vs h
  obtain ⟨t,u,vs',rfl,h2,h3,h4⟩:=h
  exact .cons _ _ _ _ (tp h2 (.cons _ _ _ _ (.v _) (.cons _ _ _ _ (.v _) (.cons _ _ _ _ (.v _) (.cons _ _ _ _ (tp h3 (rt_vs _)) .nil))))) (ih h4)
 | swap k j r ih=>
  intro vs h
  obtain ⟨t,vs',rfl,h2,h4⟩:=h
  exact .cons _ _ _ _ (tp h2 (rt_vs [.str swapT,.str k,.str j])) (ih h4)
 | two w k r ih=>
  intro vs h
  obtain ⟨t,vs',rfl,h2,h4⟩:=h
  exact .cons _ _ _ _ (tp h2 (rt_vs [.str w,.str k])) (ih h4)
 | br b q x y q' r ix iy ih=>
  intro vs h
  obtain ⟨tt',u,u',la,lb,va,vb,vs',rfl,ht',hu,hu',hla,hra,hlb,hrb,hr⟩:=h
  exact .cons _ _ _ _ (tp ht' (.cons _ _ _ _ (.v _) (.cons _ _ _ _ (tp hu (rt_vs _)) (.cons _ _ _ _ (.lst _ _ _ (hl _ hla.1) hla.2 (ix hra)) (.cons _ _ _ _ (.lst _ _ _ (hl _ hlb.1) hlb.2 (iy hrb)) (.cons _ _ _ _ (tp hu' (rt_vs _)) .nil)))))) (ih hr)
theorem g_thing{x:Th}(h:ThG x):nThing (.v x.av)=none:=by
 cases x with
 | s k=>show ifO (goodB k) "BadName" none=none;rw [show goodB k=true from h];rfl
 | n i=>show ifO (decide (0<=i)&&decide (i<1000000)) "BadNumber" none=none;rw [decide_eq_true h.1,decide_eq_true h.2];rfl
theorem g_name{k:Txt}(h:goodB k=true):nName (.v (.str k))=none:=by show ifO (goodB k) "BadName" none=none;rw [h];rfl
theorem g_two{ss:List Txt}{s:Txt}{x y:Th}(hs:s∈ss)(hx:ThG x)(hy:ThG y):nTwo ss (tu [.v (.str s),.v x.av,.v y.av])=none:=by
 show ifO (ss.contains s) "BadRow" (orO (nThing (.v x.av)) (nThing (.v y.av)))=none
 rw [contains_iff_mem.mpr hs,g_thing hx,g_thing hy];rfl
theorem g_qu{q:Qu}(h:QG q):nTwo signs4 (tu (thsT q.avs))=none:=g_two h.s h.x h.y
theorem g_has{k:Txt}{x:Th}(h:x≠.s k):((Lt.v x.av).str?==some k)=false:=by
 cases x with
 | s j=>exact beq_eq_false_iff_ne.mpr λ e=>h (by cases e;rfl)
 | n i=>rfl
theorem g_put{k:Txt}{g:Bool}{m:Tot}(hk:goodB k=true)(hm:TotG k m):nPut (.v (.str k)) (.v (.str (sgT g))) (tu (thsT m.avs))=none:=by
 unfold nPut
 rw [g_name hk,show sgB [[43],[45]] (.v (.str (sgT g)))=true by cases g <;> rfl]
 show orO (nSum (tu (thsT m.avs))) (ifO (!ownB (.v (.str k)) (tu (thsT m.avs))) "OwnBox" none)=none
 cases m with
 | one x=>
  rw [show nSum (tu (thsT (Tot.one x).avs))=none from g_thing hm.1,show ownB (.v (.str k)) (tu (thsT (Tot.one x).avs))=false by show ((Lt.v x.av).str?==some k||false)=false;rw [g_has hm.2];rfl];rfl
 | two s x y=>
  rw [show nSum (tu (thsT (Tot.two s x y).avs))=none from g_two hm.1 hm.2.1.1 hm.2.2.1,show ownB (.v (.str k)) (tu (thsT (Tot.two s x y).avs))=false by show ((Lt.v x.av).str?==some k||((Lt.v y.av).str?==some k||false))=false;rw [g_has hm.2.1.2,g_has hm.2.2.2];rfl];rfl
end V3
namespace V3
open U U12 PySem
theorem rs_low{nb:List Txt}{lv:Nat}{t:Lt}{w:Txt}{rs:List Lt}(h:formW t=some (w,rs))(hl:lv<=8):rowS nb lv t=nParts nb w rs:=by
 unfold rowS
 rw [h]
 show ifO (!decide (8<lv)) "TooDeep" (nParts nb w rs)=_
 rw [decide_eq_false (Nat.not_lt.mpr hl)];rfl
theorem bl_none{nb:List Txt}{sub:Lt->Option (List Int×String)}{lv i:Nat}{x r:Lt}(h1:rowS nb lv x=none)(h2:brs x=none):badL nb sub lv (.cons x r) i=badL nb sub lv r (i+1):=by
 show (match rowS nb lv x with | some c=>some ([(i:Int)],c) | none=>badB i sub (badL nb sub lv r (i+1)) (brs x))=_
 rw [h1,h2];rfl
theorem bl_br{nb:List Txt}{sub:Lt->Option (List Int×String)}{lv i:Nat}{x r a b:Lt}(h1:rowS nb lv x=none)(h2:brs x=some (a,b))(ha:sub a=none)(hb:sub b=none):badL nb sub lv (.cons x r) i=badL nb sub lv r (i+1):=by
 show (match rowS nb lv x with | some c=>some ([(i:Int)],c) | none=>badB i sub (badL nb sub lv r (i+1)) (brs x))=_
 rw [h1,h2]
 show (match sub a with | some q=>some (inC i 0 q) | none=>match sub b with | some q=>some (inC i 1 q) | none=>badL nb sub lv r (i+1))=_
 rw [ha,hb]
theorem good_bad{nb:List Txt}(t:Tl):∀ {h lv m i:Nat},t.good nb->t.lv h->lv+h<=8->lv+m=8->badL nb (badN nb m (lv+1)) lv (toL t) i=none:=by
 induction t with
 | nil=>intros;rfl
 | put k g m r ih=>
  intro h lv n i hg hl h8 hm
  have h9:lv<=8:=Nat.le_trans (Nat.le_add_right _ _) h8
  exact (bl_none ((rs_low (w:=putT) (rs:=[.v (.str k),.v (.str (sgT g)),tu (thsT m.avs)]) rfl h9).trans (g_put hg.1.1 hg.1.2)) rfl).trans (ih hg.2 hl h8 hm)
 | swap k j r ih=>
  intro h lv n i hg hl h8 hm
  have h9:lv<=8:=Nat.le_trans (Nat.le_add_right _ _) h8
  exact (bl_none ((rs_low (w:=swapT) (rs:=[.v (.str k),.v (.str j)]) rfl h9).trans (by show orO (nName (.v (.str k))) (nName (.v (.str j)))=none;rw [g_name hg.1.1,g_name hg.1.2];rfl)) rfl).trans (ih hg.2 hl h8 hm)
 | two w k r ih=>
  intro h lv n i hg hl h8 hm
  have h9:lv<=8:=Nat.le_trans (Nat.le_add_right _ _) h8
  have hf:formW (tu [.v (.str w),.v (.str k)])=some (w,[.v (.str k)]):=by
   show (match lenB w 2 with | true=>some (w,[Lt.v (.str k)]) | false=>none)=_
   rw [show lenB w 2=true from (by decide:∀ w∈words4,lenB w 2=true) w hg.1.1]
  refine (bl_none ((rs_low hf h9).trans ?_) rfl).trans (ih hg.2 hl.2 h8 hm)
  show (match ([callT,undoT]:List Txt).contains w with | true=>ifO (goodB k&&nb.contains k) "BadName" none | false=>nName (.v (.str k)))=none
  cases e:([callT,undoT]:List Txt).contains w with
  | true=>
   have hw:w=callT\/w=undoT:=by
    have:=contains_iff_mem.mp e
    simp only [mem_cons,not_mem_nil,or_false] at this
    exact this
   show ifO (goodB k&&nb.contains k) "BadName" none=none
   rw [hg.1.2.1,contains_iff_mem.mpr (hg.1.2.2 hw)];rfl
  | false=>exact g_name hg.1.2.1
 | br b q x y q' r ix iy ih=>
  intro h lv n i hg hl h8 hm
  have h9:lv<=8:=Nat.le_trans (Nat.le_add_right _ _) h8
  obtain ⟨⟨h',e,lx,ly⟩,lr⟩:=hl
  obtain ⟨m',hm'⟩:∃ m',n=m'+1:=⟨n-1,by exact o1368 h8 hm e⟩
  subst hm'
  have hf:formW (tu [.v (.str (brT b)),tu (thsT q.avs),.lst (toL x),.lst (toL y),tu (thsT q'.avs)])=some (brT b,[tu (thsT q.avs),.lst (toL x),.lst (toL y),tu (thsT q'.avs)]):=by cases b <;> rfl
  refine (bl_br (a:=toL x) (b:=toL y) ((rs_low hf h9).trans ?_) rfl (ix hg.1.2.2.1 lx (by exact o1369 h8 e hm) (by exact o1370 hm)) (iy hg.1.2.2.2 ly (by exact o1369 h8 e hm) (by exact o1370 hm))).trans (ih hg.2 lr h8 hm)
  show orO (nTwo signs4 (tu (thsT q.avs))) (ifO true "BadRow" (nTwo signs4 (tu (thsT q'.avs))))=none
  rw [g_qu hg.1.1,g_qu hg.1.2.1];rfl
end V3
namespace V3
open U U12 PySem
noncomputable def Lt.ap:Lt->Lt->Lt
 | .cons x r,l=>.cons x (r.ap l)
 | _,l=>l
theorem Rt.ap{N:Addr->Prop}{Z:Hp}{l':Lt}{ws:List AV}(h':Rt N Z l' ws):∀ {l:Lt} {vs:List AV},l.ok.2=true->Rt N Z l vs->Rt N Z (l.ap l') (vs++ws)
 | .nil,_,_,h=>by cases h;exact h'
 | .cons x r,_,o,h=>by
  cases h with
  | cons _ _ v vs h q=>exact .cons _ _ v _ h (Rt.ap h' (Bool.and_eq_true_iff.mp o).2 q)
 | .v _,_,o,_ | .neg _,_,o,_ | .ask,_,o,_ | .dct,_,o,_ | .tup _,_,o,_ | .lst _,_,o,_=>by cases o
theorem ap_ok{l':Lt}(h':l'.ok.2=true):∀ {l:Lt},l.ok.2=true->(l.ap l').ok.2=true
 | .nil,_=>h'
 | .cons x r,o=>by
  obtain ⟨o1,o2⟩:=Bool.and_eq_true_iff.mp o
  exact Bool.and_eq_true_iff.mpr ⟨o1,ap_ok h' o2⟩
 | .v _,o | .neg _,o | .ask,o | .dct,o | .tup _,o | .lst _,o=>by cases o
theorem good_ap{nb:List Txt}{l:Lt}(t:Tl):∀ {h lv m i:Nat},t.good nb->t.lv h->lv+h<=8->lv+m=8->badL nb (badN nb m (lv+1)) lv ((toL t).ap l) i=badL nb (badN nb m (lv+1)) lv l (i+t.len):=by
 induction t with
 | nil=>intros;rfl
 | put k g m r ih=>
  intro h lv n i hg hl h8 hm
  have h9:lv<=8:=Nat.le_trans (Nat.le_add_right _ _) h8
  rw [show i+(Tl.put k g m r).len=i+1+r.len from (Nat.add_assoc i r.len 1).symm.trans (Nat.add_right_comm ..)]
  exact (bl_none ((rs_low (w:=putT) (rs:=[.v (.str k),.v (.str (sgT g)),tu (thsT m.avs)]) rfl h9).trans (g_put hg.1.1 hg.1.2)) rfl).trans (ih hg.2 hl h8 hm)
 | swap k j r ih=>
  intro h lv n i hg hl h8 hm
  have h9:lv<=8:=Nat.le_trans (Nat.le_add_right _ _) h8
  rw [show i+(Tl.swap k j r).len=i+1+r.len from (Nat.add_assoc i r.len 1).symm.trans (Nat.add_right_comm ..)]
  exact (bl_none ((rs_low (w:=swapT) (rs:=[.v (.str k),.v (.str j)]) rfl h9).trans (by show orO (nName (.v (.str k))) (nName (.v (.str j)))=none;rw [g_name hg.1.1,g_name hg.1.2];rfl)) rfl).trans (ih hg.2 hl h8 hm)
 | two w k r ih=>
  intro h lv n i hg hl h8 hm
  have hh:=good_bad (.two w k .nil) (i:=i) ⟨hg.1,trivial⟩ ⟨hl.1,trivial⟩ h8 hm
  rw [show i+(Tl.two w k r).len=i+1+r.len from (Nat.add_assoc i r.len 1).symm.trans (Nat.add_right_comm ..)]
  have h1:rowS nb lv (tu [.v (.str w),.v (.str k)])=none:=by
   cases e:rowS nb lv (tu [.v (.str w),.v (.str k)]) with
   | none=>rfl
   | some c=>
    have hh:(match rowS nb lv (tu [.v (.str w),.v (.str k)]) with | some c=>some ([(i:Int)],c) | none=>badB i (badN nb n (lv+1)) (badL nb (badN nb n (lv+1)) lv .nil (i+1)) none)=none:=hh
    rw [e] at hh;cases hh
  exact (bl_none h1 rfl).trans (ih hg.2 hl.2 h8 hm)
 | br b q x y q' r ix iy ih=>
  intro h lv n i hg hl h8 hm
  have h9:lv<=8:=Nat.le_trans (Nat.le_add_right _ _) h8
  obtain ⟨⟨h',e,lx,ly⟩,lr⟩:=hl
  obtain ⟨m',hm'⟩:∃ m',n=m'+1:=⟨n-1,by exact o1368 h8 hm e⟩
  subst hm'
  have hf:formW (tu [.v (.str (brT b)),tu (thsT q.avs),.lst (toL x),.lst (toL y),tu (thsT q'.avs)])=some (brT b,[tu (thsT q.avs),.lst (toL x),.lst (toL y),tu (thsT q'.avs)]):=by cases b <;> rfl
  rw [show i+(Tl.br b q x y q' r).len=i+1+r.len from (Nat.add_assoc i r.len 1).symm.trans (Nat.add_right_comm ..)]
  refine (bl_br (a:=toL x) (b:=toL y) ((rs_low hf h9).trans ?_) rfl (good_bad x hg.1.2.2.1 lx (by exact o1369 h8 e hm) (by exact o1370 hm)) (good_bad y hg.1.2.2.2 ly (by exact o1369 h8 e hm) (by exact o1370 hm))).trans (ih hg.2 lr h8 hm)
  show orO (nTwo signs4 (tu (thsT q.avs))) (ifO true "BadRow" (nTwo signs4 (tu (thsT q'.avs))))=none
  rw [g_qu hg.1.1,g_qu hg.1.2.1];rfl
theorem bad_here{nb:List Txt}{sub:Lt->Option (List Int×String)}{lv i:Nat}{x r:Lt}{c:String}(h:rowS nb lv x=some c):badL nb sub lv (.cons x r) i=some ([(i:Int)],c):=by
 show (match rowS nb lv x with | some c=>some ([(i:Int)],c) | none=>badB i sub (badL nb sub lv r (i+1)) (brs x))=_
 rw [h]
theorem bad_in{nb:List Txt}{sub:Lt->Option (List Int×String)}{lv i:Nat}{x r a b:Lt}{q:List Int×String}(h1:rowS nb lv x=none)(h2:brs x=some (a,b))(h:sub a=some q\/(sub a=none/\sub b=some q)):
  badL nb sub lv (.cons x r) i=some (inC i (match sub a with | some _=>0 | none=>1) q):=by
 show (match rowS nb lv x with | some c=>some ([(i:Int)],c) | none=>badB i sub (badL nb sub lv r (i+1)) (brs x))=_
 rw [h1,h2]
 show (match sub a with | some q=>some (inC i 0 q) | none=>match sub b with | some q=>some (inC i 1 q) | none=>badL nb sub lv r (i+1))=_
 rcases h with h | ⟨h,h'⟩
 . rw [h]
 . rw [h,h']
end V3
namespace V3
open U U12 PySem
structure XC(K:Kx)(c:String):Prop where
 a:K.xat c [97,116]
 i:K.xin c "UndoError.__init__"
section
variable {K:Kx}(TI:Tab K tabI)
include TI
theorem c_uinit{c:String}(hc:XC K c){d:Nat}{Z:Hp}{Q:Post}{X:XPost}{a:Addr}{v:AV}(ha:Z a=some (.exc c none))(hq:∀ e Z',Z e=none->Z' e=some (.attrs [([97,116],v)])->Z' a=some (.exc c (some e))->(∀ b o,b≠a->Z b=some o->Z' b=some o)->Q .none Z'):K.fn false d "UndoError.__init__" [.ref a,v] Z Q X:=by
 have hx:XK K c:=⟨_,hc.i⟩
 have hat:=hc.a
 have T:=TI
 refine ent' T V2.f_UndoError___init__ (.head _) rfl (ρ:=[some (.ref a),some v]) rfl ?_
 dsimp only [V2.f_UndoError___init__]
 refine seq λ R hR=>?_
 walk_at"ug"
 refine hR _ _ (last ?_)
 walk_at"ug"
 intro e he
 refine hq e _ he ?_ (setH_here _ _ _) λ b o hb ho=>?_
 . rw [setH_ne (λ q=>by rw [q,ha] at he;cases he),setH_here]
 . rw [setH_ne hb,setH_ne (λ q=>by rw [q,he] at ho;cases ho)];exact ho
theorem new_ok{c:String}(hc:XC K c){d:Nat}{Z:Hp}{Q:Post}{X:XPost}{ρ:U.Loc}{e:PE}{p:AV}(hd:2<=d)(he:∀ Q:Post,Q p Z->e K false d ρ Z Q X)(q:∀ a Z',RefC Z c p a Z'->Q (.ref a) Z'):
  PE.newX c "UndoError.__init__" [e] K false d ρ Z Q X:=by
 refine ⟨⟨hd,hc.i⟩,he _ ⟨show 1<tooLong by decide,λ a na=>?_⟩⟩
 refine c_uinit TI hc (setH_here _ _ _) λ ea Z5 hea he1 he2 k₅=>⟨⟨rfl,_,he2⟩,q a Z5 ⟨ea,λ b o ho=>?_,he2,he1,na⟩⟩
 exact k₅ b o (λ q=>by rw [q,na] at ho;cases ho) (by rw [setH_ne (λ q=>by rw [q,na] at ho;cases ho)];exact ho)
end
noncomputable def clsM:List String:=["BadProgram","BadRow","BadName","BadNumber","OwnBox","TooDeep","UndoError","BadLine"]
noncomputable def tabM:List (String×Fn):=[("_law_made",f__law_made)]
inductive Hd(K:Kx)(p:AV)(Z:Hp)(x:Addr×String):Prop
 | mk (e:Addr) (h1:Z x.1=some (.exc x.2 (some e))) (h2:Z e=some (.attrs [([97,116],p)])) (c:XC K x.2)
theorem RefC.hd{K:Kx}{Z Z':Hp}{c:String}{p:AV}{a:Addr}(hc:XC K c)(h:RefC Z c p a Z'):Hd K p Z' (a,c):=by
 obtain ⟨e,le,h1,h2,n⟩:=h
 exact ⟨e,h1,h2,hc⟩
theorem RefC.l{Z Z':Hp}{c:String}{p:AV}{a:Addr}(h:RefC Z c p a Z'):Le Z Z':=by
 obtain ⟨e,le,h1,h2,n⟩:=h
 exact le
theorem Hd.le{K:Kx}{p:AV}{Z Z':Hp}{x:Addr×String}(l:Le Z Z')(h:Hd K p Z x):Hd K p Z' x:=by
 obtain ⟨e,h1,h2,c⟩:=h
 exact ⟨e,l _ _ h1,l _ _ h2,c⟩
section
variable {K:Kx}(TI:Tab K tabI)(T:Tab K tabM)(M:∀ c∈clsM,XC K c)
include TI T M
theorem s_made{d:Nat}{Z:Hp}{Q:Post}{X:XPost}(hd:2<=d)(hq:∀ Z',Le Z Z'->Q (.bool true) Z'):K.fn false d "_law_made" [] Z Q X:=by
 have htl:tooLong=1000000:=rfl
 refine ent' T f__law_made (.head _) rfl (ρ:=[none,none]) rfl (seq λ R hR=>⟨show 4<tooLong by decide,newO λ p Z1 np l1 hp=>hR _ _ (seq λ R hR=>?_)⟩)
 have nw:∀ c∈clsM,∀ {Z:Hp} {Q:Post} {X:XPost},(∀ a Z',RefC Z c (.ref p) a Z'->Q (.ref a) Z')->PE.newX c "UndoError.__init__" [.loc 0] K false d [some (.ref p),none] Z Q X:=λ c hc V V V q=>new_ok TI (e:=.loc 0) (p:=.ref p) (ρ:=[some (.ref p),none]) (M c hc) hd (λ Q q=>q) q
 dsimp only [PS.assign,PE.prim,pEs,List.set]
 refine nw "BadRow" (by decide) λ a1 Z2 r1=>?_
 refine nw "BadName" (by decide) λ a2 Z3 r2=>?_
 refine nw "BadNumber" (by decide) λ a3 Z4 r3=>?_
 refine nw "OwnBox" (by decide) λ a4 Z5 r4=>?_
 refine nw "TooDeep" (by decide) λ a5 Z6 r5=>?_
 refine nw "UndoError" (by decide) λ a6 Z7 r6=>?_
 have H:∀ x∈[(a1,"BadRow"),(a2,"BadName"),(a3,"BadNumber"),(a4,"OwnBox"),(a5,"TooDeep"),(a6,"UndoError")],Hd K (.ref p) Z7 x:=λ x hx=>by
  simp only [mem_cons,not_mem_nil,or_false] at hx
  rcases hx with rfl | rfl | rfl | rfl | rfl | rfl
  . exact (r1.hd (M _ (by decide))).le (r2.l.trans (r3.l.trans (r4.l.trans (r5.l.trans r6.l))))
  . exact (r2.hd (M _ (by decide))).le (r3.l.trans (r4.l.trans (r5.l.trans r6.l)))
  . exact (r3.hd (M _ (by decide))).le (r4.l.trans (r5.l.trans r6.l))
  . exact (r4.hd (M _ (by decide))).le (r5.l.trans r6.l)
  . exact (r5.hd (M _ (by decide))).le r6.l
  . exact r6.hd (M _ (by decide))
 have L7:Le Z1 Z7:=r1.l.trans (r2.l.trans (r3.l.trans (r4.l.trans (r5.l.trans r6.l))))
 generalize hxs:[(a1,"BadRow"),(a2,"BadName"),(a3,"BadNumber"),(a4,"OwnBox"),(a5,"TooDeep"),(a6,"UndoError")]=xs at H
 have hvs:[AV.ref a1,.ref a2,.ref a3,.ref a4,.ref a5,.ref a6]=xs.map λ x=>.ref x.1:=by rw [<-hxs];rfl
 have hl:xs.length=6:=by rw [<-hxs];rfl
 refine ⟨show 6<tooLong by decide,newO λ la Z8 nla l₈ hla=>hR _ _ (seq λ R hR=>iffI λ A B hA hB=>?_)⟩
 rw [hvs] at hla
 have hp8:=(L7.trans l₈) _ _ hp
 walk_at"ug"
 rw [map_map]
 refine comp_each (g:=.keep la (.list (xs.map λ x=>.ref x.1))) (λ x:Addr×String=>AV.ref x.1) (λ V=>.bool true) (λ Z'=>Le Z8 Z') (λ V l=>l _ _ hla) xs [] Z8 (Le.refl _) (by rw [hl];decide) ?_ ?_
 . intro x hx Z9 cont l9 hc
   obtain ⟨e,h1,h2,c⟩:=(H x hx).le (l₈.trans l9)
   have hat:=c.a
   have hp9:=l9 _ _ hp8
   walk_at"ug"
   refine okP (v:=.ref p) rfl (okP (v:="tuple") (by show kO (Z9 p)=_;rw [hp9];rfl) ?_)
   show WifP true _ _
   walk_at"ug"
   refine okP (v:=.ref p) rfl ?_
   exact ⟨true,.same hp9 (.inr rfl),hc Z9 l9⟩
 intro Z9 l9 a9 Z10 na l10 ha
 rw [List.nil_append] at ha
 walk_at"ug"
 refine okP (v:=List.replicate xs.length true) ?_ ?_
 . have:=trues (vs:=xs.map λ V=>AV.bool true) (λ v hv=>by obtain ⟨V,V,e⟩:=mem_map.mp hv;exact e.symm)
   rw [length_map] at this
   rw [this];exact bools_map
 rw [all_yes]
 refine hB _ (hR _ _ (last ?_))
 have L10:=l1.trans (L7.trans (l₈.trans (l9.trans l10)))
 dsimp only [PS.ret,PE.and,PE.prim,pEs,PE.xattr]
 refine new_ok TI (e:=.lit .none) (p:=.none) (M "BadProgram" (by decide)) hd (λ Q q=>q) λ b1 Z11 q1=>?_
 obtain ⟨e1,x1,y1,c1⟩:=q1.hd (M "BadProgram" (by decide))
 have hat1:=c1.a
 walk_at"ug"
 refine okP (v:=.none) rfl ?_
 walk_at"ug"
 rw [show isN AV.none=true from rfl]
 walk_at"ug"
 refine new_ok TI (e:=.lit (.int 7)) (p:=.int 7) (M "BadLine" (by decide)) hd (λ Q q=>q) λ b2 Z12 q2=>?_
 obtain ⟨e2,x2,y2,c2⟩:=q2.hd (M "BadLine" (by decide))
 have hat2:=c2.a
 walk_at"ug"
 refine okP (v:=.int 7) rfl ?_
 walk_at"ug"
 exact hq Z12 (L10.trans (q1.l.trans q2.l))
end
end V3
namespace V3
open U U12 PySem
theorem alk_none{Z:Hp}{n:Nat}:Alk Z n .none .none:=by
 cases n with
 | zero=>exact ⟨rfl,.inr (.inr rfl)⟩
 | succ n=>exact .inl ⟨rfl,.inr (.inr rfl)⟩
noncomputable def plV(w:Txt)(q:List Int):List AV:=.str w::q.map .int
theorem alk_ints{Z:Hp}{n:Nat}:∀ q:List Int,AlkL Z n (q.map .int) (q.map .int)
 | []=>.nil
 | i::q=>.cons (alk_int i) (alk_ints q)
theorem alk_at{Z:Hp}{x y:AV}{w:Option (List AV)}(h:AtV Z w x)(h':AtV Z w y)(hw:∀ ps,w=some ps->∃ nm q,ps=plV nm q/\q.length<4000):Alk Z 1 x y:=by
 cases h with
 | no=>cases h';exact alk_none
 | pl ps a h=>
  cases h' with
  | pl _ b h'=>
   obtain ⟨nm,q,rfl,hl⟩:=hw ps rfl
   exact alk_tup (n:=0) h h' (.cons (alk_str _) (alk_ints q)) (by rw [plV,length_cons,length_map];exact Nat.lt_of_le_of_lt hl (by decide))
end V3
namespace V3
open U U12 PySem
theorem and2{a b:Bool}(h1:a=true)(h2:b=true):(a&&b)=true:=by rw [h1,h2];rfl
theorem good_av{k:Txt}(h:goodB k=true):avOk (.str k)=true:=by
 unfold goodB at h
 simp only [Bool.and_eq_true,decide_eq_true_eq] at h
 obtain ⟨⟨⟨⟨h1,h2⟩,h3⟩,h4⟩,h5⟩:=h
 refine and2 (decide_eq_true (Nat.lt_of_le_of_lt h2 (by decide))) (all_eq_true.mpr λ c hc=>?_)
 rcases Bool.or_eq_true_iff.mp (all_eq_true.mp h5 c hc) with q | q
 . exact (by decide:∀ c∈ltrs,decide (c<128)=true) c (contains_iff_mem.mp q)
 . exact (by decide:∀ c∈fgrs,decide (c<128)=true) c (contains_iff_mem.mp q)
theorem ofL_ok:∀ {ts:List Lt},ts.all (λ t=>t.ok.1)=true->(ofL ts).ok.2=true
 | [],_=>rfl
 | t::ts,h=>by
  obtain ⟨h1,h2⟩:=Bool.and_eq_true_iff.mp h
  exact and2 h1 (ofL_ok h2)
theorem ofL_len:∀ {ts:List Lt},(ofL ts).len=ts.length
 | []=>rfl
 | t::ts=>congrArg (·+1) (ofL_len (ts:=ts))
theorem ofL_tl:∀ {ts:List Lt},(ofL ts).tl=ts
 | []=>rfl
 | t::ts=>congrArg (t::·) (ofL_tl (ts:=ts))
theorem tu_ok{ts:List Lt}(h:ts.all (λ t=>t.ok.1)=true)(hl:ts.length<100):(tu ts).ok.1=true:=and2 (ofL_ok h) (by rw [ofL_len];exact decide_eq_true hl)
theorem lst_ok{l:Lt}(h:l.ok.2=true)(hl:l.len<100):(Lt.lst l).ok.1=true:=and2 h (decide_eq_true hl)
theorem th_ok{x:Th}(h:ThG x):(Lt.v x.av).ok.1=true:=by
 cases x with
 | s k=>exact good_av h
 | n i=>rfl
theorem qu_ok{q:Qu}(h:QG q):(tu (thsT q.avs)).ok.1=true:=
 tu_ok (and2 ((by decide:∀ w∈signs4,avOk (.str w)=true) _ h.s) (and2 (th_ok h.x) (and2 (th_ok h.y) rfl))) (by show 3<100;decide)
theorem tot_ok{k:Txt}{m:Tot}(h:TotG k m):(tu (thsT m.avs)).ok.1=true:=by
 cases m with
 | one x=>exact tu_ok (and2 (th_ok h.1) rfl) (by show 1<100;decide)
 | two s x y=>exact tu_ok (and2 ((by decide:∀ w∈signs7,avOk (.str w)=true) _ h.1) (and2 (th_ok h.2.1.1) (and2 (th_ok h.2.2.1) rfl))) (by show 3<100;decide)
theorem toL_len:∀ t:Tl,(toL t).len=t.len
 | .nil=>rfl
 | .put _ _ _ r | .swap _ _ r | .two _ _ r | .br _ _ _ _ _ r=>congrArg (·+1) (toL_len r)
theorem toL_ok{ns:List Txt}(t:Tl):t.good ns->t.cnt<100->(toL t).ok.2=true:=by
 induction t with
 | nil=>intros;rfl
 | put k g m r ih=>
  intro h hc
  exact and2 (tu_ok (and2 rfl (and2 (good_av h.1.1) (and2 (by cases g <;> rfl) (and2 (tot_ok h.1.2) rfl)))) (by show 4<100;decide)) (ih h.2 (Nat.lt_of_le_of_lt (Nat.le_add_left _ _) hc))
 | swap k j r ih=>
  intro h hc
  exact and2 (tu_ok (and2 rfl (and2 (good_av h.1.1) (and2 (good_av h.1.2) rfl))) (by show 3<100;decide)) (ih h.2 (Nat.lt_of_le_of_lt (Nat.le_add_left _ _) hc))
 | two w k r ih=>
  intro h hc
  exact and2 (tu_ok (and2 ((by decide:∀ w∈words4,avOk (.str w)=true) _ h.1.1) (and2 (good_av h.1.2.1) rfl)) (by show 2<100;decide)) (ih h.2 (Nat.lt_of_le_of_lt (Nat.le_add_left _ _) hc))
 | br b q x y q' r ix iy ih=>
  intro h hc
  have hc:1+x.cnt+y.cnt+r.cnt<100:=hc
  have cx:x.cnt<100:=by exact qli [_,_,_] (.i 1 1 (.a (.a (.a X1 Y0) Y1) Y2) (.n 100) (.h 0 Y0 (.n 100))) rfl hc
  have cy:y.cnt<100:=by exact qli [_,_,_] (.i 1 1 (.a (.a (.a X1 Y1) Y0) Y2) (.n 100) (.i 1 0 Y1 (.n 100) (.h 0 Y0 (.n 100)))) rfl hc cx
  exact and2 (tu_ok (and2 (by cases b <;> rfl) (and2 (qu_ok h.1.1) (and2 (lst_ok (ix h.1.2.2.1 cx) (by rw [toL_len];exact Nat.lt_of_le_of_lt (cnt_len _) cx)) (and2 (lst_ok (iy h.1.2.2.2 cy) (by rw [toL_len];exact Nat.lt_of_le_of_lt (cnt_len _) cy)) (and2 (qu_ok h.1.2.1) rfl))))) (by show 5<100;decide)) (ih h.2 (by exact qli [_,_,_] (.i 1 1 (.a (.a (.a X1 Y1) Y2) Y0) (.n 100) (.i 1 0 Y1 (.n 100) (.i 1 0 Y2 (.n 100) (.h 0 Y0 (.n 100))))) rfl hc cx cy))
theorem ap_len{x:Lt}:∀ {l:Lt},l.ok.2=true->(l.ap x).len=l.len+x.len
 | .nil,_=>(Nat.zero_add _).symm
 | .cons y r,o=>by
  show (r.ap x).len+1=r.len+1+x.len
  rw [ap_len (Bool.and_eq_true_iff.mp o).2];exact Nat.add_right_comm _ _ _
 | .v _,o | .neg _,o | .ask,o | .dct,o | .tup _,o | .lst _,o=>by cases o
theorem bad_ap{nb:List Txt}{sub:Lt->Option (List Int×String)}{lv:Nat}{x:Lt}{q:List Int×String}:∀ {l:Lt} {i:Nat},badL nb sub lv l i=some q->badL nb sub lv (l.ap x) i=some q
 | .cons y r,i,h=>by
  have h:(match rowS nb lv y with | some c=>some ([(i:Int)],c) | none=>badB i sub (badL nb sub lv r (i+1)) (brs y))=some q:=h
  show (match rowS nb lv y with | some c=>some ([(i:Int)],c) | none=>badB i sub (badL nb sub lv (r.ap x) (i+1)) (brs y))=some q
  cases e:rowS nb lv y with
  | some c=>rw [e] at h;exact h
  | none=>
   rw [e] at h
   replace h:badB i sub (badL nb sub lv r (i+1)) (brs y)=some q:=h
   show badB i sub (badL nb sub lv (r.ap x) (i+1)) (brs y)=some q
   cases e2:brs y with
   | none=>rw [e2] at h;exact bad_ap (l:=r) h
   | some z=>
    obtain ⟨a,b⟩:=z
    rw [e2] at h
    replace h:(match sub a with | some q=>some (inC i 0 q) | none=>match sub b with | some q=>some (inC i 1 q) | none=>badL nb sub lv r (i+1))=some q:=h
    show (match sub a with | some q=>some (inC i 0 q) | none=>match sub b with | some q=>some (inC i 1 q) | none=>badL nb sub lv (r.ap x) (i+1))=some q
    cases ea:sub a with
    | some _=>rw [ea] at h;exact h
    | none=>
     rw [ea] at h
     cases eb:sub b with
     | some _=>rw [eb] at h;exact h
     | none=>rw [eb] at h;exact bad_ap (l:=r) h
 | .nil,_,h | .v _,_,h | .neg _,_,h | .ask,_,h | .dct,_,h | .tup _,_,h | .lst _,_,h=>by cases h
noncomputable def subN(nb:List Txt):Nat->Nat->Lt->Option (List Int×String)
 | 0,_=>λ V=>none
 | n+1,lv=>badN nb n (lv+1)
theorem badN_is{nb:List Txt}{n lv:Nat}{l:Lt}:badN nb n lv l=badL nb (subN nb n lv) lv l 0:=by cases n <;> rfl
theorem badN_ap{nb:List Txt}{n lv:Nat}{l x:Lt}{q:List Int×String}(h:badN nb n lv l=some q):badN nb n lv (l.ap x)=some q:=by
 rw [badN_is] at h ⊢;exact bad_ap h
theorem dup_nd{ns:List Txt}(h:ns.Nodup):dupB ns=false:=by
 refine List.any_eq_false.mpr λ b hb=>?_
 obtain ⟨w,hw,rfl⟩:=mem_map.mp hb
 rw [h.count,if_pos hw];decide
noncomputable def blT(F:Bk->Lt)(b:Bk):Lt:=tu [.v (.str b.nm),.lst (F b)]
theorem kpb_of{nb:List Txt}{F:Bk->Lt}{b:Bk}{post:List Bk}{q:List Int}{c:String}(h1:badN nb 8 1 (F b)=some (q,c)):∀ {pre:List Bk},(∀ x∈pre,badN nb 8 1 (F x)=none)->kPb nb ((pre++b::post).map (blT F))=some (.str b.nm::q.map .int,c)
 | [],_=>by
  show (match badN nb 8 1 (F b) with | some (q,c)=>some (AV.str b.nm::q.map .int,c) | none=>kPb nb (post.map (blT F)))=_
  rw [h1]
 | x::pre,h=>by
  show (match badN nb 8 1 (F x) with | some (q,c)=>some (AV.str x.nm::q.map .int,c) | none=>kPb nb ((pre++b::post).map (blT F)))=_
  rw [h x (.head _)]
  exact kpb_of h1 λ y hy=>h y (.tail _ hy)
theorem kp_of3{F:Bk->Lt}{b:Bk}{pre post:List Bk}{q:List Int}{c:String}(hl:(pre++b::post).length<=12)(hg:∀ x∈pre++b::post,goodB x.nm=true)(nd:((pre++b::post).map (·.nm)).Nodup)
  (h0:∀ x∈pre,badN ((pre++b::post).map (·.nm)) 8 1 (F x)=none) (h1:badN ((pre++b::post).map (·.nm)) 8 1 (F b)=some (q,c)):kP (li ((pre++b::post).map (blT F)))=some (some (.str b.nm::q.map .int),c):=by
 show kPl (ofL _).tl=_
 rw [ofL_tl]
 have hn:((pre++b::post).map (blT F)).map nameOf=(pre++b::post).map (·.nm):=by rw [map_map];rfl
 have ha:((pre++b::post).map (blT F)).all blkB=true:=all_eq_true.mpr λ t ht=>by
  obtain ⟨x,hx,rfl⟩:=mem_map.mp ht
  exact and2 (hg x hx) rfl
 unfold kPl
 rw [hn,ha,dup_nd nd,decide_eq_true (show 1<=((pre++b::post).map (blT F)).length by rw [length_map,length_append,length_cons];exact Nat.le_trans (Nat.le_add_left _ _) (Nat.le_add_left _ _)),decide_eq_true (show ((pre++b::post).map (blT F)).length<=12 by rw [length_map];exact hl)]
 show (kPb _ _).map _=_
 rw [kpb_of h1 h0];rfl
end V3
namespace V3
open U U12 PySem
noncomputable def LeX(r:Addr)(Z Z':Hp):Prop:=∀ a o,a≠r->Z a=some o->Z' a=some o
theorem LeX.le{r:Addr}{Z Z1 Z2:Hp}(l:LeX r Z Z1)(k:Le Z1 Z2):LeX r Z Z2:=λ a o n e=>k _ _ (l a o n e)
theorem fresh_x{T a:Addr}{o:AO}{Z Z':Hp}(l:LeX T Z Z')(h:Z' T=some o)(n:Z' a=none):Z a=none:=by
 cases e:Z a with
 | none=>rfl
 | some p=>rw [l a p (λ q=>by rw [q,h] at n;cases n) e] at n;cases n
theorem LeX.put{T r:Addr}{Z Z1 Z2:Hp}(l:LeX T Z Z1)(hr:r=T\/Z r=none)(k:∀ b,b≠r->Z2 b=Z1 b):LeX T Z Z2:=λ a o n e=>by
 rw [k a (λ q=>hr.elim (λ h=>n (q.trans h)) λ h=>by rw [q,h] at e;cases e)]
 exact l a o n e
inductive FinS(nb:List Txt)(tops:List Addr)(T:Addr)(Z:Hp)(q:List Int)(c:String):Prop
 | mk (VS:List AV) (L:Lt) (h:Z T=some (.list VS)) (r:Rt (λ a=>a∉tops) Z L VS) (o:L.ok.2=true) (n:L.len<60) (b:badN nb 8 1 L=some (q,c))
structure Sp(nb:List Txt)(tops:List Addr)(T:Addr)(Z:Hp)(r:Addr)(lv n:Nat)(q:List Int)(vs:List AV)(l:Lt):Prop where
 h:Z r=some (.list vs)
 rt:Rt (λ a=>a∉tops/\a≠r) Z l vs
 o:l.ok.2=true
 len:l.len<=50
 tp:∀ a∈tops,∃ us,Z a=some (.list us)
 g:∀ x,badN nb n lv (l.ap x)=badL nb (subN nb n lv) lv x l.len
 cl:∀ Z' vs' l' q' c,LeX r Z Z'->Z' r=some (.list vs')->Rt (λ a=>a∉tops) Z' l' vs'->l'.ok.2=true->l'.len<60->badN nb n lv l'=some (q',c)->FinS nb tops T Z' (q++q') c
noncomputable def IsT(Z:Hp)(a:Addr):Prop:=∃ us,Z a=some (.tup us)
structure Sd(nb:List Txt)(lv n:Nat)(Z:Hp)(l:Lt)(vs:List AV):Prop where
 r:Rt (IsT Z) Z l vs
 o:l.ok.2=true
 len:l.len<=2
 g:∀ x,badN nb n lv (l.ap x)=badL nb (subN nb n lv) lv x l.len
 z:badN nb n lv l=none
theorem Sd.nil{nb:List Txt}{lv n:Nat}{Z:Hp}:Sd nb lv n Z .nil []:=⟨.nil,rfl,Nat.zero_le _,λ V=>badN_is,badN_is⟩
theorem Sd.tl{nb:List Txt}{lv m:Nat}{Z:Hp}{t:Tl}{vs:List AV}(h8:lv+m=8)(g:t.good nb)(v:t.lv 0)(c:t.cnt<=2)(r:RepT (λ V=>False) Z t vs):Sd nb lv (m+1) Z (toL t) vs:=
 ⟨rep_rt (λ a us e=>⟨us,e⟩) (λ a h=>h.elim) r,toL_ok t g (Nat.lt_of_le_of_lt c (by decide)),by rw [toL_len];exact Nat.le_trans (cnt_len t) c,
  λ x=>by rw [toL_len];exact (good_ap t g v (Nat.le_trans (Nat.le_add_right _ _) (Nat.le_of_eq h8)) h8).trans (by rw [Nat.zero_add];rfl),
  good_bad t g v (Nat.le_trans (Nat.le_add_right _ _) (Nat.le_of_eq h8)) h8⟩
theorem Sd.le{nb:List Txt}{lv n:Nat}{Z Z':Hp}{l:Lt}{vs:List AV}(k:Le Z Z')(h:Sd nb lv n Z l vs):Sd nb lv n Z' l vs:=⟨h.r.mv (λ a e=>by obtain ⟨us,e⟩:=e;exact ⟨us,k _ _ e⟩) λ a o V e=>k _ _ e,h.o,h.len,h.g,h.z⟩
section
variable {nb:List Txt}{tops:List Addr}{T:Addr}{Z Z1 Z2:Hp}{r:Addr}{lv n:Nat}{q:List Int}{vs:List AV}{l:Lt}
theorem Sp.tup(S:Sp nb tops T Z r lv n q vs l)(l1:Le Z Z1){a:Addr}(h:IsT Z1 a):a∉tops/\a≠r:=by
 obtain ⟨us,e⟩:=h
 refine ⟨λ q=>?_,λ q=>?_⟩
 . obtain ⟨ws,h⟩:=S.tp a q
   rw [l1 _ _ h] at e;cases e
 . rw [q,l1 _ _ S.h] at e;cases e
theorem Sp.new(S:Sp nb tops T Z r lv n q vs l){a:Addr}(h:Z a=none):a∉tops/\a≠r:=by
 refine ⟨λ q=>?_,λ q=>?_⟩
 . obtain ⟨ws,e⟩:=S.tp a q
   rw [h] at e;cases e
 . rw [q,S.h] at h;cases h
theorem Sp.le(S:Sp nb tops T Z r lv n q vs l)(k:Le Z Z1):Sp nb tops T Z1 r lv n q vs l:=
 ⟨k _ _ S.h,S.rt.le k,S.o,S.len,λ a ha=>by obtain ⟨us,h⟩:=S.tp a ha;exact ⟨us,k _ _ h⟩,S.g,λ Z' vs' l' q' c LX=>S.cl Z' vs' l' q' c λ a o n e=>LX a o n (k _ _ e)⟩
theorem Sp.goes(S:Sp nb tops T Z r lv (n+1) q vs l){go rr:Addr}{vg:List AV}{lg:Lt}(l1:Le Z Z1)(ng:Z go=none)(hg:Z1 go=some (.list vg))(D:Sd nb (lv+1) n Z1 lg vg)(h₂:Z2 r=some (.list (vs++[.ref rr])))(k₂:∀ b,b≠r->Z2 b=Z1 b)(R:Lt->Lt)(p:Nat)
  (hR1:∀ Z' l' vs',LeX go Z2 Z'->Z' go=some (.list vs')->Rt (λ a=>a∉tops) Z' l' vs'->Rt (λ a=>a∉tops) Z' (R l') [.ref rr])
  (hR2:∀ l' q' i,badN nb n (lv+1) l'=some q'->badL nb (badN nb n (lv+1)) lv (.cons (R l') .nil) i=some (inC i p q')) (hR3:∀ l':Lt,l'.ok.2=true->l'.len<60->(R l').ok.1=true):
  Sp nb tops T Z2 go (lv+1) n (q++[(l.len:Int),(p:Int)]) vg lg:=by
 obtain ⟨n1,n2⟩:=S.new ng
 have tp:∀ a∈tops,∃ us,Z2 a=some (.list us):=λ a ha=>by
  by_cases e:a=r
  . rw [e];exact ⟨_,h₂⟩
  . obtain ⟨us,h⟩:=S.tp a ha
    exact ⟨us,by rw [k₂ a e];exact l1 _ _ h⟩
 have nt:∀ a,IsT Z1 a->a∉tops/\a≠go:=λ a ha=>⟨(S.tup l1 ha).1,λ q=>by
  obtain ⟨us,e⟩:=ha
  rw [q,hg] at e;cases e⟩
 have ne:∀ {a o},Z a=some o->a≠go:=λ {a o} e q=>by rw [q,ng] at e;cases e
 have cl:∀ Z' vs' l' q' c,LeX go Z2 Z'->Z' go=some (.list vs')->Rt (λ a=>a∉tops) Z' l' vs'->l'.ok.2=true->l'.len<60->badN nb n (lv+1) l'=some (q',c)->FinS nb tops T Z' (q++[(l.len:Int),(p:Int)]++q') c:=λ Z' vs' l' q' c LX h' r' o' len' b'=>by
  have LX':LeX r Z Z':=λ a o na e=>LX a o (ne e) (by rw [k₂ a na];exact l1 _ _ e)
  have:=S.cl Z' (vs++[.ref rr]) (l.ap (.cons (R l') .nil)) ((l.len:Int)::(p:Int)::q') c LX' (LX r _ (ne S.h) h₂) (Rt.ap (.cons _ _ _ _ (hR1 Z' l' vs' LX h' r') .nil) S.o (S.rt.mv (λ a h=>h.1) λ a o h e=>LX' a o h.2 e)) (ap_ok (l':=.cons (R l') .nil) (and2 (hR3 l' o' len') rfl) S.o) (by rw [ap_len S.o];exact Nat.lt_of_le_of_lt (Nat.add_le_add_right S.len 1) (by decide)) (by rw [S.g];exact hR2 l' (q',c) l.len b')
  rw [append_assoc];exact this
 exact ⟨by rw [k₂ go n2];exact hg,D.r.mv nt λ a o h e=>by rw [k₂ a (S.tup l1 h).2];exact e,D.o,Nat.le_trans D.len (by decide),tp,D.g,cl⟩
theorem Sp.bad(S:Sp nb tops T Z r lv n q vs l){v:AV}{ws:List AV}{row x:Lt}{c:String}(LX:LeX r Z Z1)(h:Z1 r=some (.list (vs++v::ws)))(r1:Rt (λ a=>a∉tops) Z1 row [v])(r2:Rt (λ a=>a∉tops) Z1 x ws)(o1:row.ok.1=true)(o2:x.ok.2=true)(hx:x.len<=3)(hb:rowS nb lv row=some c):FinS nb tops T Z1 (q++[(l.len:Int)]) c:=
 S.cl Z1 _ (l.ap (.cons row x)) _ c LX h (Rt.ap (.cons _ _ _ _ r1 r2) S.o (S.rt.mv (λ a h=>h.1) λ a o h e=>LX a o h.2 e)) (ap_ok (l':=.cons row x) (and2 o1 o2) S.o) (by rw [ap_len S.o];exact Nat.lt_of_le_of_lt (Nat.add_le_add S.len (Nat.succ_le_succ hx)) (by decide)) (by rw [S.g];exact bad_here hb)
end
noncomputable def rowT(b:Bool)(q:Qu)(X Y:Lt):Lt:=tu [.v (.str (brT b)),tu (thsT q.avs),.lst X,.lst Y,tu (thsT q.avs)]
theorem row_good{nb:List Txt}{lv:Nat}{b:Bool}{q:Qu}{X Y:Lt}(hq:QG q)(h8:lv<=8):rowS nb lv (rowT b q X Y)=none:=by
 have hf:formW (rowT b q X Y)=some (brT b,[tu (thsT q.avs),.lst X,.lst Y,tu (thsT q.avs)]):=by cases b <;> rfl
 refine (rs_low hf h8).trans ?_
 show orO (nTwo signs4 (tu (thsT q.avs))) (ifO true "BadRow" (nTwo signs4 (tu (thsT q.avs))))=none
 rw [g_qu hq];rfl
theorem rowT_ok{b:Bool}{q:Qu}{X Y:Lt}(hq:QG q)(oX:X.ok.2=true)(lX:X.len<60)(oY:Y.ok.2=true)(lY:Y.len<60):(rowT b q X Y).ok.1=true:=
 tu_ok (and2 (by cases b <;> rfl) (and2 (qu_ok hq) (and2 (lst_ok oX (Nat.lt_trans lX (by decide))) (and2 (lst_ok oY (Nat.lt_trans lY (by decide))) (and2 (qu_ok hq) rfl))))) (by show 5<100;decide)
section
variable {nb:List Txt}{tops:List Addr}{T:Addr}{Z Z1 Z2:Hp}{r:Addr}{lv n:Nat}{q:List Int}{vs:List AV}{l:Lt}
theorem Sp.down(S:Sp nb tops T Z r lv (n+1) q vs l)(h8:lv<=8){sa sb rr ak:Addr}{va vb:List AV}{la lb:Lt}{b:Bool}{qu:Qu}(l1:Le Z Z1)(na:Z sa=none)(nb':Z sb=none)(nab:sa≠sb)(ha:Z1 sa=some (.list va))(hb:Z1 sb=some (.list vb))(Da:Sd nb (lv+1) n Z1 la va)(Db:Sd nb (lv+1) n Z1 lb vb)
  (hq:QG qu) (hk:Z1 ak=some (.tup qu.avs)) (hr:Z1 rr=some (.tup [.str (brT b),.ref ak,.ref sa,.ref sb,.ref ak])) (h₂:Z2 r=some (.list (vs++[.ref rr]))) (k₂:∀ b,b≠r->Z2 b=Z1 b):
  Sp nb tops T Z2 sa (lv+1) n (q++[(l.len:Int),0]) va la/\Sp nb tops T Z2 sb (lv+1) n (q++[(l.len:Int),1]) vb lb:=by
 have kt:∀ {go:Addr} {vg:List AV} {Z':Hp},Z1 go=some (.list vg)->LeX go Z2 Z'->∀ ⦃a us⦄,Z1 a=some (.tup us)->Z' a=some (.tup us):=λ {go vg Z'} hg LX a us e=>LX a _ (λ q=>by rw [q,hg] at e;cases e) (by rw [k₂ a (S.tup l1 ⟨us,e⟩).2];exact e)
 have tt:∀ {Z':Hp} {a:Addr} {ts:List Lt} {us:List AV},Z1 a=some (.tup us)->Z' a=some (.tup us)->Rt (λ a=>a∉tops) Z' (ofL ts) us->Rt (λ a=>a∉tops) Z' (tu ts) [.ref a]:=λ e e' r=>.tup _ _ _ (S.tup l1 ⟨_,e⟩).1 e' r
 have ks:∀ {go a:Addr} {va:List AV} {Z':Hp},LeX go Z2 Z'->Z a=none->a≠go->Z1 a=some (.list va)->Z' a=some (.list va):=λ {go a va Z'} LX na ne e=>LX a _ ne (by rw [k₂ a (S.new na).2];exact e)
 constructor
 . refine S.goes l1 na ha Da h₂ k₂ (λ X=>rowT b qu X lb) 0 (λ Z' l' vs' LX h' r'=>?_) (λ l' q' i e=>?_) λ l' o len=>rowT_ok hq o len Db.o (Nat.lt_of_le_of_lt Db.len (by decide))
   . have ka:=kt ha LX
     have qr:Rt (λ a=>a∉tops) Z' (tu (thsT qu.avs)) [.ref ak]:=tt hk (ka hk) (rt_vs _)
     exact tt hr (ka hr) (.cons _ _ _ _ (.v _) (.cons _ _ _ _ qr (.cons _ _ _ _ (.lst _ _ _ (S.new na).1 h' r') (.cons _ _ _ _ (.lst _ _ _ (S.new nb').1 (ks LX nb' nab.symm hb) (Db.r.mv (λ a h=>(S.tup l1 h).1) λ a o h e=>by obtain ⟨us,h⟩:=h;rw [h] at e;cases e;exact ka h)) (.cons _ _ _ _ qr .nil)))))
   . rw [bad_in (a:=l') (b:=lb) (row_good hq h8) (by cases b <;> rfl) (.inl e),e]
 . refine S.goes l1 nb' hb Db h₂ k₂ (λ X=>rowT b qu la X) 1 (λ Z' l' vs' LX h' r'=>?_) (λ l' q' i e=>?_) λ l' o len=>rowT_ok hq Da.o (Nat.lt_of_le_of_lt Da.len (by decide)) o len
   . have ka:=kt hb LX
     have qr:Rt (λ a=>a∉tops) Z' (tu (thsT qu.avs)) [.ref ak]:=tt hk (ka hk) (rt_vs _)
     exact tt hr (ka hr) (.cons _ _ _ _ (.v _) (.cons _ _ _ _ qr (.cons _ _ _ _ (.lst _ _ _ (S.new na).1 (ks LX na nab ha) (Da.r.mv (λ a h=>(S.tup l1 h).1) λ a o h e=>by obtain ⟨us,h⟩:=h;rw [h] at e;cases e;exact ka h)) (.cons _ _ _ _ (.lst _ _ _ (S.new nb').1 h' r') (.cons _ _ _ _ qr .nil)))))
   . rw [bad_in (a:=la) (b:=l') (row_good hq h8) (by cases b <;> rfl) (.inr ⟨Da.z,e⟩),Da.z]
end
end V3
namespace V3
open U U12 PySem
inductive BlE(tops:List Addr)(w:Nat)(Z:Hp)(b:Bk)(L:Lt):Prop
 | mk (VS:List AV) (h1:Z b.b=some (.tup [.str b.nm,.ref b.l])) (h2:Z b.l=some (.list VS)) (r:Rt (λ a=>a∉tops) Z L VS) (o:L.ok.2=true) (n:L.len<w)
structure Spt(nb:List Txt)(tops:List Addr)(w:Nat)(Z:Hp)(pr:Addr)(pre:List Bk)(b:Bk)(post:List Bk)(F:Bk->Lt)(q:List Int)(c:String):Prop where
 at':Z pr=some (.list ((pre++b::post).map λ b=>.ref b.b))
 bl:∀ x∈pre++b::post,BlE tops w Z x (F x)
 h0:∀ x∈pre,badN nb 8 1 (F x)=none
 h1:badN nb 8 1 (F b)=some (q,c)
theorem BlE.le{tops:List Addr}{w:Nat}{Z Z':Hp}{b:Bk}{L:Lt}(l:Le Z Z')(h:BlE tops w Z b L):BlE tops w Z' b L:=by
 obtain ⟨VS,h1,h2,r,o,n⟩:=h
 exact ⟨VS,l _ _ h1,l _ _ h2,r.le l,o,n⟩
theorem Spt.le{nb:List Txt}{tops:List Addr}{w:Nat}{Z Z':Hp}{pr:Addr}{pre post:List Bk}{b:Bk}{F:Bk->Lt}{q:List Int}{c:String}(l:Le Z Z')(h:Spt nb tops w Z pr pre b post F q c):Spt nb tops w Z' pr pre b post F q c:=⟨l _ _ h.at',λ x hx=>(h.bl x hx).le l,h.h0,h.h1⟩
section
variable {Zb Z Z':Hp}{ns nb:List Txt}{m:Nat}{pr:Addr}{bs:List Bk}
theorem pg_tup(P:W2.Pg Zb Z ns nb m pr bs){a:Addr}{us:List AV}(h:Z a=some (.tup us)):a∉bs.map (·.l):=λ q=>by
 obtain ⟨x,hx,rfl⟩:=mem_map.mp q
 rw [(P.bk x hx).at'.l] at h;cases h
theorem pg_rt(P:W2.Pg Zb Z ns nb m pr bs){x:Bk}(hx:x∈bs):Rt (λ a=>a∉bs.map (·.l)) Z (toL x.t) x.vs:=rep_rt (λ a us e=>pg_tup P e) (λ a n=>n.2.2) (P.bk x hx).at'.r
theorem pg_sp(P:W2.Pg Zb Z ns nb m pr bs)(hm:m<=50){x:Bk}(hx:x∈bs):Sp nb (bs.map (·.l)) x.l Z x.l 1 8 [] x.vs (toL x.t):=by
 have B:=P.bk x hx
 have hc:x.t.cnt<=50:=Nat.le_trans B.c hm
 refine ⟨B.at'.l,(pg_rt P hx).mv (λ a h=>⟨h,λ q=>h (q▸mem_map_of_mem hx)⟩) λ V V V e=>e,toL_ok x.t B.at'.o (Nat.lt_of_le_of_lt hc (by decide)),by rw [toL_len];exact Nat.le_trans (cnt_len _) hc,λ a ha=>?_,λ z=>?_,λ Z' vs' l' q' c V h r o n b=>⟨vs',l',h,r,o,n,b⟩⟩
 . obtain ⟨y,hy,rfl⟩:=mem_map.mp ha
   exact ⟨_,(P.bk y hy).at'.l⟩
 . rw [toL_len]
   exact (good_ap x.t (h:=3) (lv:=1) (m:=7) B.at'.o B.v3 (by decide) rfl).trans (by rw [Nat.zero_add];rfl)
theorem le_of{T:Addr}(l:Le Zb Z)(n:Zb T=none)(LX:LeX T Z Z'):Le Zb Z':=λ a o e=>LX a o (λ q=>by rw [q,n] at e;cases e) (l a o e)
end
section
variable {Zb Z Z':Hp}{ns nb:List Txt}{m:Nat}{pr:Addr}{pre post:List Bk}{b:Bk}{q:List Int}{c:String}
theorem spt_of(P:W2.Pg Zb Z ns nb m pr (pre++b::post))(hm:m<=50)(LX:LeX b.l Z Z')(h:FinS nb ((pre++b::post).map (·.l)) b.l Z' q c):∃ F,Spt nb ((pre++b::post).map (·.l)) 60 Z' pr pre b post F q c:=by
 obtain ⟨VS,L,h1,h2,h3,h4,h5⟩:=h
 have hb:b∈pre++b::post:=mem_append_right _ (.head _)
 refine ⟨λ x=>if x.l=b.l then L else toL x.t,LX _ _ (λ e=>P.pl (e▸mem_map_of_mem hb)) P.at',λ x hx=>?_,λ x hx=>?_,by rw [if_pos rfl];exact h5⟩
 . have X:=P.bk x hx
   have hbb:Z' x.b=some (.tup [.str x.nm,.ref x.l]):=LX _ _ (λ e=>pg_tup P X.at'.b (e▸mem_map_of_mem hb)) X.at'.b
   by_cases e:x.l=b.l
   . rw [if_pos e]
     exact ⟨VS,hbb,by rw [e];exact h1,h2,h3,h4⟩
   . rw [if_neg e]
     have hc:x.t.cnt<=50:=Nat.le_trans X.c hm
     exact ⟨x.vs,hbb,LX _ _ e X.at'.l,(pg_rt P hx).mv (λ V h=>h) λ a o n e=>LX a o (λ q=>n (q▸mem_map_of_mem hb)) e,toL_ok x.t X.at'.o (Nat.lt_of_le_of_lt hc (by decide)),by rw [toL_len];exact Nat.lt_of_le_of_lt (Nat.le_trans (cnt_len _) hc) (by decide)⟩
 . have X:=P.bk x (mem_append_left _ hx)
   have nd:=P.nd
   rw [map_append,nodup_append] at nd
   rw [if_neg (nd.2.2 x.l (mem_map_of_mem hx) b.l (.head _))]
   exact good_bad x.t (h:=3) (lv:=1) (m:=7) X.at'.o X.v3 (by decide) rfl
theorem Spt.more{w:Nat}{F:Bk->Lt}{Z2:Hp}{rest:List Bk}{e:Bk}{VS:List AV}{v:AV}{row:Lt}(nd:((pre++b::post).map (·.l)).Nodup)(he:pre++b::post=rest++[e])(S:Spt nb ((pre++b::post).map (·.l)) w Z pr pre b post F q c)(hV:Z e.l=some (.list VS))(np:pr≠e.l)
  (r:Rt (λ a=>a∉(pre++b::post).map (·.l)) Z row [v]) (o:row.ok.1=true) (h₂:Z2 e.l=some (.list (VS++[v]))) (k₂:∀ b,b≠e.l->Z2 b=Z b):∃ F,Spt nb ((pre++b::post).map (·.l)) (w+1) Z2 pr pre b post F q c:=by
 have me:e∈pre++b::post:=by rw [he];exact mem_append_right _ (.head _)
 have K:∀ {t:Lt} {vs:List AV},Rt (λ a=>a∉(pre++b::post).map (·.l)) Z t vs->Rt (λ a=>a∉(pre++b::post).map (·.l)) Z2 t vs:=λ h=>h.mv (λ V h=>h) λ a o n e'=>by rw [k₂ a (λ q=>n (q▸mem_map_of_mem me))];exact e'
 refine ⟨λ x=>if x.l=e.l then (F x).ap (.cons row .nil) else F x,by rw [k₂ _ np];exact S.at',λ x hx=>?_,λ x hx=>?_,?_⟩
 . obtain ⟨VX,h1,h2,h3,h4,h5⟩:=S.bl x hx
   have hbb:Z2 x.b=some (.tup [.str x.nm,.ref x.l]):=by rw [k₂ _ (λ q=>by rw [q,hV] at h1;cases h1)];exact h1
   by_cases ee:x.l=e.l
   . rw [if_pos ee]
     rw [ee,hV] at h2
     cases h2
     exact ⟨VS++[v],hbb,by rw [ee];exact h₂,Rt.ap (.cons _ _ _ _ (K r) .nil) h4 (K h3),ap_ok (l':=.cons row .nil) (and2 o rfl) h4,by rw [ap_len h4];exact Nat.succ_lt_succ h5⟩
   . rw [if_neg ee]
     exact ⟨VX,hbb,by rw [k₂ _ ee];exact h2,K h3,h4,Nat.lt_succ_of_lt h5⟩
 . have hn:x.l≠e.l:=by
    rw [map_append,nodup_append] at nd
    refine nd.2.2 x.l (mem_map_of_mem hx) e.l ?_
    have:e∈b::post:=by
     have h2:(pre++b::post).getLast?=some e:=by rw [he];exact List.getLast?_concat
     rw [List.getLast?_append] at h2
     have h3:(b::post).getLast?=some e:=by
      cases h4:(b::post).getLast? with
      | none=>cases List.getLast?_eq_none_iff.mp h4
      | some y=>rw [h4] at h2;exact h2
     exact List.mem_of_getLast? h3
    exact mem_map_of_mem this
   rw [if_neg hn]
   exact S.h0 x hx
 . by_cases ee:b.l=e.l
   . rw [if_pos ee];exact badN_ap S.h1
   . rw [if_neg ee];exact S.h1
end
theorem Spt.up{nb:List Txt}{tops:List Addr}{w w':Nat}{Z:Hp}{pr:Addr}{pre post:List Bk}{b:Bk}{F:Bk->Lt}{q:List Int}{c:String}(h:w<=w')(S:Spt nb tops w Z pr pre b post F q c):Spt nb tops w' Z pr pre b post F q c:=
 ⟨S.at',λ x hx=>by obtain ⟨VS,h1,h2,r,o,n⟩:=S.bl x hx;exact ⟨VS,h1,h2,r,o,Nat.lt_of_lt_of_le n h⟩,S.h0,S.h1⟩
theorem told_of{nb:List Txt}{row:Lt}{w:Txt}{m:Nat}(B:Bad row w)(hn:nb.contains noT=false)(hm:m<=3\/m=8):∃ c,rowS nb (1+m) row=some c/\c∈clsL/\wordC c=bif m==8&&(formW row).isSome then deepW else w:=by
 rcases hm with hm | rfl
 . refine ⟨clsW w,B.lo hn (by exact qli [_] (.i 0 1 Y0 (.n 3) (.g 0 (.a X1 Y0) (.n 8))) rfl hm),?_,?_⟩
   . have:=B.wd
     simp only [mem_cons,not_mem_nil,or_false] at this
     rcases this with rfl | rfl | rfl | rfl <;> decide
   . rw [show (m==8)=false from beq_eq_false_iff_ne.mpr (by exact o1375 hm)]
     show wordC (clsW w)=w
     have:=B.wd
     simp only [mem_cons,not_mem_nil,or_false] at this
     rcases this with rfl | rfl | rfl | rfl <;> decide
 . refine ⟨_,B.hi (by decide),?_⟩
   rcases B.fm with e | rfl
   . rw [e];exact ⟨by decide,rfl⟩
   . cases (formW row).isSome <;> exact ⟨by decide,by decide⟩
theorem Spt.rt{nb:List Txt}{tops:List Addr}{w:Nat}{Z:Hp}{pr:Addr}{pre post:List Bk}{b:Bk}{F:Bk->Lt}{q:List Int}{c:String}(S:Spt nb tops w Z pr pre b post F q c)(hw:w<=100)(hl:(pre++b::post).length<=12)(hg:∀ x∈pre++b::post,goodB x.nm=true):
  Rt (λ V=>True) Z (li ((pre++b::post).map (blT F))) [.ref pr]/\(li ((pre++b::post).map (blT F))).ok.1=true:=by
 refine ⟨.lst _ _ _ trivial S.at' ?_,lst_ok (ofL_ok (all_eq_true.mpr λ t ht=>?_)) (by rw [ofL_len,length_map];exact Nat.lt_of_le_of_lt hl (by decide))⟩
 . have:∀ bs:List Bk,(∀ x∈bs,BlE tops w Z x (F x))->Rt (λ V=>True) Z (ofL (bs.map (blT F))) (bs.map λ b=>.ref b.b):=λ bs=>by
    induction bs with
    | nil=>exact λ V=>.nil
    | cons x bs ih=>
     intro h
     obtain ⟨VS,h1,h2,r,o,n⟩:=h x (.head _)
     exact .cons _ _ _ _ (.tup _ _ _ trivial h1 (.cons _ _ _ _ (.v _) (.cons _ _ _ _ (.lst _ _ _ trivial h2 (r.mv (λ V V=>trivial) λ V V V e=>e)) .nil))) (ih λ y hy=>h y (.tail _ hy))
   exact this _ S.bl
 . obtain ⟨x,hx,rfl⟩:=mem_map.mp ht
   obtain ⟨VS,h1,h2,r,o,n⟩:=S.bl x hx
   exact tu_ok (and2 (good_av (hg x hx)) (and2 (lst_ok o (Nat.lt_of_lt_of_le n hw)) rfl)) (by show 2<100;decide)
end V3
namespace V3
open U U12 PySem
noncomputable def tabSp:List (String×Fn):=[("_law_spoil",f__law_spoil)]
noncomputable def ask0(w:Txt):Qu:=⟨[61],.s w,.n 1⟩
inductive SpI(nb:List Txt)(tops:List Addr)(T pr nl ak:Addr)(nm:Txt)(fi mo bl lvs:Int)(Z:Hp)(k:Nat)(ρ:U.Loc)(Z':Hp):Prop
 | mk (n:Nat) (r pa:Addr) (q:List Int) (vs:List AV) (l:Lt) (x y z:Option AV) (hn:n+k=8)
  (e:ρ=[some (.ref pr),some (.int fi),some (.int mo),some (.ref nl),some (.int bl),some (.ref r),some (.ref pa),some (.ref ak),some (.int lvs),x,y,z,none])
  (lx:LeX T Z Z') (S:Sp nb tops T Z' r (1+k) n q vs l) (hpa:Z' pa=some (.tup (.str nm::q.map .int))) (hq:q.length=2*k) (hr:r=T\/Z r=none)
theorem fmod2(x:Int):Int.fmod x 2=0\/Int.fmod x 2=1:=by
 have h1:=fmod_lo x (b:=2) (by decide)
 have h2:=fmod_hi x (b:=2) (by decide)
 exact o122 h1 h2
theorem fmod3(x:Int):Int.fmod x 3=0\/Int.fmod x 3=1\/Int.fmod x 3=2:=by
 have h1:=fmod_lo x (b:=3) (by decide)
 have h2:=fmod_hi x (b:=3) (by decide)
 exact o210 h1 h2
theorem pow_of(x:Int):∃ u:Int,itemL [AV.int 1,.int 2,.int 4] (Int.fmod x 3)=some (.int u)/\u≠0/\u.natAbs<1073741824:=by
 rcases fmod3 x with h | h | h <;> rw [h]
 . exact ⟨1,itemL_0,by decide,by decide⟩
 . exact ⟨2,itemL_1,by decide,by decide⟩
 . exact ⟨4,itemL_2,by decide,by decide⟩
theorem br_of(x:Int):∃ b,itemL [AV.str [105,102],.str [114,111,117,110,100]] (Int.fmod x 2)=some (.str (brT b)):=by
 rcases fmod2 x with h | h <;> rw [h]
 . exact ⟨false,itemL_0⟩
 . exact ⟨true,itemL_1⟩
noncomputable def sws(k j:Txt):Nat->Tl
 | 0=>.nil
 | n+1=>.swap k j (sws k j n)
noncomputable def pus(k:Txt):Nat->Tl
 | 0=>.nil
 | n+1=>.two pushT k (pus k n)
theorem rep_one{v:AV}:∀ n:Nat,(List.replicate n [v]).flatten=List.replicate n v
 | 0=>rfl
 | n+1=>by rw [replicate_succ,flatten_cons,rep_one n];rfl
theorem sws_rep{Z:Hp}{a:Addr}{k j:Txt}(h:Z a=some (.tup [.str swapT,.str k,.str j])):∀ n,RepT (λ V=>False) Z (sws k j n) (List.replicate n (.ref a))
 | 0=>rfl
 | n+1=>⟨a,_,replicate_succ,h,sws_rep h n⟩
theorem pus_rep{Z:Hp}{a:Addr}{k:Txt}(h:Z a=some (.tup [.str pushT,.str k])):∀ n,RepT (λ V=>False) Z (pus k n) (List.replicate n (.ref a))
 | 0=>rfl
 | n+1=>⟨a,_,replicate_succ,h,pus_rep h n⟩
theorem sws_ok{nb:List Txt}{k j:Txt}(hk:goodB k=true)(hj:goodB j=true):∀ n,(sws k j n).good nb/\(sws k j n).lv 0/\(sws k j n).cnt=n
 | 0=>⟨trivial,trivial,rfl⟩
 | n+1=>by obtain ⟨h1,h2,h3⟩:=sws_ok (nb:=nb) hk hj n;exact ⟨⟨⟨hk,hj⟩,h1⟩,h2,by show 1+(sws k j n).cnt=_;rw [h3,Nat.add_comm]⟩
theorem pus_ok{nb:List Txt}{k:Txt}(hk:goodB k=true):∀ n,(pus k n).good nb/\(pus k n).lv 0/\(pus k n).cnt=n
 | 0=>⟨trivial,trivial,rfl⟩
 | n+1=>by obtain ⟨h1,h2,h3⟩:=pus_ok (nb:=nb) hk n;exact ⟨⟨⟨by decide,hk,λ q=>by rcases q with q | q <;> exact absurd q (by decide)⟩,h1⟩,⟨by decide,h2⟩,by show 1+(pus k n).cnt=_;rw [h3,Nat.add_comm]⟩
theorem LeX.comp{T r:Addr}{Z Z1 Z2:Hp}(l:LeX T Z Z1)(k:LeX r Z1 Z2)(hr:r=T\/Z r=none):LeX T Z Z2:=λ a o n e=>k a o (λ q=>hr.elim (λ h=>n (q.trans h)) λ h=>by rw [q,h] at e;cases e) (l a o n e)
theorem spt_of'{Zb Z Z':Hp}{ns nb:List Txt}{m:Nat}{pr:Addr}{bs pre post:List Bk}{b:Bk}{q:List Int}{c:String}(hbs:bs=pre++b::post)(P:W2.Pg Zb Z ns nb m pr bs)(hm:m<=50)(LX:LeX b.l Z Z')(h:FinS nb (bs.map (·.l)) b.l Z' q c):∃ F,Spt nb (bs.map (·.l)) 60 Z' pr pre b post F q c:=by
 subst hbs;exact spt_of P hm LX h
theorem Spt.more'{nb:List Txt}{w:Nat}{Z Z2:Hp}{pr:Addr}{bs pre post rest:List Bk}{b e:Bk}{F:Bk->Lt}{q:List Int}{c:String}{VS:List AV}{v:AV}{row:Lt}(hbs:bs=pre++b::post)(nd:(bs.map (·.l)).Nodup)(he:bs=rest++[e])(S:Spt nb (bs.map (·.l)) w Z pr pre b post F q c)(hV:Z e.l=some (.list VS))(np:pr≠e.l)
  (r:Rt (λ a=>a∉bs.map (·.l)) Z row [v]) (o:row.ok.1=true) (h₂:Z2 e.l=some (.list (VS++[v]))) (k₂:∀ b,b≠e.l->Z2 b=Z b):∃ F,Spt nb (bs.map (·.l)) (w+1) Z2 pr pre b post F q c:=by
 subst hbs;exact S.more nd he hV np r o h₂ k₂
section
variable {K:Kx}(TB:Tab K tabB)(TG:Tab K tabG)(T:Tab K tabSp)
include TB TG T
set_option maxHeartbeats 2000000 in
theorem s_spoil{d:Nat}{Zb Z:Hp}{Q:Post}{X:XPost}{ns:List Txt}{m:Nat}{pr nl:Addr}{bs:List Bk}{fi mo:Int}(hd:3<=d)(hN:W2.Nms Zb nl ns)(P:W2.Pg Zb Z ns (bs.map (·.nm)) m pr bs)(hm:m<=50)(h1:1<=bs.length)(h3:bs.length<=3)(hno:(bs.map (·.nm)).contains noT=false)
  (hQ:∀ da pa pre b post F q c Z',bs=pre++b::post->Le Zb Z'->Spt (bs.map (·.nm)) (bs.map (·.l)) 61 Z' pr pre b post F q c->Z' da=some (.list [.str (wordC c),.ref pa])->Z' pa=some (.tup (.str b.nm::q.map .int))->c∈clsL->q.length<4000->Q (.ref da) Z'):K.fn false d "_law_spoil" [.ref pr,.int fi,.int mo,.ref nl] Z Q X:=by
 have htl:tooLong=1000000:=rfl
 have hd0:d≠0:=by exact o1326 hd
 have hlm:(bs.map λ b=>AV.ref b.b).length=bs.length:=length_map _
 refine ent' T f__law_spoil (.head _) rfl (ρ:=[some (.ref pr),some (.int fi),some (.int mo),some (.ref nl),none,none,none,none,none,none,none,none,none]) rfl ?_
 dsimp only [f__law_spoil]
 have hpr:=P.at'
 have hN':=hN.le P.le
 have hnl:=hN'.at'
 refine seq λ R hR=>?_
 have hgo1366:=o1366 h1 h3 htl hlm
 have hgo1367:=o1367 h1 h3 hlm
 walk_at"ug"
 refine hR _ _ (seq λ R hR=>?_)
 obtain ⟨i,hi,hil⟩:∃ i:Nat,Int.fmod (Int.fdiv mo 31) ((bs.map λ b=>AV.ref b.b).length:Int)=(i:Int)/\i<bs.length:=by
  rw [hlm]
  have q1:=fmod_lo (Int.fdiv mo 31) (b:=(bs.length:Int)) (by exact o280 h1 h3 hlm)
  have q2:=fmod_hi (Int.fdiv mo 31) (b:=(bs.length:Int)) (by exact o280 h1 h3 hlm)
  exact ⟨_,(Int.toNat_of_nonneg q1).symm,by exact o928 hlm q1 q2⟩
 rw [hi]
 obtain ⟨pre,b,post,hbs,hpl⟩:∃ pre b post,bs=pre++b::post/\pre.length=i:=⟨bs.take i,bs[i],bs.drop (i+1),by rw [List.getElem_cons_drop,List.take_append_drop],by rw [length_take];exact o1327 hlm hil⟩
 have hbi:bs[i]?=some b:=by rw [hbs,List.getElem?_append_right (by exact qli [_,_] (.i 2 1 Y0 Y1 (.g 0 Y0 Y1)) rfl hpl),hpl,Nat.sub_self];rfl
 have hmem:b∈bs:=List.mem_of_getElem? hbi
 have Bb:=P.bk b hmem
 have hb1:=Bb.at'.b
 have hit:itemL (bs.map λ b=>AV.ref b.b) (i:Int)=some (.ref b.b):=itemL_n (by exact o1329 h1 h3 hlm hil hpl) (by rw [List.getElem?_map,hbi];rfl)
 walk_at"ug"
 refine hR _ _ (seq λ R hR=>?_)
 obtain ⟨w,hw,hw',hwg⟩:=hN'.pick (i:=8+(i:Int)) (by exact o920 hpl) (by exact o1330 h1 h3 hlm hil hpl)
 have hwb:w=b.nm:=by
  have:=P.nm i b hbi
  rw [show (8+(i:Int)).toNat=8+i by exact o1331 hpl,this] at hw'
  exact (Option.some.inj hw').symm
 subst hwb
 walk_at"ug"
 refine newO λ pa Z1 V l1 hpa=>hR _ _ (seq λ R hR=>?_)
 obtain ⟨w0,hw0,V,hw0g⟩:=hN'.pick (i:=0) (by decide) (by decide)
 have hnl1:=l1 _ _ hnl
 walk_at"ug"
 refine newO λ ak Z2 V l₂ hak=>hR _ _ (seq λ R hR=>?_)
 walk_at"ug"
 refine hR _ _ (seq λ R hR=>iffI λ A B hA hB=>?_)
 have Lb2:=P.le.trans (l1.trans l₂)
 have P2:=P.grow (l1.trans l₂)
 have key:∀ lm:Nat,(lm<=3\/lm=8)->R [some (.ref pr),some (.int fi),some (.int mo),some (.ref nl),some (.int (i:Int)),some (.ref b.l),some (.ref pa),some (.ref ak),some (.int (lm:Int)),none,none,none,none] Z2:=λ lm hlm'=>by
  refine hR _ _ (seq λ R hR=>forI λ F hF=>?_)
  have hgo1365:=o1365 htl hlm'
  walk_at"ug"
  refine hF _ _ _ (for_range (n:=lm) (SpI (bs.map (·.nm)) (bs.map (·.l)) b.l pr nl ak b.nm fi mo (i:Int) (lm:Int) Z2) ⟨8,b.l,pa,[],b.vs,toL b.t,_,_,_,rfl,rfl,λ V V V e=>e,pg_sp P2 hm hmem,l₂ _ _ hpa,rfl,.inl rfl⟩ ?_ ?_)
  . rintro k ρ Z3 cc hk ⟨n,r,pa,q,vs,l,x,y,z,hn,rfl,lx,S,hpa,hql,hr0⟩ hcc
    obtain ⟨n,rfl⟩:∃ n',n=n'+1:=⟨n-1,by exact o1332 hlm' hk hn⟩
    have N3:W2.Nms Z3 nl ns:=hN.le (le_of Lb2 Bb.l0 lx)
    have hnl3:=N3.at'
    refine seq λ R hR=>?_
    walk_at"ug"
    obtain ⟨u,hu,hu0,hu1⟩:=pow_of (k:Int)
    have hu':u≠0/\u.natAbs<1073741824:=⟨hu0,hu1⟩
    refine newO λ z1 Z4 V l4 hz1=>?_
    walk_at"ug"
    generalize hpt:Int.fmod (Int.fdiv (Int.fdiv mo 4) u) 2=pt
    have hpt2:pt=0\/pt=1:=hpt▸fmod2 _
    clear hpt
    refine hR _ _ (seq λ R hR=>?_)
    walk_at"ug"
    refine newO λ sa0 Z5 nsa0 l₅ hsa0=>?_
    walk_at"ug"
    refine newO λ sb0 Z6 nsb0 l6 hsb0=>?_
    walk_at"ug"
    refine newO λ sl0 Z7 nsl0 l7 hsl0=>hR _ _ (seq λ R hR=>iffI λ A B hA hB=>?_)
    have l37:=l4.trans (l₅.trans (l6.trans l7))
    have key2:∀ (sa sb sl:Addr) (va vb:List AV) (la lb:Lt) Z8,Le Z3 Z8->Z3 sa=none->Z3 sb=none->Z3 sl=none->sa≠sb->Z8 sa=some (.list va)->Z8 sb=some (.list vb)->Z8 sl=some (.list [.ref sa,.ref sb])->Sd (bs.map (·.nm)) (1+k+1) n Z8 la va->Sd (bs.map (·.nm)) (1+k+1) n Z8 lb vb->R [some (.ref pr),some (.int fi),some (.int mo),some (.ref nl),some (.int (i:Int)),some (.ref r),some (.ref pa),some (.ref ak),some (.int (lm:Int)),some (.int (k:Int)),some (.int pt),some (.ref sl),none] Z8:=λ sa sb sl va vb la lb Z8 l₈ na nb nsl nab hsa hsb hsl Da Db=>by
     refine hR _ _ (seq λ R hR=>?_)
     have hr8:=l₈ _ _ S.h
     have hpa8:=l₈ _ _ hpa
     walk_at"ug"
     refine newO λ z2 Z9 V l9 hz2=>?_
     walk_at"ug"
     refine newO λ z3 Za V la' hz3=>?_
     have hz2a:=la' _ _ hz2
     obtain ⟨bb,hbb⟩:=br_of (Int.fdiv (Int.fdiv mo 288) u)
     have L8a:=l9.trans la'
     have hsl_a:=L8a _ _ hsl
     walk_at"ug"
     refine newO λ rr Zc V lc hrr=>?_
     have L8c:=L8a.trans lc
     have hr_c:=L8c _ _ hr8
     have hvl:vs.length=l.len:=S.rt.len S.o
     have hvl':=S.len
     have hvt:vs.length<tooLong:=by exact o1333 htl hvl hvl'
     walk_at"ug"
     refine setO λ Zd hrd kd=>?_
     refine hR _ _ (seq λ R hR=>?_)
     have npa:pa≠r:=λ e=>by rw [e,S.h] at hpa;cases hpa
     have hpa_d:Zd pa=some (.tup (.str b.nm::q.map .int)):=by rw [kd _ npa];exact L8c _ _ hpa8
     have hlc:(vs++[AV.ref rr]).length=l.len+1:=by rw [length_append,hvl];rfl
     have hlt':(vs++[AV.ref rr]).length<tooLong:=by exact o1334 htl hvl hvl' hlc
     walk_at"ug"
     refine newO λ z4 Ze V le hz4=>?_
     have hpa_e:=le _ _ hpa_d
     walk_at"ug"
     refine ⟨⟨nofun,nofun,by simp only [length_cons,length_nil,length_map];exact qli [_,_,_,_] (.i 5 1 Y1 (.n 1000000) (.i 2 1 Y0 (.m 2 Y2) (.i 2 2 (.a (.a Y3 X1) Y2) (.n 8) (.h 0 (.a (.a Y0 X1) (.n 2)) Y1)))) rfl htl hql hn⟩,newO λ pa' Zf V lf hpa'=>hR _ _ (last ?_)⟩
     have hsl_f:Zf sl=some (.list [.ref sa,.ref sb]):=(le.trans lf) _ _ (by rw [kd _ (S.new nsl).2];exact L8c _ _ hsl)
     have hak3:Z3 ak=some (.tup (ask0 w0).avs):=lx _ _ (λ e=>by rw [e,P2.bk b hmem |>.at'.l] at hak;cases hak) hak
     have hqg:QG (ask0 w0):=⟨by show [61]∈signs4;decide,hw0g,by decide,by decide⟩
     have L3c:=l₈.trans L8c
     obtain ⟨S1,S2⟩:=S.down (by exact qli [_,_] (.i 2 1 (.a (.a Y1 X1) Y0) (.n 8) (.g 0 (.a X1 Y0) (.n 8))) rfl hn) L3c na nb nab (L8c _ _ hsa) (L8c _ _ hsb) (Da.le L8c) (Db.le L8c) hqg (L3c _ _ hak3) hrr hrd kd
     have lxd:LeX b.l Z2 Zf:=((lx.le L3c).put hr0 kd).le (le.trans lf)
     obtain ⟨ht,hht⟩:=S.tp b.l (mem_map_of_mem hmem)
     have hpf:∀ p:Int,pt=p->Zf pa'=some (.tup (.str b.nm::(q++[(l.len:Int),p]).map .int)):=λ p hp=>by
      rw [hpa',hlc,hp,map_append]
      show some (AO.tup (.str b.nm::(q.map .int++[.int (((l.len+1:Nat):Int)-1),.int p])))=_
      rw [show ((l.len+1:Nat):Int)-1=(l.len:Int) by exact o313];rfl
     have hqf:∀ p:Int,(q++[(l.len:Int),p]).length=2*(k+1):=λ p=>by rw [length_append,hql];rfl
     rcases hpt2 with e | e
     . rw [e]
       walk_at"ug"
       exact hcc _ _ ⟨n,sa,pa',_,va,la,_,_,_,by exact o1337 hn,rfl,lxd,S1.le (le.trans lf),hpf 0 e,hqf 0,.inr (fresh_x lx hht na)⟩
     . rw [e]
       walk_at"ug"
       exact hcc _ _ ⟨n,sb,pa',_,vb,lb,_,_,_,by exact o1337 hn,rfl,lxd,S2.le (le.trans lf),hpf 1 e,hqf 1,.inr (fresh_x lx hht nb)⟩
    walk_at"ug"
    refine wifd (λ h8=>hA _ (last ?_)) λ h8=>hB _ (key2 sa0 sb0 sl0 [] [] .nil .nil Z7 l37 (fresh_le l4 nsa0) (fresh_le (l4.trans l₅) nsb0) (fresh_le (l4.trans (l₅.trans l6)) nsl0) (λ e=>by rw [e,nsb0] at hsa0;cases hsa0) ((l6.trans l7) _ _ hsa0) (l7 _ _ hsb0) hsl0 .nil .nil)
    have h3':lm<=3:=by rcases hlm' with h | h <;> omega
    have N7:=N3.le l37
    have hnl7:=N7.at'
    obtain ⟨w1,hw1,V,hw1g⟩:=N7.pick (i:=1) (by decide) (by decide)
    obtain ⟨w2,hw2,V,hw2g⟩:=N7.pick (i:=2) (by decide) (by decide)
    obtain ⟨w3,hw3,V,hw3g⟩:=N7.pick (i:=3) (by decide) (by decide)
    walk_at"ug"
    refine newO λ t1 Z8 V l₈ ht1=>?_
    walk_at"ug"
    refine newO λ u1 Z9 V l9 hu1=>?_
    walk_at"ug"
    have a1:=fmod_lo (Int.fdiv mo 32) (b:=3) (by decide)
    have a2:=fmod_hi (Int.fdiv mo 32) (b:=3) (by decide)
    have b1:=fmod_lo (Int.fdiv mo 96) (b:=3) (by decide)
    have b2:=fmod_hi (Int.fdiv mo 96) (b:=3) (by decide)
    generalize Int.fmod (Int.fdiv mo 32) 3=na at a1 a2
    generalize Int.fmod (Int.fdiv mo 96) 3=nb at b1 b2
    refine ⟨⟨nofun,a1,by exact o1338 htl a1 a2⟩,newO λ sa Za nsa la' hsa=>?_⟩
    have hnl_a:=(l₈.trans (l9.trans la')) _ _ hnl7
    walk_at"ug"
    refine newO λ t2 Zc V lc ht2=>?_
    walk_at"ug"
    refine newO λ u2 Ze V le hu2=>?_
    walk_at"ug"
    refine ⟨⟨nofun,b1,by exact o1338 htl b1 b2⟩,newO λ sb Zf nsb lf hsb=>?_⟩
    walk_at"ug"
    refine newO λ sl Zg nsl lg hsl=>?_
    rw [rep_one] at hsa hsb
    have q1:=l37.trans (l₈.trans l9)
    have q2:=lc.trans (le.trans (lf.trans lg))
    have q3:=le.trans (lf.trans lg)
    obtain ⟨n,rfl⟩:∃ n',n=n'+1:=⟨n-1,by exact o1339 hk hn h8 h3'⟩
    obtain ⟨g1,v1,c1⟩:=sws_ok (nb:=bs.map (·.nm)) hw1g hw2g na.toNat
    obtain ⟨g2,v2,c2⟩:=pus_ok (nb:=bs.map (·.nm)) hw3g nb.toNat
    have D1:=Sd.tl (nb:=bs.map (·.nm)) (lv:=1+k+1) (m:=n) (by exact o1340 hn) g1 v1 (by exact o1341 a1 a2 c1) (sws_rep ((l9.trans (la'.trans q2)) _ _ ht1) na.toNat)
    have D2:=Sd.tl (nb:=bs.map (·.nm)) (lv:=1+k+1) (m:=n) (by exact o1340 hn) g2 v2 (by exact o1341 b1 b2 c2) (pus_rep (q3 _ _ ht2) nb.toNat)
    exact key2 sa sb sl _ _ _ _ Zg (q1.trans (la'.trans q2)) (fresh_le q1 nsa) (fresh_le (q1.trans (la'.trans (lc.trans le))) nsb) (fresh_le (q1.trans (la'.trans (lc.trans (le.trans lf)))) nsl) (λ e=>by rw [e] at hsa;rw [(lc.trans le) _ _ hsa] at nsb;cases nsb) (q2 _ _ hsa) (lg _ _ hsb) hsl D1 D2
  . rintro ρ Z3 ⟨n,r,pa,q,vs,l,x,y,z,hn,rfl,lx,S,hpa,hql,hr0⟩
    refine hR _ _ (seq λ R hR=>?_)
    have N3:W2.Nms Z3 nl ns:=hN.le (le_of Lb2 Bb.l0 lx)
    have hnl3:=N3.at'
    have hvl:vs.length=l.len:=S.rt.len S.o
    have hvl':=S.len
    walk_at"ug"
    refine s_bad_row TB (by exact o1342 hd) λ t ht bv Z4 l4 rb=>hR _ _ (seq λ R hR=>?_)
    obtain ⟨row,w,rfl,Bd⟩:=bad_of ht
    obtain ⟨c,hc1,hc2,hc3⟩:=told_of Bd hno hlm'
    obtain ⟨ba,bvs,rfl,nba,hba,rbs⟩:=rb.tuple
    obtain ⟨rv,V,rfl,r1,rbs⟩:=rbs.cons'
    obtain ⟨wv,V,rfl,r2,rbs⟩:=rbs.cons'
    cases rbs.nil'
    cases r2
    have hr4:=l4 _ _ S.h
    have hvt:vs.length<tooLong:=by exact o1333 htl hvl hvl'
    walk_at"ug"
    refine setO λ Z5 h₅ k₅=>hR _ _ (seq λ R hR=>?_)
    have hpa5:Z5 pa=some (.tup (.str b.nm::q.map .int)):=by rw [k₅ _ (λ e=>by rw [e,S.h] at hpa;cases hpa)];exact l4 _ _ hpa
    have hlc:(vs++[rv]).length=l.len+1:=by rw [length_append,hvl];rfl
    have hlt':(vs++[rv]).length<tooLong:=by exact o1334 htl hvl hvl' hlc
    walk_at"ug"
    refine newO λ z4 Z6 V l6 hz4=>?_
    have hpa6:=l6 _ _ hpa5
    walk_at"ug"
    refine ⟨⟨nofun,nofun,by simp only [length_cons,length_nil,length_map];exact qli [_,_,_,_] (.i 5 1 Y1 (.n 1000000) (.i 2 2 (.a Y2 Y3) (.n 8) (.i 2 1 Y0 (.m 2 Y3) (.h 0 (.a (.a Y0 X1) X1) Y1)))) rfl htl hn hql⟩,newO λ pa' Z7 V l7 hpa'=>hR _ _ (seq λ R hR=>?_)⟩
    replace hpa':Z7 pa'=some (.tup (.str b.nm::(q++[(l.len:Int)]).map .int)):=by
     rw [hpa',hlc,map_append]
     show some (AO.tup (.str b.nm::(q.map .int++[.int (((l.len+1:Nat):Int)-1)])))=_
     rw [show ((l.len+1:Nat):Int)-1=(l.len:Int) by exact o313];rfl
    have X5:LeX r Z4 Z5:=λ a o n e=>by rw [k₅ a n];exact e
    have X7:=X5.le (l6.trans l7)
    have X37:LeX r Z3 Z7:=λ a o n e=>X7 a o n (l4 _ _ e)
    have hr7:=(l6.trans l7) _ _ h₅
    have nnl : nl ≠ r := fun e => by rcases hr0 with h | h
                                     . have:=Bb.l0;rw [<-h,<-e] at this;rw [hN.at'] at this;cases this
                                     . rw [<-e,Lb2 _ _ hN.at'] at h;cases h
    have hnl7:=X37 _ _ nnl hnl3
    obtain ⟨w1,hw1,V,hw1g⟩:=N3.pick (i:=1) (by decide) (by decide)
    walk_at"ug"
    refine newO λ t2 Z8 nt2 l₈ ht2=>?_
    have hr8:=l₈ _ _ hr7
    walk_at"ug"
    refine setO λ Z9 h₉ k9=>hR _ _ (seq λ R hR=>iffI λ A B hA hB=>?_)
    have X79:LeX r Z7 Z9:=λ a o n e=>by rw [k9 a n];exact l₈ _ _ e
    have X49:LeX r Z4 Z9:=λ a o n e=>X79 a o n (X7 a o n e)
    have X39:LeX r Z3 Z9:=λ a o n e=>X49 a o n (l4 _ _ e)
    have ntt:Z3 t2=none:=fresh_x X37 hr7 nt2
    have hpa9:Z9 pa'=some (.tup (.str b.nm::(q++[(l.len:Int)]).map .int)):=X79 _ _ (λ e=>by rw [e,hr7] at hpa';cases hpa') hpa'
    have rp:Rt (λ a=>a∉bs.map (·.l)) Z9 (tu [.v (.str pushT),.v (.str w1)]) [.ref t2]:=.tup _ _ _ (S.new ntt).1 (by rw [k9 _ (S.new ntt).2];exact ht2) (rt_vs [.str pushT,.str w1])
    have op:(tu [Lt.v (.str pushT),.v (.str w1)]).ok.1=true:=tu_ok (and2 rfl (and2 (good_av hw1g) rfl)) (by show 2<100;decide)
    obtain ⟨rest,e,hre⟩:∃ rest e,bs=rest++[e]:=⟨bs.dropLast,bs.getLast (List.ne_nil_of_length_pos h1),(List.dropLast_concat_getLast _).symm⟩
    have me:e∈bs:=by rw [hre];exact mem_append_right _ (.head _)
    have key3:∀ Ze,LeX r Z9 Ze->FinS (bs.map (·.nm)) (bs.map (·.l)) b.l Ze (q++[(l.len:Int)]) c->R [some (.ref pr),some (.int fi),some (.int mo),some (.ref nl),some (.int (i:Int)),some (.ref r),some (.ref pa'),some (.ref ak),some (.int (lm:Int)),x,y,z,some (.ref ba)] Ze:=λ Ze X9e hF=>by
     have X4e:LeX r Z4 Ze:=λ a o n e=>X9e a o n (X49 a o n e)
     have lxe:LeX b.l Z2 Ze:=(lx.le l4).comp X4e hr0
     obtain ⟨F,HS⟩:=spt_of' hbs P2 hm lxe hF
     have rowe:Rt (λ a=>a∉bs.map (·.l)) Ze row [rv]:=r1.mv (λ a n=>(S.new n).1) λ a o n e=>X4e a o (S.new n).2 e
     have hpae:=X9e _ _ (λ e=>by rw [e,h₉] at hpa9;cases hpa9) hpa9
     have hbae:=X4e _ _ (λ e=>by rw [e,hr4] at hba;cases hba) hba
     have Lbe:=le_of Lb2 Bb.l0 lxe
     clear hF X9e X4e lxe
     refine hR _ _ (seq λ R hR=>iffI λ A B hA hB=>?_)
     have key4:∀ Zg F,Le Zb Zg->Spt (bs.map (·.nm)) (bs.map (·.l)) 61 Zg pr pre b post F (q++[(l.len:Int)]) c->Rt (λ a=>a∉bs.map (·.l)) Zg row [rv]->Zg pa'=some (.tup (.str b.nm::(q++[(l.len:Int)]).map .int))->Zg ba=some (.tup [rv,.str w])->R [some (.ref pr),some (.int fi),some (.int mo),some (.ref nl),some (.int (i:Int)),some (.ref r),some (.ref pa'),some (.ref ak),some (.int (lm:Int)),x,y,z,some (.ref ba)] Zg:=λ Zg F Lg HS rowg hpag hbag=>by
      refine hR _ _ (seq λ R hR=>iffI λ A B hA hB=>?_)
      have hql':(q++[(l.len:Int)]).length<4000:=by rw [length_append,hql];simp only [length_singleton];exact qli [_,_] (.i 2 2 (.a Y1 Y0) (.n 8) (.h 0 (.a (.m 2 Y0) X1) (.n 4000))) rfl hn
      have fin:∀ da Zh,Le Zg Zh->Zh da=some (.list [.str (wordC c),.ref pa'])->Q (.ref da) Zh:=λ da Zh lh hda=>hQ da pa' pre b post F _ c Zh hbs (Lg.trans lh) (HS.le lh) hda (lh _ _ hpag) hc2 hql'
      have ret:∀ Zh,Le Zg Zh->(lm==8&&(formW row).isSome)=false->B Zh:=λ Zh lh hf=>hB _ (hR _ _ (last (by
       have hbah:=lh _ _ hbag
       walk_at"ug"
       refine newO λ da Zi V li hda=>?_
       rw [hf] at hc3
       exact fin da Zi (lh.trans li) (by rw [hda,hc3];rfl))))
      walk_at"ug"
      by_cases h8:lm=8
      . rw [show ((lm:Int)==8)=true from beq_iff_eq.mpr (by exact o1345 h8)]
        show WifP true _ _
        walk_at"ug"
        refine s_has_form TG rowg Bd.ok λ Zh lh=>?_
        cases hf:(formW row).isSome with
        | false=>exact ret Zh lh (by rw [hf,Bool.and_false])
        | true=>
         refine hA _ (last ?_)
         walk_at"ug"
         refine newO λ da Zi V li hda=>?_
         rw [hf,h8] at hc3
         exact fin da Zi (lh.trans li) (by rw [hda,hc3];rfl)
      . rw [show ((lm:Int)==8)=false from beq_eq_false_iff_ne.mpr (by exact o1346 h8)]
        exact ret Zg (Le.refl _) (by rw [show (lm==8)=false from beq_eq_false_iff_ne.mpr h8];rfl)
     walk_at"ug"
     refine wif (λ hz=>hA _ (last ?_)) λ hz=>hB _ (key4 Ze F Lbe (HS.up (by decide)) rowe hpae hbae)
     obtain ⟨VS,he1,he2,he3,he4,he5⟩:=HS.bl e (by rw [<-hbs];exact me)
     have hpre:=HS.at'
     rw [<-hbs] at hpre
     have hlast:itemL (bs.map λ b=>AV.ref b.b) (-1)=some (.ref e.b):=by rw [hre,map_append];exact itemL_last
     have hVl:VS.length<tooLong:=by rw [he3.len he4];exact o1347 htl he5
     walk_at"ug"
     refine s_bad_row TB (by exact o1342 hd) λ t ht bv Zf lf rb=>?_
     obtain ⟨row3,w3,rfl,Bd3⟩:=bad_of ht
     obtain ⟨ba3,bvs,rfl,nba3,hba3,rbs⟩:=rb.tuple
     obtain ⟨rv3,V,rfl,r3,rbs⟩:=rbs.cons'
     obtain ⟨wv3,V,rfl,V,rbs⟩:=rbs.cons'
     cases rbs.nil'
     have he2f:=lf _ _ he2
     walk_at"ug"
     refine setO λ Zg hg kg=>?_
     have mt:e.l∈bs.map (·.l):=mem_map_of_mem me
     have nf:∀ a,Nw Ze a->a∉bs.map (·.l):=λ a n q=>by
      obtain ⟨y,hy,rfl⟩:=mem_map.mp q
      obtain ⟨V,V,h2,V⟩:=HS.bl y (by rw [<-hbs];exact hy)
      rw [show Ze y.l=none from n] at h2;cases h2
     have hprf:=lf _ _ hpre
     obtain ⟨F',HS'⟩:=Spt.more' hbs P.nd hre (HS.le lf) he2f (λ e'=>by rw [e',he2] at hpre;have:=P.pl;rw [e'] at this;exact this mt) (r3.mv nf λ V V V e=>e) Bd3.ok hg kg
     have l0e:=(P.bk e me).l0
     refine key4 Zg F' (λ a o e'=>?_) HS' (rowe.mv (λ V h=>h) λ a o n e'=>?_) ?_ ?_
     . rw [kg a (λ q=>by rw [q,l0e] at e';cases e')];exact lf _ _ (Lbe _ _ e')
     . rw [kg a (λ q=>n (q▸mt))];exact lf _ _ e'
     . rw [kg _ (λ q=>by rw [q,he2] at hpae;cases hpae)];exact lf _ _ hpae
     . rw [kg _ (λ q=>by rw [q,he2] at hbae;cases hbae)];exact lf _ _ hbae
    walk_at"ug"
    refine wif (λ hz=>hA _ (last ?_)) λ hz=>hB _ (key3 Z9 (λ V V V e=>e) ?_)
    . walk_at"ug"
      refine s_bad_row TB (by exact o1342 hd) λ t ht bv Zf lf rb=>?_
      obtain ⟨row2,w2,rfl,Bd2⟩:=bad_of ht
      obtain ⟨ba2,bvs,rfl,nba2,hba2,rbs⟩:=rb.tuple
      obtain ⟨rv2,V,rfl,r2,rbs⟩:=rbs.cons'
      obtain ⟨wv2,V,rfl,V,rbs⟩:=rbs.cons'
      cases rbs.nil'
      have h9f:=lf _ _ h₉
      have hl2:(vs++[rv]++[AV.ref t2]).length<tooLong:=by rw [length_append];simp only [length_singleton];exact qli [_,_,_,_] (.i 5 1 Y1 (.n 1000000) (.i 2 0 Y2 Y3 (.i 0 1 Y3 (.n 50) (.i 2 1 Y0 (.a Y3 X1) (.h 0 (.a Y0 X1) Y1))))) rfl htl hvl hvl' hlc
      walk_at"ug"
      refine setO λ Zg hg kg=>key3 Zg (λ a o n e=>by rw [kg a n];exact lf _ _ e) ?_
      have X9g:LeX r Z9 Zg:=λ a o n e=>by rw [kg a n];exact lf _ _ e
      have Kr:∀ {t:Lt} {us:List AV},Rt (Nw Z3) Z4 t us->Rt (λ a=>a∉bs.map (·.l)) Zg t us:=λ h=>h.mv (λ a n=>(S.new n).1) λ a o n e=>X9g a o (S.new n).2 (X49 a o (S.new n).2 e)
      have nn:∀ a,Nw Z9 a->a∉bs.map (·.l)/\a≠r:=λ a n=>S.new (fresh_x X39 h₉ n)
      refine S.bad (Z1:=Zg) (v:=rv) (ws:=[.ref t2,rv2]) (row:=row) (x:=.cons (tu [.v (.str pushT),.v (.str w1)]) (.cons row2 .nil)) (λ a o n e=>X9g a o n (X39 a o n e)) (by rw [hg,append_assoc,append_assoc];rfl) (Kr r1) (.cons _ _ _ _ (.tup _ _ _ (S.new ntt).1 (X9g _ _ (S.new ntt).2 (by rw [k9 _ (S.new ntt).2];exact ht2)) (rt_vs [.str pushT,.str w1])) (.cons _ _ _ _ (r2.mv (λ a n=>(nn a n).1) λ a o n e=>by rw [kg a (nn a n).2];exact e) .nil)) Bd.ok (and2 op (and2 Bd2.ok rfl)) (by show 2<=3;decide) hc1
    . exact S.bad (Z1:=Z9) (v:=rv) (ws:=[.ref t2]) (row:=row) (x:=.cons (tu [.v (.str pushT),.v (.str w1)]) .nil) X39 (by rw [h₉,append_assoc];rfl) (r1.mv (λ a n=>(S.new n).1) λ a o n e=>X49 a o (S.new n).2 e) (.cons _ _ _ _ rp .nil) Bd.ok (and2 op rfl) (by show 1<=3;decide) hc1
 walk_at"ug"
 refine wif (λ hz=>hA _ (last ?_)) λ hz=>hB _ ?_
 . walk_at"ug"
   exact key 8 (.inr rfl)
 . have p1:=fmod_lo mo (b:=4) (by decide)
   have p2:=fmod_hi mo (b:=4) (by decide)
   obtain ⟨lm,hlm4⟩:∃ lm:Nat,Int.fmod mo 4=(lm:Int):=⟨_,(Int.toNat_of_nonneg p1).symm⟩
   rw [hlm4] at p2 ⊢
   exact key lm (.inl (by exact o1349 p2))
end
end V3
namespace V3
open U U12 PySem
noncomputable def tabL:List (String×Fn):=[("_law_holds",f__law_holds)]
inductive LnI(Z:Hp)(f:Bk->Int)(bs:List Bk)(r:List Bk)(acc:List AV)(Z':Hp):Prop
 | mk (le:Le Z Z') (hm:∀ b∈r,b∈bs) (hl:acc.length+r.length=bs.length) (he:acc++r.map (λ b=>AV.int (f b))=bs.map (λ b=>AV.int (f b)))
noncomputable def lenE3:PE:=.comp [false,false,false,false,false,false,false,false,false,false] [10,11] (.val (.loc 5)) none (.prim .len [(.loc 11)])
theorem len_ok{K:Kx}{d:Nat}{Z:Hp}{Q:Post}{X:XPost}{r0 r1 r2 r3 r4 r6 r7 r8 r9:Option AV}{tops:List Addr}{w:Nat}{pr:Addr}{bs:List Bk}{F:Bk->Lt}(hl:bs.length<=12)(hw:w<=100)(hpr:Z pr=some (.list (bs.map λ b=>.ref b.b)))(hb:∀ x∈bs,BlE tops w Z x (F x))
  (q:∀ a Z',Le Z Z'->Z a=none->Z' a=some (.list (bs.map λ b=>AV.int ((F b).len:Int)))->Q (.ref a) Z'):lenE3 K false d [r0,r1,r2,r3,r4,some (.ref pr),r6,r7,r8,r9] Z Q X:=by
 have htl:tooLong=1000000:=rfl
 dsimp only [lenE3]
 walk_at"ug"
 rw [map_map]
 refine comp_inv (a:=pr) (o:=.list (bs.map λ b=>.ref b.b)) (λ b:Bk=>It.one (AV.ref b.b)) (λ b:Bk=>[none,none,none,none,none,none,none,none,none,none,some (.str b.nm),some (.ref b.l)]) (LnI Z (λ b=>((F b).len:Int)) bs) (λ r acc Z' h=>by obtain ⟨h1,h2,h3,h4⟩:=h;exact ⟨h1 _ _ hpr,by exact qli [_,_,_,_] (.i 0 1 Y2 (.n 12) (.i 5 1 Y1 (.n 1000000) (.i 2 1 (.a Y0 Y3) Y2 (.h 0 Y0 Y1)))) rfl hl htl h3⟩) ?_ ?_ bs [] Z ⟨Le.refl _,λ V h=>h,Nat.zero_add _,rfl⟩
 . rintro b r acc Z2 c ⟨l₂,hm,hlen,he⟩ hc
   obtain ⟨VS,h1,h2,h3,h4,h5⟩:=(hb b (hm b (.head _))).le l₂
   refine ⟨by show (match Z2 b.b with | some (.tup vs)=>_ | _=>_)=_;rw [h1];rfl,?_⟩
   have hv:=h3.len h4
   have hvt:VS.length<tooLong:=by exact o1350 hw htl h5 hv
   walk_at"ug"
   rw [hv]
   exact hc _ _ ⟨l₂,λ b hb=>hm b (.tail _ hb),by rw [length_append,length_singleton];rw [length_cons] at hlen;exact o16 hlen,by rw [append_assoc];exact he⟩
 . rintro acc Z2 ⟨l₂,V,V,he⟩
   rw [map_nil,append_nil] at he
   subst he
   exact newO λ a Z3 n l₃ ha=>q a Z3 (l₂.trans l₃) (fresh_le l₂ n) ha
theorem eqv_ints{Z:Hp}{n:Nat}{a b:Addr}{is:List AV}(hs:is.all AV.scal=true)(hr:∀ x∈is,eqS x x=true)(ne:a≠b)(ha:Z a=some (.list is))(hb:Z b=some (.list is)):EqV Z (n+1) (.ref a) (.ref b) true:=by
 refine .seqs ne ha hb rfl rfl rfl rfl ?_
 clear ha hb
 induction is with
 | nil=>exact .nil
 | cons x xs ih=>
  obtain ⟨h1,h2⟩:=Bool.and_eq_true_iff.mp hs
  have:=EqVs.cons (R:=EqV Z n) (x:=x) (y:=x) (b:=eqS x x) (by cases n <;> exact .scal h1 h1) (ih h2 λ y hy=>hr y (.tail _ hy))
  rw [hr x (.head _)] at this
  exact this
section
variable {K:Kx}{g:Gs}(P:PX K)(TA:Tab K tabA)(TS:Tab K W2.tabS)(TZ:Tab K W2.tabZ)(TE:Tab K U.tabK)(TI:Tab K tabI)(TN:Tab K (tabN g))(TC:Tab K (tabC g))(TK:Tab K tabK)(TH:TabH K tabT)(TF:Tab K tabF)(TB:Tab K tabB)(TG:Tab K tabG)(TP:Tab K tabP)(TQ:Tab K tabSp)(T:Tab K tabL)
include P TA TS TZ TE TI TN TC TK TH TF TB TG TP TQ T
set_option maxHeartbeats 2000000 in
theorem s_holds{d:Nat}{Z:Hp}{Q:Post}{X:XPost}{l nl:Addr}{xs:List Int}{ns:List Txt}(j:Int)(hd:40<=d)(hl:xs.length<=63)(hG:V2.Gk Z g)(h:Z l=some (.flist (xs.map .int)))(hN:W2.Nms Z nl ns)(hno:∀ w∈ns,(w==nobT)=false)(q:∀ Z',Le Z Z'->Q (.bool true) Z'):K.fn false d "_law_holds" [.ref l,.int j,.ref nl] Z Q X:=by
 have htl:tooLong=1000000:=rfl
 have hd0:d≠0:=by exact o843 hd
 have hxl:(xs.map AV.int).length=xs.length:=length_map _
 refine ent' T f__law_holds (.head _) rfl (ρ:=[some (.ref l),some (.int j),some (.ref nl),none,none,none,none,none,none,none]) rfl ?_
 dsimp only [f__law_holds]
 refine seq λ R hR=>?_
 walk_at"ug"
 refine s_cell_at TA 1 h hl ?_
 walk_at"ug"
 refine s_mixed TA _ _ ?_
 generalize mixI (xs.getD 1 0) (3*j)=fi
 refine hR _ _ (seq λ R hR=>?_)
 walk_at"ug"
 refine s_cell_at TA 2 h hl ?_
 walk_at"ug"
 refine s_mixed TA _ _ ?_
 generalize mixI (xs.getD 2 0) (5*j)=mo
 refine hR _ _ (seq λ R hR=>iffI λ A B hA hB=>?_)
 walk_at"ug"
 refine wif (λ V=>hA _ (seq λ R hR=>?_)) λ V=>hB _ (hR _ _ (seq λ R hR=>?_))
 . walk_at"ug"
   refine s_bad_program TP λ a x t w c Z1 l1 ha rt bp=>?_
   walk_at"ug"
   refine hR _ _ (last ?_)
   walk_at"ug"
   refine s_refusal P TI TN TC TK TH TF (by exact o1116 hd) (hG.le l1) rt bp.o bp.k bp.m λ la x' Z2 l₂ hla V hat=>?_
   walk_at"ug"
   refine newO λ du Z3 V l₃ hdu=>?_
   walk_at"ug"
   refine s_alike TA TE 2 (alk_list (l₃ _ _ hla) hdu (.cons (by rw [bp.w];exact alk_str _) (.cons (alk_at (hat.le l₃) .no λ V e=>nomatch e) .nil)) (by show 2<5000;decide)) (by exact o1118 hd) λ Z4 l4=>q Z4 (l1.trans (l₂.trans (l₃.trans l4)))
 . walk_at"ug"
   refine ⟨⟨nofun,by exact o29 hl htl hxl⟩,newO λ cl Z1 V l1 hcl=>?_⟩
   rw [cut_mid _ (by decide) (by decide),<-map_take,<-List.map_drop] at hcl
   have h₁:=l1 _ _ h
   walk_at"ug"
   refine s_cell_at TA 0 h₁ hl ?_
   walk_at"ug"
   have hcs:((xs.take (11:Int).toNat).drop (3:Int).toNat).length<=8:=by rw [length_drop,length_take];show min 11 xs.length-3<=8;exact o1351 hl hxl
   refine W2.s_programM TA TS TZ (cap:=48) (by exact o1044 hd) hcl (by exact o1352 hcs) (by exact qli [_] (.i 0 3 Y0 (.n 8) (.g 0 (.a (.m 3 Y0) (.n 24)) (.n 48))) rfl hcs) (by decide) (hN.le l1) _ λ pr bs Z2 Pb b1 b3 bnd=>hR _ _ (seq λ R hR=>?_)
   have hnob:(bs.map (·.nm)).contains noT=false:=by
    rw [<-Bool.not_eq_true,contains_iff_mem]
    intro hm
    obtain ⟨b,hb,e⟩:=mem_map.mp hm
    obtain ⟨i,hi⟩:=List.mem_iff_getElem?.mp hb
    have:=hno _ (List.mem_of_getElem? (Pb.nm i b hi))
    rw [e] at this
    exact absurd this (by decide)
   walk_at"ug"
   refine s_spoil TB TG TQ (by exact o1354 hd) (hN.le l1) Pb (by decide) b1 b3 hnob λ da pa pre b post F qq c Z3 hbs l₃ S hda hpa hc hql=>hR _ _ (seq λ R hR=>?_)
   have gd:∀ x∈bs,goodB x.nm=true:=λ x hx=>(Pb.bk x hx).at'.g
   have L3:=l1.trans l₃
   subst hbs
   refine len_ok (by exact o1120 b1 b3) (by decide) S.at' S.bl λ ml Z4 l4 V hml=>hR _ _ (seq λ R hR=>?_)
   obtain ⟨rt,ok⟩:=(S.le l4).rt (by decide) (by exact o1120 b1 b3) gd
   have L4:=L3.trans l4
   walk_at"ug"
   refine s_refusal P TI TN TC TK TH TF (by exact o1116 hd) (hG.le L4) rt ok (kp_of3 (by exact o1120 b1 b3) gd bnd S.h0 S.h1) hc λ la x' Z5 l₅ hla V hat=>hR _ _ (last ?_)
   have l45:=l4.trans l₅
   have hal:Alk Z5 2 (.ref la) (.ref da):=alk_list hla (l45 _ _ hda) (.cons (alk_str _) (.cons (alk_at hat (.pl _ pa (l45 _ _ hpa)) λ ps e=>by cases e;exact ⟨b.nm,qq,rfl,hql⟩) .nil)) (by show 2<5000;decide)
   show d≠0/\K.fn false (d-1) "_law_alike" [.ref la,.ref da] Z5 _ _
   refine ⟨hd0,s_alike TA TE 2 hal (by exact o1118 hd) λ Z6 l6=>?_⟩
   show lenE3 K false d _ Z6 _ _
   have l36:=l45.trans l6
   refine len_ok (by exact o1120 b1 b3) (by decide) (S.le l36).at' (S.le l36).bl λ mm Z7 l7 nmm hmm=>?_
   have hml7:=(l₅.trans (l6.trans l7)) _ _ hml
   refine ⟨true,?_,?_⟩
   . exact eqv_ints (n:=97) (is:=_) (all_eq_true.mpr λ x hx=>by obtain ⟨y,V,rfl⟩:=mem_map.mp hx;rfl) (λ x hx=>by obtain ⟨y,V,rfl⟩:=mem_map.mp hx;exact beq_self_eq_true _) (λ e=>by rw [e,(l₅.trans l6) _ _ hml] at nmm;cases nmm) hmm hml7
   . exact q Z7 (L4.trans (l₅.trans (l6.trans l7)))
end
end V3
namespace V3
open U U12 PySem
noncomputable def tab03(g:Gs):List (String×Fn):=tabA++(U.tabD++(W2.tabS++(W2.tabZ++(U.tabK++(tabI++(tabN g++(tabC g++(tabK++(tabF++(tabB++(tabG++(tabP++(tabSp++(tabL++tabM))))))))))))))
theorem Tab.l{K:Kx}{a b:List (String×Fn)}(T:Tab K (a++b)):Tab K a:=⟨λ n f h=>T.ent n f (mem_append_left _ h)⟩
theorem Tab.r{K:Kx}{a b:List (String×Fn)}(T:Tab K (a++b)):Tab K b:=⟨λ n f h=>T.ent n f (mem_append_right _ h)⟩
section
variable {K:Kx}{g:Gs}(P:PX K)(M:∀ c∈clsM,XC K c)(T:Tab K (tab03 g))(TH:TabH K tabT)
include P M T TH
theorem law03{d:Nat}{Z:Hp}{l:Addr}{xs:List Int}(hd:42<=d)(hl:xs.length<=63)(hG:V2.Gk Z g)(h:Z l=some (.flist (xs.map .int))):
  pSs K false d f_law.body (args1 f_law.names [.ref l]) Z (λ V V=>AV.none=.bool true) (λ v V=>v=.bool true) (λ V V V=>False):=by
 have TA:=V3.Tab.l T
 have U1:=V3.Tab.r T
 have TD:=V3.Tab.l U1
 have U2:=V3.Tab.r U1
 have TS:=V3.Tab.l U2
 have U3:=V3.Tab.r U2
 have TZ:=V3.Tab.l U3
 have U4:=V3.Tab.r U3
 have TE:=V3.Tab.l U4
 have U5:=V3.Tab.r U4
 have TI:=V3.Tab.l U5
 have U6:=V3.Tab.r U5
 have TN:=V3.Tab.l U6
 have U7:=V3.Tab.r U6
 have TC:=V3.Tab.l U7
 have U8:=V3.Tab.r U7
 have TK:=V3.Tab.l U8
 have U9:=V3.Tab.r U8
 have TF:=V3.Tab.l U9
 have Ua:=V3.Tab.r U9
 have TB:=V3.Tab.l Ua
 have Ub:=V3.Tab.r Ua
 have TG:=V3.Tab.l Ub
 have Uc:=V3.Tab.r Ub
 have TP:=V3.Tab.l Uc
 have Ud:=V3.Tab.r Uc
 have TQ:=V3.Tab.l Ud
 have Ue:=V3.Tab.r Ud
 have TL:=V3.Tab.l Ue
 have TM:=V3.Tab.r Ue
 clear U1 U2 U3 U4 U5 U6 U7 U8 U9 Ua Ub Uc Ud Ue T
 have htl:tooLong=1000000:=rfl
 have hd0:d≠0:=by exact o1355 hd
 simp only [f_law,args1,map_cons,map_nil,length_cons,length_nil,cons_append,List.nil_append,List.replicate,Nat.reduceAdd,Nat.reduceSub]
 refine seq λ R hR=>?_
 walk_at"ug"
 refine s_cell_at TA 0 h hl ?_
 walk_at"ug"
 refine s_names13 TD _ λ nl ns Z1 l1 V hn hn8 hnq=>hR _ _ (last ?_)
 have hN:W2.Nms Z1 nl ns:=⟨hn,hn8,λ w hw=>(hnq w hw).1⟩
 have h₁:=l1 _ _ h
 have hG1:=hG.le l1
 walk_at"ug"
 refine s_made TI TM M (by exact o1356 hd) λ Z2 l₂=>?_
 walk_at"ug"
 refine comp_new (n:=3) (by decide) (λ Z'=>Le Z1 Z') (λ k v=>v=.bool true) l₂ ?_ ?_
 . intro k Z3 c hk l₃ hc
   walk_at"ug"
   exact s_holds P TA TS TZ TE TI TN TC TK TH TF TB TG TP TQ TL (k:Int) (by exact o1357 hd) hl (hG1.le l₃) (l₃ _ _ h₁) (hN.le l₃) (λ w hw=>(hnq w hw).2) λ Z4 l4=>hc _ _ (l₃.trans l4) rfl
 . intro vs Z3 a Z4 l₃ hlen hP ha l4 ha4
   walk_at"ug"
   refine okP (v:=List.replicate vs.length true) ?_ ?_
   . have:=trues (vs:=vs) λ v hv=>by obtain ⟨k,hk⟩:=List.mem_iff_getElem?.mp hv;exact hP k v hk
     rw [this,length_map,List.length_replicate];exact bools_map
   . rw [all_yes]
end
end V3
namespace V3
open U U12 PySem PySem.W PyProof.Rows
set_option maxRecDepth 100000
set_option maxHeartbeats 8000000
set_option Elab.async false
noncomputable def vals03:List (Str×GK):=[("LETTERS",.val (.str [97,98,99,100,101,102,103,104,105,106,107,108,109,110,111,112,113,114,115,116,117,118,119,120,121,122])),("FIGURES",.val (.str [48,49,50,51,52,53,54,55,56,57])),("ROUND",.val (.int 1000000)),("MOST_BLOCKS",.val (.int 12)),("MOST_LEVEL",.val (.int 8))]
noncomputable def fns03:List String:=["is_name","is_number","need_thing","need_two","need_sum","need_name","need_put","need_parts","counted","is_block","checked","_law_cell_at","_law_mixed","_law_whole","_law_alike","_law_names","_law_thing","_law_sum","_law_question","_law_simple","_law_closed","_law_close","_law_block_rows","_law_program","_law_word","_law_refusal","_law_bad_rows","_law_bad_names","_law_bad_twice","_law_bad_row","_law_bad_program","_law_has_form","_law_spoil","_law_holds","_law_made"]
noncomputable def xts03:XT:=⟨"UndoError",[[97,116]],"UndoError.__init__",cls7,["BadProgram","BadRow","BadName","BadNumber","OwnBox","TooDeep","BadLine","UndoError"]⟩
noncomputable def bd03(g:Gs):Bd:=⟨view03,["LENGTHS"],fns03,vals03,[("KEPT",g.KEPT),("QUESTION_SIGNS",g.QUESTION_SIGNS),("SUM_SIGNS",g.SUM_SIGNS),("LENGTHS",g.LENGTHS)],[],[],[xts03]⟩
theorem cls_ne:∀ c∈cls7,∀ n∈cls7,c≠n->decide (Str.ofString c=Str.ofString n)=false:=by decide +kernel
theorem PX.of{K:Kx}(C:Kc K [] [] [xts03]):PX K:=
 have m:∀ c∈clsL,c∈xts03.subs:=λ c h=>(mem_append_left ["BadLine"] h:c∈clsL++["BadLine"])
 ⟨⟨λ c h=>C.xat _ (.head _) c (m c h) _ (.head _),λ c h=>C.xin _ (.head _) c (m c h)⟩,λ c h=>C.isu _ (.head _) c (m c h),λ c h n hn ne=>cls_ne c (m c h) n hn ne▸C.isx _ (.head _) c (m c h) n hn,λ c h=>decide_eq_true (rfl:Str.ofString c=Str.ofString c)▸C.isx _ (.head _) c (m c h) c (m c h)⟩
theorem MX.of{K:Kx}(C:Kc K [] [] [xts03]):∀ c∈clsM,XC K c:=λ c h=>by
 have k:∀ c∈xts03.subs,XC K c:=λ c h=>⟨C.xat _ (.head _) c h _ (.head _),C.xin _ (.head _) c h⟩
 have h:c∈clsL++["UndoError","BadLine"]:=h
 rcases mem_append.mp h with h | h
 . exact k c (show c∈clsL++["BadLine"] from mem_append_left _ h)
 rcases mem_cons.mp h with rfl | h
 . exact ⟨C.xau _ (.head _) _ (.head _),C.xiu _ (.head _)⟩
 . exact k c (show c∈clsL++["BadLine"] from mem_append_right _ h)
theorem dics_ok:∀ c∈dics03,(c.2.map λ e=>toS e.1).Nodup:=by decide
noncomputable def hk03:Hook:=eHook tups03 dics03 dics_ok ["at"] subs03 rec03
noncomputable def goal.tw17820988378025373566:Program:=PySem.Challenge.pw_uf010008_03
theorem goal.te17820988378025373566:PySem.Challenge.pw_uf010008_03=goal.tw17820988378025373566:=rfl
set_option Elab.async true in
theorem goal:PySem.Challenge.rw_uf010008_03.Holds:=by
 w_on;o_law
 refine holds_open (d:=law03d.1) (kwd:=law03d.2) (q:=view03) (loose:=["LENGTHS"]) (Xt:=xt03) (XP:=XL view03 []) (Yf:=Hook.obs hk03) (Ya:=Hook.val hk03) (YP:=Hook.says hk03) (N:=5000) ?hl (Hook.of hk03) (Hook.keeps hk03) (λ s e=>xl_of s (Bool.and_eq_true_iff.mp e).1) XL.keeps ?h1 ?h2 ?h3 (λ s e=>recFacts_of (Bool.and_eq_true_iff.mp e).2) rfl (by assumption) ?h5 ⟨rfl,rfl,rfl,rfl,rfl,by decide +kernel⟩ ?hw ?hc
 case hl=>exact byRow2 (P:=At03) "special-get-raises" at03f at03t
 case h1=>kernel_rfl
 case h2=>kernel_rfl
 case h3=>kernel_rfl
 case h5=>kernel_rfl
 case hw=>w_witness2
 intro w s₀ s₁ mg mb G Y fa o pm cd doc dV kV ho hd hcd hD hmg hg args vals as hpre hlay hrd hwl hlo
 obtain ⟨m,adr,⟨hm,hnd,ht,hdi⟩,f,hx⟩:=Y
 have T:=Ground.T G
 have TE:=Ground.TE G
 clear hd hcd hD
 wrow_args hpre hlay hrd hwl hlo
 refine enter_call ?_
 refine codeAny_mono ?_ (λ V V g=>GoodW.toG g)
 obtain rfl:mg=m:=funext λ x=>Heap.Ns.agree T.g hm x
 have t1:=ht _ (.head _)
 have t2:=ht _ (.tail _ (.head _))
 have t3:=ht _ (.tail _ (.tail _ (.head _)))
 have d1:=hdi _ (.head _)
 let g:Gs:=⟨adr "KEPT",adr "QUESTION_SIGNS",adr "SUM_SIGNS",adr "OPPOSITES",adr "LENGTHS"⟩
 refine law_end (D:=450) (b:=bd03 g) (cs:=[(g.KEPT,.tup (U.keptT.map .str)),(g.QUESTION_SIGNS,.tup (signs4.map .str)),(g.SUM_SIGNS,.tup (signs7.map .str)),(g.LENGTHS,.fdict lenE)]) (fn:=V3.f_law) (tab:=V3.tab03 g) (tabh:=tabT) ⟨T,TE,?hg,?hr,?hx⟩ ?ht ?hth ?hcs hnd hg ?hrc rfl hmg (by assumption) (by decide) (λ T TH C h1 h2=>V3.law03 (PX.of C) (MX.of C) T TH (by decide) (by omega) ⟨h2 _ (.head _),h2 _ (.tail _ (.head _)),h2 _ (.tail _ (.tail _ (.head _))),h2 _ (.tail _ (.tail _ (.tail _ (.head _))))⟩ h1) ?hR
 case hg=>kernel_rfl
 case hrc=>kernel_rfl
 case ht=>kernel_rfl
 case hth=>kernel_rfl
 case hx=>
  intro t ht r hr
  cases mem_singleton.mp ht
  have e1:xmOf (bd03 g) "UndoError.__init__" = some rec03:=by kernel_rfl
  cases hr.symm.trans e1
  refine ⟨f,?_⟩
  rw [show xsubs (bd03 g)=subs03 by kernel_rfl,show xats (bd03 g)=(["at"]:List Str) by kernel_rfl]
  exact hx
 case hr=>
  intro r hr
  rcases mem_cons.mp hr with rfl | hr
  . exact t1.1
  rcases mem_cons.mp hr with rfl | hr
  . exact t2.1
  rcases mem_cons.mp hr with rfl | hr
  . exact t3.1
  cases mem_singleton.mp hr
  exact d1.1
 case hcs=>
  intro c hc
  rcases mem_cons.mp hc with rfl | hc
  . exact .tup _ t1.2
  rcases mem_cons.mp hc with rfl | hc
  . exact .tup _ t2.2
  rcases mem_cons.mp hc with rfl | hc
  . exact .tup _ t3.2
  cases mem_singleton.mp hc
  exact .dic _ d1.2
 case hR=>
  intro s' h1 h2 h3
  refine ⟨.inl ⟨_,.bool true,[],rfl,raisesW_false ?_,.bool true,?_,unshared_nil⟩,h1,h2,h3⟩
  . wrow_none_raised
  . wrow_post
end V3
theorem PySem.Challenge.cw_uf010008_03_holds : PySem.Challenge.rw_uf010008_03.Holds := by
 exact V3.goal
