import PyProof.Rows.All
import Wide.All
import OpenK.AllK
import PySem.Challenge.RW_uf020019_04
set_option autoImplicit false
set_option backward.match.sparseCases false
set_option linter.all false
set_option Elab.async false
set_option genInjectivity false
set_option genSizeOf false
set_option bootstrap.genMatcherCode false
set_option tactic.hygienic false
local macro_rules
 | `(#v[])=>`(.nil)
 | `(#v[$x])=>`(.cons $x .nil)
 | `(#v[$x,$xs,*])=>`(.cons $x #v[$xs,*])
namespace Mine
open PySem
def aI:=@wpAny_bind
def bi:=@List.mem_cons_self
def bc:=@List.length_map
def az:=@if_pos
def cP:=@Heap.get?_push_of_some
def bE:=@List.mem_cons
def dx:=@List.getElem?_eq_getElem
def bx:=@wpAny_pure
def da:=@List.length_append
def aY:=@if_neg
def dt:=@List.mem_singleton
def c2:=@List.mem_append
def eb:=@List.mem_of_getElem?
def dv:=@List.length_cons
def cK:=@List.mem_map
def ec:=@Heap.get?_push_size
def cm:=@wpAny_mono
def cS:=@Nat.ne_of_gt
def dT:=@List.not_mem_nil
def fk:=@List.mem_append_right
def hY:=@List.eq_nil_of_length_eq_zero
def ey:=@List.append_assoc
def el:=@Bool.and_eq_true
def dG:=@List.map_cons
def dw:=@Nat.lt_trans
def c9:=@Nat.le_refl
def fm:=@Int.natCast_nonneg
def e5:=@List.size_toArray
def ed:=@decide_eq_true
def fA:=@Int.emod_lt_of_pos
def eI:=@Int.emod_nonneg
def e6:=@Nat.le_add_right
def ik:=@List.getElem?_append_left
def fB:=@List.getElem?_map
def iM:=@List.getElem?_append_right
def gO:=@List.mem_append_left
def d3:=@Int.ofNat_lt
def fC:=@List.all_eq_true
def fD:=@List.map_append
def gP:=@Nat.lt_of_lt_of_le
def iN:=@Int.eq_ofNat_of_zero_le
def hF:=@Nat.lt_of_le_of_lt
def eQ:=@Heap.lt_size
def gQ:=@List.isEmpty_iff
def hZ:=@of_decide_eq_true
def gR:=@decide_eq_false
def fE:=@Nat.ne_of_lt
def f6:=@wpAny_holding
def k4:=@List.getD_eq_getElem?_getD
def im:=@decide_eq_true_eq
def hG:=@List.nodup_cons
def e7:=@beq_iff_eq
def jo:=@List.nodup_append
def iO:=@List.foldl_cons
def gA:=@wpAny_field
def hH:=@Nat.le_of_lt
def hI:=@List.map_map
def mK:=@Option.isNone_iff_eq_none
def kl:=@wpAny_Call_Name_kw
def jp:=@List.find?_cons
def k6:=@beq_eq_false_iff_ne
def km:=@List.getElem_mem
def k7:=@Nat.lt_succ_of_lt
def k8:=@List.flatMap_cons
def mL:=@List.contains_iff_mem
theorem oi{α:Type _}{a b:α}(h:some a=some b):a=b:=Option.some.inj h
theorem aF{n m k:Nat}(h:n<=m)(O:m<=k):n<=k:=Nat.le_trans h O
theorem bI{α:Type _}{a:α}(y:α){l:List α}(h:a∈l):a∈y::l:=List.mem_cons_of_mem y h
theorem cV{x y:Bool}(h:(x&&y)=true):x=true/\y=true:=Bool.and_eq_true_iff.mp h
theorem dU{α:Type _}{l:List α}{i:Nat}{a:α}(h:l[i]?=some a):∃h:i<l.length,l[i]=a:=List.getElem?_eq_some_iff.mp h
universe hS je j7 qJ Wm Wn Wo Yo
theorem aP{bj:Prop}{br:Prop}{P:Prop}(h:bj/\br)(k:bj->br->P):P:=by
 obtain⟨L,O⟩:=h;exact k L O
theorem dI{bj:Prop}{br:Prop}{dm:Prop}{P:Prop}(h:bj/\br/\dm)(k:bj->br->dm->P):P:=by
 obtain⟨L,O,ar⟩:=h;exact k L O ar
theorem CN{bj:Prop}{br:Prop}{dm:Prop}{eN:Prop}{hP:Prop}{P:Prop}(h:bj/\br/\dm/\eN/\hP)(k:bj->br->dm->eN->hP->P):P:=by
 obtain⟨L,O,ar,aU,dj⟩:=h;exact k L O ar aU dj
theorem tR{bj:Prop}{br:Prop}{dm:Prop}{eN:Prop}{hP:Prop}{nt:Prop}{P:Prop}(h:bj/\br/\dm/\eN/\hP/\nt)(k:bj->br->dm->eN->hP->nt->P):P:=by
 obtain⟨L,O,ar,aU,dj,gd⟩:=h;exact k L O ar aU dj gd
theorem Mv{bj:Prop}{br:Prop}{dm:Prop}{eN:Prop}{hP:Prop}{nt:Prop}{sG:Prop}{sH:Prop}{P:Prop}(h:bj/\br/\dm/\eN/\hP/\nt/\sG/\sH)(k:bj->br->dm->eN->hP->nt->sG->sH->P):P:=by
 obtain⟨L,O,ar,aU,dj,gd,m1,rF⟩:=h;exact k L O ar aU dj gd m1 rF
theorem aJ{bP:Sort hS}{bj:bP->Prop}{P:Prop}(h:∃ay,bj ay)(k:∀ay,bj ay->P):P:=by
 obtain⟨ay,L⟩:=h;exact k ay L
theorem aw{bP:Sort hS}{bj:bP->Prop}{br:bP->Prop}{P:Prop}(h:∃ay,bj ay/\br ay)(k:∀ay,bj ay->br ay->P):P:=by
 obtain⟨ay,L,O⟩:=h;exact k ay L O
theorem bC{bP:Sort hS}{bj:bP->Prop}{br:bP->Prop}{dm:bP->Prop}{P:Prop}(h:∃ay,bj ay/\br ay/\dm ay)(k:∀ay,bj ay->br ay->dm ay->P):P:=by
 obtain⟨ay,L,O,ar⟩:=h;exact k ay L O ar
theorem om{bP:Sort hS}{bj:bP->Prop}{br:bP->Prop}{dm:bP->Prop}{eN:bP->Prop}{P:Prop}(h:∃ay,bj ay/\br ay/\dm ay/\eN ay)(k:∀ay,bj ay->br ay->dm ay->eN ay->P):P:=by
 obtain⟨ay,L,O,ar,aU⟩:=h;exact k ay L O ar aU
theorem Mw{bP:Sort hS}{bj:bP->Prop}{br:bP->Prop}{dm:bP->Prop}{eN:bP->Prop}{hP:bP->Prop}{P:Prop}(h:∃ay,bj ay/\br ay/\dm ay/\eN ay/\hP ay)(k:∀ay,bj ay->br ay->dm ay->eN ay->hP ay->P):P:=by
 obtain⟨ay,L,O,ar,aU,dj⟩:=h;exact k ay L O ar aU dj
theorem hL{bP:Sort hS}{cN:Sort je}{bj:bP->cN->Prop}{P:Prop}(h:∃ay,∃aL,bj ay aL)(k:∀ay,∀aL,bj ay aL->P):P:=by
 obtain⟨ay,aL,L⟩:=h;exact k ay aL L
theorem cD{bP:Sort hS}{cN:Sort je}{bj:bP->cN->Prop}{br:bP->cN->Prop}{P:Prop}(h:∃ay,∃aL,bj ay aL/\br ay aL)(k:∀ay,∀aL,bj ay aL->br ay aL->P):P:=by
 obtain⟨ay,aL,L,O⟩:=h;exact k ay aL L O
theorem mT{bP:Sort hS}{cN:Sort je}{bj:bP->cN->Prop}{br:bP->cN->Prop}{dm:bP->cN->Prop}{P:Prop}(h:∃ay,∃aL,bj ay aL/\br ay aL/\dm ay aL)(k:∀ay,∀aL,bj ay aL->br ay aL->dm ay aL->P):P:=by
 obtain⟨ay,aL,L,O,ar⟩:=h;exact k ay aL L O ar
theorem xh{bP:Sort hS}{cN:Sort je}{bj:bP->cN->Prop}{br:bP->cN->Prop}{dm:bP->cN->Prop}{eN:bP->cN->Prop}{P:Prop}(h:∃ay,∃aL,bj ay aL/\br ay aL/\dm ay aL/\eN ay aL)(k:∀ay,∀aL,bj ay aL->br ay aL->dm ay aL->eN ay aL->P):P:=by
 obtain⟨ay,aL,L,O,ar,aU⟩:=h;exact k ay aL L O ar aU
theorem mU{bP:Sort hS}{cN:Sort je}{dQ:Sort j7}{bj:bP->cN->dQ->Prop}{P:Prop}(h:∃ay,∃aL,∃a9,bj ay aL a9)(k:∀ay,∀aL,∀a9,bj ay aL a9->P):P:=by
 obtain⟨ay,aL,a9,L⟩:=h;exact k ay aL a9 L
theorem jQ{bP:Sort hS}{cN:Sort je}{dQ:Sort j7}{bj:bP->cN->dQ->Prop}{br:bP->cN->dQ->Prop}{P:Prop}(h:∃ay,∃aL,∃a9,bj ay aL a9/\br ay aL a9)(k:∀ay,∀aL,∀a9,bj ay aL a9->br ay aL a9->P):P:=by
 obtain⟨ay,aL,a9,L,O⟩:=h;exact k ay aL a9 L O
theorem lW{bP:Sort hS}{cN:Sort je}{dQ:Sort j7}{bj:bP->cN->dQ->Prop}{br:bP->cN->dQ->Prop}{dm:bP->cN->dQ->Prop}{P:Prop}(h:∃ay,∃aL,∃a9,bj ay aL a9/\br ay aL a9/\dm ay aL a9)(k:∀ay,∀aL,∀a9,bj ay aL a9->br ay aL a9->dm ay aL a9->P):P:=by
 obtain⟨ay,aL,a9,L,O,ar⟩:=h;exact k ay aL a9 L O ar
theorem tS{bP:Sort hS}{cN:Sort je}{dQ:Sort j7}{bj:bP->cN->dQ->Prop}{br:bP->cN->dQ->Prop}{dm:bP->cN->dQ->Prop}{eN:bP->cN->dQ->Prop}{P:Prop}(h:∃ay,∃aL,∃a9,bj ay aL a9/\br ay aL a9/\dm ay aL a9/\eN ay aL a9)(k:∀ay,∀aL,∀a9,bj ay aL a9->br ay aL a9->dm ay aL a9->eN ay aL a9->P):P:=by
 obtain⟨ay,aL,a9,L,O,ar,aU⟩:=h;exact k ay aL a9 L O ar aU
theorem rq{bP:Sort hS}{cN:Sort je}{dQ:Sort j7}{bj:bP->cN->dQ->Prop}{br:bP->cN->dQ->Prop}{dm:bP->cN->dQ->Prop}{eN:bP->cN->dQ->Prop}{hP:bP->cN->dQ->Prop}{P:Prop}(h:∃ay,∃aL,∃a9,bj ay aL a9/\br ay aL a9/\dm ay aL a9/\eN ay aL a9/\hP ay aL a9)(k:∀ay,∀aL,∀a9,bj ay aL a9->br ay aL a9->dm ay aL a9->eN ay aL a9->hP ay aL a9->P):P:=by
 obtain⟨ay,aL,a9,L,O,ar,aU,dj⟩:=h;exact k ay aL a9 L O ar aU dj
theorem xi{bP:Sort hS}{cN:Sort je}{dQ:Sort j7}{jF:Sort qJ}{bj:bP->cN->dQ->jF->Prop}{br:bP->cN->dQ->jF->Prop}{P:Prop}(h:∃ay,∃aL,∃a9,∃dB,bj ay aL a9 dB/\br ay aL a9 dB)(k:∀ay,∀aL,∀a9,∀dB,bj ay aL a9 dB->br ay aL a9 dB->P):P:=by
 obtain⟨ay,aL,a9,dB,L,O⟩:=h;exact k ay aL a9 dB L O
theorem Mx{bP:Sort hS}{cN:Sort je}{dQ:Sort j7}{jF:Sort qJ}{bj:bP->cN->dQ->jF->Prop}{br:bP->cN->dQ->jF->Prop}{dm:bP->cN->dQ->jF->Prop}{eN:bP->cN->dQ->jF->Prop}{hP:bP->cN->dQ->jF->Prop}{nt:bP->cN->dQ->jF->Prop}{sG:bP->cN->dQ->jF->Prop}{sH:bP->cN->dQ->jF->Prop}{P:Prop}(h:∃ay,∃aL,∃a9,∃dB,bj ay aL a9 dB/\br ay aL a9 dB/\dm ay aL a9 dB/\eN ay aL a9 dB/\hP ay aL a9 dB/\nt ay aL a9 dB/\sG ay aL a9 dB/\sH ay aL a9 dB)(k:∀ay,∀aL,∀a9,∀dB,bj ay aL a9 dB->br ay aL a9 dB->dm ay aL a9 dB->eN ay aL a9 dB->hP ay aL a9 dB->nt ay aL a9 dB->sG ay aL a9 dB->sH ay aL a9 dB->P):P:=by
 obtain⟨ay,aL,a9,dB,L,O,ar,aU,dj,gd,m1,rF⟩:=h;exact k ay aL a9 dB L O ar aU dj gd m1 rF
theorem CO{bP:Sort hS}{cN:Sort je}{dQ:Sort j7}{jF:Sort qJ}{W2:Sort Wm}{W3:Sort Wn}{W4:Sort Wo}{bj:bP->cN->dQ->jF->W2->W3->W4->Prop}{P:Prop}(h:∃ay,∃aL,∃a9,∃dB,∃ra,∃rb,∃rc,bj ay aL a9 dB ra rb rc)(k:∀ay,∀aL,∀a9,∀dB,∀ra,∀rb,∀rc,bj ay aL a9 dB ra rb rc->P):P:=by
 obtain⟨ay,aL,a9,dB,ra,rb,rc,L⟩:=h;exact k ay aL a9 dB ra rb rc L
end Mine
namespace Mine
open PySem Classical
inductive H where
 | none | bool (b:Bool) | int (i:Int) | str (s:Str)
 | tup (xs:List H) | fl (xs:List H) | ref (i:Nat)
 | exc (c:Nat)
 | inst (c i:Nat)
inductive aS where
 | lst (xs:List H)
 | ds (es:List (Str×H))
 | dp (es:List ((Str×Int)×H))
 | ns (fs:List (Str×H))
 | tp
 | no
noncomputable abbrev ac:=List aS
noncomputable abbrev aE:=List (Option H)
inductive ai(α:Type) where
 | ok (a:α) (σ:ac)
 | exc (i:Nat) (σ:ac)
 | stuck
noncomputable def ai.bind{α β:Type}:ai α->(α->ac->ai β)->ai β
 | .ok a σ,f=>f a σ
 | .exc i σ,_=>.exc i σ
 | .stuck,_=>.stuck
noncomputable def ai.ofOpt{α:Type}:Option α->ac->ai α
 | some a,σ=>.ok a σ
 | none,_=>.stuck
inductive mH where | add | sub | mul | mod | fdiv | pow
inductive ig where | eq | ne | lt | le | gt | ge | is | isNot | isin | notin
inductive jN where | int | str | bool | tuple
 | list
inductive fX where | len | list (a6:Bool) | tuple | all | int | str | lenset
 | sum
 | min | max
 | sorted
 | dict
inductive hW where | append | extend
 | pop
 | get
inductive ii where
 | clear
inductive X where
 | nil | cons (a r:X)
 | k (v:H)
 | v (i:Nat)
 | and (xs:X) | or (xs:X) | not (a:X) | neg (a:X)
 | bin (o:mH) (a b:X)
 | cmp (a:X) (o:ig) (b:X)
 | cmp2 (a:X) (o:ig) (b:X) (bL:ig) (c:X)
 | ife (c a b:X)
 | lst (a6:Bool) (xs:X)
 | tup (xs:X)
 | fdget (ks:List Str) (vals:List H) (key dflt:X)
 | comp (a6:Bool) (t:Nat) (b9:List (Option Nat)) (elt:X) (cond:X) (it:X)
 | range1 (a:X)
 | call (f:Nat) (args:X)
 | b1 (b:fX) (a:X)
 | min2 (a b:X)
 | isinst (a:X) (t:jN)
 | isexc (a:X) (eh tO:List Nat)
 | me (m:hW) (o:X) (args:X)
 | me0 (m:ii) (o:X)
 | sub (o i:X)
 | slice (o lo hi:X)
 | rev (o:X)
 | enum (a:X)
 | zip (xs:X)
 | dnew (pk:Bool)
 | attr (c:Nat) (o:X) (n:Str)
 | meth (c f:Nat) (n:Str) (o args:X)
 | new (c f:Nat) (args:X)
noncomputable def aB:Nat:=1000000
noncomputable def cO(σ:ac):H->Option (List H)
 | .fl xs=>some xs
 | .ref i=>match σ[i]? with
  | some (.lst xs)=>some xs
  | _=>none
 | _=>none
noncomputable def d0(σ:ac):H->Option (List H)
 | .fl xs=>some xs
 | .tup xs=>some xs
 | .ref i=>match σ[i]? with
  | some (.lst xs)=>some xs
  | _=>none
 | _=>none
noncomputable def vR(s:Str):List H:=s.cps.toList.map fun n=>.str ⟨#[n]⟩
noncomputable def items(σ:ac):H->Option (List H)
 | .str s=>some (vR s)
 | .fl xs=>some xs
 | .tup xs=>some xs
 | .ref i=>match σ[i]? with
  | some (.lst xs)=>some xs
  | _=>none
 | _=>none
noncomputable def toD:Nat->ac->H->Option PyData
 | 0,_,_=>none
 | n+1,σ,.tup xs=>(xs.mapM (toD n σ)).map .tuple
 | n+1,σ,.fl xs=>(xs.mapM (toD n σ)).map .list
 | n+1,σ,.ref i=>match σ[i]? with
  | some (.lst xs)=>(xs.mapM (toD n σ)).map .list
  | _=>none
 | _+1,_,.none=>some .none
 | _+1,_,.bool b=>some (.bool b)
 | _+1,_,.int i=>some (.int i)
 | _+1,_,.str s=>some (.str s)
 | _+1,_,.exc _=>none
 | _+1,_,.inst _ _=>none
noncomputable def eqv(σ:ac)(a b:H):Option Bool:=
 match toD 16 σ a,toD 16 σ b with
 | some x,some y=>some (PyData.eqv x y)
 | _,_=>none
noncomputable def i5(σ:ac)(x:H)(xs:List H):Option Bool:=
 match toD 16 σ x,xs.mapM (toD 16 σ)with
 | some d,some ds=>some (ds.any fun y=>PyData.eqv y d)
 | _,_=>none
noncomputable def aG{dq:Type}[DecidableEq dq](k:dq)(es:List (dq×H)):Option H:=(es.find? fun e=>decide (e.1=k)).map (·.2)
noncomputable def ee{dq:Type}[DecidableEq dq](k:dq)(v:H)(es:List (dq×H)):List (dq×H):=
 if(es.any fun e=>decide (e.1=k))then es.map (fun e=>if e.1=k then(e.1,v)else e)else es++[(k,v)]
noncomputable def HC:(p:H)->Option { k:Str×Int // p=.tup [.str k.1,.int k.2] }
 | .tup [.str x,.int i]=>some ⟨(x,i),rfl⟩
 | _=>none
noncomputable def g5(p:H):Option (Str×Int):=(HC p).map (·.1)
theorem su{α:Type}{P:α->Prop}{o:Option { a // P a }}{a:α}(h:o.map (·.1)=some a):P a:=by
 cases o with
 | none=>exact nomatch h
 | some q=>obtain rfl:=oi h;exact q.2
noncomputable def j4(k:Str):List (Str×H)->Option H
 | []=>none
 | (x,v)::r=>if x=k then some v else j4 k r
noncomputable def fJ(i:Int)(n:Nat):Option Nat:=
 if 0<=i then(if i.toNat<n then some i.toNat else none)
 else if 0<=i+n then some (i+n).toNat else none
noncomputable def gF(o:Obj):Prop:=∃es n,o.data=.dict es n
noncomputable def kj(o:Obj):Prop:=(∃xs n,o.data=.seq xs n)\/(∃C vs,o.cls=.ref C/\o.data=.fields vs)\/∃C,o.cls=.ref C/\o.data=.plain
theorem kj.seq{c:Value}{d:Option Addr}{xs:Array Value}{n:Nat}{cq:Array (Option Value)}:kj { cls:=c,dict:=d,data:=.seq xs n,slots:=cq }:=.inl ⟨xs,n,rfl⟩
theorem gF.notSolid{o:Obj}(d:gF o):¬kj o:=by
 refine hL d fun es n d=>?_
 rintro(⟨xs,m,e⟩ | ⟨C,vs,_,e⟩ | ⟨C,_,e⟩) <;> rw[d]at e <;> contradiction
noncomputable def jl(fr:List Addr)(h':Heap)(b:Addr)(o:Obj):Prop:=h'.get? b=some o\/(b∈fr/\gF o/\∃cq,h'.get? b=some { o with slots:=cq })
theorem jl.trans{fr:List Addr}{h' hM:Heap}{b:Addr}{o:Obj}(x:jl fr h' b o)(y:∀aK,h'.get? b=some aK->jl fr hM b aK):jl fr hM b o:=by
 rcases x with x | ⟨f,d,cq,x⟩
 ·rcases y o x with y | ⟨f,d,cq,y⟩
  ·exact .inl y
  ·exact .inr ⟨f,d,cq,y⟩
 ·rcases y _ x with y | ⟨_,_,pc,y⟩
  ·exact .inr ⟨f,d,cq,y⟩
  ·exact .inr ⟨f,d,pc,y⟩
theorem jl.ns{fr:List Addr}{h h':Heap}{b:Addr}{o:Obj}{m:Str->Option Value}(n:h.Ns b m)(e:h.get? b=some o)(x:jl fr h' b o):h'.Ns b m:=by
 refine jQ n fun aK es d5 aA r=>?_;rw[e]at aA;obtain rfl:=oi aA
 rcases x with x | ⟨_,d,cq,x⟩
 ·exact⟨o,es,d5,x,r⟩
 ·exact⟨_,es,d5,x,r⟩
theorem jl.same{fr:List Addr}{h':Heap}{b:Addr}{o:Obj}(x:jl fr h' b o)(n:¬gF o):h'.get? b=some o:=by
 rcases x with x | ⟨_,d,_⟩
 ·exact x
 ·exact absurd d n
theorem jl.not{fr:List Addr}{h':Heap}{b:Addr}{o:Obj}(x:jl fr h' b o)(n:b∉fr):h'.get? b=some o:=by
 rcases x with x | ⟨f,_⟩
 ·exact x
 ·exact absurd f n
structure au where
 ix:List Addr
 hid:List Addr
 fr:List Addr
noncomputable def au.all(α:au):List Addr:=α.ix++α.hid
inductive af(h:Heap)(α:au):H->Value->Prop where
 | none:af h α .none .none
 | bool (b:Bool):af h α (.bool b) (.bool b)
 | int (i:Int) (t:Tok):af h α (.int i) (.int i t)
 | str (s:Str) (t:Tok):PyData.strOk s=true->af h α (.str s) (.str s t)
 | tup {xs:List H} {a:Addr} {items:Array Value} {n:Nat}:h.get? a=some { cls:=.type "tuple",data:=.seq items n }->a∉α.all->xs.length=items.size ->
   (∀(i:Nat) (x:H) (v:Value),xs[i]?=some x->items[i]?=some v->af h α x v)->af h α (.tup xs) (.ref a)
 | fl {xs:List H} {a:Addr} {items:Array Value} {n:Nat}:h.get? a=some { cls:=.type "list",data:=.seq items n }->a∉α.all->xs.length=items.size ->
   (∀(i:Nat) (x:H) (v:Value),xs[i]?=some x->items[i]?=some v->af h α x v)->af h α (.fl xs) (.ref a)
 | ref {i:Nat} {a:Addr}:α.ix[i]?=some a->af h α (.ref i) (.ref a)
 | exc {c:Nat} {a:Addr} {o:Obj} {vs:Array Value}:h.get? a=some o->o.cls=.ref c->o.data=.fields vs->a∉α.all->af h α (.exc c) (.ref a)
 | inst {c i:Nat} {a D:Addr}:h.get? a=some { cls:=.ref c,dict:=some D,data:=.plain }->a∉α.all->α.ix[i]?=some D->af h α (.inst c i) (.ref a)
structure aW(F:List Addr)(α:au)(h:Heap)(α':au)(h':Heap):Prop where
 hid:α'.hid=α.hid
 pre:∃β,α'.ix=α.ix++β/\∀x∈β,h.get? x=none/\x∉F
 seqs:∀b o,b∉α.ix->h.get? b=some o->kj o->h'.get? b=some o
 rest:∀b o,b∉α.ix->b∉F->h.get? b=some o->jl α.fr h' b o
 alive:∀b o,b∉F->h.get? b=some o->∃aK,h'.get? b=some aK
 fre:α'.fr=α.fr
theorem aW.refl{F α h}:aW F α h α h:=
 ⟨rfl,⟨[],by simp,fun J hx=>(nomatch hx)⟩,fun J J J e J=>e,fun J J J J e=>.inl e,fun J o J e=>⟨o,e⟩,rfl⟩
theorem aW.keeps{F α h h'}(k:∀b o,h.get? b=some o->h'.get? b=some o):aW F α h α h':=
 ⟨rfl,⟨[],by simp,fun J hx=>(nomatch hx)⟩,fun b o J e J=>k b o e,fun b o J J e=>.inl (k b o e),fun b o J e=>⟨o,k b o e⟩,rfl⟩
theorem aW.notMem{F α h α' h'}(x:aW F α h α' h'){b:Addr}{o:Obj}(hb:b∉α.ix)(e:h.get? b=some o):b∉α'.ix:=by
 refine aw x.pre fun β q bw=>?_;rw[q];intro hm
 rcases c2.mp hm with q | q
 ·exact hb q
 ·rw[(bw b q).1]at e;contradiction
theorem au.not_ix{α:au}{b:Addr}(h:b∉α.all):b∉α.ix:=fun q=>h (gO _ q)
theorem aW.notAll{F α h α' h'}(x:aW F α h α' h'){b:Addr}{o:Obj}(hb:b∉α.all)(e:h.get? b=some o):b∉α'.all:=by
 intro hm
 rcases c2.mp hm with q | q
 ·exact x.notMem (au.not_ix hb) e q
 ·rw[x.hid]at q;exact hb (fk _ q)
theorem aW.mono{F nU α h α' h'}(x:aW F α h α' h')(bN:∀b∈F,b∈nU)(jn:∀b∈nU,∃o,h.get? b=some o):aW nU α h α' h':=by
 refine aw x.pre fun β e bw=>?_
 exact⟨x.hid,⟨β,e,fun y hy=>⟨(bw y hy).1,fun q=>by refine aJ (jn y q) fun o ho=>?_;rw[(bw y hy).1]at ho;cases ho⟩⟩,x.seqs,fun b o hb Ot e=>x.rest b o hb (fun q=>Ot (bN b q)) e,
  fun b o hb e=>x.alive b o (fun q=>hb (bN b q)) e,x.fre⟩
theorem aW.trans{F α h α' h' jE hM}(x:aW F α h α' h')(y:aW F α' h' jE hM):aW F α h jE hM:=by
 refine aw x.pre fun β q1 bw=>?_;refine aw y.pre fun γ q2 hg=>?_;refine⟨y.hid.trans x.hid,⟨β++γ,by rw[q2,q1,ey],fun a ha=>?_⟩,fun b o hb e hs=>?_,fun b o hb bN e=>?_,fun b o hb e=>?_,y.fre.trans x.fre⟩
 ·rcases c2.mp ha with q | q
  ·exact bw a q
  ·refine⟨?_,(hg a q).2⟩
   cases hq:h.get? a with
   | none=>rfl
   | some o =>
    refine aJ (x.alive a o (hg a q).2 hq) fun aK rY=>?_;rw[(hg a q).1]at rY;contradiction
 ·exact y.seqs b o (x.notMem hb e) (x.seqs b o hb e hs) hs
 ·exact(x.rest b o hb bN e).trans fun aK aA=>x.fre▸y.rest b aK (x.notMem hb e) bN aA
 ·refine aJ (x.alive b o hb e) fun aK aA=>?_;exact y.alive b aK hb aA
theorem aW.drop{F bV α h α' h' jE hM}(x:aW [] α h α' h')(l6:∀b∈bV,h.get? b=none)(jn:∀b∈F,∃o,h.get? b=some o)(y:aW (bV++F) α' h' jE hM):aW F α h jE hM:=by
 refine aw x.pre fun β q1 bw=>?_;refine aw y.pre fun γ q2 hg=>?_
 have no:∀b o,h.get? b=some o->b∉bV:=fun b o e q=>by rw[l6 b q]at e;contradiction
 refine⟨y.hid.trans x.hid,⟨β++γ,by rw[q2,q1,ey],fun a ha=>?_⟩,fun b o hb e hs=>?_,fun b o hb bN e=>?_,fun b o hb e=>?_,y.fre.trans x.fre⟩
 ·rcases c2.mp ha with q | q
  ·refine⟨(bw a q).1,fun Az=>?_⟩;refine aJ (jn a Az) fun o ho=>?_;rw[(bw a q).1]at ho;contradiction
  ·refine⟨?_,fun Az=>(hg a q).2 (fk _ Az)⟩
   cases hq:h.get? a with
   | none=>rfl
   | some o =>
    obtain⟨aK,rY⟩:=x.alive a o ((dT)) hq;rw[(hg a q).1]at rY;contradiction
 ·exact y.seqs b o (x.notMem hb e) (x.seqs b o hb e hs) hs
 ·exact(x.rest b o hb ((dT)) e).trans fun aK aA=>x.fre▸y.rest b aK (x.notMem hb e) (fun q=>by
   rcases c2.mp q with q | q
   ·exact no b o e q
   ·exact bN q) aA
 ·obtain⟨aK,aA⟩:=x.alive b o ((dT)) e
  exact y.alive b aK (fun q=>by
   rcases c2.mp q with q | q
   ·exact no b o e q
   ·exact hb q) aA
theorem aW.get{F α h α' h'}(x:aW F α h α' h'){i:Nat}{a:Addr}(e:α.ix[i]?=some a):α'.ix[i]?=some a:=by
 refine aw x.pre fun β q J=>?_;exact q.symm▸(ik (dU e).1).symm▸e
section
variable {h:Heap}{α:au}{v:Value}
theorem af.noneE(r:af h α .none v):v=.none:=by cases r;rfl
theorem af.boolE{b:Bool}(r:af h α (.bool b) v):v=.bool b:=by cases r;rfl
theorem af.intE{i:Int}(r:af h α (.int i) v):∃t,v=.int i t:=by cases r;exact⟨_,rfl⟩
theorem af.strE{x:Str}(r:af h α (.str x) v):∃t,v=.str x t/\PyData.strOk x=true:=by
 cases r with
 | str _ t h=>exact⟨_,rfl,h⟩
theorem af.refE{i:Nat}(r:af h α (.ref i) v):∃a,v=.ref a/\α.ix[i]?=some a:=by
 cases r with
 | ref e=>exact⟨_,rfl,e⟩
end
theorem af.ext{F α h α' h'}(x:aW F α h α' h'){p:H}{v:Value}(r:af h α p v):af h' α' p v:=by
 induction r with
 | none=>exact .none
 | bool b=>exact .bool b
 | int i t=>exact .int i t
 | str s t hs=>exact .str s t hs
 | tup e hn hl _ ag=>exact .tup (x.seqs _ _ (au.not_ix hn) e .seq) (x.notAll hn e) hl ag
 | fl e hn hl _ ag=>exact .fl (x.seqs _ _ (au.not_ix hn) e .seq) (x.notAll hn e) hl ag
 | ref e=>exact .ref (x.get e)
 | exc e hc hd hn=>exact .exc (x.seqs _ _ (au.not_ix hn) e (.inr (.inl ⟨_,_,hc,hd⟩))) hc hd (x.notAll hn e)
 | inst e hn hi=>exact .inst (x.seqs _ _ (au.not_ix hn) e (.inr (.inr ⟨_,rfl,rfl⟩))) (x.notAll hn e) (x.get hi)
noncomputable def a7(h:Heap)(α:au)(xs:List H)(vs:List Value):Prop:=
 xs.length=vs.length/\∀(i:Nat) (x:H) (v:Value),xs[i]?=some x->vs[i]?=some v->af h α x v
theorem a7.nil{h α}:a7 h α [] []:=⟨rfl,fun J J J e=>(nomatch e)⟩
theorem a7.cons{h α x xs v vs}(a:af h α x v)(b:a7 h α xs vs):a7 h α (x::xs) (v::vs):=by
 refine⟨by simp[b.1],fun i y w V aj=>?_⟩
 cases i with
 | zero=>simp at V aj;subst V aj;exact a
 | succ i=>simp at V aj;exact b.2 i y w V aj
theorem a7.ext{F α h α' h'}(x:aW F α h α' h'){p:List H}{v:List Value}(r:a7 h α p v):a7 h' α' p v:=
 ⟨r.1,fun i a b V aj=>(r.2 i a b V aj).ext x⟩
theorem a7.inv_cons{h α x xs vs}(r:a7 h α (x::xs) vs):∃v v9,vs=v::v9/\af h α x v/\a7 h α xs v9:=by
 cases vs with
 | nil=>simp[a7]at r
 | cons v v9=>exact⟨v,v9,rfl,r.2 0 x v (by rfl) (by rfl),by have:=r.1;simp at this;exact this,fun i a b V aj=>r.2 (i+1) a b (by simpa using V) (by simpa using aj)⟩
theorem a7.append{h α xs vs ys ws}(a:a7 h α xs vs)(b:a7 h α ys ws):a7 h α (xs++ys) (vs++ws):=by
 refine⟨by simp[a.1,b.1],fun i y w V aj=>?_⟩;by_cases hi:i<xs.length
 ·rw[ik hi]at V;rw[ik (a.1▸hi)]at aj;exact a.2 i y w V aj
 ·rw[iM (by omega)]at V;rw[iM (by rw[<- a.1];omega),<- a.1]at aj;exact b.2 _ y w V aj
theorem af.tupI{h:Heap}{α:au}{xs:List H}{a:Addr}{items:List Value}{n:Nat}(e:h.get? a=some { cls:=.type "tuple",data:=.seq items.toArray n })(hn:a∉α.all)(r:a7 h α xs items):af h α (.tup xs) (.ref a):=
 .tup e hn (by simpa using r.1) fun i x v V aj=>r.2 i x v V (by simpa using aj)
theorem af.flI{h:Heap}{α:au}{xs:List H}{a:Addr}{items:List Value}{n:Nat}(e:h.get? a=some { cls:=.type "list",data:=.seq items.toArray n })(hn:a∉α.all)(r:a7 h α xs items):af h α (.fl xs) (.ref a):=
 .fl e hn (by simpa using r.1) fun i x v V aj=>r.2 i x v V (by simpa using aj)
inductive SeqAt(T:String)(h:Heap)(α:au)(xs:List H)(v:Value):Prop
 | mk (a:Addr) (items:List Value) (n:Nat) (e:v=.ref a) (a1:h.get? a=some { cls:=.type T,data:=.seq (List.toArray items) n }) (hn:a∉α.all) (vs:a7 h α xs items):SeqAt T h α xs v
theorem af.tupE{h:Heap}{α:au}{xs:List H}{v:Value}(r:af h α (.tup xs) v):SeqAt "tuple" h α xs v:=by
 cases r with
 | tup e hn hl hr=>exact⟨_,_,_,rfl,by simpa using e,hn,by simpa using hl,fun i x v V aj=>hr i x v V (by simpa using aj)⟩
theorem af.flE{h:Heap}{α:au}{xs:List H}{v:Value}(r:af h α (.fl xs) v):SeqAt "list" h α xs v:=by
 cases r with
 | fl e hn hl hr=>exact⟨_,_,_,rfl,by simpa using e,hn,by simpa using hl,fun i x v V aj=>hr i x v V (by simpa using aj)⟩
end Mine
namespace Mine
open PySem Classical
structure bh where
 calls:Nat->Nat->List H->ac->ai H
 md:Nat
noncomputable abbrev bh.call(C:bh):Nat->List H->ac->ai H:=C.calls C.md
noncomputable def bh.hd(C:bh):Bool:=C.md != 0
noncomputable def bh.rz(C:bh):Bool:=Nat.ble C.md 1
noncomputable def bh.inH(C:bh):bh:=⟨C.calls,C.md+1⟩
noncomputable def fK(w:Option (Nat×aS))(σ:ac):Prop:=
 match w with
 | none=>True
 | some (i,m)=>σ[i]?=some m
noncomputable def w7:Option H->List H->List H
 | some v,ys=>v::ys
 | none,ys=>ys
noncomputable def dM(w:Option (Nat×aS))(f:H->ac->ai (Option H)):List H->ac->ai (List H)
 | [],σ=>if fK w σ then .ok [] σ else .stuck
 | x::xs,σ=>if fK w σ then(f x σ).bind fun y σ=>(dM w f xs σ).bind fun ys σ=>.ok (w7 y ys) σ else .stuck
noncomputable def iS(n:Nat)(c:ai (List H))(f:List H->ac->ai H):ai H:=
 match c with
 | .ok ys σ=>f ys σ
 | _=>.stuck
noncomputable def nI(σ:ac):H->Option (Nat×aS)
 | .ref i=>match σ[i]? with
  | some (.lst xs)=>some (i,.lst xs)
  | _=>none
 | _=>none
noncomputable def er(a6:Bool)(xs:List H)(σ:ac):ai H:=
 if xs.length<=aB then(if a6 then .ok (.fl xs) σ else .ok (.ref σ.length) (σ++[.lst xs]))else .stuck
noncomputable def cF(a c:Int)(n:Nat):List H:=(List.range n).map fun(i:Nat)=>.int (a+(i:Int)*c)
noncomputable def qg(a b:Int):Bool:=decide (a.natAbs<2 ^ 60\/b.natAbs<2 ^ 60)
noncomputable def rd(f:Int->Int->ai H)(a b:H):ai H:=
 match a with
 | .int x=>match b with
  | .int y=>f x y
  | _=>.stuck
 | _=>.stuck
noncomputable def wN(a b:H)(σ:ac):ai H:=
 match a with
 | .int x=>match b with
  | .int y=>.ok (.int (x+y)) σ
  | _=>.stuck
 | .str x=>match b with
  | .str y=>if x.length+y.length<=aB then .ok (.str (x++y)) σ else .stuck
  | _=>.stuck
 | .tup x=>match b with
  | .tup y=>if x.length+y.length<=aB then .ok (.tup (x++y)) σ else .stuck
  | _=>.stuck
 | a=>match cO σ a with
  | some x=>match cO σ b with
   | some y=>if x.length+y.length<=aB then .ok (.fl (x++y)) σ else .stuck
   | none=>.stuck
  | none=>.stuck
noncomputable def Ij(a b:H)(σ:ac):ai H:=
 match b with
 | .int y=>match a with
  | .int x=>if qg x y then .ok (.int (x*y)) σ else .stuck
  | .str x=>if x.length<=100/\0<=y/\y<=100 then .ok (.str (Txt.mul x y)) σ else .stuck
  | .fl xs=>if xs.length<=100/\0<=y/\y<=100 then .ok (.fl (List.replicate y.toNat xs).flatten) σ else .stuck
  | _=>.stuck
 | _=>.stuck
noncomputable def jO(o:mH)(a b:H)(σ:ac):ai H:=
 match o with
 | .add=>wN a b σ
 | .sub=>rd (fun x y=>.ok (.int (x-y)) σ) a b
 | .mul=>Ij a b σ
 | .mod=>rd (fun x y=>if 0<y then .ok (.int (x%y)) σ else .stuck) a b
 | .fdiv=>rd (fun x y=>if 0<y/\y<1073741824 then .ok (.int (x/y)) σ else .stuck) a b
 | .pow=>rd (fun x n=>if 0<=n/\n<=100/\x=10 then .ok (.int (x ^ n.toNat)) σ else .stuck) a b
noncomputable def sC(f:Int->Int->Bool)(a b:H)(σ:ac):ai Bool:=
 match a with
 | .int x=>match b with
  | .int y=>.ok (f x y) σ
  | _=>.stuck
 | _=>.stuck
noncomputable def lx:H->Bool
 | .none=>true
 | _=>false
noncomputable def zO(f:Bool->Bool)(a b:H)(σ:ac):ai Bool:=
 match b with
 | .none=>.ok (f (lx a)) σ
 | .bool y=>match a with
  | .bool x=>.ok (f (decide (x=y))) σ
  | _=>.stuck
 | _=>.stuck
noncomputable def ep(a b:H)(σ:ac):Option Bool:=
 match b with
 | .str y=>match a with
  | .str x=>match x.cps.toList with
   | [c]=>some (y.cps.toList.contains c)
   | _=>none
  | _=>none
 | .tup xs=>i5 σ a xs
 | .fl xs=>i5 σ a xs
 | .ref r=>match σ[r]? with
  | some (.lst xs)=>i5 σ a xs
  | some (.ds es)=>match a with
   | .str k=>some (aG k es).isSome
   | _=>none
  | some (.dp es)=>(g5 a).map fun k=>(aG k es).isSome
  | _=>none
 | _=>none
noncomputable def cQ(o:ig)(a b:H)(σ:ac):ai Bool:=
 match o with
 | .eq=>ai.ofOpt (eqv σ a b) σ
 | .ne=>ai.ofOpt ((eqv σ a b).map (!·)) σ
 | .lt=>sC (fun x y=>decide (x<y)) a b σ
 | .le=>sC (fun x y=>decide (x<=y)) a b σ
 | .gt=>sC (fun x y=>decide (x > y)) a b σ
 | .ge=>sC (fun x y=>decide (x>=y)) a b σ
 | .is=>zO id a b σ
 | .isNot=>zO (!·) a b σ
 | .isin=>ai.ofOpt (ep a b σ) σ
 | .notin=>ai.ofOpt ((ep a b σ).map (!·)) σ
noncomputable def f7:List H->Option (List Int)
 | []=>some []
 | .int i::r=>(f7 r).map (i::·)
 | _::_=>none
noncomputable def lT:List H->Option (List Bool)
 | []=>some []
 | .bool b::r=>(lT r).map (b::·)
 | _::_=>none
noncomputable def kn:List H->Option (List Str)
 | []=>some []
 | .str s::r=>(kn r).map (s::·)
 | _::_=>none
noncomputable def gD(l:List Str):List Str:=l.foldl (fun a x=>if a.any (· == x)then a else a++[x]) []
noncomputable def eB(l:List Int):List Int:=l.mergeSort (fun a b=>decide (a<=b))
noncomputable def qy(xs:List H):Option (List H):=
 match f7 xs with
 | some l=>if l.length<64 then some ((eB l).map .int)else none
 | none=>none
noncomputable def jy(f:List H->ai H)(a:H)(σ:ac):ai H:=
 match d0 σ a with
 | some xs=>f xs
 | none=>.stuck
noncomputable def fR{α:Type}(g:List H->Option α)(f:α->ai H)(a:H)(σ:ac):ai H:=
 match(cO σ a).bind g with
 | some l=>f l
 | none=>.stuck
noncomputable def Rs(a:H)(σ:ac):ai H:=
 match a with
 | .str s=>if s.length<=aB then .ok (.int s.length) σ else .stuck
 | a=>jy (fun xs=>if xs.length<=aB then .ok (.int xs.length) σ else .stuck) a σ
noncomputable def Ql(a:H)(σ:ac):ai H:=
 match a with
 | .bool b=>.ok (.int (if b then 1 else 0)) σ
 | _=>.stuck
noncomputable def U9(a:H)(σ:ac):ai H:=
 match a with
 | .str s=>.ok (.str s) σ
 | .int i=>if 0<=i/\i<1000000000 then .ok (.str (Str.ofString (toString i))) σ else .stuck
 | _=>.stuck
noncomputable def CE:List H->List ((Str×Int)×H)->Option (List ((Str×Int)×H))
 | [],es=>some es
 | .tup [k,v]::r,es=>match g5 k with
  | some k=>CE r (ee k v es)
  | none=>none
 | _::_,_=>none
noncomputable def Mh(a:H)(σ:ac):ai H:=
 match a with
 | .ref r=>match σ[r]? with
  | some (.dp es)=>if es.length<=aB then .ok (.ref σ.length) (σ++[.dp es])else .stuck
  | _=>.stuck
 | .fl xs=>match CE xs []with
  | some es=>if xs.length<=aB then .ok (.ref σ.length) (σ++[.dp es])else .stuck
  | none=>.stuck
 | _=>.stuck
noncomputable def db(b:fX)(a:H)(σ:ac):ai H:=
 match b with
 | .dict=>Mh a σ
 | .len=>Rs a σ
 | .list a6=>jy (fun xs=>er a6 xs σ) a σ
 | .tuple=>jy (fun xs=>if xs.length<=aB then .ok (.tup xs) σ else .stuck) a σ
 | .sum=>fR f7 (fun l=>if l.length<=1000/\l.all (fun x=>decide (x.natAbs<2 ^ 40))then .ok (.int l.sum) σ else .stuck) a σ
 | .min=>fR f7 (fun l=>match l with
  | x::l=>.ok (.int (l.foldl min x)) σ
  | []=>.stuck) a σ
 | .max=>fR f7 (fun l=>match l with
  | x::l=>.ok (.int (l.foldl max x)) σ
  | []=>.stuck) a σ
 | .sorted=>fR qy (fun l=>.ok (.fl l) σ) a σ
 | .all=>fR lT (fun l=>.ok (.bool (l.all id)) σ) a σ
 | .int=>Ql a σ
 | .str=>U9 a σ
 | .lenset=>match(d0 σ a).bind kn with
  | some l=>if l.length<=1000 then .ok (.int (gD l).length) σ else .stuck
  | none=>.stuck
noncomputable def uU:fX->Bool
 | .all | .lenset=>true
 | .sum=>true
 | .min | .max=>true
 | .dict=>true
 | _=>false
noncomputable def iP(hd:Bool)(b:fX)(a:H)(σ:ac):ai H:=bif hd&&uU b then .stuck else db b a σ
noncomputable def vh(a:H)(eh tO:List Nat)(σ:ac):ai Bool:=
 match a with
 | .exc c=>if tO.contains c then .ok (eh.contains c) σ else .stuck
 | _=>.stuck
noncomputable def kH(a:H)(t:jN)(σ:ac):ai Bool:=
 match t with
 | .int=>match a with
  | .int _=>.ok true σ
  | .bool _=>.ok true σ
  | .none=>.ok false σ
  | .str _=>.ok false σ
  | _=>.stuck
 | .bool=>match a with
  | .bool _=>.ok true σ
  | .int _=>.ok false σ
  | .none=>.ok false σ
  | .str _=>.ok false σ
  | _=>.stuck
 | .str=>match a with
  | .str _=>.ok true σ
  | .int _=>.ok false σ
  | .none=>.ok false σ
  | .bool _=>.ok false σ
  | .tup _=>.ok false σ
  | _=>.stuck
 | .tuple=>match a with
  | .tup _=>.ok true σ
  | .str _=>.ok false σ
  | .int _=>.ok false σ
  | _=>.stuck
 | .list=>match a with
  | .tup _=>.ok false σ
  | a=>match cO σ a with
   | some _=>.ok true σ
   | none=>.stuck
noncomputable def mh(xs:List H)(i:Int)(σ:ac):ai H:=if xs.length<=aB then ai.ofOpt ((fJ i xs.length).bind (xs[·]?)) σ else .stuck
noncomputable def mA(o i:H)(σ:ac):ai H:=
 match o with
 | .ref r=>match σ[r]? with
  | some (.ds es)=>match i with
   | .str k=>ai.ofOpt (aG k es) σ
   | _=>.stuck
  | some (.dp es)=>ai.ofOpt ((g5 i).bind fun k=>aG k es) σ
  | _=>.stuck
 | _=>.stuck
noncomputable def fU(o i:H)(σ:ac):ai H:=
 match i with
 | .int i=>match o with
  | .str s=>if s.cps.size<=aB then
    match(fJ i s.cps.size).bind (s.cps[·]?)with
    | some c=>.ok (.str ⟨#[c]⟩) σ
    | none=>.stuck
   else .stuck
  | .tup xs=>mh xs i σ
  | o=>match cO σ o with
   | some xs=>mh xs i σ
   | none=>.stuck
 | i=>mA o i σ
noncomputable def mm:H->Option (Option Int)
 | .none=>some none
 | .int i=>some (some i)
 | _=>none
noncomputable def dE{α:Type}(xs:List α)(lo hi:Option Int):List α:=
 (xs.drop (lo.elim 0 (clipAt xs.length))).take (hi.elim xs.length (clipAt xs.length)-lo.elim 0 (clipAt xs.length))
noncomputable def lI(s:Str)(lo hi:Option Int):Str:=⟨(dE s.cps.toList lo hi).toArray⟩
noncomputable def sQ(σ:ac)(o:H)(lo hi:Option Int):Option H:=
 match o with
 | .str x=>if x.length<=aB then some (.str (lI x lo hi))else none
 | .tup xs=>if xs.length<=aB then some (.tup (dE xs lo hi))else none
 | o=>(cO σ o).bind fun xs=>if xs.length<=aB then some (.fl (dE xs lo hi))else none
noncomputable def lJ(o lo hi:H)(σ:ac):ai H:=ai.ofOpt ((mm lo).bind fun lo=>(mm hi).bind fun hi=>sQ σ o lo hi) σ
noncomputable def sL(o:H)(σ:ac):ai H:=
 match cO σ o with
 | some xs=>if xs.length<=aB then .ok (.fl xs.reverse) σ else .stuck
 | none=>.stuck
noncomputable def Ab(a:H)(σ:ac):ai H:=
 match a with
 | .int i=>.ok (.int (-i)) σ
 | _=>.stuck
noncomputable def g4(o:H)(σ:ac):Bool:=
 match o with
 | .ref r=>match σ[r]? with
  | some (.lst _)=>true
  | _=>false
 | _=>false
noncomputable def Qt:H->Bool
 | .str _=>true
 | _=>false
noncomputable def sj(o:H)(σ:ac):Bool:=
 match o with
 | .ref r=>match σ[r]? with
  | some (.ds _)=>true
  | some (.dp _)=>true
  | _=>false
 | _=>false
noncomputable def o2(m:hW)(o:H)(σ:ac):Bool:=
 match m with
 | .append | .extend=>g4 o σ
 | .pop=>g4 o σ
 | .get=>sj o σ
noncomputable def ko(o v:H)(σ:ac):ai H:=
 match o with
 | .ref r=>match σ[r]? with
  | some (.lst xs)=>if xs.length<aB then .ok .none (σ.set r (.lst (xs++[v])))else .stuck
  | _=>.stuck
 | _=>.stuck
noncomputable def kz(o v:H)(σ:ac):ai H:=
 match o with
 | .ref r=>match σ[r]? with
  | some (.lst xs)=>match v with
   | .tup ys=>if xs.length+ys.length<=aB then .ok .none (σ.set r (.lst (xs++ys)))else .stuck
   | .fl ys=>if xs.length+ys.length<=aB then .ok .none (σ.set r (.lst (xs++ys)))else .stuck
   | _=>.stuck
  | _=>.stuck
 | _=>.stuck
noncomputable def rD(o v:H)(σ:ac):ai H:=
 match o with
 | .ref r=>match σ[r]? with
  | some (.ds es)=>match v with
   | .str k=>.ok ((aG k es).getD .none) σ
   | _=>.stuck
  | some (.dp es)=>match g5 v with
   | some k=>.ok ((aG k es).getD .none) σ
   | none=>.stuck
  | _=>.stuck
 | _=>.stuck
noncomputable def o5(o v:H)(σ:ac):ai H:=
 match o with
 | .ref r=>match σ[r]? with
  | some (.lst xs)=>match v with
   | .int i=>if 0<=i/\xs.length<=aB then match xs[i.toNat]? with
     | some v=>.ok v (σ.set r (.lst (xs.eraseIdx i.toNat)))
     | none=>.stuck
    else .stuck
   | _=>.stuck
  | _=>.stuck
 | _=>.stuck
noncomputable def iC(m:hW)(o:H)(args:List H)(σ:ac):ai H:=
 match args with
 | [v]=>match m with
  | .append=>ko o v σ
  | .extend=>kz o v σ
  | .pop=>o5 o v σ
  | .get=>rD o v σ
 | _=>.stuck
noncomputable def qd(x y:H)(σ:ac):ai H:=
 match x,y with
 | .int x,.int y=>.ok (.int (min x y)) σ
 | _,_=>.stuck
noncomputable def jX(m:ii)(o:H)(σ:ac):ai H:=
 match m with
 | .clear=>match o with
  | .ref r=>match σ[r]? with
   | some (.lst xs)=>if xs.length<=aB then .ok .none (σ.set r (.lst []))else .stuck
   | _=>.stuck
  | _=>.stuck
noncomputable def rg(c:Nat)(o:H)(n:Str)(σ:ac):ai H:=
 match o with
 | .inst c3 i=>if c3=c then(match σ[i]? with
  | some (.ns fs)=>ai.ofOpt (aG n fs) σ
  | _=>.stuck)else .stuck
 | _=>.stuck
noncomputable def uH(ks:List Str)(vals:List H)(key dflt:H)(σ:ac):ai H:=
 match key with
 | .str k=>.ok ((j4 k (ks.zip vals)).getD dflt) σ
 | _=>.stuck
noncomputable def jc(v:H)(σ:ac):ai Bool:=
 match v with
 | .bool b=>.ok b σ
 | _=>.stuck
noncomputable def h8(v:H)(σ:ac):ai (List H×Option (Nat×aS)):=
 match items σ v with
 | some xs=>.ok (xs,nI σ v) σ
 | none=>.stuck
noncomputable def nw(a:H)(σ:ac):ai (List H×Option (Nat×aS)):=
 match a with
 | .int n=>if 0<=n/\n<=aB then .ok (cF 0 1 n.toNat,none) σ else .stuck
 | _=>.stuck
noncomputable def jv:Nat->List H->List H
 | _,[]=>[]
 | i,x::r=>.tup [.int i,x]::jv (i+1) r
noncomputable def lX(a:H)(σ:ac):ai (List H×Option (Nat×aS)):=
 match cO σ a with
 | some xs=>if xs.length<=aB then .ok (jv 0 xs,nI σ a) σ else .stuck
 | none=>.stuck
noncomputable def mB:List H->List H->List H
 | x::r,y::q=>.tup [x,y]::mB r q
 | _,_=>[]
noncomputable def qO(a b:H)(σ:ac):ai (List H×Option (Nat×aS)):=
 match a,b with
 | .tup xs,.fl ys=>if xs.length=ys.length/\ys.length<=aB then .ok (mB xs ys,some (σ.length,.tp)) (σ++[.tp])else .stuck
 | _,_=>.stuck
noncomputable def wh(vs:List H)(σ:ac):ai (List H×Option (Nat×aS)):=
 match vs with
 | [a,b]=>qO a b σ
 | _=>.stuck
noncomputable def cy(b9:List (Option Nat))(ρ:aE):aE:=b9.map fun(o:Option Nat)=>match o with | some i=>(ρ[i]?).join | none=>none
noncomputable def Bt(ρ:aE)(i:Nat)(σ:ac):ai H:=
 match ρ[i]? with
 | some (some v)=>.ok v σ
 | _=>.stuck
structure hU where
 ev:aE->ac->ai H
 tst:aE->ac->ai Bool
 evs:aE->ac->ai (List H)
 evAnd:aE->ac->ai H
 evOr:aE->ac->ai H
 tstAnd:aE->ac->ai Bool
 tstOr:aE->ac->ai Bool
 evIt:aE->ac->ai (List H×Option (Nat×aS))
noncomputable def hU.two(e:aE->ac->ai H)(t:aE->ac->ai Bool):hU:=
 ⟨e,t,fun J J=>.stuck,fun J J=>.stuck,fun J J=>.stuck,fun J J=>.stuck,fun J J=>.stuck,fun ρ σ=>(e ρ σ).bind h8⟩
noncomputable def hU.val(e:aE->ac->ai H):hU:=hU.two e fun ρ σ=>(e ρ σ).bind jc
noncomputable def hU.nil:hU:=
 ⟨fun J J=>.stuck,fun J J=>.stuck,fun J σ=>.ok [] σ,fun J J=>.stuck,fun J J=>.stuck,fun J σ=>.ok true σ,fun J σ=>.ok false σ,fun J J=>.stuck⟩
noncomputable def hU.cons(a:hU)(last:Bool)(r:hU):hU:=
 ⟨fun J J=>.stuck,fun J J=>.stuck,fun ρ σ=>(a.ev ρ σ).bind fun v σ=>(r.evs ρ σ).bind fun vs σ=>.ok (v::vs) σ,
  fun ρ σ=>if last then a.ev ρ σ else(a.ev ρ σ).bind fun v σ=>(jc v σ).bind fun b σ=>if b then r.evAnd ρ σ else .ok v σ,
  fun ρ σ=>if last then a.ev ρ σ else(a.ev ρ σ).bind fun v σ=>(jc v σ).bind fun b σ=>if b then .ok v σ else r.evOr ρ σ,
  fun ρ σ=>(a.tst ρ σ).bind fun b σ=>if b then r.tstAnd ρ σ else .ok false σ,
  fun ρ σ=>(a.tst ρ σ).bind fun b σ=>if b then .ok true σ else r.tstOr ρ σ,
  fun J J=>.stuck⟩
noncomputable def hU.it(f:aE->ac->ai (List H×Option (Nat×aS))):hU:=
 ⟨fun J J=>.stuck,fun J J=>.stuck,fun J J=>.stuck,fun J J=>.stuck,fun J J=>.stuck,fun J J=>.stuck,fun J J=>.stuck,f⟩
noncomputable def X.isNil:X->Bool
 | .nil=>true
 | _=>false
noncomputable def nj(C:bh)(c f:Nat)(n:Str)(x:H)(args:ac->ai (List H))(σ:ac):ai H:=
 match x with
 | .inst c3 i=>if c3=c then(match σ[i]? with
  | some (.ns fs)=>(match aG n fs with
   | none=>(args σ).bind fun vs σ=>C.call f (.inst c3 i::vs) σ
   | some _=>.stuck)
  | _=>.stuck)else .stuck
 | _=>.stuck
noncomputable def ml(C:bh)(c f:Nat)(vs:List H)(σ:ac):ai H:=
 (C.call f (.inst c σ.length::vs) (σ++[.ns []])).bind fun v σ'=>match v with
  | .none=>.ok (.inst c σ.length) σ'
  | _=>.stuck
noncomputable def bW(C:bh):X->hU
 | .nil=>hU.nil
 | .cons a r=>hU.cons (bW C a) r.isNil (bW C r)
 | .k v=>.val fun J σ=>.ok v σ
 | .v i=>.val fun ρ σ=>Bt ρ i σ
 | .and xs=>.two (bW C xs).evAnd (bW C xs).tstAnd
 | .or xs=>.two (bW C xs).evOr (bW C xs).tstOr
 | .not a=>.two (fun ρ σ=>((bW C a).ev ρ σ).bind fun v σ=>(jc v σ).bind fun b σ=>.ok (.bool (!b)) σ) (fun ρ σ=>((bW C a).tst ρ σ).bind fun b σ=>.ok (!b) σ)
 | .neg a=>.val fun ρ σ=>((bW C a).ev ρ σ).bind Ab
 | .bin o a b=>.val fun ρ σ=>((bW C a).ev ρ σ).bind fun x σ=>((bW C b).ev ρ σ).bind fun y σ=>jO o x y σ
 | .cmp a o b=>.two (fun ρ σ=>((bW C a).ev ρ σ).bind fun x σ=>((bW C b).ev ρ σ).bind fun y σ=>(cQ o x y σ).bind fun r σ=>.ok (.bool r) σ)
   (fun ρ σ=>((bW C a).ev ρ σ).bind fun x σ=>((bW C b).ev ρ σ).bind fun y σ=>cQ o x y σ)
 | .cmp2 a o b bL c=>.two (fun ρ σ=>((bW C a).ev ρ σ).bind fun x σ=>((bW C b).ev ρ σ).bind fun y σ=>(cQ o x y σ).bind fun r σ =>
   if r then((bW C c).ev ρ σ).bind fun z σ=>(cQ bL y z σ).bind fun r σ=>.ok (.bool r) σ else .ok (.bool false) σ)
   (fun ρ σ=>((bW C a).ev ρ σ).bind fun x σ=>((bW C b).ev ρ σ).bind fun y σ=>(cQ o x y σ).bind fun r σ =>
   if r then((bW C c).ev ρ σ).bind fun z σ=>cQ bL y z σ else .ok false σ)
 | .ife c a b=>.two (fun ρ σ=>((bW C c).tst ρ σ).bind fun t σ=>if t then(bW C a).ev ρ σ else(bW C b).ev ρ σ)
   (fun ρ σ=>((bW C c).tst ρ σ).bind fun t σ=>if t then(bW C a).tst ρ σ else(bW C b).tst ρ σ)
 | .lst a6 xs=>.val fun ρ σ=>((bW C xs).evs ρ σ).bind fun vs σ=>er a6 vs σ
 | .tup xs=>.val fun ρ σ=>((bW C xs).evs ρ σ).bind fun vs σ=>if vs.length<=aB then .ok (.tup vs) σ else .stuck
 | .fdget ks vals key dflt=>.val fun ρ σ=>((bW C key).ev ρ σ).bind fun k σ=>((bW C dflt).ev ρ σ).bind fun d σ=>uH ks vals k d σ
 | .comp a6 t b9 elt cond it=>.val fun ρ σ=>bif C.hd then .stuck else((bW C it).evIt ρ σ).bind fun(xs,w) σ =>
   iS xs.length (dM w (fun x σ =>
    ((bW C cond).tst ((cy b9 ρ).set t (some x)) σ).bind fun b σ=>if b then((bW C elt).ev ((cy b9 ρ).set t (some x)) σ).bind fun v σ=>.ok (some v) σ else .ok none σ) xs σ) fun ys σ=>er a6 ys σ
 | .range1 a=>.it fun ρ σ=>((bW C a).ev ρ σ).bind nw
 | .enum a=>.it fun ρ σ=>((bW C a).ev ρ σ).bind lX
 | .zip xs=>.it fun ρ σ=>((bW C xs).evs ρ σ).bind wh
 | .dnew pk=>.val fun J σ=>.ok (.ref σ.length) (σ++[bif pk then .dp []else .ds []])
 | .attr c o n=>.val fun ρ σ=>((bW C o).ev ρ σ).bind fun x σ=>rg c x n σ
 | .meth c f n o args=>.val fun ρ σ=>((bW C o).ev ρ σ).bind fun x σ=>nj C c f n x (fun σ=>(bW C args).evs ρ σ) σ
 | .new c f args=>.val fun ρ σ=>((bW C args).evs ρ σ).bind fun vs σ=>ml C c f vs σ
 | .me0 m o=>.val fun ρ σ=>((bW C o).ev ρ σ).bind fun x σ=>jX m x σ
 | .rev o=>.val fun ρ σ=>((bW C o).ev ρ σ).bind fun x σ=>sL x σ
 | .call f args=>.val fun ρ σ=>((bW C args).evs ρ σ).bind fun vs σ=>C.call f vs σ
 | .b1 b a=>.val fun ρ σ=>((bW C a).ev ρ σ).bind fun v σ=>iP C.hd b v σ
 | .min2 a b=>.val fun ρ σ=>bif C.hd then .stuck else((bW C a).ev ρ σ).bind fun x σ=>((bW C b).ev ρ σ).bind fun y σ=>qd x y σ
 | .isinst a t=>.val fun ρ σ=>((bW C a).ev ρ σ).bind fun v σ=>(kH v t σ).bind fun b σ=>.ok (.bool b) σ
 | .isexc a eh tO=>.val fun ρ σ=>((bW C a).ev ρ σ).bind fun v σ=>(vh v eh tO σ).bind fun b σ=>.ok (.bool b) σ
 | .me m o args=>.val fun ρ σ=>((bW C o).ev ρ σ).bind fun r σ=>if o2 m r σ then((bW C args).evs ρ σ).bind fun vs σ=>iC m r vs σ else .stuck
 | .sub o i=>.val fun ρ σ=>((bW C o).ev ρ σ).bind fun x σ=>((bW C i).ev ρ σ).bind fun y σ=>fU x y σ
 | .slice o lo hi=>.val fun ρ σ=>((bW C o).ev ρ σ).bind fun x σ=>((bW C lo).ev ρ σ).bind fun a σ=>((bW C hi).ev ρ σ).bind fun b σ=>lJ x a b σ
noncomputable def ev(C:bh)(x:X)(ρ:aE)(σ:ac):ai H:=(bW C x).ev ρ σ
noncomputable def evs(C:bh)(x:X)(ρ:aE)(σ:ac):ai (List H):=(bW C x).evs ρ σ
noncomputable def evAnd(C:bh)(x:X)(ρ:aE)(σ:ac):ai H:=(bW C x).evAnd ρ σ
noncomputable def evOr(C:bh)(x:X)(ρ:aE)(σ:ac):ai H:=(bW C x).evOr ρ σ
noncomputable def tst(C:bh)(x:X)(ρ:aE)(σ:ac):ai Bool:=(bW C x).tst ρ σ
noncomputable def tstAnd(C:bh)(x:X)(ρ:aE)(σ:ac):ai Bool:=(bW C x).tstAnd ρ σ
noncomputable def tstOr(C:bh)(x:X)(ρ:aE)(σ:ac):ai Bool:=(bW C x).tstOr ρ σ
noncomputable def evIt(C:bh)(x:X)(ρ:aE)(σ:ac):ai (List H×Option (Nat×aS)):=(bW C x).evIt ρ σ
section
variable {C:bh}{ρ:aE}{σ:ac}
theorem MU{i:Nat}:ev C (.v i) ρ σ=Bt ρ i σ:=rfl
theorem MR{xs:X}:ev C (.or xs) ρ σ=evOr C xs ρ σ:=rfl
theorem ML{o:mH}{a b:X}:ev C (.bin o a b) ρ σ=(ev C a ρ σ).bind fun x σ=>(ev C b ρ σ).bind fun y σ=>jO o x y σ:=rfl
theorem MM{o:ig}{a b:X}:ev C (.cmp a o b) ρ σ=(ev C a ρ σ).bind fun x σ=>(ev C b ρ σ).bind fun y σ=>(cQ o x y σ).bind fun r σ=>.ok (.bool r) σ:=rfl
theorem MN{o bL:ig}{a b c:X}:ev C (.cmp2 a o b bL c) ρ σ=(ev C a ρ σ).bind fun x σ=>(ev C b ρ σ).bind fun y σ=>(cQ o x y σ).bind fun r σ =>
   if r then(ev C c ρ σ).bind fun z σ=>(cQ bL y z σ).bind fun r σ=>.ok (.bool r) σ else .ok (.bool false) σ:=rfl
theorem xp{c a b:X}:ev C (.ife c a b) ρ σ=(tst C c ρ σ).bind fun t σ=>if t then ev C a ρ σ else ev C b ρ σ:=rfl
theorem MQ{a6:Bool}{xs:X}:ev C (.lst a6 xs) ρ σ=(evs C xs ρ σ).bind fun vs σ=>er a6 vs σ:=rfl
theorem MT{xs:X}:ev C (.tup xs) ρ σ=(evs C xs ρ σ).bind fun vs σ=>if vs.length<=aB then .ok (.tup vs) σ else .stuck:=rfl
theorem MO{ks:List Str}{vals:List H}{key dflt:X}:ev C (.fdget ks vals key dflt) ρ σ=(ev C key ρ σ).bind fun k σ=>(ev C dflt ρ σ).bind fun d σ=>uH ks vals k d σ:=rfl
theorem ky{a6:Bool}{t:Nat}{b9:List (Option Nat)}{elt cond it:X}:ev C (.comp a6 t b9 elt cond it) ρ σ=bif C.hd then .stuck else(evIt C it ρ σ).bind fun(xs,w) σ =>
   iS xs.length (dM w (fun x σ =>
    (tst C cond ((cy b9 ρ).set t (some x)) σ).bind fun b σ=>if b then(ev C elt ((cy b9 ρ).set t (some x)) σ).bind fun v σ=>.ok (some v) σ else .ok none σ) xs σ) fun ys σ=>er a6 ys σ:=rfl
theorem tU{f:Nat}{args:X}:ev C (.call f args) ρ σ=(evs C args ρ σ).bind fun vs σ=>C.call f vs σ:=rfl
theorem CZ{b:fX}{a:X}:ev C (.b1 b a) ρ σ=(ev C a ρ σ).bind fun v σ=>iP C.hd b v σ:=rfl
theorem C3{a b:X}:ev C (.min2 a b) ρ σ=bif C.hd then .stuck else(ev C a ρ σ).bind fun x σ=>(ev C b ρ σ).bind fun y σ=>qd x y σ:=rfl
theorem MP{a:X}{t:jN}:ev C (.isinst a t) ρ σ=(ev C a ρ σ).bind fun v σ=>(kH v t σ).bind fun b σ=>.ok (.bool b) σ:=rfl
theorem C0{m:hW}{o args:X}:ev C (.me m o args) ρ σ=(ev C o ρ σ).bind fun r σ=>if o2 m r σ then(evs C args ρ σ).bind fun vs σ=>iC m r vs σ else .stuck:=rfl
theorem MS{o i:X}:ev C (.sub o i) ρ σ=(ev C o ρ σ).bind fun x σ=>(ev C i ρ σ).bind fun y σ=>fU x y σ:=rfl
theorem C6{o lo hi:X}:ev C (.slice o lo hi) ρ σ=(ev C o ρ σ).bind fun x σ=>(ev C lo ρ σ).bind fun a σ=>(ev C hi ρ σ).bind fun b σ=>lJ x a b σ:=rfl
theorem h5:evs C .nil ρ σ=.ok [] σ:=rfl
theorem lg{a r:X}:evs C (.cons a r) ρ σ=(ev C a ρ σ).bind fun v σ=>(evs C r ρ σ).bind fun vs σ=>.ok (v::vs) σ:=rfl
theorem xk:evAnd C .nil ρ σ=.stuck:=rfl
theorem xl{a:X}:evAnd C #v[a] ρ σ=ev C a ρ σ:=rfl
theorem rr{a b r:X}:evAnd C (.cons a (.cons b r)) ρ σ=(ev C a ρ σ).bind fun v σ=>(jc v σ).bind fun t σ=>if t then evAnd C (.cons b r) ρ σ else .ok v σ:=rfl
theorem xn:evOr C .nil ρ σ=.stuck:=rfl
theorem xo{a:X}:evOr C #v[a] ρ σ=ev C a ρ σ:=rfl
theorem tT{a b r:X}:evOr C (.cons a (.cons b r)) ρ σ=(ev C a ρ σ).bind fun v σ=>(jc v σ).bind fun t σ=>if t then .ok v σ else evOr C (.cons b r) ρ σ:=rfl
theorem We{a:X}:tst C (.not a) ρ σ=(tst C a ρ σ).bind fun b σ=>.ok (!b) σ:=rfl
theorem Wc{o:ig}{a b:X}:tst C (.cmp a o b) ρ σ=(ev C a ρ σ).bind fun x σ=>(ev C b ρ σ).bind fun y σ=>cQ o x y σ:=rfl
theorem JS{o bL:ig}{a b c:X}:tst C (.cmp2 a o b bL c) ρ σ=(ev C a ρ σ).bind fun x σ=>(ev C b ρ σ).bind fun y σ=>(cQ o x y σ).bind fun r σ =>
   if r then(ev C c ρ σ).bind fun z σ=>cQ bL y z σ else .ok false σ:=rfl
theorem Wb{f:Nat}{args:X}:tst C (.call f args) ρ σ=(ev C (.call f args) ρ σ).bind jc:=rfl
theorem Wa{b:fX}{a:X}:tst C (.b1 b a) ρ σ=(ev C (.b1 b a) ρ σ).bind jc:=rfl
theorem Wd{a:X}{t:jN}:tst C (.isinst a t) ρ σ=(ev C (.isinst a t) ρ σ).bind jc:=rfl
theorem JQ:tstAnd C .nil ρ σ=.ok true σ:=rfl
theorem qH{a r:X}:tstAnd C (.cons a r) ρ σ=(tst C a ρ σ).bind fun b σ=>if b then tstAnd C r ρ σ else .ok false σ:=rfl
theorem JR:tstOr C .nil ρ σ=.ok false σ:=rfl
theorem qI{a r:X}:tstOr C (.cons a r) ρ σ=(tst C a ρ σ).bind fun b σ=>if b then .ok true σ else tstOr C r ρ σ:=rfl
theorem xm{a:X}:evIt C (.range1 a) ρ σ=(ev C a ρ σ).bind nw:=rfl
theorem CX{a:X}:evIt C (.enum a) ρ σ=(ev C a ρ σ).bind lX:=rfl
theorem MK{xs:X}:evIt C (.zip xs) ρ σ=(evs C xs ρ σ).bind wh:=rfl
theorem CY{c:Nat}{o:X}{n:Str}:ev C (.attr c o n) ρ σ=(ev C o ρ σ).bind fun x σ=>rg c x n σ:=rfl
theorem C2{c f:Nat}{n:Str}{o args:X}:ev C (.meth c f n o args) ρ σ=(ev C o ρ σ).bind fun x σ=>nj C c f n x (fun σ=>evs C args ρ σ) σ:=rfl
theorem C4{c f:Nat}{args:X}:ev C (.new c f args) ρ σ=(evs C args ρ σ).bind fun vs σ=>ml C c f vs σ:=rfl
theorem C1{m:ii}{o:X}:ev C (.me0 m o) ρ σ=(ev C o ρ σ).bind fun x σ=>jX m x σ:=rfl
theorem C5{o:X}:ev C (.rev o) ρ σ=(ev C o ρ σ).bind fun x σ=>sL x σ:=rfl
end
inductive S where
 | nil | cons (a r:S)
 | asg (i:Nat) (x:X)
 | asgSub (o i x:X)
 | expr (x:X)
 | ret (x:X)
 | ret0
 | ife (c:X) (a b:S)
 | for1 (i:Nat) (it:X) (body:S)
 | brk
 | asgAttr (c:Nat) (o:X) (n:Str) (x:X)
 | asgT (is:List Nat) (x:X)
 | forT (is:List Nat) (it:X) (body:S)
 | raise (c:Nat)
 | tryE (body:S) (eh:List Nat) (i:Nat) (h:S)
inductive c8 where
 | next(ρ:aE) (σ:ac)
 | brk (ρ:aE) (σ:ac)
 | cont (ρ:aE) (σ:ac)
 | ret (v:H) (ρ:aE) (σ:ac)
 | exc (i:Nat) (ρ:aE) (σ:ac)
 | stuck
noncomputable def ai.toS{α:Type}(o:ai α)(ρ:aE)(f:α->ac->c8):c8:=
 match o with
 | .ok a σ=>f a σ
 | .exc i σ=>.exc i ρ σ
 | .stuck=>.stuck
noncomputable def qa(go:aE->ac->c8):c8->c8
 | .next ρ σ=>go ρ σ
 | .cont ρ σ=>go ρ σ
 | .brk ρ σ=>.next ρ σ
 | .ret v ρ σ=>.ret v ρ σ
 | _=>.stuck
noncomputable def Lg(f:aE->c8):Option aE->c8
 | none=>.stuck
 | some ρ=>f ρ
noncomputable def ct(w:Option (Nat×aS))(bind:H->aE->Option aE)(f:aE->ac->c8):List H->aE->ac->c8
 | [],ρ,σ=>if fK w σ then .next ρ σ else .stuck
 | x::xs,ρ,σ=>if fK w σ then Lg (fun ρ=>qa (ct w bind f xs) (f ρ σ)) (bind x ρ)else .stuck
noncomputable def qz(m:aS)(i v:H):Option aS:=
 match m with
 | .ds es=>match i with
  | .str k=>if es.length<aB then some (.ds (ee k v es))else none
  | _=>none
 | .dp es=>(g5 i).bind fun k=>if es.length<aB then some (.dp (ee k v es))else none
 | _=>none
noncomputable def hQ(o i v:H)(ρ:aE)(σ:ac):c8:=
 match o with
 | .ref r=>match(σ[r]?).bind fun m=>qz m i v with
  | some m=>.next ρ (σ.set r m)
  | none=>.stuck
 | _=>.stuck
noncomputable def sS(c:Nat)(o:H)(n:Str)(v:H)(ρ:aE)(σ:ac):c8:=
 match o with
 | .inst c3 i=>if c3=c then(match σ[i]? with
  | some (.ns fs)=>if fs.length<100 then .next ρ (σ.set i (.ns (ee n v fs)))else .stuck
  | _=>.stuck)else .stuck
 | _=>.stuck
noncomputable def qx:List Nat->List H->aE->Option aE
 | [],[],ρ=>some ρ
 | i::is,v::vs,ρ=>qx is vs (ρ.set i (some v))
 | _,_,_=>none
noncomputable def io(is:List Nat)(v:H)(ρ:aE):Option aE:=
 match v with
 | .tup xs=>if xs.length<=100 then qx is xs ρ else none
 | _=>none
noncomputable def dH(i:Nat)(v:H)(ρ:aE):Option aE:=some (ρ.set i (some v))
noncomputable def pG:c8->c8
 | .next ρ σ=>.next (ρ.map fun J=>none) σ
 | .ret v ρ σ=>.ret v (ρ.map fun J=>none) σ
 | _=>.stuck
noncomputable def ex(C:bh)(N:Nat):S->aE->ac->c8
 | .nil,ρ,σ=>.next ρ σ
 | .cons a r,ρ,σ=>match ex C N a ρ σ with
  | .next ρ σ=>ex C N r ρ σ
  | o=>o
 | .asg i x,ρ,σ=>(ev C x ρ σ).toS ρ fun v σ=>.next (ρ.set i (some v)) σ
 | .asgSub o i x,ρ,σ=>(ev C x ρ σ).toS ρ fun v σ=>(ev C o ρ σ).toS ρ fun o σ=>(ev C i ρ σ).toS ρ fun i σ=>hQ o i v ρ σ
 | .asgAttr c o n x,ρ,σ=>(ev C x ρ σ).toS ρ fun v σ=>(ev C o ρ σ).toS ρ fun o σ=>sS c o n v ρ σ
 | .asgT is x,ρ,σ=>bif C.hd then .stuck else(ev C x ρ σ).toS ρ fun v σ=>match io is v ρ with
  | some ρ=>.next ρ σ
  | none=>.stuck
 | .forT is it body,ρ,σ=>bif C.hd then .stuck else(evIt C it ρ σ).toS ρ fun(xs,w) σ=>ct w (io is) (fun ρ σ=>ex C N body ρ σ) xs ρ σ
 | .expr x,ρ,σ=>(ev C x ρ σ).toS ρ fun J σ=>.next ρ σ
 | .ret x,ρ,σ=>(ev C x ρ σ).toS ρ fun v σ=>.ret v ρ σ
 | .ret0,ρ,σ=>.ret .none ρ σ
 | .ife c a b,ρ,σ=>(tst C c ρ σ).toS ρ fun t σ=>if t then ex C N a ρ σ else ex C N b ρ σ
 | .for1 i it body,ρ,σ=>bif C.hd then .stuck else(evIt C it ρ σ).toS ρ fun(xs,w) σ=>ct w (dH i) (fun ρ σ=>ex C N body ρ σ) xs ρ σ
 | .brk,ρ,σ=>.brk ρ σ
 | .raise c,ρ,σ=>bif C.rz then .exc c ρ σ else .stuck
 | .tryE body eh i h,ρ,σ=>match ex C N body ρ σ with
  | .exc c ρ σ=>bif C.rz then(if eh.contains c/\i<ρ.length then pG (ex C.inH N h (ρ.set i (some (.exc c))) σ)else .stuck)else .stuck
  | o=>o
structure bJ where
 params:Nat
 slots:Nat
 body:S
structure gx where
 fns:List bJ
noncomputable def gU(P:gx)(N:Nat):Nat->Nat->Nat->List H->ac->ai H
 | _,0,_,_,_=>.stuck
 | m,d+1,f,vs,σ=>match P.fns[f]? with
  | some fn=>if vs.length=fn.params then
    match ex ⟨fun m=>gU P N m d,m⟩ N fn.body (vs.map some++List.replicate (fn.slots-fn.params) none) σ with
    | .next _ σ=>.ok .none σ
    | .ret v _ σ=>.ok v σ
    | .exc i _ σ=>.exc i σ
    | _=>.stuck
   else .stuck
  | none=>.stuck
noncomputable def bz(P:gx)(N:Nat):Nat->Nat->List H->ac->ai H:=gU P N 0
noncomputable def fu(P:gx)(N:Nat)(m:Nat)(d:Nat):bh:=⟨fun m=>gU P N m d,m⟩
theorem wO{dq:Type}[DecidableEq dq]{k b8:dq}{v:H}:∀{es:List (dq×H)},aG b8 (ee k v es)=if b8=k then some v else aG b8 es:=by
 intro es
 have cons:∀(e:dq×H) (es:List (dq×H)),aG b8 (e::es)=if e.1=b8 then some e.2 else aG b8 es:=fun e es=>by
  unfold aG;rw[jp];by_cases q:e.1=b8
  ·rw[ed q,az q];rfl
  ·rw[gR q,aY q]
 unfold ee;by_cases h:(es.any fun e=>decide (e.1=k))=true
 ·rw[az h]
  induction es with
  | nil=>contradiction
  | cons e es ag =>
   rw[dG,cons,cons];by_cases q:e.1=k
   ·rw[az q];by_cases q2:b8=k
    ·rw[az (q.trans q2.symm),az q2]
    ·rw[aY (fun z=>q2 (z.symm.trans q)),aY q2,aY (fun z=>q2 (z.symm.trans q))];by_cases O:(es.any fun e=>decide (e.1=k))=true
     ·rw[ag O,aY q2]
     ·congr 1;rw[List.map_congr_left (g:=id) fun e he=>?_,List.map_id];rw[aY];rfl;intro z;exact O (List.any_eq_true.mpr ⟨e,he,ed z⟩)
   ·rw[aY q];rw[List.any_cons,gR q,Bool.false_or]at h;rw[ag h];by_cases q2:b8=k
    ·rw[az q2,aY (fun z=>q (z.trans q2)),az q2]
    ·rw[aY q2,aY q2]
 ·rw[aY h]
  induction es with
  | nil =>
   show aG b8 [(k,v)]=_;rw[cons];by_cases q:b8=k
   ·rw[az q.symm,az q]
   ·rw[aY (fun z=>q z.symm),aY q]
  | cons e es ag =>
   rw[List.any_cons,Bool.or_eq_true,not_or]at h;have L:e.1≠k:=fun z=>h.1 (ed z);rw[List.cons_append,cons,cons,ag h.2];by_cases q2:b8=k
   ·rw[az q2,aY (fun z=>L (z.trans q2)),az q2]
   ·rw[aY q2,aY q2]
section
variable {α β γ δ ε ζ:Type}{a:Option α}{b:Option β}{c:Option γ}{d:Option δ}
noncomputable def bT(q:Bool)(o:Option α):Option α:=bif q then o else none
theorem cG{q:Bool}{x:α}{P:Prop}(h:bT q a=some x)(k:q=true->a=some x->P):P:=by
 cases q with
 | true=>exact k rfl h
 | false=>exact nomatch h
noncomputable def i6(a:Option α)(f:α->Option β)(y:Option β):Option β:=match a with
 | some x=>f x
 | none=>y
theorem j2{f:α->Option β}{y:Option β}{z:β}{P:Prop}(h:i6 a f y=some z)(k1:∀x,a=some x->f x=some z->P)(k2:a=none->y=some z->P):P:=by
 cases a with
 | none=>exact k2 rfl h
 | some x=>exact k1 x rfl h
theorem Cx{q:Bool}{o aK:Option α}{x:α}{P:Prop}(h:(bif q then o else aK)=some x)(k1:q=true->o=some x->P)(k2:aK=some x->P):P:=by
 cases q with
 | true=>exact k1 rfl h
 | false=>exact k2 h
theorem p7{q:Prop}[Decidable q]{x:α}{P:Prop}(h:(if q then a else none)=some x)(k:q->a=some x->P):P:=by
 by_cases hq:q
 ·exact k hq ((az hq).symm.trans h)
 ·exact nomatch (aY hq).symm.trans h
theorem cj{f:α->Option β}{z:β}{P:Prop}(h:a.bind f=some z)(k:∀x,a=some x->f x=some z->P):P:=by
 cases a with
 | none=>exact nomatch h
 | some x=>exact k x rfl h
theorem fc{f:α->β}{M:β->Prop}{z:β}(h:a.map f=some z)(k:∀x,a=some x->M (f x)):M z:=by
 cases a with
 | none=>exact nomatch h
 | some x=>obtain rfl:=oi h;exact k x rfl
noncomputable def bL(a:Option α)(b:Option β)(f:α->β->ζ):Option ζ:=a.bind fun x=>b.map (f x)
theorem fQ{f:α->β->ζ}{M:ζ->Prop}{z:ζ}(h:bL a b f=some z)(k:∀x y,a=some x->b=some y->M (f x y)):M z:=
 cj h fun x L h=>fc h fun y O=>k x y L O
noncomputable def jx(a:Option α)(b:Option β)(c:Option γ)(f:α->β->γ->ζ):Option ζ:=a.bind fun x=>bL b c (f x)
theorem j1{f:α->β->γ->ζ}{M:ζ->Prop}{z:ζ}(h:jx a b c f=some z)(k:∀x y w,a=some x->b=some y->c=some w->M (f x y w)):M z:=
 cj h fun x L h=>fQ h fun y w O ar=>k x y w L O ar
noncomputable def IG(a:Option α)(b:Option β)(c:Option γ)(d:Option δ)(f:α->β->γ->δ->ζ):Option ζ:=a.bind fun x=>jx b c d (f x)
theorem S3{f:α->β->γ->δ->ζ}{M:ζ->Prop}{z:ζ}(h:IG a b c d f=some z)(k:∀x y w u,a=some x->b=some y->c=some w->d=some u->M (f x y w u)):M z:=
 cj h fun x L h=>j1 h fun y w u O ar aU=>k x y w u L O ar aU
noncomputable def ql:List α->Option α
 | []=>none
 | x::r=>bT r.isEmpty (some x)
theorem sB{l:List α}{x:α}(h:ql l=some x):l=[x]:=by
 cases l with
 | nil=>exact nomatch h
 | cons y r =>
  refine cG h fun L O=>?_;rw[gQ.mp L,oi O]
end
noncomputable def dn(N names:List (Str×NameKind)):List (Str×NameKind):=names.map fun(n,k)=>if(k == .free&&N.lookup n == some .cell)then(n,.cell)else(n,k)
noncomputable def h2(N Kk:List (Str×NameKind)):List (Option Nat):=Kk.map fun(n,k)=>if k == .cell then N.findIdx? (·.1 == n)else none
structure ba where
 fns:List Str
 cst:List (Str×H)
 bins:List Str
 muts:List (Nat×Nat)
 excs:List (Str×Nat×List Nat)
 brd:Option (Str×Nat)
 meths:List Str
 repl:Bool
 dstr:List (Nat×Nat)
noncomputable def v2:Const->Option H
 | .none=>some .none
 | .bool b=>some (.bool b)
 | .int i=>some (.int i)
 | .str s=>bT (PyData.strOk s) (some (.str s))
 | _=>none
noncomputable def JN:Operator->Option mH
 | .Add=>some .add | .Sub=>some .sub | .Mult=>some .mul | .Mod=>some .mod | .FloorDiv=>some .fdiv | .Pow=>some .pow
 | _=>none
noncomputable def qF:CmpOp->Option ig
 | .Eq=>some .eq | .NotEq=>some .ne | .Lt=>some .lt | .LtE=>some .le | .Gt=>some .gt | .GtE=>some .ge
 | .Is=>some .is | .IsNot=>some .isNot | .In=>some .isin | .NotIn=>some .notin
theorem ng{α:Type}{x:Str}{v:α}:∀{l:List (Str×α)},l.lookup x=some v->(x,v)∈l:=by
 intro l
 induction l with
 | nil =>
  intro h;cases h
 | cons bt l ag =>
  obtain⟨y,u⟩:=bt;intro h;rw[List.lookup_cons]at h
  cases hb:x == y with
  | true=>rw[hb]at h;cases h;exact(eq_of_beq hb)▸(.head _)
  | false=>rw[hb]at h;exact .tail _ (ag h)
noncomputable def wY(a6:Bool):List (Str×fX):=[("len",.len),("list",.list a6),("tuple",.tuple),("all",.all),("int",.int),("str",.str)
 ,("sum",.sum)
 ,("min",.min),("max",.max)
 ,("sorted",.sorted)
 ]
noncomputable def tw(a6:Bool)(x:Str):Option fX:=(wY a6).lookup x
noncomputable def H4:List (Str×hW):=[("append",.append),("extend",.extend)
 ,("pop",.pop)
 ,("get",.get)
 ]
noncomputable def z1(x:Str):Option hW:=H4.lookup x
noncomputable def HY:List (Str×ii):=
 ("clear",.clear) ::
 []
noncomputable def zY(x:Str):Option ii:=HY.lookup x
noncomputable def JV:List (Str×jN):=[("int",.int),("str",.str),("bool",.bool),("tuple",.tuple)
 ,("list",.list)
 ]
noncomputable def Bm(x:Str):Option jN:=JV.lookup x
noncomputable def Cc:List (Str×Value):=[("len",.builtin "len"),("list",.type "list"),("tuple",.type "tuple"),("min",.builtin "min"),("all",.builtin "all"),("int",.type "int"),("str",.type "str"),("bool",.type "bool"),("ValueError",.type "ValueError"),("isinstance",.builtin "isinstance"),("range",.type "range"),("set",.type "set")
 ,("sum",.builtin "sum")
 ,("max",.builtin "max")
 ,("sorted",.builtin "sorted")
 ,("dict",.type "dict")
 ,("enumerate",.type "enumerate")
 ,("zip",.type "zip")
 ]
noncomputable def lc(x:Str):Option Value:=Cc.lookup x
noncomputable def lb:List Str:=["plan", "turns", "givers", "outer", "here", "gone", "order"]
noncomputable def pa:List (Str×NameKind)->Bool
 | []=>true
 | (x,k)::r=>!(r.any fun p=>p.1 == x)&&!(x == ("__debug__" : Str))&&(k == .local||k == .cell||k == .globalImplicit)&&pa r
noncomputable def zN:X->Bool
 | .range1 _=>true
 | .enum _=>true
 | .zip _=>true
 | _=>false
noncomputable def ff(f:Expr->Option X):List Expr->Option X
 | []=>some .nil
 | e::r=>bL (f e) (ff f r) .cons
noncomputable def Sl(T:ba)(x:Str)(i:Nat):NameKind->Option X
 | .local=>some (.v i)
 | .cell=>some (.v i)
 | .globalImplicit=>(T.cst.lookup x).map .k
 | _=>none
noncomputable def Bc(T:ba)(N:List (Str×NameKind))(x:Str):Option X:=
 (N.findIdx? (·.1 == x)).bind fun i=>(N[i]?).bind fun q=>Sl T x i q.2
noncomputable def fy(N:List (Str×NameKind))(x:Str):Bool:=N.lookup x == some .globalImplicit
noncomputable def mc(T:ba)(N:List (Str×NameKind))(x:Str):Bool:=fy N x&&T.bins.contains x
noncomputable def zT:Expr->Option Str
 | .Constant c _ _=>match c with
  | .str x=>bT (PyData.strOk x) (some x)
  | _=>none
 | _=>none
noncomputable def HR:Expr->Bool
 | .Constant c _ _=>match c with
  | .int i=>i == 1
  | _=>false
 | _=>false
noncomputable def HQ:Expr->Option H
 | .Constant c _ _=>v2 c
 | _=>none
noncomputable def tN:List (Option Expr)->Option (List Str)
 | []=>some []
 | k::r=>bL (k.bind zT) (tN r) fun s l=>s::l
noncomputable def zS:List Expr->Option (List H)
 | []=>some []
 | e::r=>bL (HQ e) (zS r) fun s l=>s::l
noncomputable def xa(n:Nat)(l:List Expr):Option (List H):=bT (l.length == n) (zS l)
noncomputable def kP(T:ba)(c:Nat):List Nat:=(T.excs.filter fun p=>p.2.1 == c||p.2.2.contains c).map (·.2.1)
noncomputable def ov(T:ba)(N:List (Str×NameKind))(x:Str):Option Nat:=bT (fy N x) ((T.excs.lookup x).map (·.1))
noncomputable def xu(T:ba)(N:List (Str×NameKind))(x:Str):Option (List Nat):=
 i6 (ov T N x) (fun c=>some (kP T c)) (bT (x == "ValueError" && mc T N x) (some (T.excs.map (·.2.1))))
noncomputable def Il:(e:Expr)->Option { q:Str×Pos // e=.Name q.1 q.2 }
 | .Name x p=>some ⟨(x,p),rfl⟩
 | _=>none
noncomputable def nb(e:Expr):Option (Str×Pos):=(Il e).map (·.1)
structure BA where
 f:Expr
 as:List Expr
 ks:List Keyword
 pos:Pos
noncomputable def tD:(e:Expr)->Option { q:BA // e=.Call q.f q.as q.ks q.pos }
 | .Call f as ks pos=>some ⟨⟨f,as,ks,pos⟩,rfl⟩
 | _=>none
structure wu where
 g:Str
 p:Pos
 a:Expr
 pos:Pos
noncomputable def rm(e:Expr):Option wu:=(tD e).bind fun c=>bT c.1.ks.isEmpty (bL (nb c.1.f) (ql c.1.as) fun n a=>⟨n.1,n.2,a,c.1.pos⟩)
structure wv where
 g:Str
 p:Pos
 as:List Expr
 pos:Pos
noncomputable def callN?(e:Expr):Option wv:=(tD e).bind fun c=>bT c.1.ks.isEmpty ((nb c.1.f).map fun n=>⟨n.1,n.2,c.1.as,c.1.pos⟩)
noncomputable def A6(T:ba)(N:List (Str×NameKind))(f:Expr->Option X)(g:Str)(k:Nat)(e:Expr):Option X:=
 (callN? e).bind fun q=>bT (q.g == g&&mc T N q.g&&q.as.length == k) (ff f q.as)
noncomputable def HL(T:ba)(N:List (Str×NameKind))(g:Str)(a:Expr):Option Expr:=
 (rm a).bind fun q=>bT (g == "len" && q.g == "set" && mc T N q.g) (some q.a)
noncomputable def Bg(T:ba)(N:List (Str×NameKind))(f:Expr->Option X)(e:Expr):Option X:=
 (rm e).bind fun q=>bT (q.g == "range" && mc T N q.g) ((f q.a).map .range1)
noncomputable def Bh(T:ba)(N:List (Str×NameKind))(f:Expr->Option X)(e:Expr):Option X:=
 Bg T N f e
noncomputable def Be(T:ba)(N:List (Str×NameKind))(f:Expr->Option X)(pos:Pos)(g:Str)(a:Expr):Option X:=
 i6 (HL T N g a) (fun x=>(f x).map (.b1 .lenset)) <|
 (bL (tw (!(T.muts.contains (pos.line,pos.col))) g) (f a) .b1)
noncomputable def Bk(T:ba)(N:List (Str×NameKind))(f:Expr->Option X)(g:Str)(a b:Expr):Option X:=
 bif g == "isinstance" then
  (nb b).bind fun q =>
  i6 (xu T N q.1) (fun eh=>(f a).map fun x=>.isexc x eh (T.excs.map (·.2.1)))
  (bT (mc T N q.1) (bL (f a) (Bm q.1) .isinst))
 else bT (g == "min") (bL (f a) (f b) .min2)
noncomputable def VA(T:ba)(N:List (Str×NameKind))(f:Expr->Option X)(pos:Pos)(g:Str):List Expr->Option X
 | []=>none
 | a::r=>match r with
  | []=>Be T N f pos g a
  | b::r=>bT r.isEmpty (Bk T N f g a b)
noncomputable def Bd(T:ba)(f:Expr->Option X)(g:Str)(args:List Expr):Option X:=
 T.brd.bind fun q=>bT (g == q.1&&!args.isEmpty) ((T.meths.findIdx? (· == ("__init__" : Str))).bind fun j=>(ff f args).map (.new q.2 (T.fns.length+j)))
noncomputable def A7(T:ba)(N:List (Str×NameKind))(f:Expr->Option X)(pos:Pos)(g:Str)(args:List Expr):Option X:=
 bT (fy N g) (i6 (T.fns.findIdx? (· == g)) (fun i=>bT (!args.isEmpty) ((ff f args).map (.call i))) (i6 (Bd T f g args) some (bT (T.bins.contains g) (VA T N f pos g args))))
noncomputable def JM(f:Expr->Option X)(e:Expr):Option X:=(f e).bind fun x=>bT (!zN x) (some x)
noncomputable def pi(T:ba)(N:List (Str×NameKind))(f:Expr->Option X)(e:Expr):Option X:=
 i6 (Bh T N f e) some (JM f e)
noncomputable def JL(T:ba)(N:List (Str×NameKind))(f:Expr->Option X)(e:Expr):Option X:=
 (rm e).bind fun q=>bT (q.g == "enumerate" && mc T N q.g) ((f q.a).map .enum)
noncomputable def Ba(f:Expr->Option X):List Expr->Option X
 | []=>some (.k (.bool true))
 | c::r=>bT r.isEmpty (f c)
noncomputable def v1(T:ba)(N:List (Str×NameKind))(f:List (Str×NameKind)->Expr->Option X)(elt:Expr)(x:Str)(iter:Expr)(ifs:List Expr)(scope:Scope)(pos:Pos):Option X:=
 bT (scope.kind == .function&&pa (dn N scope.names)&&scope.names.all (fun p=>p.2 != .cell))
  (((dn N scope.names).findIdx? (·.1 == x)).bind fun t=>bT ((dn N scope.names)[t]? == some (x,NameKind.local))
   (jx (pi T N (f N) iter) (f (dn N scope.names) elt) (Ba (f (dn N scope.names)) ifs) fun it elt c=>.comp (!(T.muts.contains (pos.line,pos.col))) t (h2 N (dn N scope.names)) elt c it))
noncomputable def s3(f:Expr->Option X):Option Expr->Option X
 | none=>some (.k .none)
 | some e=>f e
noncomputable def nq:Expr->Bool
 | .Call _ a _ _=>!a.isEmpty
 | _=>true
noncomputable def A8(f:Expr->Option X)(l:Expr)(os:List CmpOp)(ia:List Expr):Option X:=
 match os with
 | []=>none
 | o::os=>match ia with
  | []=>none
  | r::ia=>match os with
   | []=>bT ia.isEmpty (jx (qF o) (f l) (f r) fun o a b=>.cmp a o b)
   | bL::os=>match ia with
    | []=>none
    | r2::ia=>bT (os.isEmpty&&ia.isEmpty) ((qF o).bind fun o=>IG (f l) (f r) (qF bL) (f r2) fun a b bL c=>.cmp2 a o b bL c)
noncomputable def Cz:(e:Expr)->Option { q:List (Option Expr)×List Expr×Pos // e=.Dict q.1 q.2.1 q.2.2 }
 | .Dict ks vs p=>some ⟨(ks,vs,p),rfl⟩
 | _=>none
noncomputable def Hu(e:Expr):Option (List (Option Expr)×List Expr×Pos):=(Cz e).map (·.1)
noncomputable def A9(f:Expr->Option X)(ks:List (Option Expr))(vs:List Expr)(m:Str)(args:List Expr):Option X:=
 match args with
 | []=>none
 | k::r=>(ql r).bind fun d=>bT (m == "get") ((tN ks).bind fun l=>bT (decide l.Nodup&&decide (l.length<=15)&&!l.isEmpty) (jx (xa ks.length vs) (f k) (f d) fun vs k d=>.fdget l vs k d))
noncomputable def VO(f:Expr->Option X)(o:Expr)(m:Str):Option X:=bL (zY m) (f o) .me0
noncomputable def VP(f:Expr->Option X)(o:Expr)(m:Str)(a:Expr):Option X:=jx (z1 m) (f o) (f a) fun m o a=>.me m o #v[a]
noncomputable def VS(T:ba)(f:Expr->Option X)(o:Expr)(m:Str):List Expr->Option X
 | []=>VO f o m
 | a::r=>match r with
  | []=>VP f o m a
  | _::_=>none
noncomputable def VQ(T:ba)(f:Expr->Option X)(o:Expr)(m:Str)(args:List Expr):Option X:=
 T.brd.bind fun q=>(T.meths.findIdx? (· == m)).bind fun j=>bT (decide (args.length<20)) (bL (f o) (ff f args) fun o xs=>.meth q.2 (T.fns.length+j) m o xs)
noncomputable def VB(T:ba)(f:Expr->Option X)(o:Expr)(n:Str):Option X:=
 T.brd.bind fun q=>bT (nq o&&lb.contains n) ((f o).map fun o=>.attr q.2 o n)
noncomputable def Bb(T:ba)(f:Expr->Option X)(o:Expr)(m:Str)(args:List Expr):Option X:=
 i6 (Hu o) (fun q=>A9 f q.1 q.2.1 m args) (bT (nq o)
  (bif T.meths.contains m then VQ T f o m args else VS T f o m args))
noncomputable def VD(T:ba)(N:List (Str×NameKind))(f:Expr->Option X)(fn:Expr)(args:List Expr)(pos:Pos):Option X:=
 match fn with
 | .Name g _=>A7 T N f pos g args
 | .Attribute o m apos=>bT (apos.endLine == pos.line) (Bb T f o m args)
 | _=>none
noncomputable def SH:Expr->Option Expr
 | .UnaryOp o a _=>match o with
  | .USub=>some a
  | _=>none
 | _=>none
noncomputable def Hv(e:Expr):Bool:=((SH e).bind fun a=>bT (HR a) (some a)).isSome
noncomputable def V1(f:Expr->Option X)(o:Expr)(lo hi:Option Expr):Option Expr->Option X
 | none=>jx (f o) (s3 f lo) (s3 f hi) .slice
 | some st=>bT (lo.isNone&&hi.isNone&&Hv st) ((f o).map .rev)
noncomputable def Jd:(e:Expr)->Option { q:Option Expr×Option Expr×Option Expr×Pos // e=.Slice q.1 q.2.1 q.2.2.1 q.2.2.2 }
 | .Slice lo hi st p=>some ⟨(lo,hi,st,p),rfl⟩
 | _=>none
noncomputable def B8(e:Expr):Option (Option Expr×Option Expr×Option Expr×Pos):=(Jd e).map (·.1)
noncomputable def Bi(f:Expr->Option X)(o i:Expr):Option X:=
 i6 (B8 i) (fun q=>V1 f o q.1 q.2.1 q.2.2.1) (bL (f o) (f i) .sub)
noncomputable def s2(T:ba)(N:List (Str×NameKind))(f:List (Str×NameKind)->Expr->Option X)(elt:Expr)(gens:List Comprehension)(scope:Scope)(pos:Pos):Option X:=
 (ql gens).bind fun g=>bT (g.is_async == 0) ((nb g.target).bind fun q=>v1 T N f elt q.1 g.iter g.ifs scope pos)
noncomputable def JP(T:ba)(f:List (Str×NameKind)->Expr->Option X)(N:List (Str×NameKind))(e:Expr):Option X:=
  match e with
  | .Constant c _ _=>(v2 c).map .k
  | .Name x _=>Bc T N x
  | .BoolOp o es _=>match o with
   | .And=>(ff (f N) es).map .and
   | .Or=>(ff (f N) es).map .or
  | .UnaryOp o a _=>match o with
   | .Not=>(f N a).map .not
   | .USub=>(f N a).map .neg
   | _=>none
  | .BinOp l o r _=>jx (JN o) (f N l) (f N r) .bin
  | .Compare l os ia _=>A8 (f N) l os ia
  | .IfExp c a b _=>jx (f N c) (f N a) (f N b) .ife
  | .List es pos=>(ff (f N) es).map (.lst (!(T.muts.contains (pos.line,pos.col))))
  | .Tuple es _ _=>(ff (f N) es).map .tup
  | .Call fn args HE pos=>bT HE.isEmpty (VD T N (f N) fn args pos)
  | .Attribute o n _=>VB T (f N) o n
  | .Subscript o i _=>Bi (f N) o i
  | .Dict ks vs pos=>bT (ks.isEmpty&&vs.isEmpty) (some (.dnew (!(T.dstr.contains (pos.line,pos.col)))))
  | .ListComp elt gens scope pos=>s2 T N f elt gens scope pos
  | _=>none
noncomputable def qG(T:ba):Nat->List (Str×NameKind)->Expr->Option X
 | 0,_,_=>none
 | n+1,N,e=>JP T (qG T n) N e
noncomputable def mf:Expr->Bool
 | .ListComp .. | .SetComp .. | .DictComp ..=>true
 | _=>false
noncomputable def AR:NameKind->Bool
 | .local=>true
 | .cell=>true
 | _=>false
noncomputable def mw(N:List (Str×NameKind))(x:Str):Option Nat:=
 (N.findIdx? (·.1 == x)).bind fun i=>(N[i]?).bind fun q=>bT (AR q.2) (some i)
noncomputable def kQ(g:Stmt->Option S):List Stmt->Option S
 | []=>some .nil
 | st::r=>bL (g st) (kQ g r) .cons
noncomputable def Cv:(e:Expr)->Option { q:Expr×List Comprehension×Scope×Pos // e=.ListComp q.1 q.2.1 q.2.2.1 q.2.2.2 }
 | .ListComp elt gens scope pos=>some ⟨(elt,gens,scope,pos),rfl⟩
 | _=>none
noncomputable def B7(e:Expr):Option (Expr×List Comprehension×Scope×Pos):=(Cv e).map (·.1)
noncomputable def nA(N:List (Str×NameKind)):List Expr->Option (List Nat)
 | []=>some []
 | e::r=>bL ((nb e).bind fun q=>mw N q.1) (nA N r) fun i l=>i::l
noncomputable def IU:Expr->Bool
 | .Name _ _=>true
 | .Call _ _ _ _=>true
 | .Subscript _ _ _=>true
 | _=>false
noncomputable def JI(T:ba)(N:List (Str×NameKind))(yG:List (Str×NameKind)->Expr->Option X)(f:Expr->Option X)(t v:Expr):Option S:=
 match t with
 | .Name z _=>i6 (B7 v) (fun q=>bL (mw N z) (s2 T N yG q.1 q.2.1 q.2.2.1 q.2.2.2) .asg) (bT (!mf v) (bL (mw N z) (f v) .asg))
 | .Subscript o i _=>bT (!mf v) (jx (f o) (f i) (f v) .asgSub)
 | .Attribute o n _=>T.brd.bind fun q=>bT (!mf v&&lb.contains n) (bL (f o) (f v) fun o v=>.asgAttr q.2 o n v)
 | .Tuple ci _ _=>bT (IU v) (bL (nA N ci) (f v) .asgT)
 | _=>none
noncomputable def Bf(T:ba)(N:List (Str×NameKind))(e:Option Expr):Option S:=
 (e.bind rm).bind fun q=>(zT q.a).bind fun J=>(ov T N q.g).map .raise
noncomputable def VL(T:ba)(N:List (Str×NameKind))(g:Stmt->Option S)(b:List Stmt):ExceptHandler->Option S
 | .ExceptHandler t y hb _=>(t.bind nb).bind fun q=>y.bind fun y=>(ov T N q.1).bind fun c=>(mw N y).bind fun i=>bT (N[i]? == some (y,NameKind.local)&&!hb.isEmpty)
   (bL (kQ g b) (kQ g hb) fun b h=>.tryE b (kP T c) i h)
noncomputable def Bj(T:ba)(N:List (Str×NameKind))(g:Stmt->Option S)(b:List Stmt)(hs:List ExceptHandler):Option S:=(ql hs).bind (VL T N g b)
noncomputable def KW:Expr->Option (List Expr)
 | .Tuple ci _ _=>some ci
 | _=>none
noncomputable def V6(T:ba)(N:List (Str×NameKind))(f:Expr->Option X)(e:Expr):Option X:=(A6 T N f "zip" 2 e).map .zip
noncomputable def v3(T:ba)(N:List (Str×NameKind))(f:Expr->Option X)(e:Expr):Option X:=
 i6 (JL T N f e) some <|
 i6 (V6 T N f e) some <|
 (pi T N f e)
noncomputable def JO(T:ba)(N:List (Str×NameKind))(yG:List (Str×NameKind)->Expr->Option X)(f:Expr->Option X)(g:Stmt->Option S)(st:Stmt):Option S:=
 match st with
 | .Assign ci v _=>(ql ci).bind fun t=>JI T N yG f t v
 | .Expr e _=>bT (!mf e) ((f e).map .expr)
 | .Return v _=>match v with
  | some e=>(f e).map .ret
  | none=>some .ret0
 | .If t b o _=>jx (f t) (kQ g b) (kQ g o) .ife
 | .For t it b o _=>bT o.isEmpty (i6 (nb t) (fun q=>jx (mw N q.1) (pi T N f it) (kQ g b) .for1) ((KW t).bind fun ci=>jx (nA N ci) (v3 T N f it) (kQ g b) .forT))
 | .Break _=>some .brk
 | .Raise e c _=>bT c.isNone (Bf T N e)
 | .Try b hs o FN _=>bT (o.isEmpty&&FN.isEmpty) (Bj T N g b hs)
 | _=>none
noncomputable def s4(T:ba)(N:List (Str×NameKind))(f:List (Str×NameKind)->Expr->Option X):Nat->Stmt->Option S
 | 0,_=>none
 | n+1,st=>JO T N f (f N) (s4 T N f n) st
theorem AK{M:Model}{Γ:PySem.Ctx}{p:Pos}{t:Sem Fin}{fs:List Frame}{s:Shared}{e:End}{s':Shared}(h:PySem.Runs M Γ p t fs s e s'):s.toks<=s'.toks:=by
 induction h <;> first | exact c9 _ | assumption | (try simp only[Shared.setGen]at *) <;> first | assumption | omega
theorem Wy{M:Model}{Γ:PySem.Ctx}{p:Pos}{g:Nat}{r:Resume}{s:Shared}{res:GenResult}{s':Shared}(h:PySem.Wakes M Γ p g r s res s'):s.toks<=s'.toks:=by
 unfold PySem.Wakes at h
 split at h
 ·exact h.elim
 ·split at h
  ·refine xh h fun e s₁ L J J ae=>?_;obtain rfl:=ae;have:=AK L;exact this
  ·rw[h.2];exact c9 _
  ·rw[h.2];exact c9 _
 ·refine xh h fun e s₁ L J J ae=>?_;obtain rfl:=ae;have:=AK L;exact this
 ·rw[h.2];exact c9 _
 ·rw[h.2];exact c9 _
theorem wd{γ:Type}{M:Model}{Γ:PySem.Ctx}{n:Nat}(t:Sem γ):∀{Q:γ->Pos->Shared->Prop} {E:Value->Pos->Shared->Prop} {p:Pos} {s:Shared},n<=s.toks->Sem.wp M Γ t Q E p s ->
  Sem.wp M Γ t (fun a p s=>Q a p s/\n<=s.toks) (fun e p s=>E e p s/\n<=s.toks) p s:=by
 induction t with
 | pure a=>intro Q E p s hn h;exact⟨h,hn⟩
 | raise e=>intro Q E p s hn h;exact⟨h,hn⟩
 | rule Yc k ag=>intro Q E p s hn h;exact ag () hn h
 | «at» qo k ag=>intro Q E p s hn h;exact ag () hn h
 | load a Tm k ag=>intro Q E p s hn h;refine aw h fun o L O=>?_;exact⟨o,L,ag o hn O⟩
 | update a Tm f k ag=>intro Q E p s hn h;exact⟨h.1,ag () (s:={ s with heap:=s.heap.update a f }) hn h.2⟩
 | alloc o k ag=>intro Q E p s hn h;exact ag _ (s:={ s with heap:=s.heap.push o }) hn h
 | loadIfAlive a k ag=>intro Q E p s hn h;exact ag _ hn h
 | point l k ag=>intro Q E p s hn h;exact ag () hn h
 | fresh k ag=>intro Q E p s hn h;exact ag _ (s:={ s with toks:=s.toks+1 }) (Nat.le_succ_of_le hn) h
 | ask k ag=>intro Q E p s hn h;exact ag _ hn h
 | choose UP m k ag=>intro Q E p s hn h;exact⟨h.1,ag _ (s:={ s with drawn:=s.drawn.bump UP }) hn h.2⟩
 | os q l k ag=>intro Q E p s hn h;exact ag _ (s:={ s with os:=(Os.step s.os q).1 }) hn h
 | call c hd g l k ag =>
  intro Q E p s hn h;refine cD h fun r s' L O=>?_;exact⟨r,s',L,ag r (aF hn (AK L)) O⟩
 | handled bV k ag=>intro Q E p s hn h;exact ag _ hn h
 | newGen c k ag=>intro Q E p s hn h;exact ag _ (s:={ s with gens:=s.gens.push (.fresh c) }) hn h
 | genState g k ag=>intro Q E p s hn h;refine aw h fun st L O=>?_;exact⟨st,L,ag _ hn O⟩
 | resume g r l k ag=>intro Q E p s hn h;refine cD h fun res s' L O=>?_;exact⟨res,s',L,ag res (aF hn (Wy L)) O⟩
 | stack k ag=>intro Q E p s hn h;exact ag _ hn h
 | thread k ag=>intro Q E p s hn h;exact ag _ hn h
 | _=>intro Q E p s hn h;exact h.elim
theorem jb{γ:Type}{M:Model}{A:Around}{t:Sem γ}{Q:γ->Shared->Prop}{E:Value->Shared->Prop}{s:Shared}(h:wpAny M A t Q E s) :
  wpAny M A t (fun v s'=>Q v s'/\s.toks<=s'.toks) (fun e s'=>E e s'/\s.toks<=s'.toks) s:=
 fun Γ p zy=>wd t (c9 _) (h Γ p zy)
noncomputable def Qs:Str ⊕ Int->Value->Bool
 | .inl x,v=>Value.isStrOf x v
 | .inr i,v=>Value.isInt i v
noncomputable def Oq(w:World):Str ⊕ Int->Int
 | .inl x=>hashStr w x
 | .inr i=>hashInt i
noncomputable def qe(prog:Program)(w:World):KeyKind prog w (Str ⊕ Int) where
 is:=Qs
 hash:=Oq w
 inj:=fun v a b ha hb=>by
  cases a with
  | inl x =>
   refine aJ (Value.isStrOf_shape (show Value.isStrOf x v=true from ha)) fun t ae=>?_;obtain rfl:=ae
   cases b with
   | inl y=>exact congrArg Sum.inl (Value.isStrOf_inj (.str x t) x y ha hb)
   | inr j=>cases hb
  | inr i =>
   refine aJ (Value.isInt_shape (show Value.isInt i v=true from ha)) fun t ae=>?_;obtain rfl:=ae
   cases b with
   | inl y=>cases hb
   | inr j=>exact congrArg Sum.inr (Value.isInt_inj (.int i t) i j ha hb)
 byValue:=fun k v h=>by
  cases k with
  | inl x=>refine aJ (Value.isStrOf_shape (show Value.isStrOf x v=true from h)) fun t ae=>?_;obtain rfl:=ae;rfl
  | inr i=>refine aJ (Value.isInt_shape (show Value.isInt i v=true from h)) fun t ae=>?_;obtain rfl:=ae;rfl
 pyHash:=fun{A E s k v Q} hv h=>by
  cases k with
  | inl x=>refine aJ (Value.isStrOf_shape (show Value.isStrOf x v=true from hv)) fun t ae=>?_;obtain rfl:=ae;exact wpAny_pyHash_str h
  | inr i=>refine aJ (Value.isInt_shape (show Value.isInt i v=true from hv)) fun t ae=>?_;obtain rfl:=ae;exact wpAny_pyHash_int h
 eqBool:=fun{A E s a b u v Q} hu hv h=>by
  cases a with
  | inl x =>
   refine aJ (Value.isStrOf_shape (show Value.isStrOf x u=true from hu)) fun t ae=>?_;obtain rfl:=ae
   cases b with
   | inl y =>
    refine aJ (Value.isStrOf_shape (show Value.isStrOf y v=true from hv)) fun bX ae=>?_;obtain rfl:=ae;refine wpAny_eqBool_str ?_
    have e:decide (Sum.inl (β:=Int) x=Sum.inl y)=decide (x=y):=by simp
    rw[<- e];exact h
   | inr j =>
    refine aJ (Value.isInt_shape (show Value.isInt j v=true from hv)) fun bX ae=>?_;obtain rfl:=ae;exact SeqAt.EqAt.str_int x t j bX prog w E Q (by simpa using h)
  | inr i =>
   refine aJ (Value.isInt_shape (show Value.isInt i u=true from hu)) fun t ae=>?_;obtain rfl:=ae
   cases b with
   | inl y =>
    refine aJ (Value.isStrOf_shape (show Value.isStrOf y v=true from hv)) fun bX ae=>?_;obtain rfl:=ae;exact SeqAt.EqAt.int_str i t y bX prog w E Q (by simpa using h)
   | inr j =>
    refine aJ (Value.isInt_shape (show Value.isInt j v=true from hv)) fun bX ae=>?_;obtain rfl:=ae;refine wpAny_eqBool_int ?_
    have e:decide (Sum.inr (α:=Str) i=Sum.inr j)=(i == j):=by
     by_cases q:i=j <;> simp[q]
    rw[<- e];exact h
 «strs»:=fun k x t v h=>by
  cases k with
  | inl y=>exact(strKind prog w).«strs» y x t v h
  | inr i=>cases h
structure fY where
 h:Heap
 fr:List Addr
 prog:Program
 w:World
noncomputable abbrev fY.get?(b:fY)(a:Addr):Option Obj:=b.h.get? a
structure aQ where
 hb:fY
 mg:Str->Option Value
 mb:Str->Option Value
 pos:Bool
 ph:Bool
noncomputable abbrev aQ.prog(K:aQ):Program:=K.hb.prog
noncomputable abbrev aQ.w(K:aQ):World:=K.hb.w
noncomputable def aQ.Tk(K:aQ)(s:Shared):Prop:=K.pos=true->0<s.toks
theorem aQ.Tk.up{K:aQ}{s s':Shared}(tk:K.Tk s)(iJ:s.toks<=s'.toks):K.Tk s':=fun q=>gP (tk q) iJ
theorem nK{γ:Type}{K:aQ}{M:Model}{A:Around}{t:Sem γ}{Q:γ->Shared->Prop}{E:Value->Shared->Prop}{s:Shared}(tk:K.Tk s)
  (h:wpAny M A t (fun v s'=>K.Tk s'->Q v s') (fun e s'=>K.Tk s'->E e s') s):wpAny M A t Q E s:=
 cm (jb h) (fun J J q=>q.1 (tk.up q.2)) fun J J q=>q.1 (tk.up q.2)
structure aQ.Ok(K:aQ):Prop where
 g:K.hb.h.Ns mainGlobals K.mg
 b:K.hb.h.Ns builtinsNs K.mb
 nolimit:K.hb.h.NoLimit
 mods:∃o,K.hb.get? sysModules=some o
noncomputable def d1(B:fY)(h:Heap)(α:au):aS->Addr->Prop
 | .lst xs,a=>∃items n,h.get? a=some { cls:=.type "list",data:=.seq (List.toArray items) n }/\a7 h α xs items
 | .ds es,a=>∃eL,h.DictOf (strKind B.prog B.w) a eL/\eL.map (·.1)=es.map (·.1)/\a7 h α (es.map (·.2)) (eL.map (·.2))
 | .dp es,a=>∃xs,h.DictOfH (tupleKind (qe B.prog B.w)) a xs/\xs.map (·.1)=es.map (fun e=>[.inl e.1.1,.inr e.1.2])/\(∀x∈xs,x.2.1∉α.all)/\a7 h α (es.map (·.2)) (xs.map (·.2.2))
 | .ns fs,a=>∃m,h.Ns1 a m/\(∀n v,aG n fs=some v->∃u,m n=some u/\af h α v u)/\(∀n,aG n fs=none->m n=none)
 | .tp,a=>∃x y,h.get? a=some { cls:=.type "tuple",data:=.seq #[x,y] }
 | .no,_=>False
theorem d1.live{B:fY}{h:Heap}{α:au}{m:aS}{a:Addr}(o:d1 B h α m a):∃o,h.get? a=some o:=by
 cases m with
 | lst xs=>refine cD o fun items n e J=>?_;exact⟨_,e⟩
 | ds es=>obtain⟨eL,⟨o,_,_,e,_⟩,_⟩:=o;exact⟨o,e⟩
 | dp es=>obtain⟨eL,⟨o,_,_,e,_⟩,_⟩:=o;exact⟨o,e⟩
 | ns fs=>obtain⟨m,⟨o,_,_,e,_⟩,_⟩:=o;exact⟨o,e⟩
 | tp=>refine hL o fun x y e=>?_;exact⟨_,e⟩
 | no=>exact o.elim
theorem d1.map{B:fY}{h h':Heap}{α α':au}{m:aS}{a:Addr}(v:∀p u,af h α p u->af h' α' p u)(k:h'.get? a=h.get? a)
  (kk:∀b o,b∉α.all->h.get? b=some o->kj o->h'.get? b=some o/\b∉α'.all) (o:d1 B h α m a):d1 B h' α' m a:=by
 have vs:∀{p:List H} {u:List Value},a7 h α p u->a7 h' α' p u:=fun r=>⟨r.1,fun i x y V aj=>v _ _ (r.2 i x y V aj)⟩
 cases m with
 | lst xs=>refine cD o fun items n e w=>?_;exact⟨items,n,k.trans e,vs w⟩
 | ds es =>
  obtain⟨eL,⟨o,es',d5,e,r⟩,q,w⟩:=o;exact⟨eL,⟨o,es',d5,k.trans e,r⟩,q,vs w⟩
 | dp es =>
  obtain⟨xs,⟨o,es',d5,e,aN,r2,fH,o8,vM⟩,q,hn,w⟩:=o
  have key:∀x∈xs,IsTupleKey (qe B.prog B.w) h' x.1 x.2.1/\x.2.1∉α'.all:=fun x hx=>by
   refine tS (o8 x hx) fun o items n V aj bF kt=>?_;refine aP (kk _ o (hn x hx) V (.inl ⟨_,_,bF⟩)) fun ei e3=>?_;exact⟨⟨o,items,n,ei,aj,bF,kt⟩,e3⟩
  exact⟨xs,⟨o,es',d5,k.trans e,aN,r2,fH,fun x hx=>(key x hx).1,vM⟩,q,fun x hx=>(key x hx).2,vs w⟩
 | ns fs =>
  obtain⟨m,⟨o,es',d5,e,r⟩,q1,q2⟩:=o;exact⟨m,⟨o,es',d5,k.trans e,r⟩,fun n b2 hn=>let⟨u,ei,e3⟩:=q1 n b2 hn;⟨u,ei,v _ _ e3⟩,q2⟩
 | tp=>refine hL o fun x y e=>?_;exact⟨x,y,k.trans e⟩
 | no=>exact o.elim
theorem d1.ext{F α h α' h'}{B:fY}{m:aS}{a:Addr}(x:aW F α h α' h')(k:h'.get? a=h.get? a)(o:d1 B h α m a):d1 B h' α' m a:=
 o.map (fun J J r=>r.ext x) k fun b o hb e hs=>⟨x.seqs b o (au.not_ix hb) e hs,x.notAll hb e⟩
structure ak(hb:fY)(h:Heap)(σ:ac)(α:au):Prop where
 base:∀b o,hb.get? b=some o->h.get? b=some o
 fresh:∀a∈α.ix,hb.get? a=none
 nodup:α.ix.Nodup
 len:σ.length=α.ix.length
 hidden:∀a∈α.hid,a∉α.ix/\∃o,h.get? a=some o
 obj:∀(i:Nat) (m:aS) (a:Addr),σ[i]?=some m->α.ix[i]?=some a->d1 hb h α m a
 hfr:∀a∈α.hid,hb.get? a=none
 fe:α.fr=hb.fr
 frs:∀a∈hb.fr,hb.get? a=none/\∃o,h.get? a=some o/\gF o
 frNot:∀a∈hb.fr,a∉α.ix
structure cJ(s s':Shared):Prop where
 gens:s'.gens=s.gens
 os:s'.os=s.os
theorem cJ.refl(s:Shared):cJ s s:=⟨rfl,rfl⟩
theorem cJ.trans{a b c:Shared}(x:cJ a b)(y:cJ b c):cJ a c:=⟨y.gens.trans x.gens,y.os.trans x.os⟩
noncomputable def hC(fr:List Addr)(h h':Heap):Prop:=∀b o,h.get? b=some o->h'.get? b=some o\/(b∈fr/\∃cq,h'.get? b=some { o with slots:=cq })
theorem hC.keeps{fr:List Addr}{h h':Heap}(k:∀b o,h.get? b=some o->h'.get? b=some o):hC fr h h':=fun b o e=>.inl (k b o e)
theorem hC.trans{fr:List Addr}{h h' hM:Heap}(x:hC fr h h')(y:hC fr h' hM):hC fr h hM:=fun b o e=>by
 rcases x b o e with x | ⟨m,cq,x⟩
 ·exact y b o x
 ·rcases y b _ x with y | ⟨_,pc,y⟩
  ·exact .inr ⟨m,cq,y⟩
  ·exact .inr ⟨m,pc,y⟩
inductive wA(h₀ h:Heap)(a:Addr)(kK:Bool)(x:Value):Prop
 | inl (hn:kK=false) (e:x=.none):wA h₀ h a kK x
 | inr (T:Addr) (nr:Obj) (ci:Array Value) (e:x=.ref T) (h0:h₀.get? T=none) (hn:T≠a) (a1:h.get? T=some nr) (hc:nr.cls=.type "traceback") (hd:nr.data=.fields ci) (ar:3<ci.size):wA h₀ h a kK x
inductive kc(ph:Bool)(h₀ h:Heap)(c:Nat)(a:Addr)(kK:Bool):Prop
 | mk (new:h₀.get? a=none) (gr:Obj) (vs:Array Value) (x:Value) (he:h.get? a=some gr) (hc:gr.cls=.ref c) (hd:gr.data=.fields vs) (L:vs[1]?=some x) (Yd:wA h₀ h a kK x) (lf:∃y,vs[2]?=some y/\(ph=false->y=.none)):kc ph h₀ h c a kK
theorem kc.new{ph:Bool}{h₀ h:Heap}{c:Nat}{a:Addr}{kK:Bool}(x:kc ph h₀ h c a kK):h₀.get? a=none:=by cases x;assumption
inductive gK(K:aQ)(s:Shared)(α:au)(i:Nat)(σ:ac)(kK:Bool)(e:Value)(s':Shared):Prop where
 | mk (a:Addr) (h₀:Heap) (α':au) (he:e=.ref a) (x:aW [] α s.heap α' h₀) (r:ak K.hb h₀ σ α') (u:hC K.hb.fr h₀ s'.heap) (bB:kc K.ph h₀ s'.heap i a kK) (m:cJ s s'):gK K s α i σ kK e s'
section
variable (K:aQ){β γ:Type}(dA:Heap->au->β->γ->Prop)
inductive cf(c:ai β)(s:Shared)(α:au)(y:γ)(s':Shared):Prop where
 | mk (b:β) (σ':ac) (α':au) (h:c=.ok b σ') (x:aW [] α s.heap α' s'.heap) (r:ak K.hb s'.heap σ' α') (v:dA s'.heap α' b y) (m:cJ s s'):cf c s α y s'
inductive cW(wL:Around)(c:ai β)(s:Shared)(α:au)(e:Value)(s':Shared):Prop where
 | mk (i:Nat) (σ':ac) (h:c=.exc i σ') (eJ:∃dP,gK K s α i σ' dP e s'):cW wL c s α e s'
noncomputable def Runs(A:Around)(t:Sem γ)(c:ai β)(s:Shared)(α:au):Prop:=
 c≠.stuck->K.Tk s->wpAny (model K.prog K.w) A t (cf K dA c s α) (cW K A c s α) s
end
noncomputable def hX{β:Type}(Kt:Heap)(Ku:au)(b y:β):Prop:=y=b
theorem gK.lift{K:aQ}{s s₁:Shared}{α α₁:au}{i:Nat}{σ:ac}{dP:Bool}{e:Value}{s':Shared}(x:aW [] α s.heap α₁ s₁.heap)(m:cJ s s₁)(f:gK K s₁ α₁ i σ dP e s'):gK K s α i σ dP e s':=by
 obtain⟨a,h₀,α',e,aH,r,u,bB,bH⟩:=f;exact⟨a,h₀,α',e,x.trans aH,r,u,bB,m.trans bH⟩
theorem cW.lift{K:aQ}{A:Around}{β:Type}{s:Shared}{α:au}{c:ai β}{s₁:Shared}{α₁:au}{y:Value}{s':Shared}(x:aW [] α s.heap α₁ s₁.heap)(m:cJ s s₁)(p:cW K A c s₁ α₁ y s'):cW K A c s α y s':=by
 obtain⟨i,σ',e,dP,eJ⟩:=p;exact⟨i,σ',e,dP,eJ.lift x m⟩
section
variable {K:aQ}{A:Around}{β γ lQ qR:Type}{dA:Heap->au->β->γ->Prop}{tm:Heap->au->lQ->qR->Prop}{s:Shared}{α:au}
theorem Runs.bind{t:Sem γ}{k:γ->Sem qR}{c:ai β}{f:β->ac->ai lQ}(ax:Runs K dA A t c s α)
  (N:∀b σ' α' y s',c=.ok b σ'->aW [] α s.heap α' s'.heap->ak K.hb s'.heap σ' α'->dA s'.heap α' b y->cJ s s'->Runs K tm A (k y) (f b σ') s' α') :
  Runs K tm A (t >>= k) (c.bind f) s α:=by
 intro hc tk
 have L:c≠.stuck:=by rintro rfl;exact hc rfl
 refine aI (cm (jb (ax L tk)) (fun y s' hp=>?_) fun e s' hx=>?_)
 ·obtain⟨⟨b,σ',α',rfl,x,r,v,m⟩,iJ⟩:=hp;refine cm (N b σ' α' y s' rfl x r v m hc (aQ.Tk.up tk iJ)) (fun a3 iG zm=>?_) fun e iG hx=>?_
  ·obtain⟨dC,ht,jE,aA,aH,aC,b2,bH⟩:=zm;exact⟨dC,ht,jE,aA,x.trans aH,aC,b2,m.trans bH⟩
  ·exact hx.lift x m
 ·obtain⟨⟨i,σ',rfl,eJ⟩,_⟩:=hx;exact⟨i,σ',rfl,eJ⟩
theorem Runs.pure{y:γ}{b:β}{σ:ac}(r:ak K.hb s.heap σ α)(v:dA s.heap α b y):Runs K dA A (pure y) (.ok b σ) s α:=
 fun J J=>bx ⟨b,σ,α,rfl,.refl,r,v,.refl s⟩
theorem Runs.standAt{pos:Pos}{t:Sem γ}{c:ai β}(ax:Runs K dA A t c s α):Runs K dA A (do standAt pos;t) c s α:=
 fun h tk=>aI (wpAny_standAt (ax h tk))
theorem Runs.holding{vs:List Value}{t:Sem γ}{c:ai β}(ax:Runs K dA A t c s α):Runs K dA A (holding vs t) c s α:=
 fun h tk=>f6 (ax h tk)
theorem Runs.step{t:Sem γ}{b:β}{σ:ac}(r:ak K.hb s.heap σ α)
  (ax:∀(Q:γ->Shared->Prop) (E:Value->Shared->Prop),(∀y s',(∀b o,s.heap.get? b=some o->s'.heap.get? b=some o)->ak K.hb s'.heap σ α->dA s'.heap α b y->cJ s s'->Q y s')->wpAny (model K.prog K.w) A t Q E s) :
  Runs K dA A t (.ok b σ) s α:=
 fun J J=>ax _ _ fun y s' k aC v m=>⟨b,σ,α,rfl,.keeps k,aC,v,m⟩
end
theorem ak.live{hb h σ α}(r:ak hb h σ α){a:Addr}(ha:a∈α.ix):∃o,h.get? a=some o:=by
 obtain⟨i,hi,rfl⟩:=List.mem_iff_getElem.mp ha
 have hs:i<σ.length:=by exact r.len.symm▸hi
 exact(r.obj i σ[i] α.ix[i] (by simp[hs]) (by simp[hi])).live
theorem ak.keeps{hb h h' σ α}(r:ak hb h σ α)(k:∀b o,h.get? b=some o->h'.get? b=some o):ak hb h' σ α:=
 ⟨fun b o e=>k b o (r.base b o e),r.fresh,r.nodup,r.len,fun a ha=>⟨(r.hidden a ha).1,let⟨o,e⟩:=(r.hidden a ha).2;⟨o,k a o e⟩⟩,fun i m a V aj=>(r.obj i m a V aj).ext (.keeps (F:=[]) k) (by
  refine aJ (r.live (eb aj)) fun o e=>?_
  rw[e,k a o e]),r.hfr,r.fe,fun a ha=>⟨(r.frs a ha).1,let⟨o,e,d⟩:=(r.frs a ha).2;⟨o,k a o e,d⟩⟩,r.frNot⟩
theorem ak.liveAll{hb h σ α}(r:ak hb h σ α){a:Addr}(ha:a∈α.all):∃o,h.get? a=some o:=by
 rcases c2.mp ha with q | q
 ·exact r.live q
 ·exact(r.hidden a q).2
theorem ak.upExt{hb h h' σ α}(r:ak hb h σ α)(u:hC hb.fr h h'):aW [] α h α h':=by
 refine⟨rfl,⟨[],by simp,fun J hx=>(nomatch hx)⟩,fun b o hb e hs=>?_,fun b o hb J e=>?_,fun b o J e=>?_,rfl⟩
 ·rcases u b o e with u | ⟨m,_⟩
  ·exact u
  ·obtain⟨_,aK,aA,d⟩:=r.frs b m;rw[e]at aA;obtain rfl:=oi aA;exact absurd hs d.notSolid
 ·rcases u b o e with u | ⟨m,cq,u⟩
  ·exact .inl u
  ·obtain⟨_,aK,aA,d⟩:=r.frs b m;rw[e]at aA;obtain rfl:=oi aA;exact .inr ⟨r.fe▸m,d,cq,u⟩
 ·rcases u b o e with u | ⟨m,cq,u⟩
  ·exact⟨_,u⟩
  ·exact⟨_,u⟩
theorem ak.up{hb h h' σ α}(r:ak hb h σ α)(u:hC hb.fr h h'):ak hb h' σ α:=by
 have x:=r.upExt u;refine⟨fun b o e=>?_,r.fresh,r.nodup,r.len,fun a ha=>⟨(r.hidden a ha).1,?_⟩,fun i m a V aj=>?_,r.hfr,r.fe,fun a ha=>⟨(r.frs a ha).1,?_⟩,r.frNot⟩
 ·rcases u b o (r.base b o e)with u | ⟨m,_⟩
  ·exact u
  ·rw[(r.frs b m).1]at e;contradiction
 ·refine aJ ((r.hidden a ha).2) fun o e=>?_;exact x.alive a o ((dT)) e
 ·refine(r.obj i m a V aj).ext x ?_;refine aJ (r.live (eb aj)) fun o e=>?_
  rcases u a o e with u | ⟨m,_⟩
  ·rw[e,u]
  ·exact absurd (eb aj) (r.frNot a m)
 ·obtain⟨_,o,e,d⟩:=r.frs a ha
  rcases u a o e with u | ⟨m,cq,u⟩
  ·exact⟨o,u,d⟩
  ·exact⟨_,u,d⟩
end Mine
namespace Mine
open PySem PyProof.Rows
noncomputable def au.add(α:au)(D:Addr):au:=⟨α.ix++[D],α.hid,α.fr⟩
theorem aW.add{α:au}{h h':Heap}{D:Addr}(k:∀b o,h.get? b=some o->h'.get? b=some o)(hD:h.get? D=none):aW [] α h (α.add D) h':=
 ⟨rfl,⟨[D],rfl,fun y hy=>by simp at hy;exact hy.symm▸(⟨hD,(dT)⟩)⟩,fun b o J e J=>k b o e,fun b o J J e=>.inl (k b o e),fun b o J e=>⟨o,k b o e⟩,rfl⟩
theorem ak.add{hb h h' σ α}{D:Addr}{m:aS}(r:ak hb h σ α)(k:∀b o,h.get? b=some o->h'.get? b=some o)(hD:h.get? D=none)
  (o:d1 hb h' (α.add D) m D):ak hb h' (σ++[m]) (α.add D)/\aW [] α h (α.add D) h':=by
 have x:aW [] α h (α.add D) h':=.add k hD
 have ln:D∉α.all:=fun hm=>by refine aJ (r.liveAll hm) fun o e=>?_;rw[hD]at e;contradiction
 refine⟨⟨fun b o e=>k b o (r.base b o e),fun a ha=>?_,?_,by simp[au.add,r.len],fun a ha=>?_,fun i bH a V aj=>?_,r.hfr,r.fe,fun a ha=>⟨(r.frs a ha).1,let⟨o,e,d⟩:=(r.frs a ha).2;⟨o,k a o e,d⟩⟩,fun a ha=>?_⟩,x⟩
 ·rcases c2.mp ha with q | q
  ·exact r.fresh a q
  ·simp at q;subst q
   cases hq:hb.get? a with
   | none=>rfl
   | some o=>rw[r.base _ _ hq]at hD;contradiction
 ·show(α.ix++[D]).Nodup;rw[jo];exact⟨r.nodup,by simp,fun a ha b hb=>by simp at hb;subst hb;rintro rfl;exact au.not_ix ln ha⟩
 ·have jS:a∈α.hid:=ha;refine⟨fun q=>?_,let⟨o,e⟩:=(r.hidden a jS).2;⟨o,k a o e⟩⟩
  rcases c2.mp q with q | q
  ·exact(r.hidden a jS).1 q
  ·simp at q;subst q;exact ln (fk _ jS)
 ·have iq:(α.ix++[D])[i]?=some a:=aj;by_cases hi:i<σ.length
  ·rw[ik hi]at V;rw[ik (r.len▸hi)]at iq;have:=r.obj i bH a V iq
   have hk:h'.get? a=h.get? a:=by
    refine aJ (r.live (eb iq)) fun o e=>?_;rw[e,k a o e]
   exact this.ext x hk
  ·have bF:i=σ.length:=by
    have:=(dU V).1;simp at this;(grind)
   subst bF;rw[iM (c9 _)]at V;rw[iM (r.len▸(c9 _))]at iq;simp[r.len]at V iq;subst V iq;exact o
 ·intro q
  rcases c2.mp q with q | q
  ·exact r.frNot a ha q
  ·simp at q;subst q;obtain⟨_,o,e,_⟩:=r.frs a ha;rw[hD]at e;contradiction
section
variable {K:aQ}{A:Around}{s:Shared}{α:au}{σ:ac}
theorem g6{n:Nat}(h:n<=aB):n<=sizeLine:=aF h (by decide)
theorem SJ{xs:List H}{vs:List Value}{a6:Bool}(r:ak K.hb s.heap σ α)(v:a7 s.heap α xs vs) :
  Runs K af A (newList vs) (er a6 xs σ) s α:=by
 intro hc tk;unfold er at hc ⊢;by_cases hl:xs.length<=aB
 ·rw[az hl]
  have hD:s.heap.get? s.heap.objs.size=none:=by
   cases hq:s.heap.get? s.heap.objs.size with
   | none=>rfl
   | some o=>exact absurd (eQ hq) (Nat.lt_irrefl _)
  have k:∀b o,s.heap.get? b=some o->(s.heap.push { cls:=.type "list",data:=.seq vs.toArray }).get? b=some o:=fun b o e=>cP _ e;refine wpAny_newObj_type ?_ (by show vs.toArray.size<=sizeLine;exact e5.symm▸v.1▸(g6 hl))
  cases a6 with
  | true =>
   refine⟨_,_,_,rfl,.keeps k,r.keeps k,?_,⟨rfl,rfl⟩⟩;refine af.flI (n:=0) (ec _ rfl) (fun hm=>?_) (v.ext (.keeps (F:=[]) k));refine aJ (r.liveAll hm) fun o e=>?_;rw[hD]at e;contradiction
  | false =>
   refine aP (r.add (D:=s.heap.objs.size) (m:=.lst xs) k hD ⟨vs,0,ec _ rfl,v.ext (.add k hD)⟩) fun aC x=>?_;refine⟨_,_,_,rfl,x,aC,.ref ?_,⟨rfl,rfl⟩⟩;rw[r.len];simp[au.add]
 ·rw[aY hl]at hc;exact absurd rfl hc
theorem SK{xs:List H}{vs:List Value}(r:ak K.hb s.heap σ α)(v:a7 s.heap α xs vs) :
  Runs K af A (newTuple vs) (if xs.length<=aB then .ok (.tup xs) σ else .stuck) s α:=by
 intro hc tk;by_cases hl:xs.length<=aB
 ·rw[az hl]
  have hD:s.heap.get? s.heap.objs.size=none:=by
   cases hq:s.heap.get? s.heap.objs.size with
   | none=>rfl
   | some o=>exact absurd (eQ hq) (Nat.lt_irrefl _)
  have k:∀b o,s.heap.get? b=some o->(s.heap.push { cls:=.type "tuple",data:=.seq vs.toArray }).get? b=some o:=fun b o e=>cP _ e;refine wpAny_newObj_type ?_ (by show vs.toArray.size<=sizeLine;exact e5.symm▸v.1▸(g6 hl));refine⟨_,_,_,rfl,.keeps k,r.keeps k,?_,⟨rfl,rfl⟩⟩;refine af.tupI (n:=0) (ec _ rfl) (fun hm=>?_) (v.ext (.keeps (F:=[]) k));refine aJ (r.liveAll hm) fun o e=>?_;rw[hD]at e;contradiction
 ·rw[aY hl]at hc;exact absurd rfl hc
end
end Mine
namespace Mine
open PySem PyProof.Rows
theorem vv{h:Heap}{n:Nat}{f:H->Option PyData}:∀{xs:List H} {vs:List Value} {ds:List PyData},xs.mapM f=some ds->xs.length=vs.length ->
  (∀(i:Nat) (x:H) (v:Value) (d:PyData),xs[i]?=some x->vs[i]?=some v->f x=some d->∃as,Reads h v d as/\d.canLay0=true/\d.depth<=n) ->
  ∃as,ReadsAll h vs ds as/\PyData.canLayAll0 ds=true/\PyData.depthAll ds<=n:=by
 intro xs
 induction xs with
 | nil =>
  intro vs ds e hl _;obtain rfl:=hY hl.symm;obtain rfl:=oi e;exact⟨[],.nil,rfl,Nat.zero_le _⟩
 | cons x xs ag =>
  intro vs ds e hl ax
  cases vs with
  | nil=>exact nomatch hl
  | cons v vs =>
   rw[List.mapM_cons]at e
   cases hx:f x with
   | none=>rw[hx]at e;contradiction
   | some d =>
    rw[hx]at e
    cases hr:xs.mapM f with
    | none=>rw[hr]at e;contradiction
    | some Xm =>
     rw[hr]at e;obtain rfl:=oi e;refine bC (ax 0 x v d rfl rfl hx) fun as aN cr iT=>?_;refine bC (ag hr (Nat.succ.inj hl) fun i y w eV V aj bF=>ax (i+1) y w eV V aj bF) fun bs r2 ft mR=>?_;exact⟨as++bs,.cons aN r2,Bool.and_eq_true_iff.mpr ⟨cr,ft⟩,Nat.max_le.mpr ⟨iT,mR⟩⟩
theorem qs{hb:fY}{h:Heap}{σ:ac}{α:au}(r:ak hb h σ α):∀(n:Nat) (p:H) (v:Value) (d:PyData),af h α p v->toD n σ p=some d->∃as,Reads h v d as/\d.canLay0=true/\d.depth<=n:=by
 intro n
 induction n with
 | zero=>intro p v d _ e;exact nomatch e
 | succ n ag =>
  intro p v d hv e
  cases p with
  | exc c=>exact nomatch e
  | inst c i=>exact nomatch e
  | none=>obtain rfl:=hv.noneE;obtain rfl:=oi e;exact⟨[],.none,rfl,Nat.zero_le _⟩
  | bool b=>obtain rfl:=hv.boolE;obtain rfl:=oi e;exact⟨[],.bool _,rfl,Nat.zero_le _⟩
  | int i=>refine aJ hv.intE fun J ae=>?_;obtain rfl:=ae;obtain rfl:=oi e;exact⟨[],.int _ _,rfl,Nat.zero_le _⟩
  | str x=>refine aw hv.strE fun J ae hs=>?_;obtain rfl:=ae;obtain rfl:=oi e;exact⟨[],.str _ _,hs,Nat.zero_le _⟩
  | tup xs =>
   obtain⟨a,items,k,rfl,V,_,vs⟩:=hv.tupE;change(xs.mapM (toD n σ)).map PyData.tuple=_ at e
   cases hm:xs.mapM (toD n σ)with
   | none=>rw[hm]at e;contradiction
   | some ds =>
    rw[hm]at e;obtain rfl:=oi e;refine bC (vv (n:=n) hm vs.1 fun i x v d V aj bF=>ag x v d (vs.2 i x v V aj) bF) fun as aN cr iT=>?_;exact⟨as,.tuple V rfl rfl (by simpa using aN),by simpa[PyData.canLay0]using cr,Nat.succ_le_succ iT⟩
  | fl xs =>
   obtain⟨a,items,k,rfl,V,_,vs⟩:=hv.flE;change(xs.mapM (toD n σ)).map PyData.list=_ at e
   cases hm:xs.mapM (toD n σ)with
   | none=>rw[hm]at e;contradiction
   | some ds =>
    rw[hm]at e;obtain rfl:=oi e;refine bC (vv (n:=n) hm vs.1 fun i x v d V aj bF=>ag x v d (vs.2 i x v V aj) bF) fun as aN cr iT=>?_;exact⟨a::as,.list V rfl rfl (by simpa using aN),by simpa[PyData.canLay0]using cr,Nat.succ_le_succ iT⟩
  | ref i =>
   refine aw hv.refE fun a ae bB=>?_;obtain rfl:=ae
   change(match σ[i]? with
    | some (.lst xs)=>(xs.mapM (toD n σ)).map PyData.list
    | _=>none)=_ at e
   cases hs:σ[i]? with
   | none=>rw[hs]at e;contradiction
   | some m =>
    rw[hs]at e
    cases m with
    | lst xs =>
     change(xs.mapM (toD n σ)).map PyData.list=_ at e
     cases hm:xs.mapM (toD n σ)with
     | none=>rw[hm]at e;contradiction
     | some ds =>
      rw[hm]at e;obtain rfl:=oi e;refine cD (r.obj i _ a hs bB) fun items k V vs=>?_;refine bC (vv (n:=n) hm vs.1 fun i x v d V aj bF=>ag x v d (vs.2 i x v V aj) bF) fun as aN cr iT=>?_;exact⟨a::as,.list V rfl rfl (by simpa using aN),by simpa[PyData.canLay0]using cr,Nat.succ_le_succ iT⟩
    | _=>exact nomatch e
theorem vQ{d:PyData}(c:d.canLay0=true)(h:d.depth<=16):SeqAt.shaped d=true:=by
 unfold SeqAt.shaped;rw[c];simp;(exact aF (by assumption) (by decide))
noncomputable def ej(Kt:Heap)(Ku:au)(b:Bool)(y:Value):Prop:=y=.bool b
structure d9(A:Around):Prop where
 depth:A.depth+200<recursionLimit
 units:A.units+200<cLine
section
variable {K:aQ}{A:Around}{s:Shared}{α:au}{σ:ac}
theorem LZ{a b:H}{x y:Value}(hA:d9 A)(r:ak K.hb s.heap σ α)(av:af s.heap α a x)(bb:af s.heap α b y) :
  Runs K ej A (compareOp .Eq x y) (ai.ofOpt (eqv σ a b) σ) s α:=by
 intro hc tk;unfold eqv at hc ⊢
 cases L:toD 16 σ a with
 | none=>rw[L]at hc;exact absurd rfl hc
 | some iT =>
  cases O:toD 16 σ b with
  | none=>rw[L,O]at hc;exact absurd rfl hc
  | some mR =>
   refine bC (qs r 16 a x iT av L) fun as aN cr bj=>?_;refine bC (qs r 16 b y mR bb O) fun bs r2 ft br=>?_;exact eq_dataH aN r2 (vQ cr bj) (vQ ft br) (by have:=hA.units;(grind)) ⟨_,σ,α,rfl,.refl,r,rfl,.refl s⟩
theorem L0{a b:H}{x y:Value}(hA:d9 A)(r:ak K.hb s.heap σ α)(av:af s.heap α a x)(bb:af s.heap α b y) :
  Runs K ej A (compareOp .NotEq x y) (ai.ofOpt ((eqv σ a b).map (!·)) σ) s α:=by
 intro hc tk;unfold eqv at hc ⊢
 cases L:toD 16 σ a with
 | none=>rw[L]at hc;exact absurd rfl hc
 | some iT =>
  cases O:toD 16 σ b with
  | none=>rw[L,O]at hc;exact absurd rfl hc
  | some mR =>
   refine bC (qs r 16 a x iT av L) fun as aN cr bj=>?_;refine bC (qs r 16 b y mR bb O) fun bs r2 ft br=>?_;exact ne_dataH aN r2 (vQ cr bj) (vQ ft br) (by have:=hA.units;(grind)) ⟨_,σ,α,rfl,.refl,r,rfl,.refl s⟩
end
end Mine
namespace Mine
open PySem PyProof.Rows
section
variable {h:Heap}{α:au}{dq mC:Type}[DecidableEq dq][DecidableEq mC]{g:dq->mC}
theorem KC{e:dq×H}{es:List (dq×H)}{k:dq}:aG k (e::es)=if e.1=k then some e.2 else aG k es:=by
 unfold aG;rw[jp];by_cases q:e.1=k
 ·simp[q]
 ·simp[q]
theorem JY{e:mC×Value}{es:List (mC×Value)}{k:mC}:valueAt (e::es) k=if e.1=k then some e.2 else valueAt es k:=by
 unfold valueAt;rw[jp];by_cases q:e.1=k
 ·simp[q]
 ·simp[q]
theorem pD(hg:∀a b,g a=g b->a=b):∀{es:List (dq×H)} {ys:List (mC×Value)},ys.map (·.1)=es.map (fun e=>g e.1)->a7 h α (es.map (·.2)) (ys.map (·.2))->∀k,
  (∀v,aG k es=some v->∃u,valueAt ys (g k)=some u/\af h α v u)/\(aG k es=none->valueAt ys (g k)=none):=by
 intro es
 induction es with
 | nil =>
  intro ys L _ k;obtain rfl:=List.map_eq_nil_iff.mp L;exact⟨fun v e=>(by contradiction),fun J=>rfl⟩
 | cons e es ag =>
  intro ys L O k
  cases ys with
  | nil=>exact nomatch L
  | cons y ys =>
  refine aP (List.cons.inj L) fun pT yO=>?_;refine mT O.inv_cons fun u us q aR bu=>?_;cases q;rw[KC,JY,show y.1=g e.1 from pT];by_cases q:e.1=k
  ·rw[az q,az (by rw[q])];exact⟨fun v aA=>(by obtain rfl:=oi aA;exact⟨_,rfl,aR⟩),fun aA=>(by contradiction)⟩
  ·rw[aY q,aY (fun z=>q (hg _ _ z))];exact ag yO bu k
theorem B1(hg:∀a b,g a=g b->a=b):∀{es:List (dq×H)} {ys:List (mC×Value)},ys.map (·.1)=es.map (fun e=>g e.1)->∀k,(ys.any fun y=>decide (y.1=g k))=es.any fun e=>decide (e.1=k)
 | [],ys,L,k=>by
  have:ys=[]:=by simpa using L
  subst this;rfl
 | e::es,[],L,k=>(nomatch L)
 | e::es,y::ys,L,k=>by
  simp only[dG,List.cons.injEq]at L;rw[List.any_cons,List.any_cons,B1 hg L.2 k,L.1];congr 1;by_cases q:e.1=k
  ·simp[q]
  ·rw[gR q,gR (fun z=>q (hg _ _ z))]
theorem TP(hg:∀a b,g a=g b->a=b){k:dq}{v:H}{u:Value}(dg:af h α v u):∀{es:List (dq×H)} {ys:List (mC×Value)},ys.map (·.1)=es.map (fun e=>g e.1)->a7 h α (es.map (·.2)) (ys.map (·.2)) ->
  (ys.map fun y=>if y.1=g k then(y.1,u)else y).map (·.1)=(es.map fun e=>if e.1=k then(e.1,v)else e).map (fun e=>g e.1) ∧
  a7 h α ((es.map fun e=>if e.1=k then(e.1,v)else e).map (·.2)) ((ys.map fun y=>if y.1=g k then(y.1,u)else y).map (·.2)):=by
 intro es
 induction es with
 | nil =>
  intro ys L O;obtain rfl:=List.map_eq_nil_iff.mp L;exact⟨rfl,.nil⟩
 | cons e es ag =>
  intro ys L O
  cases ys with
  | nil=>exact nomatch L
  | cons y ys =>
  refine aP (List.cons.inj L) fun pT yO=>?_;refine mT O.inv_cons fun w ws q aR bu=>?_;cases q;refine aP (ag yO bu) fun bS cg=>?_;rw[dG,dG,dG,dG,dG,dG,bS];by_cases q:e.1=k
  ·rw[az q,az (by rw[show y.1=g e.1 from pT,q])];exact⟨by rw[show y.1=g e.1 from pT],.cons dg cg⟩
  ·rw[aY q,aY (fun z=>q (hg _ _ ((show y.1=g e.1 from pT).symm.trans z)))];exact⟨by rw[show y.1=g e.1 from pT],.cons aR cg⟩
theorem B6(hg:∀a b,g a=g b->a=b){k:dq}{v:H}{u:Value}{es:List (dq×H)}{ys:List (mC×Value)}(L:ys.map (·.1)=es.map (fun e=>g e.1))(O:a7 h α (es.map (·.2)) (ys.map (·.2)))(dg:af h α v u) :
  (stored ys (g k) u).map (·.1)=(ee k v es).map (fun e=>g e.1)/\a7 h α ((ee k v es).map (·.2)) ((stored ys (g k) u).map (·.2)):=by
 unfold stored ee;rw[B1 hg L k]
 split
 ·exact TP hg dg L O
 ·rw[fD,fD,fD,fD,L];exact⟨rfl,O.append #v[dg]⟩
end
noncomputable def ly(k:Str×Int):List (Str ⊕ Int):=[.inl k.1,.inr k.2]
theorem vk(a b:Str×Int)(h:ly a=ly b):a=b:=by
 unfold ly at h;simp only[List.cons.injEq,Sum.inl.injEq,Sum.inr.injEq,and_true]at h;exact Prod.ext h.1 h.2
theorem QY{p:H}{k:Str×Int}(h:g5 p=some k):p=.tup [.str k.1,.int k.2]:=su (o:=HC p) h
section
variable {K:aQ}{A:Around}{s:Shared}{α:au}{σ:ac}
theorem vm{p:H}{k:Str×Int}{x:Value}(h:g5 p=some k)(v:af s.heap α p x):∃a,x=.ref a/\IsTupleKey (qe K.prog K.w) s.heap (ly k) a/\a∉α.all:=by
 rw[QY h]at v;obtain⟨a,items,n,rfl,e,hn,w⟩:=v.tupE;refine cD w.inv_cons fun s6 us ae bd=>?_;obtain rfl:=ae;obtain⟨lO,nH⟩:=bd;refine cD nH.inv_cons fun JW us ae bd=>?_;obtain rfl:=ae;obtain⟨Ww,Wx⟩:=bd;have:us=[]:=hY Wx.1.symm;subst this
 cases lO with | str _ dK _ =>
 cases Ww with | int _ cC =>
 refine⟨a,rfl,⟨_,_,n,e,rfl,rfl,?_⟩,hn⟩;refine .cons ?_ #v[?_]
 ·show Value.isStrOf k.1 (.str k.1 dK)=true;simp[Value.isStrOf]
 ·show Value.isInt k.2 (.int k.2 cC)=true;simp[Value.isInt]
theorem vC(hK:K.Ok)(r:ak K.hb s.heap σ α){a:Addr}(ha:a∈α.ix):(a == sysModules)=false:=by
 refine aJ hK.mods fun o e=>?_;rw[k6]
 rintro rfl
 rw[r.fresh _ ha]at e;contradiction
theorem sM(hA:d9 A):(tupleKind (qe K.prog K.w)).room A.in1:=by
 have:=hA.units;show A.units+1<cLine
 (grind)
theorem pJ{i:Nat}{a:Addr}{es:List ((Str×Int)×H)}(r:ak K.hb s.heap σ α)(hs:σ[i]?=some (.dp es))(bB:α.ix[i]?=some a) :
  ∃xs,s.heap.DictOfH (tupleKind (qe K.prog K.w)) a xs/\(kvsOf xs).map (·.1)=es.map (fun e=>ly e.1)/\(∀x∈xs,x.2.1∉α.all)/\a7 s.heap α (es.map (·.2)) ((kvsOf xs).map (·.2)):=by
 refine om (r.obj i _ a hs bB) fun xs L O ar aU=>?_;refine⟨xs,L,?_,ar,?_⟩
 ·rw[kvsOf,hI];exact O
 ·rw[kvsOf,hI];exact aU
theorem pK{i:Nat}{a:Addr}{es:List (Str×H)}(r:ak K.hb s.heap σ α)(hs:σ[i]?=some (.ds es))(bB:α.ix[i]?=some a) :
  ∃eL,s.heap.DictOf (strKind K.prog K.w) a eL/\eL.map (·.1)=es.map (fun e=>id e.1)/\a7 s.heap α (es.map (·.2)) (eL.map (·.2)):=r.obj i _ a hs bB
theorem sU{k:Str}{t:Tok}:(strKind K.prog K.w).is k (.str k t)=true:=by
 show Value.isStrOf k (.str k t)=true;simp[Value.isStrOf]
theorem Qe{i:Nat}{a:Addr}{es:List ((Str×Int)×H)}{p:H}{k:Str×Int}{x:Value}(hK:K.Ok)(hA:d9 A)(r:ak K.hb s.heap σ α)(hs:σ[i]?=some (.dp es))(bB:α.ix[i]?=some a)(hk:g5 p=some k)(lN:af s.heap α p x) :
  Runs K ej A (compareOp .In x (.ref a)) (.ok (aG k es).isSome σ) s α/\Runs K ej A (compareOp .NotIn x (.ref a)) (.ok (!(aG k es).isSome) σ) s α:=by
 refine om (pJ r hs bB) fun xs L O J aU=>?_;refine aw (vm (K:=K) hk lN) fun b ae bd=>?_;obtain rfl:=ae;refine aP bd fun hb J=>?_
 have e:(atKey xs (ly k)).isSome=(aG k es).isSome:=by
  have:=pD vk O aU k;rw[valueAt_kvsOf]at this
  cases hq:aG k es with
  | none=>have:=this.2 hq;cases bA:atKey xs (ly k)with | none=>rfl | some z=>rw[bA]at this;contradiction
  | some v=>refine aw (this.1 v hq) fun u z J=>?_;cases bA:atKey xs (ly k)with | none=>rw[bA]at z;cases z | some z=>rfl
 have hm:=vC hK r (eb bB);exact⟨fun J J=>wpAny_in_heap (sM hA) hb hm L (by rw[e];exact⟨_,σ,α,rfl,.refl,r,rfl,⟨rfl,rfl⟩⟩),fun J J=>wpAny_notIn_heap (sM hA) hb hm L (by rw[e];exact⟨_,σ,α,rfl,.refl,r,rfl,⟨rfl,rfl⟩⟩)⟩
theorem Qf{i:Nat}{a:Addr}{es:List (Str×H)}{k:Str}{t:Tok}(hK:K.Ok)(r:ak K.hb s.heap σ α)(hs:σ[i]?=some (.ds es))(bB:α.ix[i]?=some a) :
  Runs K ej A (compareOp .In (.str k t) (.ref a)) (.ok (aG k es).isSome σ) s α/\Runs K ej A (compareOp .NotIn (.str k t) (.ref a)) (.ok (!(aG k es).isSome) σ) s α:=by
 refine bC (pK r hs bB) fun eL L O aU=>?_
 have e:(valueAt eL k).isSome=(aG k es).isSome:=by
  have:=pD (g:=id) (fun J J h=>h) O aU k
  cases hq:aG k es with
  | none=>have:=this.2 hq;simp only[id]at this;rw[this];rfl
  | some v=>refine aw (this.1 v hq) fun u z J=>?_;simp only[id]at z;rw[z];rfl
 have hm:=vC hK r (eb bB);exact⟨fun J J=>wpAny_in_of sU hm L.mapOf (by rw[e];exact⟨_,σ,α,rfl,.refl,r,rfl,⟨rfl,rfl⟩⟩),fun J J=>wpAny_notIn_of sU hm L.mapOf (by rw[e];exact⟨_,σ,α,rfl,.refl,r,rfl,⟨rfl,rfl⟩⟩)⟩
theorem QO{i:Nat}{a:Addr}{es:List ((Str×Int)×H)}{p v:H}{k:Str×Int}{x:Value}{E:Value->Shared->Prop}(hA:d9 A)(r:ak K.hb s.heap σ α)(hs:σ[i]?=some (.dp es))(bB:α.ix[i]?=some a)(hk:g5 p=some k)(lN:af s.heap α p x)(hv:aG k es=some v) :
  wpAny (model K.prog K.w) A (getItem (.ref a) x) (cf K af (.ok v σ) s α) E s:=by
 refine om (pJ r hs bB) fun xs L O J aU=>?_;refine aw (vm (K:=K) hk lN) fun b ae bd=>?_;obtain rfl:=ae;refine aP bd fun hb J=>?_;refine aw ((pD vk O aU k).1 v hv) fun u z dg=>?_;rw[valueAt_kvsOf]at z;refine aw (Option.map_eq_some_iff.mp z) fun q hq ae=>?_;obtain rfl:=ae;exact wpAny_getItem_heap (sM hA) hb L hq ⟨_,σ,α,rfl,.refl,r,dg,⟨rfl,rfl⟩⟩
theorem QP{i:Nat}{a:Addr}{es:List (Str×H)}{v:H}{k:Str}{t:Tok}{E:Value->Shared->Prop}(r:ak K.hb s.heap σ α)(hs:σ[i]?=some (.ds es))(bB:α.ix[i]?=some a)(hv:aG k es=some v) :
  wpAny (model K.prog K.w) A (getItem (.ref a) (.str k t)) (cf K af (.ok v σ) s α) E s:=by
 refine bC (pK r hs bB) fun eL L O aU=>?_;refine aw ((pD (g:=id) (fun J J h=>h) O aU k).1 v hv) fun u z dg=>?_;exact wpAny_getItem_of sU L.mapOf z ⟨_,σ,α,rfl,.refl,r,dg,⟨rfl,rfl⟩⟩
theorem NF{i:Nat}{a:Addr}{es:List ((Str×Int)×H)}{p:H}{k:Str×Int}{x:Value}{E:Value->Shared->Prop}(hK:K.Ok)(hA:d9 A)(r:ak K.hb s.heap σ α)(hs:σ[i]?=some (.dp es))(bB:α.ix[i]?=some a)(hk:g5 p=some k)(lN:af s.heap α p x) :
  wpAny (model K.prog K.w) A (call (.builtin "dict.get") [.ref a,x]) (cf K af (.ok ((aG k es).getD .none) σ) s α) E s:=by
 refine om (pJ r hs bB) fun xs L O J aU=>?_;refine aw (vm (K:=K) hk lN) fun b ae bd=>?_;obtain rfl:=ae;refine aP bd fun hb J=>?_;refine call_meetsIn F.slot_dict_get L.typeIs F.entry_dict_get (F.args_dict_get_2 _ _) (meetsH_dict_get (tupleKind (qe K.prog K.w)) a b (vC hK r (eb bB))) ⟨sM hA,ly k,xs,hb,L,?_⟩;rw[<- valueAt_kvsOf];have:=pD vk O aU k
 cases hq:aG k es with
 | none=>exact(this.2 hq).symm▸(⟨_,σ,α,rfl,.refl,r,.none,⟨rfl,rfl⟩⟩)
 | some v=>refine aw (this.1 v hq) fun u z dg=>?_;exact z.symm▸(⟨_,σ,α,rfl,.refl,r,dg,⟨rfl,rfl⟩⟩)
theorem NG{i:Nat}{a:Addr}{es:List (Str×H)}{k:Str}{t:Tok}{E:Value->Shared->Prop}(hK:K.Ok)(r:ak K.hb s.heap σ α)(hs:σ[i]?=some (.ds es))(bB:α.ix[i]?=some a) :
  wpAny (model K.prog K.w) A (call (.builtin "dict.get") [.ref a,.str k t]) (cf K af (.ok ((aG k es).getD .none) σ) s α) E s:=by
 refine bC (pK r hs bB) fun eL L O aU=>?_;refine call_meetsIn F.slot_dict_get L.typeIs F.entry_dict_get (F.args_dict_get_2 _ _) (meets_dict_get (strKind K.prog K.w) a sU (vC hK r (eb bB))) ⟨_,L.mapOf,?_⟩;have:=pD (g:=id) (fun J J h=>h) O aU k
 cases hq:aG k es with
 | none=>have z:=this.2 hq;simp only[id]at z;rw[z];exact⟨_,σ,α,rfl,.refl,r,.none,⟨rfl,rfl⟩⟩
 | some v=>refine aw (this.1 v hq) fun u z dg=>?_;simp only[id]at z;exact z.symm▸(⟨_,σ,α,rfl,.refl,r,dg,⟨rfl,rfl⟩⟩)
end
end Mine
namespace Mine
open PySem PyProof.Rows
noncomputable def IJ:mH->Operator
 | .add=>.Add | .sub=>.Sub | .mul=>.Mult | .mod=>.Mod | .fdiv=>.FloorDiv | .pow=>.Pow
noncomputable def h3:ig->CmpOp
 | .eq=>.Eq | .ne=>.NotEq | .lt=>.Lt | .le=>.LtE | .gt=>.Gt | .ge=>.GtE | .is=>.Is | .isNot=>.IsNot | .isin=>.In | .notin=>.NotIn
theorem Jp{x y:Str}(a:PyData.strOk x=true)(b:PyData.strOk y=true):PyData.strOk (x++y)=true:=by
 unfold PyData.strOk at *;rw[Str.cps_append];simp only[Array.all_eq_true',Array.mem_append]at *
 rintro c (h | h)
 ·exact a c h
 ·exact b c h
theorem U4{x:Str}{n:Int}(h:PyData.strOk x=true):PyData.strOk (Txt.mul x n)=true:=by
 unfold Txt.mul
 split
 ·simp[PyData.strOk,Str.empty]
 ·split
  ·exact h
  ·have key:∀(k:Nat) (acc:Array Nat),PyData.strOk ⟨acc⟩=true->PyData.strOk ⟨(List.replicate k x.cps).foldl (·++·) acc⟩=true:=by
    intro k
    induction k with
    | zero=>intro acc O;exact O
    | succ k ag =>
     intro acc O;exact List.replicate_succ▸iO▸(ag _ (Jp (x:=⟨acc⟩) (y:=x) O h))
   exact key _ _ (by simp[PyData.strOk])
theorem Si{x:Str}{n:Int}(h:x.length<=100/\0<=n/\n<=100):MulOk x n:=
 mulOk_of 100 100 h.1 h.2.2 (by grind) (by decide) (by decide)
theorem Cj{a:Int}(h:a.natAbs<2 ^ 60):Builtin.Int.intBits a<=64:=by
 unfold Builtin.Int.intBits;by_cases h0:a.natAbs=0
 ·have:a=0:=by grind
  subst this;decide
 ·have:=(Nat.log2_lt h0).mpr h
  split <;> (grind)
inductive BM(h:Heap)(α:au)(xs:List H)(v:Value):Prop
 | mk (a:Addr) (items:List Value) (n:Nat) (e:v=.ref a) (a1:h.get? a=some { cls:=.type "list",data:=.seq (List.toArray items) n }) (vs:a7 h α xs items):BM h α xs v
theorem k9{h:Heap}{hb:fY}{σ:ac}{α:au}{a:H}{x:Value}{xs:List H}(r:ak hb h σ α)(v:af h α a x)(e:cO σ a=some xs) :
  BM h α xs x:=by
 cases a with
 | fl ys=>obtain rfl:=oi e;obtain⟨l,items,n,rfl,V,_,vs⟩:=v.flE;exact⟨l,items,n,rfl,V,vs⟩
 | ref i =>
  refine aw v.refE fun l ae dr=>?_;obtain rfl:=ae;simp only[cO]at e
  cases hs:σ[i]? with
  | none=>rw[hs]at e;contradiction
  | some m =>
   rw[hs]at e
   cases m with
   | lst ys=>obtain rfl:=oi e;refine cD (r.obj i _ l hs dr) fun items n V vs=>?_;exact⟨l,items,n,rfl,V,vs⟩
   | _=>contradiction
 | _=>contradiction
section
variable {K:aQ}{A:Around}{s:Shared}{α:au}{σ:ac}
theorem kJ(s:Shared):s.heap.get? s.heap.objs.size=none:=by
 cases hq:s.heap.get? s.heap.objs.size with
 | none=>rfl
 | some o=>exact absurd (eQ hq) (Nat.lt_irrefl _)
theorem cf.fl{xs:List H}{vs:List Value}(r:ak K.hb s.heap σ α)(v:a7 s.heap α xs vs) :
  cf K af (.ok (.fl xs) σ) s α (.ref s.heap.objs.size) { s with heap:=s.heap.push { cls:=.type "list",data:=.seq vs.toArray } }:=by
 have k:∀b o,s.heap.get? b=some o->(s.heap.push { cls:=.type "list",data:=.seq vs.toArray }).get? b=some o:=fun b o e=>cP _ e;refine⟨_,_,_,rfl,.keeps k,r.keeps k,?_,⟨rfl,rfl⟩⟩;refine af.flI (n:=0) (ec _ rfl) (fun hm=>?_) (v.ext (.keeps (F:=[]) k));refine aJ (r.liveAll hm) fun o e=>?_;rw[kJ]at e;contradiction
theorem cf.tup{xs:List H}{vs:List Value}(r:ak K.hb s.heap σ α)(v:a7 s.heap α xs vs) :
  cf K af (.ok (.tup xs) σ) s α (.ref s.heap.objs.size) { s with heap:=s.heap.push { cls:=.type "tuple",data:=.seq vs.toArray } }:=by
 have k:∀b o,s.heap.get? b=some o->(s.heap.push { cls:=.type "tuple",data:=.seq vs.toArray }).get? b=some o:=fun b o e=>cP _ e;refine⟨_,_,_,rfl,.keeps k,r.keeps k,?_,⟨rfl,rfl⟩⟩;refine af.tupI (n:=0) (ec _ rfl) (fun hm=>?_) (v.ext (.keeps (F:=[]) k));refine aJ (r.liveAll hm) fun o e=>?_;rw[kJ]at e;contradiction
theorem cf.here{β γ:Type}{dA:Heap->au->β->γ->Prop}{b:β}{y:γ}{tk:Nat}(r:ak K.hb s.heap σ α)(v:dA s.heap α b y):cf K dA (.ok b σ) s α y { s with toks:=tk }:=
 ⟨_,_,_,rfl,.refl,r,v,⟨rfl,rfl⟩⟩
theorem Kv{l b:Addr}{vs ws:List Value}{n n2:Nat}{Q:Value->Shared->Prop}{E:Value->Shared->Prop}(ho:s.heap.get? l=some { cls:=.type "list",data:=.seq vs.toArray n })
  (kF:s.heap.get? b=some { cls:=.type "list",data:=.seq ws.toArray n2 }) (hsz:vs.length+ws.length<=sizeLine)
  (h:Q (.ref s.heap.objs.size) { s with heap:=s.heap.push { cls:=.type "list",data:=.seq (vs++ws).toArray } }):wpAny (model K.prog K.w) A (binaryOp .Add (.ref l) (.ref b)) Q E s:=by
 have e:vs.toArray++ws.toArray=(vs++ws).toArray:=by simp
 refine concat_meets ⟨_,ho,rfl⟩ ⟨_,kF,rfl⟩ noFill_list_add seq_list_add PySem.F.slot_list_add PySem.F.entry_list_add (PySem.F.args_list_add_2 _ _) (list_addW l b vs.toArray ws.toArray n n2 none none #[] #[] (by simpa using hsz)) ⟨ho,kF,?_⟩;exact e.symm▸h
theorem Kw{t b:Addr}{vs ws:List Value}{n n2:Nat}{Q:Value->Shared->Prop}{E:Value->Shared->Prop}(ho:s.heap.get? t=some { cls:=.type "tuple",data:=.seq vs.toArray n })
  (kF:s.heap.get? b=some { cls:=.type "tuple",data:=.seq ws.toArray n2 }) (hsz:vs.length+ws.length<=sizeLine)
  (h0:vs=[]->Q (.ref b) s) (L:vs≠[]->ws=[]->Q (.ref t) s)
  (O:Q (.ref s.heap.objs.size) { s with heap:=s.heap.push { cls:=.type "tuple",data:=.seq (vs++ws).toArray } }):wpAny (model K.prog K.w) A (binaryOp .Add (.ref t) (.ref b)) Q E s:=by
 have e:vs.toArray++ws.toArray=(vs++ws).toArray:=by simp
 by_cases hv:vs=[]
 ·exact concat_meets ⟨_,ho,rfl⟩ ⟨_,kF,rfl⟩ noFill_tuple_add seq_tuple_add PySem.F.slot_tuple_add PySem.F.entry_tuple_add (PySem.F.args_tuple_add_2 _ _)
   (tuple_addW0 t b vs.toArray ws.toArray n n2 none none #[] #[] (by simp[hv])) ⟨ho,kF,h0 hv⟩
 ·by_cases hw:ws=[]
  ·exact concat_meets ⟨_,ho,rfl⟩ ⟨_,kF,rfl⟩ noFill_tuple_add seq_tuple_add PySem.F.slot_tuple_add PySem.F.entry_tuple_add (PySem.F.args_tuple_add_2 _ _)
    (tuple_addW1 t b vs.toArray ws.toArray n n2 none none #[] #[] (by simpa using hv) (by simp[hw])) ⟨ho,kF,L hv hw⟩
  ·refine concat_meets ⟨_,ho,rfl⟩ ⟨_,kF,rfl⟩ noFill_tuple_add seq_tuple_add PySem.F.slot_tuple_add PySem.F.entry_tuple_add (PySem.F.args_tuple_add_2 _ _)
    (tuple_addW2 t b vs.toArray ws.toArray n n2 none none #[] #[] (by simpa using hv) (by simpa using hw) (e5▸e5▸hsz)) ⟨ho,kF,?_⟩
   exact e.symm▸O
theorem tu{f:Int->Int->ai H}{o:Operator}{a b:H}{x y:Value}(av:af s.heap α a x)(bb:af s.heap α b y)
  (ax:∀i j t u,f i j≠.stuck->wpAny (model K.prog K.w) A (binaryOp o (.int i t) (.int j u)) (cf K af (f i j) s α) (cW K A (f i j) s α) s):Runs K af A (binaryOp o x y) (rd f a b) s α:=by
 intro hc tk
 cases a with
 | int i =>
  cases b with
  | int j=>refine aJ av.intE fun J ae=>?_;obtain rfl:=ae;refine aJ bb.intE fun J ae=>?_;obtain rfl:=ae;exact ax i j _ _ hc
  | _=>exact absurd rfl hc
 | _=>exact absurd rfl hc
theorem Ky{σ:ac}{P:H->H->ai H->Prop}(h0:∀a b,P a b .stuck)(L:∀i j,P (.int i) (.int j) (.ok (.int (i+j)) σ))(O:∀p q,p.length+q.length<=aB->P (.str p) (.str q) (.ok (.str (p++q)) σ))(ar:∀p q,p.length+q.length<=aB->P (.tup p) (.tup q) (.ok (.tup (p++q)) σ))(aU:∀a b xs ys,cO σ a=some xs->cO σ b=some ys->xs.length+ys.length<=aB->P a b (.ok (.fl (xs++ys)) σ)):∀a b,P a b (wN a b σ):=by
 intro a b
 have o0:P a b (match cO σ a with
  | some x=>match cO σ b with
   | some y=>if x.length+y.length<=aB then .ok (.fl (x++y)) σ else .stuck
   | none=>.stuck
  | none=>.stuck):=by
  cases V:cO σ a with
  | none=>exact h0 _ _
  | some xs =>
   cases aj:cO σ b with
   | none=>exact h0 _ _
   | some ys =>
    dsimp only;by_cases hl:xs.length+ys.length<=aB
    ·rw[az hl];exact aU a b xs ys V aj hl
    ·rw[aY hl];exact h0 _ _
 cases a with
 | int i =>
  cases b with
  | int j=>exact L i j
  | _=>exact h0 _ _
 | str p =>
  cases b with
  | str q =>
   show P _ _ (if p.length+q.length<=aB then ai.ok (H.str (p++q)) σ else .stuck);by_cases hl:p.length+q.length<=aB
   ·rw[az hl];exact O p q hl
   ·rw[aY hl];exact h0 _ _
  | _=>exact h0 _ _
 | tup p =>
  cases b with
  | tup q =>
   show P _ _ (if p.length+q.length<=aB then ai.ok (H.tup (p++q)) σ else .stuck);by_cases hl:p.length+q.length<=aB
   ·rw[az hl];exact ar p q hl
   ·rw[aY hl];exact h0 _ _
  | _=>exact h0 _ _
 | _=>exact o0
theorem Kz{a b:H}{x y:Value}(r:ak K.hb s.heap σ α)(av:af s.heap α a x)(bb:af s.heap α b y):Runs K af A (binaryOp .Add x y) (wN a b σ) s α:=by
 refine Ky (P:=fun a b c=>af s.heap α a x->af s.heap α b y->Runs K af A (binaryOp .Add x y) c s α) (fun J J J J hc=>absurd rfl hc) (fun i j av bb J J=>?_) (fun p q hl av bb J J=>?_) (fun p q hl av bb J J=>?_) (fun a b xs ys L O hl av bb J J=>?_) a b av bb
 ·refine aJ av.intE fun J ae=>?_;obtain rfl:=ae;refine aJ bb.intE fun J ae=>?_;obtain rfl:=ae;exact P.add_int (.here r (.int _ _))
 ·refine aw av.strE fun J ae L=>?_;obtain rfl:=ae;refine aw bb.strE fun J ae O=>?_;obtain rfl:=ae;exact PyProof.Rows.add_str (fun bX tk=>.here r (.str _ _ (Jp L O))) (g6 hl)
 ·obtain⟨t,vs,n,rfl,V,n1,aR⟩:=av.tupE;obtain⟨u,ws,m,rfl,aj,n2,bu⟩:=bb.tupE;refine Kw V aj (aR.1▸bu.1▸(g6 hl)) (fun h=>?_) (fun J h=>?_) (.tup r (aR.append bu))
  ·refine⟨_,_,_,rfl,.refl,r,?_,.refl _⟩;have:_=0:=aR.1.trans (by rw[h];rfl);exact(hY this).symm▸bb
  ·refine⟨_,_,_,rfl,.refl,r,?_,.refl _⟩;have:_=0:=bu.1.trans (by rw[h];rfl);rw[hY this,List.append_nil];exact av
 ·obtain⟨l,vs,n,rfl,V,aR⟩:=k9 r av L;obtain⟨lz,ws,m,rfl,aj,bu⟩:=k9 r bb O;exact Kv V aj (aR.1▸bu.1▸(g6 hl)) (.fl r (aR.append bu))
theorem a7.rep{h:Heap}{xs:List H}{vs:List Value}(v:a7 h α xs vs):∀k:Nat,a7 h α (List.replicate k xs).flatten (List.replicate k vs).flatten
 | 0=>by simpa using a7.nil
 | k+1=>by simpa[List.replicate_succ]using v.append (v.rep k)
theorem Sh{l:Addr}{vs:List Value}{n:Nat}{x:Int}{u:Tok}{Q:Value->Shared->Prop}{E:Value->Shared->Prop}(hl:s.heap.get? l=some { cls:=.type "list",data:=.seq vs.toArray n })(h0:0<=x)(L:x<=100)(O:vs.length<=100)
  (h:Q (.ref s.heap.objs.size) { s with heap:=s.heap.push { cls:=.type "list",data:=.seq (List.replicate x.toNat vs).flatten.toArray } }):wpAny (model K.prog K.w) A (binaryOp .Mult (.ref l) (.int x u)) Q E s:=by
 have hsz:vs.toArray.size*x.toNat<=2 ^ 24:=by
  rw[e5];exact aF (Nat.mul_le_mul O (show x.toNat<=100 by omega)) (by decide)
 refine wpAny_binaryOp_repeat_ref (T := "list") (U := "int") (by decide) ⟨_,hl,rfl⟩ (fun s'=>typeIs_int s' x u) noFill_list_mul F.fills_int_mul F.slot_int_rmul repeat_list F.slot_int_index.lookup
  (call_meets F.slot_int_rmul (typeIs_int s x u) F.entry_int_rmul (F.args_int_rmul_2 _ _) (int___rmul___int_list x u l vs.toArray n)
   ⟨hl,rfl,⟨_,hl,rfl⟩,call_meets F.slot_list_mul ⟨_,hl,rfl⟩ F.entry_list_mul (F.args_list_mul_2 _ _)
    (AutoListH.list___mul___list_int_3 l vs.toArray n x u (by simp[Builtin.List.listFitsIndex];omega) (by omega) (by simp[Builtin.List.listTooLong,sizeLine];simpa using hsz)) ⟨hl,?_⟩⟩)
 rw[listMul_foldl]
 have e:(if vs.toArray.isEmpty=true then 0 else x.toNat)=x.toNat\/vs=[]:=by
  cases vs with
  | nil=>exact .inr rfl
  | cons=>exact .inl rfl
 rcases e with e | rfl
 ·rw[e];simpa using h
 ·simpa using h
theorem Sj{a b:H}{x y:Value}(r:ak K.hb s.heap σ α)(av:af s.heap α a x)(bb:af s.heap α b y):Runs K af A (binaryOp .Mult x y) (Ij a b σ) s α:=by
 intro hc tk
 cases b with
 | int j =>
  refine aJ bb.intE fun J ae=>?_;obtain rfl:=ae
  cases a with
  | int i =>
   refine aJ av.intE fun J ae=>?_;obtain rfl:=ae;change(if qg i j=true then ai.ok (H.int (i*j)) σ else .stuck)≠.stuck at hc;show wpAny _ _ _ (cf K af (if qg i j=true then ai.ok (H.int (i*j)) σ else .stuck) s α) (cW K A (if qg i j=true then ai.ok (H.int (i*j)) σ else .stuck) s α) s;by_cases hm:qg i j=true
   ·rw[az hm];refine P.mul_int (.here r (.int _ _)) ?_;exact(hZ hm).elim (fun h=>.of_left (Cj h)) fun h=>.of_right (Cj h)
   ·rw[aY hm]at hc;exact absurd rfl hc
  | str p =>
   refine aw av.strE fun J ae hx=>?_;obtain rfl:=ae;change(if p.length<=100/\0<=j/\j<=100 then ai.ok (H.str (Txt.mul p j)) σ else .stuck)≠.stuck at hc;show wpAny _ _ _ (cf K af (if p.length<=100/\0<=j/\j<=100 then ai.ok (H.str (Txt.mul p j)) σ else .stuck) s α) (cW K A (if p.length<=100/\0<=j/\j<=100 then ai.ok (H.str (Txt.mul p j)) σ else .stuck) s α) s;by_cases h0:p.length<=100/\0<=j/\j<=100
   ·rw[az h0];exact SB.mul (Si h0) fun bX tk=>.here r (.str _ _ (U4 hx))
   ·rw[aY h0]at hc;exact absurd rfl hc
  | fl xs =>
   obtain⟨l,vs,n,rfl,V,_,v⟩:=av.flE;change(if xs.length<=100/\0<=j/\j<=100 then ai.ok (H.fl (List.replicate j.toNat xs).flatten) σ else .stuck)≠.stuck at hc;show wpAny _ _ _ (cf K af (if xs.length<=100/\0<=j/\j<=100 then ai.ok (H.fl (List.replicate j.toNat xs).flatten) σ else .stuck) s α) (cW K A (if xs.length<=100/\0<=j/\j<=100 then ai.ok (H.fl (List.replicate j.toNat xs).flatten) σ else .stuck) s α) s;by_cases h0:xs.length<=100/\0<=j/\j<=100
   ·rw[az h0];exact Sh V h0.2.1 h0.2.2 (by rw[<- v.1];exact h0.1) (cf.fl r (v.rep _))
   ·rw[aY h0]at hc;exact absurd rfl hc
  | _=>exact absurd rfl hc
 | _=>exact absurd rfl hc
theorem Li{o:mH}{a b:H}{x y:Value}(hA:d9 A)(r:ak K.hb s.heap σ α)(av:af s.heap α a x)(bb:af s.heap α b y) :
  Runs K af A (binaryOp (IJ o) x y) (jO o a b σ) s α:=by
 cases o with
 | add=>exact Kz r av bb
 | mul=>exact Sj r av bb
 | sub=>exact tu av bb fun i j t u J=>P.sub_int (.here r (.int _ _))
 | mod =>
  refine tu av bb fun i j t u hc=>?_;by_cases h0:0<j
  ·rw[az h0,<- Int.fmod_eq_emod_of_nonneg _ (Int.le_of_lt h0)];exact mod_int' (Int.ne_of_gt h0) (.here r (.int _ _))
  ·rw[aY h0]at hc;exact absurd rfl hc
 | fdiv =>
  refine tu av bb fun i j t u hc=>?_;by_cases h0:0<j/\j<1073741824
  ·rw[az h0,<- Int.fdiv_eq_ediv_of_nonneg _ (Int.le_of_lt h0.1)];exact floordiv_int (Int.ne_of_gt h0.1) (.here r (.int _ _)) (.inl (PyProof.noPylong_small (by grind)))
  ·rw[aY h0]at hc;exact absurd rfl hc
 | pow =>
  refine tu av bb fun i j t u hc=>?_;by_cases h0:0<=j/\j<=100/\i=10
  ·rw[az h0];refine dI h0 fun L O ae=>?_;obtain rfl:=ae;refine pow_int L ?_ (.here r (.int _ _))
   have:Builtin.Int.intBits 10=4:=by decide +kernel
   rw[this];(grind)
  ·rw[aY h0]at hc;exact absurd rfl hc
end
end Mine
namespace Mine
open PySem PyProof.Rows
section
variable {K:aQ}{A:Around}{s:Shared}{α:au}{σ:ac}
theorem af.ne_none{h:Heap}{a:H}{x:Value}(v:af h α a x)(hn:a≠.none):x≠.none:=by
 cases v <;> first | exact absurd rfl hn | (intro e;contradiction)
theorem z2{a:H}{x:Value}{xs:List H}{l:Addr}{items:List Value}{n:Nat}{T:String}(dD:T = "list" \/ T = "tuple")(hA:d9 A)(r:ak K.hb s.heap σ α)(av:af s.heap α a x)
  (V:s.heap.get? l=some { cls:=.type T,data:=.seq items.toArray n }) (vs:a7 s.heap α xs items) :
  Runs K ej A (compareOp .In x (.ref l)) (ai.ofOpt (i5 σ a xs) σ) s α ∧
  Runs K ej A (compareOp .NotIn x (.ref l)) (ai.ofOpt ((i5 σ a xs).map (!·)) σ) s α:=by
 unfold i5
 cases L:toD 16 σ a with
 | none=>exact⟨fun hc=>absurd rfl hc,fun hc=>absurd rfl hc⟩
 | some d =>
  cases O:xs.mapM (toD 16 σ)with
  | none=>exact⟨fun hc=>absurd rfl hc,fun hc=>absurd rfl hc⟩
  | some ds =>
   refine bC (qs r 16 a x d av L) fun as aN cr bj=>?_;refine bC (vv (n:=16) O vs.1 fun i x v d V aj bF=>qs r 16 x v d (vs.2 i x v V aj) bF) fun bs r2 ft br=>?_
   have hu:A.units+1+min (PyData.depthAll ds) d.depth<cLine:=by have:=hA.units;(grind)
   rcases dD with rfl | rfl
   ·have sK:Reads s.heap (.ref l) (.list ds) (l::bs):=.list V rfl rfl (by simpa using r2)
    exact⟨fun J J=>SeqAt.in_list_reads sK aN (by simpa[PyData.canLay0]using ft) cr hu ⟨_,σ,α,rfl,.refl,r,rfl,.refl s⟩,
     fun J J=>SeqAt.notIn_list_reads sK aN (by simpa[PyData.canLay0]using ft) cr hu ⟨_,σ,α,rfl,.refl,r,rfl,.refl s⟩⟩
   ·have sK:Reads s.heap (.ref l) (.tuple ds) bs:=.tuple V rfl rfl (by simpa using r2)
    exact⟨fun J J=>SeqAt.in_tuple_reads sK aN (by simpa[PyData.canLay0]using ft) cr hu ⟨_,σ,α,rfl,.refl,r,rfl,.refl s⟩,
     fun J J=>SeqAt.notIn_tuple_reads sK aN (by simpa[PyData.canLay0]using ft) cr hu ⟨_,σ,α,rfl,.refl,r,rfl,.refl s⟩⟩
theorem IH(x:Str)(c:Nat):(!(Builtin.Str.occurrences x ⟨#[c]⟩ 0 x.length 1).isEmpty)=x.cps.toList.contains c:=by
 rw[StrLaws.found_one];simp
theorem vF{f:Int->Int->Bool}{o:CmpOp}{a b:H}{x y:Value}(r:ak K.hb s.heap σ α)(av:af s.heap α a x)(bb:af s.heap α b y)
  (ax:∀i j t u (Q:Value->Shared->Prop) (E:Value->Shared->Prop),Q (.bool (f i j)) s->wpAny (model K.prog K.w) A (compareOp o (.int i t) (.int j u)) Q E s):Runs K ej A (compareOp o x y) (sC f a b σ) s α:=by
 intro hc tk
 cases a with
 | int i =>
  cases b with
  | int j=>refine aJ av.intE fun J ae=>?_;obtain rfl:=ae;refine aJ bb.intE fun J ae=>?_;obtain rfl:=ae;exact ax i j _ _ _ _ ⟨_,σ,α,rfl,.refl,r,rfl,.refl s⟩
  | _=>exact absurd rfl hc
 | _=>exact absurd rfl hc
theorem Hy{f:Bool->Bool}{o:CmpOp}{a b:H}{x y:Value}(r:ak K.hb s.heap σ α)(av:af s.heap α a x)(bb:af s.heap α b y)
  (lR:∀(Q:Value->Shared->Prop) (E:Value->Shared->Prop),Q (.bool (f true)) s->wpAny (model K.prog K.w) A (compareOp o .none .none) Q E s)
  (dS:∀(x:Value) (Q:Value->Shared->Prop) (E:Value->Shared->Prop),x≠.none->Q (.bool (f false)) s->wpAny (model K.prog K.w) A (compareOp o x .none) Q E s)
  (px:∀(p q:Bool) (Q:Value->Shared->Prop) (E:Value->Shared->Prop),Q (.bool (f (decide (p=q)))) s->wpAny (model K.prog K.w) A (compareOp o (.bool p) (.bool q)) Q E s):Runs K ej A (compareOp o x y) (zO f a b σ) s α:=by
 intro hc tk
 cases b with
 | none =>
  obtain rfl:=bb.noneE;show wpAny _ _ _ (cf K ej (.ok (f (lx a)) σ) s α) _ _;by_cases hn:a=.none
  ·subst hn;obtain rfl:=av.noneE;exact lR _ _ ⟨_,σ,α,rfl,.refl,r,rfl,.refl s⟩
  ·have:lx a=false:=by cases a <;> first | rfl | exact absurd rfl hn
   exact this.symm▸(dS _ _ _ (av.ne_none hn) ⟨_,σ,α,rfl,.refl,r,rfl,.refl s⟩)
 | bool q =>
  cases a with
  | bool p=>obtain rfl:=av.boolE;obtain rfl:=bb.boolE;exact px _ _ _ _ ⟨_,σ,α,rfl,.refl,r,rfl,.refl s⟩
  | _=>exact absurd rfl hc
 | _=>exact absurd rfl hc
theorem QG{a:H}{i:Nat}:ep a (.ref i) σ=match σ[i]? with
   | some (.lst xs)=>i5 σ a xs
   | some (.ds es)=>(match a with
    | .str k=>some (aG k es).isSome
    | _=>none)
   | some (.dp es)=>(g5 a).map fun k=>(aG k es).isSome
   | _=>none:=rfl
theorem QF{σ:ac}{P:H->H->Option Bool->Prop}(h0:∀a b,P a b none)(L:∀a xs,P a (.tup xs) (i5 σ a xs))(O:∀a xs,P a (.fl xs) (i5 σ a xs))(ar:∀a i xs,σ[i]?=some (.lst xs)->P a (.ref i) (i5 σ a xs))(aU:∀c z,P (.str ⟨#[c]⟩) (.str z) (some (z.cps.toList.contains c)))
  (dj:∀k i es,σ[i]?=some (.ds es)->P (.str k) (.ref i) (some (aG k es).isSome)) (gd:∀a i es k,σ[i]?=some (.dp es)->g5 a=some k->P a (.ref i) (some (aG k es).isSome))
  : ∀a b,P a b (ep a b σ):=by
 intro a b
 cases b with
 | tup xs=>exact L a xs
 | fl xs=>exact O a xs
 | str z =>
  cases a with
  | str w =>
   unfold ep;dsimp only
   cases rN:w.cps.toList with
   | nil=>exact h0 _ _
   | cons c bd =>
    cases bd with
    | cons _ _=>exact h0 _ _
    | nil =>
     obtain rfl:w=⟨#[c]⟩:=by cases w;simp at rN;simp[<- rN]
     exact aU c z
  | _=>exact h0 _ _
 | ref i =>
  rw[QG]
  cases hs:σ[i]? with
  | none=>exact h0 _ _
  | some m =>
   cases m with
   | lst xs=>exact ar a i xs hs
   | ds es =>
    cases a with
    | str k=>exact dj k i es hs
    | _=>exact h0 _ _
   | dp es =>
    dsimp only
    cases hk:g5 a with
    | none=>exact h0 _ _
    | some k=>exact gd a i es k hs hk
   | _=>exact h0 _ _
 | _=>exact h0 _ _
theorem Hx{a b:H}{x y:Value}(hK:K.Ok)(hA:d9 A)(r:ak K.hb s.heap σ α)(av:af s.heap α a x)(bb:af s.heap α b y):Runs K ej A (compareOp .In x y) (ai.ofOpt (ep a b σ) σ) s α/\Runs K ej A (compareOp .NotIn x y) (ai.ofOpt ((ep a b σ).map (!·)) σ) s α:=by
 refine QF (P:=fun a b o=>af s.heap α a x->af s.heap α b y->Runs K ej A (compareOp .In x y) (ai.ofOpt o σ) s α/\Runs K ej A (compareOp .NotIn x y) (ai.ofOpt (o.map (!·)) σ) s α) (fun J J J J=>⟨fun hc=>absurd rfl hc,fun hc=>absurd rfl hc⟩) (fun a xs av bb=>?_) (fun a xs av bb=>?_) (fun a i xs hs av bb=>?_) (fun c z av bb=>?_)
  (fun k i es hs av bb=>?_) (fun a i es k hs hk av bb=>?_)
  a b av bb
 ·obtain⟨l,items,n,rfl,V,_,vs⟩:=bb.tupE;exact z2 (.inr rfl) hA r av V vs
 ·obtain⟨l,items,n,rfl,V,_,vs⟩:=bb.flE;exact z2 (.inl rfl) hA r av V vs
 ·refine aw bb.refE fun l ae dr=>?_;obtain rfl:=ae;refine cD (r.obj i _ l hs dr) fun items n V vs=>?_;exact z2 (.inl rfl) hA r av V vs
 ·refine aw bb.strE fun J ae J=>?_;obtain rfl:=ae;refine aw av.strE fun J ae J=>?_;obtain rfl:=ae;exact⟨fun J J=>PyProof.Rows.in_str (by rw[IH];exact⟨_,σ,α,rfl,.refl,r,rfl,.refl s⟩),fun J J=>PyProof.Rows.notIn_str (by rw[IH];exact⟨_,σ,α,rfl,.refl,r,rfl,.refl s⟩)⟩
 ·refine aw bb.refE fun l ae dr=>?_;obtain rfl:=ae;refine aw av.strE fun J ae J=>?_;obtain rfl:=ae;exact Qf hK r hs dr
 ·refine aw bb.refE fun l ae dr=>?_;obtain rfl:=ae;exact Qe hK hA r hs dr hk av
theorem pH{o:ig}{a b:H}{x y:Value}(hK:K.Ok)(hA:d9 A)(r:ak K.hb s.heap σ α)(av:af s.heap α a x)(bb:af s.heap α b y) :
  Runs K ej A (compareOp (h3 o) x y) (cQ o a b σ) s α:=by
 cases o with
 | eq=>exact LZ hA r av bb
 | ne=>exact L0 hA r av bb
 | lt=>exact vF r av bb fun i j t u Q E h=>P.lt_int h
 | le=>exact vF r av bb fun i j t u Q E h=>P.le_int h
 | gt=>exact vF r av bb fun i j t u Q E h=>P.gt_int h
 | ge=>exact vF r av bb fun i j t u Q E h=>P.ge_int h
 | is=>exact Hy (f:=id) r av bb (fun Q E h=>is_none_none h) (fun x Q E hn h=>is_none_ne hn h) fun p q Q E h=>is_bool h
 | isNot=>exact Hy (f:=(!·)) r av bb (fun Q E h=>isnot_none_none h) (fun x Q E hn h=>isnot_none_ne hn h) fun p q Q E h=>isnot_bool h
 | isin=>exact(Hx hK hA r av bb).1
 | notin=>exact(Hx hK hA r av bb).2
end
end Mine
namespace Mine
open PySem PyProof.Rows
noncomputable def fF(ys:List Str)(i:Nat):List Str:=gD (ys.take i)
noncomputable def o6(a:List Str)(x:Str):List Str:=if a.any (· == x)then a else a++[x]
theorem H6{ys:List Str}{i:Nat}{y:Str}(h:ys[i]?=some y):fF ys (i+1)=o6 (fF ys i) y:=by
 unfold fF gD;rw[List.take_add_one,h,Option.toList_some,List.foldl_append];rfl
theorem TN(a:List Str)(v k:Str):(o6 a v).any (· == k)=(a.any (· == k)||decide (k=v)):=by
 unfold o6;by_cases h:a.any (· == v)=true
 ·rw[az h];by_cases e:k=v
  ·subst e;rw[h];rfl
  ·simp[e]
 ·rw[aY h,List.any_append];congr 1;by_cases e:k=v
  ·subst e;simp
  ·have:(v == k)=false:=by simpa using fun q:v=k=>e q.symm
   simp[e,this]
theorem IY(a:List Str)(v:Str):(o6 a v).length=if a.any (· == v)then a.length else a.length+1:=by
 unfold o6;split <;> simp
theorem Mb(l:List Str):(gD l).length<=l.length:=by
 unfold gD
 have:∀(l a:List Str),(l.foldl o6 a).length<=a.length+l.length:=by
  intro l
  induction l with
  | nil=>intro a;simp
  | cons x l ag =>
   intro a;have L:=ag (o6 a x);have O:=IY a x;rw[iO,dv]
   split at O <;> (grind)
 have h:=this l [];rw[List.length_nil,Nat.zero_add]at h;exact h
theorem R4(ys:List Str)(i:Nat):(fF ys i).length<=i:=aF (Mb _) (List.length_take.symm▸(Nat.min_le_left _ _))
theorem Jq:∀{vs:List Value} {ys:List Str},StrsAre vs ys->∀(i:Nat) (v:Value),vs[i]?=some v->∃y t,ys[i]?=some y/\v=.str y t
 | _,_,.nil,i,v,h=>(nomatch h)
 | _,_,.cons y t r,0,v,h=>by simp at h;exact⟨y,t,rfl,h.symm⟩
 | _,_,.cons y t r,i+1,v,h=>by simpa using Jq r i v (by simpa using h)
theorem AU:∀{vs:List Value} {ys:List Str},StrsAre vs ys->vs.length=ys.length
 | _,_,.nil=>rfl
 | _,_,.cons _ _ r=>by simp[AU r]
section
variable {prog:Program}{w:World}{A:Around}{ak:Result->Shared->Prop}{I:Addr}{fp lP:List Addr}{G:Array GenState->Array GenState->Prop}{n:Nat}{P:Nat->Value->Prop}{St:Nat->Shared->Prop}
theorem Ja(W:WalksS prog w A.in1 I fp lP G n P St)(S:Addr)(rI:S∉fp)(ys:List Str)(u3:∀i v,P i v->∃y t,ys[i]?=some y/\v=.str y t)(hb:n+1<scanBound) :
  ∀(k i:Nat) (s:Shared),n-i=k->i<=n->St i s->s.heap.SetOf (strKind prog w) S (fun z=>(fF ys i).any (· == z)) (fF ys i).length ->
   (∀s',Moved (S::lP) G s s'->s'.heap.SetOf (strKind prog w) S (fun z=>(fF ys n).any (· == z)) (fF ys n).length->ak (.ok (.ret .none)) s') ->
   codeAny (model prog w) A (.builtin "set.update.loop" ⟨[.ref S,.ref I],[]⟩) ak s:=by
 have Og:S∉lP:=fun h=>rI (W.sub _ h);have u2:∀b∈lP,b∈S::lP:=fun b hb=>bI _ hb
 have Jj:∀{s s':Shared} {i:Nat},Moved lP G s s'->s.heap.SetOf (strKind prog w) S (fun z=>(fF ys i).any (· == z)) (fF ys i).length->s'.heap.SetOf (strKind prog w) S (fun z=>(fF ys i).any (· == z)) (fF ys i).length:=by
  intro s s' i hm iX;refine xi iX fun o es d5 t ho rest=>?_;exact⟨o,es,d5,t,hm.heap S _ Og ho,rest⟩
 intro k
 induction k with
 | zero =>
  intro i s hk hi hst iX hR
  have:i=n:=by grind
  subst this;refine codeAny_builtin F.entry_set_update_loop ?_;rw[Around.under_plainId F.plain_set_update_loop _];show wpAny _ A.in1 (pyNext (.ref I) >>= _) _ _ s;refine aI (W.done s _ _ hst fun s' hm=>?_);exact bx (hR s' (hm.mono u2) (Jj hm iX))
 | succ k ag =>
  intro i s hk hi hst iX hR
  have eZ:i<n:=by grind
  refine codeAny_builtin F.entry_set_update_loop ?_;rw[Around.under_plainId F.plain_set_update_loop _];show wpAny _ A.in1 (pyNext (.ref I) >>= _) _ _ s;refine aI (W.item i s _ _ eZ hst fun v s' uM PL hm=>?_);refine cD (u3 i v uM) fun y t hy ae=>?_;obtain rfl:=ae;show wpAny _ A.in1 (holding [Value.str y t] (setAdd S (.str y t)) >>= _) _ _ s';refine aI (f6 ?_);unfold setAdd;refine f6 (aI ((strKind prog w).pyHash (k:=y) (strKind_is _ _ _ _) ?_));have kB:s'.heap.SetOf (strKind prog w) S (fun z=>(fF ys i).any (· == z)) (fF ys i).length:=Jj hm iX;refine wpAny_setAddHashed_of (knd:=strKind prog w) (s:={ s' with toks:=s'.toks+1 }) (strKind_is _ _ _ _) rfl kB (by have:=R4 ys i;(grind)) fun h' u0 hS2=>?_
  have Of:h'.SetOf (strKind prog w) S (fun z=>(fF ys (i+1)).any (· == z)) (fF ys (i+1)).length:=
   SetOf_congr hS2 (fun z=>by rw[H6 hy,TN]) (by rw[H6 hy,IY])
  refine bx ⟨plainId_quiet F.plain_set_update_loop _,ag (i+1) _ (by grind) eZ (W.frame _ s' _ _ PL (Nat.le_succ _) fun b hb o e=>?_) Of fun iG Pd Oe=>?_⟩
  ·rw[u0.2 b (fun h:b=S=>rI (h▸hb))];exact e
  ·refine hR iG (Moved.trans W.gtrans ((hm.mono u2).then_heap (Nat.le_succ _) fun b o hb e=>?_) Pd) Oe;rw[u0.2 b (fun h:b=S=>hb (h▸bi))];exact e
end
theorem Vf:isSubtype (.type "tuple") (.type "set")=pure false:=by rw[isSubtype_type];kernel_rfl
theorem Ve:isSubtype (.type "tuple") (.type "frozenset")=pure false:=by rw[isSubtype_type];kernel_rfl
section
variable {prog:Program}{w:World}{A:Around}{E:Value->Shared->Prop}{s:Shared}
set_option maxHeartbeats 1600000 in
theorem Uo{l:Addr}{T:String}{items:Array Value}{n:Nat}{ys:List Str}{led:Bool}{Q:Value->Shared->Prop}(aO:A.handled=none)(dD:T = "list" \/ T = "tuple")
  (ho:s.heap.get? l=some { cls:=.type T,data:=.seq items n }) (hi:StrsAre items.toList ys) (hb:items.size+1<scanBound)
  (h:∀(h':Heap) (tk:Nat),h'.SetOf (strKind prog w) s.heap.objs.size (fun z=>(gD ys).any (· == z)) (gD ys).length->(∀b o,b<s.heap.objs.size->s.heap.get? b=some o->h'.get? b=some o)->Q .none { s with heap:=h',toks:=tk }) :
  codeAny (model prog w) A (.call (.builtin "set.__init__") ⟨[.ref s.heap.objs.size,.ref l],[]⟩) (wants Q E) { s with heap:=s.heap.push { cls:=.type "set",dict:=none,data:=.set #[] 0 (.fresh 0 0 led) } }:=by
 have iX:(s.heap.push { cls:=.type "set",dict:=none,data:=.set #[] 0 (.fresh 0 0 led) }).get? s.heap.objs.size=some { cls:=.type "set",dict:=none,data:=.set #[] 0 (.fresh 0 0 led) }:=ec _ rfl;have yZ:Shared.TypeIs { s with heap:=s.heap.push { cls:=.type "set",dict:=none,data:=.set #[] 0 (.fresh 0 0 led) } } (.ref s.heap.objs.size) "set" := ⟨_,iX,rfl⟩;have GK:l<s.heap.objs.size:=eQ ho;have oS:(s.heap.push { cls:=.type "set",dict:=none,data:=.set #[] 0 (.fresh 0 0 led) }).get? l=some { cls:=.type T,data:=.seq items n }:=cP _ ho;have cZ:(ys.take items.size)=ys:=List.take_of_length_le (by rw[<- AU hi];simp)
 have Ph:fF ys items.size=gD ys:=by unfold fF;rw[cZ]
 have GF:A.in1.in1.handled=none:=by simp[aO]
 have GV:l≠(s.heap.push { cls:=.type "set",dict:=none,data:=.set #[] 0 (.fresh 0 0 led) }).objs.size:=by
  rw[Heap.size_push];exact fE (k7 GK)
 have rI:s.heap.objs.size∉[(s.heap.push { cls:=.type "set",dict:=none,data:=.set #[] 0 (.fresh 0 0 led) }).objs.size,l]:=by
  rw[Heap.size_push];simp only[bE,dT,or_false,not_or];exact⟨fE (Nat.lt_succ_self _),cS GK⟩
 have u3:∀(i:Nat) (v:Value),items[i]?=some v->∃y t,ys[i]?=some y/\v=.str y t:=fun i v hv=>Jq hi i v ((Array.getElem?_toList).symm▸hv)
 have cs:∀(s':Shared) (lP:List Addr),(∀b∈lP,b=s.heap.objs.size\/b=(s.heap.push { cls:=.type "set",dict:=none,data:=.set #[] 0 (.fresh 0 0 led) }).objs.size)->∀(L:Heap),(∀b o,s.heap.get? b=some o->L.get? b=some o) ->
   Moved lP (fun a b=>b=a) { s with heap:=L } s'->s'.heap.SetOf (strKind prog w) s.heap.objs.size (fun z=>(fF ys items.size).any (· == z)) (fF ys items.size).length->Q .none s':=by
  intro s' lP P0 L hk hm kB;obtain⟨h',NA,eV,e1,vG⟩:=s';have My:NA=s.gens:=hm.gens;have Mu:eV=s.drawn:=hm.drawn;have f9:vG=s.os:=hm.os;subst My;subst Mu;subst f9;refine h h' e1 (Ph▸kB) fun b o hb e=>hm.heap b o (fun q=>?_) (hk b o e)
  rcases P0 b q with q | q
  ·exact absurd q (fE hb)
  ·rw[Heap.size_push]at q;exact absurd q (fE (k7 hb))
 have start:∀(c:String),Heap.SetOf (strKind prog w) ((s.heap.push { cls:=.type "set",dict:=none,data:=.set #[] 0 (.fresh 0 0 led) }).push { cls:=.type c,data:=.fields #[.ref l,.int 0 0] }) s.heap.objs.size (fun z=>(fF ys 0).any (· == z)) (fF ys 0).length:=fun c =>
  SetOf_congr ((setObjOf_fresh (knd:=strKind prog w) led).setOf (cP _ iX) (by unfold scanBound;(decide))) (fun J=>rfl) rfl
 refine codeAny_call_builtin F.called_set.init.plain F.entry_set_init (check_set_init_1 yZ ?_)
 rcases dD with rfl | rfl
 ·have PJ:=F.sub_list_set;have PI:=F.sub_list_frozenset
  have dc:(Value.type "list" == Value.type "dict")=false:=by decide
  have lr:(s.heap.push { cls:=.type "set",dict:=none,data:=.set #[] 0 (.fresh 0 0 led) }).IsList l items:=⟨_,oS,rfl,n,rfl⟩;unfold Builtin.«set.__init__» noKeywords Builtin.Frozenset.updateFrom;generalize yU:pyIter=Kl
  wp_walk
  subst yU;refine wpAny_pyIter_list lr (aI (wpAny_runValue ?_));refine Ja ((Walks.list GF _ l GV items).toS) s.heap.objs.size rI ys u3 hb (items.size-0) 0 _ ((Nat.add_zero _)) (Nat.zero_le _) ?hst ?hS0 ?hR
  case hst=>exact⟨⟨_,ec _ rfl,rfl,rfl⟩,lr.push _⟩
  case hS0=>exact start _
  case hR =>
  intro s' hm kB;show wpAny _ _ _ _ _ _;refine bx ?_;show wpAny _ _ (ret Value.none) _ _ _;refine bx ?_;refine cs s' _ ?_ _ (fun b o e=>cP _ (cP _ e)) hm kB;intro b hb
  rcases bE.mp hb with q | q
  ·exact .inl q
  ·exact .inr (dt.mp q)
 ·have PJ:=Vf;have PI:=Ve
  have dc:(Value.type "tuple" == Value.type "dict")=false:=by decide
  have lr:(s.heap.push { cls:=.type "set",dict:=none,data:=.set #[] 0 (.fresh 0 0 led) }).IsTuple l items:=⟨_,oS,rfl,n,rfl⟩;unfold Builtin.«set.__init__» noKeywords Builtin.Frozenset.updateFrom;generalize yU:pyIter=Kl
  wp_walk
  subst yU;refine wpAny_pyIter_tuple lr (aI (wpAny_runValue ?_));refine Ja ((Walks.tuple GF _ l GV items).toS) s.heap.objs.size rI ys u3 hb (items.size-0) 0 _ ((Nat.add_zero _)) (Nat.zero_le _) ?hst2 ?hS2 ?hR2
  case hst2=>exact⟨⟨_,ec _ rfl,rfl,rfl⟩,⟨_,cP _ oS,rfl,n,rfl⟩⟩
  case hS2=>exact start _
  case hR2 =>
  intro s' hm kB;show wpAny _ _ _ _ _ _;refine bx ?_;show wpAny _ _ (ret Value.none) _ _ _;refine bx ?_;refine cs s' _ ?_ _ (fun b o e=>cP _ (cP _ e)) hm kB;intro b hb
  rcases bE.mp hb with q | q
  ·exact .inl q
  ·exact .inr (dt.mp q)
set_option maxRecDepth 100000 in
set_option maxHeartbeats 3200000 in
theorem LG{l:Addr}{T:String}{items:Array Value}{n:Nat}{ys:List Str}{Q:Value->Shared->Prop}(aO:A.handled=none)(dD:T = "list" \/ T = "tuple")
  (ho:s.heap.get? l=some { cls:=.type T,data:=.seq items n }) (hi:StrsAre items.toList ys) (hb:items.size+1<scanBound)
  (h:∀(h':Heap) (tk:Nat),h'.SetOf (strKind prog w) s.heap.objs.size (fun z=>(gD ys).any (· == z)) (gD ys).length->(∀b o,b<s.heap.objs.size->s.heap.get? b=some o->h'.get? b=some o)->Q (.ref s.heap.objs.size) { s with heap:=h',toks:=tk }) :
  wpAny (model prog w) A (call (.type "set") [.ref l]) Q E s:=by
 refine hL F.called_set.mro fun c iJ XF=>?_;have XD:=F.called_set.made;have u2:=F.called_set.sub;refine wpAny_call (codeAny_of_tree ?_);show wpAny _ _ (callAny (.type "set") _) _ _ _;refine bx ⟨Code.quiet_builtin _ (by decide +kernel),codeAny_builtin F.entry_type_call ?_⟩;rw[Around.under_plain (weight_type_call_type "set" [.ref l] []) rfl];have L:=F.called_set.notType;have O:=F.called_set.canCreate;have Xx:=F.typeCall_set_1 (.ref l)
 repeat (any_goals (first | assumption | wp_step))
 refine codeAny_mono (code_set_new_1 (.ref l) (E:=E) (Q₁:=fun obj s₁=>∃led:Bool,obj=.ref s.heap.objs.size/\s₁={ s with heap:=s.heap.push { cls:=.type "set",dict:=none,data:=.set #[] 0 (.fresh 0 0 led) } }) fun led=>⟨led,rfl,rfl⟩) fun r s₁ hr=>?_
 cases r with
 | error e=>exact hr
 | ok fl =>
  cases fl with
  | ret obj =>
   refine aw hr fun led ae bd=>?_;obtain rfl:=ae;obtain rfl:=bd;have iX:(s.heap.push { cls:=.type "set",dict:=none,data:=.set #[] 0 (.fresh 0 0 led) }).get? s.heap.objs.size=some { cls:=.type "set",dict:=none,data:=.set #[] 0 (.fresh 0 0 led) }:=ec _ rfl;have Xv:Shared.TypeIs { s with heap:=s.heap.push { cls:=.type "set",dict:=none,data:=.set #[] 0 (.fresh 0 0 led) } } (.ref s.heap.objs.size) "set" := ⟨_,iX,rfl⟩;have XB:=F.called_set.init.lookup;have m3:=F.called_set.init.bind (.ref s.heap.objs.size)
   repeat (any_goals (first | assumption | wp_step))
   refine codeAny_mono (Uo (led:=led) (E:=E) (Q:=fun r aX=>r=.none/\∃h' tk,aX={ s with heap:=h',toks:=tk } ∧
     h'.SetOf (strKind prog w) s.heap.objs.size (fun z=>(gD ys).any (· == z)) (gD ys).length/\(∀b o,b<s.heap.objs.size->s.heap.get? b=some o->h'.get? b=some o)) (by simp[aO]) dD ho hi hb fun h' tk kB hk=>⟨rfl,h',tk,rfl,kB,hk⟩) fun dX aX zs=>?_
   cases dX with
   | error e=>exact zs
   | ok Nl =>
    cases Nl with
    | ret r =>
     obtain⟨rfl,h',tk,rfl,kB,rR⟩:=zs
     repeat (any_goals (first | assumption | wp_step))
     exact h _ _ kB rR
    | _=>exact zs.elim
  | _=>exact hr.elim
end
end Mine
namespace Mine
open PySem PyProof.Rows
theorem B0{h:Heap}{α:au}:∀{xs:List H} {l:List Int} {items:List Value},f7 xs=some l->a7 h α xs items->IntsAre items l:=by
 intro xs
 induction xs with
 | nil =>
  intro l items e v;obtain rfl:=oi e;have:items=[]:=hY v.1.symm;exact this.symm▸.nil
 | cons x xs ag =>
  intro l items e v;refine cD v.inv_cons fun u us ae bd=>?_;obtain rfl:=ae;refine aP bd fun aR bu=>?_
  cases x with
  | int i =>
   refine aJ aR.intE fun J ae=>?_;obtain rfl:=ae;change(f7 xs).map (i::·)=_ at e
   cases hr:f7 xs with
   | none=>rw[hr]at e;contradiction
   | some nf=>rw[hr]at e;obtain rfl:=oi e;exact .cons _ _ (ag hr bu)
  | _=>exact nomatch e
theorem KL{h:Heap}{α:au}:∀{xs:List H} {l:List Str} {items:List Value},kn xs=some l->a7 h α xs items->StrsAre items l:=by
 intro xs
 induction xs with
 | nil =>
  intro l items e v;obtain rfl:=oi e;have:items=[]:=hY v.1.symm;exact this.symm▸.nil
 | cons x xs ag =>
  intro l items e v;refine cD v.inv_cons fun u us ae bd=>?_;obtain rfl:=ae;refine aP bd fun aR bu=>?_
  cases x with
  | str i =>
   refine aw aR.strE fun J ae J=>?_;obtain rfl:=ae;change(kn xs).map (i::·)=_ at e
   cases hr:kn xs with
   | none=>rw[hr]at e;contradiction
   | some nf=>rw[hr]at e;obtain rfl:=oi e;exact .cons _ _ (ag hr bu)
  | _=>exact nomatch e
theorem U5(x:String):PyData.strOk (Str.ofString x)=true:=by
 rw[Str.ofString_eq_toList];unfold PyData.strOk;rw[Array.all_eq_true'];intro c hc;simp at hc;refine aw hc fun d J ae=>?_;obtain rfl:=ae;have:=d.valid;simp only[im]
 rcases this with h | ⟨_,h⟩
 ·exact dw h (by decide)
 ·exact h
theorem UK{i:Int}(h:0<=i/\i<1000000000):i.natAbs.log2<1920:=by
 by_cases h0:i.natAbs=0
 ·rw[h0];decide
 ·rw[Nat.log2_lt h0];exact gP (show i.natAbs<1000000000 by grind) (aF (show 1000000000<=2 ^ 30 by decide) (Nat.pow_le_pow_right (by decide) (by decide)))
theorem Hs:∀{items:List Value} {l:List Int},IntsAre items l->∃xs:Array (Int×Tok),items.toArray=intItems xs/\xs.toList.map (·.1)=l
 | _,_,.nil=>⟨#[],by simp[intItems],rfl⟩
 | _,_,.cons n t r=>by
  refine aw (Hs r) fun xs V aj=>?_;refine⟨⟨(n,t)::xs.toList⟩,?_,by simp[aj]⟩;have:intItems xs=⟨_⟩:=V.symm;simp only[intItems]at V ⊢;rw[<- Array.toList_inj]at V ⊢;simp at V ⊢;exact V
section
variable {K:aQ}{A:Around}{s:Shared}{α:au}{σ:ac}
theorem gG{a:Addr}{items:List Value}{n:Nat}(e:s.heap.get? a=some { cls:=.type "list",data:=.seq items.toArray n }):s.heap.IsList a items.toArray:=⟨_,e,rfl,n,rfl⟩
theorem vg{a:Addr}{items:List Value}{n:Nat}(e:s.heap.get? a=some { cls:=.type "tuple",data:=.seq items.toArray n }):IsTup s.heap a items.toArray:=⟨_,e,rfl,n,rfl⟩
noncomputable def n7:fX->Value
 | .len=>.builtin "len" | .list _=>.type "list" | .tuple=>.type "tuple" | .all=>.builtin "all" | .int=>.type "int" | .str=>.type "str" | .lenset=>.none
 | .sum=>.builtin "sum"
 | .min=>.builtin "min" | .max=>.builtin "max"
 | .sorted=>.builtin "sorted"
 | .dict=>.none
theorem FS{f:Int->Int->Int}{ak:Int->Int->Prop}(Ub:∀a,ak a a)(tr:∀{a b c},ak a b->ak b c->ak a c)(L:∀x y,ak (f x y) x)(O:∀x y,ak (f x y) y)(ar:∀x y,f x y=x\/f x y=y)(l:List Int):∀x,(∀a∈x::l,ak (l.foldl f x) a)/\l.foldl f x∈x::l:=by
 induction l with
 | nil=>exact fun x=>⟨fun a ha=>dt.mp ha▸Ub x,bi⟩
 | cons y l ag =>
  intro x;refine aP (ag (f x y)) fun q1 q2=>?_;have g9:=q1 _ bi;refine⟨fun a ha=>?_,?_⟩
  ·rcases bE.mp ha with e | ha
   ·exact e.symm▸(tr g9 (L x y))
   ·rcases bE.mp ha with e | ha
    ·rw[e];exact tr g9 (O x y)
    ·exact q1 a (bI _ ha)
  ·rcases bE.mp q2 with e | q
   ·rcases ar x y with z | z
    ·rw[iO,e.trans z];exact bi
    ·rw[iO,e.trans z];exact bI _ bi
   ·exact bI _ (bI _ q)
theorem No(l:List Int)(x:Int):(∀a∈x::l,l.foldl min x<=a)/\l.foldl min x∈x::l:=
 FS (ak:=(· <= ·)) Int.le_refl Int.le_trans Int.min_le_left Int.min_le_right (fun x y=>by rcases Int.le_total x y with h | h;exact .inl (Int.min_eq_left h);exact .inr (Int.min_eq_right h)) l x
theorem Nn(l:List Int)(x:Int):(∀a∈x::l,a<=l.foldl max x)/\l.foldl max x∈x::l:=
 FS (ak:=fun a b=>b<=a) Int.le_refl (fun p q=>Int.le_trans q p) Int.le_max_left Int.le_max_right (fun x y=>by rcases Int.le_total x y with h | h;exact .inr (Int.max_eq_right h);exact .inl (Int.max_eq_left h)) l x
theorem Hn{x:Int}(h:x.natAbs<=1000*2 ^ 40):InLong x:=by unfold InLong;omega
theorem Vi{l:List Int}(L:l.length<=1000)(O:l.all (fun x=>decide (x.natAbs<2 ^ 40))=true):∀j,j<l.length->InLong (l.getD j 0)/\InLong ((l.take (j+1)).sum):=by
 have key:∀(m:List Int),(∀x∈m,x.natAbs<2 ^ 40)->m.sum.natAbs<=m.length*2 ^ 40:=by
  intro m
  induction m with
  | nil=>intro _;exact Nat.zero_le _
  | cons x m ag =>
   intro h;rw[List.sum_cons,dv,Nat.succ_mul,Nat.add_comm];exact aF (Int.natAbs_add_le x m.sum) (Nat.add_le_add (hH (h x bi)) (ag fun y hy=>h y (bI _ hy)))
 intro j a0;have Gs:∀x∈l,x.natAbs<2 ^ 40:=fun x hx=>hZ (fC.mp O x hx);refine⟨Hn (aF (hH (Gs _ (getD_mem a0))) (by decide)),Hn (aF (key (l.take (j+1)) fun x hx=>Gs x (List.mem_of_mem_take hx)) (Nat.mul_le_mul_right _ (aF ?_ L)))⟩;rw[List.length_take];exact Nat.min_le_right _ _
inductive BQ(h:Heap)(α:au)(a:H)(xs:List H)(x:Value):Prop
 | mk (l:Addr) (T:String) (vs:List Value) (n:Nat) (e:x=.ref l) (dD:T = "list" \/ T = "tuple") (a1:h.get? l=some { cls:=.type T,data:=.seq (List.toArray vs) n }) (v:a7 h α xs vs) (ha:T = "tuple" -> a=.tup xs):BQ h α a xs x
theorem vP{a:H}{x:Value}{xs:List H}(r:ak K.hb s.heap σ α)(av:af s.heap α a x)(e:d0 σ a=some xs) :
  BQ s.heap α a xs x:=by
 cases a with
 | fl ys=>obtain rfl:=oi e;obtain⟨l,vs,n,rfl,V,_,v⟩:=av.flE;exact⟨l,_,vs,n,rfl,.inl rfl,V,v,fun h=>(nomatch h)⟩
 | tup ys=>obtain rfl:=oi e;obtain⟨l,vs,n,rfl,V,_,v⟩:=av.tupE;exact⟨l,_,vs,n,rfl,.inr rfl,V,v,fun J=>rfl⟩
 | ref i =>
  refine aw av.refE fun l ae dr=>?_;obtain rfl:=ae;simp only[d0]at e
  cases hs:σ[i]? with
  | none=>rw[hs]at e;contradiction
  | some m =>
   rw[hs]at e
   cases m with
   | lst ys=>obtain rfl:=oi e;refine cD (r.obj i _ l hs dr) fun vs n V v=>?_;exact⟨l,_,vs,n,rfl,.inl rfl,V,v,fun h=>(nomatch h)⟩
   | _=>contradiction
 | _=>contradiction
theorem cf.list{a6:Bool}{xs:List H}{vs:List Value}{D:Addr}{h':Heap}{n tk:Nat}(hl:xs.length<=aB)(r:ak K.hb s.heap σ α)(v:a7 s.heap α xs vs)(k:∀b o,s.heap.get? b=some o->h'.get? b=some o)
  (hD:s.heap.get? D=none) (e:h'.get? D=some { cls:=.type "list",data:=.seq vs.toArray n }):cf K af (er a6 xs σ) s α (.ref D) { s with heap:=h',toks:=tk }:=by
 unfold er;rw[az hl]
 cases a6 with
 | true =>
  refine⟨_,_,_,rfl,.keeps k,r.keeps k,?_,⟨rfl,rfl⟩⟩;refine af.flI e (fun hm=>?_) (v.ext (.keeps (F:=[]) k));refine aJ (r.liveAll hm) fun o e=>?_;rw[hD]at e;contradiction
 | false =>
  refine aP (r.add (D:=D) (m:=.lst xs) k hD ⟨vs,n,e,v.ext (.add k hD)⟩) fun aC x=>?_;refine⟨_,_,_,rfl,x,aC,.ref ?_,⟨rfl,rfl⟩⟩;rw[r.len];simp[au.add]
theorem Sf{a6:Bool}{xs:List H}(h:er a6 xs σ≠.stuck):xs.length<=aB:=by
 unfold er at h;by_cases hl:xs.length<=aB
 ·exact hl
 ·rw[aY hl]at h;exact absurd rfl h
theorem Rw{a6:Bool}{a:H}{x:Value}(r:ak K.hb s.heap σ α)(av:af s.heap α a x) :
  Runs K af A (call (.type "list") [x]) (db (.list a6) a σ) s α:=by
 intro hc tk
 cases he:d0 σ a with
 | none=>exact absurd (show(match d0 σ a with | some xs=>er a6 xs σ | none=>.stuck)=.stuck by rw[he]) hc
 | some xs =>
  have bt:db (.list a6) a σ=er a6 xs σ:=show(match d0 σ a with | some xs=>er a6 xs σ | none=>.stuck)=_ by rw[he]
  rw[bt]at hc ⊢;have hl:=Sf hc;obtain⟨l,T,vs,n,rfl,dD,V,v,_⟩:=vP r av he;refine call_list_seq l dD V rfl rfl (fun h' c3 k e=>?_) (by simpa[<- v.1]using g6 hl);exact cf.list (tk:=s.toks) hl r v k (kJ s) e
theorem UN{l m:List Int}(L:m.Perm l)(O:m.Pairwise (· <= ·)):m=eB l:=by
 unfold eB;refine List.Perm.eq_of_pairwise (le:=fun a b=>decide (a<=b)) (fun a b J J L O=>?_) (O.imp fun h=>by simpa using h) (List.pairwise_mergeSort (fun a b c L O=>?_) (fun a b=>?_) l) (L.trans (List.mergeSort_perm l _).symm)
 ·simp at L O;(grind)
 ·simp at L O ⊢;(exact Int.le_trans (by assumption) (by assumption))
 ·simp;(grind)
theorem Ht{h:Heap}:∀{vs:List Value} {l:List Int},IntsAre vs l->a7 h α (l.map .int) vs
 | _,_,.nil=>.nil
 | _,_,.cons n t r=>.cons (.int n t) (Ht r)
theorem oZ{n:Nat}(h:n<=aB):((n:Nat):Int)<2 ^ 63:=by
 have:aB=1000000:=rfl
 (grind)
theorem KJ{h:Heap}:∀{xs:List H} {l:List Bool} {vs:List Value},lT xs=some l->a7 h α xs vs->vs=l.map .bool:=by
 intro xs
 induction xs with
 | nil =>
  intro l vs e v;obtain rfl:=oi e;exact hY v.1.symm
 | cons x xs ag =>
  intro l vs e v;refine cD v.inv_cons fun u us ae bd=>?_;obtain rfl:=ae;refine aP bd fun aR bu=>?_
  cases x with
  | bool b =>
   obtain rfl:=aR.boolE;change(lT xs).map (b::·)=_ at e
   cases hr:lT xs with
   | none=>rw[hr]at e;contradiction
   | some nf=>rw[hr]at e;obtain rfl:=oi e;rw[ag hr bu];rfl
  | _=>exact nomatch e
theorem T0(l:List Bool):(List.range l.length).all (fun i=>l.getD i false)=l.all id:=by
 induction l with
 | nil=>rfl
 | cons b l ag=>rw[dv,List.range_succ_eq_map,List.all_cons,List.all_map,List.all_cons,<- ag];rfl
theorem QX{o:Obj}{h':Heap}(hk:∀b aK,b∉[s.heap.objs.size]->(s.heap.push o).get? b=some aK->h'.get? b=some aK):∀b aK,s.heap.get? b=some aK->h'.get? b=some aK:=
 fun b aK e=>hk b aK (by simp;exact fE (eQ e)) (cP _ e)
theorem Ll(bs:List Bool):TruthOf K.prog K.w A.in1 (fun i v=>(bs.map Value.bool).toArray[i]?=some v) (fun i=>bs.getD i false):=fun i v s' nW dF uM a2=>by
 simp only[List.getElem?_toArray,fB]at uM;refine aw (Option.map_eq_some_iff.mp uM) fun b hb ae=>?_;obtain rfl:=ae;refine wpAny_truthy_bool ?_
 have:bs.getD i false=b:=by simp[List.getD,hb]
 exact this▸a2
theorem Lk{l:Addr}{bs:List Bool}{n:Nat}(V:s.heap.get? l=some { cls:=.type "list",data:=.seq (bs.map Value.bool).toArray n }) :
  (s.heap.push { cls:=.type "list_iterator",data:=.fields #[.ref l,.int 0 0] }).IsListIter s.heap.objs.size l 0/\(s.heap.push { cls:=.type "list_iterator",data:=.fields #[.ref l,.int 0 0] }).IsList l (bs.map Value.bool).toArray:=
 ⟨⟨_,ec _ rfl,rfl,rfl⟩,⟨_,cP _ V,rfl,n,rfl⟩⟩
theorem KP{l:Addr}{bs:List Bool}{n:Nat}{Q:Value->Shared->Prop}{E:Value->Shared->Prop}(hA:d9 A)(aO:A.handled=none)(V:s.heap.get? l=some { cls:=.type "list",data:=.seq (bs.map Value.bool).toArray n })
  (h:∀h' tk,(∀b aK,s.heap.get? b=some aK->h'.get? b=some aK)->Q (.bool (bs.all id)) { s with heap:=h',toks:=tk }):wpAny (model K.prog K.w) A (call (.builtin "all") [.ref l]) Q E s:=by
 refine call_all_walk (wpAny_pyIter_list (gG V) ⟨_,_,_,_,_,_,_,rfl,Walks.list (A:=A.in1) aO _ l (fE (eQ V)) (bs.map Value.bool).toArray,Lk V,Ll bs,fun h' tk hk=>?_⟩);have:=h h' tk (QX hk);rw[show(bs.map Value.bool).toArray.size=bs.length by simp,T0];exact this
theorem Rr{a:H}{x:Value}{l:List Str}{Q:Value->Shared->Prop}{E:Value->Shared->Prop}(hA:d9 A)(aO:A.handled=none)(r:ak K.hb s.heap σ α)(av:af s.heap α a x)(hl:(d0 σ a).bind kn=some l)(hn:l.length<=1000)
  (h:∀D h' tk,(∀b o,s.heap.get? b=some o->h'.get? b=some o)->(∀(nW:Value->Shared->Prop) (dF:Value->Shared->Prop),(∀t e1,nW (.int (gD l).length t) { s with heap:=h',toks:=e1 })->wpAny (model K.prog K.w) A (call (.builtin "len") [.ref D]) nW dF { s with heap:=h',toks:=tk })->Q (.ref D) { s with heap:=h',toks:=tk }) :
  wpAny (model K.prog K.w) A (call (.type "set") [x]) Q E s:=by
 refine aw (Option.bind_eq_some_iff.mp hl) fun xs L O=>?_;obtain⟨ad,T,vs,n,rfl,dD,V,v,_⟩:=vP r av L;have iX:=KL O v;have cZ:vs.length=l.length:=AU iX;refine LG aO dD V (by simpa using iX) (by rw[e5,cZ];unfold scanBound;(grind)) fun h' tk PH hk=>?_;refine h _ h' tk (fun b o e=>hk b o (eQ e) e) fun nW dF hq=>?_;refine Mx PH fun o es d5 t ho OP hd Xz XE hb bw oQ=>?_;refine call_len_set (s:={ s with heap:=h',toks:=tk }) ho OP hd bw (by unfold scanBound at hb;(grind)) ?_;exact oQ.symm▸(hq _ _)
theorem sy{β:Type}{g:List H->Option β}{f:β->ai H}{a:H}{P:Prop}(h:fR g f a σ≠.stuck)(k:∀xs l,cO σ a=some xs->g xs=some l->f l≠.stuck->fR g f a σ=f l->P):P:=by
 cases he:(cO σ a).bind g with
 | none=>exact absurd (by unfold fR;rw[he]) h
 | some l =>
  have e:fR g f a σ=f l:=by unfold fR;rw[he]
  exact cj he fun xs L O=>k xs l L O (e▸h) e
theorem zL{a:H}{x:Value}{xs:List H}{l:List Int}(r:ak K.hb s.heap σ α)(av:af s.heap α a x)(L:cO σ a=some xs)(O:f7 xs=some l):∃ad ys,x=.ref ad/\s.heap.IsList ad (intItems ys)/\ys.toList.map (·.1)=l:=by
 obtain⟨ad,vs,n,rfl,V,v⟩:=k9 r av L;refine aw (Hs (B0 O v)) fun ys ar aU=>?_;exact⟨ad,ys,rfl,ar▸gG V,aU⟩
theorem Vj{a:H}{x:Value}(aO:A.handled=none)(r:ak K.hb s.heap σ α)(av:af s.heap α a x):Runs K af A (call (.builtin "sum") [x]) (db .sum a σ) s α:=by
 show Runs K af A _ (fR f7 _ a σ) s α;intro hc tk;refine sy hc fun xs l L O hc e=>?_;rw[e];refine cD (zL r av L O) fun ad ys ae bd=>?_;obtain rfl:=ae;refine aP bd fun eK aU=>?_;by_cases hl:l.length<=1000/\l.all (fun x=>decide (x.natAbs<2 ^ 40))
 ·rw[az hl];refine sum_intList aO eK (fun j a0=>?_) fun h' tk bX k=>?_
  ·rw[numAt_eq,preSum_eq,aU];exact Vi hl.1 hl.2 j (by rw[<- aU];simpa using a0)
  ·rw[preSum_eq,aU,List.take_of_length_le (by rw[<- aU];simp)];exact⟨_,_,_,rfl,.keeps k,r.keeps k,.int _ _,⟨rfl,rfl⟩⟩
 ·exact absurd (aY hl) hc
theorem Sc{a:H}{x:Value}(aO:A.handled=none)(r:ak K.hb s.heap σ α)(av:af s.heap α a x):Runs K af A (call (.builtin "min") [x]) (db .min a σ) s α:=by
 show Runs K af A _ (fR f7 _ a σ) s α;intro hc tk;refine sy hc fun xs l L O hc e=>?_;rw[e];refine cD (zL r av L O) fun ad ys ae bd=>?_;obtain rfl:=ae;refine aP bd fun eK aU=>?_
 cases l with
 | nil=>exact absurd rfl hc
 | cons kS l =>
  have cZ:ys.size=l.length+1:=by have:=congrArg List.length aU;simpa using this
  refine min_intList aO eK (cZ▸Nat.succ_pos _) fun u h' tk hv k=>?_;refine aJ (intItems_at hv) fun t ae=>?_;obtain rfl:=ae;refine aP (argBest_lt (numAt ys) (ys.size-1)) fun q1 q2=>?_;rw[cZ]at q1 q2 ⊢;refine aP (No l kS) fun aV ck=>?_
  have hm:numAt ys (argBest (fun i j=>decide (numAt ys i<numAt ys j)) l.length)=l.foldl min kS:=by
   refine Int.le_antisymm ?_ (aV _ ?_)
   ·refine aw (mem_getD ck) fun j a0 e=>?_;have:=q2 j (Nat.le_of_lt_succ a0);rw[numAt_eq ys j,aU,e]at this;exact this
   ·rw[numAt_eq,aU];exact getD_mem (Nat.lt_succ_of_le q1)
  refine⟨_,_,_,rfl,.keeps k,r.keeps k,?_,⟨rfl,rfl⟩⟩;exact(show l.length+1-1=l.length from rfl).symm▸hm.symm▸(.int _ _)
theorem RU{a:H}{x:Value}(aO:A.handled=none)(r:ak K.hb s.heap σ α)(av:af s.heap α a x):Runs K af A (call (.builtin "max") [x]) (db .max a σ) s α:=by
 show Runs K af A _ (fR f7 _ a σ) s α;intro hc tk;refine sy hc fun xs l L O hc e=>?_;rw[e];refine cD (zL r av L O) fun ad ys ae bd=>?_;obtain rfl:=ae;refine aP bd fun eK aU=>?_
 cases l with
 | nil=>exact absurd rfl hc
 | cons kS l =>
  have cZ:ys.size=l.length+1:=by have:=congrArg List.length aU;simpa using this
  refine max_intList aO eK (cZ▸Nat.succ_pos _) fun u h' tk hv k=>?_;refine aJ (intItems_at hv) fun t ae=>?_;obtain rfl:=ae;refine aP (argBest_gt (numAt ys) (ys.size-1)) fun q1 q2=>?_;rw[cZ]at q1 q2 ⊢;refine aP (Nn l kS) fun aV ck=>?_
  have hm:numAt ys (argBest (fun i j=>decide (numAt ys i > numAt ys j)) l.length)=l.foldl max kS:=by
   refine Int.le_antisymm (aV _ ?_) ?_
   ·rw[numAt_eq,aU];exact getD_mem (Nat.lt_succ_of_le q1)
   ·refine aw (mem_getD ck) fun j a0 e=>?_;have:=q2 j (Nat.le_of_lt_succ a0);rw[numAt_eq ys j,aU,e]at this;exact this
  refine⟨_,_,_,rfl,.keeps k,r.keeps k,?_,⟨rfl,rfl⟩⟩;exact(show l.length+1-1=l.length from rfl).symm▸hm.symm▸(.int _ _)
theorem UO{a:H}{x:Value}(r:ak K.hb s.heap σ α)(av:af s.heap α a x):Runs K af A (call (.builtin "sorted") [x]) (db .sorted a σ) s α:=by
 show Runs K af A _ (fR qy _ a σ) s α;intro hc tk;refine sy hc fun xs l L O hc e=>?_;rw[e];obtain⟨ad,vs,n,rfl,V,v⟩:=k9 r av L;unfold qy at O
 cases dj:f7 xs with
 | none=>rw[dj]at O;contradiction
 | some m =>
  rw[dj]at O;dsimp only at O;refine p7 O fun N0 O=>?_;obtain rfl:=oi O;have a4:=B0 dj v;refine sorted_ints (gG V) a4 (a4.length.symm▸N0) fun eg X2 ay aL a9=>?_;obtain⟨e,jt⟩:=sortedAll_at s.heap vs eg;have k:∀b o,s.heap.get? b=some o->(sortedAll s.heap vs eg).get? b=some o:=fun b o q=>sortedAll_old q;rw[UN aL a9]at ay;refine⟨_,_,_,rfl,.keeps k,r.keeps k,?_,⟨rfl,rfl⟩⟩;refine af.flI (items:=eg.toList) (n:=e) (by simpa using jt) (fun hm=>?_) (Ht ay);obtain⟨o,q⟩:=r.liveAll hm;exact absurd (eQ q) (Nat.not_lt.mpr (Nat.le_succ _))
theorem Rn{σ:ac}{P:H->ai H->Prop}(h0:∀a,P a .stuck)(L:∀z,z.length<=aB->P (.str z) (.ok (.int z.length) σ))(O:∀a xs,d0 σ a=some xs->xs.length<=aB->P a (.ok (.int xs.length) σ)):∀a,P a (db .len a σ):=by
 intro a
 have o0:P a (jy (fun xs=>if xs.length<=aB then ai.ok (H.int xs.length) σ else .stuck) a σ):=by
  unfold jy
  cases e:d0 σ a with
  | none=>exact h0 _
  | some xs =>
   dsimp only;by_cases hl:xs.length<=aB
   ·rw[az hl];exact O a xs e hl
   ·rw[aY hl];exact h0 _
 cases a with
 | str z =>
  show P _ (if z.length<=aB then ai.ok (H.int z.length) σ else .stuck);by_cases hl:z.length<=aB
  ·rw[az hl];exact L z hl
  ·rw[aY hl];exact h0 _
 | _=>exact o0
theorem Wi{σ:ac}{P:H->ai H->Prop}(h0:∀a,P a .stuck)(O:∀a xs,d0 σ a=some xs->xs.length<=aB->P a (.ok (.tup xs) σ))(a:H):P a (db .tuple a σ):=by
 show P a (jy (fun xs=>if xs.length<=aB then ai.ok (H.tup xs) σ else .stuck) a σ);unfold jy
 cases e:d0 σ a with
 | none=>exact h0 _
 | some xs =>
  dsimp only;by_cases hl:xs.length<=aB
  ·rw[az hl];exact O a xs e hl
  ·rw[aY hl];exact h0 _
theorem K9{b:fX}{a:H}{x:Value}(hb:n7 b≠.none)(hA:d9 A)(aO:uU b=true->A.handled=none)(r:ak K.hb s.heap σ α)(av:af s.heap α a x) :
  Runs K af A (call (n7 b) [x]) (db b a σ) s α:=by
 cases b with
 | len =>
  refine Rn (P:=fun a c=>af s.heap α a x->Runs K af A (call (.builtin "len") [x]) c s α) (fun J J hc=>absurd rfl hc) (fun z hl av J J=>?_) (fun a xs he hl av J J=>?_) a av
  ·refine aw av.strE fun J ae J=>?_;obtain rfl:=ae;exact P.len_str (by have:=oZ hl;(grind)) (.here r (.int _ _))
  ·obtain⟨l,T,vs,n,rfl,dD,V,v,_⟩:=vP r av he
   have hs:(vs.toArray.size:Int)<2 ^ 63:=by rw[e5,<- v.1];exact oZ hl
   rcases dD with rfl | rfl
   ·refine PyProof.Rows.len_list (gG V) hs ?_;simp only[e5,<- v.1];exact .here r (.int _ _)
   ·refine PyProof.Rows.len_tuple (vg V) hs ?_;simp only[e5,<- v.1];exact .here r (.int _ _)
 | list a6=>exact Rw r av
 | tuple =>
  refine Wi (P:=fun a c=>af s.heap α a x->Runs K af A (call (.type "tuple") [x]) c s α) (fun J J hc=>absurd rfl hc) (fun a xs he hl av J J=>?_) a av;obtain⟨l,T,vs,n,rfl,dD,V,v,a1⟩:=vP r av he
  rcases dD with rfl | rfl
  ·refine call_tuple_list (gG V) (fun h' k=>?_) (by simpa[<- v.1]using g6 hl);have b8:∀b o,s.heap.get? b=some o->(h'.push { cls:=.type "tuple",data:=.seq vs.toArray }).get? b=some o:=fun b o e=>cP _ (k b o e);refine⟨_,_,_,rfl,.keeps b8,r.keeps b8,?_,⟨rfl,rfl⟩⟩;refine af.tupI (n:=0) (ec _ rfl) (fun hm=>?_) (v.ext (.keeps (F:=[]) b8));refine aJ (r.liveAll hm) fun o e=>?_;exact absurd (eQ (k _ _ e)) (Nat.lt_irrefl _)
  ·rw[a1 rfl]at av;exact call_tuple_tup (vg V) ⟨_,_,_,rfl,.refl,r,av,.refl s⟩
 | sum=>exact Vj (aO rfl) r av
 | min=>exact Sc (aO rfl) r av
 | max=>exact RU (aO rfl) r av
 | sorted=>exact UO r av
 | all =>
  show Runs K af A _ (fR lT _ a σ) s α;intro hc tk;refine sy hc fun xs l L O J e=>?_;rw[e];obtain⟨ad,vs,n,rfl,V,v⟩:=k9 r av L;rw[KJ O v]at V;exact KP hA (aO rfl) V fun h' tk k=>⟨_,_,_,rfl,.keeps k,r.keeps k,.bool _,⟨rfl,rfl⟩⟩
 | int =>
  intro hc tk
  cases a with
  | bool b=>obtain rfl:=av.boolE;exact call_int_bool (.here r (.int _ _))
  | _=>exact absurd rfl hc
 | str =>
  intro hc tk
  cases a with
  | str z=>refine aw av.strE fun J ae bA=>?_;obtain rfl:=ae;exact P.str_of_str ⟨_,_,_,rfl,.refl,r,.str _ _ bA,.refl s⟩
  | int i =>
   refine aJ av.intE fun J ae=>?_;obtain rfl:=ae
   have bt:db .str (.int i) σ=if 0<=i/\i<1000000000 then .ok (.str (Str.ofString (toString i))) σ else .stuck:=rfl
   rw[bt]at hc ⊢;by_cases hl:0<=i/\i<1000000000
   ·rw[az hl];exact P.str_of_int (UK hl) (.here r (.str _ _ (U5 _)))
   ·rw[aY hl]at hc;exact absurd rfl hc
  | _=>exact absurd rfl hc
 | lenset=>exact absurd rfl hb
 | dict=>exact absurd rfl hb
end
end Mine
namespace Mine
open PySem PyProof.Rows
theorem ak.set{hb h h' σ α}{i:Nat}{a:Addr}{m:aS}{Af:Obj}(r:ak hb h σ α)(bB:α.ix[i]?=some a)(k:∀b o,b≠a->h.get? b=some o->h'.get? b=some o)(jn:h'.get? a=some Af)
  (o:aW [] α h α h'->d1 hb h' α m a):ak hb h' (σ.set i m) α/\aW [] α h α h':=by
 have ha:a∈α.ix:=eb bB
 have x:aW [] α h α h':=⟨rfl,⟨[],by simp,fun J hx=>(nomatch hx)⟩,fun b o hb e J=>k b o (fun q=>hb (q▸ha)) e,fun b o hb J e=>.inl (k b o (fun q=>hb (q▸ha)) e),
  fun b o J e=>by
   by_cases q:b=a
   ·subst q;exact⟨Af,jn⟩
   ·exact⟨o,k b o q e⟩,rfl⟩
 refine⟨⟨fun b o e=>k b o (fun q=>?_) (r.base b o e),r.fresh,r.nodup,by simp[r.len],fun b hb=>⟨(r.hidden b hb).1,let⟨o,e⟩:=(r.hidden b hb).2;⟨o,k b o (fun q=>(r.hidden b hb).1 (q▸ha)) e⟩⟩,fun j bH eP V aj=>?_,r.hfr,r.fe,fun b hb=>⟨(r.frs b hb).1,let⟨o,e,d⟩:=(r.frs b hb).2;⟨o,k b o (fun q=>r.frNot b hb (q▸ha)) e,d⟩⟩,r.frNot⟩,x⟩
 ·rw[q,r.fresh a ha]at e;contradiction
 ·by_cases a0:j=i
  ·subst a0;rw[bB]at aj;obtain rfl:=oi aj;rw[List.getElem?_set_self (by rw[r.len];exact(dU bB).1)]at V;obtain rfl:=oi V;exact o x
  ·rw[List.getElem?_set_ne (Ne.symm a0)]at V
   have dc:eP≠a:=fun q=>by
    subst q;exact a0 ((List.getElem?_inj (dU aj).1 r.nodup).mp (aj.trans bB.symm))
   refine aJ (r.live (eb aj)) fun aK aA=>?_;exact(r.obj j bH eP V aj).ext x (by rw[aA,k eP aK dc aA])
section
variable {K:aQ}{A:Around}{s:Shared}{α:au}{σ:ac}
theorem Iy{a:H}{x:Value}(r:ak K.hb s.heap σ α)(av:af s.heap α a x):Runs K af A (unaryOp .USub x) (Ab a σ) s α:=by
 intro hc tk
 cases a with
 | int i=>refine aJ av.intE fun J ae=>?_;obtain rfl:=ae;exact P.neg_int (.here r (.int _ _))
 | _=>exact absurd rfl hc
theorem v5{a:H}{x:Value}(r:ak K.hb s.heap σ α)(av:af s.heap α a x):Runs K hX A (truthy x) (jc a σ) s α:=by
 intro hc tk
 cases a with
 | bool b=>obtain rfl:=av.boolE;exact wpAny_truthy_bool ⟨_,_,_,rfl,.refl,r,rfl,.refl s⟩
 | _=>exact absurd rfl hc
noncomputable def Bn:jN->Option Value
 | .int=>some (.type "int") | .str=>some (.type "str") | .bool=>some (.type "bool") | .tuple=>some (.type "tuple")
 | .list=>some (.type "list")
section
variable {σ:ac}{P:H->ai Bool->Prop}
theorem Qx(h0:∀a,P a .stuck)(L:∀i,P (.int i) (.ok true σ))(O:∀b,P (.bool b) (.ok true σ))(ar:P .none (.ok false σ))(aU:∀z,P (.str z) (.ok false σ)):∀a,P a (kH a .int σ):=by
 intro a
 cases a with
 | int i=>exact L i
 | bool b=>exact O b
 | none=>exact ar
 | str z=>exact aU z
 | _=>exact h0 _
theorem Qw(h0:∀a,P a .stuck)(L:∀i,P (.int i) (.ok false σ))(O:∀b,P (.bool b) (.ok true σ))(ar:P .none (.ok false σ))(aU:∀z,P (.str z) (.ok false σ)):∀a,P a (kH a .bool σ):=by
 intro a
 cases a with
 | int i=>exact L i
 | bool b=>exact O b
 | none=>exact ar
 | str z=>exact aU z
 | _=>exact h0 _
theorem Qz(h0:∀a,P a .stuck)(L:∀i,P (.int i) (.ok false σ))(O:∀b,P (.bool b) (.ok false σ))(ar:P .none (.ok false σ))(aU:∀z,P (.str z) (.ok true σ))(dj:∀xs,P (.tup xs) (.ok false σ)):∀a,P a (kH a .str σ):=by
 intro a
 cases a with
 | int i=>exact L i
 | bool b=>exact O b
 | none=>exact ar
 | str z=>exact aU z
 | tup xs=>exact dj xs
 | _=>exact h0 _
theorem QA(h0:∀a,P a .stuck)(L:∀i,P (.int i) (.ok false σ))(aU:∀z,P (.str z) (.ok false σ))(dj:∀xs,P (.tup xs) (.ok true σ)):∀a,P a (kH a .tuple σ):=by
 intro a
 cases a with
 | int i=>exact L i
 | str z=>exact aU z
 | tup xs=>exact dj xs
 | _=>exact h0 _
theorem Qy(h0:∀a,P a .stuck)(L:∀xs,P (.tup xs) (.ok false σ))(O:∀a xs,cO σ a=some xs->P a (.ok true σ)):∀a,P a (kH a .list σ):=by
 intro a
 have o0:P a (match cO σ a with | some _=>.ok true σ | none=>.stuck):=by
  cases e:cO σ a with
  | none=>exact h0 _
  | some xs=>exact O a xs e
 cases a with
 | tup xs=>exact L xs
 | _=>exact o0
end
theorem QE{t:jN}{be:Value}{a:H}{x:Value}(a1:Bn t=some be)(r:ak K.hb s.heap σ α)(av:af s.heap α a x) :
  Runs K ej A (call (.builtin "isinstance") [x,be]) (kH a t σ) s α:=by
 have ok:∀{b:Bool} {tk:Nat},cf K ej (.ok b σ) s α (.bool b) { s with toks:=tk }:=⟨_,_,_,rfl,.refl,r,rfl,⟨rfl,rfl⟩⟩;have st:∀(be:Value) (a:H),af s.heap α a x->Runs K ej A (call (.builtin "isinstance") [x,be]) .stuck s α:=fun J J J hc=>absurd rfl hc
 cases t with
 | int =>
  obtain rfl:=oi a1
  exact Qx (P:=fun a c=>af s.heap α a x->Runs K ej A (call (.builtin "isinstance") [x,.type "int"]) c s α) (st _)
   (fun i av J J=>by refine aJ av.intE fun J ae=>?_;obtain rfl:=ae;exact IsiPair.int_int (ok (tk:=s.toks))) (fun b av J J=>by obtain rfl:=av.boolE;exact IsiPair.bool_int (ok (tk:=s.toks)))
   (fun av J J=>by obtain rfl:=av.noneE;exact IsiPair.NoneType_int ok) (fun z av J J=>by refine aw av.strE fun J ae J=>?_;obtain rfl:=ae;exact IsiPair.str_int ok) a av
 | bool =>
  obtain rfl:=oi a1
  exact Qw (P:=fun a c=>af s.heap α a x->Runs K ej A (call (.builtin "isinstance") [x,.type "bool"]) c s α) (st _)
   (fun i av J J=>by refine aJ av.intE fun J ae=>?_;obtain rfl:=ae;exact IsiPair.int_bool ok) (fun b av J J=>by obtain rfl:=av.boolE;exact IsiPair.bool_bool (ok (tk:=s.toks)))
   (fun av J J=>by obtain rfl:=av.noneE;exact IsiPair.NoneType_bool ok) (fun z av J J=>by refine aw av.strE fun J ae J=>?_;obtain rfl:=ae;exact IsiPair.str_bool ok) a av
 | str =>
  obtain rfl:=oi a1
  exact Qz (P:=fun a c=>af s.heap α a x->Runs K ej A (call (.builtin "isinstance") [x,.type "str"]) c s α) (st _)
   (fun i av J J=>by refine aJ av.intE fun J ae=>?_;obtain rfl:=ae;exact IsiPair.int_str ok) (fun b av J J=>by obtain rfl:=av.boolE;exact IsiPair.bool_str ok)
   (fun av J J=>by obtain rfl:=av.noneE;exact IsiPair.NoneType_str ok) (fun z av J J=>by refine aw av.strE fun J ae J=>?_;obtain rfl:=ae;exact IsiPair.str_str (ok (tk:=s.toks)))
   (fun xs av J J=>by obtain⟨l,vs,n,rfl,V,_,v⟩:=av.tupE;exact IsiPair.tuple_str V rfl ok) a av
 | tuple =>
  obtain rfl:=oi a1
  exact QA (P:=fun a c=>af s.heap α a x->Runs K ej A (call (.builtin "isinstance") [x,.type "tuple"]) c s α) (st _)
   (fun i av J J=>by refine aJ av.intE fun J ae=>?_;obtain rfl:=ae;exact IsiPair.int_tuple ok) (fun z av J J=>by refine aw av.strE fun J ae J=>?_;obtain rfl:=ae;exact IsiPair.str_tuple ok)
   (fun xs av J J=>by obtain⟨l,vs,n,rfl,V,_,v⟩:=av.tupE;exact IsiPair.tuple_tuple V rfl (ok (tk:=s.toks))) a av
 | list =>
  obtain rfl:=oi a1
  exact Qy (P:=fun a c=>af s.heap α a x->Runs K ej A (call (.builtin "isinstance") [x,.type "list"]) c s α) (st _)
   (fun xs av J J=>by obtain⟨l,vs,n,rfl,V,_,v⟩:=av.tupE;exact IsiPair.tuple_list V rfl ok)
   (fun a xs e av J J=>by obtain⟨l,vs,n,rfl,V,v⟩:=k9 r av e;exact IsiPair.list_list V rfl (ok (tk:=s.toks))) a av
theorem AP(i:Int)(n:Nat):fJ i n=seqIndex? i n:=by
 unfold fJ seqIndex?;by_cases h:0<=i
 ·have h':¬i<0:=by grind
  rw[az h,aY h'];by_cases O:i.toNat<n
  ·rw[az O,az (by simp;(grind))]
  ·rw[aY O,aY (by simp;(grind))]
 ·have h':i<0:=by grind
  rw[aY h,az h'];by_cases O:0<=i+n
  ·rw[az O,az (by simp;(grind))]
  ·rw[aY O,aY (by simp;(grind))]
theorem I7{i:Int}{n j:Nat}(h:fJ i n=some j):-(n:Int)<=i/\i<n:=by
 unfold fJ at h
 split at h
 ·split at h
  ·(grind)
  ·contradiction
 ·split at h
  ·(grind)
  ·contradiction
theorem NE{l:Addr}{vs:List Value}{n j:Nat}{i:Int}{t:Tok}{u:Value}{Q:Value->Shared->Prop}{E:Value->Shared->Prop}(V:s.heap.get? l=some { cls:=.type "list",data:=.seq vs.toArray n })
  (hsz:vs.length<=aB) (a0:fJ i vs.length=some j) (hu:vs[j]?=some u) (h:Q u s):wpAny (model K.prog K.w) A (getItem (.ref l) (.int i t)) Q E s:=by
 have hl:=oZ hsz;unfold fJ at a0;by_cases h0:0<=i
 ·rw[az h0]at a0
  split at a0
  ·cases a0;exact wpAny_getItem_list (gG V) h0 (by grind) (by simpa using hu) h
  ·cases a0
 ·rw[aY h0]at a0
  split at a0
  ·cases a0;exact wpAny_getItem_list_neg (gG V) (by grind) (by simp;(grind)) (by grind) (by simpa using hu) h
  ·cases a0
theorem a7.get{h:Heap}{xs:List H}{vs:List Value}{j:Nat}{p:H}(v:a7 h α xs vs)(e:xs[j]?=some p):∃u,vs[j]?=some u/\af h α p u:=by
 have a0:=(dU e).1
 have hv:j<vs.length:=by exact v.1▸a0
 exact⟨vs[j],by simp[hv],v.2 j p vs[j] e (by simp[hv])⟩
theorem HA{value slice:Expr}{xs:List H}{l:Addr}{vs:List Value}{n:Nat}{i:Int}{t:Tok}{T:String}(dD:T = "list" \/ T = "tuple")(hs:∀o i:Value,subscripted slice false o i=operate [o,i] (getItem o i))
  (r:ak K.hb s.heap σ α) (V:s.heap.get? l=some { cls:=.type T,data:=.seq vs.toArray n }) (v:a7 s.heap α xs vs):Runs K af A (subscriptTail value slice (.ref l) (.int i t)) (mh xs i σ) s α:=by
 intro hc tk;unfold mh at hc ⊢;by_cases hl:xs.length<=aB
 ·rw[az hl]at hc ⊢
  cases a0:(fJ i xs.length).bind (xs[·]?)with
  | none=>rw[a0]at hc;exact absurd rfl hc
  | some p =>
   refine aw (Option.bind_eq_some_iff.mp a0) fun j L O=>?_;refine aw (v.get O) fun u hu hv=>?_
   have l3:vs.length<=aB:=by exact v.1▸hl
   rcases dD with rfl | rfl
   ·refine tail_any (gG V).typeIs slot_list_getitem.lookup ?_ (hs _ _);exact NE V l3 (v.1▸L) hu ⟨_,_,_,rfl,.refl,r,hv,.refl s⟩
   ·have zh:=oZ l3;have hr:=I7 L;have cZ:=v.1;exact item_tupleT (vg V) (by grind) (by grind) (by rw[<- AP,<- v.1];exact L) hu ⟨_,_,_,rfl,.refl,r,hv,.refl s⟩ (hs _ _)
 ·rw[aY hl]at hc;exact absurd rfl hc
theorem Va{σ:ac}{P:H->H->ai H->Prop}(h0:∀a b,P a b .stuck)(L:∀i es k v,σ[i]?=some (.ds es)->aG k es=some v->P (.ref i) (.str k) (.ok v σ))(O:∀i b es k v,σ[i]?=some (.dp es)->g5 b=some k->aG k es=some v->P (.ref i) b (.ok v σ)):∀a b,P a b (mA a b σ):=by
 intro a b
 cases a with
 | ref i =>
  unfold mA;dsimp only
  cases hq:σ[i]? with
  | none=>exact h0 _ _
  | some m =>
   cases m with
   | ds es =>
    cases b with
    | str k =>
     dsimp only
     cases hv:aG k es with
     | none=>exact h0 _ _
     | some v=>exact L i es k v hq hv
    | _=>exact h0 _ _
   | dp es =>
    dsimp only
    cases hk:g5 b with
    | none=>exact h0 _ _
    | some k =>
     show P _ _ (ai.ofOpt (aG k es) σ)
     cases hv:aG k es with
     | none=>exact h0 _ _
     | some v=>exact O i b es k v hq hk hv
   | _=>exact h0 _ _
 | _=>exact h0 _ _
theorem Vb{value slice:Expr}{a b:H}{x y:Value}(hA:d9 A)(hs:∀o i:Value,subscripted slice false o i=operate [o,i] (getItem o i))(r:ak K.hb s.heap σ α)(av:af s.heap α a x)(bb:af s.heap α b y) :
  Runs K af A (subscriptTail value slice x y) (mA a b σ) s α:=
 Va (P:=fun a b c=>af s.heap α a x->af s.heap α b y->Runs K af A (subscriptTail value slice x y) c s α) (fun J J J J hc=>absurd rfl hc)
  (fun i es k v hq hv av bb J J=>by
   refine aw av.refE fun l ae dr=>?_;obtain rfl:=ae;refine aw bb.strE fun J ae J=>?_;obtain rfl:=ae;refine aw (pK r hq dr) fun eL L J=>?_
   exact tail_any L.typeIs slot_dict_getitem.lookup (QP r hq dr hv) (hs _ _))
  (fun i b es k v hq hk hv av bb J J=>by
   refine aw av.refE fun l ae dr=>?_;obtain rfl:=ae;refine aw (pJ r hq dr) fun xs L J=>?_
   exact tail_any L.typeIs slot_dict_getitem.lookup (QO hA r hq dr hk bb hv) (hs _ _)) a b av bb
theorem Vg{σ:ac}{P:H->H->ai H->Prop}(h0:∀a b,P a b .stuck)(L:∀z i c,z.cps.size<=aB->(fJ i z.cps.size).bind (z.cps[·]?)=some c->P (.str z) (.int i) (.ok (.str ⟨#[c]⟩) σ))(O:∀xs i,P (.tup xs) (.int i) (mh xs i σ))(ar:∀a xs i,cO σ a=some xs->P a (.int i) (mh xs i σ))
  (aU:∀a b,P a b (mA a b σ))
  : ∀a b,P a b (fU a b σ):=by
 intro a b
 cases b with
 | int i =>
  have o0:P a (.int i) (match cO σ a with | some xs=>mh xs i σ | none=>.stuck):=by
   cases e:cO σ a with
   | none=>exact h0 _ _
   | some xs=>exact ar a xs i e
  cases a with
  | tup xs=>exact O xs i
  | str z =>
   show P _ _ (if z.cps.size<=aB then(match(fJ i z.cps.size).bind (z.cps[·]?)with | some c=>ai.ok (.str ⟨#[c]⟩) σ | none=>.stuck)else .stuck);by_cases hl:z.cps.size<=aB
   ·rw[az hl]
    cases a0:(fJ i z.cps.size).bind (z.cps[·]?)with
    | none=>exact h0 _ _
    | some c=>exact L z i c hl a0
   ·rw[aY hl];exact h0 _ _
  | _=>exact o0
 | _=>exact aU a _
set_option tactic.hygienic true in
theorem Vh{value slice:Expr}{a b:H}{x y:Value}(hA:d9 A)(rX:∀l u p,slice≠.Slice l u none p)(r:ak K.hb s.heap σ α)(av:af s.heap α a x)(bb:af s.heap α b y) :
  Runs K af A (subscriptTail value slice x y) (fU a b σ) s α:=by
 have hs:∀o i:Value,subscripted slice false o i=operate [o,i] (getItem o i):=fun o i=>by
  unfold subscripted
  split
  ·rename_i q;exact absurd rfl (rX _ _ _)
  ·rename_i q;contradiction
  ·rfl
 refine Vg (P:=fun a b c=>af s.heap α a x->af s.heap α b y->Runs K af A (subscriptTail value slice x y) c s α) (fun J J J J hc=>absurd rfl hc) (fun z i c hl a0 av bb hc tk=>?_) (fun xs i av bb=>?_) (fun a xs i L av bb=>?_)
  (fun a b av bb=>Vb hA hs r av bb)
  a b av bb
 ·refine aw av.strE fun J ae bA=>?_;obtain rfl:=ae;refine aJ bb.intE fun t ae=>?_;obtain rfl:=ae;have zh:=oZ hl;refine aw (Option.bind_eq_some_iff.mp a0) fun j L O=>?_;have hr:=I7 L;refine tail_any (typeIs_str s z _) F.slot_str_getitem.lookup ?_ (hs _ _);refine P.getItem_str (c:=c) (by simp;(grind)) (by rw[<- AP];exact a0) (.here r (.str _ _ ?_));unfold PyData.strOk at bA ⊢;simp only[Array.all_eq_true']at bA ⊢;intro d hd;simp at hd;subst hd;exact bA _ (Array.mem_of_getElem? O)
 ·obtain⟨l,vs,n,rfl,V,_,v⟩:=av.tupE;refine aJ bb.intE fun t ae=>?_;obtain rfl:=ae;exact HA (.inr rfl) hs r V v
 ·obtain⟨l,vs,n,rfl,V,v⟩:=k9 r av L;refine aJ bb.intE fun t ae=>?_;obtain rfl:=ae;exact HA (.inl rfl) hs r V v
end
end Mine
namespace Mine
open PySem PyProof.Rows
structure tf(env:Env):Prop where
 kind:env.scope.kind=.function
 glob:env.globals=mainGlobals
 bins:env.builtins=builtinsNs
 ws:∀(i:Nat) (x:Str) (k:NameKind),env.scope.names[i]?=some (x,k)->env.kindOf x=some k
 nodbg:∀(i:Nat) (x:Str) (k:NameKind),env.scope.names[i]?=some (x,k)->(x == ("__debug__" : Str))=false
structure aZ(env:Env)(ρ:aE)(h:Heap)(α:au):Prop where
 ok:tf env
 la:env.locals∉α.all
 ns:∃m,h.Ns env.locals m/\∀(i:Nat) (x:Str) (v:H),env.scope.names[i]?=some (x,.local)->ρ[i]?=some (some v)->∃u,m x=some u/\af h α v u
 ca:∀x c,env.cells.lookup x=some c->c∉α.all/\c≠env.locals/\∃v,h.IsCell c v
 cd:∀x y c,env.cells.lookup x=some c->env.cells.lookup y=some c->x=y
 cv:∀(i:Nat) (x:Str),env.scope.names[i]?=some (x,.cell)->∃c,env.cells.lookup x=some c/\∀v,ρ[i]?=some (some v)->∃u,h.IsCell c (some u)/\af h α v u
 inb:∀(i:Nat) (v:H),ρ[i]?=some (some v)->∃x k,env.scope.names[i]?=some (x,k)/\(k=.local\/k=.cell)
theorem LN{h h':Heap}{fr:List Addr}{c:Addr}{o:Obj}{v:Option Value}(Ks:h.get? c=some o)(wM:o.data=.cell v)(x:jl fr h' c o):h'.get? c=some o:=x.same (by rintro⟨es,n,q⟩;rw[wM]at q;cases q)
theorem p4{F α h α' h'}{c:Addr}{v:Option Value}(x:aW F α h α' h')(hc:c∉α.ix)(bN:c∉F)(i:h.IsCell c v):h'.IsCell c v:=by
 refine aw i fun o e d=>?_;exact⟨o,LN e d (x.rest c o hc bN e),d⟩
theorem Ae{F α h α' h'}{a:Addr}{m:Str->Option Value}(x:aW F α h α' h')(ha:a∉α.ix)(bN:a∉F)(n:h.Ns a m):h'.Ns a m:=by
 refine jQ (id n) fun o es d5 e r=>?_;exact(x.rest a o ha bN e).ns n e
noncomputable def nQ(env:Env)(F:List Addr):Prop:=env.locals∉F/\∀x c,env.cells.lookup x=some c->c∉F
theorem nQ.nil{env:Env}:nQ env []:=⟨(dT),fun J J J=>(dT)⟩
theorem aZ.ext{F α h α' h'}{env:Env}{ρ:aE}(x:aW F α h α' h')(ap:nQ env F)(E:aZ env ρ h α):aZ env ρ h' α':=by
 refine aw E.ns fun m n hm=>?_;refine jQ (id n) fun S4 J J xc J=>?_;refine⟨E.ok,x.notAll E.la xc,⟨m,Ae x (au.not_ix E.la) ap.1 n,fun i y v V aj=>?_⟩,fun y c hc=>?_,E.cd,fun i y V=>?_,E.inb⟩
 ·refine aw (hm i y v V aj) fun u L O=>?_;exact⟨u,L,O.ext x⟩
 ·refine dI (E.ca y c hc) fun L O bd=>?_;refine aJ bd fun v ar=>?_;refine aw (id ar) fun o e d=>?_;exact⟨x.notAll L e,O,v,p4 x (au.not_ix L) (ap.2 y c hc) ar⟩
 ·refine aw (E.cv i y V) fun c hc hv=>?_;refine⟨c,hc,fun v aj=>?_⟩;refine aw (hv v aj) fun u L O=>?_;exact⟨u,p4 x (au.not_ix (E.ca y c hc).1) (ap.2 y c hc) L,O.ext x⟩
section
variable {K:aQ}{A:Around}{s:Shared}{α:au}{σ:ac}{env:Env}{ρ:aE}
set_option tactic.hygienic true in
theorem Io{C:bh}{i:Nat}{x:Str}{k:NameKind}{p:Pos}(r:ak K.hb s.heap σ α)(E:aZ env ρ s.heap α)(hn:env.scope.names[i]?=some (x,k)) :
  Runs K af A (eval (.Name x p) env) (ev C (.v i) ρ σ) s α:=by
 intro hc tk;simp only[MU,Bt]at hc ⊢
 split at hc
 ·rename_i v hv;refine cD (E.inb i v hv) fun aH b8 L O=>?_;rw[hn]at L;cases L;have hk:=E.ok.ws i x k hn;refine wpAny_Name ?_ (E.ok.nodbg i x k hn)
  rcases O with rfl | rfl
  ·refine aw E.ns fun m n hm=>?_;refine aw (hm i x v hn hv) fun u ar aU=>?_;exact wpAny_loadName_local E.ok.kind hk n ar ⟨_,_,_,rfl,.refl,r,aU,.refl s⟩
  ·refine aw (E.cv i x hn) fun c ar aU=>?_;refine aw (aU v hv) fun u dj gd=>?_;exact wpAny_loadName_cell E.ok.kind hk ar dj ⟨_,_,_,rfl,.refl,r,gd,.refl s⟩
 ·exact absurd rfl hc
theorem qh{i:Nat}{x:Str}{p:Pos}{v:Value}{Q:Value->Shared->Prop}{X:Value->Shared->Prop}(hK:K.Ok)(r:ak K.hb s.heap σ α)(E:tf env)(hn:env.scope.names[i]?=some (x,.globalImplicit))
  (hv:K.mg x=some v) (h:Q v s):wpAny (model K.prog K.w) A (eval (.Name x p) env) Q X s:=
 Calls.Name_function_global E.kind (E.ws i x _ hn) (Calls.loadGlobal_global (E.glob.symm▸(hK.g.keeps r.base)) hv h) (E.nodbg i x _ hn)
theorem Sm{i:Nat}{x:Str}{p:Pos}{v:Value}{Q:Value->Shared->Prop}{X:Value->Shared->Prop}(hK:K.Ok)(r:ak K.hb s.heap σ α)(E:tf env)(hn:env.scope.names[i]?=some (x,.globalImplicit))
  (hm:K.mg x=none) (hv:K.mb x=some v) (h:Q v s):wpAny (model K.prog K.w) A (eval (.Name x p) env) Q X s:=
 Calls.Name_function_global E.kind (E.ws i x _ hn) (Calls.loadGlobal_builtin (by rw[E.glob];exact hK.g.keeps r.base) hm (by rw[E.bins];exact hK.b.keeps r.base) hv h) (E.nodbg i x _ hn)
end
end Mine
namespace Mine
open PySem PyProof.Rows
theorem af.re{h:Heap}{α α':au}(L:∀(i:Nat) (a:Addr),α.ix[i]?=some a->α'.ix[i]?=some a)(O:∀a,a∈α'.all->a∈α.all){p:H}{v:Value}(r:af h α p v):af h α' p v:=by
 induction r with
 | none=>exact .none
 | bool b=>exact .bool b
 | int i t=>exact .int i t
 | str s t hs=>exact .str s t hs
 | tup e hn hl _ ag=>exact .tup e (fun q=>hn (O _ q)) hl ag
 | fl e hn hl _ ag=>exact .fl e (fun q=>hn (O _ q)) hl ag
 | exc e hc hd hn=>exact .exc e hc hd (fun q=>hn (O _ q))
 | inst e hn hi=>exact .inst e (fun q=>hn (O _ q)) (L _ _ hi)
 | ref e=>exact .ref (L _ _ e)
theorem af.hide{h:Heap}{α:au}{D:Addr}(hD:h.get? D=Option.none){p:H}{v:Value}(r:af h α p v):af h ⟨α.ix,D::α.hid,α.fr⟩ p v:=by
 have key:∀{a:Addr} {o:Obj},h.get? a=some o->a∉α.all->a∉(⟨α.ix,D::α.hid,α.fr⟩:au).all:=fun{a o} e hn q=>by
  rcases c2.mp q with q | q
  ·exact hn (gO _ q)
  ·rcases bE.mp q with q | q
   ·subst q;rw[hD]at e;contradiction
   ·exact hn (fk _ q)
 induction r with
 | none=>exact .none
 | bool b=>exact .bool b
 | int i t=>exact .int i t
 | str s t hs=>exact .str s t hs
 | tup e hn hl _ ag=>exact .tup e (key e hn) hl ag
 | fl e hn hl _ ag=>exact .fl e (key e hn) hl ag
 | exc e hc hd hn=>exact .exc e hc hd (key e hn)
 | inst e hn hi=>exact .inst e (key e hn) hi
 | ref e=>exact .ref e
theorem a7.re{h:Heap}{α α':au}(L:∀(i:Nat) (a:Addr),α.ix[i]?=some a->α'.ix[i]?=some a)(O:∀a,a∈α'.all->a∈α.all){p:List H}{v:List Value}(r:a7 h α p v):a7 h α' p v:=
 ⟨r.1,fun i x y V aj=>(r.2 i x y V aj).re L O⟩
theorem a7.hide{h:Heap}{α:au}{D:Addr}(hD:h.get? D=none){p:List H}{v:List Value}(r:a7 h α p v):a7 h ⟨α.ix,D::α.hid,α.fr⟩ p v:=
 ⟨r.1,fun i x y V aj=>(r.2 i x y V aj).hide hD⟩
theorem au.not_hide{h:Heap}{α:au}{D a:Addr}{o:Obj}(hD:h.get? D=none)(e:h.get? a=some o)(hn:a∉α.all):a∉(⟨α.ix,D::α.hid,α.fr⟩:au).all:=fun q=>by
 rcases c2.mp q with q | q
 ·exact hn (gO _ q)
 ·rcases bE.mp q with q | q
  ·subst q;rw[hD]at e;contradiction
  ·exact hn (fk _ q)
theorem af.sameBut{h h':Heap}{α:au}{D:Addr}(hD:D∈α.all)(k:∀b,b≠D->h'.get? b=h.get? b){p:H}{v:Value}(r:af h α p v):af h' α p v:=by
 induction r with
 | none=>exact .none
 | bool b=>exact .bool b
 | int i t=>exact .int i t
 | str s t hs=>exact .str s t hs
 | tup e hn hl _ ag=>exact .tup ((k _ (by rintro rfl;exact hn hD)).trans e) hn hl ag
 | fl e hn hl _ ag=>exact .fl ((k _ (by rintro rfl;exact hn hD)).trans e) hn hl ag
 | exc e hc hd hn=>exact .exc ((k _ (by rintro rfl;exact hn hD)).trans e) hc hd hn
 | inst e hn hi=>exact .inst ((k _ (by rintro rfl;exact hn hD)).trans e) hn hi
 | ref e=>exact .ref e
theorem a7.sameBut{h h':Heap}{α:au}{D:Addr}(hD:D∈α.all)(k:∀b,b≠D->h'.get? b=h.get? b){p:List H}{v:List Value}(r:a7 h α p v):a7 h' α p v:=
 ⟨r.1,fun i x y V aj=>(r.2 i x y V aj).sameBut hD k⟩
noncomputable def BN(K:aQ)(A:Around)(it v:Value)(P:Shared->Prop)(s:Shared):Prop:=
 ∀(mV:List Expr) (k:Nat) (pos:Pos) (Q:Unit->Shared->Prop) (E:Value->Shared->Prop),(∀s',P s'->Q () s')->wpAny (model K.prog K.w) A (letOwnedTupleGo (.Tuple mV k pos) it v) Q E s
noncomputable def Al:List String:=["enumerate", "zip", "dict_itemiterator", "dict_reverseitemiterator", "odict_iterator", "itertools.zip_longest", "itertools.pairwise"]
theorem sF{K:aQ}{A:Around}{I:Addr}{o:Obj}{n:String}{v:Value}{s:Shared}{P:Shared->Prop}(e:s.heap.get? I=some o)(hc:o.cls=.type n)(hn:Al.contains n=false)(h:P s):BN K A (.ref I) v P s:=by
 intro mV k pos Q E a2;have hq:=a2 s h;unfold letOwnedTupleGo
 cases v with
 | ref a =>
  refine aI (wpAny_load e ?_);obtain⟨c,d,CF,cq⟩:=o;dsimp only at hc;subst hc
  cases CF with
  | fields vs =>
   show wpAny _ A (if(Al.contains n&&vs[0]? == some (rawInt a))=true then _ else _) Q E s;exact hn.symm▸(bx hq)
  | _=>exact bx hq
 | _=>exact bx hq
structure hz(K:aQ)(A:Around)(en:Bool)(bV:List Addr)(it:Value)(xs:List H)(wt:Option (Nat×aS))(St:Nat->Heap->au->Prop):Prop where
 live:∀i h α,St i h α->∀b∈bV,∃o,h.get? b=some o
 apart:∀i h α,St i h α->∀b∈bV,b∉α.all
 frame:∀i F α h α' h',St i h α->aW F α h α' h'->(∀b∈bV,b∉F)->St i h' α'
 but:∀i D α h h',St i h α->D∈α.all->(∀b,b≠D->h'.get? b=h.get? b)->St i h' α
 hide:∀i D α h,St i h α->h.get? D=none->St i h ⟨α.ix,D::α.hid,α.fr⟩
 item:∀(i:Nat) (s:Shared) (σ:ac) (α:au) (p:H),xs[i]?=some p->St i s.heap α->ak K.hb s.heap σ α->fK wt σ->∀(Q:Option Value->Shared->Prop) (E:Value->Shared->Prop),
  (∀v s',af s'.heap α p v->(en=false->St (i+1) s'.heap α)->BN K A it v (fun aX=>af aX.heap α p v/\St (i+1) aX.heap α/\aW bV α s'.heap α aX.heap/\ak K.hb aX.heap σ α/\cJ s' aX) s'->aW bV α s.heap α s'.heap->ak K.hb s'.heap σ α->cJ s s'->Q (some v) s')->wpAny (model K.prog K.w) A (pyNext it) Q E s
 done:∀(s:Shared) (σ:ac) (α:au),St xs.length s.heap α->ak K.hb s.heap σ α->fK wt σ->∀(Q:Option Value->Shared->Prop) (E:Value->Shared->Prop),
  (∀s',aW bV α s.heap α s'.heap->ak K.hb s'.heap σ α->cJ s s'->Q none s')->wpAny (model K.prog K.w) A (pyNext it) Q E s
 self:∀(i:Nat) (s:Shared) (α:au),St i s.heap α->∀(Q:Value->Shared->Prop) (E:Value->Shared->Prop),Q it s->wpAny (model K.prog K.w) A (pyIter it) Q E s
theorem ak.but{hb h h' σ α}{I:Addr}(r:ak hb h σ α)(Gl:I∉α.all)(gj:hb.get? I=none)(k:∀b o,b≠I->h.get? b=some o->h'.get? b=some o)
  (hs:∀o,h.get? I=some o->¬kj o) (hd:I∈hb.fr->∀o,h.get? I=some o->gF o->∃aK,h'.get? I=some aK/\gF aK):ak hb h' σ α/\aW [I] α h α h':=by
 have a4:I∉α.ix:=au.not_ix Gl;have N5:I∉α.hid:=fun q=>Gl (fk _ q);have x:aW [I] α h α h':=⟨rfl,⟨[],by simp,fun J hx=>(nomatch hx)⟩,fun b o hb e q=>k b o (fun z=>by subst z;exact hs o e q) e,fun b o hb bN e=>.inl (k b o (by simpa using bN) e),fun b o bN e=>⟨o,k b o (by simpa using bN) e⟩,rfl⟩;refine⟨⟨fun b o e=>k b o (fun q=>by rw[q,gj]at e;contradiction) (r.base b o e),r.fresh,r.nodup,r.len,fun b hb=>⟨(r.hidden b hb).1,?_⟩,fun j m a V aj=>?_,r.hfr,r.fe,fun b hb=>⟨(r.frs b hb).1,?_⟩,r.frNot⟩,x⟩
 ·refine aJ ((r.hidden b hb).2) fun o e=>?_;exact⟨o,k b o (fun q=>N5 (q▸hb)) e⟩
 ·refine aJ (r.live (eb aj)) fun aK aA=>?_;exact(r.obj j m a V aj).ext x (by rw[aA,k a aK (fun q=>a4 (q▸eb aj)) aA])
 ·obtain⟨_,o,e,d⟩:=r.frs b hb;by_cases q:b=I
  ·subst q;exact hd hb o e d
  ·exact⟨o,k b o q e,d⟩
theorem li{h h':Heap}{fr:List Addr}{c:Addr}{o:Obj}{v:Array Value}(Ks:h.get? c=some o)(wM:o.data=.fields v)(x:jl fr h' c o):h'.get? c=some o:=x.same (by rintro⟨es,n,q⟩;rw[wM]at q;contradiction)
theorem iu{o:Obj}{v:Array Value}{T:String}(d:o.data=.fields v)(hc:o.cls=.type T):¬kj o:=by
 rintro(⟨xs,n,e⟩ | ⟨C,vs,e,_⟩ | ⟨C,e,_⟩)
 ·rw[d]at e;contradiction
 ·rw[hc]at e;contradiction
 ·rw[hc]at e;contradiction
theorem ir{o:Obj}{v:Array Value}(d:o.data=.fields v):¬gF o:=by
 rintro⟨xs,n,e⟩;rw[d]at e;contradiction
section
variable {K:aQ}{A:Around}{en:Bool}
theorem hz.list(hA:d9 A)(aO:A.handled=none){I:Addr}{l:Addr}{xs:List H}(gj:K.hb.get? I=none) :
  hz K A en [I] (.ref I) xs none (fun i h α=>h.IsListIter I l i/\I∉α.all/\af h α (.fl xs) (.ref l)) where
 live:=fun i h α st b hb=>by simp at hb;subst hb;obtain⟨⟨o,e,_⟩,_⟩:=st;exact⟨o,e⟩
 apart:=fun i h α st b hb=>by simp at hb;subst hb;exact st.2.1
 frame:=fun i F α h α' h' st x bN=>by
  obtain⟨⟨o,e,hc,hd⟩,a4,v⟩:=st;exact⟨⟨o,li e hd (x.rest I o (au.not_ix a4) (bN I ((bi))) e),hc,hd⟩,x.notAll a4 e,v.ext x⟩
 but:=fun i D α h h' st hD k=>by
  obtain⟨⟨o,e,hc,hd⟩,a4,v⟩:=st;exact⟨⟨o,(k I (fun q=>a4 (q▸hD))).trans e,hc,hd⟩,a4,v.sameBut hD k⟩
 hide:=fun i D α h st hD=>by
  obtain⟨⟨o,e,hc,hd⟩,a4,v⟩:=st;exact⟨⟨o,e,hc,hd⟩,au.not_hide hD e a4,v.hide hD⟩
 item:=fun i s σ α p hp st r J Q E a2=>by
  refine dI st fun bO a4 v=>?_;obtain⟨nf,vs,n,hl,V,hn,w⟩:=v.flE;cases hl;refine aw (w.get hp) fun u hu hv=>?_;refine bC (id bO) fun o e hc hd=>?_;refine wpAny_pyNext_list_item bO (gG V) (by simpa using hu) fun h' eY d6=>?_
  obtain⟨aC,x⟩:=r.but a4 gj (fun b o hb e=>(d6.2 b hb).trans e) (fun aK aA=>by rw[e]at aA;obtain rfl:=oi aA;exact iu hd hc) fun J aK aA eV=>by rw[e]at aA;obtain rfl:=oi aA;exact absurd eV (ir hd)
  refine bC (id eY) fun aK aA cb J=>?_;exact a2 u _ (hv.ext x) (fun J=>⟨eY,a4,v.ext x⟩) (sF (s:={ s with heap:=h' }) aA cb (by decide) ⟨hv.ext x,⟨eY,a4,v.ext x⟩,.refl,aC,.refl _⟩) x aC ⟨rfl,rfl⟩
 done:=fun s σ α st r J Q E a2=>by
  refine dI st fun bO a4 v=>?_;obtain⟨nf,vs,n,hl,V,hn,w⟩:=v.flE;cases hl;refine bC (id bO) fun o e hc hd=>?_;refine wpAny_pyNext_list_end aO bO (gG V) (by simp[w.1]) fun h' jt=>?_
  obtain⟨aC,x⟩:=r.but a4 gj (fun b o hb e=>jt b o hb e) (fun aK aA=>by rw[e]at aA;obtain rfl:=oi aA;exact iu hd hc) fun J aK aA eV=>by rw[e]at aA;obtain rfl:=oi aA;exact absurd eV (ir hd)
  exact a2 _ x aC ⟨rfl,rfl⟩
 self:=fun i s α st Q E a2=>wpAny_pyIter_listiter st.1 a2
theorem hz.mlist(hA:d9 A)(aO:A.handled=none){I:Addr}{l:Addr}{j:Nat}{xs:List H}(gj:K.hb.get? I=none) :
  hz K A en [I] (.ref I) xs (some (j,.lst xs)) (fun i h α=>h.IsListIter I l i/\I∉α.all/\α.ix[j]?=some l) where
 live:=fun i h α st b hb=>by simp at hb;subst hb;obtain⟨⟨o,e,_⟩,_⟩:=st;exact⟨o,e⟩
 apart:=fun i h α st b hb=>by simp at hb;subst hb;exact st.2.1
 frame:=fun i F α h α' h' st x bN=>by
  obtain⟨⟨o,e,hc,hd⟩,a4,v⟩:=st;exact⟨⟨o,li e hd (x.rest I o (au.not_ix a4) (bN I ((bi))) e),hc,hd⟩,x.notAll a4 e,x.get v⟩
 but:=fun i D α h h' st hD k=>by
  obtain⟨⟨o,e,hc,hd⟩,a4,v⟩:=st;exact⟨⟨o,(k I (fun q=>a4 (q▸hD))).trans e,hc,hd⟩,a4,v⟩
 hide:=fun i D α h st hD=>by
  obtain⟨⟨o,e,hc,hd⟩,a4,v⟩:=st;exact⟨⟨o,e,hc,hd⟩,au.not_hide hD e a4,v⟩
 item:=fun i s σ α p hp st r wt Q E a2=>by
  refine dI st fun bO a4 v=>?_;refine cD (r.obj j _ l wt v) fun vs n V w=>?_;refine aw (w.get hp) fun u hu hv=>?_;refine bC (id bO) fun o e hc hd=>?_;refine wpAny_pyNext_list_item bO (gG V) (by simpa using hu) fun h' eY d6=>?_
  obtain⟨aC,x⟩:=r.but a4 gj (fun b o hb e=>(d6.2 b hb).trans e) (fun aK aA=>by rw[e]at aA;obtain rfl:=oi aA;exact iu hd hc) fun J aK aA eV=>by rw[e]at aA;obtain rfl:=oi aA;exact absurd eV (ir hd)
  refine bC (id eY) fun aK aA cb J=>?_;exact a2 u _ (hv.ext x) (fun J=>⟨eY,a4,v⟩) (sF (s:={ s with heap:=h' }) aA cb (by decide) ⟨hv.ext x,⟨eY,a4,v⟩,.refl,aC,.refl _⟩) x aC ⟨rfl,rfl⟩
 done:=fun s σ α st r wt Q E a2=>by
  refine dI st fun bO a4 v=>?_;refine cD (r.obj j _ l wt v) fun vs n V w=>?_;refine bC (id bO) fun o e hc hd=>?_;refine wpAny_pyNext_list_end aO bO (gG V) (by simp[w.1]) fun h' jt=>?_
  obtain⟨aC,x⟩:=r.but a4 gj (fun b o hb e=>jt b o hb e) (fun aK aA=>by rw[e]at aA;obtain rfl:=oi aA;exact iu hd hc) fun J aK aA eV=>by rw[e]at aA;obtain rfl:=oi aA;exact absurd eV (ir hd)
  exact a2 _ x aC ⟨rfl,rfl⟩
 self:=fun i s α st Q E a2=>wpAny_pyIter_listiter st.1 a2
theorem hz.signs{I:Addr}{x:Str}{t:Tok}{ty:String}(gj:K.hb.get? I=none)(hx:PyData.strOk x=true)(l8:Al.contains ty=false)
  (QH:∀(s:Shared) (i c:Nat) (Q:Option Value->Shared->Prop) (E:Value->Shared->Prop),s.heap.IsStrIter I ty x t i->x.cps[i]?=some c ->
   (∀h',h'.IsStrIter I ty x t (i+1)->Heap.SameBut I s.heap h'->Q (some (.str ⟨#[c]⟩ s.toks)) { s with heap:=h',toks:=s.toks+1 })->wpAny (model K.prog K.w) A (pyNext (.ref I)) Q E s)
  (QI:∀(s:Shared) (i:Nat) (Q:Option Value->Shared->Prop) (E:Value->Shared->Prop),s.heap.IsStrIter I ty x t i->x.cps[i]?=none->(∀h',Heap.ExtBut I s.heap h'->Q none { s with heap:=h' })->wpAny (model K.prog K.w) A (pyNext (.ref I)) Q E s)
  (QJ:∀(s:Shared) (i:Nat) (Q:Value->Shared->Prop) (E:Value->Shared->Prop),s.heap.IsStrIter I ty x t i->Q (.ref I) s->wpAny (model K.prog K.w) A (pyIter (.ref I)) Q E s) :
  hz K A en [I] (.ref I) (vR x) none (fun i h α=>h.IsStrIter I ty x t i/\I∉α.all) where
 live:=fun i h α st b hb=>by simp at hb;subst hb;obtain⟨⟨o,e,_⟩,_⟩:=st;exact⟨o,e⟩
 apart:=fun i h α st b hb=>by simp at hb;subst hb;exact st.2
 frame:=fun i F α h α' h' st x bN=>by
  obtain⟨⟨o,e,hc,hd⟩,a4⟩:=st;exact⟨⟨o,li e hd (x.rest I o (au.not_ix a4) (bN I ((bi))) e),hc,hd⟩,x.notAll a4 e⟩
 but:=fun i D α h h' st hD k=>by
  obtain⟨⟨o,e,hc,hd⟩,a4⟩:=st;exact⟨⟨o,(k I (fun q=>a4 (q▸hD))).trans e,hc,hd⟩,a4⟩
 hide:=fun i D α h st hD=>by
  obtain⟨⟨o,e,hc,hd⟩,a4⟩:=st;exact⟨⟨o,e,hc,hd⟩,au.not_hide hD e a4⟩
 item:=fun i s σ α p hp st r J Q E a2=>by
  refine aP st fun bO a4=>?_;refine bC (id bO) fun o e hc hd=>?_;simp only[vR,fB]at hp;refine aw (Option.map_eq_some_iff.mp hp) fun c m4 ae=>?_;obtain rfl:=ae
  have Gx:x.cps[i]?=some c:=by exact(Array.getElem?_toList)▸m4
  refine QH s i c Q E bO Gx fun h' eY d6=>?_
  obtain⟨aC,aH⟩:=r.but a4 gj (fun b o hb e=>(d6.2 b hb).trans e) (fun aK aA=>by rw[e]at aA;obtain rfl:=oi aA;exact iu hd hc) fun J aK aA eV=>by rw[e]at aA;obtain rfl:=oi aA;exact absurd eV (ir hd)
  refine bC (id eY) fun aK aA cb J=>?_
  have cL:PyData.strOk ⟨#[c]⟩=true:=by
   unfold PyData.strOk at hx ⊢;simp only[Array.all_eq_true']at hx ⊢;intro d eo;simp at eo;subst eo;exact hx _ (Array.mem_of_getElem? Gx)
  exact a2 _ _ (.str _ _ cL) (fun J=>⟨eY,a4⟩) (sF (s:={ s with heap:=h',toks:=s.toks+1 }) aA cb l8 ⟨.str _ _ cL,⟨eY,a4⟩,.refl,aC,.refl _⟩) aH aC ⟨rfl,rfl⟩
 done:=fun s σ α st r J Q E a2=>by
  refine aP st fun bO a4=>?_;refine bC (id bO) fun o e hc hd=>?_;refine QI s _ Q E bO (by simp[vR]) fun h' jt=>?_
  obtain⟨aC,aH⟩:=r.but a4 gj (fun b o hb e=>jt b o hb e) (fun aK aA=>by rw[e]at aA;obtain rfl:=oi aA;exact iu hd hc) fun J aK aA eV=>by rw[e]at aA;obtain rfl:=oi aA;exact absurd eV (ir hd)
  exact a2 _ aH aC ⟨rfl,rfl⟩
 self:=fun i s α st Q E a2=>QJ s i Q E st.1 a2
theorem p6{s:Shared}{a:Addr}{items:List Value}{n:Nat}(e:s.heap.get? a=some { cls:=.type "tuple",data:=.seq items.toArray n }):s.heap.IsTuple a items.toArray:=⟨_,e,rfl,n,rfl⟩
theorem hz.tuple(hA:d9 A)(aO:A.handled=none){I:Addr}{l:Addr}{xs:List H}(gj:K.hb.get? I=none) :
  hz K A en [I] (.ref I) xs none (fun i h α=>h.IsTupleIter I l i/\I∉α.all/\af h α (.tup xs) (.ref l)) where
 live:=fun i h α st b hb=>by simp at hb;subst hb;obtain⟨⟨o,e,_⟩,_⟩:=st;exact⟨o,e⟩
 apart:=fun i h α st b hb=>by simp at hb;subst hb;exact st.2.1
 frame:=fun i F α h α' h' st x bN=>by
  obtain⟨⟨o,e,hc,hd⟩,a4,v⟩:=st;exact⟨⟨o,li e hd (x.rest I o (au.not_ix a4) (bN I ((bi))) e),hc,hd⟩,x.notAll a4 e,v.ext x⟩
 but:=fun i D α h h' st hD k=>by
  obtain⟨⟨o,e,hc,hd⟩,a4,v⟩:=st;exact⟨⟨o,(k I (fun q=>a4 (q▸hD))).trans e,hc,hd⟩,a4,v.sameBut hD k⟩
 hide:=fun i D α h st hD=>by
  obtain⟨⟨o,e,hc,hd⟩,a4,v⟩:=st;exact⟨⟨o,e,hc,hd⟩,au.not_hide hD e a4,v.hide hD⟩
 item:=fun i s σ α p hp st r J Q E a2=>by
  refine dI st fun bO a4 v=>?_;obtain⟨nf,vs,n,hl,V,hn,w⟩:=v.tupE;cases hl;refine aw (w.get hp) fun u hu hv=>?_;refine bC (id bO) fun o e hc hd=>?_;refine wpAny_pyNext_tuple_item bO (p6 V) (by simpa using hu) fun h' eY d6=>?_
  obtain⟨aC,x⟩:=r.but a4 gj (fun b o hb e=>(d6.2 b hb).trans e) (fun aK aA=>by rw[e]at aA;obtain rfl:=oi aA;exact iu hd hc) fun J aK aA eV=>by rw[e]at aA;obtain rfl:=oi aA;exact absurd eV (ir hd)
  refine bC (id eY) fun aK aA cb J=>?_;exact a2 u _ (hv.ext x) (fun J=>⟨eY,a4,v.ext x⟩) (sF (s:={ s with heap:=h' }) aA cb (by decide) ⟨hv.ext x,⟨eY,a4,v.ext x⟩,.refl,aC,.refl _⟩) x aC ⟨rfl,rfl⟩
 done:=fun s σ α st r J Q E a2=>by
  refine dI st fun bO a4 v=>?_;obtain⟨nf,vs,n,hl,V,hn,w⟩:=v.tupE;cases hl;refine bC (id bO) fun o e hc hd=>?_;refine wpAny_pyNext_tuple_end aO bO (p6 V) (by simp[w.1]) fun h' jt=>?_
  obtain⟨aC,x⟩:=r.but a4 gj (fun b o hb e=>jt b o hb e) (fun aK aA=>by rw[e]at aA;obtain rfl:=oi aA;exact iu hd hc) fun J aK aA eV=>by rw[e]at aA;obtain rfl:=oi aA;exact absurd eV (ir hd)
  exact a2 _ x aC ⟨rfl,rfl⟩
 self:=fun i s α st Q E a2=>wpAny_pyIter_tupleiter st.1 a2
theorem hz.range(hA:d9 A)(aO:A.handled=none){I:Addr}{a c:Int}{n:Nat}(gj:K.hb.get? I=none) :
  hz K A en [I] (.ref I) (cF a c n) none (fun i h α=>IsRangeIter h I (a+(i:Nat)*c) ((n:Int)-(i:Nat)) c/\I∉α.all) where
 live:=fun i h α st b hb=>by simp at hb;subst hb;exact⟨_,st.1⟩
 apart:=fun i h α st b hb=>by simp at hb;subst hb;exact st.2
 frame:=fun i F α h α' h' st x bN=>by
  refine aP st fun e a4=>?_;exact⟨li e rfl (x.rest I _ (au.not_ix a4) (bN I ((bi))) e),x.notAll a4 e⟩
 but:=fun i D α h h' st hD k=>by
  refine aP st fun e a4=>?_;exact⟨(k I (fun q=>a4 (q▸hD))).trans e,a4⟩
 hide:=fun i D α h st hD=>by
  refine aP st fun e a4=>?_;exact⟨e,au.not_hide hD e a4⟩
 item:=fun i s σ α p hp st r J Q E a2=>by
  refine aP st fun bO a4=>?_
  have hi:i<n:=by have:=(dU hp).1;simpa[cF]using this
  have zm:p=.int (a+(i:Int)*c):=by
   simp only[cF,fB,List.getElem?_range hi,Option.map_some,Option.some.injEq]at hp;exact hp.symm
  subst zm;refine wpAny_pyNext_range_item bO (by grind) fun h' eY d6=>?_
  obtain⟨aC,x⟩:=r.but a4 gj (fun b o hb e=>(d6.2 b hb).trans e) (fun aK aA=>by rw[show s.heap.get? I=_ from bO]at aA;obtain rfl:=oi aA;exact iu rfl rfl) fun J aK aA eV=>by rw[show s.heap.get? I=_ from bO]at aA;obtain rfl:=oi aA;exact absurd eV (ir rfl)
  have V:a+((i+1:Nat):Int)*c=a+(i:Int)*c+c:=by push_cast;rw[Int.add_mul,Int.one_mul,Int.add_assoc]
  have aj:(n:Int)-((i+1:Nat):Int)=(n:Int)-(i:Int)-1:=by push_cast;(grind)
  have Ji:IsRangeIter h' I (a+((i+1:Nat):Int)*c) ((n:Int)-((i+1:Nat):Int)) c:=by exact V.symm▸aj.symm▸eY
  exact a2 _ _ (.int _ _) (fun J=>⟨Ji,a4⟩) (sF (s:={ s with heap:=h',toks:=s.toks+1 }) eY rfl (by decide) ⟨.int _ _,⟨Ji,a4⟩,.refl,aC,.refl _⟩) x aC ⟨rfl,rfl⟩
 done:=fun s σ α st r J Q E a2=>by
  refine aP st fun bO a4=>?_;refine wpAny_pyNext_range_end aO bO (by simp[cF]) fun h' jt=>?_
  obtain⟨aC,x⟩:=r.but a4 gj (fun b o hb e=>jt b o hb e) (fun aK aA=>by rw[show s.heap.get? I=_ from bO]at aA;obtain rfl:=oi aA;exact iu rfl rfl) fun J aK aA eV=>by rw[show s.heap.get? I=_ from bO]at aA;obtain rfl:=oi aA;exact absurd eV (ir rfl)
  exact a2 _ x aC ⟨rfl,rfl⟩
 self:=fun i s α st Q E a2=>wpAny_pyIter_rangeiter st.1 a2
end
end Mine
namespace Mine
open PySem PyProof.Rows
theorem d1.hide{B:fY}{h:Heap}{α:au}{D:Addr}{m:aS}{a:Addr}(hD:h.get? D=none)(r:d1 B h α m a):d1 B h ⟨α.ix,D::α.hid,α.fr⟩ m a:=
 r.map (fun J J v=>v.hide hD) rfl fun b o hb e J=>⟨e,au.not_hide hD e hb⟩
theorem d1.re{B:fY}{h:Heap}{α α':au}{m:aS}{a:Addr}(L:∀(i:Nat) (a:Addr),α.ix[i]?=some a->α'.ix[i]?=some a)(O:∀a,a∈α'.all->a∈α.all)(r:d1 B h α m a):d1 B h α' m a:=
 r.map (fun J J v=>v.re L O) rfl fun b o hb e J=>⟨e,fun q=>hb (O b q)⟩
theorem aZ.hide{h:Heap}{α:au}{D:Addr}{env:Env}{ρ:aE}(hD:h.get? D=none)(E:aZ env ρ h α):aZ env ρ h ⟨α.ix,D::α.hid,α.fr⟩:=by
 refine aw E.ns fun m n hm=>?_;refine jQ (id n) fun S4 J J xc J=>?_;refine⟨E.ok,au.not_hide hD xc E.la,⟨m,n,fun i x v V aj=>let⟨u,a,b⟩:=hm i x v V aj;⟨u,a,b.hide hD⟩⟩,fun x c hc=>?_,E.cd,fun i x V=>?_,E.inb⟩
 ·refine dI (E.ca x c hc) fun L O bd=>?_;refine aJ bd fun v ar=>?_;refine aw (id ar) fun o e d=>?_;exact⟨au.not_hide hD e L,O,v,ar⟩
 ·refine aw (E.cv i x V) fun c hc hv=>?_;exact⟨c,hc,fun v aj=>let⟨u,a,b⟩:=hv v aj;⟨u,a,b.hide hD⟩⟩
theorem ak.hide{hb h h' σ α}{D:Addr}{o:Obj}(r:ak hb h σ α)(hD:h.get? D=none)(k:∀b o,h.get? b=some o->h'.get? b=some o)(e:h'.get? D=some o):ak hb h' σ ⟨α.ix,D::α.hid,α.fr⟩:=by
 have aC:=r.keeps k
 have pX:D∉α.ix:=fun q=>by refine aJ (r.live q) fun o e=>?_;rw[hD]at e;cases e
 refine⟨aC.base,aC.fresh,aC.nodup,aC.len,fun a ha=>?_,fun i m a V aj=>?_,fun a ha=>?_,aC.fe,aC.frs,aC.frNot⟩
 ·rcases bE.mp ha with q | q
  ·subst q;exact⟨pX,_,e⟩
  ·exact aC.hidden a q
 ·have x:aW [] (⟨α.ix,D::α.hid,α.fr⟩:au) h ⟨α.ix,D::α.hid,α.fr⟩ h':=.keeps k;refine aJ (r.live (eb aj)) fun aK aA=>?_;exact((r.obj i m a V aj).hide hD).ext x (by rw[aA,k a aK aA])
 ·rcases bE.mp ha with q | q
  ·subst q
   cases hq:hb.get? a with
   | none=>rfl
   | some o=>rw[r.base _ _ hq]at hD;cases hD
  ·exact r.hfr a q
section
variable {K:aQ}{A:Around}{s:Shared}{α:au}{σ:ac}{en:Bool}
inductive f3(K:aQ)(A:Around)(en:Bool)(c:ai (List H×Option (Nat×aS)))(s:Shared)(α:au)(it:Value)(s':Shared):Prop where
 | mk (xs:List H) (wt:Option (Nat×aS)) (σ':ac) (α':au) (bV:List Addr) (St:Nat->Heap->au->Prop) (h:c=.ok (xs,wt) σ') (x:aW [] α s.heap α' s'.heap) (r:ak K.hb s'.heap σ' α') (m:cJ s s') (I:hz K A en bV it xs wt St) (st:St 0 s'.heap α') (ho:∀b∈bV,s.heap.get? b=none/\K.hb.get? b=none):f3 K A en c s α it s'
theorem f3.lift{c:ai (List H×Option (Nat×aS))}{s₁:Shared}{α₁:au}{it:Value}{s':Shared}(x:aW [] α s.heap α₁ s₁.heap)(m:cJ s s₁)(p:f3 K A en c s₁ α₁ it s'):f3 K A en c s α it s':=by
 obtain⟨xs,wt,σ',α',bV,St,e,aH,r,bH,I,st,ho⟩:=p;refine⟨xs,wt,σ',α',bV,St,e,x.trans aH,r,m.trans bH,I,st,fun b hb=>⟨?_,(ho b hb).2⟩⟩
 cases hq:s.heap.get? b with
 | none=>rfl
 | some o=>obtain⟨aK,aA⟩:=x.alive b o ((dT)) hq;rw[(ho b hb).1]at aA;cases aA
noncomputable def jk(K:aQ)(A:Around)(en:Bool)(t:Sem Value)(c:ai (List H×Option (Nat×aS)))(s:Shared)(α:au):Prop:=
 c≠.stuck->K.Tk s->wpAny (model K.prog K.w) A t (fun x s₁=>wpAny (model K.prog K.w) A (pyIter x) (f3 K A en c s α) (cW K A c s α) s₁) (cW K A c s α) s
theorem oO(r:ak K.hb s.heap σ α):K.hb.get? s.heap.objs.size=none:=by
 cases hq:K.hb.get? s.heap.objs.size with
 | none=>rfl
 | some o=>exact absurd (eQ (r.base _ _ hq)) (Nat.lt_irrefl _)
theorem f3.new{I:Addr}{o:Obj}{xs:List H}{wt:Option (Nat×aS)}{St:Nat->Heap->au->Prop}{tk:Nat}(a4:I=s.heap.objs.size)(r:ak K.hb s.heap σ α)(it:hz K A en [I] (.ref I) xs wt St)
  (st:∀h',h'=s.heap.push o->(∀b aK,s.heap.get? b=some aK->h'.get? b=some aK)->I∉α.all->St 0 h' α):f3 K A en (.ok (xs,wt) σ) s α (.ref I) { s with heap:=s.heap.push o,toks:=tk }:=by
 subst a4;have k:∀b aK,s.heap.get? b=some aK->(s.heap.push o).get? b=some aK:=fun b aK e=>cP _ e;refine⟨xs,wt,σ,α,_,St,rfl,.keeps k,r.keeps k,⟨rfl,rfl⟩,it,st _ rfl k (fun hm=>?_),fun b hb=>?_⟩
 ·refine aJ (r.liveAll hm) fun o e=>?_;rw[kJ]at e;cases e
 ·simp at hb;subst hb;exact⟨kJ s,oO r⟩
theorem QS{a:H}{x:Value}(hA:d9 A)(aO:A.handled=none)(r:ak K.hb s.heap σ α)(av:af s.heap α a x){E:Value->Shared->Prop}
  (hc:h8 a σ≠.stuck) :
  wpAny (model K.prog K.w) A (pyIter x) (f3 K A en (h8 a σ) s α) E s:=by
 unfold h8 at hc ⊢
 cases a with
 | fl xs =>
  obtain⟨l,vs,n,rfl,V,hn,v⟩:=av.flE;refine wpAny_pyIter_list (gG V) (f3.new (tk:=s.toks) rfl r (.list hA aO (l:=l) (oO r)) fun h' aO k a4=>?_);exact⟨⟨_,by rw[aO];exact ec _ rfl,rfl,rfl⟩,a4,av.ext (.keeps (F:=[]) k)⟩
 | tup xs =>
  obtain⟨l,vs,n,rfl,V,hn,v⟩:=av.tupE;refine wpAny_pyIter_tuple (p6 V) (f3.new (tk:=s.toks) rfl r (.tuple hA aO (l:=l) (oO r)) fun h' aO k a4=>?_);exact⟨⟨_,by rw[aO];exact ec _ rfl,rfl,rfl⟩,a4,av.ext (.keeps (F:=[]) k)⟩
 | ref i =>
  refine aw av.refE fun l ae dr=>?_;obtain rfl:=ae;simp only[items,nI]at hc ⊢
  cases hs:σ[i]? with
  | none=>rw[hs]at hc;exact absurd rfl hc
  | some m =>
   cases m with
   | lst xs =>
    refine cD (r.obj i _ l hs dr) fun vs n V v=>?_;refine wpAny_pyIter_list (gG V) (f3.new (tk:=s.toks) rfl r (.mlist hA aO (l:=l) (j:=i) (oO r)) fun h' aO k a4=>?_);exact⟨⟨_,by rw[aO];exact ec _ rfl,rfl,rfl⟩,a4,dr⟩
   | _=>rw[hs]at hc;exact absurd rfl hc
 | str z =>
  refine aw av.strE fun t ae bA=>?_;obtain rfl:=ae;cases ha:z.cps.all (· < 128)
  ·refine wpAny_pyIter_wide ha (f3.new (tk:=s.toks) rfl r (.signs (t:=t) (ty := "str_iterator") (oO r) bA (by decide) (fun s i c Q E L O ar=>wpAny_pyNext_wide_item L O ar) (fun s i Q E L O ar=>wpAny_pyNext_wide_end aO L O ar) fun s i Q E L O=>wpAny_pyIter_striter_wide L O) fun h' aO k a4=>?_);exact⟨⟨_,by rw[aO];exact ec _ rfl,rfl,rfl⟩,a4⟩
  ·refine wpAny_pyIter_ascii ha (f3.new (tk:=s.toks) rfl r (.signs (t:=t) (ty := "str_ascii_iterator") (oO r) bA (by decide) (fun s i c Q E L O ar=>wpAny_pyNext_ascii_item L O ar) (fun s i Q E L O ar=>wpAny_pyNext_ascii_end aO L O ar) fun s i Q E L O=>wpAny_pyIter_striter_ascii L O) fun h' aO k a4=>?_);exact⟨⟨_,by rw[aO];exact ec _ rfl,rfl,rfl⟩,a4⟩
 | _=>exact absurd rfl hc
theorem Ut{n:Int}(h0:0<=n):Builtin.Range.rangeSize 0 n 1=n:=by
 unfold Builtin.Range.rangeSize;simp;(grind)
theorem UJ{n:Int}(h0:0<=n)(L:n<=(aB:Int)):Builtin.Range.small 0 n 1=true:=
 small_one (by decide) (by decide) (Int.le_trans (by decide) h0) (Int.lt_of_le_of_lt L (by decide))
noncomputable def nJ(s:Shared)(a b c:Int)(t u v tk:Nat):Shared:={ s with heap:=s.heap.push { cls:=.type "range",data:=.fields #[.int a t,.int b u,.int c v] },toks:=tk }
theorem J4{a b c:Int}{t u v tk:Nat}{x:Addr}{o:Obj}(e:s.heap.get? x=some o):(nJ s a b c t u v tk).heap.get? x=some o:=cP _ e
inductive mI(K:aQ)(c:ai (List H×Option (Nat×aS)))(s:Shared)(α:au)(y:Value)(s':Shared):Prop
 | mk (s₁:Shared) (aa:ac) (α₁:au) (a b d:Int) (t u v tk n:Nat) (hy:y=.ref s₁.heap.objs.size) (hs:s'=nJ s₁ a b d t u v tk) (hc:c=.ok (cF a d n,none) aa) (x:aW [] α s.heap α₁ s₁.heap) (r:ak K.hb s₁.heap aa α₁) (m:cJ s s₁) (j5:Builtin.Range.small a b d=true) (hn:Builtin.Range.rangeSize a b d=n) (hl:n<=2000000):mI K c s α y s'
theorem mI.lift{c:ai (List H×Option (Nat×aS))}{s₀:Shared}{jg:au}{y:Value}{s':Shared}(x:aW [] jg s₀.heap α s.heap)(m:cJ s₀ s)(p:mI K c s α y s'):mI K c s₀ jg y s':=by
 obtain⟨s₁,aa,α₁,a,b,d,t,u,v,tk,n,hy,hs,hc,aH,r,bH,j5,hn,hl⟩:=p;exact⟨s₁,aa,α₁,a,b,d,t,u,v,tk,n,hy,hs,hc,x.trans aH,r,m.trans bH,j5,hn,hl⟩
theorem QR{a b c:Int}{t u v tk n:Nat}{E:Value->Shared->Prop}(hA:d9 A)(aO:A.handled=none)(r:ak K.hb s.heap σ α)(hs:Builtin.Range.small a b c=true)(hn:Builtin.Range.rangeSize a b c=n) :
  wpAny (model K.prog K.w) A (pyIter (.ref s.heap.objs.size)) (f3 K A en (.ok (cF a c n,none) σ) s α) E (nJ s a b c t u v tk):=by
 have aC:ak K.hb (nJ s a b c t u v tk).heap σ α:=r.keeps fun J J=>J4;refine wpAny_pyIter_range (s:=nJ s a b c t u v tk) (IsRange.new _ _ _ _ _ _ _) hs (f3.lift (s₁:=nJ s a b c t u v tk) (.keeps fun J J=>J4) ⟨rfl,rfl⟩ ?_);refine f3.new (s:=nJ s a b c t u v tk) (tk:=tk) rfl aC (.range hA aO (a:=a) (c:=c) (n:=n) (oO (s:=nJ s a b c t u v tk) aC)) fun h' aO b8 a4=>⟨?_,a4⟩;rw[aO,hn];unfold IsRangeIter;simp only[Int.ofNat_zero,Int.zero_mul,Int.add_zero,Int.sub_zero];exact ec _ rfl
theorem TZ{a:H}{P:Prop}(h:nw a σ≠.stuck)(k:∀n:Nat,a=.int n->n<=aB->nw a σ=.ok (cF 0 1 n,none) σ->P):P:=by
 cases a with
 | int i =>
  have bt:nw (.int i) σ=if 0<=i/\i<=aB then .ok (cF 0 1 i.toNat,none) σ else .stuck:=rfl
  by_cases hl:0<=i/\i<=aB
  ·refine aJ (iN hl.1) fun n ae=>?_;obtain rfl:=ae;exact k n rfl (Int.ofNat_le.mp hl.2) (bt.trans (az hl))
  ·exact absurd (bt.trans (aY hl)) h
 | _=>exact absurd rfl h
theorem mI.iter{c:ai (List H×Option (Nat×aS))}{y:Value}{s':Shared}{E:Value->Shared->Prop}(hA:d9 A)(aO:A.handled=none)(p:mI K c s α y s'):wpAny (model K.prog K.w) A (pyIter y) (f3 K A en c s α) E s':=by
 obtain⟨s₁,aa,α₁,a,b,d,t,u,v,tk,n,rfl,rfl,rfl,x,r,m,j5,hn,hl⟩:=p;exact cm (QR hA aO r j5 hn) (fun it aX hp=>hp.lift x m) fun J J e=>e
theorem LF{a:H}{x:Value}(r:ak K.hb s.heap σ α)(av:af s.heap α a x){E:Value->Shared->Prop}(hc:nw a σ≠.stuck):wpAny (model K.prog K.w) A (call (.type "range") [x]) (mI K (nw a σ) s α) E s:=by
 refine TZ hc fun n ha hl e=>?_;subst ha;refine aJ av.intE fun t ae=>?_;obtain rfl:=ae;exact e.symm▸(call_range_1 ⟨s,σ,α,0,n,1,_,_,_,s.toks+1+1,n,rfl,rfl,rfl,.refl,r,.refl s,UJ (fm n) (Int.ofNat_le.mpr hl),Ut (fm n),aF hl (by decide)⟩)
end
end Mine
namespace Mine
open PySem PyProof.Rows
section
variable {prog:Program}{w:World}{A:Around}{E:Value->Shared->Prop}{s:Shared}
theorem SO{it t:Addr}{i:Nat}{items:Array Value}{x:Value}{Q:Value->Shared->Prop}(bO:s.heap.IsTupleIter it t i)(a1:s.heap.IsTuple t items)(hx:items[i]?=some x)
  (a2:∀h',h'.IsTupleIter it t (i+1)->Heap.SameBut it s.heap h'->Q x { s with heap:=h' }):wpAny (model prog w) A (Builtin.SmallTypes.nextOf (.ref it)) Q E s:=by
 refine bC (id bO) fun o ho hc hd=>?_;refine bC a1 fun kM oS J bd=>?_;refine aJ bd fun fG y9=>?_;unfold Builtin.SmallTypes.nextOf
 refine aI (wpAny_callSpecial?_slot (name:=Str.ofString "__next__") bO.typeIs F.slot_tuple_iterator_next
  (wpAny_call_entry F.slot_tuple_iterator_next bO.typeIs F.entry_tuple_iterator_next ?_ (F.args_tuple_iterator_next_1 _)))
 show wpAny _ _ (field (.ref it) 0 >>= _) _ _ s;refine aI (gA ho hd (x:=.ref t) rfl ?_);show wpAny _ _ (if(Value.ref t == Value.none)=true then _ else _) _ _ s;rw[aY (show ¬((Value.ref t == Value.none)=true)from Bool.false_ne_true)];show wpAny _ _ (field (.ref it) 1 >>= _) _ _ s;refine aI (gA ho hd (x:=.int i 0) rfl ?_);show wpAny _ _ (seqItems? (.ref t) >>= _) _ _ s;refine aI (wpAny_seqItems oS y9 ?_);simp only[Int.toNat_natCast,hx];refine aI (wpAny_setField ho hd (by simp) (bx ⟨x,rfl,bx (a2 _ ?_ (Heap.SameBut.update ..))⟩))
 exact⟨_,Heap.get?_update_self _ ho (Obj.isFreed_of_fields (Obj.data_mapFields hd _)),(Obj.cls_mapFields ..).trans hc,by
  rw[Obj.data_mapFields hd];simp[rawInt]⟩
theorem SN{it t:Addr}{i:Nat}{items:Array Value}{Q:Value->Shared->Prop}(aO:A.handled=none)(bO:s.heap.IsTupleIter it t i)(a1:s.heap.IsTuple t items)(hx:items[i]?=none)
  (lp:∀h' e,Heap.ExtBut it s.heap h'->(∃o,h'.get? e=some o/\o.cls=.type "StopIteration")->E (.ref e) { s with heap:=h' }):wpAny (model prog w) A (Builtin.SmallTypes.nextOf (.ref it)) Q E s:=by
 refine bC (id bO) fun o ho hc hd=>?_;refine bC a1 fun kM oS J bd=>?_;refine aJ bd fun fG y9=>?_;unfold Builtin.SmallTypes.nextOf
 refine aI (wpAny_callSpecial?_slot (name:=Str.ofString "__next__") bO.typeIs F.slot_tuple_iterator_next
  (wpAny_call_entry F.slot_tuple_iterator_next bO.typeIs F.entry_tuple_iterator_next ?_ (F.args_tuple_iterator_next_1 _)))
 show wpAny _ _ (field (.ref it) 0 >>= _) _ _ s;refine aI (gA ho hd (x:=.ref t) rfl ?_);show wpAny _ _ (if(Value.ref t == Value.none)=true then _ else _) _ _ s;rw[aY (show ¬((Value.ref t == Value.none)=true)from Bool.false_ne_true)];show wpAny _ _ (field (.ref it) 1 >>= _) _ _ s;refine aI (gA ho hd (x:=.int i 0) rfl ?_);show wpAny _ _ (seqItems? (.ref t) >>= _) _ _ s;refine aI (wpAny_seqItems oS y9 ?_);simp only[Int.toNat_natCast,hx];refine aI (wpAny_rule (aI (wpAny_setField ho hd (by simp) ?_)));show wpAny _ _ (newExc (.type "StopIteration") [] >>= _) _ _ _;refine aI ?_;simp only[newExc,newTuple];refine aI (wpAny_newObj_type ?_ (by size_fits));refine aI (m:=firstArgMember _ _) (wpAny_of_eq (a:=Value.none) (by first | rfl | (simp only[firstArgMember];rfl)) ?_);refine wpAny_newObj_type ?_ (by size_fits);simp only[raiseNew];refine aI (wpAny_handled ?_)
 first | rw[show A.in1.handled=none from aO] | rw[aO]
 refine aI (bx (wpAny_throw ?_));exact lp _ _ (((Heap.SameBut.update ..).extBut.push _).push _) ⟨_,ec _ rfl,rfl⟩
structure jm(h:Heap)(z TI bM bS cg t l:Addr)(k:Nat)(lh:Value):Prop where
 z:IsZip h z TI bM lh
 ti:IsPair h TI (.ref bS) (.ref cg)
 it:h.IsTupleIter bS t k
 il:h.IsListIter cg l k
structure pB(z TI bM bS cg:Addr):Prop where
 a:TI≠z
 b:bM≠z
 c:bS≠z
 d:cg≠z
 e:TI≠bM
 f:TI≠bS
 g:TI≠cg
 h:bM≠bS
 i:bM≠cg
 j:bS≠cg
theorem Bl{h h':Heap}{I t:Addr}{k:Nat}(x:h.IsTupleIter I t k)(g:∀o,h.get? I=some o->h'.get? I=some o):h'.IsTupleIter I t k:=by
 refine bC x fun o e c d=>?_;exact⟨o,g o e,c,d⟩
theorem zV{h h':Heap}{I t:Addr}{k:Nat}(x:h.IsListIter I t k)(g:∀o,h.get? I=some o->h'.get? I=some o):h'.IsListIter I t k:=by
 refine bC x fun o e c d=>?_;exact⟨o,g o e,c,d⟩
theorem jm.keep{h h':Heap}{z TI bM bS cg t l:Addr}{k:Nat}{lh:Value}(Z:jm h z TI bM bS cg t l k lh)(g:∀b,b=z\/b=TI\/b=bS\/b=cg->∀o,h.get? b=some o->h'.get? b=some o):jm h' z TI bM bS cg t l k lh:=
 ⟨g z (.inl rfl) _ Z.z,g TI (.inr (.inl rfl)) _ Z.ti,Bl Z.it (g bS (.inr (.inr (.inl rfl)))),zV Z.il (g cg (.inr (.inr (.inr rfl))))⟩
theorem WZ{z TI bM bS cg t l:Addr}{k:Nat}{xs ys:Array Value}{x y a b:Value}{Q:Value->Shared->Prop}(D:pB z TI bM bS cg)(Z:jm s.heap z TI bM bS cg t l k .none)(yW:IsPair s.heap bM a b)
  (a1:∀h':Heap,(∀c o,c≠z->c≠bM->c≠bS->c≠cg->s.heap.get? c=some o->h'.get? c=some o)->h'.IsTuple t xs/\h'.IsList l ys) (hx:xs[k]?=some x) (hy:ys[k]?=some y)
  (a2:∀h',jm h' z TI bM bS cg t l (k+1) (rawInt s.heap.objs.size)->IsPair h' bM x y->IsPair h' s.heap.objs.size x y ->
   (∀c o,c≠z->c≠bM->c≠bS->c≠cg->s.heap.get? c=some o->h'.get? c=some o)->Q (.ref s.heap.objs.size) { s with heap:=h' }) :
  wpAny (model prog w) A (Builtin.«zip.__next__» ⟨[.ref z],[]⟩) (fun cs s'=>∃v,cs=.done (.ret v)/\Q v s') E s:=by
 obtain⟨bA,uN,L,O⟩:=Z;show wpAny _ _ (field (.ref z) 2 >>= _) _ _ _;refine aI (gA bA rfl (x:=.bool false) rfl ?_);show wpAny _ _ (field (.ref z) 3 >>= _) _ _ _;refine aI (gA bA rfl (x:=.ref TI) rfl ?_);refine aI (wpAny_seqItems uN rfl ?_);show wpAny _ _ (Builtin.SmallTypes.ownedTupleIsFree (.ref z) >>= _) _ _ _;refine aI ?_;unfold Builtin.SmallTypes.ownedTupleIsFree;refine aI (gA bA rfl (x:=.none) rfl (bx ?_));simp only[if_true];refine aI (wpAny_rule ?_);refine aI (gA bA rfl (x:=.ref bM) rfl ?_);refine aI (wpAny_setField_rec bA (by simp) fun cE oU gZ=>?_)
 replace oU:IsZip cE z TI bM .ellipsis:=oU
 refine aI ?_;simp only[List.zipIdx_cons,List.zipIdx_nil,List.forIn_cons,List.forIn_nil];refine aI (aI (wpAny_onRaise ?_));show wpAny _ _ (Builtin.SmallTypes.nextOf (.ref bS) >>= _) _ _ _;have HF:∀c o,c≠z->s.heap.get? c=some o->cE.get? c=some o:=fun c o cr e=>gZ.extBut _ _ cr e;refine aI (SO (L.extBut gZ.extBut D.c) (a1 cE fun c o cr J J J e=>HF c o cr e).1 hx fun fb NV m8=>bx ?_);have Gn:IsPair fb bM a b:=m8.extBut _ _ D.h (gZ.extBut _ _ D.b yW);refine aI (wpAny_seqItems Gn rfl ?_);refine aI (wpAny_updateSeq_pair Gn fun kG yX m9=>?_)
 replace yX:IsPair kG bM x b:=yX
 refine aI (wpAny_letGo (bx ?_));refine aI (aI (wpAny_onRaise ?_));show wpAny _ _ (Builtin.SmallTypes.nextOf (.ref cg) >>= _) _ _ _;have HG:∀c o,c≠z->c≠bM->c≠bS->s.heap.get? c=some o->kG.get? c=some o:=fun c o cr ft lU e=>m9.extBut _ _ ft (m8.extBut _ _ lU (HF c o cr e))
 refine aI (wpAny_nextOf_list_item (((O.extBut gZ.extBut D.d).extBut m8.extBut D.j.symm).extBut m9.extBut D.i.symm)
  (a1 kG fun c o cr ft lU J e=>HG c o cr ft lU e).2 hy fun u7 NY r3=>bx ?_)
 have Go:IsPair u7 bM x b:=r3.extBut _ _ D.i yX;refine aI (wpAny_seqItems Go rfl ?_);refine aI (wpAny_updateSeq_pair Go fun i1 uO r4=>?_)
 replace uO:IsPair i1 bM x y:=uO
 refine aI (wpAny_letGo (bx (bx ?_)));refine aI (wpAny_seqItems uO rfl ?_);refine aI (wpAny_newTuple ?_)
 have hsz:i1.objs.size=s.heap.objs.size:=by rw[r4.1,r3.1,m9.1,m8.1,gZ.1]
 have G9:IsZip i1 z TI bM .ellipsis:=r4.extBut _ _ D.b.symm (r3.extBut _ _ D.d.symm (m9.extBut _ _ D.b.symm (m8.extBut _ _ D.c.symm oU)))
 have O6:∀c o,c≠z->c≠bM->c≠bS->c≠cg->s.heap.get? c=some o->i1.get? c=some o:=fun c o cr ft lU rk e =>
  r4.extBut _ _ ft (r3.extBut _ _ rk (HG c o cr ft lU e))
 have NW:i1.IsTupleIter bS t (k+1):=((NV.extBut m9.extBut D.h.symm).extBut r3.extBut D.j).extBut r4.extBut D.h.symm;have NZ:i1.IsListIter cg l (k+1):=NY.extBut r4.extBut D.i.symm;have G7:z<i1.objs.size:=eQ G9;show wpAny _ _ (Builtin.SmallTypes.ownedTupleHandOut (.ref z) (.ref i1.objs.size) >>= _) _ _ _;refine aI ?_;unfold Builtin.SmallTypes.ownedTupleHandOut;have P6:IsZip (i1.push { cls:=.type "tuple",data:=.seq #[x,y] }) z TI bM .ellipsis:=cP _ G9;refine aI (wpAny_setField_rec P6 (by simp) fun r8 zx GZ=>?_)
 replace zx:IsZip r8 z TI bM (rawInt i1.objs.size):=zx
 refine wpAny_setField_rec zx (by simp) fun r9 u6 G0=>?_
 replace u6:IsZip r9 z TI bM (rawInt i1.objs.size):=u6
 have up:∀c o,c≠z->i1.get? c=some o->r9.get? c=some o:=fun c o cr e=>G0.extBut _ _ cr (GZ.extBut _ _ cr (cP _ e));have Gq:IsPair r9 i1.objs.size x y:=G0.extBut _ _ (cS G7) (GZ.extBut _ _ (cS G7) (ec _ rfl));rw[hsz]at u6 Gq;refine bx ⟨_,rfl,?_⟩;show Q (.ref i1.objs.size) _;rw[hsz];have kk:∀c o,c≠z->c≠bM->c≠bS->c≠cg->s.heap.get? c=some o->r9.get? c=some o:=fun c o cr ft lU rk e=>up c o cr (O6 c o cr ft lU rk e);exact a2 r9 ⟨u6,kk _ _ D.a D.e D.f D.g uN,Bl NW fun o e=>up _ o D.c e,zV NZ fun o e=>up _ o D.d e⟩ (up _ _ D.b uO) Gq kk
theorem WY{z TI bM bS cg t l:Addr}{k:Nat}{xs:Array Value}{Q:Fin->Shared->Prop}(aO:A.handled=none)(D:pB z TI bM bS cg)(Z:jm s.heap z TI bM bS cg t l k .none)
  (a1:∀h':Heap,(∀c o,c≠z->c≠bS->s.heap.get? c=some o->h'.get? c=some o)->h'.IsTuple t xs) (hx:xs[k]?=none)
  (lp:∀(h':Heap) (e:Addr),(∀c o,c≠z->c≠bS->s.heap.get? c=some o->h'.get? c=some o)->(∃o,h'.get? e=some o/\o.cls=.type "StopIteration")->E (.ref e) { s with heap:=h' }) :
  wpAny (model prog w) A (Builtin.«zip.__next__» ⟨[.ref z],[]⟩) Q E s:=by
 obtain⟨bA,uN,L,O⟩:=Z;show wpAny _ _ (field (.ref z) 2 >>= _) _ _ _;refine aI (gA bA rfl (x:=.bool false) rfl ?_);show wpAny _ _ (field (.ref z) 3 >>= _) _ _ _;refine aI (gA bA rfl (x:=.ref TI) rfl ?_);refine aI (wpAny_seqItems uN rfl ?_);show wpAny _ _ (Builtin.SmallTypes.ownedTupleIsFree (.ref z) >>= _) _ _ _;refine aI ?_;unfold Builtin.SmallTypes.ownedTupleIsFree;refine aI (gA bA rfl (x:=.none) rfl (bx ?_));simp only[if_true];refine aI (wpAny_rule ?_);refine aI (gA bA rfl (x:=.ref bM) rfl ?_);refine aI (wpAny_setField_rec bA (by simp) fun cE oU gZ=>?_)
 replace oU:IsZip cE z TI bM .ellipsis:=oU
 refine aI ?_;simp only[List.zipIdx_cons,List.zipIdx_nil,List.forIn_cons,List.forIn_nil];refine aI (aI (wpAny_onRaise ?_));show wpAny _ _ (Builtin.SmallTypes.nextOf (.ref bS) >>= _) _ _ _;refine aI (SN aO (L.extBut gZ.extBut D.c) (a1 cE fun c o cr J e=>gZ.extBut _ _ cr e) hx fun fb e m8 he=>?_);refine aw he fun gr zl Gv=>?_;have G8:IsZip fb z TI bM .ellipsis:=m8 _ _ D.c.symm oU
 have OQ:e≠z:=fun x=>by subst x;rw[G8]at zl;cases zl;simp at Gv
 exact wpAny_setField_rec G8 (by simp) fun kG J m9=>lp kG e (fun c o cr lU x=>m9.extBut _ _ cr (m8 _ _ lU (gZ.extBut _ _ cr x))) ⟨gr,m9.extBut _ _ OQ zl,Gv⟩
theorem W1{z TI bM bS cg t l:Addr}{k:Nat}{xs ys:Array Value}{x y a b:Value}{Q:Option Value->Shared->Prop}(D:pB z TI bM bS cg)(Z:jm s.heap z TI bM bS cg t l k .none)(yW:IsPair s.heap bM a b)
  (a1:∀h':Heap,(∀c o,c≠z->c≠bM->c≠bS->c≠cg->s.heap.get? c=some o->h'.get? c=some o)->h'.IsTuple t xs/\h'.IsList l ys) (hx:xs[k]?=some x) (hy:ys[k]?=some y)
  (a2:∀h',jm h' z TI bM bS cg t l (k+1) (rawInt s.heap.objs.size)->IsPair h' bM x y->IsPair h' s.heap.objs.size x y ->
   (∀c o,c≠z->c≠bM->c≠bS->c≠cg->s.heap.get? c=some o->h'.get? c=some o)->Q (some (.ref s.heap.objs.size)) { s with heap:=h' }) :
  wpAny (model prog w) A (pyNext (.ref z)) Q E s:=by
 have dD:s.TypeIs (.ref z) "zip" := ⟨_,Z.z,rfl⟩;unfold pyNext
 exact aI (wpAny_attempt (wpAny_callSpecial?_slot (name:=Str.ofString "__next__") dD F.slot_zip_next
  (wpAny_call_entry F.slot_zip_next dD F.entry_zip_next
   (WZ D Z yW a1 hx hy fun h' ay aL a9 dB=>bx (a2 h' ay aL a9 dB)) (F.args_zip_next_1 _))))
theorem W0{z TI bM bS cg t l:Addr}{k:Nat}{xs:Array Value}{Q:Option Value->Shared->Prop}(aO:A.handled=none)(D:pB z TI bM bS cg)(Z:jm s.heap z TI bM bS cg t l k .none)
  (a1:∀h':Heap,(∀c o,c≠z->c≠bS->s.heap.get? c=some o->h'.get? c=some o)->h'.IsTuple t xs) (hx:xs[k]?=none)
  (a2:∀h':Heap,(∀c o,c≠z->c≠bS->s.heap.get? c=some o->h'.get? c=some o)->Q none { s with heap:=h' }):wpAny (model prog w) A (pyNext (.ref z)) Q E s:=by
 have dD:s.TypeIs (.ref z) "zip" := ⟨_,Z.z,rfl⟩;unfold pyNext
 refine aI (wpAny_attempt (wpAny_callSpecial?_slot (name:=Str.ofString "__next__") dD F.slot_zip_next
  (wpAny_call_entry F.slot_zip_next dD F.entry_zip_next (WY aO D Z a1 hx fun h' e hk he=>?_) (F.args_zip_next_1 _))))
 refine aw he fun o ho hc=>?_;refine aI (wpAny_isInstance (T := "StopIteration") (b:=true) ⟨o,ho,hc⟩ isSubtype_stop ?_);exact bx (a2 _ hk)
noncomputable abbrev wi(h:Heap)(t:Addr):Heap:=h.push { cls:=.type "tuple_iterator",data:=.fields #[.ref t,.int 0 0] }
noncomputable abbrev wj(h:Heap)(t l:Addr):Heap:=(wi h t).push { cls:=.type "list_iterator",data:=.fields #[.ref l,.int 0 0] }
noncomputable abbrev wk(h:Heap)(t l:Addr):Heap:=(wj h t l).push { cls:=.type "tuple",data:=.seq #[.ref h.objs.size,.ref (wi h t).objs.size] }
noncomputable abbrev wl(h:Heap)(t l:Addr):Heap:=(wk h t l).push { cls:=.type "tuple",data:=.seq #[.none,.none] }
noncomputable abbrev qP(h:Heap)(t l:Addr):Heap:=(wl h t l).push { cls:=.type "zip",data:=.fields #[.none,.bool false,.bool false,.ref (wj h t l).objs.size,.ref (wk h t l).objs.size] }
theorem R1(t l:Addr)(xs ys:Array Value) :
  Meets (Builtin.«zip.__new__» ⟨[.type "zip",.ref t,.ref l],[]⟩) (fun J ak s=>s.heap.IsTuple t xs/\s.heap.IsList l ys ∧
   ak (.ok (.ret (.ref (wl s.heap t l).objs.size))) { s with heap:=qP s.heap t l }):=
 .of_wp fun prog w A ak s h=>by
  obtain⟨hp,g,d,tk,os⟩:=s;refine dI h fun lr ls h=>?_;have u2:=sub_zip;have N6:Heap.IsTuple (Shared.heap ⟨hp,g,d,tk,os⟩) t xs:=lr;have N7:Heap.IsList (Shared.heap ⟨hp.push { cls:=.type "tuple_iterator",data:=.fields #[.ref t,.int 0 0] },g,d,tk,os⟩) l ys:=Heap.IsList.push ls _
  wp_walk using wpAny_pyIter_tuple N6,wpAny_pyIter_list N7
  exact⟨_,rfl,h⟩
theorem LI{t l:Addr}{xs ys:Array Value}{Q:Value->Shared->Prop}(lr:s.heap.IsTuple t xs)(ls:s.heap.IsList l ys)
  (h:∀h',jm h' (s.heap.objs.size+4) (s.heap.objs.size+2) (s.heap.objs.size+3) s.heap.objs.size (s.heap.objs.size+1) t l 0 .none->IsPair h' (s.heap.objs.size+3) .none .none ->
   (∀c o,s.heap.get? c=some o->h'.get? c=some o)->Q (.ref (s.heap.objs.size+4)) { s with heap:=h' }) :
  wpAny (model prog w) A (call (.type "zip") [.ref t,.ref l]) Q E s:=by
 refine callType_new F.called_zip (by decide) (F.typeCall_zip_2 _ _) (F.newCall_zip_2 _ _) (fun obj=>F.args_object_init_3 obj _ _) F.entry_zip_new
  (R1 t l xs ys) ⟨lr,ls,?_⟩
 have ei:(wi s.heap t).objs.size=s.heap.objs.size+1:=Heap.size_push ..
 have e3:(wj s.heap t l).objs.size=s.heap.objs.size+2:=by rw[Heap.size_push,ei]
 have po:(wk s.heap t l).objs.size=s.heap.objs.size+3:=by rw[Heap.size_push,e3]
 have qN:(wl s.heap t l).objs.size=s.heap.objs.size+4:=by rw[Heap.size_push,po]
 have yH:(qP s.heap t l).get? (wl s.heap t l).objs.size=some _:=ec _ rfl;have FZ:(qP s.heap t l).get? (wk s.heap t l).objs.size=some _:=cP _ (ec _ rfl);have g3:(qP s.heap t l).get? (wj s.heap t l).objs.size=some _:=cP _ (cP _ (ec _ rfl));have g2:(qP s.heap t l).get? (wi s.heap t).objs.size=some _:=cP _ (cP _ (cP _ (ec _ rfl)));have g1:(qP s.heap t l).get? s.heap.objs.size=some _:=cP _ (cP _ (cP _ (cP _ (ec _ rfl))));show _/\_;rw[e3,po,qN]at yH;rw[ei,e3]at g3;rw[po]at FZ;rw[ei]at g2;rw[qN]
 exact⟨⟨_,yH,rfl⟩,h _ ⟨yH,g3,⟨_,g1,rfl,rfl⟩,⟨_,g2,rfl,rfl⟩⟩ FZ fun c o x =>
  cP _ (cP _ (cP _ (cP _ (cP _ x))))⟩
end
theorem AQ{h:Heap}{a b:Addr}{o:Obj}{v xs:Array Value}{n:Nat}{c:Value}(V:h.get? a=some { cls:=c,data:=.seq xs n })(aj:h.get? b=some o)(hd:o.data=.fields v):a≠b:=fun q=>by
 rw[q,aj]at V;rw[oi V]at hd;contradiction
theorem ak.but2{hb:fY}{h h':Heap}{σ:ac}{α:au}{bV:List Addr}{bM:Addr}{j:Nat}{x y:Value}(r:ak hb h σ α)(a0:σ[j]?=some .tp)(eT:α.ix[j]?=some bM)(aA:IsPair h' bM x y)(a4:∀b∈bV,b∉α.all)(gj:∀b∈bV,hb.get? b=none)
  (k:∀b o,b∉bV->b≠bM->h.get? b=some o->h'.get? b=some o) (hs:∀b∈bV,∀o,h.get? b=some o->¬kj o/\¬gF o):ak hb h' σ α/\aW bV α h α h':=by
 have o1:bM∈α.ix:=eb eT
 have jn:∀b o,b∉bV->h.get? b=some o->∃aK,h'.get? b=some aK:=fun b o bN e=>by
  by_cases q:b=bM
  ·subst q;exact⟨_,aA⟩
  ·exact⟨o,k b o bN q e⟩
 have z:aW bV α h α h':=⟨rfl,⟨[],by simp,fun J hx=>(nomatch hx)⟩,fun b o hb e q=>k b o (fun z=>(hs b z o e).1 q) (fun z=>hb (z▸o1)) e,fun b o hb bN e=>.inl (k b o bN (fun z=>hb (z▸o1)) e),jn,rfl⟩;refine⟨⟨fun b o e=>k b o (fun q=>by rw[gj b q]at e;contradiction) (fun q=>by rw[q,r.fresh _ o1]at e;contradiction) (r.base b o e),r.fresh,r.nodup,r.len,fun b hb=>⟨(r.hidden b hb).1,?_⟩,fun i m a V aj=>?_,r.hfr,r.fe,fun b hb=>⟨(r.frs b hb).1,?_⟩,r.frNot⟩,z⟩
 ·refine aJ ((r.hidden b hb).2) fun o e=>?_;exact jn b o (fun q=>a4 b q (fk _ hb)) e
 ·by_cases q:a=bM
  ·subst q;obtain rfl:=(List.getElem?_inj (dU aj).1 r.nodup).mp (aj.trans eT.symm);obtain rfl:=oi (a0.symm.trans V);exact⟨x,y,aA⟩
  ·refine aJ (r.live (eb aj)) fun aK nv=>?_;exact(r.obj i m a V aj).ext z (by rw[nv,k a aK (fun q=>au.not_ix (a4 a q) (eb aj)) q nv])
 ·obtain⟨_,o,e,d⟩:=r.frs b hb;exact⟨o,k b o (fun q=>(hs b q o e).2 d) (fun q=>r.frNot b hb (q▸o1)) e,d⟩
theorem WV:∀{xs ys:List H} {i:Nat} {p:H},(mB xs ys)[i]?=some p->∃a b,xs[i]?=some a/\ys[i]?=some b/\p=.tup [a,b]:=by
 intro xs
 induction xs with
 | nil=>intro ys i p h;cases ys <;> contradiction
 | cons x xs ag =>
  intro ys i p h
  cases ys with
  | nil=>contradiction
  | cons y ys =>
   cases i with
   | zero=>obtain rfl:=oi h;exact⟨x,y,rfl,rfl,rfl⟩
   | succ i=>exact ag (i:=i) h
theorem WW:∀{xs ys:List H},xs.length=ys.length->(mB xs ys).length=xs.length:=by
 intro xs
 induction xs with
 | nil=>intro ys h;cases ys <;> rfl
 | cons x xs ag =>
  intro ys h
  cases ys with
  | nil=>contradiction
  | cons y ys=>exact congrArg Nat.succ (ag (Nat.succ.inj h))
section
variable {K:aQ}{A:Around}{s:Shared}{α:au}{σ:ac}
structure Kr(z TI bM bS cg t l:Addr)(j:Nat)(xs ys:List H)(i:Nat)(h:Heap)(α:au):Prop where
 Z:jm h z TI bM bS cg t l i .none
 eT:α.ix[j]?=some bM
 nT:TI∉α.all
 nz:z∉α.all
 n1:bS∉α.all
 n2:cg∉α.all
 vt:af h α (.tup xs) (.ref t)
 vl:af h α (.fl ys) (.ref l)
theorem hz.zip(aO:A.handled=none){z TI bM bS cg t l:Addr}{j:Nat}{xs ys:List H}(D:pB z TI bM bS cg)(hl:xs.length=ys.length)(hb:∀b∈[z,bS,cg],K.hb.get? b=none) :
  hz K A true [z,bS,cg] (.ref z) (mB xs ys) (some (j,.tp)) (Kr z TI bM bS cg t l j xs ys):=by
 have pf:∀{P:Addr->Prop},P z->P bS->P cg->∀b∈[z,bS,cg],P b:=fun{P} L O ar b hb=>by
  rcases bE.mp hb with rfl | hb
  ·exact L
  ·rcases bE.mp hb with rfl | hb
   ·exact O
   ·exact(dt.mp hb).symm▸ar
 have pd:∀{h:Heap} {n:Nat} {lh:Value},jm h z TI bM bS cg t l n lh->∀b∈[z,bS,cg],∀o,h.get? b=some o->¬kj o/\¬gF o:=fun{h n lh} Z=>pf
  (fun o q=>by rw[Z.z]at q;obtain rfl:=oi q;exact⟨iu rfl rfl,ir rfl⟩)
  (fun o q=>by refine bC Z.it fun aK aA cb eo=>?_;rw[aA]at q;obtain rfl:=oi q;exact⟨iu eo cb,ir eo⟩)
  (fun o q=>by refine bC Z.il fun aK aA cb eo=>?_;rw[aA]at q;obtain rfl:=oi q;exact⟨iu eo cb,ir eo⟩)
 have apart:∀{h:Heap} {n:Nat} {lh:Value} {a:Addr} {c:Value} {us:Array Value} {m:Nat},jm h z TI bM bS cg t l n lh->h.get? a=some { cls:=c,data:=.seq us m }->∀b∈[z,bS,cg],a≠b:=fun{h n lh a c us m} Z e=>pf (AQ e Z.z rfl)
  (by refine bC Z.it fun aK aA cb eo=>?_;exact AQ e aA eo) (by refine bC Z.il fun aK aA cb eo=>?_;exact AQ e aA eo)
 refine⟨fun i h α st=>?_,fun i h α st=>pf st.nz st.n1 st.n2,fun i F α h α' h' st x bN=>?_,fun i D α h h' st hD k=>?_,fun i D α h st hD=>?_,fun i s σ α p hp st r hw Q E a2=>?_,fun s σ α st r hw Q E a2=>?_,fun i s α st Q E a2=>?_⟩
 ·refine aw st.Z.it fun jw V J=>?_;refine aw st.Z.il fun bL aj J=>?_;exact pf ⟨_,st.Z.z⟩ ⟨jw,V⟩ ⟨bL,aj⟩
 ·obtain⟨Z,eT,nT,nz,n1,n2,vt,vl⟩:=st;obtain⟨wK,BR,⟨jw,V,cr,iT⟩,⟨bL,aj,ft,mR⟩⟩:=Z
  exact⟨⟨li wK rfl (x.rest z _ (au.not_ix nz) (bN z ((bi))) wK),x.seqs TI _ (au.not_ix nT) BR (.inl ⟨_,_,rfl⟩),⟨jw,li V iT (x.rest bS jw (au.not_ix n1) (bN bS ((bI _ bi))) V),cr,iT⟩,⟨bL,li aj mR (x.rest cg bL (au.not_ix n2) (bN cg (by simp)) aj),ft,mR⟩⟩,
   x.get eT,x.notAll nT BR,x.notAll nz wK,x.notAll n1 V,x.notAll n2 aj,vt.ext x,vl.ext x⟩
 ·obtain⟨Z,eT,nT,nz,n1,n2,vt,vl⟩:=st;refine⟨Z.keep fun b hb o e=>(k b fun q=>?_).trans e,eT,nT,nz,n1,n2,vt.sameBut hD k,vl.sameBut hD k⟩;subst q
  rcases hb with rfl | rfl | rfl | rfl
  ·exact nz hD
  ·exact nT hD
  ·exact n1 hD
  ·exact n2 hD
 ·obtain⟨Z,eT,nT,nz,n1,n2,vt,vl⟩:=st;refine aw Z.it fun jw V J=>?_;refine aw Z.il fun bL aj J=>?_;exact⟨Z,eT,au.not_hide hD Z.ti nT,au.not_hide hD Z.z nz,au.not_hide hD V n1,au.not_hide hD aj n2,vt.hide hD,vl.hide hD⟩
 ·obtain⟨Z,eT,nT,nz,n1,n2,vt,vl⟩:=st;have hw:σ[j]?=some .tp:=hw;refine mT (WV hp) fun q1 q2 L O ae=>?_;obtain rfl:=ae;obtain⟨bX,us,n,a1,V,hn,w⟩:=vt.tupE;cases a1;obtain⟨nf,ws,m,l3,aj,hm,J3⟩:=vl.flE;cases l3;refine aw (w.get L) fun u hu hv=>?_;refine aw (J3.get O) fun jd PT l9=>?_;refine hL (r.obj j _ bM hw eT) fun e2 hT xd=>?_;have o1:bM∈α.all:=gO _ (eb eT);have ay:=apart Z V;have aL:=apart Z aj;refine W1 D Z xd (xs:=us.toArray) (ys:=ws.toArray) (fun h' k=>⟨p6 (s:={ s with heap:=h' }) (k t _ (ay z ((bi))) (fun q=>hn (q▸o1)) (ay bS ((bI _ bi))) (ay cg (by simp)) V),gG (s:={ s with heap:=h' }) (k l _ (aL z ((bi))) (fun q=>hm (q▸o1)) (aL bS ((bI _ bi))) (aL cg (by simp)) aj)⟩) (by simpa using hu) (by simpa using PT) fun h' q0 JH dD k=>?_;obtain⟨aC,x⟩:=r.but2 (h':=h') hw eT JH (pf nz n1 n2) hb (fun b o hb Oc=>k b o (fun z=>hb (by simp[z])) Oc (fun z=>hb (by simp[z])) (fun z=>hb (by simp[z]))) (pd Z)
  have fresh:s.heap.objs.size∉α.all:=fun z=>by
   refine aJ (r.liveAll z) fun o e=>?_;exact absurd (eQ e) (Nat.lt_irrefl _)
  have lN:af h' α (.tup [q1,q2]) (.ref s.heap.objs.size):=af.tupI (items:=[u,jd]) dD fresh #v[(hv.ext x),(l9.ext x)];refine a2 _ _ lN (fun z=>by contradiction) ?_ x aC ⟨rfl,rfl⟩;intro mV kk pos nW dF yV;refine wpAny_letOwnedTupleGo_zip (s:={ s with heap:=h' }) q0.z fun fb aj fI=>?_;obtain⟨r2,bg⟩:=aC.but2 (h':=fb) hw eT ((fI.2 bM D.b).trans JH) (pf nz n1 n2) hb (fun b o hb J q=>(fI.2 b (fun z=>hb (by simp[z]))).trans q) (pd q0);exact yV _ ⟨lN.ext bg,⟨⟨aj,(fI.2 TI D.a).trans q0.ti,Bl q0.it fun o e=>(fI.2 bS D.c).trans e,zV q0.il fun o e=>(fI.2 cg D.d).trans e⟩,eT,nT,nz,n1,n2,(vt.ext x).ext bg,(vl.ext x).ext bg⟩,bg,r2,⟨rfl,rfl⟩⟩
 ·obtain⟨Z,eT,nT,nz,n1,n2,vt,vl⟩:=st;have hw:σ[j]?=some .tp:=hw;obtain⟨bX,us,n,a1,V,hn,w⟩:=vt.tupE;cases a1;refine hL (r.obj j _ bM hw eT) fun e2 hT xd=>?_;have ay:=apart Z V;refine W0 (xs:=us.toArray) aO D Z (fun h' k=>p6 (s:={ s with heap:=h' }) (k t _ (ay z ((bi))) (ay bS ((bI _ bi))) V)) (by simp[WW hl,w.1]) fun h' k=>?_;obtain⟨aC,x⟩:=r.but2 (h':=h') hw eT (k bM _ D.b D.h xd) (pf nz n1 n2) hb (fun b o hb J=>k b o (fun z=>hb (by simp[z])) (fun z=>hb (by simp[z]))) (pd Z);exact a2 _ x aC ⟨rfl,rfl⟩
 ·exact wpAny_pyIter_zip st.Z.z a2
theorem au.not_add{b D:Addr}(h:b∉α.all)(hD:b≠D):b∉(α.add D).all:=fun q=>by
 rcases c2.mp q with q | q
 ·rcases c2.mp q with q | q
  ·exact h (gO _ q)
  ·exact hD (dt.mp q)
 ·exact h (fk _ q)
theorem WU(n:Nat):pB (n+4) (n+2) (n+3) n (n+1):=
 have h:∀a b:Nat,a≠b->(n+a:Nat)≠n+b:=fun a b h q=>h (Nat.add_left_cancel q)
 ⟨h 2 4 (by decide),h 3 4 (by decide),h 0 4 (by decide),h 1 4 (by decide),h 2 3 (by decide),h 2 0 (by decide),h 2 1 (by decide),h 3 0 (by decide),h 3 1 (by decide),h 0 1 (by decide)⟩
theorem WS{a b:H}{P:Prop}(h:qO a b σ≠.stuck)(k:∀xs ys,a=.tup xs->b=.fl ys->xs.length=ys.length->qO a b σ=.ok (mB xs ys,some (σ.length,.tp)) (σ++[.tp])->P):P:=by
 cases a with
 | tup xs =>
  cases b with
  | fl ys =>
   have bt:qO (.tup xs) (.fl ys) σ=if xs.length=ys.length/\ys.length<=aB then .ok (mB xs ys,some (σ.length,.tp)) (σ++[.tp])else .stuck:=rfl
   by_cases hl:xs.length=ys.length/\ys.length<=aB
   ·exact k xs ys rfl rfl hl.1 (bt.trans (az hl))
   ·exact absurd (bt.trans (aY hl)) h
  | _=>exact absurd rfl h
 | _=>exact absurd rfl h
theorem QT{a b:H}{x y:Value}{E:Value->Shared->Prop}(aO:A.handled=none)(r:ak K.hb s.heap σ α)(av:af s.heap α a x)(bb:af s.heap α b y)(hc:qO a b σ≠.stuck) :
  wpAny (model K.prog K.w) A (call (.type "zip") [x,y]) (fun y s₁=>wpAny (model K.prog K.w) A (pyIter y) (f3 K A true (qO a b σ) s α) E s₁) E s:=by
 refine WS hc fun xs ys ha hb hl e=>?_;subst ha hb;rw[e];obtain⟨t,us,n,rfl,V,hn,w⟩:=av.tupE;obtain⟨l,ws,m,rfl,aj,hm,J3⟩:=bb.flE;refine LI (p6 V) (gG aj) fun h' Z tp k=>wpAny_pyIter_zip (s:={ s with heap:=h' }) Z.z ?_
 have eg:∀i,s.heap.get? (s.heap.objs.size+i)=none/\s.heap.objs.size+i∉α.all/\K.hb.get? (s.heap.objs.size+i)=none:=fun i=>by
  have g9:s.heap.get? (s.heap.objs.size+i)=none:=by
   cases q:s.heap.get? (s.heap.objs.size+i)with
   | none=>rfl
   | some o=>exact absurd (eQ q) (Nat.not_lt.mpr (e6 _ _))
  refine⟨g9,fun z=>?_,?_⟩
  ·refine aJ (r.liveAll z) fun o e=>?_;rw[g9]at e;contradiction
  ·cases q:K.hb.get? (s.heap.objs.size+i)with
   | none=>rfl
   | some o=>rw[r.base _ _ q]at g9;contradiction
 have D:=WU s.heap.objs.size;refine aP (r.add (D:=s.heap.objs.size+3) (m:=.tp) k (eg 3).1 ⟨_,_,tp⟩) fun aC x=>?_
 have bV:∀b∈[s.heap.objs.size+4,s.heap.objs.size,s.heap.objs.size+1],s.heap.get? b=none/\K.hb.get? b=none:=fun b hb=>by
  rcases bE.mp hb with rfl | hb
  ·exact⟨(eg 4).1,(eg 4).2.2⟩
  ·rcases bE.mp hb with rfl | hb
   ·exact⟨(eg 0).1,(eg 0).2.2⟩
   ·exact(dt.mp hb).symm▸(⟨(eg 1).1,(eg 1).2.2⟩)
 refine⟨_,_,_,_,_,_,rfl,x,aC,⟨rfl,rfl⟩,.zip (t:=t) (l:=l) aO D hl fun b hb=>(bV b hb).2,⟨Z,?_,au.not_add (eg 2).2.1 D.e,au.not_add (eg 4).2.1 D.b.symm,au.not_add (eg 0).2.1 D.h.symm,au.not_add (eg 1).2.1 D.i.symm,av.ext x,bb.ext x⟩,bV⟩;show(α.ix++[s.heap.objs.size+3])[σ.length]?=_;rw[r.len,iM (c9 _),Nat.sub_self];rfl
end
end Mine
namespace Mine
open PySem PyProof.Rows
theorem ak.buts{hb:fY}{h h':Heap}{σ:ac}{α:au}{bV:List Addr}(r:ak hb h σ α)(a4:∀b∈bV,b∉α.all)(gj:∀b∈bV,hb.get? b=none)(k:∀b o,b∉bV->h.get? b=some o->h'.get? b=some o)
  (hs:∀b∈bV,∀o,h.get? b=some o->¬kj o/\¬gF o):ak hb h' σ α/\aW bV α h α h':=by
 have x:aW bV α h α h':=⟨rfl,⟨[],by simp,fun J hx=>(nomatch hx)⟩,fun b o hb e q=>k b o (fun z=>(hs b z o e).1 q) e,fun b o hb bN e=>.inl (k b o bN e),fun b o bN e=>⟨o,k b o bN e⟩,rfl⟩;refine⟨⟨fun b o e=>k b o (fun q=>by rw[gj b q]at e;contradiction) (r.base b o e),r.fresh,r.nodup,r.len,fun b hb=>⟨(r.hidden b hb).1,?_⟩,fun j m a V aj=>?_,r.hfr,r.fe,fun b hb=>⟨(r.frs b hb).1,?_⟩,r.frNot⟩,x⟩
 ·refine aJ ((r.hidden b hb).2) fun o e=>?_;exact⟨o,k b o (fun q=>a4 b q (fk _ hb)) e⟩
 ·refine aJ (r.live (eb aj)) fun aK aA=>?_;exact(r.obj j m a V aj).ext x (by rw[aA,k a aK (fun q=>au.not_ix (a4 a q) (eb aj)) aA])
 ·obtain⟨_,o,e,d⟩:=r.frs b hb;exact⟨o,k b o (fun q=>(hs b q o e).2 d) e,d⟩
structure mG(K:aQ)(l:Addr)(xs:List H)(wt:Option (Nat×aS))(bK:Heap->au->Prop):Prop where
 frame:∀{F:List Addr} {α α':au} {h h':Heap},bK h α->aW F α h α' h'->bK h' α'
 but:∀{D:Addr} {α:au} {h h':Heap},bK h α->D∈α.all->(∀b,b≠D->h'.get? b=h.get? b)->bK h' α
 hide:∀{D:Addr} {α:au} {h:Heap},bK h α->h.get? D=none->bK h ⟨α.ix,D::α.hid,α.fr⟩
 has:∀{s:Shared} {σ:ac} {α:au},bK s.heap α->ak K.hb s.heap σ α->fK wt σ->∃(vs:List Value) (n:Nat),s.heap.get? l=some { cls:=.type "list",data:=.seq vs.toArray n }/\a7 s.heap α xs vs
section
variable {K:aQ}{A:Around}{s:Shared}{α:au}{σ:ac}
theorem mG.fl{l:Addr}{xs:List H}:mG K l xs none (fun h α=>af h α (.fl xs) (.ref l)) where
 frame v x:=v.ext x
 but v hD k:=v.sameBut hD k
 hide v hD:=v.hide hD
 has v r _:=by obtain⟨nf,vs,n,hl,V,hn,w⟩:=v.flE;cases hl;exact⟨vs,n,V,w⟩
theorem mG.ref{l:Addr}{xs:List H}{j:Nat}:mG K l xs (some (j,.lst xs)) (fun h α=>α.ix[j]?=some l) where
 frame v x:=x.get v
 but v _ _:=v
 hide v _:=v
 has v r wt:=by refine cD (r.obj j _ l wt v) fun vs n V w=>?_;exact⟨vs,n,V,w⟩
theorem S1:∀{xs:List H} {k i:Nat} {p:H},(jv k xs)[i]?=some p->∃q,xs[i]?=some q/\p=.tup [.int ((k+i:Nat):Int),q]:=by
 intro xs
 induction xs with
 | nil=>intro k i p h;contradiction
 | cons x xs ag =>
  intro k i p h
  cases i with
  | zero=>obtain rfl:=oi h;exact⟨x,rfl,rfl⟩
  | succ i =>
   refine aw (ag (k:=k+1) (i:=i) h) fun q L O=>?_;exact⟨q,L,by rw[O,show k+1+i=k+(i+1) by grind]⟩
theorem S2:∀{xs:List H} {k:Nat},(jv k xs).length=xs.length:=by
 intro xs
 induction xs with
 | nil=>intro k;rfl
 | cons x xs ag=>intro k;exact congrArg Nat.succ ag
theorem hz.enum(aO:A.handled=none){e it l:Addr}{xs:List H}{wt:Option (Nat×aS)}{bK:Heap->au->Prop}(kY:mG K l xs wt bK)(dc:e≠it)(y3:K.hb.get? e=none)(m3:K.hb.get? it=none) :
  hz K A true [e,it] (.ref e) (jv 0 xs) wt (fun i h α=>(∃g7,IsEnum h e it ((i:Nat):Int) g7)/\h.IsListIter it l i/\e∉α.all/\it∉α.all/\bK h α):=by
 have two:∀{P:Addr->Prop},P e->P it->∀b∈[e,it],P b:=fun{P} L O b hb=>by
  rcases bE.mp hb with rfl | hb
  ·exact L
  ·exact(dt.mp hb).symm▸O
 have pd:∀{h:Heap} {i:Int} {n:Nat} {g7 fg:Value},h.get? e=some { cls:=.type "enumerate",dict:=none,data:=.fields #[fg,.bool false,.ref it,rawInt i,.none,g7],slots:=#[] }->h.IsListIter it l n->∀b∈[e,it],∀o,h.get? b=some o->¬kj o/\¬gF o:=fun{h i n g7 fg} he hi=>two
  (fun o q=>by rw[he]at q;obtain rfl:=oi q;exact⟨iu rfl rfl,ir rfl⟩)
  (fun o q=>by refine bC hi fun aK aA cb eo=>?_;rw[aA]at q;obtain rfl:=oi q;exact⟨iu eo cb,ir eo⟩)
 refine⟨fun i h α st=>?_,fun i h α st=>two st.2.2.1 st.2.2.2.1,fun i F α h α' h' st x bN=>?_,fun i D α h h' st hD k=>?_,fun i D α h st hD=>?_,fun i s σ α p hp st r hw Q E a2=>?_,fun s σ α st r hw Q E a2=>?_,fun i s α st Q E a2=>?_⟩
 ·obtain⟨⟨g7,en⟩,⟨o,f9,_⟩,_⟩:=st;exact two ⟨_,en⟩ ⟨o,f9⟩
 ·obtain⟨⟨g7,en⟩,⟨o,f9,hc,hd⟩,he,hi,jW⟩:=st;exact⟨⟨g7,li en rfl (x.rest e _ (au.not_ix he) (bN e ((bi))) en)⟩,⟨o,li f9 hd (x.rest it o (au.not_ix hi) (bN it ((bI _ bi))) f9),hc,hd⟩,x.notAll he en,x.notAll hi f9,kY.frame jW x⟩
 ·obtain⟨⟨g7,en⟩,⟨o,f9,hc,hd⟩,he,hi,jW⟩:=st;exact⟨⟨g7,(k e (fun q=>he (q▸hD))).trans en⟩,⟨o,(k it (fun q=>hi (q▸hD))).trans f9,hc,hd⟩,he,hi,kY.but jW hD k⟩
 ·obtain⟨⟨g7,en⟩,⟨o,f9,hc,hd⟩,he,hi,jW⟩:=st;exact⟨⟨g7,en⟩,⟨o,f9,hc,hd⟩,au.not_hide hD en he,au.not_hide hD f9 hi,kY.hide jW hD⟩
 ·obtain⟨⟨g7,en⟩,bO,he,hi,jW⟩:=st;refine aw (S1 hp) fun q hq ae=>?_;obtain rfl:=ae;refine cD (kY.has jW r hw) fun vs n V w=>?_;refine aw (w.get hq) fun u hu hv=>?_;refine wpAny_pyNext_enum_item en bO (gG V) (by simpa using hu) dc fun h' f9 eY a1 bA hk=>?_;obtain⟨aC,x⟩:=r.buts (h':=h') (two he hi) (two y3 m3) (fun b o hb=>hk b o (fun z=>hb (by simp[z])) (fun z=>hb (by simp[z]))) (pd en bO)
  have fresh:s.heap.objs.size∉α.all:=fun z=>by
   refine aJ (r.liveAll z) fun o e=>?_;exact absurd (eQ e) (Nat.lt_irrefl _)
  have vt:af h' α (.tup [.int ((0+i:Nat):Int),q]) (.ref s.heap.objs.size):=by
   rw[Nat.zero_add];exact af.tupI (items:=[.int i s.toks,u]) a1 fresh #v[(.int _ _),(hv.ext x)]
  refine a2 _ _ vt (fun z=>by contradiction) ?_ x aC ⟨rfl,rfl⟩;intro mV k pos nW dF yV;refine wpAny_letOwnedTupleGo_enum (s:={ s with heap:=h',toks:=s.toks+1 }) f9 fun fb aj fI=>?_;obtain⟨r2,bg⟩:=aC.buts (h':=fb) (two he hi) (two y3 m3) (fun b o hb q=>(fI.2 b (fun z=>hb (by simp[z]))).trans q) (pd f9 eY);refine yV _ ⟨vt.ext bg,⟨⟨u,?_⟩,eY.extBut fI.extBut (Ne.symm dc),he,hi,kY.frame (kY.frame jW x) bg⟩,bg,r2,⟨rfl,rfl⟩⟩;rw[show((i+1:Nat):Int)=(i:Int)+1 by grind];exact aj
 ·obtain⟨⟨g7,en⟩,bO,he,hi,jW⟩:=st;refine cD (kY.has jW r hw) fun vs n V w=>?_;refine wpAny_pyNext_enum_end aO en bO (gG V) (by simp[S2,w.1]) fun h' jt=>?_;obtain⟨aC,x⟩:=r.buts (h':=h') (two he hi) (two y3 m3) (fun b o hb q=>jt b o (fun z=>hb (by simp[z])) q) (pd en bO);exact a2 _ x aC ⟨rfl,rfl⟩
 ·exact wpAny_pyIter_enum st.1.choose_spec a2
theorem HB{l:Addr}{xs:List H}{vs:List Value}{n:Nat}{wt:Option (Nat×aS)}{bK:Heap->au->Prop}{E:Value->Shared->Prop}(aO:A.handled=none)(kY:mG K l xs wt bK)(jW:bK s.heap α)(r:ak K.hb s.heap σ α)
  (V:s.heap.get? l=some { cls:=.type "list",data:=.seq vs.toArray n }) :
  wpAny (model K.prog K.w) A (call (.type "enumerate") [.ref l]) (fun y s₁=>wpAny (model K.prog K.w) A (pyIter y) (f3 K A true (.ok (jv 0 xs,wt) σ) s α) E s₁) E s:=by
 refine call_enumerate_list (gG V) fun h' en bO bA k=>wpAny_pyIter_enum (s:={ s with heap:=h' }) en ?_
 have IA:s.heap.get? (s.heap.objs.size+1)=none:=by
  cases q:s.heap.get? (s.heap.objs.size+1)with
  | none=>rfl
  | some o=>exact absurd (eQ q) (Nat.not_lt.mpr (Nat.le_succ _))
 have eg:∀b,s.heap.get? b=none->b∉α.all/\K.hb.get? b=none:=fun b hb=>⟨fun z=>by
  refine aJ (r.liveAll z) fun o e=>?_
  rw[hb]at e;contradiction,by
  cases q:K.hb.get? b with
  | none=>rfl
  | some o=>rw[r.base _ _ q]at hb;contradiction⟩
 have g9:=eg _ (kJ s);have q1:=eg _ IA;refine⟨jv 0 xs,wt,σ,α,[s.heap.objs.size+1,s.heap.objs.size],_,rfl,.keeps k,r.keeps k,⟨rfl,rfl⟩,.enum aO kY (Nat.succ_ne_self _) q1.2 g9.2,⟨⟨_,en⟩,bO,q1.1,g9.1,kY.frame jW (.keeps (F:=[]) k)⟩,fun b hb=>?_⟩
 rcases bE.mp hb with rfl | hb
 ·exact⟨IA,q1.2⟩
 ·exact(dt.mp hb).symm▸(⟨kJ s,g9.2⟩)
theorem QQ{a:H}{x:Value}{E:Value->Shared->Prop}(aO:A.handled=none)(r:ak K.hb s.heap σ α)(av:af s.heap α a x)(hc:lX a σ≠.stuck) :
  wpAny (model K.prog K.w) A (call (.type "enumerate") [x]) (fun y s₁=>wpAny (model K.prog K.w) A (pyIter y) (f3 K A true (lX a σ) s α) E s₁) E s:=by
 unfold lX at hc ⊢
 cases a with
 | fl xs =>
  dsimp only[cO,nI]at hc ⊢;by_cases hl:xs.length<=aB
  ·rw[az hl];obtain⟨l,vs,n,rfl,V,hn,v⟩:=av.flE;exact HB aO mG.fl av r V
  ·rw[aY hl]at hc;exact absurd rfl hc
 | ref i =>
  refine aw av.refE fun l ae dr=>?_;obtain rfl:=ae
  cases hs:σ[i]? with
  | none=>simp only[cO,hs]at hc;exact absurd rfl hc
  | some m =>
   cases m with
   | lst xs =>
    simp only[cO,nI,hs]at hc ⊢;by_cases hl:xs.length<=aB
    ·rw[az hl];refine cD (r.obj i _ l hs dr) fun vs n V v=>?_;exact HB aO (mG.ref (j:=i)) dr r V
    ·rw[aY hl]at hc;exact absurd rfl hc
   | _=>simp only[cO,hs]at hc;exact absurd rfl hc
 | _=>exact absurd rfl hc
end
end Mine
namespace Mine
open PySem PyProof.Rows
structure cp(hb:fY)(env:Env):Prop where
 l:hb.get? env.locals=none
 c:∀x c,env.cells.lookup x=some c->hb.get? c=none
 f:∃bK r,env.frame=some bK/\hb.fr=bK::r
theorem d1.sameBut{B:fY}{h h':Heap}{α:au}{D:Addr}{m:aS}{a:Addr}(hD:D∈α.all)(dc:a≠D)(k:∀b,b≠D->h'.get? b=h.get? b)(r:d1 B h α m a):d1 B h' α m a:=
 r.map (fun J J v=>v.sameBut hD k) (k a dc) fun b o hb e J=>⟨(k b (by rintro rfl;exact hb hD)).trans e,hb⟩
theorem aZ.sameBut{h h':Heap}{α:au}{D:Addr}{env:Env}{ρ:aE}(hD:D∈α.all)(k:∀b,b≠D->h'.get? b=h.get? b)(E:aZ env ρ h α):aZ env ρ h' α:=by
 refine aw E.ns fun m n hm=>?_
 have eK:env.locals≠D:=by intro q;exact E.la (q▸hD)
 refine⟨E.ok,E.la,⟨m,?_,fun i x v V aj=>let⟨u,a,b⟩:=hm i x v V aj;⟨u,a,b.sameBut hD k⟩⟩,fun x c hc=>?_,E.cd,fun i x V=>?_,E.inb⟩
 ·refine jQ n fun o es d5 e r=>?_;exact⟨o,es,d5,(k _ eK).trans e,r⟩
 ·refine dI (E.ca x c hc) fun L O bd=>?_;refine cD bd fun v o e d=>?_;exact⟨L,O,v,o,(k _ (by intro q;exact L (q▸hD))).trans e,d⟩
 ·refine aw (E.cv i x V) fun c hc hv=>?_;refine⟨c,hc,fun v aj=>?_⟩;obtain⟨u,⟨o,e,d⟩,b⟩:=hv v aj;exact⟨u,⟨o,(k _ (by intro q;exact(E.ca x c hc).1 (q▸hD))).trans e,d⟩,b.sameBut hD k⟩
theorem ak.sameHid{hb h h' σ α}{D:Addr}(r:ak hb h σ α)(hD:D∈α.hid)(uQ:hb.get? D=none)(k:∀b,b≠D->h'.get? b=h.get? b)(jn:∃o,h'.get? D=some o)(nd:∀o,h.get? D=some o->¬gF o):ak hb h' σ α:=by
 have pX:=(r.hidden D hD).1;have ln:D∈α.all:=fk _ hD;refine⟨fun b o e=>(k b (by rintro rfl;rw[uQ]at e;contradiction)).trans (r.base b o e),r.fresh,r.nodup,r.len,fun b gf=>⟨(r.hidden b gf).1,?_⟩,fun j m a V aj=>?_,r.hfr,r.fe,fun b gf=>⟨(r.frs b gf).1,?_⟩,r.frNot⟩
 ·by_cases q:b=D
  ·subst q;exact jn
  ·exact(k b q).symm▸((r.hidden b gf).2)
 ·exact(r.obj j m a V aj).sameBut ln (by rintro rfl;exact pX (eb aj)) k
 ·obtain⟨_,o,e,d⟩:=r.frs b gf;exact⟨o,(k b (by rintro rfl;exact nd o e d)).trans e,d⟩
theorem aW.sameBut{F α h α' h' hM}{D:Addr}(x:aW F α h α' h')(hD:h.get? D=none)(k:∀b,b≠D->hM.get? b=h'.get? b):aW F α h α' hM:=by
 have ne:∀b o,h.get? b=some o->b≠D:=fun b o e q=>by rw[q,hD]at e;contradiction
 refine⟨x.hid,x.pre,fun b o hb e hs=>(k b (ne b o e)).trans (x.seqs b o hb e hs),fun b o hb bN e=>?_,fun b o bN e=>?_,x.fre⟩
 ·rcases x.rest b o hb bN e with q | ⟨f,d,cq,q⟩
  ·exact .inl ((k b (ne b o e)).trans q)
  ·exact .inr ⟨f,d,cq,(k b (ne b o e)).trans q⟩
 ·refine aJ (x.alive b o bN e) fun aK aA=>?_;exact⟨aK,(k b (ne b o e)).trans aA⟩
theorem aW.rehid{F α h α' h'}(x:aW F α h α' h')(hid:List Addr):aW F ⟨α.ix,hid,α.fr⟩ h ⟨α'.ix,hid,α'.fr⟩ h':=
 ⟨rfl,x.pre,x.seqs,x.rest,x.alive,x.fre⟩
section
variable {K:aQ}{A:Around}{s:Shared}{α:au}{σ:ac}{env:Env}{ρ:aE}
noncomputable def n5(names:List (Str×NameKind)):Prop:=∀(i j:Nat) (x:Str) (k b8:NameKind),names[i]?=some (x,k)->names[j]?=some (x,b8)->i=j
theorem pS{ρ:aE}{i j:Nat}{v w:H}(e:(ρ.set i (some v))[j]?=some (some w)):(j=i/\w=v)\/(j≠i/\ρ[j]?=some (some w)):=by
 by_cases q:j=i
 ·subst q;rw[List.getElem?_set_self']at e
  cases hq:ρ[j]? with
  | none=>rw[hq]at e;contradiction
  | some o=>rw[hq]at e;simp at e;exact .inl ⟨rfl,e.symm⟩
 ·rw[List.getElem?_set_ne (Ne.symm q)]at e;exact .inr ⟨q,e⟩
theorem Jn{i:Nat}{x:Str}{v:H}{u:Value}{Q:Unit->Shared->Prop}{X:Value->Shared->Prop}(kC:n5 env.scope.names)(r:ak K.hb s.heap σ α)(E:aZ env ρ s.heap α)(eK:K.hb.get? env.locals=none)
  (hn:env.scope.names[i]?=some (x,.local)) (dg:af s.heap α v u)
  (a2:∀s',ak K.hb s'.heap σ α->aZ env (ρ.set i (some v)) s'.heap α->aW [env.locals] α s.heap α s'.heap->(∀b,b≠env.locals->s'.heap.get? b=s.heap.get? b)->cJ s s'->Q () s') :
  wpAny (model K.prog K.w) A (storeName env x u) Q X s:=by
 refine aw E.ns fun m n hm=>?_;refine wpAny_storeName_local (E.ok.ws i x _ hn) n (fun h' oQ d6=>?_) (by rw[E.ok.kind];rfl)
 obtain⟨aC,aH⟩:=r.but E.la eK (fun b o hb e=>(d6.2 b hb).trans e) (fun o e=>by
  refine lW (id n) fun aK es d5 aA d J=>?_;rw[e]at aA;obtain rfl:=oi aA
  exact gF.notSolid ⟨_,_,d⟩) fun J o e J=>by
  refine lW (id oQ) fun aK es d5 aA d J=>?_;exact⟨aK,aA,es,d5,d⟩
 refine a2 _ aC ⟨E.ok,E.la,⟨_,oQ,fun j y w V aj=>?_⟩,fun y c hc=>?_,E.cd,fun j y V=>?_,fun j w e=>?_⟩ aH (fun b hb=>d6.2 b hb) ⟨rfl,rfl⟩
 ·rcases pS aj with⟨rfl,rfl⟩ | ⟨dc,aj⟩
  ·rw[hn]at V;cases V;exact⟨u,by simp,dg.ext aH⟩
  ·refine aw (hm j y w V aj) fun jd L O=>?_
   have:y≠x:=by rintro rfl;exact dc (kC j i _ _ _ V hn)
   exact⟨jd,by simp[this,L],O.ext aH⟩
 ·refine dI (E.ca y c hc) fun L O bd=>?_;refine aJ bd fun w ar=>?_;exact⟨L,O,w,p4 aH (au.not_ix L) (by simpa using O) ar⟩
 ·refine aw (E.cv j y V) fun c hc hv=>?_;refine⟨c,hc,fun w aj=>?_⟩
  rcases pS aj with⟨rfl,rfl⟩ | ⟨dc,aj⟩
  ·rw[hn]at V;cases V
  ·refine aw (hv w aj) fun jd L O=>?_;refine dI (E.ca y c hc) fun q1 q2 J=>?_;exact⟨jd,p4 aH (au.not_ix q1) (by simpa using q2) L,O.ext aH⟩
 ·rcases pS e with⟨rfl,rfl⟩ | ⟨dc,aj⟩
  ·exact⟨x,_,hn,.inl rfl⟩
  ·exact E.inb j w aj
theorem U0{i:Nat}{x:Str}{v:H}{u:Value}{Q:Unit->Shared->Prop}{X:Value->Shared->Prop}(kC:n5 env.scope.names)(r:ak K.hb s.heap σ α)(E:aZ env ρ s.heap α)(am:cp K.hb env)
  (hn:env.scope.names[i]?=some (x,.cell)) (dg:af s.heap α v u)
  (a2:∀c s',env.cells.lookup x=some c->ak K.hb s'.heap σ α->aZ env (ρ.set i (some v)) s'.heap α->aW [c] α s.heap α s'.heap->cJ s s'->Q () s') :
  wpAny (model K.prog K.w) A (storeName env x u) Q X s:=by
 refine aw E.ns fun m n hm=>?_;refine aw (E.cv i x hn) fun c hc hv=>?_;refine dI (E.ca x c hc) fun q1 q2 bd=>?_;refine aJ bd fun fg q3=>?_;refine wpAny_storeName_cell E.ok.kind (E.ok.ws i x _ hn) hc q3 fun h' cb d6=>?_
 obtain⟨aC,aH⟩:=r.but q1 (am.c x c hc) (fun b o hb e=>(d6.2 b hb).trans e) (fun o e=>by
  refine aw q3 fun aK aA d=>?_;rw[e]at aA;obtain rfl:=oi aA
  rintro(⟨xs,n,q⟩ | ⟨C,vs,_,q⟩ | ⟨C,_,q⟩) <;> rw[d]at q <;> contradiction) fun J o e dd=>by
  refine aw q3 fun aK aA d=>?_;rw[e]at aA;obtain rfl:=oi aA;refine hL dd fun xs n q=>?_;rw[d]at q;contradiction
 have rX:h'.Ns env.locals m:=Ae aH (au.not_ix E.la) (by simpa using(Ne.symm q2)) n;refine a2 c _ hc aC ⟨E.ok,E.la,⟨m,rX,fun j y w V aj=>?_⟩,fun y c3 hy=>?_,E.cd,fun j y V=>?_,fun j w e=>?_⟩ aH ⟨rfl,rfl⟩
 ·rcases pS aj with⟨rfl,rfl⟩ | ⟨dc,aj⟩
  ·rw[hn]at V;cases V
  ·refine aw (hm j y w V aj) fun jd L O=>?_;exact⟨jd,L,O.ext aH⟩
 ·refine dI (E.ca y c3 hy) fun L O bd=>?_;refine aJ bd fun w ar=>?_;by_cases q:c3=c
  ·subst q;exact⟨L,O,_,cb⟩
  ·exact⟨L,O,w,p4 aH (au.not_ix L) (by simpa using q) ar⟩
 ·refine aw (E.cv j y V) fun c3 hy l9=>?_;refine⟨c3,hy,fun w aj=>?_⟩
  rcases pS aj with⟨rfl,rfl⟩ | ⟨dc,aj⟩
  ·rw[hn]at V;cases V;rw[hc]at hy;obtain rfl:=oi hy;exact⟨u,cb,dg.ext aH⟩
  ·refine aw (l9 w aj) fun jd L O=>?_
   have:c3≠c:=by
    rintro rfl
    have:=E.cd _ _ _ hy hc;subst this;exact dc (kC j i _ _ _ V hn)
   exact⟨jd,p4 aH (au.not_ix (E.ca y c3 hy).1) (by simpa using this) L,O.ext aH⟩
 ·rcases pS e with⟨rfl,rfl⟩ | ⟨dc,aj⟩
  ·exact⟨x,_,hn,.inr rfl⟩
  ·exact E.inb j w aj
end
noncomputable def gB(cells:List (Str×Addr)):List (Str×NameKind)->List (Str×Addr)->List (Str×Addr)
 | [],acc=>acc
 | (n,k)::r,acc=>if k == .free then gB cells r ((n,(cells.lookup n).getD 0)::acc)else gB cells r acc
theorem w6{env:Env}(f:Str×NameKind->List (Str×Addr)->Sem (ForInStep (List (Str×Addr))))
  (bw:∀n k eU,f (n,k) eU=if k == .free then(do let c <- cellOf env n;pure (.yield ((n,c)::eU)))else pure (.yield eU)) :
  ∀(names:List (Str×NameKind)) (acc:List (Str×Addr)),(∀n,(n,NameKind.free)∈names->(env.cells.lookup n).isSome)->(forIn names acc f)=pure (gB env.cells names acc)
 | [],acc,_=>by rw[List.forIn_nil];rfl
 | (n,k)::r,acc,h=>by
  rw[List.forIn_cons,bw];unfold gB
  cases hk:k == .free with
  | true =>
   have rR:k=.free:=by simpa using hk
   subst rR;refine aJ (Option.isSome_iff_exists.mp (h n bi)) fun c hc=>?_;simp only[if_true];unfold cellOf;rw[hc];simp only[Option.getD_some,pure_bind];exact w6 f bw r _ fun n hn=>h n (bI _ hn)
  | false =>
   simp only[Bool.false_eq_true,if_false,pure_bind];exact w6 f bw r _ fun n hn=>h n (bI _ hn)
theorem Cq{scope:Scope}{env:Env}(h:∀n,(n,NameKind.free)∈scope.names->(env.cells.lookup n).isSome):closureFor scope env=pure (gB env.cells scope.names []):=by
 unfold closureFor;refine(congrArg (· >>= fun eU=>pure eU) (w6 (env:=env) _ (fun n k eU=>?_) scope.names [] h)).trans (pure_bind _ _);cases hk:k == NameKind.free <;> simp[hk]
set_option tactic.hygienic true in
theorem LS{cells:List (Str×Addr)}:∀(names:List (Str×NameKind)) (acc:List (Str×Addr)),(∀n,(n,NameKind.free)∈names->(cells.lookup n).isSome)->(∀n c,(n,c)∈acc->cells.lookup n=some c) ->
  ∀n c,(n,c)∈gB cells names acc->cells.lookup n=some c:=by
 intro r
 induction r with
 | nil =>
  intro _ _ O n c h;exact O n c h
 | cons bt r ag =>
  obtain⟨ef,k⟩:=bt;intro acc L O n c h;unfold gB at h
  split at h
  ·rename_i hk
   have rR:k=.free:=by simpa using hk
   subst rR;refine ag _ (fun n hn=>L n (bI _ hn)) (fun m d hm=>?_) n c h
   rcases bE.mp hm with e | hm
   ·cases e;refine aJ (Option.isSome_iff_exists.mp (L ef bi)) fun c3 cb=>?_;rw[cb];rfl
   ·exact O m d hm
  ·exact ag _ (fun n hn=>L n (bI _ hn)) O n c h
theorem LQ{cells:List (Str×Addr)}:∀(names:List (Str×NameKind)) (acc:List (Str×Addr)) (n:Str) (c:Addr),(n,c)∈acc->(n,c)∈gB cells names acc:=by
 intro r
 induction r with
 | nil =>
  intro _ _ _ h;exact h
 | cons bt r ag =>
  obtain⟨_,k⟩:=bt;intro acc n c h;unfold gB
  split
  ·exact ag _ n c (bI _ h)
  ·exact ag _ n c h
theorem w5{cells:List (Str×Addr)}:∀(names:List (Str×NameKind)) (acc:List (Str×Addr)) (n:Str),(n,NameKind.free)∈names->∃c,(n,c)∈gB cells names acc
 | (ef,k)::r,acc,n,h=>by
  unfold gB
  rcases bE.mp h with e | h
  ·cases e;exact⟨_,LQ r _ _ _ bi⟩
  ·split
   ·exact w5 r _ n h
   ·exact w5 r _ n h
theorem HU{l:List (Str×Addr)}{n:Str}{c:Addr}(h:(n,c)∈l):∃c3,l.lookup n=some c3:=by
 induction l with
 | nil=>(exact nomatch h)
 | cons p r ag =>
  obtain⟨k,v⟩:=p;rw[List.lookup_cons]
  cases hb:n == k with
  | true=>exact⟨v,rfl⟩
  | false =>
   rcases bE.mp h with e | h
   ·cases e;simp at hb
   ·exact ag h
theorem pF{cells:List (Str×Addr)}{names:List (Str×NameKind)}(h:∀n,(n,NameKind.free)∈names->(cells.lookup n).isSome){n:Str}{c:Addr}(e:(gB cells names []).lookup n=some c):cells.lookup n=some c:=
 LS names [] h (fun J J h=>(nomatch h)) n c (mem_of_lookup e)
theorem LR{cells:List (Str×Addr)}{names:List (Str×NameKind)}(h:∀n,(n,NameKind.free)∈names->(cells.lookup n).isSome){n:Str}(hn:(n,NameKind.free)∈names):(gB cells names []).lookup n=cells.lookup n:=by
 refine aJ (w5 (cells:=cells) names [] n hn) fun c hc=>?_;refine aJ (HU hc) fun c3 cb=>?_;rw[cb,pF h cb]
end Mine
namespace Mine
open PySem PyProof.Rows
structure wH(names:List (Str×NameKind)):Prop where
 uniq:n5 names
 nodbg:∀(i:Nat) (x:Str) (k:NameKind),names[i]?=some (x,k)->(x == ("__debug__" : Str))=false
 kinds:∀(i:Nat) (x:Str) (k:NameKind),names[i]?=some (x,k)->k=.local\/k=.cell\/k=.globalImplicit
theorem so:∀{names:List (Str×NameKind)},n5 names->∀{i:Nat} {x:Str} {k:NameKind},names[i]?=some (x,k)->names.lookup x=some k:=by
 intro r
 induction r with
 | nil =>
  intro _ i x k h
  (exact nomatch h)
 | cons bt r ag =>
  obtain⟨y,b8⟩:=bt;intro kC i x k h;rw[List.lookup_cons]
  cases i with
  | zero=>simp at h;obtain⟨rfl,rfl⟩:=h;simp
  | succ i =>
   have h':r[i]?=some (x,k):=by simpa using h
   have dc:(x == y)=false:=by
    cases hb:x == y with
    | false=>rfl
    | true =>
     have:x=y:=by simpa using hb
     subst this;exact absurd (kC 0 (i+1) x b8 k (by rfl) h) (by omega)
   rw[dc];exact ag (fun i j x k b8 L O=>by have:=kC (i+1) (j+1) x k b8 (by simpa using L) (by simpa using O);omega) h'
theorem zK:∀{names:List (Str×NameKind)} {x:Str} {k:NameKind},names.lookup x=some k->∃i,names.findIdx? (·.1 == x)=some i/\names[i]?=some (x,k):=by
 intro r
 induction r with
 | nil =>
  intro _ _ h
  (exact nomatch h)
 | cons bt r ag =>
  obtain⟨y,b8⟩:=bt;intro x k h;rw[List.lookup_cons]at h;rw[List.findIdx?_cons]
  cases hb:x == y with
  | true =>
   rw[hb]at h;obtain rfl:=oi h
   have:x=y:=by simpa using hb
   subst this;exact⟨0,by simp,by rfl⟩
  | false =>
   rw[hb]at h;refine aw (ag h) fun i L O=>?_
   have:(y == x)=false:=by
    cases hq:y == x with
    | false=>rfl
    | true =>
     have:y=x:=by simpa using hq
     subst this;simp at hb
   exact⟨i+1,by simp[this,L],by simpa using O⟩
theorem AG{scope:Scope}{env:Env}(hk:env.scope.kind=.function):(relabel scope env).names=dn env.scope.names scope.names:=by
 unfold relabel dn Env.kindOf;simp[hk]
structure ka(N:List (Str×NameKind))(scope:Scope)(t:Nat)(x:Str):Prop where
 kind:scope.kind=.function
 sc:wH (dn N scope.names)
 nocell:∀y∈scope.names,y.2≠.cell
 tgt:(dn N scope.names)[t]?=some (x,.local)
section
variable {N:List (Str×NameKind)}{scope:Scope}{t:Nat}{x:Str}
theorem ka.free(c:ka N scope t x){n:Str}(h:(n,NameKind.free)∈scope.names):N.lookup n=some .cell:=by
 refine aJ (List.mem_iff_getElem?.mp h) fun i hi=>?_;by_cases hq:N.lookup n=some .cell
 ·exact hq
 ·have:(dn N scope.names)[i]?=some (n,.free):=by simp[dn,hi,hq]
  rcases c.sc.kinds i n _ this with q | q | q <;> contradiction
set_option tactic.hygienic true in
theorem ka.cell_(c:ka N scope t x){i:Nat}{y:Str}(h:(dn N scope.names)[i]?=some (y,.cell)):(y,NameKind.free)∈scope.names/\N.lookup y=some .cell:=by
 simp only[dn,fB]at h
 cases hq:scope.names[i]? with
 | none=>rw[hq]at h;contradiction
 | some p =>
  obtain⟨n,k⟩:=p;rw[hq]at h;simp only[Option.map_some,Option.some.injEq]at h
  split at h
  ·rename_i hc
   (first | contradiction | (obtain rfl:=oi h) | cases h)
   simp at hc;exact⟨hc.1▸eb hq,hc.2⟩
  ·(first | contradiction | (obtain rfl:=oi h) | cases h)
   exact absurd rfl (c.nocell _ (eb hq))
theorem ka.names(c:ka N scope t x):∀y∈scope.names,y.2=.local->scope.names.lookup y.1=some .local:=by
 rintro⟨y,k⟩ hy rfl
 refine aJ (List.mem_iff_getElem?.mp hy) fun i hi=>?_;refine so (i:=i) (fun i j z k b8 L O=>?_) hi
 have V:∃q,(dn N scope.names)[i]?=some (z,q):=by
  simp only[dn,fB,L];simp only[Option.map_some,Option.some.injEq];split <;> exact⟨_,rfl⟩
 have aj:∃q,(dn N scope.names)[j]?=some (z,q):=by
  simp only[dn,fB,O];simp only[Option.map_some,Option.some.injEq];split <;> exact⟨_,rfl⟩
 refine aJ V fun J V=>?_;refine aJ aj fun J aj=>?_;exact c.sc.uniq i j z _ _ V aj
end
section
variable {K:aQ}{A:Around}{s:Shared}{α:au}{σ:ac}{env:Env}{ρ:aE}{scope:Scope}{t:Nat}{x:Str}
theorem tI{h:Heap}(c:ka env.scope.names scope t x)(E:aZ env ρ h α):∀n,(n,NameKind.free)∈scope.names->(env.cells.lookup n).isSome:=fun n hn=>by
 refine aw (zK (c.free hn)) fun i J hi=>?_;refine aw (E.cv i n hi) fun a ha J=>?_;rw[ha];rfl
theorem L4{h:Heap}{C:Addr}{m:Str->Option Value}(c:ka env.scope.names scope t x)(E:aZ env ρ h α)(eX:h.Ns C m)(pU:C∉α.all)(dc:∀y a,env.cells.lookup y=some a->a≠C) :
  aZ (compEnvC scope (gB env.cells scope.names []) C env) (cy (h2 env.scope.names (dn env.scope.names scope.names)) ρ) h α:=by
 have jr:=tI c E;have e9:(compEnvC scope (gB env.cells scope.names []) C env).scope.names=dn env.scope.names scope.names:=AG E.ok.kind;refine⟨⟨?_,E.ok.glob,E.ok.bins,?_,?_⟩,pU,⟨m,eX,fun i y v V aj=>?_⟩,fun y a ha=>?_,fun y z a L O=>?_,fun i y V=>?_,fun i v e=>?_⟩
 ·exact c.kind
 ·intro i y k hi;rw[e9]at hi;show(compEnvC scope (gB env.cells scope.names []) C env).scope.names.lookup y=some k;exact e9.symm▸(so c.sc.uniq hi)
 ·intro i y k hi;rw[e9]at hi;exact c.sc.nodbg i y k hi
 ·rw[e9]at V;exfalso;simp only[cy,h2,fB,V]at aj
  (exact nomatch aj)
 ·have jS:=pF jr ha;refine dI (E.ca y a jS) fun L O ar=>?_;exact⟨L,dc y a jS,ar⟩
 ·exact E.cd y z a (pF jr L) (pF jr O)
 ·rw[e9]at V;refine aP (c.cell_ V) fun L O=>?_;refine aw (zK O) fun j a0 rQ=>?_;refine aw (E.cv j y rQ) fun a ha hv=>?_;refine⟨a,(LR jr L).trans ha,fun v aj=>hv v ?_⟩;simp only[cy,h2,fB,V]at aj;simp[a0]at aj
  cases hq:ρ[j]? with
  | none=>rw[hq]at aj;contradiction
  | some o=>rw[hq]at aj;simp at aj;rw[aj]
 ·rw[e9];simp only[cy,h2,fB]at e
  cases hq:(dn env.scope.names scope.names)[i]? with
  | none=>rw[hq]at e;contradiction
  | some p =>
   obtain⟨y,k⟩:=p;rw[hq]at e;by_cases hk:k=.cell
   ·exact⟨y,k,rfl,.inr hk⟩
   ·simp[hk]at e
end
end Mine
namespace Mine
open PySem PyProof.Rows
structure e4(K:aQ)(A:Around):Prop where
 ex:∃l,A.frames=some l/\l.map (·.frame)=K.hb.fr.map some/\∀e∈l,e.scope.kind≠.module
theorem FV{h base:Heap}:∀{l:List Env} {fr:List Addr},l.map (·.frame)=fr.map some->(∀e∈l,e.scope.kind≠.module)->(∀a∈fr,base.get? a=none/\∃o,h.get? a=some o/\gF o)->h.FunFrames base l/\l.filterMap (·.frame)=fr
 | [],[],_,_,_=>⟨trivial,rfl⟩
 | [],_::_,h,_,_=>(nomatch h)
 | _::_,[],h,_,_=>(nomatch h)
 | e::l,a::fr,L,O,ar=>by
  simp only[dG,List.cons.injEq]at L;refine aP (FV L.2 (fun e he=>O e (bI _ he)) fun a ha=>ar a (bI _ ha)) fun p q=>?_;obtain⟨b1,o,d4,es,n,wZ⟩:=ar a bi;exact⟨⟨O e bi,⟨a,o,L.1,b1,d4,fun vs z=>by rw[wZ]at z;cases z⟩,p⟩,by rw[List.filterMap_cons,L.1,q]⟩
section
variable {K:aQ}{A:Around}{env:Env}{s:Shared}{h₀:Heap}{σ:ac}{α:au}
theorem Nt{mW:Env}{qn:List Env}{bK:Addr}{base:Heap}{Q:Value->Shared->Prop}{E:Value->Shared->Prop}(hfr:A.frames=some (mW::qn))(hl:s.heap.FunFrames base (mW::qn))(uW:mW.frame=some bK)(bw:env.frame=some bK)
  (h:∀h',Heap.SlotsOnly ((mW::qn).filterMap (·.frame)) s.heap h'->Q (.ref bK) { s with heap:=h' }):wpAny (model K.prog K.w) A (frameOf env) Q E s:=by
 unfold PySem.frameOf;refine aI (wpAny_frameEnvs hfr ?_)
 have OK:((mW::qn).dropWhile fun x=>x.frame != env.frame)=mW::qn:=by simp[List.dropWhile,uW,bw]
 rw[OK];unfold frameObject;refine aI (aI (wpAny_readyFrames_fun hl fun cE gZ=>bx ?_));exact uW.symm▸(bx (h cE gZ))
theorem CQ{i:Nat}{a bK:Addr}{gr:Obj}{vs:Array Value}{head:Value}{On:Bool}{Q:Unit->Shared->Prop}{E:Value->Shared->Prop}(hA:e4 K A)(am:cp K.hb env)(eK:env.frame=some bK)(r:ak K.hb h₀ σ α)(u:hC K.hb.fr h₀ s.heap)
  (new:h₀.get? a=none) (he:s.heap.get? a=some gr) (hc:gr.cls=.ref i) (hd:gr.data=.fields vs) (hsz:1<vs.size) (lf:∃y,vs[2]?=some y/\(K.ph=false->y=.none))
  (a2:∀h',hC K.hb.fr h₀ h'->kc K.ph h₀ h' i a true->Q () { s with heap:=h' }) :
  wpAny (model K.prog K.w) A (do let x <- frameOf env;let pl <- entryPlaceOf bK On;let b <- EntryCells.newEntry head x .none (rawInt bK) .none pl;setField (.ref a) 1 b) Q E s:=by
 refine bC hA.ex fun l lr ls zh=>?_;have aC:=r.up u;refine aP (FV ls zh aC.frs) fun hl OT=>?_;refine cD am.f fun W8 rest bw hfr=>?_;rw[eK]at bw;obtain rfl:=oi bw
 cases l with
 | nil=>rw[hfr]at ls;(exact nomatch ls)
 | cons mW qn =>
  have uW:mW.frame=some bK:=by rw[hfr]at ls;simp at ls;exact ls.1
  have Oo:a∉K.hb.fr:=fun q=>by
   obtain⟨_,o,e,es,n,d⟩:=aC.frs a q;rw[he]at e;obtain rfl:=oi e;rw[hd]at d;contradiction
  refine aI (Nt lr hl uW eK fun cE gZ=>?_);rw[OT]at gZ;refine aI (wpAny_entryPlaceOf fun pl hpl=>?_);unfold EntryCells.newEntry newFields;refine aI (wpAny_newObj_type ?_ (hpl.sizeOk5 _ _ _ _ _));have GB:cE.get? a=some gr:=(gZ.2.1 a Oo).trans he;have GC:=cP (h:=cE) { cls:=.type "traceback",dict:=none,data:=.fields ([head,.ref bK,.none,rawInt bK,.none]++(if pl.isEmpty then List.replicate 6 Value.none else pl)).toArray } GB;refine wpAny_setField GC hd hsz (a2 _ ?_ ?_)
  ·intro b o hb
   have pZ:a≠b:=fun q=>by rw[<- q,new]at hb;contradiction
   have keep:∀aK,cE.get? b=some aK->((cE.push { cls:=.type "traceback",dict:=none,data:=.fields ([head,.ref bK,.none,rawInt bK,.none]++(if pl.isEmpty then List.replicate 6 Value.none else pl)).toArray }).update a (Obj.mapFields (·.setIfInBounds 1 (Value.ref cE.objs.size)))).get? b=some aK:=fun aK q=>by
    rw[Heap.get?_update_other _ _ pZ];exact cP _ q
   rcases u b o hb with q | ⟨m,cq,q⟩
   ·by_cases hm:b∈K.hb.fr
    ·refine aJ (gZ.2.2 b o q) fun cq z=>?_;exact .inr ⟨hm,cq,keep _ z⟩
    ·exact .inl (keep _ ((gZ.2.1 b hm).trans q))
   ·refine aJ (gZ.2.2 b _ q) fun pc z=>?_;exact .inr ⟨m,pc,keep _ z⟩
  ·have Gp:cE.objs.size≠a:=cS (eQ GB);have Gy:=Obj.data_mapFields hd (·.setIfInBounds 1 (Value.ref cE.objs.size));have OR:=Heap.get?_update_self (Obj.mapFields (·.setIfInBounds 1 (Value.ref cE.objs.size))) GC (Obj.isFreed_of_fields Gy)
   have Oh:=(Heap.get?_update_other (cE.push { cls:=.type "traceback",dict:=none,data:=.fields ([head,.ref bK,.none,rawInt bK,.none]++(if pl.isEmpty then List.replicate 6 Value.none else pl)).toArray })
    (Obj.mapFields (·.setIfInBounds 1 (Value.ref cE.objs.size))) (Ne.symm Gp)).trans (ec cE rfl)
   refine⟨new,_,_,.ref cE.objs.size,OR,(Obj.cls_mapFields _ _).trans hc,Gy,by simp[hsz],.inr cE.objs.size _ _ rfl ?_ Gp Oh rfl rfl ?_,?_⟩
   ·cases q:h₀.get? cE.objs.size with
    | none=>rfl
    | some o =>
     have:∃aK,s.heap.get? cE.objs.size=some aK:=by
      rcases u _ _ q with q | ⟨_,_,q⟩
      ·exact⟨_,q⟩
      ·exact⟨_,q⟩
     refine aJ this fun aK z=>?_;refine aJ (gZ.2.2 _ _ z) fun cq bY=>?_;exact absurd (eQ bY) (Nat.lt_irrefl _)
   ·simp
   ·refine aw lf fun y e2 hT=>?_;exact⟨y,by rw[Array.getElem?_setIfInBounds_ne (by decide)];exact e2,hT⟩
theorem IC{i:Nat}{a:Addr}{dP:Bool}{Q:Unit->Shared->Prop}{E:Value->Shared->Prop}(hA:e4 K A)(am:cp K.hb env)(r:ak K.hb h₀ σ α)(u:hC K.hb.fr h₀ s.heap)(x:kc K.ph h₀ s.heap i a dP)
  (a2:∀h',hC K.hb.fr h₀ h'->kc K.ph h₀ h' i a true->Q () { s with heap:=h' }):wpAny (model K.prog K.w) A (noteFrame (.ref a) env) Q E s:=by
 obtain⟨new,gr,vs,nM,he,hc,hd,L,a1,lf⟩:=x;refine cD (id am.f) fun bK rest bw hfr=>?_;have hsz:=(Array.getElem?_eq_some_iff.mp L).1;unfold noteFrame;simp only[bw];refine aI (gA he hd L ?_)
 rcases a1 with⟨_,rfl⟩ | ⟨T,nr,ci,rfl,oL,rJ,dD,yY,oM,pY⟩
 ·rw[aY (by decide)];exact CQ hA am bw r u new he hc hd hsz lf a2
 ·rw[az (show(Value.ref T != Value.none)=true from by rfl)];refine aI (gA dD oM (x:=ci[3]) (by simp[pY]) ?_);by_cases hq:(ci[3] == rawInt bK)=true
  ·rw[az hq];exact bx (a2 _ u ⟨new,gr,vs,_,he,hc,hd,L,.inr T nr ci rfl oL rJ dD yY oM pY,lf⟩)
  ·rw[aY hq];refine aI (wpAny_setField dD oM pY ?_);have other:∀b,b≠T->(s.heap.update T (Obj.mapFields (·.setIfInBounds 3 Value.none))).get? b=s.heap.get? b:=fun b hb=>Heap.get?_update_other _ _ (Ne.symm hb);refine CQ (s:={ s with heap:=s.heap.update T (Obj.mapFields (·.setIfInBounds 3 Value.none)) }) hA am bw r (fun b o hb=>?_) new ((other a (Ne.symm rJ)).trans he) hc hd hsz lf a2
   have rL:b≠T:=fun q=>by rw[q,oL]at hb;contradiction
   show(s.heap.update T _).get? b=_\/_
   rcases u b o hb with q | ⟨m,cq,q⟩
   ·exact .inl ((other b rL).trans q)
   ·exact .inr ⟨m,cq,(other b rL).trans q⟩
theorem yE{i:Nat}{a:Addr}{f:Option Addr}{Q:Unit->Shared->Prop}{E:Value->Shared->Prop}(r:ak K.hb h₀ σ α)(u:hC K.hb.fr h₀ s.heap)(x:kc K.ph h₀ s.heap i a true)
  (a2:∀h',hC K.hb.fr h₀ h'->kc K.ph h₀ h' i a true->Q () { s with heap:=h' }):wpAny (model K.prog K.w) A (setFlight (.ref a) f) Q E s:=by
 obtain⟨new,gr,vs,nM,he,hc,hd,L,a1,lf⟩:=x
 rcases a1 with⟨z,_⟩ | ⟨T,nr,ci,rfl,oL,rJ,dD,yY,oM,pY⟩
 ·contradiction
 unfold setFlight;refine aI (gA he hd L ?_);rw[az (show(Value.ref T != Value.none)=true from by rfl)];have other:∀(g:Obj->Obj) b,b≠T->(s.heap.update T g).get? b=s.heap.get? b:=fun g b hb=>Heap.get?_update_other _ _ (Ne.symm hb);refine wpAny_setField dD oM pY (a2 _ (fun b o hb=>?_) ⟨new,gr,vs,_,(other _ a (Ne.symm rJ)).trans he,hc,hd,L,.inr T _ _ rfl oL rJ (Heap.get?_update_self _ dD (Obj.isFreed_of_fields (Obj.data_mapFields oM _))) ((Obj.cls_mapFields _ _).trans yY) (Obj.data_mapFields oM _) (by simpa using pY),lf⟩)
 have rL:b≠T:=fun q=>by rw[q,oL]at hb;contradiction
 rcases u b o hb with q | ⟨m,cq,q⟩
 ·exact .inl ((other _ b rL).trans q)
 ·exact .inr ⟨m,cq,(other _ b rL).trans q⟩
theorem Rf{i:Nat}{a:Addr}{dP:Bool}{Q:Unit->Shared->Prop}{E:Value->Shared->Prop}(hA:e4 K A)(am:cp K.hb env)(r:ak K.hb h₀ σ α)(u:hC K.hb.fr h₀ s.heap)(x:kc K.ph h₀ s.heap i a dP)
  (a2:∀h',hC K.hb.fr h₀ h'->kc K.ph h₀ h' i a true->Q () { s with heap:=h' }):wpAny (model K.prog K.w) A (leaving env (.ref a)) Q E s:=by
 unfold leaving;refine aI (IC hA am r u x fun h' jd aH=>?_);exact yE (s:={ s with heap:=h' }) r jd aH fun hM Bo ta=>a2 hM Bo ta
end
end Mine
namespace Mine
open PySem PyProof.Rows
noncomputable def iR(cu:H->ac->ai Bool)(eC:H->ac->ai H)(x:H)(σ:ac):ai (Option H):=
 (cu x σ).bind fun b σ=>if b then(eC x σ).bind fun v σ=>.ok (some v) σ else .ok none σ
theorem a7.snoc{h:Heap}{α:au}{xs:List H}{vs:List Value}{p:H}{v:Value}(a:a7 h α xs vs)(b:af h α p v):a7 h α (xs++[p]) (vs++[v]):=
 a.append #v[b]
section
variable {K:aQ}{A:Around}{s:Shared}{α:au}{env:Env}{ρ:aE}{scope:Scope}{t:Nat}{x:Str}
inductive wy(K:aQ)(s:Shared)(α:au)(c:ai H)(acc:Value)(C:Addr)(r:Result)(s':Shared):Prop
 | inl (e:r=.ok .next) (v:H) (σ':ac) (α':au) (m:Str->Option Value) (hc:c=.ok v σ') (x:aW [] α s.heap α' s'.heap) (bd:ak K.hb s'.heap σ' α') (vr:af s'.heap α' v acc) (j5:cJ s s') (ns:s'.heap.Ns C m) (L:C∉α'.all) (O:s.heap.get? C=none) (ar:K.hb.get? C=none) (aU:C∉K.hb.fr):wy K s α c acc C r s'
inductive BL(K:aQ)(s:Shared)(α:au)(xs:List H)(St:Nat->Heap->au->Prop)(D:Addr)(cenv:Env)(t:Nat)(nP:aE)(go:List H->List H->ac->ai H)(c:ai H)(n:Nat)(s₁:Shared):Prop
 | mk (i:Nat) (aa:ac) (α₁:au) (ys:List H) (us:List Value) (bQ:aE) (o4:Nat) (hn:n=xs.length-i) (hi:i<=xs.length) (hid:α₁.hid=D::α.hid) (x:aW [] α s.heap ⟨α₁.ix,α.hid,α₁.fr⟩ s₁.heap) (r:ak K.hb s₁.heap aa α₁) (st:St i s₁.heap α₁) (E:aZ cenv bQ s₁.heap α₁)
   (lu:∀v,bQ.set t (some v)=nP.set t (some v)) (hl:s₁.heap.get? D=some { cls:=.type "list",data:=.seq (List.toArray us) o4 }) (vs:a7 s₁.heap α₁ ys us) (m:cJ s s₁) (gY:go ys (xs.drop i) aa=c) (u5:ys.length<=i) (tk:K.Tk s₁):BL K s α xs St D cenv t nP go c n s₁
theorem O0{h:Heap}{C b:Addr}(hb:b≠C):(PySem.W.hideAll h [C]).get? b=h.get? b:=by
 cases e:h.get? b with
 | some o=>exact PySem.W.hideAll_get _ e (by simpa using hb)
 | none =>
  cases aA:(PySem.W.hideAll h [C]).get? b with
  | none=>rfl
  | some o=>rw[PySem.W.of_hideAll _ aA]at e;contradiction
theorem ak.unhide{hb h σ α}{hid:List Addr}(r:ak hb h σ α)(hs:∀a∈hid,a∈α.hid):ak hb h σ ⟨α.ix,hid,α.fr⟩:=
 ⟨r.base,r.fresh,r.nodup,r.len,fun a ha=>r.hidden a (hs a ha),fun j m a V aj=>(r.obj j m a V aj).re (α:=α) (α':=⟨α.ix,hid,α.fr⟩) (fun J J e=>e) (fun a ha=>by
  rcases c2.mp ha with q | q
  ·exact gO _ q
  ·exact fk _ (hs a q)),fun a ha=>r.hfr a (hs a ha),r.fe,r.frs,r.frNot⟩
noncomputable def gX(n:Nat)(a6:Bool)(w:Option (Nat×aS))(cu:H->ac->ai Bool)(eC:H->ac->ai H)(ys xs:List H)(σ:ac):ai H:=
 iS n (dM w (iR cu eC) xs σ) fun kT σ=>er a6 (ys++kT) σ
theorem F8{n a6 w cu eC ys xs σ}(h:gX n a6 w cu eC ys xs σ≠.stuck):fK w σ:=by
 by_cases hw:fK w σ
 ·exact hw
 ·refine absurd ?_ h;unfold gX
  cases xs with
  | nil=>rw[show dM w (iR cu eC) [] σ=.stuck from aY hw];rfl
  | cons x xs=>rw[show dM w (iR cu eC) (x::xs) σ=.stuck from aY hw];rfl
theorem NN{n a6 w cu eC ys p xs σ}(hw:fK w σ):gX n a6 w cu eC ys (p::xs) σ=iS n ((iR cu eC p σ).bind fun y σ=>(dM w (iR cu eC) xs σ).bind fun kT σ=>.ok (w7 y kT) σ) fun kT σ=>er a6 (ys++kT) σ:=by
 unfold gX;rw[show dM w (iR cu eC) (p::xs) σ=_ from az hw]
theorem NM{n a6 w cu eC ys p xs σ}(h:gX n a6 w cu eC ys (p::xs) σ≠.stuck):fK w σ/\cu p σ≠.stuck/\(∀i σ',cu p σ≠.exc i σ') ∧
  (∀σ',cu p σ=.ok false σ'->gX n a6 w cu eC ys (p::xs) σ=gX n a6 w cu eC ys xs σ') ∧
  (∀σ',cu p σ=.ok true σ'->eC p σ'≠.stuck/\(∀i ht,eC p σ'≠.exc i ht)/\∀v ht,eC p σ'=.ok v ht->gX n a6 w cu eC ys (p::xs) σ=gX n a6 w cu eC (ys++[v]) xs ht):=by
 have hw:=F8 h;rw[NN hw]at h ⊢;have tF:∀{c},(cu p σ).bind (fun b σ=>if b then(eC p σ).bind fun v σ=>.ok (some v) σ else .ok none σ)=c->iR cu eC p σ=c:=fun q=>q;have f8:∀{σ'},cu p σ=.ok true σ'->iR cu eC p σ=(eC p σ').bind fun v σ=>.ok (some v) σ:=fun q=>tF (by rw[q];rfl);refine⟨hw,fun e=>?_,fun i σ' e=>?_,fun σ' e=>?_,fun σ' e=>⟨fun aA=>?_,fun i ht aA=>?_,fun v ht aA=>?_⟩⟩
 ·rw[tF (c:=.stuck) (by rw[e];rfl)]at h;exact h rfl
 ·rw[tF (c:=.exc i σ') (by rw[e];rfl)]at h;exact h rfl
 ·rw[tF (c:=.ok none σ') (by rw[e];rfl)];unfold gX;show iS n ((dM w (iR cu eC) xs σ').bind fun kT σ=>.ok kT σ) _=_;cases dM w (iR cu eC) xs σ' <;> rfl
 ·rw[f8 e,aA]at h;exact h rfl
 ·rw[f8 e,aA]at h;exact h rfl
 ·rw[f8 e,aA];unfold gX;show iS n ((dM w (iR cu eC) xs ht).bind fun kT σ=>.ok (v::kT) σ) _=_
  cases dM w (iR cu eC) xs ht with
  | ok kT σ=>show er _ _ _=er _ _ _;rw[ey];rfl
  | exc i σ=>rfl
  | stuck=>rfl
set_option tactic.hygienic true in
theorem F7{n a6 w cu eC ys xs σ}(hn:ys.length<=n)(h:gX n a6 w cu eC ys xs σ≠.stuck):ys.length<=aB:=by
 unfold gX at h
 cases hq:dM w (iR cu eC) xs σ with
 | ok kT σ' =>
  rw[hq]at h;simp only[iS,er]at h
  split at h
  ·rename_i hl;simp at hl;(grind)
  ·exact absurd rfl h
 | exc i σ'=>rw[hq]at h;exact absurd rfl h
 | stuck=>rw[hq]at h;exact absurd rfl h
theorem L6{elt iter:Expr}{iF:Pos}{ifs:List Expr}{pos:Pos}{it:Value}{bV:List Addr}{xs:List H}{w:Option (Nat×aS)}{St:Nat->Heap->au->Prop}{D C:Addr}
  {cu:H->ac->ai Bool} {eC:H->ac->ai H} {a6:Bool} {c:ai H} {cenv:Env} {nP:aE}
  (I:hz K A false bV it xs w St) (hx:cenv.scope.names[t]?=some (x,.local)) (kC:n5 cenv.scope.names) (pV:cenv.locals=C)
  (l6:∀b∈bV,s.heap.get? b=none) (hD:s.heap.get? D=none) (eX:s.heap.get? C=none) (uQ:K.hb.get? D=none) (oN:K.hb.get? C=none)
  (Gj:D∉α.hid) (apart:nQ cenv bV) (hc:c≠.stuck) (bN:e4 K A) (Xu:cp K.hb cenv) (lm:C∉K.hb.fr)
  (r6:∀v s σ α,aZ cenv (nP.set t (some v)) s.heap α->ak K.hb s.heap σ α ->
   Runs K hX A (forIn ifs true fun c r=>if r=true then do let ok <- isTrue c cenv (eval c cenv);pure (ForInStep.yield ok)else pure (ForInStep.yield r)) (cu v σ) s α)
  (rP:∀v s σ α,aZ cenv (nP.set t (some v)) s.heap α->ak K.hb s.heap σ α->Runs K af A (eval elt cenv) (eC v σ) s α)
  {i:Nat} {aa:ac} {α₁:au} {s₁:Shared} {ys:List H} {us:List Value} {bQ:aE} {n:Nat}
  (hi:i<=xs.length) (hid:α₁.hid=D::α.hid) (nN:aW [] α s.heap ⟨α₁.ix,α.hid,α₁.fr⟩ s₁.heap) (lG:ak K.hb s₁.heap aa α₁) (st:St i s₁.heap α₁) (kd:aZ cenv bQ s₁.heap α₁)
  (lu:∀v,bQ.set t (some v)=nP.set t (some v)) (hl:s₁.heap.get? D=some { cls:=.type "list",data:=.seq us.toArray n }) (vs:a7 s₁.heap α₁ ys us) (lD:cJ s s₁)
  (gY:gX xs.length a6 w cu eC ys (xs.drop i) aa=c) (u5:ys.length<=i) (nD:K.Tk s₁) :
  codeAny (model K.prog K.w) A (.compLoop (.ListComp elt [⟨.Name x iF,iter,ifs,0⟩] scope pos) 0 it (.ref D) cenv) (wy K s α c (.ref D) C) s₁:=by
 refine codeAny_compLoop_tests (BL K s α xs St D cenv t nP (gX xs.length a6 w cu eC) c)
  (fun n s₁ zM=>?_) _ ⟨i,aa,α₁,ys,us,bQ,n,rfl,hi,hid,nN,lG,st,kd,lu,hl,vs,lD,gY,u5,nD⟩
 clear nD u5 gY lD vs hl lu kd st lG nN hid hi;obtain⟨i,aa,α₁,ys,us,bQ,o4,rfl,hi,hid,nN,lG,st,kd,lu,hl,vs,lD,gY,u5,nD⟩:=zM
 have rG:D∈α₁.hid:=by rw[hid];exact bi
 have ln:D∈α₁.all:=fk _ rG;by_cases eZ:i<xs.length
 ·
  have za:xs.drop i=xs[i]::xs.drop (i+1):=List.drop_eq_getElem_cons eZ;rw[za]at gY;obtain⟨hw,PN,zv,PO,PQ⟩:=NM (by rw[gY];exact hc);refine nK nD (I.item i s₁ aa α₁ xs[i] (by simp[eZ]) st lG hw _ _ fun v aX vr AW J hj dX jZ sY=>?_);have AW:=AW rfl;have gw:aW [] α s.heap ⟨α₁.ix,α.hid,α₁.fr⟩ aX.heap:=aW.drop nN l6 (by(exact fun J q=>absurd q dT)) (by simpa using hj.rehid α.hid);have kX:=kd.ext hj apart;have rT:=hj.seqs D _ (lG.hidden D rG).1 hl .seq;have wa:=vs.ext hj;refine nK sY (wpAny_assign_Name (Jn kC dX kX (by rw[pV];exact oN) hx vr fun eD lH mE Bu fI mi pg=>?_));rw[lu]at mE;rw[pV]at Bu fI
  have N3:D≠C:=by rintro rfl;exact kd.la (by rw[pV];exact ln)
  have WN:aW [] α s.heap ⟨α₁.ix,α.hid,α₁.fr⟩ eD.heap:=gw.sameBut eX fI;have Pc:eD.heap.get? D=_:=(fI D N3).trans rT;have Wu:=wa.ext Bu;have mz:=I.frame _ _ _ _ _ _ AW Bu (fun b hb q=>by simp at q;subst q;exact apart.1 (pV▸hb));refine cm (jb (r6 xs[i] eD aa α₁ mE lH PN pg)) (fun ok lK hp=>?_) fun e lK hx=>?_
  ·obtain⟨⟨b,wn,pq,hb,ie,sO,kt,vz⟩,Vt⟩:=hp;have qE:=aQ.Tk.up pg Vt;have Mn:ok=b:=kt;subst Mn;have zf:pq.hid=D::α.hid:=ie.hid.trans hid;have wg:aW [] α s.heap ⟨pq.ix,α.hid,pq.fr⟩ lK.heap:=WN.trans (ie.rehid α.hid);have mF:=mE.ext ie .nil;have GP:=ie.seqs D _ (lH.hidden D rG).1 Pc .seq;have J2:=Wu.ext ie;have sV:=I.frame _ _ _ _ _ _ mz ie (by simp)
   cases ok with
   | false =>
    rw[aY (by(trivial))];refine⟨xs.length-(i+1),Nat.sub_succ_lt_self _ _ eZ,i+1,wn,pq,ys,us,_,o4,rfl,eZ,zf,wg,sO,sV,mF,fun v=>by rw[List.set_set],GP,J2,((lD.trans jZ).trans mi).trans vz,?_,by(exact aF (by assumption) (e6 _ _)),qE⟩;rw[<- PO _ hb];exact gY
   | true =>
    rw[az rfl];refine dI (PQ _ hb) fun OL OM ON=>?_;refine cm (jb (rP xs[i] lK wn pq mF sO OL qE)) (fun u nC hp=>?_) fun e nC hx=>?_
    ·obtain⟨⟨Wp,wo,nO,PV,j8,qt,Ws,z7⟩,A0⟩:=hp;have vZ:=aQ.Tk.up qE A0;have GH:nO.hid=D::α.hid:=j8.hid.trans zf
     have Gi:D∈nO.hid:=by rw[GH];exact bi
     have yQ:D∈nO.all:=fk _ Gi;have tc:aW [] α s.heap ⟨nO.ix,α.hid,nO.fr⟩ nC.heap:=wg.trans (j8.rehid α.hid);have pu:=mF.ext j8 .nil;have GQ:=j8.seqs D _ (sO.hidden D (by rw[zf];exact bi)).1 GP .seq;have Wv:=J2.ext j8;have vV:=I.frame _ _ _ _ _ _ sV j8 (by simp);refine wpAny_list_append_plain ⟨_,GQ⟩ (fun P7 uX Ui=>?_) ?_
     ·refine aJ uX fun Sk uX=>?_;have sk:∀b,b≠D->P7.get? b=nC.heap.get? b:=fun b hb=>Ui.2 b hb;refine⟨xs.length-(i+1),Nat.sub_succ_lt_self _ _ eZ,i+1,wo,nO,ys++[Wp],us++[u],_,Sk,rfl,eZ,GH,tc.sameBut hD sk,qt.sameHid Gi uQ sk ⟨_,uX⟩ (fun o e=>by rw[GQ]at e;obtain rfl:=oi e;rintro⟨_,_,q⟩;contradiction),I.but _ _ _ _ _ vV yQ sk,pu.sameBut yQ sk,fun v=>by rw[List.set_set],?_,(Wv.snoc Ws).sameBut yQ sk,(((lD.trans jZ).trans mi).trans vz).trans (z7.trans ⟨rfl,rfl⟩),?_,by simp;(assumption),vZ⟩
      ·rw[uX];simp
      ·rw[<- ON _ _ PV];exact gY
     ·have:=F7 (n:=xs.length) (ys:=ys) (by(exact aF (by assumption) (by assumption))) (by rw[gY];exact hc);have O:=vs.1;simp;rw[<- O];exact g6 this
    ·obtain⟨⟨j,wo,h4,_⟩,_⟩:=hx;exact absurd h4 (OM _ _)
  ·obtain⟨⟨j,wo,h4,_⟩,_⟩:=hx;exact absurd h4 (zv _ _)
 ·
  have zg:i=xs.length:=Nat.le_antisymm hi (Nat.not_lt.mp eZ);subst zg;rw[List.drop_length]at gY;have hw:=F8 (by rw[gY];exact hc);have fP:=F7 (n:=xs.length) (ys:=ys) (by(assumption)) (by rw[gY];exact hc)
  have p0:er a6 ys aa=c:=by
   rw[<- gY];unfold gX;rw[show dM w (iR cu eC) [] aa=.ok [] aa from az hw];show _=er a6 (ys++[]) aa;rw[List.append_nil]
  refine I.done s₁ aa α₁ st lG hw _ _ fun aX hj dX jZ=>?_;have gw:aW [] α s.heap ⟨α₁.ix,α.hid,α₁.fr⟩ aX.heap:=aW.drop nN l6 (by(exact fun J q=>absurd q dT)) (by simpa using hj.rehid α.hid);have kX:=kd.ext hj apart;have pX:=(dX.hidden D rG).1;have rT:=hj.seqs D _ (lG.hidden D rG).1 hl .seq;have wa:=vs.ext hj;refine aw kX.ns fun H1 z8 J=>?_;rw[pV]at z8
  have pU:C∉α₁.all:=by rw[<- pV];exact kd.la
  have Jr:∀a,a∈(⟨α₁.ix,α.hid,α₁.fr⟩:au).all->a∈α₁.all:=fun a ha=>by
   rcases c2.mp ha with q | q
   ·exact gO _ q
   ·exact fk _ (by rw[hid];exact bI _ q)
  unfold er at p0;rw[az fP]at p0
  cases a6 with
  | true =>
   refine .inl rfl _ _ ⟨α₁.ix,α.hid,α₁.fr⟩ H1 p0.symm gw (dX.unhide fun a ha=>by rw[hid];exact bI _ ha) ?_ (lD.trans jZ) z8 (fun q=>pU (Jr _ q)) eX oN lm;refine af.flI rT (fun q=>?_) (wa.re (α:=α₁) (α':=⟨α₁.ix,α.hid,α₁.fr⟩) (fun J J e=>e) Jr)
   rcases c2.mp q with q | q
   ·exact pX q
   ·exact Gj q
  | false =>
   have F0:∀(j:Nat) (a:Addr),α₁.ix[j]?=some a->(α₁.ix++[D])[j]?=some a:=fun j a e=>by
    rw[ik (dU e).1];exact e
   have AX:∀a,a∈(⟨α₁.ix++[D],α.hid,α₁.fr⟩:au).all->a∈α₁.all:=fun a ha=>by
    rcases c2.mp ha with q | q
    ·rcases c2.mp q with q | q
     ·exact gO _ q
     ·simp at q;subst q;exact ln
    ·exact fk _ (by rw[hid];exact bI _ q)
   refine .inl rfl _ _ ⟨α₁.ix++[D],α.hid,α₁.fr⟩ H1 p0.symm ?_ ⟨dX.base,?_,?_,?_,fun a ha=>⟨?_,(dX.hidden a (by rw[hid];exact bI _ ha)).2⟩,fun j m a V aj=>?_,fun a ha=>dX.hfr a (by rw[hid];exact bI _ ha),dX.fe,dX.frs,fun a ha q=>?_⟩ (.ref ?_) (lD.trans jZ) z8 (fun q=>pU (AX _ q)) eX oN lm
   ·refine aw gw.pre fun β q1 q2=>?_;refine⟨rfl,⟨β++[D],by show α₁.ix++[D]=_;rw[show α₁.ix=α.ix++β from q1,ey],fun a ha=>?_⟩,gw.seqs,gw.rest,gw.alive,gw.fre⟩
    rcases c2.mp ha with q | q
    ·exact q2 a q
    ·simp at q;subst q;exact⟨hD,by(exact dT)⟩
   ·intro a ha
    rcases c2.mp ha with q | q
    ·exact dX.fresh a q
    ·simp at q;subst q;exact uQ
   ·show(α₁.ix++[D]).Nodup;rw[jo];exact⟨dX.nodup,by simp,fun a ha b hb=>by simp at hb;subst hb;rintro rfl;exact pX ha⟩
   ·simp[dX.len]
   ·intro q
    rcases c2.mp q with q | q
    ·exact(dX.hidden a (by rw[hid];exact bI _ ha)).1 q
    ·simp at q;subst q;exact Gj ha
   ·by_cases a0:j<aa.length
    ·rw[ik a0]at V;have iq:(α₁.ix++[D])[j]?=some a:=aj;rw[ik (by rw[<- dX.len];exact a0)]at iq;exact(dX.obj j m a V iq).re F0 AX
    ·have bF:j=aa.length:=by
      have:=(dU V).1;simp at this;(grind)
     subst bF;have iq:(α₁.ix++[D])[aa.length]?=some a:=aj;rw[iM (c9 _)]at V;rw[iM (by rw[dX.len];exact c9 _)]at iq;simp[dX.len]at V iq;subst V iq;exact⟨us,o4,rT,wa.re F0 AX⟩
   ·rcases c2.mp q with q | q
    ·exact dX.frNot a ha q
    ·simp at q;subst q;obtain⟨_,o,e,es,ef,d⟩:=dX.frs a ha;rw[rT]at e;obtain rfl:=oi e;contradiction
   ·rw[dX.len];simp
end
end Mine
namespace Mine
open PySem PyProof.Rows
section
variable {K:aQ}{A:Around}{s:Shared}{α:au}{env:Env}{ρ:aE}{scope:Scope}{t:Nat}{x:Str}
noncomputable abbrev gC(scope:Scope)(C:Addr)(env:Env):Env:=compEnvC scope (gB env.cells scope.names []) C env
noncomputable abbrev n9(scope:Scope)(env:Env)(ρ:aE):aE:=cy (h2 env.scope.names (dn env.scope.names scope.names)) ρ
noncomputable def mP(a6:Bool)(cu:H->ac->ai Bool)(eC:H->ac->ai H)(kr:ai (List H×Option (Nat×aS))):ai H:=
 kr.bind fun p σ=>gX p.1.length a6 p.2 cu eC [] p.1 σ
theorem Cw{elt iter:Expr}{iF:Pos}{ifs:List Expr}{pos:Pos}{kr:ai (List H×Option (Nat×aS))}
  {cu:H->ac->ai Bool} {eC:H->ac->ai H} {a6:Bool} {RR:Value->Addr->Result->Shared->Prop} {E:Value->Shared->Prop}
  (c:ka env.scope.names scope t x) (nS:aZ env ρ s.heap α) (bO:jk K A false (eval iter env) kr s α) (hc:mP a6 cu eC kr≠.stuck) (tk:K.Tk s)
  (r6:∀C v s σ α,cp K.hb (gC scope C env)->aZ (gC scope C env) ((n9 scope env ρ).set t (some v)) s.heap α->ak K.hb s.heap σ α ->
   Runs K hX A (forIn ifs true fun c r=>if r=true then do let ok <- isTrue c (gC scope C env) (eval c (gC scope C env));pure (ForInStep.yield ok)else pure (ForInStep.yield r)) (cu v σ) s α)
  (rP:∀C v s σ α,cp K.hb (gC scope C env)->aZ (gC scope C env) ((n9 scope env ρ).set t (some v)) s.heap α->ak K.hb s.heap σ α->Runs K af A (eval elt (gC scope C env)) (eC v σ) s α)
  (bN:e4 K A) (am:cp K.hb env) (mv:∃σ,ak K.hb s.heap σ α)
  (lp:∀e s',cW K A kr s α e s'->E e s') (Od:∀acc C r s',wy K s α (mP a6 cu eC kr) acc C r s'->RR acc C r s') :
  wpAny (model K.prog K.w) A (eval iter env) (fun nM s₁=>wpAny (model K.prog K.w) A (pyIter nM) (fun it aX=>wpAny (model K.prog K.w) A (newList []) (fun acc eD =>
   wpAny (model K.prog K.w) A (newFunctionEnv scope env.globals (gB env.cells scope.names []) [] env.qual none .none (some env)) (fun cenv lK =>
    codeAny (model K.prog K.w) A (.compStart (.ListComp elt [⟨.Name x iF,iter,ifs,0⟩] scope pos) 0 it acc { cenv with scope:=relabel scope env }) (RR acc cenv.locals) lK) E eD) E aX) E s₁) E s:=by
 have y6:kr≠.stuck:=by rintro rfl;exact hc rfl
 refine cm (jb (bO y6 tk)) (fun nM s₁ cE=>cm (jb cE.1) (fun it aX fb=>?_) fun e s' h=>lp e s' h.1) fun e s' h=>lp e s' h.1;have sY:K.Tk aX:=aQ.Tk.up tk (aF cE.2 fb.2);obtain⟨xs,w,ao,cc,bV,St,y7,gw,dX,jZ,I,st,ho⟩:=fb.1;have cell:∀y∈scope.names,y.2≠.cell:=c.nocell;refine wpAny_newObj_type (wpAny_newFunctionEnv cell (by intro y hy;(exact nomatch hy)) (fun cE zk u1=>?_) c.kind);dsimp only at zk u1 ⊢;generalize yR:aX.heap.push { cls:=.type "list",dict:=none,data:=.seq ([]:List Value).toArray }=dS at zk u1 ⊢
 have yP:dS.objs.size=aX.heap.objs.size+1:=by rw[<- yR,Heap.size_push]
 have Gg:aX.heap.objs.size≠dS.objs.size:=by rw[yP];exact fE (Nat.lt_succ_self _)
 have g7:∀b o,aX.heap.get? b=some o->cE.get? b=some o:=fun b o e=>u1.extBut b o (yP.symm▸(fE (k7 (eQ e)))) (cP _ (yR▸cP _ e));have y0:cE.get? aX.heap.objs.size=some { cls:=.type "list",data:=.seq ([]:List Value).toArray }:=u1.extBut _ _ Gg (cP _ (yR▸ec _ rfl))
 have fresh:∀a,aX.heap.objs.size<=a->aX.heap.get? a=none:=fun a ha=>by
  cases e:aX.heap.get? a with
  | none=>rfl
  | some aK=>exact absurd (eQ e) (Nat.not_lt.mpr ha)
 have pW:=fresh aX.heap.objs.size (c9 _);have m2:aX.heap.get? dS.objs.size=none:=fresh _ (by rw[yP];exact Nat.le_succ _)
 have tx:∀a,aX.heap.get? a=none->s.heap.get? a=none:=fun a ha=>by
  cases e:s.heap.get? a with
  | none=>rfl
  | some o=>obtain⟨aK,aA⟩:=gw.alive a o ((dT)) e;rw[ha]at aA;contradiction
 have base:∀a,aX.heap.get? a=none->K.hb.get? a=none:=fun a ha=>by
  cases e:K.hb.get? a with
  | none=>rfl
  | some o=>rw[dX.base a o e]at ha;contradiction
 have kX:=nS.ext gw .nil;have lH:ak K.hb cE ao ⟨cc.ix,aX.heap.objs.size::cc.hid,cc.fr⟩:=dX.hide pW g7 y0;have mE:aZ env ρ cE ⟨cc.ix,aX.heap.objs.size::cc.hid,cc.fr⟩:=(kX.hide pW).ext (.keeps (F:=[]) g7) .nil
 have cells:∀y a,env.cells.lookup y=some a->∃o,s.heap.get? a=some o:=fun y a ha=>by
  refine dI (nS.ca y a ha) fun J J bd=>?_;refine cD bd fun v o e J=>?_;exact⟨o,e⟩
 have pU:dS.objs.size∉(⟨cc.ix,aX.heap.objs.size::cc.hid,cc.fr⟩:au).all:=fun q=>by
  rcases c2.mp q with q | q
  ·refine aJ (dX.live q) fun o e=>?_;rw[m2]at e;contradiction
  ·rcases bE.mp q with q | q
   ·exact Gg q.symm
   ·refine aJ ((dX.hidden _ q).2) fun o e=>?_;rw[m2]at e;contradiction
 have dc:∀y a,env.cells.lookup y=some a->a≠dS.objs.size:=fun y a ha q=>by
  refine aJ (cells y a ha) fun o e=>?_;rw[q,tx _ m2]at e;contradiction
 have mF:=L4 c mE zk pU dc;have jr:=tI c nS
 have apart:nQ (gC scope dS.objs.size env) bV:=by
  refine⟨fun q=>?_,fun y a ha q=>?_⟩
  ·refine aJ (I.live _ _ _ st _ q) fun o e=>?_;have aA:aX.heap.get? dS.objs.size=some o:=e;rw[m2]at aA;contradiction
  ·refine aJ (cells y a (pF jr ha)) fun o e=>?_;rw[(ho a q).1]at e;contradiction
 have yS:cp K.hb (gC scope dS.objs.size env):=⟨base _ m2,fun y a ha=>am.c y a (pF jr ha),am.f⟩
 have lm:dS.objs.size∉K.hb.fr:=fun q=>by
  obtain⟨_,o,e,_⟩:=dX.frs _ q;rw[m2]at e;contradiction
 have e9:(gC scope dS.objs.size env).scope.names=dn env.scope.names scope.names:=AG nS.ok.kind;have mz:St 0 cE ⟨cc.ix,aX.heap.objs.size::cc.hid,cc.fr⟩:=I.frame _ [] _ _ _ _ (I.hide _ _ _ _ st pW) (.keeps g7) (by simp)
 have HV:∀eD:Shared,eD={ aX with heap:=cE,toks:=aX.toks+([]:List (Str×Value)).length } ->
   codeAny (model K.prog K.w) A (.compLoop (.ListComp elt [⟨.Name x iF,iter,ifs,0⟩] scope pos) 0 it (.ref aX.heap.objs.size) (compEnvC scope (gB env.cells scope.names []) dS.objs.size env))
    (RR (.ref aX.heap.objs.size) dS.objs.size) eD:=by
  rintro eD rfl
  refine codeAny_mono (L6 (s:=s) (α:=α) (D:=aX.heap.objs.size) (C:=dS.objs.size) (a6:=a6) (c:=mP a6 cu eC kr) (cenv:=gC scope dS.objs.size env) (nP:=n9 scope env ρ) (t:=t) (cu:=cu) (eC:=eC)
   (i:=0) (aa:=ao) (α₁:=⟨cc.ix,aX.heap.objs.size::cc.hid,cc.fr⟩) (ys:=[]) (us:=[]) (bQ:=n9 scope env ρ) (n:=0) I (e9.symm▸c.tgt) (e9.symm▸c.sc.uniq) rfl (fun b hb=>(ho b hb).1) (tx _ pW) (tx _ m2) (base _ pW) (base _ m2) ?_ apart hc bN yS lm
   (fun v s σ α=>r6 _ v s σ α yS) (fun v s σ α=>rP _ v s σ α yS) (Nat.zero_le _) (by show _::cc.hid=_;rw[gw.hid]) ?_ lH mz mF (fun v=>rfl) y0 .nil ⟨jZ.gens,jZ.os⟩ ?_ (c9 _) (aQ.Tk.up sY (e6 _ _))) (fun r s'=>Od _ _ r s')
  ·refine aJ mv fun σ mv=>?_;intro q;refine aJ ((mv.hidden _ q).2) fun o e=>?_;rw[tx _ pW]at e;contradiction
  ·have ar:aW [] α s.heap ⟨cc.ix,α.hid,cc.fr⟩ aX.heap:=by
    have:=gw.rehid α.hid;exact this
   exact ar.trans (.keeps g7)
  ·rw[y7];rfl
 exact codeAny_compStart_list (HV _ rfl) (I.self 0 _ _ mz _ _ (HV _ rfl))
theorem Ru{elt iter:Expr}{iF:Pos}{ifs:List Expr}{pos:Pos}{kr:ai (List H×Option (Nat×aS))}{σ:ac}
  {cu:H->ac->ai Bool} {eC:H->ac->ai H} {a6:Bool}
  (c:ka env.scope.names scope t x) (nS:aZ env ρ s.heap α) (bO:jk K A false (eval iter env) kr s α)
  (r6:∀C v s σ α,cp K.hb (gC scope C env)->aZ (gC scope C env) ((n9 scope env ρ).set t (some v)) s.heap α->ak K.hb s.heap σ α ->
   Runs K hX A (forIn ifs true fun c r=>if r=true then do let ok <- isTrue c (gC scope C env) (eval c (gC scope C env));pure (ForInStep.yield ok)else pure (ForInStep.yield r)) (cu v σ) s α)
  (rP:∀C v s σ α,cp K.hb (gC scope C env)->aZ (gC scope C env) ((n9 scope env ρ).set t (some v)) s.heap α->ak K.hb s.heap σ α->Runs K af A (eval elt (gC scope C env)) (eC v σ) s α)
  (bN:e4 K A) (am:cp K.hb env) (mv:ak K.hb s.heap σ α) (hs:∀x,foldedSetIterable iter env x=pure x) :
  Runs K af A (eval (.ListComp elt [⟨.Name x iF,iter,ifs,0⟩] scope pos) env) (mP a6 cu eC kr) s α:=by
 intro hc tk;rw[eval_ListComp];refine wpAny_comprehension_free (use:=none) rfl hs (Cq (tI c nS)) c.kind c.names (Cw (a6:=a6) (RR:=fun acc C=>compPost (model K.prog K.w) A _ none _ acc C) c nS bO hc tk r6 rP bN am ⟨_,mv⟩ (fun e s' hx=>?_) ?_)
 ·obtain⟨i,σ',V,eJ⟩:=hx;exact⟨i,σ',by rw[V];rfl,eJ⟩
 ·rintro acc C r s' ⟨rfl,v,σ',α',m,e,aH,aC,vr,j5,ns,ha,eX,oN,lm⟩
  ·refine⟨m,ns,fun h' d6=>?_⟩
   obtain⟨AA,ta⟩:=aC.but ha oN (fun b o hb e=>(d6.2 b hb).trans e) (fun o e=>by
    refine lW (id ns) fun aK es d5 aA d J=>?_;rw[e]at aA;obtain rfl:=oi aA
    exact gF.notSolid ⟨_,_,d⟩) fun q=>absurd q lm
   exact⟨v,σ',α',e,aH.sameBut eX (fun b hb=>d6.2 b hb),AA,vr.ext ta,j5.trans ⟨rfl,rfl⟩⟩
end
end Mine
namespace Mine
open PySem PyProof.Rows
noncomputable def i7:Expr->Bool
 | .Set ..=>false
 | .Starred ..=>false
 | _=>true
theorem IV{gu:CmpOp}{e:Expr}(h:i7 e=true):behindInMarks gu e=false:=by
 cases e <;> first | rfl | contradiction
theorem As{e:Expr}{env:Env}(h:i7 e=true)(x:Value):foldedSetIterable e env x=pure x:=by
 cases e <;> first | rfl | contradiction
theorem h9{e:Expr}{rest:List Expr}{env:Env}(h:i7 e=true):starEach (e::rest) env=(false,eval e env)::starEach rest env:=by
 cases e <;> first | rfl | contradiction
inductive BF(h:Heap)(c:Nat)(up:List Nat):Prop
 | mk (nm q:Str) (N:Addr) (bs:List Value) (hdct:Bool) (sn:List Str) (sub:List Value) (ab:Bool) (col:Option Bool) (dd:Option Addr) (k0 k1 k2 k3 k5:Option Value)
   (ho:h.get? c=some (excClassObj nm q c N bs (up.map Value.ref++[.type "ValueError",.type "Exception",.type "BaseException",.type "object"]) hdct sn sub ab col dd k0 k1 k2 k3 k5 "ValueError.__new__"))
   (mN:Str->Option Value) (am:h.Ns N mN) (hi:mN "__init__" = none):BF h c up
structure pt(K:aQ)(x:Str)(c:Nat)(up:List Nat):Prop where
 mg:K.mg x=some (.ref c)
 ob:BF K.hb.h c up
 tail:OwnTail K.hb.h [.type "ValueError",.type "Exception",.type "BaseException",.type "object"] (up.map Value.ref++[.type "ValueError",.type "Exception",.type "BaseException",.type "object"])
open PySem.W in
noncomputable def ou(F:PySem.W.Frag)(T:ba)(c:Nat):Bool:=
 findIn F (.ref c) "__getattribute__" == some (some (.builtin "BaseException.__getattribute__"))&&findIn F (.ref c) "__getattr__" == some none&&findIn F (.ref c) "__class__" == some (some (.builtin "object.__class__")) &&
  subIn F (.ref c) (.type "BaseException") == some true&&subIn F (.ref c) (.type "object") == some true&&(clsIn F c).isSome &&
  T.excs.all (fun q=>kitOne F (.ref c) (.ref q.2.1) == some ((kP T q.2.1).contains c))&&kitOne F (.ref c) (.type "ValueError") == some true
open PySem.W in
structure j9(K:aQ)(F:Frag)(b:Str)(c:Addr):Prop where
 mg:K.mg b=some (.ref c)
 inn:F.In K.hb.h
 keep:keepIn F (.ref c)=true
 makes:makesIn F c=true
 plain:plainOver F c=true
 hasd:(clsIn F c).any (·.hasDict)=true
 seta:findIn F (.ref c) "__setattr__" = some (some (.builtin "object.__setattr__"))
 free:∀n∈lb,takerIn F c n=some none
 geta:findIn F (.ref c) "__getattribute__" = some (some (.builtin "object.__getattribute__"))
 getr:findIn F (.ref c) "__getattr__" = some none
 none:∀n∈lb,findIn F (.ref c) n=some none
noncomputable def ww(K:aQ)(A:Around):Prop:=∃(a:Addr) (o:Obj) (vs:Array Value),A.handled=some (.ref a)/\K.hb.get? a=some o/\o.data=.fields vs/\vs[2]?=some .none
structure Ctx(K:aQ)(A:Around)(T:ba)(C:bh):Prop where
 hK:K.Ok
 hA:d9 A
 hd:C.hd=false->A.handled=none
 ph:K.ph=C.hd
 rz:C.rz=true->C.hd=true->ww K A
 rp:T.repl=true->K.pos=true
 fr:e4 K A
 exc:∃F:PySem.W.Frag,F.In K.hb.h/\∀p∈T.excs,pt K p.1 p.2.1 p.2.2/\ou F T p.2.1=true
 cst:∀x v,T.cst.lookup x=some v->∃u,K.mg x=some u/\∀h σ α,ak K.hb h σ α->af h α v u
 fn:∀f x,T.fns[f]?=some x->∃a o fd,K.mg x=some (.ref a)/\K.hb.get? a=some o/\o.data=.func fd/\∀vs us s σ α,ak K.hb s.heap σ α->a7 s.heap α vs us->Runs K af A (call (.ref a) us) (C.call f vs σ) s α
 bin:∀x,x∈T.bins->K.mg x=none/\∃v,lc x=some v/\K.mb x=some v
 brd:∀b c,T.brd=some (b,c)->∃F,j9 K F b c/\(∀j,T.meths[j]?=some ("__init__" : Str)->∀vs us s σ α,ak K.hb s.heap σ α->a7 s.heap α vs us->Runs K af A (call (.ref c) us) (ml C c (T.fns.length+j) vs σ) s α)
  /\ ∀j n,T.meths[j]?=some n->∃a o fd,PySem.W.findIn F (.ref c) n=some (some (.ref a))/\PySem.W.typeIn F (.ref a)=some (.type "function")/\K.hb.get? a=some o/\o.data=.func fd/\∀vs us s σ α,ak K.hb s.heap σ α->a7 s.heap α vs us->Runs K af A (call (.ref a) us) (C.call (T.fns.length+j) vs σ) s α
noncomputable def jI(K:aQ)(A:Around)(C:bh)(N:List (Str×NameKind))(e:Expr)(x:X):Prop:=
 ∀env ρ σ s α,env.scope.names=N->cp K.hb env->aZ env ρ s.heap α->ak K.hb s.heap σ α ->
  Runs K af A (eval e env) (ev C x ρ σ) s α/\Runs K hX A (isTrue e env (eval e env)) (tst C x ρ σ) s α
noncomputable def b3(K:aQ)(A:Around)(C:bh)(f:List (Str×NameKind)->Expr->Option X):Prop:=
 ∀N e x,f N e=some x->i7 e=true/\jI K A C N e x
section
variable {K:aQ}{A:Around}{β γ lQ qR:Type}{dA:Heap->au->β->γ->Prop}{tm:Heap->au->lQ->qR->Prop}{s:Shared}{α:au}{σ:ac}
theorem Runs.operate{vs:List Value}{t:Sem Value}{dA:Heap->au->β->Value->Prop}{c:ai β}(ax:Runs K dA A t c s α):Runs K dA A (operate vs t) c s α:=
 fun h tk=>wpAny_operating (ax h tk)
theorem NC{t:Sem Value}{c:ai H}{p:Pos}(ax:Runs K af A t c s α):Runs K hX A (do let v <- t;standAt p;holding [v] (truthy v)) (c.bind jc) s α:=
 Runs.bind ax fun b σ' α' y s' J x r v m=>Runs.standAt (Runs.holding (v5 r v))
theorem ej.vr{h:Heap}{α:au}{b:Bool}{y:Value}(v:ej h α b y):af h α (.bool b) y:=by
 have:y=.bool b:=v;subst this;exact .bool b
end
section
variable {K:aQ}{A:Around}{T:ba}{C:bh}{f:List (Str×NameKind)->Expr->Option X}{N:List (Str×NameKind)}{env:Env}{ρ:aE}{σ:ac}{s:Shared}{α:au}
theorem w8{c:Const}{v:H}{k:Nat}{p:Pos}(h:v2 c=some v)(r:ak K.hb s.heap σ α):Runs K af A (eval (.Constant c k p) env) (.ok v σ) s α:=by
 intro _ _
 cases c with
 | none=>obtain rfl:=oi h;exact wpAny_Constant_none (cf.here (tk:=s.toks) r .none)
 | bool b=>obtain rfl:=oi h;exact wpAny_Constant_bool (cf.here (tk:=s.toks) r (.bool b))
 | int i=>obtain rfl:=oi h;exact wpAny_Constant_int (cf.here r (.int i _))
 | str x =>
  change bT _ _=_ at h
  exact cG h fun hx h=>by obtain rfl:=oi h;exact wpAny_Constant_str (cf.here r (.str x _ hx))
 | _=>contradiction
theorem eS{e:Expr}{y:X}(he:∀env s9,isTrue e env s9=(do let v <- s9;standAt e.pos;holding [v] (truthy v)))(a1:∀ρ σ,tst C y ρ σ=(ev C y ρ σ).bind jc)
  (ax:∀{env ρ σ s α},env.scope.names=N->cp K.hb env->aZ env ρ s.heap α->ak K.hb s.heap σ α->Runs K af A (eval e env) (ev C y ρ σ) s α):jI K A C N e y:=fun env ρ σ s α am hn E r =>
 ⟨ax am hn E r,by rw[he,a1];exact NC (ax am hn E r)⟩
theorem Hm{N:List (Str×NameKind)}{x:Str}{i:Nat}{q:Str×NameKind}(hi:N.findIdx? (·.1 == x)=some i)(hq:N[i]?=some q):q.1=x:=by
 refine aw (List.findIdx?_eq_some_iff_getElem.mp hi) fun L O J=>?_;obtain rfl:=oi ((dx L).symm.trans hq);exact eq_of_beq O
theorem VT{x:Str}{y:X}{p:Pos}(c:Ctx K A T C)(h:Bc T N x=some y):jI K A C N (.Name x p) y:=by
 unfold Bc at h;refine cj h fun i hi h=>cj h fun q hq h=>?_;have hx:=Hm hi hq;obtain⟨z,k⟩:=q;dsimp only at hx;subst hx
 cases k with
 | «local»=>obtain rfl:=oi h;exact eS (fun J J=>rfl) (fun J J=>rfl) fun am J E r=>Io r E (by rw[am];exact hq)
 | cell=>obtain rfl:=oi h;exact eS (fun J J=>rfl) (fun J J=>rfl) fun am J E r=>Io r E (by rw[am];exact hq)
 | globalImplicit =>
  change(T.cst.lookup z).map X.k=_ at h;refine fc h fun v hv=>?_;refine aw (c.cst z v hv) fun u L O=>?_;exact eS (fun J J=>rfl) (fun J J=>rfl) fun{env ρ σ s α} am _ E r _ _=>qh c.hK r E.ok (am.symm▸hq) L ⟨v,σ,α,rfl,.refl,r,O _ _ _ r,.refl s⟩
 | _=>contradiction
theorem nE{g:Expr->Option X}{e:Expr}{es:List Expr}{xs:X}(h:ff g (e::es)=some xs):∃a b,g e=some a/\ff g es=some b/\xs=.cons a b:=by
 change bL _ _ _=_ at h;exact fQ (M:=fun xs=>∃a b,g e=some a/\ff g es=some b/\xs=.cons a b) h fun a b L O=>⟨a,b,L,O,rfl⟩
theorem oq{es:List Expr}{xs:X}{pos:Pos}(S:b3 K A C f)(h:ff (f N) es=some xs)(am:env.scope.names=N)(hn:cp K.hb env) :
  ∀{σ s α},aZ env ρ s.heap α->ak K.hb s.heap σ α->Runs K a7 A (spliced (backTo pos (starEach es env))) (evs C xs ρ σ) s α:=by
 induction es generalizing xs with
 | nil =>
  obtain rfl:=oi h;intro σ s α E r;simp only[h5,lg];exact fun J J=>wpAny_items_nil ⟨[],σ,α,rfl,.refl,r,.nil,.refl s⟩
 | cons e es ag =>
  obtain⟨a,b,ha,hb,rfl⟩:=nE h
  ·skip
   intro σ s α E r;obtain⟨hp,ax⟩:=S N e a ha;have ax:=(ax env ρ σ s α am hn E r).1;simp only[h5,lg];intro hc tk;refine wpAny_items_cons ?_ (h9 hp)
   have L:ev C a ρ σ≠.stuck:=by intro q;rw[q]at hc;exact hc rfl
   refine cm (jb (ax L tk)) (fun v s₁ hp=>?_) fun e s₁ hx=>?_
   ·obtain⟨⟨pv,aa,α₁,V,aM,aN,aR,aV⟩,sZ⟩:=hp;rw[V]at hc ⊢
    have O:evs C b ρ aa≠.stuck:=by intro q;simp[ai.bind,q]at hc
    refine cm (ag hb (E.ext aM .nil) aN O (aQ.Tk.up tk sZ)) (fun vs aX hp=>?_) fun e aX hx=>?_
    ·obtain⟨TR,ao,cc,aj,bg,r2,bu,ck⟩:=hp;refine⟨pv::TR,ao,cc,by simp[ai.bind,aj],aM.trans bg,r2,.cons (aR.ext bg) bu,aV.trans ck⟩
    ·obtain⟨i,ao,aj,dP,eJ⟩:=hx;exact⟨i,ao,by simp[ai.bind,aj],dP,eJ.lift aM aV⟩
   ·obtain⟨⟨i,aa,V,dP,eJ⟩,_⟩:=hx;exact⟨i,aa,by rw[V];rfl,dP,eJ⟩
theorem KQ{es:List Expr}{xs:X}{pos:Pos}(S:b3 K A C f)(h:ff (f N) es=some xs)(am:env.scope.names=N)(hn:cp K.hb env) :
  ∀{σ s α},aZ env ρ s.heap α->ak K.hb s.heap σ α->Runs K af A (boolOp pos .And (evalEach es env)) (evAnd C xs ρ σ) s α/\Runs K hX A (allTrue .And es env) (tstAnd C xs ρ σ) s α:=by
 induction es generalizing xs with
 | nil =>
  obtain rfl:=oi h;intro σ s α E r;refine⟨fun hc=>absurd (by simp only[xk,xl,rr]) hc,?_⟩;simp only[JQ,qH];exact fun J J=>wpAny_allTrue_And_nil ⟨true,σ,α,rfl,.refl,r,rfl,.refl s⟩
 | cons e es ag =>
  obtain⟨a,b,ha,hb,rfl⟩:=nE h
  ·skip
   intro σ s α E r;obtain⟨hp,ax⟩:=S N e a ha;have ax:=ax env ρ σ s α am hn E r;constructor
   ·cases es with
    | nil =>
     obtain rfl:=oi hb;simp only[xk,xl,rr];exact ax.1
    | cons aj MI =>
     have y2:∃b1 d4,b=.cons b1 d4:=by
      obtain⟨b1,d4,_,_,rfl⟩:=nE hb;exact⟨_,_,rfl⟩
     obtain⟨b1,d4,rfl⟩:=y2;simp only[xk,xl,rr];refine Runs.bind ax.1 fun v aa α₁ y s₁ V aM aN aR aV=>Runs.standAt ?_;refine Runs.bind (Runs.holding (v5 aN aR)) fun t ao cc hT aX aj bg r2 bu ck=>?_;have:hT=t:=bu;subst this
     cases hT with
     | false=>simp only[Bool.false_eq_true,if_false];exact Runs.pure r2 (aR.ext bg)
     | true=>simp only[if_true];exact(ag hb ((E.ext aM .nil).ext bg .nil) r2).1
   ·simp only[JQ,qH];refine Runs.bind ax.2 fun t aa α₁ y s₁ V aM aN aR aV=>?_;have:y=t:=aR;subst this
    cases y with
    | false=>simp only[Bool.false_eq_true,if_false];exact Runs.pure aN rfl
    | true=>simp only[if_true];exact(ag hb (E.ext aM .nil) aN).2
theorem S8{es:List Expr}{xs:X}{pos:Pos}(S:b3 K A C f)(h:ff (f N) es=some xs)(am:env.scope.names=N)(hn:cp K.hb env) :
  ∀{σ s α},aZ env ρ s.heap α->ak K.hb s.heap σ α->Runs K af A (boolOp pos .Or (evalEach es env)) (evOr C xs ρ σ) s α/\Runs K hX A (allTrue .Or es env) (tstOr C xs ρ σ) s α:=by
 induction es generalizing xs with
 | nil =>
  obtain rfl:=oi h;intro σ s α E r;refine⟨fun hc=>absurd (by simp only[xn,xo,tT]) hc,?_⟩;simp only[JR,qI];exact fun J J=>wpAny_allTrue_Or_nil ⟨false,σ,α,rfl,.refl,r,rfl,.refl s⟩
 | cons e es ag =>
  obtain⟨a,b,ha,hb,rfl⟩:=nE h
  ·skip
   intro σ s α E r;obtain⟨hp,ax⟩:=S N e a ha;have ax:=ax env ρ σ s α am hn E r;constructor
   ·cases es with
    | nil =>
     obtain rfl:=oi hb;simp only[xn,xo,tT];exact ax.1
    | cons aj MI =>
     have y2:∃b1 d4,b=.cons b1 d4:=by
      obtain⟨b1,d4,_,_,rfl⟩:=nE hb;exact⟨_,_,rfl⟩
     obtain⟨b1,d4,rfl⟩:=y2;simp only[xn,xo,tT];refine Runs.bind ax.1 fun v aa α₁ y s₁ V aM aN aR aV=>Runs.standAt ?_;refine Runs.bind (Runs.holding (v5 aN aR)) fun t ao cc hT aX aj bg r2 bu ck=>?_;have:hT=t:=bu;subst this
     cases hT with
     | true=>simp only[if_true];exact Runs.pure r2 (aR.ext bg)
     | false=>simp only[Bool.false_eq_true,if_false];exact(ag hb ((E.ext aM .nil).ext bg .nil) r2).1
   ·simp only[JR,qI];refine Runs.bind ax.2 fun t aa α₁ y s₁ V aM aN aR aV=>?_;have:y=t:=aR;subst this
    cases y with
    | true=>simp only[if_true];exact Runs.pure aN rfl
    | false=>simp only[Bool.false_eq_true,if_false];exact(ag hb (E.ext aM .nil) aN).2
end
end Mine
set_option maxRecDepth 100000
namespace Mine
open PySem PySem.W PyProof.Rows
section
variable {prog:Program}{w:World}{A:Around}{E:Value->Shared->Prop}{h:Heap}{g:Array GenState}{d:Drawn}{t:Nat}{os:OsState}{a c:Addr}{o:Obj}{b7:Frag}
theorem WL{ak:Result->Shared->Prop}(X:b7.In h)(hx:h.get? a=some o)(hc:o.cls=.ref c)(ho:subIn b7 (.ref c) (.type "object")=some true)(hq:ak (.ok (.ret (.ref c))) ⟨h,g,d,t,os⟩) :
  codeAny (model prog w) A (.call (.builtin "getset_descriptor.__get__") ⟨[.builtin "object.__class__",.ref a,.ref c],[]⟩) ak ⟨h,g,d,t,os⟩:=by
 have Gm:(⟨h,g,d,t,os⟩:Shared).TypeIs (.builtin "object.__class__") "getset_descriptor" := F.typeOf_object_class
 have rY:subIn b7 (.ref c) (.type (".".intercalate ("object.__class__".cutAt '.').dropLast))=some true:=by exact F.owner_object_class.symm▸ho
 have bK:=looks_subIn (M:=model prog w) X rY;refine codeAny_call_builtin F.slot_gs_get.plain F.entry_gs_get (F.slot_gs_get.check _ _ _ _ _ _ _ _ Gm (F.args_gs_get _ _ _) ?_)
 repeat (any_goals (first | assumption | (with_reducible refine wpAny_loadPart_at hx ?_;rw[hc]) | with_reducible refine bK.at ?_ | wp_step))
 refine⟨Code.quiet_builtin _ (by decide +kernel),codeAny_builtin F.entry_object_class ?_⟩
 repeat (any_goals (first | assumption | (with_reducible refine wpAny_loadPart_at hx ?_;rw[hc]) | wp_step))
theorem WK{tk:Tok}{Q:Fin->Shared->Prop}(X:b7.In h)(hx:h.get? a=some o)(hc:o.cls=.ref c)(ho:subIn b7 (.ref c) (.type "object")=some true)(hl:findIn b7 (.ref c) "__class__" = some (some (.builtin "object.__class__")))
  (hq:Q (.done (.ret (.ref c))) ⟨h,g,d,t,os⟩):wpAny (model prog w) A (Builtin.«object.__getattribute__» ⟨[.ref a,.str "__class__" tk],[]⟩) Q E ⟨h,g,d,t,os⟩:=by
 have Gm:(⟨h,g,d,t,os⟩:Shared).TypeIs (.builtin "object.__class__") "getset_descriptor" := F.typeOf_object_class;have ox:=F.typeOf_object_class;have C9:=F.slot_gs_get.lookup;have Xq:=F.slot_gs_set.lookup;have bK:=looks_findIn (M:=model prog w) X hl
 repeat (any_goals (first | assumption | (with_reducible refine wpAny_loadPart_at hx ?_;rw[hc]) | with_reducible refine bK.at ?_ | wp_step))
 refine WL X hx hc ho ?_
 repeat (any_goals (first | assumption | wp_step))
theorem WH{M:Model}{Im:Value}{Q:Unit->Shared->Prop}(X:b7.In h)(hx:h.get? a=some o)(hc:o.cls=.ref c)(hb:subIn b7 (.ref c) (.type "BaseException")=some true)(hq:Q () ⟨h,g,d,t,os⟩) :
  wpAny M A (checkBuiltinCall "BaseException.__getattribute__" ⟨[.ref a,Im],[]⟩) Q E ⟨h,g,d,t,os⟩:=by
 have hk:builtinKind "BaseException.__getattribute__" = some .slot:=by decide +kernel
 have PK:splitId "BaseException.__getattribute__" = some ("BaseException", "__getattribute__"):=by decide +kernel
 have bK:=looks_subIn (M:=M) X hb;have ha:=F.args_bexc_ga (.ref a) Im;simp only[checkBuiltinCall,hk,PK];refine aI ?_
 ·unfold isInstance
  repeat (first | (with_reducible refine wpAny_loadPart_at hx ?_;rw[hc]) | with_reducible refine bK.at ?_ | wp_step)
  exact hq
theorem WJ{tk:Tok}{Q:Value->Shared->Prop}(X:b7.In h)(hx:h.get? a=some o)(hc:o.cls=.ref c)(hb:subIn b7 (.ref c) (.type "BaseException")=some true)(ho:subIn b7 (.ref c) (.type "object")=some true)
  (hl:findIn b7 (.ref c) "__class__" = some (some (.builtin "object.__class__"))) (ze:findIn b7 (.ref c) "__getattribute__" = some (some (.builtin "BaseException.__getattribute__"))) (oP:findIn b7 (.ref c) "__getattr__" = some none)
  (hq:Q (.ref c) ⟨h,g,d,t,os⟩):wpAny (model prog w) A (getAttrBy (.ref a) (.str "__class__" tk) false) Q E ⟨h,g,d,t,os⟩:=by
 have rt:=F.attr_ValueError.ga.bind (.ref a)
 have P2:(Value.builtin "BaseException.__getattribute__" == Value.builtin "object.__getattribute__")=false:=by decide +kernel
 have p2:(onTheHeap (Value.ref c)&&Value.builtin "BaseException.__getattribute__" == Value.builtin "object.__getattribute__")=false:=by rw[P2];rfl
 have Ki:=looks_findIn (M:=model prog w) X ze;have Kj:=looks_findIn (M:=model prog w) X oP
 repeat (any_goals (first | assumption | (with_reducible refine wpAny_loadPart_at hx ?_;rw[hc]) | with_reducible refine Ki.at ?_ | with_reducible refine Kj.at ?_ | wp_step))
 refine codeAny_call_builtin F.attr_ValueError.ga.plain F.entry_bexc_ga (WH X hx hc hb (WK X hx hc ho hl ?_))
 repeat (any_goals (first | assumption | wp_step))
theorem WI{Q:Option Value->Shared->Prop}(X:b7.In h)(hx:h.get? a=some o)(hc:o.cls=.ref c)(hb:subIn b7 (.ref c) (.type "BaseException")=some true)(ho:subIn b7 (.ref c) (.type "object")=some true)
  (hl:findIn b7 (.ref c) "__class__" = some (some (.builtin "object.__class__"))) (ze:findIn b7 (.ref c) "__getattribute__" = some (some (.builtin "BaseException.__getattribute__"))) (oP:findIn b7 (.ref c) "__getattr__" = some none)
  (hq:Q (some (.ref c)) ⟨h,g,d,t+1,os⟩):wpAny (model prog w) A (getAttr? (.ref a) "__class__") Q E ⟨h,g,d,t,os⟩:=by
 unfold getAttr? getAttrBy?
 repeat (any_goals (first | assumption | with_reducible apply WJ X hx hc hb ho hl ze oP | wp_step))
end
theorem tV{b7:Frag}{T:ba}{c:Nat}(e:ou b7 T c=true):findIn b7 (.ref c) "__getattribute__" = some (some (.builtin "BaseException.__getattribute__"))/\findIn b7 (.ref c) "__getattr__" = some none/\findIn b7 (.ref c) "__class__" = some (some (.builtin "object.__class__")) ∧
  subIn b7 (.ref c) (.type "BaseException")=some true/\subIn b7 (.ref c) (.type "object")=some true/\(clsIn b7 c).isSome=true/\(∀q∈T.excs,kitOne b7 (.ref c) (.ref q.2.1)=some ((kP T q.2.1).contains c))/\kitOne b7 (.ref c) (.type "ValueError")=some true:=by
 unfold ou at e;simp only[el,e7,fC]at e;obtain⟨⟨⟨⟨⟨⟨⟨L,O⟩,ar⟩,aU⟩,dj⟩,gd⟩,m1⟩,rF⟩:=e;exact⟨L,O,ar,aU,dj,gd,fun q hq=>by have:=m1 q hq;exact this,rF⟩
set_option tactic.hygienic true in
theorem Q0{b7:Frag}{T:ba}{a c:Addr}(e:ou b7 T c=true):KitX b7 (.ref a) (.ref c) (fun h=>∃o,h.get? a=some o/\o.cls=.ref c) where
 ty:=fun M h J p=>by
  refine aw p fun o L O=>?_;exact O▸(Looks.ld L).andThen .now
 it:=fun J J X J=>by
  have hc:=(tV e).2.2.2.2.2.1;unfold clsIn at hc
  split at hc
  ·rename_i c3 eV LM pc ho;intro Bz nW dF s' k q;unfold isType loadHead;exact aI (wpAny_loadPart (k _ _ (X _ _ ho)) (bx q))
  ·contradiction
 ne:=fun h tp dd XK n cq X PS=>by
  have hc:=(tV e).2.2.2.2.2.1;refine Bool.eq_false_iff.mpr fun q=>?_;have e:c=tp:=Value.ref.inj (e7.mp q);subst e;unfold clsIn at hc
  split at hc
  ·rename_i c3 eV LM pc ho;have z:=(X _ _ ho).symm.trans PS;cases z
  ·contradiction
 ca:=fun{_ _ _ _ _ s} X p k=>by
  refine aw p fun o L O=>?_;refine tR (tV e) fun q1 q2 q3 q4 q5 J=>?_;obtain⟨h,g,d,t,os⟩:=s;exact WI X L O q4 q5 q3 q1 q2 k
section
variable {K:aQ}{A:Around}{T:ba}{C:bh}{s:Shared}{α:au}{σ:ac}
set_option tactic.hygienic true in
theorem Qv{a:H}{x cv:Value}{eh:List Nat}(f8:Ctx K A T C)(y8:(∃q∈T.excs,cv=.ref q.2.1/\eh=kP T q.2.1)\/(cv=.type "ValueError" /\ eh=T.excs.map (·.2.1)))
  (r:ak K.hb s.heap σ α) (av:af s.heap α a x):Runs K ej A (call (.builtin "isinstance") [x,cv]) (vh a eh (T.excs.map (·.2.1)) σ) s α:=by
 intro hc tk
 cases a with
 | exc c =>
  have bt:vh (.exc c) eh (T.excs.map (·.2.1)) σ=if(T.excs.map (·.2.1)).contains c then .ok (eh.contains c) σ else .stuck:=rfl
  rw[bt]at hc ⊢
  split at hc
  ·rename_i hd;rw[az hd]
   cases av with
   | exc e jr _ _ =>
    refine aw (cK.mp (mL.mp hd)) fun p hp Ps=>?_;refine aw f8.exc fun b7 X ax=>?_;have he:=(ax p hp).2;rw[Ps]at he;refine Mv (tV he) fun J J J J J J q7 q8=>?_
    have hk:kitOne b7 (.ref c) cv=some (eh.contains c):=by
     rcases y8 with⟨q,hq,rfl,rfl⟩ | ⟨rfl,rfl⟩
     ·exact q7 q hq
     ·exact hd.symm▸q8
    exact kia_one (Q0 he) (X.keeps r.base) ⟨_,e,jr⟩ hk (by(intro q;exact nomatch q)) fun tk=>⟨_,σ,α,rfl,.refl,r,rfl,⟨rfl,rfl⟩⟩
  ·exact absurd rfl hc
 | _=>exact absurd rfl hc
end
end Mine
namespace Mine
open PySem PyProof.Rows
section
variable {K:aQ}{A:Around}{β γ lQ qR:Type}{dA:Heap->au->β->γ->Prop}{tm:Heap->au->lQ->qR->Prop}{s:Shared}{α:au}{σ:ac}
theorem Ci{a:β}{f:β->ac->ai lQ}:(ai.ok a σ).bind f=f a σ:=rfl
theorem cf.lift{c:ai β}{s₁:Shared}{α₁:au}{y:γ}{s':Shared}(x:aW [] α s.heap α₁ s₁.heap)(m:cJ s s₁)(p:cf K dA c s₁ α₁ y s'):cf K dA c s α y s':=by
 obtain⟨b,σ',α',e,aH,r,v,bH⟩:=p;exact⟨b,σ',α',e,x.trans aH,r,v,m.trans bH⟩
theorem cW.bind{c:ai β}{f:β->ac->ai lQ}{y:Value}{s':Shared}(p:cW K A c s α y s'):cW K A (c.bind f) s α y s':=by
 obtain⟨i,σ',e,eJ⟩:=p;exact⟨i,σ',by rw[e];rfl,eJ⟩
theorem Runs.useL{t:Sem γ}{c:ai β}{f:β->ac->ai lQ}{W:γ->Shared->Prop}{s₀:Shared}{jg:au}(we:aW [] jg s₀.heap α s.heap)(vy:cJ s₀ s)(ax:Runs K dA A t c s α)(hc:c.bind f≠.stuck)(tk:K.Tk s)
  (N:∀b σ' α' y s',c=.ok b σ'->f b σ'≠.stuck->aW [] α s.heap α' s'.heap->ak K.hb s'.heap σ' α'->dA s'.heap α' b y->cJ s s'->K.Tk s'->W y s'):wpAny (model K.prog K.w) A t W (cW K A (c.bind f) s₀ jg) s:=by
 have L:c≠.stuck:=by rintro rfl;exact hc rfl
 refine cm (jb (ax L tk)) (fun y s' hp=>?_) fun e s' hx=>(hx.1.lift we vy).bind;obtain⟨⟨b,σ',α',rfl,x,r,v,m⟩,iJ⟩:=hp;exact N b σ' α' y s' rfl hc x r v m (aQ.Tk.up tk iJ)
theorem Runs.endL{t:Sem γ}{c:ai β}{s₀:Shared}{jg:au}(we:aW [] jg s₀.heap α s.heap)(vy:cJ s₀ s)(ax:Runs K dA A t c s α)(hc:c≠.stuck)(tk:K.Tk s):wpAny (model K.prog K.w) A t (cf K dA c s₀ jg) (cW K A c s₀ jg) s:=
 cm (ax hc tk) (fun J J h=>h.lift we vy) fun J J h=>h.lift we vy
theorem Runs.use{t:Sem γ}{c:ai β}{f:β->ac->ai lQ}{W:γ->Shared->Prop}(ax:Runs K dA A t c s α)(hc:c.bind f≠.stuck)(tk:K.Tk s)
  (N:∀b σ' α' y s',c=.ok b σ'->f b σ'≠.stuck->aW [] α s.heap α' s'.heap->ak K.hb s'.heap σ' α'->dA s'.heap α' b y->cJ s s'->K.Tk s'->W y s'):wpAny (model K.prog K.w) A t W (cW K A (c.bind f) s α) s:=ax.useL .refl (.refl s) hc tk N
theorem Runs.boolV{t:Sem Value}{c:ai Bool}(ax:Runs K ej A t c s α):Runs K af A t (c.bind fun b σ=>.ok (.bool b) σ) s α:=by
 intro hc tk
 have L:c≠.stuck:=by rintro rfl;exact hc rfl
 refine cm (ax L tk) (fun y s' hp=>?_) fun e s' hx=>hx.bind;obtain⟨b,σ',α',rfl,x,r,v,m⟩:=hp;exact⟨_,_,_,rfl,x,r,v.vr,m⟩
end
section
variable {K:aQ}{A:Around}{T:ba}{C:bh}{f:List (Str×NameKind)->Expr->Option X}{N:List (Str×NameKind)}{env:Env}{ρ:aE}{σ:ac}{s:Shared}{α:au}
theorem p5{g:Str}(h:fy N g=true):∃i:Nat,N[i]?=some (g,NameKind.globalImplicit):=by
 unfold fy at h;obtain⟨i,_,hi⟩:=zK (by simpa using h);exact⟨i,hi⟩
theorem kp{g:Str}{mO:Value}{p:Pos}{Q X:Value->Shared->Prop}(c:Ctx K A T C)(hg:fy N g=true)(hN:g∈T.bins)(hv:lc g=some mO)(am:env.scope.names=N)(E:tf env)(r:ak K.hb s.heap σ α)(h:Q mO s):wpAny (model K.prog K.w) A (eval (.Name g p) env) Q X s:=by
 obtain⟨hm,v,PU,Pg⟩:=c.bin _ hN;refine aJ (p5 hg) fun j a0=>?_;obtain rfl:=oi (hv.symm.trans PU);exact Sm c.hK r E (am▸a0) hm Pg h
theorem Lx{g:Str}{args:List Expr}{p pos:Pos}{i:Nat}{xs:X}(c:Ctx K A T C)(S:b3 K A C f)(hi:T.fns[i]?=some g)(hg:fy N g=true)(dc:args≠[])(h:ff (f N) args=some xs)
  (am:env.scope.names=N) (hn:cp K.hb env) (E:aZ env ρ s.heap α) (r:ak K.hb s.heap σ α) :
  Runs K af A (eval (.Call (.Name g p) args [] pos) env) ((evs C xs ρ σ).bind fun vs σ=>C.call i vs σ) s α:=by
 intro hc tk;refine tS (c.fn i g hi) fun a o fd hm ho hd iZ=>?_;refine aJ (p5 hg) fun j a0=>?_;refine kl (qh c.hK r E.ok (am.symm▸a0) hm ?_)
 cases args with
 | nil=>exact absurd rfl dc
 | cons e es =>
  have ax:=oq (pos:=pos) S h am hn E r;refine mT (nE h) fun eP dC jS gf J=>?_;rw[h9 (S N e eP jS).1]at ax ⊢;refine Calls.callWith_function (o:=o) (fd:=fd) (Calls.evalArgs_plain (Runs.use ax hc tk fun vs σ' α' us s' V cb aH aC b2 bH e1=>?_));refine⟨⟨aC.base _ _ ho,hd⟩,?_⟩;exact V.symm▸((iZ vs us s' σ' α' aC b2).endL aH bH cb e1)
theorem Lc{a6:Bool}{g:Str}{b:fX}(h:tw a6 g=some b):lc g=some (n7 b):=
 (show ∀p∈wY a6,lc p.1=some (n7 p.2)from(by repeat (first | refine List.forall_mem_cons.mpr ⟨rfl,?_⟩ | exact fun J h=>nomatch h))) _ (ng h)
theorem Ld{g:Str}{t:jN}(h:Bm g=some t):lc g=Bn t:=
 (show ∀p∈JV,lc p.1=Bn p.2 from(by repeat (first | refine List.forall_mem_cons.mpr ⟨rfl,?_⟩ | exact fun J h=>nomatch h))) _ (ng h)
noncomputable def Hw(b:fX):Bool:=
 match n7 b with
 | .none=>true
 | _=>false
theorem wX{a6:Bool}{g:Str}{b:fX}(h:tw a6 g=some b):n7 b≠.none:=by
 have h:=(show ∀p∈wY a6,Hw p.2=false from(by repeat (first | refine List.forall_mem_cons.mpr ⟨rfl,?_⟩ | exact fun J h=>nomatch h))) _ (ng h);intro e;unfold Hw at h;rw[e]at h;contradiction
theorem Ca{hd:Bool}{b:fX}{a:H}{σ:ac}(h:iP hd b a σ≠.stuck):(uU b=true->hd=false)/\iP hd b a σ=db b a σ:=by
 unfold iP at h ⊢
 cases hd with
 | false=>exact⟨fun J=>rfl,rfl⟩
 | true =>
  cases hb:uU b with
  | false=>exact⟨fun q=>(by contradiction),rfl⟩
  | true=>rw[hb]at h;exact absurd rfl h
theorem K7{g:Str}{a:Expr}{p pos:Pos}{a6:Bool}{b:fX}{x:X}(c:Ctx K A T C)(S:b3 K A C f)(hb:tw a6 g=some b)(hg:fy N g=true)(hN:g∈T.bins)(h:f N a=some x)
  (am:env.scope.names=N) (hn:cp K.hb env) (E:aZ env ρ s.heap α) (r:ak K.hb s.heap σ α) :
  Runs K af A (eval (.Call (.Name g p) [a] [] pos) env) ((ev C x ρ σ).bind fun v σ=>iP C.hd b v σ) s α:=by
 intro hc tk;refine aP (S N a x h) fun hp ax=>?_;have ax:=(ax env ρ σ s α am hn E r).1;refine kl (kp c hg hN (Lc hb) am E.ok r ?_);rw[h9 hp]
 have cs:wpAny (model K.prog K.w) A (eval a env) (fun y s'=>wpAny (model K.prog K.w) A (call (n7 b) [y]) (cf K af ((ev C x ρ σ).bind fun v σ=>iP C.hd b v σ) s α) (cW K A ((ev C x ρ σ).bind fun v σ=>iP C.hd b v σ) s α) s') (cW K A ((ev C x ρ σ).bind fun v σ=>iP C.hd b v σ) s α) s:=by
  refine Runs.use ax hc tk fun v σ' α' y s' V cb aH aC b2 bH e1=>?_;rw[V];refine aP (Ca cb) fun ei e3=>?_;show wpAny _ _ _ (cf K af (iP C.hd b v σ') s α) (cW K A (iP C.hd b v σ') s α) _;rw[e3]at cb ⊢;exact(K9 (wX hb) c.hA (fun q=>c.hd (ei q)) aC b2).endL aH bH cb e1
 cases b with
 | lenset=>exact absurd rfl (wX hb)
 | dict=>exact absurd rfl (wX hb)
 | len=>exact PySem.callWith_builtin1 cs
 | sum=>exact PySem.callWith_builtin1 cs
 | min=>exact PySem.callWith_builtin1 cs
 | max=>exact PySem.callWith_builtin1 cs
 | sorted=>exact PySem.callWith_builtin1 cs
 | all=>exact PySem.callWith_builtin1 cs
 | list _=>exact PySem.callWith_type1 cs
 | tuple=>exact PySem.callWith_type1 cs
 | int=>exact PySem.callWith_type1 cs
 | str=>exact PySem.callWith_type1 cs
theorem QD{t:Str}{ty:jN}{a:Expr}{p br pos:Pos}{x:X}(c:Ctx K A T C)(S:b3 K A C f)(hb:Bm t=some ty)(hg:fy N "isinstance" = true)(hN:("isinstance" : Str)∈T.bins)
  (oP:fy N t=true) (uR:t∈T.bins) (h:f N a=some x)
  (am:env.scope.names=N) (hn:cp K.hb env) (E:aZ env ρ s.heap α) (r:ak K.hb s.heap σ α) :
  Runs K af A (eval (.Call (.Name "isinstance" p) [a,.Name t br] [] pos) env) ((ev C x ρ σ).bind fun v σ=>(kH v ty σ).bind fun b σ=>.ok (.bool b) σ) s α:=by
 intro hc tk;obtain⟨_,bu,G2,_⟩:=c.bin _ uR;have l8:=(Ld hb).symm.trans G2;refine aP (S N a x h) fun hp ax=>?_;have ax:=(ax env ρ σ s α am hn E r).1;refine kl (kp c hg hN rfl am E.ok r ?_);rw[h9 hp];refine Calls.callWith_builtin rfl (Calls.evalArgs_plain (Calls.spliced_cons ?_));refine Runs.use ax hc tk fun v σ' α' y s' V cb aH aC b2 bH e1=>?_;exact V.symm▸(Calls.spliced_cons (kp c oP uR G2 am E.ok aC (Calls.spliced_nil ((QE l8 aC b2).boolV.endL aH bH cb e1))))
theorem xt{x:Str}{c:Nat}(h:ov T N x=some c):fy N x=true/\∃q∈T.excs,q.1=x/\q.2.1=c:=by
 unfold ov at h;refine cG h fun hg h=>⟨hg,?_⟩;exact fc (M:=fun c=>∃q∈T.excs,q.1=x/\q.2.1=c) h fun q hq=>⟨(x,q),ng hq,rfl,rfl⟩
theorem Qu{t:Str}{eh:List Nat}{a:Expr}{p br pos:Pos}{x:X}(c:Ctx K A T C)(S:b3 K A C f)(jT:xu T N t=some eh)(hg:fy N "isinstance" = true)(hN:("isinstance" : Str)∈T.bins)
  (h:f N a=some x) (am:env.scope.names=N) (hn:cp K.hb env) (E:aZ env ρ s.heap α) (r:ak K.hb s.heap σ α) :
  Runs K af A (eval (.Call (.Name "isinstance" p) [a,.Name t br] [] pos) env) ((ev C x ρ σ).bind fun v σ=>(vh v eh (T.excs.map (·.2.1)) σ).bind fun b σ=>.ok (.bool b) σ) s α:=by
 intro hc tk
 have nm:∃cv,((∃q∈T.excs,cv=.ref q.2.1/\eh=kP T q.2.1)\/(cv=.type "ValueError" /\ eh=T.excs.map (·.2.1))) ∧
   ∀{s':Shared} {σ':ac} {α':au} {Q X:Value->Shared->Prop},ak K.hb s'.heap σ' α'->Q cv s'->wpAny (model K.prog K.w) A (eval (.Name t br) env) Q X s':=by
  unfold xu at jT;refine j2 jT (fun c3 cb jT=>?_) fun J jT=>cG jT fun hb jT=>?_
  ·obtain rfl:=oi jT;obtain⟨hg',q,hq,rfl,rfl⟩:=xt cb;refine aJ (p5 hg') fun XM O2=>?_;refine aw c.exc fun b7 X ax=>?_;exact⟨_,.inl ⟨q,hq,rfl,rfl⟩,fun aC k=>qh c.hK aC E.ok (am.symm▸O2) (ax q hq).1.mg k⟩
  ··obtain rfl:=oi jT;simp only[mc,el,e7]at hb;obtain⟨rfl,hg',gf⟩:=hb;exact⟨_,.inr ⟨rfl,rfl⟩,fun aC k=>kp c hg' (by simpa using gf) rfl am E.ok aC k⟩
 refine aw nm fun cv y8 nm=>?_;refine aP (S N a x h) fun hp ax=>?_;have ax:=(ax env ρ σ s α am hn E r).1;refine kl (kp c hg hN rfl am E.ok r ?_);rw[h9 hp];refine Calls.callWith_builtin rfl (Calls.evalArgs_plain (Calls.spliced_cons ?_));refine Runs.use ax hc tk fun v σ' α' y s' V cb aH aC b2 bH e1=>?_;exact V.symm▸(Calls.spliced_cons (nm aC (Calls.spliced_nil ((Qv c y8 aC b2).boolV.endL aH bH cb e1))))
theorem Le{o:mH}{l aC:Expr}{gu:Operator}{pos:Pos}{a b:X}(c:Ctx K A T C)(S:b3 K A C f)(ho:JN gu=some o)(L:f N l=some a)(O:f N aC=some b)
  (am:env.scope.names=N) (hn:cp K.hb env) (E:aZ env ρ s.heap α) (r:ak K.hb s.heap σ α) :
  Runs K af A (eval (.BinOp l gu aC pos) env) (ev C (.bin o a b) ρ σ) s α:=by
 have rZ:gu=IJ o:=by cases gu <;> cases ho <;> rfl
 subst rZ;rw[arm_eval_BinOp];refine Runs.bind ((S N l a L).2 env ρ σ s α am hn E r).1 fun av aa α₁ y s₁ V aM aN aR aV=>?_;refine Runs.bind (Runs.holding ((S N aC b O).2 env ρ aa s₁ α₁ am hn (E.ext aM .nil) aN).1) fun bb ao cc hT aX aj bg r2 bu ck=>?_;exact Runs.standAt (Runs.operate (Li c.hA r2 (aR.ext bg) bu))
theorem LY{o:ig}{l aC:Expr}{gu:CmpOp}{pos:Pos}{a b:X}(c:Ctx K A T C)(S:b3 K A C f)(ho:qF gu=some o)(L:f N l=some a)(O:f N aC=some b)
  (am:env.scope.names=N) (hn:cp K.hb env) (E:aZ env ρ s.heap α) (r:ak K.hb s.heap σ α) :
  Runs K af A (eval (.Compare l [gu] [aC] pos) env) (ev C (.cmp a o b) ρ σ) s α/\Runs K hX A (isTrue (.Compare l [gu] [aC] pos) env (eval (.Compare l [gu] [aC] pos) env)) (tst C (.cmp a o b) ρ σ) s α:=by
 have rZ:gu=h3 o:=by cases gu <;> cases ho <;> rfl
 subst rZ;refine aP (S N aC b O) fun m6 dS=>?_
 have rU:markedBehindIn (h3 o) aC (eval aC env)=eval aC env:=by unfold markedBehindIn;rw[IV m6]
 constructor
 ·rw[arm_eval_Compare];refine Runs.bind ((S N l a L).2 env ρ σ s α am hn E r).1 fun av aa α₁ y s₁ V aM aN aR aV=>?_;show Runs K af A (do let fz <- holding [y] (markedBehindIn (h3 o) aC (eval aC env));standAt pos;operate [y,fz] (compareOp (h3 o) y fz)) _ _ _;rw[rU];refine Runs.bind (Runs.holding (dS env ρ aa s₁ α₁ am hn (E.ext aM .nil) aN).1) fun bb ao cc hT aX aj bg r2 bu ck=>Runs.standAt (Runs.operate ?_);exact(pH c.hK c.hA r2 (aR.ext bg) bu).boolV
 ·rw[arm_isTrue_Compare];refine Runs.bind ((S N l a L).2 env ρ σ s α am hn E r).1 fun av aa α₁ y s₁ V aM aN aR aV=>?_;show Runs K hX A (do let fz <- holding [y] (markedBehindIn (h3 o) aC (eval aC env));standAt pos;let c <- operate [y,fz] (compareOp (h3 o) y fz);holding [c] (truthy c)) _ _ _;rw[rU];refine Runs.bind (Runs.holding (dS env ρ aa s₁ α₁ am hn (E.ext aM .nil) aN).1) fun bb ao cc hT aX aj bg r2 bu ck=>Runs.standAt ?_;intro hc tk;refine aI (wpAny_operating (cm (pH c.hK c.hA r2 (aR.ext bg) bu hc tk) (fun y iG hp=>?_) fun e iG hx=>hx));obtain⟨h1,ht,jE,bF,fW,fH,ic,iB⟩:=hp;have:y=.bool h1:=ic;subst this;exact f6 (wpAny_truthy_bool ⟨h1,ht,jE,bF,fW,fH,rfl,iB⟩)
theorem Runs.release{vs ks:List Value}{β γ:Type}{dA:Heap->au->β->γ->Prop}{t:Sem γ}{c:ai β}
  (ax:Runs K dA A t c s α):Runs K dA A (do PySem.release vs ks;t) c s α:=
 fun h tk=>aI (wpAny_release' (ax h tk))
end
end Mine
namespace Mine
open PySem PyProof.Rows
section
variable {K:aQ}{A:Around}{T:ba}{C:bh}{f:List (Str×NameKind)->Expr->Option X}{N:List (Str×NameKind)}{env:Env}{ρ:aE}{σ:ac}{s:Shared}{α:au}
theorem LX{o bL:ig}{l aC j3:Expr}{gu qm:CmpOp}{pos:Pos}{a b d4:X}(c:Ctx K A T C)(S:b3 K A C f)(ho:qF gu=some o)(kF:qF qm=some bL)(L:f N l=some a)(O:f N aC=some b)(ar:f N j3=some d4)
  (am:env.scope.names=N) (hn:cp K.hb env) (E:aZ env ρ s.heap α) (r:ak K.hb s.heap σ α) :
  Runs K af A (eval (.Compare l [gu,qm] [aC,j3] pos) env) (ev C (.cmp2 a o b bL d4) ρ σ) s α/\Runs K hX A (isTrue (.Compare l [gu,qm] [aC,j3] pos) env (eval (.Compare l [gu,qm] [aC,j3] pos) env)) (tst C (.cmp2 a o b bL d4) ρ σ) s α:=by
 have rZ:gu=h3 o:=by cases gu <;> cases ho <;> rfl
 subst rZ
 have Pq:qm=h3 bL:=by cases qm <;> cases kF <;> rfl
 subst Pq;refine aP (S N aC b O) fun m6 dS=>?_;refine aP (S N j3 d4 ar) fun Pr px=>?_
 have rU:markedBehindIn (h3 bL) j3 (eval j3 env)=eval j3 env:=by unfold markedBehindIn;rw[IV Pr]
 constructor
 ·rw[arm_eval_Compare];refine Runs.bind ((S N l a L).2 env ρ σ s α am hn E r).1 fun av aa α₁ y s₁ V aM aN aR aV=>?_;show Runs K af A (do let fz <- holding [y] (eval aC env);standAt pos;let c <- holding [y,fz] (compareOp (h3 o) y fz);release [y,fz] [c];if <- holding [c,fz] (truthy c)then(do let sN <- holding [fz] (markedBehindIn (h3 bL) j3 (eval j3 env));standAt pos;operate [fz,sN] (compareOp (h3 bL) fz sN))else pure c) _ _ _;rw[rU];refine Runs.bind (Runs.holding (dS env ρ aa s₁ α₁ am hn (E.ext aM .nil) aN).1) fun bb ao cc hT aX aj bg r2 bu ck=>Runs.standAt ?_;refine Runs.bind (Runs.holding (pH c.hK c.hA r2 (aR.ext bg) bu)) fun h1 gJ qQ Bv eD bF fW fH ic iB=>Runs.release ?_;have:Bv=.bool h1:=ic;subst this;intro hc tk;refine aI (f6 (wpAny_truthy_bool ?_))
  cases h1 with
  | false=>exact bx ⟨_,_,_,rfl,.refl,fH,.bool _,.refl _⟩
  | true =>
   refine(Runs.bind (Runs.holding (px env ρ gJ eD qQ am hn (((E.ext aM .nil).ext bg .nil).ext fW .nil) fH).1) fun v7 wn pq WO lK kt ie o8 Bs ni=>Runs.standAt (Runs.operate ?_)) hc tk;exact(pH c.hK c.hA o8 ((bu.ext fW).ext ie) Bs).boolV
 ·rw[arm_isTrue_Compare];refine Runs.bind ((S N l a L).2 env ρ σ s α am hn E r).1 fun av aa α₁ y s₁ V aM aN aR aV=>?_;show Runs K hX A (do let fz <- holding [y] (eval aC env);standAt pos;let c <- holding [y,fz] (compareOp (h3 o) y fz);release [y,fz] [c];if <- holding [c,fz] (truthy c)then(do let sN <- holding [fz] (markedBehindIn (h3 bL) j3 (eval j3 env));standAt pos;let c <- operate [fz,sN] (compareOp (h3 bL) fz sN);holding [c] (truthy c))else pure false) _ _ _;rw[rU];refine Runs.bind (Runs.holding (dS env ρ aa s₁ α₁ am hn (E.ext aM .nil) aN).1) fun bb ao cc hT aX aj bg r2 bu ck=>Runs.standAt ?_;refine Runs.bind (Runs.holding (pH c.hK c.hA r2 (aR.ext bg) bu)) fun h1 gJ qQ Bv eD bF fW fH ic iB=>Runs.release ?_;have:Bv=.bool h1:=ic;subst this;intro hc tk;refine aI (f6 (wpAny_truthy_bool ?_))
  cases h1 with
  | false=>exact bx ⟨_,_,_,rfl,.refl,fH,rfl,.refl _⟩
  | true =>
   refine(Runs.bind (Runs.holding (px env ρ gJ eD qQ am hn (((E.ext aM .nil).ext bg .nil).ext fW .nil) fH).1) fun v7 wn pq WO lK kt ie o8 Bs ni=>Runs.standAt ?_) hc tk;intro hc tk;refine aI (wpAny_operating (cm (pH c.hK c.hA o8 ((bu.ext fW).ext ie) Bs hc tk) (fun y iG hp=>?_) fun e iG hx=>hx));obtain⟨h1,ht,jE,bF,fW,fH,ic,iB⟩:=hp;have:y=.bool h1:=ic;subst this;exact f6 (wpAny_truthy_bool ⟨h1,ht,jE,bF,fW,fH,rfl,iB⟩)
theorem Qb{e a b:Expr}{pos:Pos}{x y z:X}(c:Ctx K A T C)(S:b3 K A C f)(L:f N e=some x)(O:f N a=some y)(ar:f N b=some z)
  (am:env.scope.names=N) (hn:cp K.hb env) (E:aZ env ρ s.heap α) (r:ak K.hb s.heap σ α) :
  Runs K af A (eval (.IfExp e a b pos) env) (ev C (.ife x y z) ρ σ) s α/\Runs K hX A (isTrue (.IfExp e a b pos) env (eval (.IfExp e a b pos) env)) (tst C (.ife x y z) ρ σ) s α:=by
 constructor
 ·rw[arm_eval_IfExp];refine Runs.bind ((S N e x L).2 env ρ σ s α am hn E r).2 fun t aa α₁ a3 s₁ V aM aN aR aV=>?_;have:a3=t:=aR;subst this
  cases a3 with
  | true=>exact((S N a y O).2 env ρ aa s₁ α₁ am hn (E.ext aM .nil) aN).1
  | false=>exact((S N b z ar).2 env ρ aa s₁ α₁ am hn (E.ext aM .nil) aN).1
 ·rw[arm_isTrue_IfExp];refine Runs.bind ((S N e x L).2 env ρ σ s α am hn E r).2 fun t aa α₁ a3 s₁ V aM aN aR aV=>?_;have:a3=t:=aR;subst this
  cases a3 with
  | true=>exact((S N a y O).2 env ρ aa s₁ α₁ am hn (E.ext aM .nil) aN).2
  | false=>exact((S N b z ar).2 env ρ aa s₁ α₁ am hn (E.ext aM .nil) aN).2
theorem SV{e:Expr}{pos:Pos}{x:X}(S:b3 K A C f)(L:f N e=some x)
  (am:env.scope.names=N) (hn:cp K.hb env) (E:aZ env ρ s.heap α) (r:ak K.hb s.heap σ α) :
  Runs K af A (eval (.UnaryOp .Not e pos) env) (ev C (.not x) ρ σ) s α/\Runs K hX A (isTrue (.UnaryOp .Not e pos) env (eval (.UnaryOp .Not e pos) env)) (tst C (.not x) ρ σ) s α:=by
 have ax:=(S N e x L).2 env ρ σ s α am hn E r;constructor
 ·rw[arm_eval_UnaryOp];refine Runs.bind ax.1 fun v aa α₁ y s₁ V aM aN aR aV=>Runs.standAt (Runs.holding ?_);intro hc tk
  have ar:jc v aa≠.stuck:=by intro q;rw[q]at hc;exact hc rfl
  refine not_value (cm (v5 aN aR ar tk) (fun b iG hp=>?_) fun e iG hx=>hx.bind);obtain⟨h1,ht,jE,bF,fW,fH,ic,iB⟩:=hp;have:b=h1:=ic;subst this;exact⟨.bool (!b),ht,jE,by simp[ai.bind,bF],fW,fH,.bool _,iB⟩
 ·rw[arm_isTrue_UnaryOp];refine Runs.bind ax.2 fun b aa α₁ y s₁ V aM aN aR aV=>?_;have:y=b:=aR;subst this;exact Runs.pure aN rfl
theorem SG{e:Expr}{pos:Pos}{x:X}(S:b3 K A C f)(L:f N e=some x)
  (am:env.scope.names=N) (hn:cp K.hb env) (E:aZ env ρ s.heap α) (r:ak K.hb s.heap σ α) :
  Runs K af A (eval (.UnaryOp .USub e pos) env) (ev C (.neg x) ρ σ) s α:=by
 rw[arm_eval_UnaryOp];exact Runs.bind ((S N e x L).2 env ρ σ s α am hn E r).1 fun v aa α₁ y s₁ V aM aN aR aV=>Runs.standAt (Runs.holding (Iy aN aR))
theorem Rv{es:List Expr}{pos:Pos}{xs:X}{a6:Bool}(S:b3 K A C f)(h:ff (f N) es=some xs)
  (am:env.scope.names=N) (hn:cp K.hb env) (E:aZ env ρ s.heap α) (r:ak K.hb s.heap σ α) :
  Runs K af A (eval (.List es pos) env) (ev C (.lst a6 xs) ρ σ) s α:=by
 rw[arm_eval_List];exact Runs.standAt (Runs.bind (oq S h am hn E r) fun vs aa α₁ us s₁ V aM aN aR aV=>SJ aN aR)
theorem Wf{es:List Expr}{k:Nat}{pos:Pos}{xs:X}(S:b3 K A C f)(h:ff (f N) es=some xs)
  (am:env.scope.names=N) (hn:cp K.hb env) (E:aZ env ρ s.heap α) (r:ak K.hb s.heap σ α) :
  Runs K af A (eval (.Tuple es k pos) env) (ev C (.tup xs) ρ σ) s α:=by
 rw[arm_eval_Tuple];exact Runs.standAt (Runs.bind (oq S h am hn E r) fun vs aa α₁ us s₁ V aM aN aR aV=>SK aN aR)
theorem Vc{o i:Expr}{pos:Pos}{x y:X}(c:Ctx K A T C)(S:b3 K A C f)(rX:∀l u st p,i≠.Slice l u st p)(L:f N o=some x)(O:f N i=some y)
  (am:env.scope.names=N) (hn:cp K.hb env) (E:aZ env ρ s.heap α) (r:ak K.hb s.heap σ α) :
  Runs K af A (eval (.Subscript o i pos) env) (ev C (.sub x y) ρ σ) s α:=by
 rw[arm_eval_Subscript];refine Runs.bind ((S N o x L).2 env ρ σ s α am hn E r).1 fun av aa α₁ e2 s₁ V aM aN aR aV=>?_;refine Runs.bind (Runs.holding ((S N i y O).2 env ρ aa s₁ α₁ am hn (E.ext aM .nil) aN).1) fun bb ao cc hT aX aj bg r2 bu ck=>Runs.standAt ?_;exact Vh c.hA (fun l u p=>rX l u none p) r2 (aR.ext bg) bu
theorem tz{o:Expr}{m:Str}{s9:Sem Value}(h:nq o=true):attributeBase o m env s9=s9:=by
 cases o with
 | Call f a k p =>
  cases a with
  | nil=>contradiction
  | cons x r=>cases f <;> rfl
 | _=>rfl
theorem KS{r:Nat}{a:Addr}{v:H}{u:Value}{xs:List H}(mJ:ak K.hb s.heap σ α)(bB:α.ix[r]?=some a)(hs:σ[r]?=some (.lst xs))(hl:xs.length<aB)(dg:af s.heap α v u){X:Value->Shared->Prop} :
  wpAny (model K.prog K.w) A (call (.builtin "list.append") [.ref a,u]) (cf K af (.ok .none (σ.set r (.lst (xs++[v])))) s α) X s:=by
 refine cD (mJ.obj r _ a hs bB) fun items n V w=>?_;refine wpAny_list_append_plain ⟨n,V⟩ (fun h' l3 fI=>?_) (by simp;exact w.1▸(g6 (hH hl)));refine aJ l3 fun ef aA=>?_;obtain⟨aC,aH⟩:=mJ.set (m:=.lst (xs++[v])) bB (fun b o hb e=>(fI.2 b hb).trans e) aA fun aH=>⟨items++[u],ef,by rw[aA];simp,(w.snoc dg).ext aH⟩;exact⟨.none,_,α,rfl,aH,aC,.none,⟨rfl,rfl⟩⟩
end
end Mine
namespace Mine
open PySem PyProof.Rows
noncomputable def vx:hW->String
 | .get => "dict"
 | _ => "list"
noncomputable def vw:hW->String
 | .append => "list.append" | .extend => "list.extend"
 | .pop => "list.pop"
 | .get => "dict.get"
noncomputable def z0:hW->Str
 | .append => "append" | .extend => "extend"
 | .pop => "pop"
 | .get => "get"
theorem RZ{x:Str}{m:hW}(h:z1 x=some m):x=z0 m:=
 (show ∀p∈H4,p.1=z0 p.2 from(by repeat (first | refine List.forall_mem_cons.mpr ⟨rfl,?_⟩ | exact fun J h=>nomatch h))) _ (ng h)
theorem U7{c:Nat}{x:Str}(h:PyData.strOk x=true){a:Str}(ha:∀d∈a.cps.toList,d∈x.cps.toList):PyData.strOk a=true:=by
 unfold PyData.strOk at h ⊢;simp only[Array.all_eq_true']at h ⊢;intro d hd;exact h d (by simpa using ha d (by simpa using hd))
section
variable {K:aQ}{A:Around}{s:Shared}{α:au}{σ:ac}
theorem a7.eraseIdx{h:Heap}:∀{xs:List H} {vs:List Value} (k:Nat),a7 h α xs vs->a7 h α (xs.eraseIdx k) (vs.eraseIdx k)
 | [],vs,k,v=>by
  have:vs=[]:=hY v.1.symm;subst this;simpa using v
 | x::xs,vs,0,v=>by
  refine cD v.inv_cons fun u us ae bd=>?_;obtain rfl:=ae;refine aP bd fun aR bu=>?_;exact bu
 | x::xs,vs,k+1,v=>by
  refine cD v.inv_cons fun u us ae bd=>?_;obtain rfl:=ae;refine aP bd fun aR bu=>?_;exact .cons aR (bu.eraseIdx k)
theorem Bq{h:Heap}{a:Addr}{items:Array Value}{n:Nat}{g:Array Value->Array Value}(e:h.get? a=some { cls:=.type "list",data:=.seq items n }) :
  ∃ef,(h.update a (Obj.mapSeq g)).get? a=some { cls:=.type "list",data:=.seq (g items) ef }:=by
 exact⟨_,Heap.get?_update_self (Obj.mapSeq g) e rfl⟩
theorem Br{h:Heap}{a b:Addr}{g:Obj->Obj}(hb:b≠a):(h.update a g).get? b=h.get? b:=Heap.get?_update_ne h b a g hb
theorem TA{r:Nat}{a:Addr}{i:Int}{t:Tok}{v:H}{xs:List H}(mJ:ak K.hb s.heap σ α)(bB:α.ix[r]?=some a)(hs:σ[r]?=some (.lst xs))(h0:0<=i)(hl:xs.length<=aB)(hv:xs[i.toNat]?=some v){X:Value->Shared->Prop} :
  wpAny (model K.prog K.w) A (call (.builtin "list.pop") [.ref a,.int i t]) (cf K af (.ok v (σ.set r (.lst (xs.eraseIdx i.toNat)))) s α) X s:=by
 refine cD (mJ.obj r _ a hs bB) fun items n V w=>?_;refine aw (w.get hv) fun u hu dg=>?_;have hi:=(dU hv).1;have XA:=oZ hl;have cZ:=w.1;refine call_meets F.slot_list_pop ⟨_,V,rfl⟩ F.entry_list_pop (F.args_list_pop_2 _ _) (MeetsSeq.list_pop_at a items.toArray n i t i.toNat u ?_ ?_ (by simpa using hu) (e5.symm▸w.1▸(g6 hl))) ⟨V,?_⟩
 ·unfold Builtin.List.listFitsIndex;simp;(grind)
 ·rw[<- AP];unfold fJ;rw[az h0,az (by simp;(grind))]
 ·refine aJ (Bq (g:=fun xs=>xs.eraseIdxIfInBounds i.toNat) V) fun ef aA=>?_
  have aj:(items.toArray.eraseIdxIfInBounds i.toNat)=(items.eraseIdx i.toNat).toArray:=by
   simp
  rw[aj]at aA;refine aP (mJ.set (m:=.lst (xs.eraseIdx i.toNat)) bB (fun b o hb e=>(Br hb).trans e) aA fun aH=>⟨_,ef,aA,(w.eraseIdx _).ext aH⟩) fun aC aH=>?_;exact⟨v,_,α,rfl,aH,aC,dg.ext aH,⟨rfl,rfl⟩⟩
theorem C8{r:Nat}{a b:Addr}{xs ys:List H}{vs:List Value}{m:Nat}{T:String}(dD:T = "tuple" \/ T = "list")(mJ:ak K.hb s.heap σ α)(bB:α.ix[r]?=some a)(hs:σ[r]?=some (.lst xs))(hl:xs.length+ys.length<=aB)
  (aj:s.heap.get? b=some { cls:=.type T,data:=.seq vs.toArray m }) (nH:a7 s.heap α ys vs) {X:Value->Shared->Prop} :
  wpAny (model K.prog K.w) A (call (.builtin "list.extend") [.ref a,.ref b]) (cf K af (.ok .none (σ.set r (.lst (xs++ys)))) s α) X s:=by
 refine cD (mJ.obj r _ a hs bB) fun items n V w=>?_;have cZ:=w.1;have O9:=nH.1;have Pa:=g6 hl;have l4:=oZ hl
 have CD:¬(!items.toArray.isEmpty&&Builtin.List.listTooLong (items.toArray.size+vs.toArray.size))=true:=by
  rw[e5,e5,<- cZ,<- O9]
  have:Builtin.List.listTooLong (xs.length+ys.length)=false:=by unfold Builtin.List.listTooLong;simpa using Pa
  rw[this];simp
 have cs:cf K af (.ok .none (σ.set r (.lst (xs++ys)))) s α .none { s with heap:=s.heap.update a (Obj.mapSeq fun x=>x++vs.toArray) }:=by
  refine aJ (Bq (g:=fun x=>x++vs.toArray) V) fun ef aA=>?_
  have bF:items.toArray++vs.toArray=(items++vs).toArray:=by simp
  simp only[bF]at aA;refine aP (mJ.set (m:=.lst (xs++ys)) bB (fun b o hb e=>(Br hb).trans e) aA fun aH=>⟨_,ef,aA,(w.append nH).ext aH⟩) fun aC aH=>?_;exact⟨.none,_,α,rfl,aH,aC,.none,⟨rfl,rfl⟩⟩
 rcases dD with rfl | rfl
 ·exact call_meets F.slot_list_extend ⟨_,V,rfl⟩ F.entry_list_extend (F.args_list_extend_2 _ _) (AutoSeq1.list_extend_list_tuple_0 a items.toArray n b vs.toArray m CD (by rw[e5];(grind)) (by rw[e5,e5];(grind))) ⟨V,aj,cs⟩
 ·exact call_meets F.slot_list_extend ⟨_,V,rfl⟩ F.entry_list_extend (F.args_list_extend_2 _ _) (AutoSeq1.list_extend_list_list_0 a items.toArray n b vs.toArray m CD (by rw[e5];(grind)) (by rw[e5,e5];(grind))) ⟨V,aj,cs⟩
section
variable {σ:ac}{v:H}{P:H->ai H->Prop}
theorem KR(h0:∀o,P o .stuck)(L:∀r xs,σ[r]?=some (.lst xs)->xs.length<aB->P (.ref r) (.ok .none (σ.set r (.lst (xs++[v]))))):∀o,P o (ko o v σ):=by
 intro o
 cases o with
 | ref r =>
  unfold ko;dsimp only
  cases hs:σ[r]? with
  | none=>exact h0 _
  | some m =>
   cases m with
   | lst xs =>
    dsimp only;by_cases hl:xs.length<aB
    ·rw[az hl];exact L r xs hs hl
    ·rw[aY hl];exact h0 _
   | _=>exact h0 _
 | _=>exact h0 _
theorem M1{Q:H->H->ai H->Prop}(h0:∀o v,Q o v .stuck)(L:∀r xs ys,σ[r]?=some (.lst xs)->xs.length+ys.length<=aB->Q (.ref r) (.tup ys) (.ok .none (σ.set r (.lst (xs++ys)))))(O:∀r xs ys,σ[r]?=some (.lst xs)->xs.length+ys.length<=aB->Q (.ref r) (.fl ys) (.ok .none (σ.set r (.lst (xs++ys))))):∀o v,Q o v (kz o v σ):=by
 intro o v
 cases o with
 | ref r =>
  unfold kz;dsimp only
  cases hs:σ[r]? with
  | none=>exact h0 _ _
  | some m =>
   cases m with
   | lst xs =>
    cases v with
    | tup ys =>
     dsimp only;by_cases hl:xs.length+ys.length<=aB
     ·rw[az hl];exact L r xs ys hs hl
     ·rw[aY hl];exact h0 _ _
    | fl ys =>
     dsimp only;by_cases hl:xs.length+ys.length<=aB
     ·rw[az hl];exact O r xs ys hs hl
     ·rw[aY hl];exact h0 _ _
    | _=>exact h0 _ _
   | _=>exact h0 _ _
 | _=>exact h0 _ _
theorem Tx{Q:H->H->ai H->Prop}(h0:∀o v,Q o v .stuck)(L:∀r xs i w,σ[r]?=some (.lst xs)->0<=i->xs.length<=aB->xs[i.toNat]?=some w->Q (.ref r) (.int i) (.ok w (σ.set r (.lst (xs.eraseIdx i.toNat))))):∀o v,Q o v (o5 o v σ):=by
 intro o v
 cases o with
 | ref r =>
  unfold o5;dsimp only
  cases hs:σ[r]? with
  | none=>exact h0 _ _
  | some m =>
   cases m with
   | lst xs =>
    cases v with
    | int i =>
     dsimp only;by_cases hl:0<=i/\xs.length<=aB
     ·rw[az hl]
      cases hw:xs[i.toNat]? with
      | none=>exact h0 _ _
      | some w=>exact L r xs i w hs hl.1 hl.2 hw
     ·rw[aY hl];exact h0 _ _
    | _=>exact h0 _ _
   | _=>exact h0 _ _
 | _=>exact h0 _ _
theorem NH{Q:H->H->ai H->Prop}(h0:∀o v,Q o v .stuck)(L:∀r es k,σ[r]?=some (.ds es)->Q (.ref r) (.str k) (.ok ((aG k es).getD .none) σ))(O:∀r es v k,σ[r]?=some (.dp es)->g5 v=some k->Q (.ref r) v (.ok ((aG k es).getD .none) σ)):∀o v,Q o v (rD o v σ):=by
 intro o v
 cases o with
 | ref r =>
  unfold rD;dsimp only
  cases hs:σ[r]? with
  | none=>exact h0 _ _
  | some m =>
   cases m with
   | ds es =>
    cases v with
    | str k=>exact L r es k hs
    | _=>exact h0 _ _
   | dp es =>
    dsimp only
    cases hk:g5 v with
    | none=>exact h0 _ _
    | some k=>exact O r es v k hs hk
   | _=>exact h0 _ _
 | _=>exact h0 _ _
end
theorem R7{m:hW}{o v:H}{x u:Value}(hK:K.Ok)(hA:d9 A)(r:ak K.hb s.heap σ α)(av:af s.heap α o x)(cI:af s.heap α v u):Runs K af A (call (.builtin (vw m)) [x,u]) (iC m o [v] σ) s α:=by
 cases m with
 | append =>
  exact KR (P:=fun o c=>af s.heap α o x->Runs K af A (call (.builtin "list.append") [x,u]) c s α) (fun J J hc=>absurd rfl hc) (fun q xs hs hl av J J=>by
   refine aw av.refE fun a ae bB=>?_;obtain rfl:=ae;exact KS r bB hs hl cI) o av
 | extend =>
  exact M1 (Q:=fun o v c=>af s.heap α o x->af s.heap α v u->Runs K af A (call (.builtin "list.extend") [x,u]) c s α) (fun J J J J hc=>absurd rfl hc)
   (fun q xs ys hs hl av cI J J=>by
    refine aw av.refE fun a ae bB=>?_;obtain rfl:=ae;obtain⟨b,vs,n,rfl,V,_,w⟩:=cI.tupE
    exact C8 (.inl rfl) r bB hs hl V w)
   (fun q xs ys hs hl av cI J J=>by
    refine aw av.refE fun a ae bB=>?_;obtain rfl:=ae;obtain⟨b,vs,n,rfl,V,_,w⟩:=cI.flE
    exact C8 (.inr rfl) r bB hs hl V w) o v av cI
 | pop =>
  exact Tx (Q:=fun o v c=>af s.heap α o x->af s.heap α v u->Runs K af A (call (.builtin "list.pop") [x,u]) c s α) (fun J J J J hc=>absurd rfl hc) (fun q xs i w hs h0 hl hw av cI J J=>by
   refine aw av.refE fun a ae bB=>?_;obtain rfl:=ae;refine aJ cI.intE fun J ae=>?_;obtain rfl:=ae
   exact TA r bB hs h0 hl hw) o v av cI
 | get =>
  exact NH (Q:=fun o v c=>af s.heap α o x->af s.heap α v u->Runs K af A (call (.builtin "dict.get") [x,u]) c s α) (fun J J J J hc=>absurd rfl hc)
   (fun q es k hs av cI J J=>by
    refine aw av.refE fun a ae bB=>?_;obtain rfl:=ae
    refine aw cI.strE fun J ae J=>?_;obtain rfl:=ae;exact NG hK r hs bB)
   (fun q es w k hs hk av cI J J=>by
    refine aw av.refE fun a ae bB=>?_;obtain rfl:=ae
    exact NF hK hA r hs bB hk cI) o v av cI
theorem R0(m:hW):PlainAttrs (vx m)/\Slot (vx m) (z0 m) (vw m)/\typeOf (.builtin (vw m))=pure (.type "method_descriptor"):=by
 cases m
 ·exact⟨F.plainAttrs_list,F.slot_list_append,F.type_list_append⟩
 ·exact⟨F.plainAttrs_list,F.slot_list_extend,F.type_list_extend⟩
 ·exact⟨F.plainAttrs_list,F.slot_list_pop,F.type_list_pop⟩
 ·exact⟨F.plainAttrs_dict,F.slot_dict_get,F.type_dict_get⟩
set_option tactic.hygienic true in
theorem H3{m:hW}{o:H}{x:Value}(r:ak K.hb s.heap σ α)(av:af s.heap α o x)(h:o2 m o σ=true):s.TypeIs x (vx m)/\∀a,x=.ref a->∃ob,s.heap.get? a=some ob/\ob.dict=none:=by
 have lst:∀xs,cO σ o=some xs->s.TypeIs x "list" /\ ∀a,x=.ref a->∃ob,s.heap.get? a=some ob/\ob.dict=none:=fun xs e=>by
  obtain⟨l,vs,n,rfl,V,_⟩:=k9 r av e;exact⟨⟨_,V,rfl⟩,fun a ha=>by cases ha;exact⟨_,V,rfl⟩⟩
 have z6:g4 o σ=true->∃xs,cO σ o=some xs:=fun h=>by
  unfold g4 at h
  split at h
  ·split at h
   ·rename_i xs hs;exact⟨xs,by simp[cO,hs]⟩
   ·contradiction
  ·contradiction
 have Yg:Qt o=true->s.TypeIs x "str" /\ ∀a,x=.ref a->∃ob,s.heap.get? a=some ob/\ob.dict=none:=fun h=>by
  cases o with
  | str z=>refine aw av.strE fun J ae J=>?_;obtain rfl:=ae;exact⟨typeIs_str _ _ _,fun a ha=>by cases ha⟩
  | _=>contradiction
 cases m with
 | append=>refine aJ (z6 h) fun xs e=>?_;exact lst xs e
 | extend=>refine aJ (z6 h) fun xs e=>?_;exact lst xs e
 | pop=>refine aJ (z6 h) fun xs e=>?_;exact lst xs e
 | get =>
  change sj o σ=true at h;unfold sj at h
  split at h
  ·refine aw av.refE fun a ae bB=>?_;obtain rfl:=ae
   split at h
   ·rename_i hs;refine aw (pK r hs bB) fun eL L J=>?_;exact⟨L.typeIs,L.mapOf.noDict⟩
   ·rename_i hs;refine aw (pJ r hs bB) fun xs L J=>?_;exact⟨L.typeIs,dictOfH_noDict L⟩
   ·contradiction
  ·contradiction
end
section
variable {K:aQ}{A:Around}{T:ba}{C:bh}{f:List (Str×NameKind)->Expr->Option X}{N:List (Str×NameKind)}{env:Env}{ρ:aE}{σ:ac}{s:Shared}{α:au}
set_option tactic.hygienic true in
theorem RY{m:hW}{mn:Str}{o a:Expr}{apos pos:Pos}{x y:X}(c:Ctx K A T C)(S:b3 K A C f)(hm:z1 mn=some m)(kE:(apos.endLine == pos.line)=true)(l5:nq o=true)(L:f N o=some x)(O:f N a=some y)
  (am:env.scope.names=N) (hn:cp K.hb env) (E:aZ env ρ s.heap α) (r:ak K.hb s.heap σ α) :
  Runs K af A (eval (.Call (.Attribute o mn apos) [a] [] pos) env) (ev C (.me m x #v[y]) ρ σ) s α:=by
 rw[RZ hm,C0];intro hc tk;refine aP (S N a y O) fun hp dS=>?_;refine Call_method1 (tz l5) (h9 hp) kE ?_;refine Runs.use ((S N o x L).2 env ρ σ s α am hn E r).1 hc tk fun av aa α₁ e2 s₁ V bG aM aN aR aV et=>?_;rw[V]
 split at bG
 ·rename_i cL;refine dI (R0 m) fun q1 q2 q3=>?_;refine aP (H3 aN aR cL) fun q4 q5=>?_;refine⟨vx m,vw m,q1,q2,q3,q4,q5,?_⟩;refine Calls.callWith_builtin (by cases m <;> rfl) (Calls.evalArgs_plain (Calls.spliced_cons ?_))
  have CM:∀{σ:ac},((evs C #v[y] ρ σ).bind fun vs σ=>iC m av vs σ)=(ev C y ρ σ).bind fun v σ=>iC m av [v] σ:=fun{σ}=>by
   show((ev C y ρ σ).bind fun v σ=>.ok [v] σ).bind _=_;cases ev C y ρ σ <;> rfl
  rw[Ci,az cL,CM];rw[CM]at bG;refine Runs.useL aM aV (f:=fun v σ=>iC m av [v] σ) (dS env ρ aa s₁ α₁ am hn (E.ext aM .nil) aN).1 bG et fun pv ao cc u aX aj dO bg r2 bu ck jA=>Calls.spliced_nil ?_;show wpAny _ _ _ (cf K af ((ev C y ρ aa).bind fun v σ=>iC m av [v] σ) _ _) (cW K A ((ev C y ρ aa).bind fun v σ=>iC m av [v] σ) _ _) _;exact aj.symm▸((R7 c.hK c.hA r2 (aR.ext bg) bu).endL (aM.trans bg) (aV.trans ck) dO jA)
 ·exact absurd rfl bG
end
end Mine
namespace Mine
open PySem PyProof.Rows
theorem a7.drop{h:Heap}{α:au}:∀{xs:List H} {vs:List Value} (k:Nat),a7 h α xs vs->a7 h α (xs.drop k) (vs.drop k)
 | _,_,0,v=>v
 | [],vs,k+1,v=>by
  have:vs=[]:=hY v.1.symm;subst this;exact .nil
 | x::xs,vs,k+1,v=>by
  refine cD v.inv_cons fun u us ae bd=>?_;obtain rfl:=ae;refine aP bd fun aR bu=>?_;exact bu.drop k
theorem a7.take{h:Heap}{α:au}:∀{xs:List H} {vs:List Value} (k:Nat),a7 h α xs vs->a7 h α (xs.take k) (vs.take k)
 | _,_,0,v=>.nil
 | [],vs,k+1,v=>by
  have:vs=[]:=hY v.1.symm;subst this;exact .nil
 | x::xs,vs,k+1,v=>by
  refine cD v.inv_cons fun u us ae bd=>?_;obtain rfl:=ae;refine aP bd fun aR bu=>?_;exact .cons aR (bu.take k)
section
variable {K:aQ}{A:Around}{s:Shared}{α:au}{σ:ac}
theorem IN{p:H}{v:Value}{k:Option Int}(h:mm p=some k)(r:af s.heap α p v):IsPart v k:=by
 cases p with
 | none=>obtain rfl:=oi h;obtain rfl:=r.noneE;exact .none
 | int i=>obtain rfl:=oi h;refine aJ r.intE fun J ae=>?_;obtain rfl:=ae;exact .int _ _
 | _=>contradiction
theorem a7.slice{h:Heap}{xs:List H}{vs:List Value}(v:a7 h α xs vs)(lo hi:Option Int):a7 h α (dE xs lo hi) (dE vs lo hi):=by
 unfold dE;exact v.1▸((v.drop _).take _)
theorem Tp{vs:List Value}{lo hi:Option Int}:slicePick vs.toArray lo hi none=(dE vs lo hi).toArray:=by
 rw[slicePick_plain];simp[dE]
theorem Jc{v:Value}{k:Option Int}{Q:Option Int->Shared->Prop}{E:Value->Shared->Prop}(p:IsPart v k)(h:Q k s):wpAny (model K.prog K.w) A (Builtin.Slice.slicePartIndex v) Q E s:=by
 cases p with
 | none=>exact slicePart_none h
 | int i t=>exact slicePart_int h
noncomputable def e0(lo:Option Int)(n:Nat):Nat:=lo.elim 0 (clipAt n)
noncomputable def iw(hi:Option Int)(n:Nat):Nat:=hi.elim n (clipAt n)
theorem LV{n:Nat}{i:Int}:clipAt n i<=n:=Int.toNat_le.mpr (Int.max_le.mpr ⟨fm n,Int.min_le_right _ _⟩)
theorem LU(n:Nat)(i:Int):(if i<0 then max (i+n) 0 else min i n)=((clipAt n i:Nat):Int):=by
 rw[clipAt_cast];by_cases h:i<0
 ·rw[az h,az h];(grind)
 ·rw[aY h,aY h];(grind)
theorem KA(lo hi:Option Int)(n:Nat):Builtin.Slice.sliceAdjust lo hi 1 (n:Int)=(((e0 lo n:Nat):Int),((iw hi n:Nat):Int)):=by
 unfold Builtin.Slice.sliceAdjust e0 iw
 have L:¬((1:Int)<0):=by decide
 simp only[L,if_false];cases lo <;> cases hi <;> simp only[Option.elim,LU] <;> rfl
theorem Tr(a b:Nat):Builtin.Slice.slicePlaces (a:Int) (b:Int) 1=b-a:=by
 unfold Builtin.Slice.slicePlaces
 have L:(1:Int) > 0:=by decide
 simp only[L,if_true,Int.ediv_one]
 split <;> (grind)
theorem UA{cq:Addr}{n:Nat}{vl dg:Value}{lo hi:Option Int}{Q:Int×Int×Nat->Shared->Prop}{E:Value->Shared->Prop}(hs:s.heap.IsSliceOf cq vl dg .none)(pl:IsPart vl lo)(Ax:IsPart dg hi)
  (h:Q (((e0 lo n:Nat):Int),1,iw hi n-e0 lo n) s):wpAny (model K.prog K.w) A (Builtin.Slice.sliceApplied (.ref cq) (pure (n:Int))) Q E s:=by
 refine bC (id hs) fun os r0 rN uT=>?_;unfold Builtin.Slice.sliceApplied Builtin.Slice.sliceFields;refine aI (aI (gA r0 uT (x:=vl) rfl (aI (gA r0 uT (x:=dg) rfl (aI (gA r0 uT (x:=.none) rfl (bx ?_)))))));refine aI (slicePart_none ?_);show wpAny _ _ (if((1:Int) == 0)=true then _ else _) _ _ s;rw[aY (by decide)];refine aI (Jc pl (aI (Jc Ax (aI (bx ?_)))));show wpAny _ _ (match Builtin.Slice.sliceAdjust lo hi 1 (n:Int)with | (lo,hi)=>pure (lo,(1:Int),Builtin.Slice.slicePlaces lo hi 1)) _ _ s;rw[KA];show wpAny _ _ (pure (((e0 lo n:Nat):Int),(1:Int),Builtin.Slice.slicePlaces ((e0 lo n:Nat):Int) ((iw hi n:Nat):Int) 1)) _ _ s;rw[Tr];exact bx h
theorem To(xs:List Value)(a k:Nat):((List.range k).filterMap fun(j:Nat)=>xs.toArray[((a:Int)+(j:Int)*1).toNat]?).toArray=((xs.drop a).take k).toArray:=by
 have e:(fun(j:Nat)=>xs.toArray[((a:Int)+(j:Int)*1).toNat]?)=fun j=>xs.toArray[a+j]?:=by
  funext j
  have:((a:Int)+(j:Int)*1).toNat=a+j:=((Nat.add_assoc _ _ _).symm);rw[this]
 rw[e];have:=pick_run xs.toArray a k;rw[List.filterMap_map]at this;have aj:((fun x=>xs.toArray[x]?)∘fun x=>a+x)=fun j=>xs.toArray[a+j]?:=rfl;rw[aj]at this;rw[this]
theorem Jf{β:Type}(xs:List β)(lo hi:Option Int):(dE xs lo hi).length<=xs.length:=by
 unfold dE;exact aF (List.length_take_le' _ _) (by rw[List.length_drop];exact Nat.sub_le _ _)
theorem Wh{t cq:Addr}{vs:List Value}{n:Nat}{vl dg:Value}{lo hi:Option Int}{Q:Value->Shared->Prop}{E:Value->Shared->Prop}(a1:s.heap.get? t=some { cls:=.type "tuple",data:=.seq vs.toArray n })
  (hs:s.heap.IsSliceOf cq vl dg .none) (pl:IsPart vl lo) (Ax:IsPart dg hi) (hsz:vs.length<=sizeLine)
  (L:dE vs lo hi=vs->Q (.ref t) s) (O:Q (.ref s.heap.objs.size) { s with heap:=s.heap.push { cls:=.type "tuple",data:=.seq (dE vs lo hi).toArray } }) :
  wpAny (model K.prog K.w) A (getItem (.ref t) (.ref cq)) Q E s:=by
 have r5:=vg a1;refine bC (id hs) fun os r0 rN uT=>?_;have yZ:s.TypeIs (.ref cq) "slice" := ⟨os,r0,rN⟩
 have cL:sizeOk (.seq (dE vs lo hi).toArray):=by
  show(dE vs lo hi).toArray.size<=sizeLine;rw[e5];exact aF (Jf vs lo hi) hsz
 unfold getItem
 try with_reducible refine f6 ?_
 first | refine aI (bx ?_) | skip
 refine aI (wpAny_sequenceKey r5.typeIs (by decide) ?_)
 refine aI (wpAny_callSpecial?_slot (name:=Str.ofString "__getitem__") r5.typeIs slot_tuple_getitem
  (wpAny_call_entry slot_tuple_getitem r5.typeIs entry_tuple_getitem ?_ (args_tuple_getitem _ _)))
 show wpAny _ _ (Builtin.Tuple.tupleItemsOf (.ref t) >>= _) _ _ s;refine aI (tupleItemsOf_ r5 ?_);refine aI (wpAny_typeOf yZ ?_);rw[az (by decide)];refine aI (UA (n:=vs.toArray.size) hs pl Ax ?_);rw[e5]
 have cs:∀(B:Around),wpAny (model K.prog K.w) B (Builtin.Tuple.tupleExact ((List.range (iw hi vs.length-e0 lo vs.length)).filterMap fun(k:Nat)=>vs.toArray[(((e0 lo vs.length:Nat):Int)+(k:Int)*1).toNat]?).toArray) (fun v s'=>v=.ref s.heap.objs.size/\s'={ s with heap:=s.heap.push { cls:=.type "tuple",data:=.seq (dE vs lo hi).toArray } }) (fun J J=>False) s:=fun B=>by
  rw[To];exact wpAny_newObj_type ⟨rfl,rfl⟩ cL
 show wpAny _ _ (if(((e0 lo vs.length:Nat):Int) == 0&&(1:Int) == 1&&(iw hi vs.length-e0 lo vs.length) == vs.length)=true then _ else _) _ _ s;by_cases hc:(((e0 lo vs.length:Nat):Int) == 0&&(1:Int) == 1&&(iw hi vs.length-e0 lo vs.length) == vs.length)=true
 ·rw[az hc];simp only[el,e7]at hc
  have hw:dE vs lo hi=vs:=by
   have ei:e0 lo vs.length=0:=by have:=hc.1.1;(grind)
   have e3:iw hi vs.length=vs.length:=by have:=hc.2;rw[ei]at this;(assumption)
   show(vs.drop (e0 lo vs.length)).take (iw hi vs.length-e0 lo vs.length)=vs;rw[ei,e3];simp
  unfold Builtin.Tuple.tupleIsExact;refine aI (aI (wpAny_typeOf r5.typeIs (bx ?_)));rw[az (by decide)]
  first
   | exact aI (wpAny_rule (bx ⟨_,rfl,bx (L hw)⟩))
   | exact aI (aI (wpAny_rule (bx (bx ⟨_,rfl,bx (L hw)⟩))))
   | exact aI (wpAny_rule (aI (bx (bx ⟨_,rfl,bx (L hw)⟩))))
 ·rw[aY hc]
  first
   | exact aI (cm (cs _) (fun v s' e=>by obtain⟨rfl,rfl⟩:=e;exact bx ⟨_,rfl,bx O⟩) fun J J e=>e.elim)
   | exact aI (cm (cs _) (fun v s' e=>by obtain⟨rfl,rfl⟩:=e;exact aI (bx (bx ⟨_,rfl,bx O⟩))) fun J J e=>e.elim)
   | exact aI (aI (cm (cs _) (fun v s' e=>by obtain⟨rfl,rfl⟩:=e;exact bx (bx ⟨_,rfl,bx O⟩)) fun J J e=>e.elim))
theorem U8(x:Str)(lo hi:Option Int):Builtin.Str.strSliceIndices lo hi 1 x.length=(List.range (iw hi x.length-e0 lo x.length)).map (e0 lo x.length+·):=by
 rw[<- sliceRange_one];unfold Builtin.Str.strSliceIndices e0 iw
 have L:(1:Int) > 0:=by decide
 simp only[L,if_true];cases lo <;> cases hi <;> simp only[Option.elim,clipAt_cast] <;> rfl
set_option tactic.hygienic true in
theorem UC{x:Str}{t:Tok}{l u:Option (Int×Tok)}{Q:Value->Shared->Prop}(hx:x.length<=aB)(a2:∀bX k,Q (.str (lI x (l.map (·.1)) (u.map (·.1))) bX) { s with toks:=k }):(sliceMade x t l u none).post Q s:=by
 have V:slicePicked x l u none=(List.range (iw (u.map (·.1)) x.length-e0 (l.map (·.1)) x.length)).map (e0 (l.map (·.1)) x.length+·):=U8 x _ _
 have aj:(slicePicked x l u none).filterMap (x.cps[·]?)=dE x.cps.toList (l.map (·.1)) (u.map (·.1)):=by
  rw[V,pick_run];show(x.cps.toList.drop (e0 _ x.length)).take _=(x.cps.toList.drop (e0 _ x.cps.toList.length)).take _;rw[show x.cps.toList.length=x.length from by simp[Str.length]];rfl
 unfold sliceMade;refine post_val_or_str ?_
 have bF:(if((Option.map (fun(q:Int×Tok)=>q.1) none).getD 1 == 1&&(slicePicked x l u none).length == x.length)=true then x else⟨((slicePicked x l u none).filterMap (x.cps[·]?)).toArray⟩)=lI x (l.map (·.1)) (u.map (·.1)):=by
  split
  ·rename_i hc;simp only[el,e7]at hc;have hl:=hc.2;rw[V,bc,List.length_range]at hl
   have bA:dE x.cps.toList (l.map (·.1)) (u.map (·.1))=x.cps.toList:=by
    have hn:x.cps.toList.length=x.length:=by simp[Str.length]
    have GL:iw (u.map (·.1)) x.length<=x.length:=by
     unfold iw
     cases u with
     | none=>exact c9 _
     | some q=>exact LV
    show(x.cps.toList.drop (e0 _ x.cps.toList.length)).take (iw _ x.cps.toList.length-e0 _ x.cps.toList.length)=_;rw[hn,hl];by_cases h0:x.length=0
    ·have:x.cps.toList=[]:=hY (hn.trans h0);rw[this];simp
    ·have z:e0 (l.map (·.1)) x.length=0:=by
      have ar:=hH (Nat.lt_of_sub_ne_zero (hl▸h0));rw[(Nat.sub_eq_iff_eq_add ar).mp hl]at GL;exact Nat.le_zero.mp (Nat.le_of_add_le_add_left GL)
     rw[z,List.drop_zero,<- hn,List.take_length]
   unfold lI;rw[bA]
  ·unfold lI;rw[aj]
 rw[bF];refine⟨?_,a2⟩;show(dE x.cps.toList _ _).toArray.size<=sizeLine;exact e5.symm▸(aF (Jf _ _ _) (g6 (by simpa[Str.length]using hx)))
theorem U6{x:Str}{lo hi:Option Int}(h:PyData.strOk x=true):PyData.strOk (lI x lo hi)=true:=by
 refine U7 (c:=0) h fun d hd=>?_
 have:d∈dE x.cps.toList lo hi:=by simpa[lI]using hd
 unfold dE at this;exact List.mem_of_mem_drop (List.mem_of_mem_take this)
theorem IQ{v:Value}{k:Option Int}(p:IsPart v k):∃q:Option (Int×Tok),v=partValue q/\q.map (·.1)=k:=by
 cases p with
 | none=>exact⟨none,rfl,rfl⟩
 | int i t=>exact⟨some (i,t),rfl,rfl⟩
noncomputable def iK(s:Shared)(y z:Value):Shared:={ s with heap:=s.heap.push { cls:=.type "slice",data:=.fields #[y,z,.none] } }
section
variable {a v:H}{lo hi:Option Int}{x y z:Value}{value:Expr}{l u:Option Expr}{p:Pos}{E:Value->Shared->Prop}
theorem wb{b:Addr}{o:Obj}(e:s.heap.get? b=some o):(iK s y z).heap.get? b=some o:=cP _ e
theorem Uv{xs:List H}(r:ak K.hb s.heap σ α)(av:af s.heap α a x)(mq:IsPart y lo)(ms:IsPart z hi)(e:cO σ a=some xs)(hl:xs.length<=aB) :
  wpAny (model K.prog K.w) A (subscriptTail value (.Slice l u none p) x (.ref s.heap.objs.size)) (cf K af (.ok (.fl (dE xs lo hi)) σ) (iK s y z) α) E (iK s y z):=by
 obtain⟨ad,vs,n,rfl,V,w⟩:=k9 r av e;have k:∀b o,s.heap.get? b=some o->(iK s y z).heap.get? b=some o:=fun J J=>wb;have eK:(iK s y z).heap.IsList ad vs.toArray:=⟨_,k _ _ V,rfl,n,rfl⟩;refine tail_any eK.typeIs slot_list_getitem.lookup (wpAny_getItem_list_slice eK (Heap.IsSliceOf.new ..) mq ms .none (by trivial) ?_ (e5.symm▸w.1▸(g6 hl))) rfl;exact Tp.symm▸(cf.fl (r.keeps k) ((w.ext (.keeps (F:=[]) k)).slice lo hi))
theorem Ux{xs:List H}(r:ak K.hb s.heap σ α)(av:af s.heap α (.tup xs) x)(mq:IsPart y lo)(ms:IsPart z hi)(hl:xs.length<=aB) :
  wpAny (model K.prog K.w) A (subscriptTail value (.Slice l u none p) x (.ref s.heap.objs.size)) (cf K af (.ok (.tup (dE xs lo hi)) σ) (iK s y z) α) E (iK s y z):=by
 obtain⟨t,vs,n,rfl,V,hn,w⟩:=av.tupE;have k:∀b o,s.heap.get? b=some o->(iK s y z).heap.get? b=some o:=fun J J=>wb;have xb:=k _ _ V;have b2:=w.ext (.keeps (F:=[]) k);refine tail_any ⟨_,xb,rfl⟩ slot_tuple_getitem.lookup (Wh xb (Heap.IsSliceOf.new ..) mq ms (w.1▸(g6 hl)) (fun hw=>?_) ?_) rfl
 ·refine⟨_,σ,α,rfl,.refl,r.keeps k,?_,.refl _⟩;have PX:dE xs lo hi=xs:=((List.take_sublist _ _).trans (List.drop_sublist _ _)).eq_of_length (((b2.slice lo hi).1.trans (congrArg List.length hw)).trans w.1.symm);exact PX.symm▸(af.tupI xb hn b2)
 ·exact cf.tup (r.keeps k) (b2.slice lo hi)
theorem Uw{w:Str}(r:ak K.hb s.heap σ α)(av:af s.heap α (.str w) x)(mq:IsPart y lo)(ms:IsPart z hi)(hl:w.length<=aB) :
  wpAny (model K.prog K.w) A (subscriptTail value (.Slice l u none p) x (.ref s.heap.objs.size)) (cf K af (.ok (.str (lI w lo hi)) σ) (iK s y z) α) E (iK s y z):=by
 refine aw av.strE fun t ae hw=>?_;obtain rfl:=ae;refine aw (IQ mq) fun q1 ae ei=>?_;obtain rfl:=ae;refine aw (IQ ms) fun q2 ae e3=>?_;obtain rfl:=ae;refine tail_any (typeIs_str _ w _) F.slot_str_getitem.lookup (wpAny_getItem_str_slice (l:=q1) (u:=q2) (st:=none) ⟨_,ec _ rfl,rfl,rfl⟩ rfl (UC hl fun bX e1=>?_)) rfl;exact ei.symm▸e3.symm▸(⟨_,σ,α,rfl,.refl,r.keeps fun J J=>wb,.str _ _ (U6 hw),⟨rfl,rfl⟩⟩)
theorem Uy(h:sQ σ a lo hi=some v)(r:ak K.hb s.heap σ α)(av:af s.heap α a x)(mq:IsPart y lo)(ms:IsPart z hi) :
  wpAny (model K.prog K.w) A (subscriptTail value (.Slice l u none p) x (.ref s.heap.objs.size)) (cf K af (.ok v σ) (iK s y z) α) E (iK s y z):=by
 have gen:((cO σ a).bind fun xs=>if xs.length<=aB then some (H.fl (dE xs lo hi))else none)=some v->wpAny (model K.prog K.w) A (subscriptTail value (.Slice l u none p) x (.ref s.heap.objs.size)) (cf K af (.ok v σ) (iK s y z) α) E (iK s y z):=fun h =>
  cj h fun xs e h=>p7 h fun hl h=>oi h▸Uv r av mq ms e hl
 cases a with
 | tup xs=>exact p7 h fun hl h=>oi h▸Ux r av mq ms hl
 | str w=>exact p7 h fun hl h=>oi h▸Uw r av mq ms hl
 | _=>exact gen h
end
theorem UF{value:Expr}{l u:Option Expr}{p:Pos}{a b c:H}{x y z:Value}(r:ak K.hb s.heap σ α)(av:af s.heap α a x)(bb:af s.heap α b y)(v7:af s.heap α c z) :
  Runs K af A (subscriptTail value (.Slice l u none p) x (.ref s.heap.objs.size)) (lJ a b c σ) (iK s y z) α:=by
 intro hc tk
 cases h:(mm b).bind fun lo=>(mm c).bind fun hi=>sQ σ a lo hi with
 | none=>unfold lJ at hc;rw[h]at hc;exact absurd rfl hc
 | some v =>
  unfold lJ;rw[h];exact cj h fun lo L h=>cj h fun hi O h=>Uy h r av (IN L bb) (IN O v7)
set_option tactic.hygienic true in
theorem Sa{a b:H}{x y:Value}(hA:d9 A)(aO:A.handled=none)(r:ak K.hb s.heap σ α)(av:af s.heap α a x)(bb:af s.heap α b y):Runs K af A (call (.builtin "min") [x,y]) (qd a b σ) s α:=by
 intro hc tk
 cases a with
 | int i =>
  cases b with
  | int j =>
   refine aJ av.intE fun J ae=>?_;obtain rfl:=ae;refine aJ bb.intE fun J ae=>?_;obtain rfl:=ae;refine min_two_ints aO fun h' tk k=>?_;have:∀{q:H} {w:Value},q=.int (min i j)->af h' α q w->cf K af (qd (.int i) (.int j) σ) s α w { s with heap:=h',toks:=tk }:=fun{q w} e v=>⟨q,σ,α,by rw[e];rfl,.keeps k,r.keeps k,v,⟨rfl,rfl⟩⟩
   split
   ·rename_i h;exact this (by congr 1;(grind)) (.int j _)
   ·rename_i h;exact this (by congr 1;(grind)) (.int i _)
  | _=>exact absurd rfl hc
 | _=>exact absurd rfl hc
end
section
variable {K:aQ}{A:Around}{T:ba}{C:bh}{f:List (Str×NameKind)->Expr->Option X}{N:List (Str×NameKind)}{env:Env}{ρ:aE}{σ:ac}{s:Shared}{α:au}
theorem IP{o:Option Expr}{x:X}(S:b3 K A C f)(h:s3 (f N) o=some x)(am:env.scope.names=N)(hn:cp K.hb env)(E:aZ env ρ s.heap α)(r:ak K.hb s.heap σ α) :
  Runs K af A (valueOrNone (evalOpt o env)) (ev C x ρ σ) s α:=by
 cases o with
 | none=>obtain rfl:=oi h;exact Runs.pure r .none
 | some e=>exact((S N e x h).2 env ρ σ s α am hn E r).1
theorem UB{o:Expr}{lo hi:Option Expr}{p pos:Pos}{x y z:X}(S:b3 K A C f)(L:f N o=some x)(O:s3 (f N) lo=some y)(ar:s3 (f N) hi=some z)
  (am:env.scope.names=N) (hn:cp K.hb env) (E:aZ env ρ s.heap α) (r:ak K.hb s.heap σ α) :
  Runs K af A (eval (.Subscript o (.Slice lo hi none p) pos) env) (ev C (.slice x y z) ρ σ) s α:=by
 rw[C6,arm_eval_Subscript];refine Runs.bind ((S N o x L).2 env ρ σ s α am hn E r).1 fun av aa α₁ s6 s₁ V aM aN aR aV=>?_;rw[arm_eval_Slice];intro hc tk;refine aI (f6 (aI ?_));refine Runs.use (IP S O am hn (E.ext aM .nil) aN) hc tk fun bb ao cc JW aX aj dO bg r2 bu ck jA=>?_;refine aI (f6 ?_);rw[aj];show wpAny _ _ _ _ (cW K A ((ev C z ρ ao).bind fun b σ=>lJ av bb b σ) _ _) _;refine Runs.useL bg ck (IP S ar am hn ((E.ext aM .nil).ext bg .nil) r2) dO jA fun v7 gJ qQ Yi eD bF y4 fW fH ic iB JC=>?_;refine aI (f6 (bx ?_));refine wpAny_newObj_type ?_ (by size_fits);refine aI (wpAny_standAt ?_);show wpAny _ _ _ (cf K af ((ev C z ρ ao).bind _) _ _) (cW K A ((ev C z ρ ao).bind _) _ _) _;rw[bF];have lB:=ck.trans iB;exact(UF (value:=o) (l:=lo) (u:=hi) (p:=p) fH ((aR.ext bg).ext fW) (bu.ext fW) ic).endL ((bg.trans fW).trans (.keeps fun J J=>wb)) ⟨lB.gens,lB.os⟩ y4 JC
theorem R9{a b:Expr}{p pos:Pos}{x y:X}(c:Ctx K A T C)(S:b3 K A C f)(hg:fy N "min" = true)(hN:("min" : Str)∈T.bins)(L:f N a=some x)(O:f N b=some y)
  (am:env.scope.names=N) (hn:cp K.hb env) (E:aZ env ρ s.heap α) (r:ak K.hb s.heap σ α) :
  Runs K af A (eval (.Call (.Name "min" p) [a,b] [] pos) env) (ev C (.min2 x y) ρ σ) s α:=by
 rw[C3]
 cases c5:C.hd with
 | true=>exact fun hc=>absurd rfl hc
 | false =>
 simp only[cond_false];intro hc tk;refine aP (S N a x L) fun zn lR=>?_;refine aP (S N b y O) fun m6 dS=>?_;refine kl (kp c hg hN rfl am E.ok r ?_);rw[h9 zn,h9 m6];refine Calls.callWith_builtin rfl (Calls.evalArgs_plain (Calls.spliced_cons ?_));refine Runs.use (lR env ρ σ s α am hn E r).1 hc tk fun aR aa α₁ s6 s₁ V bG aM aN lO aV et=>?_;rw[V];refine Calls.spliced_cons ?_;show wpAny _ _ _ _ (cW K A ((ev C y ρ aa).bind fun y σ=>qd aR y σ) _ _) _;refine Runs.useL aM aV (dS env ρ aa s₁ α₁ am hn (E.ext aM .nil) aN).1 bG et fun bu ao cc JW aX aj dO bg r2 nH ck jA=>Calls.spliced_nil ?_;show wpAny _ _ _ (cf K af ((ev C y ρ aa).bind _) _ _) (cW K A ((ev C y ρ aa).bind _) _ _) _;exact aj.symm▸((Sa c.hA (c.hd c5) r2 (lO.ext bg) nH).endL (aM.trans bg) (aV.trans ck) dO jA)
set_option tactic.hygienic true in
theorem Rp{a:Expr}{p br pos Au:Pos}{x:X}(c:Ctx K A T C)(S:b3 K A C f)(hg:fy N "len" = true)(hN:("len" : Str)∈T.bins)(zd:fy N "set" = true)(Ow:("set" : Str)∈T.bins)(h:f N a=some x)
  (am:env.scope.names=N) (hn:cp K.hb env) (E:aZ env ρ s.heap α) (r:ak K.hb s.heap σ α) :
  Runs K af A (eval (.Call (.Name "len" p) [.Call (.Name "set" br) [a] [] Au] [] pos) env) (ev C (.b1 .lenset x) ρ σ) s α:=by
 rw[CZ];intro hc tk;refine aP (S N a x h) fun hp ax=>?_;refine kl (kp c hg hN rfl am E.ok r ?_);rw[h9 (e:=.Call (.Name "set" br) [a] [] Au) rfl];refine PySem.callWith_builtin1 ?_;refine kl (kp c zd Ow rfl am E.ok r ?_);rw[h9 hp];refine PySem.callWith_type1 ?_;refine Runs.use (ax env ρ σ s α am hn E r).1 hc tk fun aR aa α₁ s6 s₁ V bG aM aN lO aV et=>?_;rw[V]
 have q:db .lenset aR aa=match(d0 aa aR).bind kn with
   | some l=>if l.length<=1000 then .ok (.int (gD l).length) aa else .stuck
   | none=>.stuck:=by cases aR <;> rfl
 refine aP (Ca bG) fun ei e3=>?_;have c5:=ei rfl;show wpAny _ _ _ (fun v s₁=>wpAny _ _ _ (cf K af (iP C.hd .lenset aR aa) s α) (cW K A (iP C.hd .lenset aR aa) s α) s₁) _ _;rw[e3,q]at bG ⊢
 split at bG
 ·rename_i l hl
  split at bG
  ·rename_i GS;rw[az GS];refine Rr c.hA (c.hd c5) aN lO hl GS fun D h' tk k cZ=>cZ _ _ fun t e1=>?_;exact⟨_,aa,α₁,rfl,aM.trans (.keeps k),aN.keeps k,.int _ _,⟨aV.gens,aV.os⟩⟩
  ·exact absurd rfl bG
 ·exact absurd rfl bG
end
end Mine
namespace Mine
open PySem PyProof.Rows
section
variable {K:aQ}{A:Around}{T:ba}{C:bh}{f:List (Str×NameKind)->Expr->Option X}{N:List (Str×NameKind)}{env:Env}{ρ:aE}{σ:ac}{s:Shared}{α:au}
theorem vK{es:List Expr}{xs:X}{pos:Pos}(S:b3 K A C f)(h:ff (f N) es=some xs):(backTo pos (starEach es env)).all (fun x=>!x.1)=true/\(backTo pos (starEach es env)).any (·.1)=false:=by
 have:∀{es:List Expr} {xs:X},ff (f N) es=some xs->∀x∈starEach es env,x.1=false:=by
  intro es
  induction es with
  | nil=>intro xs h x hx;contradiction
  | cons e es ag =>
   intro xs h x hx;refine mT (nE h) fun a b ha hb J=>?_;rw[h9 (S N e a ha).1]at hx
   rcases bE.mp hx with q | q
   ·rw[q]
   ·exact ag hb x q
 have key:∀x∈backTo pos (starEach es env),x.1=false:=by
  intro x hx;unfold backTo at hx
  first
   | (refine aw (cK.mp hx) fun y hy ae=>?_;obtain rfl:=ae;exact this h y hy)
   | (split at hx <;> first | (obtain⟨y,hy,rfl⟩:=cK.mp hx;exact this h y hy) | exact this h x hx)
 exact⟨fC.mpr fun x hx=>by rw[key x hx];rfl,List.any_eq_false.mpr fun x hx=>by rw[key x hx];(trivial)⟩
theorem wV{F:Value}{es:List Expr}{pos:Pos}{Q:Args->Shared->Prop}{E:Value->Shared->Prop}(h:wpAny (model K.prog K.w) A (spliced (backTo pos (starEach es env))) (fun vs s₁=>Q ⟨vs,[]⟩ s₁) E s)
  (pl:(backTo pos (starEach es env)).any (·.1)=false):wpAny (model K.prog K.w) A (evalArgs F true (backTo pos (starEach es env)) []) Q E s:=by
 cases hq:backTo pos (starEach es env)with
 | nil =>
  rw[hq]at h;unfold evalArgs;show wpAny _ A (spliced [] >>= _) Q E s;refine aI (cm h (fun vs s' h'=>?_) fun J J x=>x);refine aI (bx (f6 ?_));exact aI (bx (aI (bx (bx h'))))
 | cons p r =>
  rw[hq]at h pl;obtain⟨b,t⟩:=p;rw[List.any_cons,Bool.or_eq_false_iff]at pl;obtain rfl:b=false:=pl.1;exact Calls.evalArgs_plain h
theorem Lf{g:Str}{mO:Value}{es:List Expr}{xs:X}{p pos:Pos}{β:Type}{F:List H->ac->ai β}{W:Value->Shared->Prop}(c:Ctx K A T C)(S:b3 K A C f)(hg:fy N g=true)(hN:g∈T.bins)(hv:lc g=some mO)(a1:(∃t,mO=.type t)\/∃b,mO=.builtin b)
  (h:ff (f N) es=some xs) (am:env.scope.names=N) (hn:cp K.hb env) (E:aZ env ρ s.heap α) (r:ak K.hb s.heap σ α) (hc:(evs C xs ρ σ).bind F≠.stuck) (tk:K.Tk s)
  (k:∀vs σ' α' us s',evs C xs ρ σ=.ok vs σ'->F vs σ'≠.stuck->aW [] α s.heap α' s'.heap->ak K.hb s'.heap σ' α'->a7 s'.heap α' vs us->cJ s s'->K.Tk s'->wpAny (model K.prog K.w) A (call mO us) W (cW K A ((evs C xs ρ σ).bind F) s α) s') :
  wpAny (model K.prog K.w) A (eval (.Call (.Name g p) es [] pos) env) W (cW K A ((evs C xs ρ σ).bind F) s α) s:=by
 refine aP (vK (env:=env) (pos:=pos) S h) fun J nu=>?_;refine kl (kp c hg hN hv am E.ok r ?_);have ax:=oq (pos:=pos) S h am hn E r
 have BI:∀{Nz:Value},wpAny (model K.prog K.w) A (evalArgs Nz true (backTo pos (starEach es env)) []) (fun a s₁=>wpAny (model K.prog K.w) A (call mO ([]++a.pos) a.kw) W (cW K A ((evs C xs ρ σ).bind F) s α) s₁) (cW K A ((evs C xs ρ σ).bind F) s α) s:=
  wV (Runs.use ax hc tk fun vs σ' α' us s' V cb aH aC b2 bH e1=>k vs σ' α' us s' V cb aH aC b2 bH e1) nu
 rcases a1 with⟨t,rfl⟩ | ⟨b,rfl⟩
 ·exact PySem.callWith_type nu BI
 ·exact Calls.callWith_builtin nu BI
set_option tactic.hygienic true in
theorem R5{o:Expr}{es:List Expr}{mn:Str}{apos pos:Pos}{x xs:X}{TT id:String}{fo:H->List H->ac->ai H}{ok:H->ac->Bool}(S:b3 K A C f)(l5:nq o=true)(kE:(apos.endLine == pos.line)=true)(cZ:es.length<20)
  (Am:PlainAttrs TT) (cq:Slot TT mn id) (ty:typeOf (.builtin id)=pure (.type "method_descriptor"))
  (cL:∀{v σ} {s:Shared} {α:au} {u:Value},ok v σ=true->ak K.hb s.heap σ α->af s.heap α v u->s.TypeIs u TT/\∀a,u=.ref a->∃ob,s.heap.get? a=some ob/\ob.dict=none)
  (iZ:∀{v vs σ} {s:Shared} {α:au} {u us},ak K.hb s.heap σ α->af s.heap α v u->a7 s.heap α vs us->Runs K af A (call (.builtin id) (u::us)) (fo v vs σ) s α)
  (L:f N o=some x) (O:ff (f N) es=some xs) (am:env.scope.names=N) (hn:cp K.hb env) (E:aZ env ρ s.heap α) (r:ak K.hb s.heap σ α) :
  Runs K af A (eval (.Call (.Attribute o mn apos) es [] pos) env) ((ev C x ρ σ).bind fun v σ=>if ok v σ then(evs C xs ρ σ).bind fun vs σ=>fo v vs σ else .stuck) s α:=by
 intro hc tk;refine aP (vK (env:=env) (pos:=pos) S O) fun Ap nu=>?_;refine wpAny_Call_method_lateS (tz l5) (by rw[Ap];simp[backToKw,show keywordEach [] env=[]from rfl];(exact aF (by assumption) (by decide))) kE ?_;refine Runs.use ((S N o x L).2 env ρ σ s α am hn E r).1 hc tk fun av aa α₁ e2 s₁ V bG aM aN aR aV et=>?_;rw[V]
 split at bG
 ·rename_i hk;refine aP (cL hk aN aR) fun q4 q5=>?_;refine⟨TT,id,Am,cq,ty,q4,q5,?_⟩;have ax:=oq (pos:=pos) S O am hn (E.ext aM .nil) aN;refine Calls.callWith_builtin nu (wV ?_ nu);rw[Ci,az hk];refine Runs.useL aM aV ax bG et fun vs ao cc us aX aj dO bg r2 bu ck jA=>?_;exact aj.symm▸((iZ r2 (aR.ext bg) bu).endL (aM.trans bg) (aV.trans ck) dO jA)
 ·exact absurd rfl bG
noncomputable def zZ:ii->String
 | .clear => "list"
noncomputable def zW:ii->String
 | .clear => "list.clear"
noncomputable def zX:ii->Str
 | .clear => "clear"
theorem RN{x:Str}{m:ii}(h:zY x=some m):x=zX m:=
 (show ∀p∈HY,p.1=zX p.2 from fun p hp=>by
  repeat (rcases bE.mp hp with rfl | hp;exact rfl)
  contradiction) _ (ng h)
theorem RP(m:ii):PlainAttrs (zZ m)/\Slot (zZ m) (zX m) (zW m)/\typeOf (.builtin (zW m))=pure (.type "method_descriptor"):=by
 cases m
 ·exact⟨F.plainAttrs_list,F.slot_list_clear,F.type_list_clear⟩
noncomputable def qc(m:ii)(o:H)(σ:ac):Bool:=
 match m with
 | .clear=>g4 o σ
theorem RO{m:ii}{o:H}{u:Value}(h:qc m o σ=true)(r:ak K.hb s.heap σ α)(v:af s.heap α o u):s.TypeIs u (zZ m)/\∀a,u=.ref a->∃ob,s.heap.get? a=some ob/\ob.dict=none:=by
 cases m with
 | clear=>exact H3 (m:=.append) r v h
set_option tactic.hygienic true in
theorem RW{m:ii}{o:H}(h:jX m o σ≠.stuck):qc m o σ=true:=by
 cases m with
 | clear =>
  unfold jX at h;dsimp only at h
  split at h
  ·split at h
   ·rename_i hs;simp only[qc,g4,hs]
   ·exact absurd rfl h
  ·exact absurd rfl h
set_option tactic.hygienic true in
theorem RX{m:ii}{o:H}{u:Value}(r:ak K.hb s.heap σ α)(v:af s.heap α o u):Runs K af A (call (.builtin (zW m)) [u]) (jX m o σ) s α:=by
 intro hc tk
 cases m with
 | clear =>
  unfold jX at hc ⊢;dsimp only at hc ⊢
  split at hc
  ·rename_i i;refine aw v.refE fun a ae bB=>?_;obtain rfl:=ae
   split at hc
   ·rename_i xs hs
    split at hc
    ·rename_i hl;rw[az hl];refine cD (r.obj i _ a hs bB) fun items n V w=>?_;refine call_meets F.slot_list_clear ⟨_,V,rfl⟩ F.entry_list_clear (F.args_list_clear_1 _) (AutoSeq1.list_clear_list_0 a items.toArray n (by rw[e5,<- w.1];exact g6 hl)) ⟨V,?_⟩;refine aJ (Bq (g:=fun J=>#[]) V) fun ef aA=>?_;refine aP (r.set (m:=.lst []) bB (fun b o hb e=>(Br hb).trans e) aA fun aH=>⟨[],ef,aA,.nil⟩) fun aC aH=>?_;exact⟨.none,_,α,rfl,aH,aC,.none,⟨rfl,rfl⟩⟩
    ·exact absurd rfl hc
   ·exact absurd rfl hc
  ·exact absurd rfl hc
theorem RV{m:ii}{mn:Str}{o:Expr}{apos pos:Pos}{x:X}(S:b3 K A C f)(hm:zY mn=some m)(kE:(apos.endLine == pos.line)=true)(l5:nq o=true)(L:f N o=some x)
  (am:env.scope.names=N) (hn:cp K.hb env) (E:aZ env ρ s.heap α) (r:ak K.hb s.heap σ α) :
  Runs K af A (eval (.Call (.Attribute o mn apos) [] [] pos) env) (ev C (.me0 m x) ρ σ) s α:=by
 rw[RN hm,C1];refine dI (RP m) fun q1 q2 q3=>?_
 have ax:=R5 (K:=K) (A:=A) (ρ:=ρ) (σ:=σ) (s:=s) (α:=α) (env:=env) (apos:=apos) (pos:=pos) (es:=[]) (xs:=.nil) (fo:=fun v vs σ=>match vs with | []=>jX m v σ | _=>.stuck) (ok:=qc m) S l5 kE (by trivial) q1 q2 q3
  (fun h r v=>RO h r v) (fun{v vs σ s α u us} r v w=>by
   cases vs with
   | nil =>
    have:us=[]:=hY w.1.symm;subst this;exact RX r v
   | cons _ _=>exact fun hc=>absurd rfl hc) L rfl am hn E r
 intro hc tk
 have e:((ev C x ρ σ).bind fun v σ=>if qc m v σ then(evs C .nil ρ σ).bind fun vs σ=>(match vs with | []=>jX m v σ | _=>.stuck)else .stuck)=(ev C x ρ σ).bind fun x σ=>jX m x σ:=by
  cases hx:ev C x ρ σ with
  | ok v aa =>
   rw[hx]at hc;have cb:jX m v aa≠.stuck:=hc;show(if qc m v aa=true then _ else _)=_;rw[az (RW cb)];rfl
  | exc i aa=>rfl
  | stuck=>rfl
 rw[e]at ax;exact ax hc tk
set_option tactic.hygienic true in
theorem Ua{o:Expr}{p bj br pos:Pos}{k:Nat}{x:X}(S:b3 K A C f)(L:f N o=some x)
  (am:env.scope.names=N) (hn:cp K.hb env) (E:aZ env ρ s.heap α) (r:ak K.hb s.heap σ α) :
  Runs K af A (eval (.Subscript o (.Slice none none (some (.UnaryOp .USub (.Constant (.int 1) k bj) br)) p) pos) env) (ev C (.rev x) ρ σ) s α:=by
 rw[C5,arm_eval_Subscript];refine Runs.bind ((S N o x L).2 env ρ σ s α am hn E r).1 fun av aa α₁ s6 s₁ V aM aN aR aV=>?_;rw[arm_eval_Slice];intro hc tk;refine aI (f6 (aI (bx (aI (f6 (bx (aI (f6 ?_))))))));show wpAny _ _ (eval (.UnaryOp .USub (.Constant (.int 1) k bj) br) env) _ _ _
 have Pk:Runs K af A (eval (.UnaryOp .USub (.Constant (.int 1) k bj) br) env) (.ok (.int (-1)) aa) s₁ α₁:=by
  rw[arm_eval_UnaryOp];exact Runs.bind (c:=.ok (H.int 1) aa) (f:=Ab) (w8 (c:=.int 1) (v:=.int 1) (k:=k) (p:=bj) (env:=env) rfl aN) fun v σ' α' y s' e aH aC b2 bH=>Runs.standAt (Runs.holding (Iy aC b2))
 refine cm (Pk (by(intro q;exact nomatch q)) tk) (fun u aX hp=>?_) fun e aX hx=>?_
 ·obtain⟨cI,ao,cc,aj,bg,r2,bu,ck⟩:=hp
  (first | contradiction | (obtain rfl:=oi aj) | cases aj)
  refine aJ bu.intE fun bf ae=>?_;obtain rfl:=ae;refine wpAny_newObj_type ?_ (by size_fits);refine aI (wpAny_standAt ?_);have iy:∀b o,aX.heap.get? b=some o->(aX.heap.push { cls:=.type "slice",data:=.fields #[.none,.none,.int (-1) bf] }).get? b=some o:=fun b o e=>cP _ e;unfold sL at hc ⊢
  cases hl:cO aa av with
  | none=>rw[hl]at hc;exact absurd rfl hc
  | some xs =>
   rw[hl]at hc;dsimp only at hc ⊢
   split at hc
   ·rename_i fP;rw[az fP];have fH:=r2.keeps iy;obtain⟨ad,vs,n,rfl,bF,v⟩:=k9 r2 (aR.ext bg) hl;have eK:(aX.heap.push { cls:=.type "slice",data:=.fields #[.none,.none,.int (-1) bf] }).IsList ad vs.toArray:=⟨_,iy _ _ bF,rfl,n,rfl⟩
    refine tail_any (s:={ aX with heap:=aX.heap.push { cls:=.type "slice",data:=.fields #[.none,.none,.int (-1) bf] } }) eK.typeIs slot_list_getitem.lookup
     (wpAny_getItem_list_slice eK (Heap.IsSliceOf.new ..) .none .none (.int (-1) bf) (by trivial) ?_ (e5.symm▸v.1▸(g6 fP))) rfl
    rw[W.krv_pick]
    have vr:a7 (aX.heap.push { cls:=.type "slice",data:=.fields #[.none,.none,.int (-1) bf] }) cc xs.reverse vs.reverse:=by
     have b2:=v.ext (.keeps (F:=[]) iy);refine⟨by simp[b2.1],fun i a b L O=>?_⟩
     have hi:i<xs.length:=by have:=(dU L).1;simpa using this
     rw[List.getElem?_reverse hi]at L;rw[List.getElem?_reverse (by rw[<- b2.1];exact hi)]at O;rw[<- b2.1]at O;exact b2.2 _ a b L O
    exact cf.lift (s₁:={ aX with heap:=aX.heap.push { cls:=.type "slice",data:=.fields #[.none,.none,.int (-1) bf] } }) (bg.trans (.keeps iy)) ⟨ck.gens,ck.os⟩ (cf.fl (s:={ aX with heap:=aX.heap.push { cls:=.type "slice",data:=.fields #[.none,.none,.int (-1) bf] } }) fH vr)
   ·exact absurd rfl hc
 ·obtain⟨i,ao,aj,_⟩:=hx;contradiction
end
end Mine
namespace Mine
open PySem PyProof.Rows
section
variable {K:aQ}{A:Around}{T:ba}{C:bh}{f:List (Str×NameKind)->Expr->Option X}{N:List (Str×NameKind)}{env:Env}{ρ:aE}{σ:ac}{s:Shared}{α:au}
noncomputable def tj(kk:List Str)(cI:List H)(us:List (Value×Value)):Prop:=
 us.length=kk.length/\∀(i:Nat) k v,kk[i]?=some k->cI[i]?=some v->∃t u,us[i]?=some (Value.str k t,u)/\∀h α,af h α v u
theorem tj.cons{kk:List Str}{cI:List H}{us:List (Value×Value)}{k:Str}{v:H}{t:Tok}{u:Value}(hu:∀h α,af h α v u)(ax:tj kk cI us):tj (k::kk) (v::cI) ((.str k t,u)::us):=by
 refine⟨congrArg Nat.succ ax.1,fun i b8 b2 V aj=>?_⟩
 cases i with
 | zero=>obtain rfl:=oi V;obtain rfl:=oi aj;exact⟨t,u,rfl,hu⟩
 | succ i=>exact ax.2 i b8 b2 V aj
theorem Ry{e:Expr}{v:H}(h:HQ e=some v){s:Shared}{Q X:Value->Shared->Prop}(a2:∀u tk,(∀h α,af h α v u)->Q u { s with toks:=tk }):wpAny (model K.prog K.w) A (eval e env) Q X s:=by
 cases e with
 | Constant c Xh tK =>
  change v2 c=_ at h
  cases c with
  | none=>obtain rfl:=oi h;exact wpAny_Constant_none (a2 _ s.toks fun h α=>.none)
  | bool b=>obtain rfl:=oi h;exact wpAny_Constant_bool (a2 _ s.toks fun h α=>.bool b)
  | int i=>obtain rfl:=oi h;exact wpAny_Constant_int (a2 _ _ fun h α=>.int i _)
  | str z =>
   change bT _ _=_ at h
   exact cG h fun bA h=>by obtain rfl:=oi h;exact wpAny_Constant_str (a2 _ _ fun h α=>.str z _ bA)
  | _=>contradiction
 | _=>contradiction
theorem HS{e:Expr}{x:Str}(h:zT e=some x):∃k p,e=.Constant (.str x) k p/\PyData.strOk x=true:=by
 cases e with
 | Constant c k p =>
  cases c with
  | str z =>
   change bT _ _=_ at h
   exact cG h fun bA h=>by obtain rfl:=oi h;exact⟨_,_,rfl,bA⟩
  | _=>contradiction
 | _=>contradiction
noncomputable def BO(K:aQ)(A:Around)(env:Env)(pos:Pos)(ks:List (Option Expr))(vs:List Expr)(kk:List Str)(cI:List H):Prop:=
 ∃qp:List (Sem Value×Sem Value),(evalEachOpt ks env).zip ((evalEach vs env).map fun v=>do let x <- v;standAt pos;pure x)=qp.map (fun p=>(some p.1,p.2))/\qp.length=kk.length/\cI.length=kk.length ∧
   ∀{s:Shared} {Q:List (Value×Value)->Shared->Prop} {X:Value->Shared->Prop},(∀us tk,tj kk cI us->Q us { s with toks:=tk })->wpAny (model K.prog K.w) A (evalPairs qp) Q X s
theorem Tl{pos:Pos}{ks:List (Option Expr)}:∀{vs:List Expr} {kk:List Str} {cI:List H},tN ks=some kk->zS vs=some cI->vs.length=ks.length->BO K A env pos ks vs kk cI:=by
 induction ks with
 | nil =>
  intro vs kk cI L O hl;obtain rfl:=oi L;obtain rfl:=hY hl;obtain rfl:=oi O;exact⟨[],rfl,rfl,rfl,fun a2=>evalPairs_nil (a2 [] _ ⟨rfl,fun i k v e=>nomatch e⟩)⟩
 | cons k ks ag =>
  intro vs kk cI L O hl
  cases vs with
  | nil=>contradiction
  | cons e es =>
   change bL _ _ _=_ at L O;refine fQ (M:=fun kk=>BO K A env pos (k::ks) (e::es) kk cI) L fun cT HD hs hr=>?_;refine fQ O fun v Yp hc hv=>?_;refine cj hs fun XT hk hs=>?_;obtain⟨iy,p,rfl,cL⟩:=HS hs;subst hk;obtain⟨qp,V,aj,bF,ax⟩:=ag hr hv (Nat.succ.inj hl);refine⟨(eval (.Constant (.str cT) iy p) env,do let x <- eval e env;standAt pos;pure x)::qp,?_,congrArg Nat.succ aj,congrArg Nat.succ bF,fun a2=>?_⟩
   ·rw[dG,<- V];rfl
   ·exact evalPairs_cons (wpAny_Constant_str (aI (Ry hc fun u tk hu=>aI (wpAny_standAt (bx (ax fun us e1 hk=>a2 _ e1 (hk.cons hu)))))))
theorem Up:∀{ks:List Str} {vals:List H} {us:List (Value×Value)} {eL:List (Str×Value)} {k:Str},ks.length=us.length->vals.length=ks.length->eL=(ks.zip us).map (fun p=>(p.1,p.2.2)) ->
  (∀(i:Nat) k v,ks[i]?=some k->vals[i]?=some v->∃t u,us[i]?=some (Value.str k t,u)/\∀h α,af h α v u) ->
  (∀v,j4 k (ks.zip vals)=some v->∃u,valueAt eL k=some u/\∀h α,af h α v u)/\(j4 k (ks.zip vals)=none->valueAt eL k=none):=by
 intro ks
 induction ks with
 | nil =>
  intro vals us eL k L O ar aU;subst ar;exact⟨fun v e=>(by contradiction),fun J=>rfl⟩
 | cons a ks ag =>
  intro vals us eL k L O ar aU
  cases vals with
  | nil=>contradiction
  | cons v vals =>
   cases us with
   | nil=>contradiction
   | cons u us =>
    subst ar;obtain⟨t,jd,q1,q2⟩:=aU 0 a v rfl rfl;obtain rfl:=oi q1;have ag:=ag (vals:=vals) (us:=us) (k:=k) (Nat.succ.inj L) (Nat.succ.inj O) rfl (fun i k v V aj=>aU (i+1) k v V aj);rw[List.zip_cons_cons,List.zip_cons_cons,dG,JY];show(∀w,(if a=k then some v else j4 k (ks.zip vals))=some w->_)/\((if a=k then some v else j4 k (ks.zip vals))=none->_);by_cases hk:a=k
    ·rw[az hk,az hk];exact⟨fun w hw=>by obtain rfl:=oi hw;exact⟨jd,rfl,q2⟩,fun hw=>nomatch hw⟩
    ·rw[aY hk,aY hk];exact ag
theorem LL:∀{ks:List Str} {vals:List H} {us:List (Value×Value)},ks.length=us.length->vals.length=ks.length ->
  (∀(i:Nat) k v,ks[i]?=some k->vals[i]?=some v->∃t u,us[i]?=some (Value.str k t,u)/\∀h α,af h α v u)->Carries (strKind K.prog K.w) us ((ks.zip us).map fun p=>(p.1,p.2.2)):=by
 intro ks
 induction ks with
 | nil =>
  intro vals us L O aU
  cases us with
  | nil=>trivial
  | cons u us=>contradiction
 | cons a ks ag =>
  intro vals us L O aU
  cases vals with
  | nil=>contradiction
  | cons v vals =>
   cases us with
   | nil=>contradiction
   | cons u us =>
    obtain⟨t,jd,q1,q2⟩:=aU 0 a v (by rfl) (by rfl);simp at q1;subst q1;refine⟨?_,rfl,ag (vals:=vals) (by simpa using L) (by simpa using O) fun i k v V aj=>by have:=aU (i+1) k v (by simpa using V) (by simpa using aj);simpa using this⟩;show Value.isStrOf a (.str a t)=true;simp[Value.isStrOf]
end
end Mine
namespace Mine
open PySem PyProof.Rows
section
variable {K:aQ}{A:Around}{T:ba}{C:bh}{f:List (Str×NameKind)->Expr->Option X}{N:List (Str×NameKind)}{env:Env}{ρ:aE}{σ:ac}{s:Shared}{α:au}
theorem SW(hK:K.Ok)(r:ak K.hb s.heap σ α):(s.heap.objs.size == sysModules)=false:=by
 refine jQ hK.g fun o es d5 e J=>?_;have L:=eQ (r.base _ _ e);have O:mainGlobals<s.heap.objs.size:=L
 have ar:sysModules<=mainGlobals:=by decide
 have:s.heap.objs.size≠sysModules:=cS (hF ar O);simpa using this
theorem UQ{a b:Expr}(L:i7 a=true)(O:i7 b=true):starEach [a,b] env=[(false,eval a env),(false,eval b env)]:=by
 rw[h9 L,h9 O];rfl
theorem M6{ks:List (Option Expr)}{vs:List Expr}{tP apos pos:Pos}{k d:Expr}{kk:List Str}{cI:List H}{x y:X}(c:Ctx K A T C)(S:b3 K A C f)(kE:(apos.endLine == pos.line)=true)
  (hk:tN ks=some kk) (hv:xa ks.length vs=some cI) (rV:kk.Nodup) (cZ:kk.length<=15) (dc:kk≠[]) (L:f N k=some x) (O:f N d=some y)
  (am:env.scope.names=N) (hn:cp K.hb env) (E:aZ env ρ s.heap α) (r:ak K.hb s.heap σ α) :
  Runs K af A (eval (.Call (.Attribute (.Dict ks vs tP) "get" apos) [k,d] [] pos) env) (ev C (.fdget kk cI x y) ρ σ) s α:=by
 show Runs K af A _ ((ev C x ρ σ).bind fun k σ=>(ev C y ρ σ).bind fun d σ=>uH kk cI k d σ) s α;intro hc tp;refine aP (S N k x L) fun zn lR=>?_;refine aP (S N d y O) fun m6 dS=>?_;refine Call_method2 rfl (UQ zn m6) kE ?_;unfold xa at hv;refine cG hv fun PW hv=>?_;refine om (Tl (K:=K) (A:=A) (env:=env) (pos:=tP) hk hv (eq_of_beq PW)) fun qp Uq pl vl ax=>?_;refine wpAny_Dict_pairs (knd:=strKind K.prog K.w) Uq (fun q=>dc (by cases kk with | nil=>rfl | cons=>rw[q]at pl;contradiction)) (by omega) (nK tp (ax fun us tk QW Vy=>?_));refine aP QW fun nF v6=>?_;have LK:=LL (K:=K) nF.symm vl v6;refine⟨_,LK,Heap.DictOf.new _,fun h' eo fI=>?_⟩
 have O4:((kk.zip us).map fun p=>(p.1,p.2.2)).map (·.1)=kk:=by
  rw[hI];show(kk.zip us).map Prod.fst=kk;rw[List.map_fst_zip (by omega)]
 rw[merged_nil_of_nodup _ (O4.symm▸rV)]at eo;refine jQ (id eo) fun lE es d5 pM tL=>?_;have iy:∀b o,s.heap.get? b=some o->h'.get? b=some o:=fun b o e=>(fI.2 b (fE (eQ e))).trans (cP _ e)
 have ln:s.heap.objs.size∉α.all:=fun q=>by refine aJ (r.liveAll q) fun o e=>?_;rw[kJ]at e;contradiction
 have kS:aW [] α s.heap α h':=.keeps iy;have AB:=r.keeps iy;refine⟨"dict", "dict.get",F.plainAttrs_dict,F.slot_dict_get,F.type_dict_get,eo.typeIs,eo.mapOf.noDict,?_⟩;refine wpAny_dict_get2 (knd:=strKind K.prog K.w) (SW c.hK r) ?_;have Vr:K.Tk { s with heap:=h',toks:=tk+us.length }:=aQ.Tk.up Vy (e6 _ _);refine Runs.useL (s:={ s with heap:=h',toks:=tk+us.length }) kS ⟨rfl,rfl⟩ (lR env ρ σ { s with heap:=h',toks:=tk+us.length } α am hn (E.ext kS .nil) AB).1 hc Vr fun pk aa α₁ Yk s₁ V bG aM aN aR aV et=>?_;rw[V];show wpAny _ _ _ _ (cW K A ((ev C y ρ aa).bind fun d σ=>uH kk cI pk d σ) _ _) _;refine Runs.useL (kS.trans aM) ⟨aV.gens,aV.os⟩ (dS env ρ aa s₁ α₁ am hn ((E.ext kS .nil).ext aM .nil) aN).1 bG et fun X6 ao cc Yj aX aj dO bg r2 bu ck jA=>?_
 cases pk with
 | str sl =>
  refine aw aR.strE fun Vz ae hq=>?_;obtain rfl:=ae
  have Gh:s.heap.objs.size∉α.fr:=fun q=>by
   obtain⟨_,o,e,_⟩:=r.frs _ (r.fe▸q);rw[kJ]at e;contradiction
  have Mp:=(aM.rest _ _ (au.not_ix ln) ((dT)) pM).not Gh;have Mq:=(bg.rest _ _ (aM.notMem (au.not_ix ln) pM) ((dT)) Mp).not (aM.fre▸Gh);have OG:aX.heap.DictOf (strKind K.prog K.w) s.heap.objs.size ((kk.zip us).map fun p=>(p.1,p.2.2)):=⟨_,es,d5,Mq,tL⟩;refine aP (Up (k:=sl) nF.symm vl rfl v6) fun g1 g2=>?_;refine⟨sl,_,by show Value.isStrOf sl (.str sl Vz)=true;simp[Value.isStrOf],OG.mapOf,?_⟩;show cf K af ((ev C y ρ aa).bind _) _ _ _ _;rw[aj];refine⟨_,ao,cc,rfl,(kS.trans aM).trans bg,r2,?_,⟨(aV.trans ck).gens,(aV.trans ck).os⟩⟩
  cases uZ:j4 sl (kk.zip cI)with
  | none=>exact(g2 uZ).symm▸bu
  | some w=>refine aw (g1 w uZ) fun u q1 q2=>?_;exact q1.symm▸(q2 _ _)
 | _=>exact absurd rfl dO
variable {en:Bool}
theorem Qq{x:X}(h:zN x=false):evIt C x ρ σ=(ev C x ρ σ).bind h8:=by
 cases x <;> first | (contradiction;done) | (rfl)
theorem QL{e:Expr}{x:X}(c:Ctx K A T C)(c5:C.hd=false)(S:b3 K A C f)(h:f N e=some x)(hi:zN x=false)(am:env.scope.names=N)(hn:cp K.hb env)(E:aZ env ρ s.heap α)(r:ak K.hb s.heap σ α) :
  jk K A en (eval e env) (evIt C x ρ σ) s α:=by
 rw[Qq hi];intro hc tk;refine Runs.use ((S N e x h).2 env ρ σ s α am hn E r).1 hc tk fun v aa α₁ y s₁ V bG aM aN aR aV et=>?_;exact V.symm▸(cm (QS c.hA (c.hd c5) aN aR bG) (fun it aX hp=>hp.lift aM aV) fun J J e=>e)
noncomputable def pA(K:aQ)(A:Around)(t:Sem Value)(c:ai (List H×Option (Nat×aS)))(s:Shared)(α:au):Prop:=c≠.stuck->K.Tk s->wpAny (model K.prog K.w) A t (mI K c s α) (cW K A c s α) s
theorem QM{a:Expr}{p pos:Pos}{x:X}(c:Ctx K A T C)(S:b3 K A C f)(h:f N a=some x)(hg:fy N "range" = true)(hN:("range" : Str)∈T.bins)(am:env.scope.names=N)(hn:cp K.hb env)(E:aZ env ρ s.heap α)(r:ak K.hb s.heap σ α) :
  pA K A (eval (.Call (.Name "range" p) [a] [] pos) env) (evIt C (.range1 x) ρ σ) s α:=by
 show pA K A _ ((ev C x ρ σ).bind nw) s α;intro hc tk;refine aP (S N a x h) fun hp ax=>?_;refine kl (kp c hg hN rfl am E.ok r ?_);rw[h9 hp];refine PySem.callWith_type1 (Runs.use (ax env ρ σ s α am hn E r).1 hc tk fun v aa α₁ y s₁ V bG aM aN aR aV et=>?_);exact V.symm▸(cm (LF aN aR bG) (fun it aX hp=>hp.lift aM aV) fun J J e=>e)
theorem QK{a:Expr}{p pos:Pos}{x:X}(c:Ctx K A T C)(c5:C.hd=false)(S:b3 K A C f)(h:f N a=some x)(hg:fy N "enumerate" = true)(hN:("enumerate" : Str)∈T.bins)(am:env.scope.names=N)(hn:cp K.hb env)(E:aZ env ρ s.heap α)(r:ak K.hb s.heap σ α) :
  jk K A true (eval (.Call (.Name "enumerate" p) [a] [] pos) env) (evIt C (.enum x) ρ σ) s α:=by
 show jk K A true _ ((ev C x ρ σ).bind lX) s α;intro hc tk;refine aP (S N a x h) fun hp ax=>?_;refine kl (kp c hg hN rfl am E.ok r ?_);rw[h9 hp];refine PySem.callWith_type1 (Runs.use (ax env ρ σ s α am hn E r).1 hc tk fun v aa α₁ y s₁ V bG aM aN aR aV et=>?_);exact V.symm▸(cm (QQ (c.hd c5) aN aR bG) (fun it aX hp=>cm hp (fun y eD hp=>hp.lift aM aV) fun J J e=>e) fun J J e=>e)
theorem nc{e:Expr}{q:Str×Pos}(h:nb e=some q):e=.Name q.1 q.2:=su (o:=Il e) h
theorem Co{α:Type}{e:Expr}{g:{ q:BA // e=.Call q.f q.as q.ks q.pos }->Option α}{a:α}{M:Prop}(h:(tD e).bind g=some a)(k:∀c,g c=some a->M):M:=by
 cases hc:tD e with
 | none=>rw[hc]at h;exact nomatch h
 | some c=>rw[hc]at h;exact k c h
theorem tC{e:Expr}{q:wu}(h:rm e=some q):e=.Call (.Name q.g q.p) [q.a] [] q.pos:=by
 refine Co h fun c h=>?_;refine cG h fun h0 h=>fQ (M:=fun q:wu=>e=.Call (.Name q.g q.p) [q.a] [] q.pos) h fun n a L O=>?_;refine c.2.trans ?_;rw[nc L,sB O,gQ.mp h0]
theorem LA{e:Expr}{q:wv}(h:callN? e=some q):e=.Call (.Name q.g q.p) q.as [] q.pos:=by
 refine Co h fun c h=>?_;refine cG h fun h0 h=>fc (M:=fun q:wv=>e=.Call (.Name q.g q.p) q.as [] q.pos) h fun n L=>?_;refine c.2.trans ?_;rw[nc L,gQ.mp h0]
theorem VC{g:Str}{k:Nat}{e:Expr}{xs:X}{P:Prop}(h:A6 T N (f N) g k e=some xs)(kk:∀p as pos,e=.Call (.Name g p) as [] pos->fy N g=true->g∈T.bins->as.length=k->ff (f N) as=some xs->P):P:=by
 refine cj h fun q hq h'=>cG h' fun hc gd=>?_;refine aP (cV hc) fun hc ar=>?_;refine aP (cV hc) fun L O=>?_;refine aP (cV O) fun aU dj=>?_;obtain rfl:=eq_of_beq L;exact kk q.p q.as q.pos (LA hq) aU (by simpa using dj) (eq_of_beq ar) gd
theorem WQ{vs:List H}{P:Prop}(h:wh vs σ≠.stuck)(k:∀a b,vs=[a,b]->P):P:=by
 cases vs with
 | nil=>exact absurd rfl h
 | cons a l =>
  cases l with
  | nil=>exact absurd rfl h
  | cons b l =>
   cases l with
   | nil=>exact k a b rfl
   | cons c l=>exact absurd rfl h
theorem QN{e:Expr}{xs:X}(c:Ctx K A T C)(c5:C.hd=false)(S:b3 K A C f)(h:A6 T N (f N) "zip" 2 e=some xs)(am:env.scope.names=N)(hn:cp K.hb env)(E:aZ env ρ s.heap α)(r:ak K.hb s.heap σ α) :
  jk K A true (eval e env) (evIt C (.zip xs) ρ σ) s α/\i7 e=true:=by
 refine VC h fun p as pos he hg hb hl gd=>?_;subst he;refine⟨?_,rfl⟩;show jk K A true _ ((evs C xs ρ σ).bind wh) s α;intro hc tk;refine Lf c S hg hb rfl (.inl ⟨_,rfl⟩) gd am hn E r hc tk fun vs aa α₁ us s₁ V bG aM aN aR aV et=>?_;rw[V];refine WQ bG fun a b hv=>?_;subst hv;refine cD aR.inv_cons fun x Ym ae bd=>?_;obtain rfl:=ae;obtain⟨av,aR⟩:=bd;refine cD aR.inv_cons fun y Yn ae bd=>?_;obtain rfl:=ae;obtain⟨bb,aR⟩:=bd;obtain rfl:=hY aR.1.symm;exact cm (QT (c.hd c5) aN av bb bG) (fun it aX hp=>cm hp (fun y eD hp=>hp.lift aM aV) fun J J e=>e) fun J J e=>e
theorem VX{e:Expr}{x:X}{P:X->Prop}(h:Bg T N (f N) e=some x)(k:∀p a pos y,e=.Call (.Name "range" p) [a] [] pos->fy N "range" = true->("range" : Str)∈T.bins->f N a=some y->P (.range1 y)):P x:=by
 unfold Bg at h;refine cj h fun q hq h=>cG h fun hc h=>?_;refine aP (cV hc) fun L O=>?_;refine aP (cV O) fun aU dj=>?_;have he:=tC hq;rw[eq_of_beq L]at he aU dj;exact fc h fun y hy=>k q.p q.a q.pos y he aU (by simpa using dj) hy
theorem VY{e:Expr}{x:X}(c:Ctx K A T C)(S:b3 K A C f)(h:Bh T N (f N) e=some x)(am:env.scope.names=N)(hn:cp K.hb env)(E:aZ env ρ s.heap α)(r:ak K.hb s.heap σ α) :
  pA K A (eval e env) (evIt C x ρ σ) s α/\i7 e=true:=by
 unfold Bh at h
 exact VX (P:=fun x=>pA K A (eval e env) (evIt C x ρ σ) s α/\i7 e=true) h fun p a pos y he hg hb gd=>by subst he;exact⟨QM c S gd hg hb am hn E r,rfl⟩
theorem pA.it{e:Expr}{iQ:ai (List H×Option (Nat×aS))}(c:Ctx K A T C)(c5:C.hd=false)(ax:pA K A (eval e env) iQ s α):jk K A en (eval e env) iQ s α:=fun hc tk =>
 cm (ax hc tk) (fun J J p=>p.iter c.hA (c.hd c5)) fun J J e=>e
theorem v4{e:Expr}{x:X}(c:Ctx K A T C)(c5:C.hd=false)(S:b3 K A C f)(h:pi T N (f N) e=some x)(am:env.scope.names=N)(hn:cp K.hb env)(E:aZ env ρ s.heap α)(r:ak K.hb s.heap σ α) :
  jk K A en (eval e env) (evIt C x ρ σ) s α/\i7 e=true:=by
 unfold pi at h;refine j2 h (fun y hy h=>?_) fun J h=>?_
 ·obtain rfl:=oi h;refine aP (VY c S hy am hn E r) fun q1 q2=>?_;exact⟨q1.it c c5,q2⟩
 ·unfold JM at h;refine cj h fun y hq h=>cG h fun hi h=>?_;obtain rfl:=oi h;exact⟨QL c c5 S hq (by simpa using hi) am hn E r,(S N e _ hq).1⟩
theorem VN{e:Expr}{x:X}(c:Ctx K A T C)(c5:C.hd=false)(S:b3 K A C f)(h:v3 T N (f N) e=some x)(am:env.scope.names=N)(hn:cp K.hb env)(E:aZ env ρ s.heap α)(r:ak K.hb s.heap σ α) :
  ∃en,jk K A en (eval e env) (evIt C x ρ σ) s α/\i7 e=true:=by
 unfold v3 at h;refine j2 h (fun y hy h=>?_) fun J h=>?_
 ·obtain rfl:=oi h;unfold JL at hy;refine cj hy fun q hq u4=>cG u4 fun hg P5=>?_;clear u4 hy;simp only[el,mc,e7]at hg;have hq:=tC hq;obtain⟨g,p,a,pos⟩:=q;refine dI hg fun L hg hb=>?_;dsimp only at L;subst L hq;refine fc (M:=fun y=>∃en,jk K A en (eval (.Call (.Name "enumerate" p) [a] [] pos) env) (evIt C y ρ σ) s α/\i7 (.Call (.Name "enumerate" p) [a] [] pos)=true) P5 fun z bA=>⟨true,QK c c5 S bA hg (by simpa using hb) am hn E r,rfl⟩
 refine j2 h (fun y hy h=>?_) fun J h=>?_
 ·obtain rfl:=oi h;exact fc (M:=fun y=>∃en,jk K A en (eval e env) (evIt C y ρ σ) s α/\i7 e=true) hy fun xs hx=>⟨true,QN c c5 S hx am hn E r⟩
 exact⟨false,v4 c c5 S h am hn E r⟩
end
end Mine
namespace Mine
open PySem PyProof.Rows
section
variable {K:aQ}{A:Around}{T:ba}{C:bh}{f:List (Str×NameKind)->Expr->Option X}{N:List (Str×NameKind)}{env:Env}{ρ:aE}{σ:ac}{s:Shared}{α:au}
theorem Mi{pos:Pos}{pk:Bool}(r:ak K.hb s.heap σ α):Runs K af A (eval (.Dict [] [] pos) env) (ev C (.dnew pk) ρ σ) s α:=by
 intro hc tk;refine wpAny_Dict_empty ?_;have k:∀b o,s.heap.get? b=some o->(s.heap.push { cls:=.type "dict",data:=.dict #[] }).get? b=some o:=fun b o e=>cP _ e
 cases pk with
 | true =>
  refine aP (r.add (D:=s.heap.objs.size) (m:=.dp []) k (kJ s) ⟨[],Heap.DictOfH.new _,rfl,(fun x hx=>nomatch hx),.nil⟩) fun aC x=>?_;refine⟨_,_,_,rfl,x,aC,.ref ?_,⟨rfl,rfl⟩⟩;rw[r.len];simp[au.add]
 | false =>
  refine aP (r.add (D:=s.heap.objs.size) (m:=.ds []) k (kJ s) ⟨[],Heap.DictOf.new _,rfl,.nil⟩) fun aC x=>?_;refine⟨_,_,_,rfl,x,aC,.ref ?_,⟨rfl,rfl⟩⟩;rw[r.len];simp[au.add]
theorem VU{g:Str}{args:List Expr}{p pos:Pos}{x:X}(c:Ctx K A T C)(S:b3 K A C f)(hg:fy N g=true)(h:Bd T (f N) g args=some x):jI K A C N (.Call (.Name g p) args [] pos) x:=by
 unfold Bd at h;refine cj h fun q hb h=>cG h fun hc h=>cj h fun j a0 h=>fc h fun xs G6=>eS (fun J J=>rfl) (fun J J=>rfl) fun{env ρ σ s α} am hn E r cb tk=>?_;obtain⟨b,cl⟩:=q;rw[C4]at cb ⊢;refine aP (cV hc) fun L O=>?_;obtain rfl:=eq_of_beq L
 have rQ:T.meths[j]?=some ("__init__" : Str):=by
  refine aw (List.findIdx?_eq_some_iff_getElem.mp a0) fun L O J=>?_;rw[dx L,eq_of_beq O]
 refine bC (c.brd _ cl hb) fun F B iZ J=>?_;have iZ:=iZ j rQ;refine aJ (p5 hg) fun i hi=>?_;refine kl (qh c.hK r E.ok (by rw[am];exact hi) B.mg ?_)
 cases args with
 | nil=>contradiction
 | cons e es =>
  have ax:=oq (pos:=pos) S G6 am hn E r;refine mT (nE G6) fun eP dC jS gf J=>?_;refine PySem.W.callWith_K B.inn B.keep ?_ (h9 (S N e eP jS).1) (vK S gf).2;refine Runs.use ax cb tk fun vs σ' α' us s' V bG aH aC b2 bH e1=>⟨fun a o e=>aC.base a o (B.inn a o e),?_⟩;show wpAny (model K.prog K.w) A (call (.ref cl) us) (cf K af ((evs C xs ρ σ).bind fun vs σ=>ml C cl (T.fns.length+j) vs σ) s α) (cW K A ((evs C xs ρ σ).bind fun vs σ=>ml C cl (T.fns.length+j) vs σ) s α) s';rw[V];exact cm (iZ vs us s' σ' α' aC b2 bG e1) (fun y iG hp=>hp.lift aH bH) fun e iG hx=>hx.lift aH bH
end
end Mine
namespace Mine
open PySem PyProof.Rows
section
variable {K:aQ}{A:Around}{T:ba}{C:bh}{f:List (Str×NameKind)->Expr->Option X}{N:List (Str×NameKind)}{env:Env}{ρ:aE}{σ:ac}{s:Shared}{α:au}
open PySem.W
theorem ak.frag{F:Frag}{h:Heap}(x:F.In K.hb.h)(r:ak K.hb h σ α):F.In h:=fun a o e=>r.base a o (x a o e)
theorem Hq{c i:Nat}{x:Value}(v:af s.heap α (.inst c i) x):∃a D,x=.ref a/\s.heap.get? a=some (instObj c D)/\a∉α.all/\α.ix[i]?=some D:=by
 cases v with | inst e hn hi=>exact⟨_,_,rfl,e,hn,hi⟩
theorem RD{o:Obj}{es:Array DictEntry}{d5:Nat}{n:Str}(hd:o.data=.dict es d5)(hk:StrKeys es):lookIn n o=some (nsFind es n):=by
 unfold lookIn;rw[hd];dsimp only;unfold nsFind findBy
 have h0:(es.toList.any fun x=>x.refKey)=false:=by
  rw[List.any_eq_false];intro e he;obtain⟨m,t,h⟩:=hk e (by simpa using he);simp[DictEntry.refKey,h]
 rw[h0,<- Array.find?_toList];cases es.toList.find? (fun e=>e.key.isStr n) <;> rfl
theorem Hp{c i:Nat}{x:Value}{fs:List (Str×H)}(r:ak K.hb s.heap σ α)(nG:af s.heap α (.inst c i) x)(hs:σ[i]?=some (.ns fs)) :
  ∃a D lE,x=.ref a/\InstAt s.heap a (instObj c D) c (some lE)/\∀n,∃q,lookIn n lE=some q/\(∀v,aG n fs=some v->∃u,q=some u/\af s.heap α v u)/\(aG n fs=none->q=none):=by
 refine cD (Hq nG) fun a D ae bd=>?_;obtain rfl:=ae;refine dI bd fun bB ha hi=>?_;refine bC (r.obj i _ D hs hi) fun m vE jw bL=>?_;refine rq vE fun lE MJ ME pM tL QV J M3=>?_;refine⟨a,D,lE,rfl,⟨bB,rfl,rfl,pM⟩,fun n=>⟨m n,?_,jw n,bL n⟩⟩;rw[RD tL QV,M3]
theorem Op{v:H}{u:Value}(h:af s.heap α v u):handedIn u=true:=by cases h <;> rfl
theorem K6{F:Frag}{b n:Str}{c:Nat}{o:H}{x:Value}(B:j9 K F b c)(hn:n∈lb)(r:ak K.hb s.heap σ α)(nG:af s.heap α o x):Runs K af A (getAttr x n true) (rg c o n σ) s α:=by
 intro hc tk;unfold rg at hc ⊢
 cases o with
 | inst c3 i =>
  dsimp only at hc ⊢;by_cases q:c3=c
  ·subst q;rw[az rfl]at hc ⊢
   cases hs:σ[i]? with
   | none=>rw[hs]at hc;exact absurd rfl hc
   | some sv =>
    rw[hs]at hc
    cases sv with
    | ns fs =>
     dsimp only at hc ⊢
     cases hv:aG n fs with
     | none=>rw[hv]at hc;exact absurd rfl hc
     | some v =>
      refine jQ (Hp r nG hs) fun a D lE ae bd=>?_;obtain rfl:=ae;refine aP bd fun I ax=>?_;refine bC (ax n) fun q L O J=>?_;refine aw (O v hv) fun u ae dg=>?_;obtain rfl:=ae;exact get_value (r.frag B.inn) I B.geta (findObj_own B.hasd (B.none n hn) rfl L) (Op dg) (.here r dg)
    | _=>exact absurd rfl hc
  ·rw[aY q]at hc;exact absurd rfl hc
 | _=>exact absurd rfl hc
theorem K5{o:Expr}{n:Str}{pos:Pos}{x:X}{b:Str}{cl:Nat}(c:Ctx K A T C)(S:b3 K A C f)(hb:T.brd=some (b,cl))(l5:nq o=true)(hm:n∈lb)(L:f N o=some x)
  (am:env.scope.names=N) (hn:cp K.hb env) (E:aZ env ρ s.heap α) (r:ak K.hb s.heap σ α):Runs K af A (eval (.Attribute o n pos) env) (ev C (.attr cl x n) ρ σ) s α:=by
 refine aw (c.brd b cl hb) fun F B J=>?_;rw[CY,arm_eval_Attribute,tz l5];refine Runs.bind ((S N o x L).2 env ρ σ s α am hn E r).1 fun av aa α₁ s6 s₁ V aM aN aR aV=>Runs.standAt ?_;intro hc tk;exact aI (f6 (cm (K6 B hm aN aR hc tk) (fun u s' hp=>aI (wpAny_letTemporaryGo (bx hp))) fun J J e=>e))
theorem LD{prog:Program}{w:World}{o:Expr}{name:Str}{apos pos:Pos}{args:List Expr}{Q:Value->Shared->Prop}{E:Value->Shared->Prop}
  (rM:attributeBase o name env (eval o env)=eval o env)
  (OS:methodCallForm (args.length+([]:List Keyword).length) (backTo pos (starEach args env)) (backToKw pos (keywordEach [] env))=true) (kE:(apos.endLine == pos.line)=true)
  (h:wpAny (model prog w) A (eval o env) (fun jz s₁=>∀pl,wpAny (model prog w) A (getMethod jz name pl) (fun q aX=>wpAny (model prog w) A (callWith pos q.1 q.2 (backTo pos (starEach args env)) []) Q E aX) E s₁) E s) :
  wpAny (model prog w) A (eval (.Call (.Attribute o name apos) args [] pos) env) Q E s:=by
 rw[arm_eval_Call,rM];refine aI (cm h (fun jz s₁ cE=>aI (wpAny_standAt ?_)) fun J J e=>e)
 have uY:methodCallPos true o env apos pos=pure pos:=by unfold methodCallPos;simp[kE]
 unfold methodCall;rw[OS];refine aI (f6 ?_);exact cm (cE _) (fun q aX fb=>aI (wpAny_of_eq uY fb)) fun J J e=>e
theorem R6{o:Expr}{es:List Expr}{mn:Str}{apos pos:Pos}{x xs:X}{b:Str}{cl j:Nat}(c:Ctx K A T C)(S:b3 K A C f)(hb:T.brd=some (b,cl))(a0:T.meths[j]?=some mn)(l5:nq o=true)(kE:(apos.endLine == pos.line)=true)(cZ:es.length<20)
  (L:f N o=some x) (O:ff (f N) es=some xs) (am:env.scope.names=N) (hn:cp K.hb env) (E:aZ env ρ s.heap α) (r:ak K.hb s.heap σ α) :
  Runs K af A (eval (.Call (.Attribute o mn apos) es [] pos) env) (ev C (.meth cl (T.fns.length+j) mn x xs) ρ σ) s α:=by
 refine bC (c.brd b cl hb) fun F B J Kd=>?_;refine rq (Kd j mn a0) fun X0 sv fd q1 q2 q3 q4 iZ=>?_;rw[C2];intro hc tk;refine aP (vK (env:=env) (pos:=pos) S O) fun Ap nu=>?_;refine LD (tz l5) (by unfold methodCallForm;rw[Ap];simp[backToKw,show keywordEach [] env=[]from rfl];omega) kE ?_;refine Runs.use ((S N o x L).2 env ρ σ s α am hn E r).1 hc tk fun av aa α₁ e2 s₁ V bG aM aN aR aV et pl=>?_;rw[V];change nj C cl (T.fns.length+j) mn av _ aa≠_ at bG;show wpAny _ _ _ (fun q aX=>wpAny _ _ _ (cf K af (nj C cl (T.fns.length+j) mn av _ aa) s α) (cW K A (nj C cl (T.fns.length+j) mn av _ aa) s α) aX) (cW K A (nj C cl (T.fns.length+j) mn av _ aa) s α) _;unfold nj at bG ⊢
 cases av with
 | inst c3 i =>
  dsimp only at bG ⊢;by_cases q:c3=cl
  ·subst q;rw[az rfl]at bG ⊢
   cases hs:aa[i]? with
   | none=>rw[hs]at bG;exact absurd rfl bG
   | some Sg =>
    rw[hs]at bG
    cases Sg with
    | ns fs =>
     dsimp only at bG ⊢
     cases hv:aG mn fs with
     | some v=>rw[hv]at bG;exact absurd rfl bG
     | none =>
      rw[hv]at bG;dsimp only at bG ⊢;refine jQ (Hp aN aR hs) fun a D lE ae bd=>?_;obtain rfl:=ae;refine aP bd fun I ax=>?_;refine bC (ax mn) fun q g1 J g2=>?_;obtain rfl:=g2 hv;refine method_fn (aN.frag B.inn) I B.geta B.getr q1 q2 (by show(lookIn mn lE).map (·.isSome)=_;rw[g1];rfl) ?_;have Kf:=oq (pos:=pos) S O am hn (E.ext aM .nil) aN;refine Calls.callWith_function (o:=sv) (fd:=fd) (wV ?_ nu);refine Runs.useL aM aV Kf bG et fun vs ao cc us aX aj dO bg r2 bu ck jA=>⟨⟨r2.base _ _ q3,q4⟩,?_⟩;exact aj.symm▸((iZ (.inst c3 i::vs) _ aX ao cc r2 (.cons (aR.ext bg) bu)).endL (aM.trans bg) (aV.trans ck) dO jA)
    | _=>exact absurd rfl bG
  ·rw[aY q]at bG;exact absurd rfl bG
 | _=>exact absurd rfl bG
end
end Mine
namespace Mine
open PySem PyProof.Rows
theorem sP:∀{names:List (Str×NameKind)},pa names=true->wH names:=by
 intro r
 induction r with
 | nil =>
  intro _;exact⟨fun i j x k b8 h=>(nomatch h),fun i x k h=>(nomatch h),fun i x k h=>(nomatch h)⟩
 | cons bt r ag =>
  obtain⟨y,k0⟩:=bt;intro h;simp only[pa,el,Bool.not_eq_true',Bool.or_eq_true,e7]at h;obtain⟨⟨⟨L,O⟩,ar⟩,aU⟩:=h;have ag:=ag aU
  have no:∀(i:Nat) (k:NameKind),r[i]?≠some (y,k):=fun i k e=>by
   have hm:=eb e;rw[List.any_eq_false]at L;exact L _ hm (by simp)
  refine⟨fun i j x k b8 V aj=>?_,fun i x k e=>?_,fun i x k e=>?_⟩
  ·cases i with
   | zero =>
    cases j with
    | zero=>rfl
    | succ j =>
     simp at V aj;obtain⟨rfl,rfl⟩:=V;exact absurd aj (no j b8)
   | succ i =>
    cases j with
    | zero =>
     simp at V aj;obtain⟨rfl,rfl⟩:=aj;exact absurd V (no i k)
    | succ j =>
     simp at V aj;rw[ag.uniq i j x k b8 V aj]
  ·cases i with
   | zero=>simp at e;obtain⟨rfl,rfl⟩:=e;exact O
   | succ i=>simp at e;exact ag.nodbg i x k e
  ·cases i with
   | zero =>
    simp at e;obtain⟨rfl,rfl⟩:=e
    rcases ar with(ar | ar) | ar
    ·exact .inl ar
    ·exact .inr (.inl ar)
    ·exact .inr (.inr ar)
   | succ i=>simp at e;exact ag.kinds i x k e
section
variable {K:aQ}{A:Around}{T:ba}{C:bh}{f:List (Str×NameKind)->Expr->Option X}{N:List (Str×NameKind)}{env:Env}{ρ:aE}{σ:ac}{s:Shared}{α:au}
theorem Cu{a6:Bool}{t:Nat}{b9:List (Option Nat)}{elt cond it:X}(c5:C.hd=false):ev C (.comp a6 t b9 elt cond it) ρ σ =
  mP a6 (fun v σ=>tst C cond ((cy b9 ρ).set t (some v)) σ) (fun v σ=>ev C elt ((cy b9 ρ).set t (some v)) σ) (evIt C it ρ σ):=by
 rw[ky,c5];unfold mP gX;rw[cond_false];congr 1
structure qT(T:ba)(N:List (Str×NameKind))(f:List (Str×NameKind)->Expr->Option X)(elt:Expr)(x:Str)(iter:Expr)(ifs:List Expr)(scope:Scope)(a6:Bool)(t:Nat)(e c i:X):Prop where
 kind:scope.kind=.function
 sc:pa (dn N scope.names)=true
 cells:∀p∈scope.names,p.2≠.cell
 tgt:(dn N scope.names)[t]?=some (x,NameKind.local)
 it:pi T N (f N) iter=some i
 elt:f (dn N scope.names) elt=some e
 cond:Ba (f (dn N scope.names)) ifs=some c
theorem JK{elt iter:Expr}{x:Str}{pos:Pos}{ifs:List Expr}{scope:Scope}{y:X}{P:X->Prop}(h:v1 T N f elt x iter ifs scope pos=some y)
  (k:∀t e c i,qT T N f elt x iter ifs scope (!(T.muts.contains (pos.line,pos.col))) t e c i->P (.comp (!(T.muts.contains (pos.line,pos.col))) t (h2 N (dn N scope.names)) e c i)):P y:=by
 unfold v1 at h;refine cG h fun hk h=>cj h fun t J h=>cG h fun a1 h=>j1 h fun i e c L O ar=>k t e c i ?_;refine aP (cV hk) fun hk O3=>?_;refine aP (cV hk) fun lq ju=>?_;exact⟨eq_of_beq lq,ju,fun p hp=>bne_iff_ne.mp (fC.mp O3 p hp),eq_of_beq a1,L,O,ar⟩
theorem qT.ok{elt iter:Expr}{x:Str}{ifs:List Expr}{scope:Scope}{a6:Bool}{t:Nat}{e c i:X}(q:qT T N f elt x iter ifs scope a6 t e c i)(am:env.scope.names=N):ka env.scope.names scope t x:=by
 subst am;exact⟨q.kind,sP q.sc,q.cells,q.tgt⟩
theorem tJ{scope:Scope}{jJ:Addr}(am:env.scope.names=N)(E:aZ env ρ s.heap α):(gC scope jJ env).scope.names=dn N scope.names:=by exact am▸(AG E.ok.kind)
theorem tH{scope:Scope}(am:env.scope.names=N):n9 scope env ρ=cy (h2 N (dn N scope.names)) ρ:=by rw[<- am]
theorem Cy{ifs:List Expr}{cond:X}{M:List (Str×NameKind)}{cenv:Env}(S:b3 K A C f)(h:Ba (f M) ifs=some cond)(Ob:cenv.scope.names=M)(ef:cp K.hb cenv)(dF:aZ cenv ρ s.heap α)(aC:ak K.hb s.heap σ α) :
  Runs K hX A (forIn ifs true fun c r=>if r=true then do let ok <- isTrue c cenv (eval c cenv);pure (ForInStep.yield ok)else pure (ForInStep.yield r)) (tst C cond ρ σ) s α:=by
 cases ifs with
 | nil =>
  obtain rfl:=oi h;exact fun J J=>wpAny_tests_nil ⟨true,σ,α,rfl,.refl,aC,rfl,.refl _⟩
 | cons cr eU =>
  change bT _ _=_ at h;refine cG h fun h0 h=>?_;exact(gQ.mp h0).symm▸(fun hc tk=>wpAny_tests_one (((S _ cr cond h).2 _ _ σ s α Ob ef dF aC).2 hc tk))
theorem Cr{elt iter:Expr}{x:Str}{iF pos:Pos}{ifs:List Expr}{scope:Scope}{a6:Bool}{t:Nat}{e iQ i:X}(c:Ctx K A T C)(S:b3 K A C f)(q:qT T N f elt x iter ifs scope a6 t e iQ i)
  (am:env.scope.names=N) (hn:cp K.hb env) (E:aZ env ρ s.heap α) (r:ak K.hb s.heap σ α) :
  Runs K af A (eval (.ListComp elt [⟨.Name x iF,iter,ifs,0⟩] scope pos) env) (ev C (.comp a6 t (h2 N (dn N scope.names)) e iQ i) ρ σ) s α:=by
 cases c5:C.hd with
 | true=>rw[ky,c5];exact fun hc=>absurd rfl hc
 | false =>
 rw[Cu c5];obtain⟨eY,hpl⟩:=v4 c c5 S q.it am hn E r;refine Ru (q.ok am) E eY (fun jJ v s' σ' α' ef dF aC=>?_) (fun jJ v s' σ' α' ef dF aC=>?_) c.fr hn r (As hpl)
 ·rw[tH am]at dF;exact Cy S q.cond (tJ am E) ef dF aC
 ·rw[tH am]at dF;exact((S _ elt e q.elt).2 _ _ σ' s' α' (tJ am E) ef dF aC).1
theorem VF{l:Expr}{os:List CmpOp}{ia:List Expr}{pos:Pos}{x:X}(c:Ctx K A T C)(S:b3 K A C f)(h:A8 (f N) l os ia=some x):jI K A C N (.Compare l os ia pos) x:=by
 unfold A8 at h
 cases os with
 | nil=>contradiction
 | cons o os =>
  cases ia with
  | nil=>contradiction
  | cons aN ia =>
   cases os with
   | nil =>
    change bT _ _=_ at h;refine cG h fun h0 h=>?_;exact(gQ.mp h0).symm▸(j1 h fun aK a b L O ar env ρ σ s α am hn E r=>LY c S L O ar am hn E r)
   | cons bL os =>
    cases ia with
    | nil=>contradiction
    | cons r2 ia =>
     change bT _ _=_ at h;refine cG h fun h0 h=>cj h fun aK L h=>?_;refine aP (cV h0) fun h0 NR=>?_;exact(gQ.mp h0).symm▸(gQ.mp NR).symm▸(S3 h fun a b X3 d4 O ar aU dj env ρ σ s α am hn E r=>LX c S L aU O ar dj am hn E r)
theorem VV{g:Str}{a:Expr}{p pos:Pos}{x:X}(c:Ctx K A T C)(S:b3 K A C f)(hg:fy N g=true)(gf:g∈T.bins)(h:Be T N (f N) pos g a=some x):jI K A C N (.Call (.Name g p) [a] [] pos) x:=by
 unfold Be at h;refine j2 h (fun y zi h'=>?_) fun J h=>?_
 rotate_left
 ·exact fQ h fun b1 aM rK p2=>eS (fun J J=>rfl) (fun J J=>rfl) fun am hn E r=>K7 c S rK hg gf p2 am hn E r
 unfold HL at zi;clear h;refine cj zi fun q hq GO=>cG GO fun gm Pb=>?_;clear GO zi;have hq:=tC hq;obtain⟨g2,br,aL,Au⟩:=q;obtain rfl:=oi Pb;simp only[el,e7,mc]at gm;obtain⟨⟨L,O⟩,zd,uP⟩:=gm;subst L O hq;exact fc h' fun z bA=>eS (fun J J=>rfl) (fun J J=>rfl) fun am hn E r=>Rp c S hg gf zd (by simpa using uP) bA am hn E r
theorem V5{g:Str}{a b:Expr}{p pos:Pos}{x:X}(c:Ctx K A T C)(S:b3 K A C f)(hg:fy N g=true)(gf:g∈T.bins)(h:Bk T N (f N) g a b=some x):jI K A C N (.Call (.Name g p) [a,b] [] pos) x:=by
 unfold Bk at h;refine Cx h (fun gm h=>?_) fun h=>cG h fun gm h=>?_
 ·obtain rfl:=eq_of_beq gm;refine cj h fun q hq h=>?_;rw[nc hq];refine j2 h (fun eh jT h=>fc h fun z bA=>eS (fun J J=>rfl) (fun J J=>rfl) fun am hn E r=>Qu c S jT hg gf bA am hn E r) fun J h=>?_;refine cG h fun gm h=>?_;refine aP (cV gm) fun oP uR=>?_;exact fQ h fun aM ty p2 l8=>eS (fun J J=>rfl) (fun J J=>rfl) fun am hn E r=>QD c S l8 hg gf oP (by simpa using uR) p2 am hn E r
 ·obtain rfl:=eq_of_beq gm;exact fQ h fun aM e2 p2 u4=>eS (fun J J=>rfl) (fun J J=>rfl) fun am hn E r=>R9 c S hg gf p2 u4 am hn E r
theorem VE{g:Str}{args:List Expr}{p pos:Pos}{x:X}(c:Ctx K A T C)(S:b3 K A C f)(h:A7 T N (f N) pos g args=some x):jI K A C N (.Call (.Name g p) args [] pos) x:=by
 unfold A7 at h;refine cG h fun hg h=>j2 h (fun i hi h=>cG h fun dc h=>fc h fun xs hq=>eS (fun J J=>rfl) (fun J J=>rfl) fun am hn E r=>?_) fun J h=>j2 h (fun y hy h=>by obtain rfl:=oi h;exact VU c S hg hy) fun J h=>cG h fun hb h=>?_
 ·have OZ:T.fns[i]?=some g:=by
   refine aw (List.findIdx?_eq_some_iff_getElem.mp hi) fun L O J=>?_;rw[dx L,eq_of_beq O]
  exact Lx c S OZ hg (fun q=>by subst q;contradiction) hq am hn E r
 ·have gf:g∈T.bins:=by simpa using hb
  cases args with
  | nil=>contradiction
  | cons a r =>
   cases r with
   | nil=>exact VV c S hg gf h
   | cons b r =>
    change bT _ _=_ at h;refine cG h fun h0 h=>?_;rw[gQ.mp h0];exact V5 c S hg gf h
theorem Qp{e:Expr}{q:List (Option Expr)×List Expr×Pos}(h:Hu e=some q):e=.Dict q.1 q.2.1 q.2.2:=su (o:=Cz e) h
theorem Rz{e:Expr}(h:HR e=true):∃k p,e=.Constant (.int 1) k p:=by
 cases e with
 | Constant c k p =>
  cases c with
  | int i=>obtain rfl:=eq_of_beq (show(i == 1)=true from h);exact⟨_,_,rfl⟩
  | _=>contradiction
 | _=>contradiction
theorem VK{ks:List (Option Expr)}{vs:List Expr}{m:Str}{args:List Expr}{tP apos pos:Pos}{x:X}(c:Ctx K A T C)(S:b3 K A C f)(hl:(apos.endLine == pos.line)=true)(h:A9 (f N) ks vs m args=some x):jI K A C N (.Call (.Attribute (.Dict ks vs tP) m apos) args [] pos) x:=by
 unfold A9 at h
 cases args with
 | nil=>contradiction
 | cons k aN =>
  dsimp only at h;refine cj h fun d h0 h=>cG h fun hm h=>cj h fun l L h=>cG h fun hc h'=>?_;obtain rfl:=eq_of_beq hm;obtain rfl:=sB h0;simp only[el,im,Bool.not_eq_true',List.isEmpty_eq_false_iff]at hc;obtain⟨⟨q1,q2⟩,q3⟩:=hc;exact j1 h' fun cI XW Xn O ar aU=>eS (fun J J=>rfl) (fun J J=>rfl) fun am hn E r=>M6 c S hl L O q1 q2 q3 ar aU am hn E r
theorem VR{o:Expr}{m:Str}{args:List Expr}{apos pos:Pos}{x:X}(c:Ctx K A T C)(S:b3 K A C f)(hl:(apos.endLine == pos.line)=true)(h:Bb T (f N) o m args=some x):jI K A C N (.Call (.Attribute o m apos) args [] pos) x:=by
 unfold Bb at h;refine j2 h (fun q hd h=>?_) fun J h=>cG h fun zj h=>?_
 ·rw[Qp hd];exact VK c S hl h
 ·refine Cx h (fun hm h=>cj h fun q hb h=>cj h fun j a0 h=>cG h fun cZ h=>fQ h fun vI xs L O=>eS (fun J J=>rfl) (fun J J=>rfl) fun am hn E r=>?_) fun h=>?_
  ·have rQ:T.meths[j]?=some m:=by
    refine aw (List.findIdx?_eq_some_iff_getElem.mp a0) fun g1 g2 J=>?_;rw[dx g1,eq_of_beq g2]
   exact R6 (b:=q.1) c S hb rQ zj hl (hZ cZ) L O am hn E r
  cases args with
  | nil=>exact fQ h fun lB vI h0 L=>eS (fun J J=>rfl) (fun J J=>rfl) fun am hn E r=>RV S h0 hl zj L am hn E r
  | cons a r =>
   cases r with
   | nil=>exact j1 h fun lB vI Xd h0 L O=>eS (fun J J=>rfl) (fun J J=>rfl) fun am hn E r=>RY c S h0 hl zj L O am hn E r
   | cons b r =>
    contradiction
theorem Qr{e:Expr}(h:Hv e=true):∃k p br,e=.UnaryOp .USub (.Constant (.int 1) k p) br:=by
 refine aJ (Option.isSome_iff_exists.mp h) fun a ha=>?_;refine cj ha fun b hb h=>cG h fun h J=>?_;refine hL (Rz h) fun k p ae=>?_;obtain rfl:=ae
 cases e with
 | UnaryOp o a br =>
  cases o with
  | USub=>obtain rfl:=oi hb;exact⟨_,_,_,rfl⟩
  | _=>contradiction
 | _=>contradiction
theorem KV{e:Expr}{q:Option Expr×Option Expr×Option Expr×Pos}(h:B8 e=some q):e=.Slice q.1 q.2.1 q.2.2.1 q.2.2.2:=su (o:=Jd e) h
theorem V3{o i:Expr}{pos:Pos}{x:X}(c:Ctx K A T C)(S:b3 K A C f)(h:Bi (f N) o i=some x):jI K A C N (.Subscript o i pos) x:=by
 unfold Bi at h;refine j2 h (fun q hi h=>?_) fun hi h=>fQ h fun a b L O=>eS (fun J J=>rfl) (fun J J=>rfl) fun am hn E r=>Vc c S (fun l u st p q=>by subst q;contradiction) L O am hn E r;have hi:=KV hi;obtain⟨lo,hi,st,p⟩:=q;subst hi
 cases st with
 | none=>exact j1 h fun vI XZ hx L O ar=>eS (fun J J=>rfl) (fun J J=>rfl) fun am hn E r=>UB S L O ar am hn E r
 | some st =>
  change bT _ _=_ at h;refine cG h fun gm h=>?_;simp only[el,mK]at gm;obtain⟨⟨L,O⟩,hm⟩:=gm;refine mU (Qr hm) fun k bj br ae=>?_;obtain rfl:=ae;subst L O;exact fc h fun y hy=>eS (fun J J=>rfl) (fun J J=>rfl) fun am hn E r=>Ua S hy am hn E r
theorem JJ{elt:Expr}{gens:List Comprehension}{scope:Scope}{pos:Pos}{x:X}(h:s2 T N f elt gens scope pos=some x):∃z p iter ifs,gens=[⟨.Name z p,iter,ifs,0⟩]/\v1 T N f elt z iter ifs scope pos=some x:=by
 unfold s2 at h;refine cj h fun g hg h=>cG h fun ha h=>cj h fun q hq h=>?_;obtain⟨AZ,iter,ifs,Xc⟩:=g;obtain rfl:=nc hq;obtain rfl:=eq_of_beq ha;exact⟨q.1,q.2,iter,ifs,sB hg,h⟩
theorem VG{elt:Expr}{gens:List Comprehension}{scope:Scope}{pos:Pos}{x:X}(c:Ctx K A T C)(S:b3 K A C f)(h:s2 T N f elt gens scope pos=some x):jI K A C N (.ListComp elt gens scope pos) x:=by
 refine xi (JJ h) fun z p iter ifs ae h=>?_;obtain rfl:=ae;exact JK h fun t e iQ i q=>eS (fun J J=>rfl) (fun J J=>rfl) fun am hn E r=>Cr c S q am hn E r
theorem V2(c:Ctx K A T C)(S:b3 K A C f):b3 K A C (JP T f):=by
 intro N e x h
 cases e with
 | Constant iQ _ _=>exact⟨rfl,fc h fun v hq=>eS (fun J J=>rfl) (fun J J=>rfl) fun J J J r=>w8 hq r⟩
 | Name z p=>exact⟨rfl,VT c h⟩
 | BoolOp o es pos =>
  cases o with
  | And=>exact⟨rfl,fc h fun v hq env ρ σ s α am hn E r=>KQ S hq am hn E r⟩
  | Or=>exact⟨rfl,fc h fun v hq env ρ σ s α am hn E r=>S8 S hq am hn E r⟩
 | UnaryOp o a pos =>
  cases o with
  | Not=>exact⟨rfl,fc h fun v hq env ρ σ s α am hn E r=>SV S hq am hn E r⟩
  | USub=>exact⟨rfl,fc h fun v hq=>eS (fun J J=>rfl) (fun J J=>rfl) fun am hn E r=>SG S hq am hn E r⟩
  | _=>contradiction
 | BinOp l o aC pos=>exact⟨rfl,j1 h fun J J J ho ha hb=>eS (fun J J=>rfl) (fun J J=>rfl) fun am hn E r=>Le c S ho ha hb am hn E r⟩
 | Compare l os ia pos=>exact⟨rfl,VF c S h⟩
 | IfExp t a b pos=>exact⟨rfl,j1 h fun J J J L O ar env ρ σ s α am hn E r=>Qb c S L O ar am hn E r⟩
 | List es pos=>exact⟨rfl,fc h fun v hq=>eS (fun J J=>rfl) (fun J J=>rfl) fun am hn E r=>Rv S hq am hn E r⟩
 | Tuple es k pos=>exact⟨rfl,fc h fun v hq=>eS (fun J J=>rfl) (fun J J=>rfl) fun am hn E r=>Wf S hq am hn E r⟩
 | Call fn args HE pos =>
  refine⟨rfl,?_⟩;change bT _ _=_ at h;refine cG h fun hk h=>?_;rw[gQ.mp hk]
  cases fn with
  | Name g p=>exact VE c S h
  | Attribute o m apos =>
   change bT _ _=_ at h;exact cG h fun hl h=>VR c S hl h
  | _=>contradiction
 | Attribute o n pos =>
  refine⟨rfl,cj h fun q hb h=>cG h fun hc h=>fc h fun vI L=>?_⟩;refine aP (cV hc) fun bG dO=>?_;exact eS (fun J J=>rfl) (fun J J=>rfl) fun am hn E r=>K5 (b:=q.1) c S hb bG (mL.mp dO) L am hn E r
 | Subscript o i pos=>exact⟨rfl,V3 c S h⟩
 | Dict ks vs pos =>
  change bT _ _=_ at h;refine⟨rfl,cG h fun hc h=>?_⟩;refine aP (cV hc) fun L O=>?_;rw[gQ.mp L,gQ.mp O];obtain rfl:=oi h;exact eS (fun J J=>rfl) (fun J J=>rfl) fun J J J r=>Mi r
 | ListComp elt gens scope pos=>exact⟨rfl,VG c S h⟩
 | _=>contradiction
theorem VH(c:Ctx K A T C):∀n,b3 K A C (qG T n):=by
 intro n
 induction n with
 | zero =>
  exact fun N e x h=>by contradiction
 | succ n ag =>
  exact V2 c (ag)
end
end Mine
namespace Mine
open PySem PyProof.Rows
section
variable {K:aQ}{A:Around}{s:Shared}{α:au}{σ:ac}
end
noncomputable def e8(env:Env):List Addr:=env.locals::env.cells.map (·.2)
theorem iv{env:Env}{ρ:aE}{h:Heap}{α:au}(E:aZ env ρ h α)(hd:∀p∈env.cells,env.cells.lookup p.1=some p.2):∀b∈e8 env,∃o,h.get? b=some o:=by
 intro b hb
 rcases bE.mp hb with q | q
 ·subst q;obtain⟨m,⟨o,_,_,e,_⟩,_⟩:=E.ns;exact⟨o,e⟩
 ·refine aw (cK.mp q) fun p hp ae=>?_;obtain rfl:=ae;refine dI (E.ca p.1 p.2 (hd p hp)) fun J J bd=>?_;refine cD bd fun v o e J=>?_;exact⟨o,e⟩
structure dR(hb:fY)(env:Env):Prop where
 sc:wH env.scope.names
 new:cp hb env
 cl:∀p∈env.cells,env.cells.lookup p.1=some p.2
 inter:interactive env=false
noncomputable def Kc(c:c8)(h:Heap)(α:au)(fl:Flow)(ρ:aE)(σ:ac):Prop:=
 match c with
 | .next ρ' σ'=>fl=.next/\ρ'=ρ/\σ'=σ
 | .brk ρ' σ'=>fl=.brk/\ρ'=ρ/\σ'=σ
 | .cont ρ' σ'=>fl=.cont/\ρ'=ρ/\σ'=σ
 | .ret v ρ' σ'=>(∃u,fl=.ret u/\af h α v u)/\ρ'=ρ/\σ'=σ
 | _=>False
inductive jL(K:aQ)(env:Env)(c:c8)(s:Shared)(α:au)(fl:Flow)(s':Shared):Prop where
 | mk (ρ':aE) (σ':ac) (α':au) (x:aW (e8 env) α s.heap α' s'.heap) (r:ak K.hb s'.heap σ' α') (MG:aZ env ρ' s'.heap α') (m:cJ s s') (fo:Kc c s'.heap α' fl ρ' σ'):jL K env c s α fl s'
inductive kg(K:aQ)(wL:Around)(env:Env)(c:c8)(s:Shared)(α:au)(e:Value)(s':Shared):Prop where
 | mk (i:Nat) (ρ:aE) (σ':ac) (s₁:Shared) (α₁:au) (dP:Bool) (h:c=.exc i ρ σ') (x:aW (e8 env) α s.heap α₁ s₁.heap) (MG:aZ env ρ s₁.heap α₁) (m:cJ s s₁) (eJ:gK K s₁ α₁ i σ' dP e s'):kg K wL env c s α e s'
noncomputable def gy(K:aQ)(env:Env)(A:Around)(t:Sem Flow)(c:c8)(s:Shared)(α:au):Prop:=
 c≠.stuck->K.Tk s->wpAny (model K.prog K.w) A t (jL K env c s α) (kg K A env c s α) s
section
variable {K:aQ}{A:Around}{T:ba}{C:bh}{N:List (Str×NameKind)}{env:Env}{ρ:aE}{σ:ac}{s:Shared}{α:au}
theorem jL.lift{c:c8}{s₁:Shared}{α₁:au}{fl:Flow}{s':Shared}(x:aW (e8 env) α s.heap α₁ s₁.heap)(m:cJ s s₁)(p:jL K env c s₁ α₁ fl s'):jL K env c s α fl s':=by
 obtain⟨ρ',σ',α',aH,r,E,bH,fo⟩:=p;exact⟨ρ',σ',α',x.trans aH,r,E,m.trans bH,fo⟩
theorem kg.lift{c:c8}{s₁:Shared}{α₁:au}{e:Value}{s':Shared}(x:aW (e8 env) α s.heap α₁ s₁.heap)(m:cJ s s₁)(p:kg K A env c s₁ α₁ e s'):kg K A env c s α e s':=by
 obtain⟨i,ρ,σ',aX,cc,dP,h,aH,E,bH,eJ⟩:=p;exact⟨i,ρ,σ',aX,cc,dP,h,x.trans aH,E,m.trans bH,eJ⟩
theorem cW.toS{β:Type}{c:ai β}{f:β->ac->c8}{e:Value}{s':Shared}(E:aZ env ρ s.heap α)(p:cW K A c s α e s'):kg K A env (c.toS ρ f) s α e s':=by
 obtain⟨i,σ',h,dP,eJ⟩:=p;exact⟨i,ρ,σ',s,α,dP,by rw[h];rfl,.refl,E,.refl s,eJ⟩
theorem h6(F:dR K.hb env)(E:aZ env ρ s.heap α){α':au}{h':Heap}(x:aW [] α s.heap α' h'):aW (e8 env) α s.heap α' h':=
 x.mono ((fun J q=>absurd q dT)) (iv E F.cl)
theorem Runs.useS{β γ:Type}{dA:Heap->au->β->γ->Prop}{t:Sem γ}{c:ai β}{f:β->ac->c8}{W:γ->Shared->Prop}(E:aZ env ρ s.heap α)(ax:Runs K dA A t c s α)(hc:c.toS ρ f≠.stuck)(tk:K.Tk s)
  (N:∀b σ' α' y s',c=.ok b σ'->f b σ'≠.stuck->aW [] α s.heap α' s'.heap->ak K.hb s'.heap σ' α'->dA s'.heap α' b y->cJ s s'->K.Tk s'->W y s'):wpAny (model K.prog K.w) A t W (kg K A env (c.toS ρ f) s α) s:=by
 have L:c≠.stuck:=by rintro rfl;exact hc rfl
 refine cm (jb (ax L tk)) (fun y s' hp=>?_) fun e s' hx=>hx.1.toS E;obtain⟨⟨b,σ',α',rfl,x,r,v,m⟩,iJ⟩:=hp;exact N b σ' α' y s' rfl hc x r v m (aQ.Tk.up tk iJ)
theorem qA{i:Nat}{x:Str}{k:NameKind}{v:H}{u:Value}{Q:Unit->Shared->Prop}{X:Value->Shared->Prop}(F:dR K.hb env)(r:ak K.hb s.heap σ α)(E:aZ env ρ s.heap α)
  (hn:env.scope.names[i]?=some (x,k)) (hk:k=.local\/k=.cell) (dg:af s.heap α v u)
  (a2:∀s',ak K.hb s'.heap σ α->aZ env (ρ.set i (some v)) s'.heap α->aW (e8 env) α s.heap α s'.heap->cJ s s'->Q () s') :
  wpAny (model K.prog K.w) A (storeName env x u) Q X s:=by
 rcases hk with rfl | rfl
 ·refine Jn F.sc.uniq r E F.new.l hn dg fun s' aC dF aH J bH=>a2 s' aC dF (aH.mono (by simp[e8]) (iv E F.cl)) bH
 ·refine U0 F.sc.uniq r E F.new hn dg fun c s' hc aC dF aH bH=>a2 s' aC dF (aH.mono ?_ (iv E F.cl)) bH;intro b hb;simp at hb;subst hb;exact bI _ (cK.mpr ⟨_,mem_of_lookup hc,rfl⟩)
theorem vW{e:Expr}{t:Option Expr}{line:Nat}(h:mf e=false):swapsWith e t line env=pure false:=by
 cases e <;> first | rfl | contradiction
theorem K3{x:Str}{p pos:Pos}{e:Expr}{i:Nat}{k:NameKind}{y:X}(F:dR K.hb env)(js:mf e=false)(hn:env.scope.names[i]?=some (x,k))(hk:k=.local\/k=.cell)
  (ax:Runs K af A (eval e env) (ev C y ρ σ) s α) (E:aZ env ρ s.heap α) {n:Nat} :
  gy K env A (exec (.Assign [.Name x p] e pos) env) (ex C n (.asg i y) ρ σ) s α:=by
 change gy K env A _ ((ev C y ρ σ).toS ρ fun v σ=>.next (ρ.set i (some v)) σ) s α;intro hc tk;refine wpAny_Assign_Name (Runs.useS E ax hc tk fun v aa α₁ u s₁ V bG aM aN aR aV et=>?_) (vW js);refine qA F aN (E.ext aM .nil) hn hk aR fun aX r2 kW bg ck=>?_;exact V.symm▸(⟨_,_,_,(h6 F E aM).trans bg,r2,kW,aV.trans ck,rfl,rfl,rfl⟩)
theorem M0{e:Expr}{pos:Pos}{y:X}(F:dR K.hb env)(js:mf e=false)
  (ax:Runs K af A (eval e env) (ev C y ρ σ) s α) (E:aZ env ρ s.heap α) {n:Nat} :
  gy K env A (exec (.Expr e pos) env) (ex C n (.expr y) ρ σ) s α:=by
 change gy K env A _ ((ev C y ρ σ).toS ρ fun J σ=>.next ρ σ) s α;intro hc tk;refine wpAny_Expr_any (Runs.useS E ax hc tk fun v aa α₁ u s₁ V bG aM aN aR aV et=>?_) F.inter (vW js);exact V.symm▸(⟨ρ,aa,α₁,h6 F E aM,aN,E.ext aM .nil,aV,rfl,rfl,rfl⟩)
theorem T9{e:Expr}{pos:Pos}{y:X}(F:dR K.hb env)
  (ax:Runs K af A (eval e env) (ev C y ρ σ) s α) (E:aZ env ρ s.heap α) {n:Nat} :
  gy K env A (exec (.Return (some e) pos) env) (ex C n (.ret y) ρ σ) s α:=by
 change gy K env A _ ((ev C y ρ σ).toS ρ fun v σ=>.ret v ρ σ) s α;intro hc tk;refine wpAny_Return_some (Runs.useS E ax hc tk fun v aa α₁ u s₁ V bG aM aN aR aV et=>?_);exact V.symm▸(⟨ρ,aa,α₁,h6 F E aM,aN,E.ext aM .nil,aV,⟨u,rfl,aR⟩,rfl,rfl⟩)
theorem UX{q:Nat}{l:Addr}{es:List ((Str×Int)×H)}{p v:H}{k:Str×Int}{x u:Value}{Q:Unit->Shared->Prop}{X:Value->Shared->Prop}(hA:d9 A)(r:ak K.hb s.heap σ α)(hs:σ[q]?=some (.dp es))(dr:α.ix[q]?=some l)
  (hk:g5 p=some k) (lN:af s.heap α p x) (cI:af s.heap α v u) (hl:es.length<aB)
  (a2:∀s',ak K.hb s'.heap (σ.set q (.dp (ee k v es))) α->aW [] α s.heap α s'.heap->cJ s s'->Q () s'):wpAny (model K.prog K.w) A (setItem (.ref l) x u) Q X s:=by
 refine om (pJ r hs dr) fun xs L O ar aU=>?_;refine aw (vm (K:=K) hk lN) fun b ae bd=>?_;obtain rfl:=ae;refine aP bd fun hb Oy=>?_
 have cZ:xs.length<=sizeLine:=by
  have e:=congrArg List.length O;simp only[bc,kvsOf]at e;exact e.symm▸(g6 (hH hl))
 refine wpAny_setItem_heap (hsz:=cZ) (sM hA) hb L fun h' eo fI=>?_;refine jQ (id eo) fun aK es' MD aA J=>?_;have rS:=B6 vk (k:=k) O aU cI
 obtain⟨aC,aH⟩:=r.set (m:=.dp (ee k v es)) dr (fun b o hb e=>(fI.2 b hb).trans e) aA fun aH=>⟨storedH xs (ly k) b u,eo,by
   have:=rS.1;rw[<- kvsOf_storedH,kvsOf,hI]at this
   exact this,fun y hy=>by
   rcases mem_storedH hy with⟨z,bA,_,aj⟩ | ⟨_,aj⟩
   ·exact aj.symm▸(ar z bA)
   ·exact aj.symm▸Oy,by
   have:=rS.2;rw[<- kvsOf_storedH,kvsOf,hI]at this
   exact this.ext aH⟩
 exact a2 _ aC aH ⟨rfl,rfl⟩
theorem UY{q:Nat}{l:Addr}{es:List (Str×H)}{v:H}{k:Str}{t:Tok}{u:Value}{Q:Unit->Shared->Prop}{X:Value->Shared->Prop}(r:ak K.hb s.heap σ α)(hs:σ[q]?=some (.ds es))(dr:α.ix[q]?=some l)
  (cI:af s.heap α v u) (hl:es.length<aB)
  (a2:∀s',ak K.hb s'.heap (σ.set q (.ds (ee k v es))) α->aW [] α s.heap α s'.heap->cJ s s'->Q () s'):wpAny (model K.prog K.w) A (setItem (.ref l) (.str k t) u) Q X s:=by
 refine bC (pK r hs dr) fun eL L O aU=>?_
 have cZ:eL.length<=sizeLine:=by
  have e:=congrArg List.length O;simp only[bc]at e;exact e.symm▸(g6 (hH hl))
 refine wpAny_setItem_pairs (hsz:=cZ) sU L fun h' eo fI=>?_;refine jQ (id eo) fun aK es' MD aA J=>?_;have rS:=B6 (g:=id) (fun J J h=>h) (k:=k) O aU cI;refine aP (r.set (m:=.ds (ee k v es)) dr (fun b o hb e=>(fI.2 b hb).trans e) aA fun aH=>⟨stored eL k u,eo,rS.1,rS.2.ext aH⟩) fun aC aH=>?_;exact a2 _ aC aH ⟨rfl,rfl⟩
theorem UW{q:Nat}{l:Addr}{m bH:aS}{i v:H}{x u:Value}{Q:Unit->Shared->Prop}{X:Value->Shared->Prop}(hA:d9 A)(r:ak K.hb s.heap σ α)(hs:σ[q]?=some m)(dr:α.ix[q]?=some l)
  (h:qz m i v=some bH) (v8:af s.heap α i x) (cI:af s.heap α v u)
  (a2:∀s',ak K.hb s'.heap (σ.set q bH) α->aW [] α s.heap α s'.heap->cJ s s'->Q () s'):wpAny (model K.prog K.w) A (setItem (.ref l) x u) Q X s:=by
 cases m with
 | ds es =>
  cases i with
  | str k =>
   refine p7 h fun hl h=>?_;obtain rfl:=oi h;refine aw v8.strE fun J ae J=>?_;obtain rfl:=ae;exact UY r hs dr cI hl a2
  | _=>contradiction
 | dp es =>
  refine cj h fun k hk h=>p7 h fun hl h=>?_;obtain rfl:=oi h;exact UX hA r hs dr hk v8 cI hl a2
 | _=>contradiction
theorem UZ{o i v:H}{P:Prop}(h:hQ o i v ρ σ≠.stuck)(k:∀q m bH,o=.ref q->σ[q]?=some m->qz m i v=some bH->hQ o i v ρ σ=.next ρ (σ.set q bH)->P):P:=by
 cases o with
 | ref q =>
  cases hm:(σ[q]?).bind fun m=>qz m i v with
  | none=>exact absurd (by unfold hQ;dsimp only;rw[hm]) h
  | some bH=>exact cj hm fun m L O=>k q m bH rfl L O (by unfold hQ;dsimp only;rw[hm])
 | _=>exact absurd rfl h
theorem K1{o i v:Expr}{p pos:Pos}{x y z:X}(hA:d9 A)(F:dR K.hb env)(js:mf v=false){n:Nat}
  (lR:∀{σ s α},aZ env ρ s.heap α->ak K.hb s.heap σ α->Runs K af A (eval v env) (ev C z ρ σ) s α)
  (dS:∀{σ s α},aZ env ρ s.heap α->ak K.hb s.heap σ α->Runs K af A (eval o env) (ev C x ρ σ) s α)
  (px:∀{σ s α},aZ env ρ s.heap α->ak K.hb s.heap σ α->Runs K af A (eval i env) (ev C y ρ σ) s α) (E:aZ env ρ s.heap α) (r:ak K.hb s.heap σ α) :
  gy K env A (exec (.Assign [.Subscript o i p] v pos) env) (ex C n (.asgSub x y z) ρ σ) s α:=by
 change gy K env A _ ((ev C z ρ σ).toS ρ fun v σ=>(ev C x ρ σ).toS ρ fun o σ=>(ev C y ρ σ).toS ρ fun i σ=>hQ o i v ρ σ) s α;intro hc tk;refine wpAny_Assign_Subscript (Runs.useS E (lR E r) hc tk fun cI aa α₁ u s₁ V bG aM aN aR aV et=>?_) (vW js);rw[V];have eO:=E.ext aM .nil;refine cm (Runs.useS (env:=env) (s:=s₁) (α:=α₁) eO (dS eO aN) bG et fun J1 ao cc Bp aX aj dO bg r2 bu ck jA=>?_) (fun J J q=>q) (fun J J q=>kg.lift (h6 F E aM) aV q);have kW:=eO.ext bg .nil
 refine cm (Runs.useS (env:=env) (s:=aX) (α:=cc) kW (px kW r2) dO jA fun v8 gJ qQ v6 eD bF y4 fW fH ic iB JC=>?_) (fun J J q=>q) (fun J J q=>by
  show kg K A env ((ev C x ρ aa).toS ρ _) s α _ _
  exact aj.symm▸(kg.lift (h6 F E (aM.trans bg)) (aV.trans ck) q))
 show wpAny (model K.prog K.w) A (setItem Bp v6 u) _ _ eD;refine UZ y4 fun q m bH ho hs hm he=>?_;subst ho;refine aw bu.refE fun l ae dr=>?_;obtain rfl:=ae;refine UW hA fH hs (fW.get dr) hm ic ((aR.ext bg).ext fW) fun s' aC aH bH=>?_;show jL K env ((ev C x ρ aa).toS ρ _) _ _ _ _;rw[aj];show jL K env ((ev C y ρ ao).toS ρ _) _ _ _ _;rw[bF];show jL K env (hQ (.ref q) v8 cI ρ gJ) _ _ _ _;exact he.symm▸(⟨ρ,_,qQ,h6 F E (((aM.trans bg).trans fW).trans aH),aC,(kW.ext fW .nil).ext aH .nil,((aV.trans ck).trans iB).trans bH,rfl,rfl,rfl⟩)
end
end Mine
namespace Mine
open PySem PyProof.Rows
theorem Hz{q:Prop}{_:Decidable q}{a b:c8}(h:(if q then a else .stuck)=b)(hb:b≠.stuck):q/\a=b:=by
 by_cases hq:q
 ·rw[az hq]at h;exact⟨hq,h⟩
 ·rw[aY hq]at h;exact absurd h.symm hb
section
variable {K:aQ}{A:Around}{T:ba}{C:bh}{N:List (Str×NameKind)}{env:Env}{ρ:aE}{σ:ac}{s:Shared}{α:au}
theorem Nw{bV:List Addr}{h:Heap}(E:aZ env ρ h α)(F:dR K.hb env)(ho:∀b∈bV,h.get? b=none):nQ env bV/\∀b∈bV,b∉e8 env:=by
 have jn:=iv E F.cl;refine⟨⟨fun q=>?_,fun x c hc q=>?_⟩,fun b hb q=>?_⟩
 ·refine aJ (jn env.locals bi) fun o e=>?_;rw[ho _ q]at e;contradiction
 ·refine dI (E.ca x c hc) fun J J bd=>?_;refine cD bd fun v o e J=>?_;rw[ho _ q]at e;contradiction
 ·refine aJ (jn b q) fun o e=>?_;rw[ho _ hb]at e;contradiction
noncomputable def wI(K:aQ)(A:Around)(en:Bool)(env:Env)(target:Expr)(bind:H->aE->Option aE):Prop:=
 ((en=false/\∀it v,letOwnedTupleGo target it v=pure ())\/∃mV k pos,target=.Tuple mV k pos)/\∀(s:Shared) (σ:ac) (α:au) (ρ ρ':aE) (p:H) (u:Value),bind p ρ=some ρ'->aZ env ρ s.heap α->ak K.hb s.heap σ α->af s.heap α p u ->
  ∀(Q:Unit->Shared->Prop) (X:Value->Shared->Prop),(∀s',ak K.hb s'.heap σ α->aZ env ρ' s'.heap α->aW (e8 env) α s.heap α s'.heap->cJ s s'->Q () s')->wpAny (model K.prog K.w) A (assign target env u) Q X s
theorem Vp{i:Nat}{x:Str}{k:NameKind}{p:Pos}(F:dR K.hb env)(hn:env.scope.names[i]?=some (x,k))(hk:k=.local\/k=.cell):wI K A false env (.Name x p) (dH i):=
 ⟨.inl ⟨rfl,fun J J=>rfl⟩,fun s σ α ρ ρ' pv u hb E r v Q X a2=>by
  obtain rfl:=oi hb
  exact wpAny_assign_Name (qA F r E hn hk v a2)⟩
inductive BH(K:aQ)(env:Env)(s:Shared)(xs:List H)(BE:au->Heap->Prop)(St:Nat->Heap->au->Prop)(go:List H->aE->ac->c8)(c:c8)(k:Nat)(s₁:Shared):Prop
 | mk (i:Nat) (aa:ac) (α₁:au) (bQ:aE) (hk:k=xs.length-i) (hi:i<=xs.length) (x:BE α₁ s₁.heap) (r:ak K.hb s₁.heap aa α₁) (st:St i s₁.heap α₁) (E:aZ env bQ s₁.heap α₁) (m:cJ s s₁) (gY:go (xs.drop i) bQ aa=c) (tk:K.Tk s₁):BH K env s xs BE St go c k s₁
set_option tactic.hygienic true in
theorem FU{target it:Expr}{body:List Stmt}{pos:Pos}{bind:H->aE->Option aE}{ix:X}{b:S}{n:Nat}{c:c8}{en:Bool}(F:dR K.hb env)(AZ:wI K A en env target bind)(hpl:i7 it=true)
  (bO:jk K A en (eval it env) (evIt C ix ρ σ) s α) (hb:∀{ρ σ s α},aZ env ρ s.heap α->ak K.hb s.heap σ α->gy K env A (execs body env) (ex C n b ρ σ) s α) (E:aZ env ρ s.heap α)
  (kD:c=(evIt C ix ρ σ).toS ρ fun p σ=>ct p.2 bind (fun ρ σ=>ex C n b ρ σ) p.1 ρ σ) :
  gy K env A (exec (.For target it body [] pos) env) c s α:=by
 subst kD;intro hc tk
 have y6:evIt C ix ρ σ≠.stuck:=by intro q;rw[q]at hc;exact hc rfl
 refine wpAny_For (cm (jb (bO y6 tk)) (fun nM s₁ cE=>cm (jb cE.1) (fun h8 aX fb=>?_) fun J J q=>q.1.toS E) fun J J q=>q.1.toS E) (As hpl);have sY:K.Tk aX:=aQ.Tk.up tk (aF cE.2 fb.2);obtain⟨xs,w,ao,cc,bV,St,y7,gw,dX,jZ,I,st,ho⟩:=fb.1;refine aP (Nw E F fun b hb=>(ho b hb).1) fun ap B2=>?_;rw[y7]at hc ⊢;generalize m4:(ai.ok (xs,w) ao).toS ρ (fun p σ=>ct p.2 bind (fun ρ σ=>ex C n b ρ σ) p.1 ρ σ)=c at hc ⊢;have gY:ct w bind (fun ρ σ=>ex C n b ρ σ) xs ρ ao=c:=m4;have kX:=E.ext gw .nil
 have Xb:∀b∈bV++e8 env,∃o,aX.heap.get? b=some o:=fun b hb=>by
  rcases c2.mp hb with q | q
  ·exact I.live _ _ _ st b q
  ·exact iv kX F.cl b q
 refine codeAny_forLoop_any (BH K env s xs (aW (bV++e8 env) cc aX.heap) St (ct w bind fun ρ σ=>ex C n b ρ σ) c) (fun k s₁ zM=>?_) _ ⟨0,ao,cc,ρ,rfl,Nat.zero_le _,.refl,dX,st,kX,jZ,by simpa using gY,sY⟩;obtain⟨i,aa,α₁,bQ,rfl,hi,nN,lG,AV,kd,lD,fx,nD⟩:=zM
 have BZ:∀b∈bV++e8 env,∃o,s₁.heap.get? b=some o:=fun b hb=>by
  rcases c2.mp hb with q | q
  ·exact I.live _ _ _ AV b q
  ·exact iv kd F.cl b q
 by_cases eZ:i<xs.length
 ·have za:xs.drop i=xs[i]::xs.drop (i+1):=List.drop_eq_getElem_cons eZ;rw[za]at fx;refine aP (Hz fx hc) fun hw fx=>?_
  cases m3:bind xs[i] bQ with
  | none=>rw[m3]at fx;exact absurd fx.symm hc
  | some wm =>
  rw[m3]at fx;change qa _ (ex C n b wm aa)=c at fx
  have GD:ex C n b wm aa≠.stuck:=by intro q;rw[q]at fx;exact hc fx.symm
  refine nK nD (I.item i s₁ aa α₁ xs[i] (by simp[eZ]) AV lG hw _ _ fun v eD vr mz Ti hj lH mi pg=>?_)
  have go:∀{Q:Unit->Shared->Prop} {E:Value->Shared->Prop},(∀s',af s'.heap α₁ xs[i] v->St (i+1) s'.heap α₁->aW bV α₁ s₁.heap α₁ s'.heap->ak K.hb s'.heap aa α₁->cJ s₁ s'->K.Tk s'->Q () s')->wpAny (model K.prog K.w) A (letOwnedTupleGo target h8 v) Q E eD:=fun h=>by
   rcases AZ.1 with⟨he,gY⟩ | ⟨mV,k,pos,rfl⟩
   ·exact wpAny_of_eq (gY h8 v) (h eD vr (mz he) hj lH mi pg)
   ·exact nK pg (Ti mV k pos _ _ fun s' ⟨a,b,c,d,e⟩ e1=>h s' a b (hj.trans c) d (mi.trans e) e1)
  refine go fun eD vr mz hj lH mi pg=>?_;have mE:=kd.ext hj ap;refine nK pg (AZ.2 eD aa α₁ bQ wm xs[i] v m3 mE lH vr _ _ fun lK sO mF ie vz qE=>?_);have sV:=I.frame _ _ _ _ _ _ mz ie B2
  have KH:∀b∈bV++e8 env,∃o,eD.heap.get? b=some o:=fun b hb=>by
   rcases c2.mp hb with q | q
   ·exact I.live _ _ _ mz b q
   ·exact iv mE F.cl b q
  have KI:∀b∈bV++e8 env,∃o,lK.heap.get? b=some o:=fun b hb=>by
   rcases c2.mp hb with q | q
   ·exact I.live _ _ _ sV b q
   ·exact iv mF F.cl b q
  have wg:aW (bV++e8 env) cc aX.heap α₁ lK.heap:=(nN.trans (hj.mono (fun b hb=>gO _ hb) BZ)).trans (ie.mono (fun b hb=>fk _ hb) KH);refine cm (jb (hb mF sO GD qE)) (fun fl nC hp=>?_) fun e nC hx=>?_
  ·obtain⟨⟨Yt,wo,nO,j8,qt,pu,z7,fo⟩,A0⟩:=hp;have vZ:=aQ.Tk.up qE A0;have vV:=I.frame _ _ _ _ _ _ sV j8 B2;have tc:=wg.trans (j8.mono (fun b hb=>fk _ hb) KI);have lB:=((lD.trans mi).trans vz).trans z7;have eg:aW (e8 env) α s.heap nO nC.heap:=aW.drop gw (fun b hb=>(ho b hb).1) (iv E F.cl) tc
   cases hq:ex C n b wm aa with
   | next ρ' σ' =>
    rw[hq]at fo fx;obtain⟨rfl,rfl,rfl⟩:=fo;exact⟨xs.length-(i+1),Nat.sub_succ_lt_self _ _ eZ,i+1,_,_,_,rfl,eZ,tc,qt,vV,pu,lB,fx,vZ⟩
   | cont ρ' σ' =>
    rw[hq]at fo fx;obtain⟨rfl,rfl,rfl⟩:=fo;exact⟨xs.length-(i+1),Nat.sub_succ_lt_self _ _ eZ,i+1,_,_,_,rfl,eZ,tc,qt,vV,pu,lB,fx,vZ⟩
   | brk ρ' σ' =>
    rw[hq]at fo fx;obtain⟨rfl,rfl,rfl⟩:=fo;subst fx;exact⟨_,_,_,eg,qt,pu,lB,rfl,rfl,rfl⟩
   | ret v ρ' σ' =>
    rw[hq]at fo fx;obtain⟨⟨u,rfl,dg⟩,rfl,rfl⟩:=fo;subst fx;exact⟨_,_,_,eg,qt,pu,lB,⟨u,rfl,dg⟩,rfl,rfl⟩
   | exc i ρ' σ'=>rw[hq]at fx;exact absurd fx.symm hc
   | stuck=>exact absurd hq GD
  ·obtain⟨⟨j,ρ',σ',_,_,_,h4,_⟩,_⟩:=hx;rw[h4]at fx;exact absurd fx.symm hc
 ·have zg:i=xs.length:=Nat.le_antisymm hi (Nat.not_lt.mp eZ);subst zg;rw[List.drop_length]at fx;refine aP (Hz fx hc) fun hw p0=>?_;refine I.done s₁ aa α₁ AV lG hw _ _ fun eD hj lH mi=>wpAny_execs_nil ?_
  show jL K env c s α .next eD
  exact p0▸(⟨_,_,_,aW.drop gw (fun b hb=>(ho b hb).1) (iv E F.cl) (nN.trans (hj.mono (fun b hb=>gO _ hb) BZ)),lH,kd.ext hj ap,lD.trans mi,rfl,rfl,rfl⟩)
end
end Mine
namespace Mine
open PySem PyProof.Rows
end Mine
namespace Mine
open PySem PyProof.Rows
noncomputable def aQ.wx(K:aQ)(h:Heap):aQ:={ K with hb:={ K.hb with h:=h },ph:=true }
noncomputable def pz(K:aQ)(h:Heap)(a:Addr)(C:bh):Prop:=
 (∀b o,K.hb.h.get? b=some o->h.get? b=some o)/\(C.hd=false->∃(o:Obj) (vs:Array Value),h.get? a=some o/\o.data=.fields vs/\vs[2]?=some .none)
theorem WF{h hb:Heap}{a:Addr}{o:Obj}(base:∀b o,hb.get? b=some o->h.get? b=some o)(e:h.get? a=some o) :
  ∃h':Heap,(∀b o,hb.get? b=some o->h'.get? b=some o)/\h'.get? a=some o/\∀b aK,h'.get? b=some aK->b=a\/hb.get? b=some aK:=by
 refine⟨PySem.W.hideAll h ((List.range h.objs.size).filter fun b=>b != a&&(hb.get? b).isNone),fun b aK q=>PySem.W.hideAll_get _ (base b aK q) fun z=>?_,PySem.W.hideAll_get _ e fun z=>?_,fun b aK q=>?_⟩
 ·have:=(List.mem_filter.mp z).2;rw[q]at this;simp at this
 ·have:=(List.mem_filter.mp z).2;simp at this
 ·have nv:=PySem.W.of_hideAll _ q;by_cases pZ:b=a
  ·exact .inl pZ
  ·right
   cases hq:hb.get? b with
   | some bL=>rw[base b bL hq]at nv;exact nv
   | none =>
    have:b∈(List.range h.objs.size).filter fun b=>b != a&&(hb.get? b).isNone:=List.mem_filter.mpr ⟨List.mem_range.mpr (eQ nv),by simp[pZ,hq]⟩;rw[PySem.W.hideAll_none _ this]at q;contradiction
section
variable {K:aQ}{A:Around}{T:ba}{C:bh}{N:List (Str×NameKind)}{env:Env}{ρ:aE}{σ:ac}{s:Shared}{α:au}
theorem d1.wx{h h':Heap}{m:aS}{a:Addr}(o:d1 K.hb h α m a):d1 (K.wx h').hb h α m a:=by cases m <;> exact o
theorem d1.unwx{h h':Heap}{m:aS}{a:Addr}(o:d1 (K.wx h').hb h α m a):d1 K.hb h α m a:=by cases m <;> exact o
theorem ak.wx{h h':Heap}{a:Addr}{o:Obj}{vs:Array Value}(r:ak K.hb h σ α)(e:h.get? a=some o)(hd:o.data=.fields vs)(ha:a∉α.all)(aA:h'.get? a=some o)(only:∀b aK,h'.get? b=some aK->b=a\/K.hb.h.get? b=some aK):ak (K.wx h').hb h σ α:=by
 have no:∀{b:Addr},b≠a->K.hb.get? b=none->(K.wx h').hb.get? b=none:=fun{b} hb hn=>by
  cases q:(K.wx h').hb.get? b with
  | none=>rfl
  | some aK =>
   rcases only b aK q with z | z
   ·exact absurd z hb
   ·rw[show K.hb.get? b=some aK from z]at hn;contradiction
 refine⟨fun b aK q=>?_,fun b hb=>no (fun z=>ha (z▸gO _ hb)) (r.fresh b hb),r.nodup,r.len,r.hidden,fun i m b V aj=>(r.obj i m b V aj).wx,fun b hb=>no (fun z=>ha (z▸fk _ hb)) (r.hfr b hb),r.fe,fun b hb=>?_,r.frNot⟩
 ·rcases only b aK q with z | z
  ·subst z;rw[show(K.wx h').hb.get? b=some o from aA]at q;obtain rfl:=oi q;exact e
  ·exact r.base b aK z
 ·obtain⟨q1,aK,q2,q3⟩:=r.frs b hb;refine⟨no (fun z=>?_) q1,aK,q2,q3⟩;rw[z,e]at q2;obtain rfl:=oi q2;refine hL q3 fun es n d=>?_;rw[hd]at d;contradiction
theorem ak.unwx{h h':Heap}(k:∀b o,K.hb.h.get? b=some o->h'.get? b=some o)(r:ak (K.wx h').hb h σ α):ak K.hb h σ α:=by
 have no:∀{b:Addr},(K.wx h').hb.get? b=none->K.hb.get? b=none:=fun{b} hn=>by
  cases q:K.hb.get? b with
  | none=>rfl
  | some aK=>rw[show(K.wx h').hb.get? b=some aK from k b aK q]at hn;contradiction
 exact⟨fun b o q=>r.base b o (k b o q),fun b hb=>no (r.fresh b hb),r.nodup,r.len,r.hidden,fun i m b V aj=>(r.obj i m b V aj).unwx,fun b hb=>no (r.hfr b hb),r.fe,fun b hb=>let⟨q1,q2⟩:=r.frs b hb;⟨no q1,q2⟩,r.frNot⟩
theorem dR.wx{h':Heap}{a:Addr}{o:Obj}{vs:Array Value}(F:dR K.hb env)(E:aZ env ρ s.heap α)(e:s.heap.get? a=some o)(hd:o.data=.fields vs)(only:∀b aK,h'.get? b=some aK->b=a\/K.hb.h.get? b=some aK):dR (K.wx h').hb env:=by
 have no:∀{b:Addr},b≠a->K.hb.get? b=none->(K.wx h').hb.get? b=none:=fun{b} hb hn=>by
  cases q:(K.wx h').hb.get? b with
  | none=>rfl
  | some aK =>
   rcases only b aK q with z | z
   ·exact absurd z hb
   ·rw[show K.hb.get? b=some aK from z]at hn;contradiction
 refine⟨F.sc,⟨no (fun z=>?_) F.new.l,fun x c hc=>no (fun z=>?_) (F.new.c x c hc),F.new.f⟩,F.cl,F.inter⟩
 ·obtain⟨m,⟨aK,es,d5,aA,d,_⟩,_⟩:=E.ns;rw[z,e]at aA;obtain rfl:=oi aA;rw[hd]at d;contradiction
 ·refine dI (E.ca x c hc) fun J J bd=>?_;refine cD bd fun v aK aA d=>?_;rw[z,e]at aA;obtain rfl:=oi aA;rw[hd]at d;contradiction
theorem MC:entryFor table "proto.unchain" = some Builtin.«proto.unchain»:=entryFor_of_fast (by kernel_rfl)
theorem TU{prog:Program}{w:World}{β:Type}{e h:Addr}{gr oh:Obj}{JZ J0:Array Value}{Q:β->Shared->Prop}{E:Value->Shared->Prop}(aO:A.handled=some (.ref h))(dc:h≠e)(L:s.heap.get? h=some oh)(O:oh.data=.fields J0)(ar:J0[2]?=some .none)
  (V:s.heap.get? e=some gr) (aj:gr.data=.fields JZ) (bF:2<JZ.size) (lp:E (.ref e) { s with heap:=s.heap.update e (Obj.mapFields (·.setIfInBounds 2 (.ref h))) }):wpAny (model prog w) A (raiseNew (.ref e):Sem β) Q E s:=by
 unfold raiseNew;refine aI (wpAny_handled ?_);rw[aO];dsimp only;rw[az (show(Value.ref h != Value.ref e)=true by simpa using dc)];refine aI (f6 (wpAny_runValue (codeAny_builtin MC ?_)));show wpAny _ _ (field (.ref h) 2 >>= _) _ _ s;refine aI (gA L O ar ?_);rw[az (by decide)];refine aI (bx (bx ?_));show wpAny _ A (setField (.ref e) 2 (.ref h) >>= fun J=>throw (.ref e)) Q E s;exact aI (wpAny_setField V aj bF (wpAny_throw lp))
end
section
variable {prog:Program}{w:World}{A:Around}{E:Value->Shared->Prop}{s:Shared}{env:Env}
variable {nm q:Str}{C N:Addr}{bs bm bmB:List Value}{hdct:Bool}{sn:List Str}{sub:List Value}{ab:Bool}{col:Option Bool}{dd:Option Addr}{k0 k1 k2 k3 k5:Option Value}{B newId Qh:String}
theorem TX{x:Sem Value}{Q:Flow->Shared->Prop}(rM:bm.contains (.type "BaseException")=true)
  (h:wpAny (model prog w) A x (fun v s₁=>∃e t,v=.ref e/\s₁.heap.get? C=some (excClassObj nm q C N bs bm hdct sn sub ab col dd k0 k1 k2 k3 k5 newId) ∧
   s₁.heap.get? e=some { cls:=.ref C,data:=.fields #[.ref t,.none,.none,.none,.bool false,.none] }/\wpAny (model prog w) A (raiseNew (.ref e):Sem Flow) Q E s₁) E s):wpAny (model prog w) A (raiseStmt env (some x) none) Q E s:=by
 have y5:(Value.ref C::bm).contains (.type "BaseException")=true:=by rw[List.contains_cons,rM,Bool.or_true]
 unfold raiseStmt;refine aI (cm h (fun v s₁ cE=>?_) fun J J x=>x);refine cD cE fun e t ae bd=>?_;obtain rfl:=ae;refine dI bd fun eX he lp=>?_;obtain⟨hp,g,d,tk,os⟩:=s₁
 repeat (first | with_reducible refine wpAny_loadPart_at he ?_ | with_reducible refine wpAny_loadPart_at eX ?_ | (with_reducible refine wpAny_isSubtype_exc eX ?_;rw[y5]) | wp_step)
 exact lp
theorem TV(F:ExcBaseFacts B newId Qh bmB){mN:Str->Option Value}{x:Str}{vD w9 pos:Pos}{args:List Expr}{Q:Flow->Shared->Prop}
  (rM:bm.contains (.type "BaseException")=true) (Pu:(backTo w9 (starEach args env)).any (·.1)=false) (rW:mN "__init__" = none)
  (h:wpAny (model prog w) A (eval (.Name x vD) env) (fun f s₁=>f=.ref C/\wpAny (model prog w) A (evalArgs (.ref C) true (backTo w9 (starEach args env)) [])
   (fun a aX=>a.kw=[]/\a.pos.length<=sizeLine/\aX.heap.get? C=some (excClassObj nm q C N bs bm hdct sn sub ab col dd k0 k1 k2 k3 k5 newId)/\aX.heap.Ns N mN/\OwnTail aX.heap bmB bm ∧
    ∀h' e,Heap.MadeExcOf aX.heap h' e (.ref C) a.pos->wpAny (model prog w) A (raiseNew (.ref e):Sem Flow) Q E { aX with heap:=h' }) E s₁) E s) :
  wpAny (model prog w) A (exec (.Raise (some (.Call (.Name x vD) args [] w9)) none pos) env) Q E s:=by
 rw[arm_exec_Raise];refine aI (wpAny_standAt (TX (C:=C) (nm:=nm) (q:=q) (N:=N) (bs:=bs) (bm:=bm) (hdct:=hdct) (sn:=sn) (sub:=sub) (ab:=ab) (col:=col) (dd:=dd) (k0:=k0) (k1:=k1) (k2:=k2) (k3:=k3) (k5:=k5) (newId:=newId) rM (aI (cm (wpAny_Call_ofName (cm h (fun f s₁ cE=>?_) fun J J x=>x)) (fun v eD kG=>aI (wpAny_standAt (bx kG))) fun J J x=>x))));obtain⟨rfl,cE⟩:=cE;unfold callWith;refine aI (f6 (cm cE (fun a aX fb=>aI (wpAny_standAt ?_)) fun J J x=>x));obtain⟨apos,KG⟩:=a;refine tR fb fun O5 cZ eX hn T fb=>?_;obtain rfl:KG=[]:=O5;obtain⟨hp,g,d,tk,os⟩:=aX;simp only[Pu];refine aI (wpAny_keeperOf_exc eX ?_);refine aI (wpAny_call_exc_subT (hrest:=cZ) F T eX hn rW fun h' e hm=>aI (f6 (wpAny_point (bx ?_))));refine bC hm.there fun t a1 J J=>?_;exact⟨e,t,rfl,hm.keeps _ _ eX,a1,fb h' e hm⟩
end
end Mine
namespace Mine
open PySem PyProof.Rows
theorem aZ.wipe{env:Env}{ρ:aE}{h h':Heap}{α:au}{m:Str->Option Value}(E:aZ env ρ h α)(n:h'.Ns env.locals m)(fI:∀b,b≠env.locals->h'.get? b=h.get? b):aZ env (ρ.map fun J=>none) h' α:=by
 have no:∀(i:Nat) (v:H),(ρ.map fun J=>(none:Option H))[i]?≠some (some v):=fun i v e=>by
  rw[fB]at e;cases hq:ρ[i]? <;> rw[hq]at e <;> (first | contradiction | (obtain rfl:=oi e) | cases e)
 refine⟨E.ok,E.la,⟨m,n,fun i x v J e=>absurd e (no i v)⟩,fun x c hc=>?_,E.cd,fun i x V=>?_,fun i v e=>absurd e (no i v)⟩
 ·refine dI (E.ca x c hc) fun L O bd=>?_;refine cD bd fun v o e d=>?_;exact⟨L,O,v,o,(fI c O).trans e,d⟩
 ·refine aw (E.cv i x V) fun c hc J=>?_;exact⟨c,hc,fun v e=>absurd e (no i v)⟩
section
variable {K:aQ}{A:Around}{T:ba}{C:bh}{N:List (Str×NameKind)}{env:Env}{ρ:aE}{σ:ac}{s:Shared}{α:au}{n:Nat}
theorem gK.made{c:Nat}{a:Addr}{h':Heap}{args:List Value}(r:ak K.hb s.heap σ α)(m:Heap.MadeExcOf s.heap h' a (.ref c) args):gK K s α c σ false (.ref a) { s with heap:=h' }:=by
 refine bC m.there fun t V aj bF=>?_;exact⟨a,s.heap,α,rfl,.refl,r,.keeps m.keeps,⟨m.new,_,_,.none,V,rfl,rfl,rfl,.inl rfl rfl,.none,rfl,fun J=>rfl⟩,⟨rfl,rfl⟩⟩
theorem gK.made2{c:Nat}{a x:Addr}{h':Heap}{args:List Value}(hp:K.ph=true)(r:ak K.hb s.heap σ α)(m:Heap.MadeExcOf s.heap h' a (.ref c) args):gK K s α c σ false (.ref a) { s with heap:=h'.update a (Obj.mapFields (·.setIfInBounds 2 (.ref x))) }:=by
 refine bC m.there fun t V aj bF=>?_;refine⟨a,s.heap,α,rfl,.refl,r,.keeps fun b o e=>?_,⟨m.new,_,_,.none,Heap.get?_update_self _ V rfl,rfl,rfl,rfl,.inl rfl rfl,.ref x,rfl,fun z=>?_⟩,⟨rfl,rfl⟩⟩
 ·have pZ:a≠b:=fun z=>by rw[<- z,m.new]at e;contradiction
  exact(Heap.get?_update_other _ _ pZ).trans (m.keeps b o e)
 ·rw[hp]at z;contradiction
theorem TY{x:Str}{vD tK pos:Pos}{z:Str}{k:Nat}{J8:Pos}{c:Nat}(f8:Ctx K A T C)(hx:ov T N x=some c)(bA:PyData.strOk z=true)(am:env.scope.names=N)(E:aZ env ρ s.heap α)(r:ak K.hb s.heap σ α) :
  gy K env A (exec (.Raise (some (.Call (.Name x vD) [.Constant (.str z) k J8] [] tK)) none pos) env) (ex C n (.raise c) ρ σ) s α:=by
 have bt:ex C n (.raise c) ρ σ=bif C.rz then .exc c ρ σ else .stuck:=rfl
 rw[bt]
 cases l7:C.rz with
 | false=>exact fun hc=>absurd rfl hc
 | true =>
 intro _ tk;obtain⟨hg,q,hq,rfl,rfl⟩:=xt hx;refine aJ (p5 hg) fun j a0=>?_;refine aw f8.exc fun b7 X ax=>?_;obtain⟨⟨hmg,Po,G1⟩,_⟩:=ax q hq;obtain⟨nm,vL,tl,bs,hdct,sn,sub,ab,col,dd,k0,k1,k2,k3,k5,eX,mN,yT,rW⟩:=Po;refine TV (mN:=mN) (C:=q.2.1) (nm:=nm) (q:=vL) (N:=tl) (bs:=bs) (hdct:=hdct) (sn:=sn) (sub:=sub) (ab:=ab) (col:=col) (dd:=dd) (k0:=k0) (k1:=k1) (k2:=k2) (k3:=k3) (k5:=k5) F.excBase_ValueError (G1.hasType rfl) rfl rW ?_;refine qh f8.hK r E.ok (am.symm▸a0) hmg ⟨rfl,?_⟩;refine Calls.evalArgs_plain (Calls.spliced_cons (cm (w8 (c:=.str z) (v:=.str z) (k:=k) (p:=J8) (env:=env) (by show bT (PyData.strOk z) (some (H.str z))=_;rw[bA];rfl) r (by(intro q;exact nomatch q)) tk) (fun v s₁ hp=>Calls.spliced_nil ?_) fun e s₁ hx=>?_))
 ·obtain⟨b,aa,α₁,V,aM,aN,_,aV⟩:=hp
  (first | contradiction | (obtain rfl:=oi V) | cases V)
  refine⟨rfl,by show 1<=sizeLine;decide,aN.base _ _ eX,yT.keeps aN.base,G1.keeps aN.base,fun h' e hm=>?_⟩
  cases c5:C.hd with
  | false=>exact wpAny_raiseNew_none (f8.hd c5) ⟨_,_,_,s,α,_,rfl,.refl,E,.refl s,gK.lift aM aV (gK.made aN hm)⟩
  | true =>
   refine tS (f8.rz l7 c5) fun ha Af av Px uZ Py Pz=>?_;refine bC hm.there fun t V aj bF=>?_;have hb:=aN.base _ _ uZ;refine TU (s:={ s₁ with heap:=h' }) Px (fun z=>?_) (hm.keeps _ _ hb) Py Pz V rfl (show 2<6 by decide) ⟨_,_,_,s,α,_,rfl,.refl,E,.refl s,gK.lift aM aV (gK.made2 (f8.ph.trans c5) aN hm)⟩;rw[z,hm.new]at hb;contradiction
 ·obtain⟨i,aa,V,_⟩:=hx
  (first | contradiction | (obtain rfl:=oi V) | cases V)
theorem Vk{c d:Nat}(h:(kP T d).contains c=true):∃p∈T.excs,p.2.1=c/\(c=d\/d∈p.2.2):=by
 refine aw (cK.mp (mL.mp h)) fun p hp ae=>?_;obtain rfl:=ae;refine aP (List.mem_filter.mp hp) fun L O=>?_;refine⟨p,L,rfl,?_⟩;simp only[Bool.or_eq_true,e7,mL]at O;exact O
theorem RS{a:Addr}{o:Obj}{c d:Nat}{Q:Bool->Shared->Prop}{X:Value->Shared->Prop}(f8:Ctx K A T C)(r:ak K.hb s.heap σ α)(he:s.heap.get? a=some o)(jr:o.cls=.ref c)(hd:∃q∈T.excs,q.2.1=d)
  (hs:(kP T d).contains c=true) (a2:Q true s) {Bz:Around}:wpAny (model K.prog K.w) Bz (excMatches (.ref a) (.ref d)) Q X s:=by
 refine aw f8.exc fun b7 Kq ax=>?_;refine bC (Vk hs) fun p hp ae Pt=>?_;obtain rfl:=ae;refine aw hd fun q hq ae=>?_;obtain rfl:=ae;obtain⟨⟨_,⟨nm,vL,tl,bs,hdct,sn,sub,ab,col,dd,k0,k1,k2,k3,k5,eX,_⟩,dK⟩,_⟩:=ax p hp;obtain⟨⟨_,⟨X1,X8,W9,Xf,Xy,X9,Yb,Xa,Xi,Xj,XN,XO,XQ,XR,XS,hD,_⟩,cC⟩,_⟩:=ax q hq;have N2:=r.base _ _ eX;have Gf:=r.base _ _ hD
 have y5:(Value.ref q.2.1::(q.2.2.map Value.ref++[.type "ValueError",.type "Exception",.type "BaseException",.type "object"])).contains (.type "BaseException")=true:=by
  rw[List.contains_cons,cC.hasType (X := "BaseException") (b:=true) (by decide),Bool.or_true]
 have OB:(Value.ref p.2.1::(p.2.2.map Value.ref++[.type "ValueError",.type "Exception",.type "BaseException",.type "object"])).contains (.ref q.2.1)=true:=by
  rw[mL]
  rcases Pt with e | e
  ·exact e▸bi
  ·exact bI _ (gO _ (cK.mpr ⟨_,e,rfl⟩))
 have f:=tc_notTuple;obtain⟨h,g,tQ,t,os⟩:=s;unfold excMatches
 repeat (first | (with_reducible refine wpAny_loadPart_at he ?_;rw[jr]) | with_reducible refine wpAny_loadPart_at Gf ?_ | (with_reducible refine wpAny_isSubtype_exc Gf ?_;rw[y5]) | (with_reducible refine wpAny_isSubtype_exc N2 ?_;rw[OB]) | wp_step)
 exact a2
set_option tactic.hygienic true in
theorem V9{x y:Str}{WM pos uY:Pos}{b hb:List Stmt}{c i:Nat}{dC h':S}(f8:Ctx K A T C)(F:dR K.hb env)(hx:ov T N x=some c)(am:env.scope.names=N)(hi:N[i]?=some (y,.local))(dc:hb≠[])
  (ax:gy K env A (execs b env) (ex C n dC ρ σ) s α)
  (qV:C.rz=true->∀(hx:Heap) (a:Addr),pz K hx a C->dR (K.wx hx).hb env->∀{ρ σ s α},aZ env ρ s.heap α->ak (K.wx hx).hb s.heap σ α->gy (K.wx hx) env (A.mark (some (.ref a))) (execs hb env) (ex C.inH n h' ρ σ) s α) :
  gy K env A (exec (.Try b [.ExceptHandler (some (.Name x WM)) (some y) hb uY] [] [] pos) env) (ex C n (.tryE dC (kP T c) i h') ρ σ) s α:=by
 have bt:ex C n (.tryE dC (kP T c) i h') ρ σ=(match ex C n dC ρ σ with
  | .exc c3 ρ σ=>bif C.rz then(if(kP T c).contains c3/\i<ρ.length then pG (ex C.inH n h' (ρ.set i (some (.exc c3))) σ)else .stuck)else .stuck
  | o=>o):=rfl
 rw[bt];intro hc tk
 have L:ex C n dC ρ σ≠.stuck:=by intro q;rw[q]at hc;exact hc rfl
 refine wpAny_Try_except (cm (jb (ax L tk)) (fun fl s₁ hp=>?_) fun e s₁ zw=>?_)
 ·obtain⟨⟨bQ,aa,α₁,aM,aN,eO,aV,fo⟩,_⟩:=hp
  cases hb:ex C n dC ρ σ with
  | next ρ' σ'=>rw[hb]at fo;obtain⟨rfl,rfl,rfl⟩:=fo;exact wpAny_execs_nil ⟨_,_,α₁,aM,aN,eO,aV,rfl,rfl,rfl⟩
  | cont ρ' σ'=>rw[hb]at fo;have kA:=fo;obtain⟨rfl,_⟩:=kA;exact⟨bQ,aa,α₁,aM,aN,eO,aV,fo⟩
  | brk ρ' σ'=>rw[hb]at fo;have kA:=fo;obtain⟨rfl,_⟩:=kA;exact⟨bQ,aa,α₁,aM,aN,eO,aV,fo⟩
  | ret v ρ' σ'=>rw[hb]at fo;have kA:=fo;obtain⟨⟨u,rfl,_⟩,_⟩:=kA;exact⟨bQ,aa,α₁,aM,aN,eO,aV,fo⟩
  | exc i ρ' σ'=>rw[hb]at fo;exact fo.elim
  | stuck=>exact absurd hb L
 ·obtain⟨⟨c3,bQ,aa,s₀,α₁,dP,V,aM,eO,aV,eJ⟩,sZ⟩:=zw;have et:=aQ.Tk.up tk sZ;rw[V]at hc ⊢;dsimp only at hc ⊢
  cases l7:C.rz with
  | false=>rw[l7]at hc;exact absurd rfl hc
  | true =>
  rw[l7]at hc;rw[cond_true]at hc ⊢
  split at hc
  ·rename_i gm;rw[az gm];refine aP gm fun jT cZ=>?_;obtain⟨a,h₀,α',rfl,aH,aC,u,bB,bH⟩:=eJ;obtain⟨hg,q,hq,rfl,rfl⟩:=xt hx;refine aJ (p5 hg) fun j a0=>?_;refine aw f8.exc fun b7 Kq Ke=>?_;have hmg:=(Ke q hq).1.mg
   have m5:env.scope.names[i]?=some (y,.local):=by exact am.symm▸hi
   refine IC f8.fr F.new aC u bB fun fb je Ms=>?_;refine yE (s:={ s₁ with heap:=fb }) aC je Ms fun kG j7 CK=>?_;have wz:=eO.ext aH .nil;have fW:=aC.upExt j7;have fH:=aC.up j7;obtain⟨_,gr,vs,nM,he,jr,hd,_,_,_⟩:=id CK;refine wpAny_handleBy_cons (codeAny_handlers_test (qh (s:={ s₁ with heap:=kG }) f8.hK fH wz.ok (am.symm▸a0) hmg (RS (s:={ s₁ with heap:=kG }) f8 fH he jr ⟨q,hq,rfl⟩ jT ?_))) (by intro z;(first | contradiction | (obtain rfl:=oi z) | cases z))
   cases hb with
   | nil=>exact absurd rfl dc
   | cons eR bs =>
   refine codeAny_handlers_suite_as ?_;refine yE (s:={ s₁ with heap:=kG }) aC j7 CK fun u7 qJ CL=>?_;have ie:=aC.upExt qJ;have o8:=aC.up qJ;have Kb:=wz.ext ie .nil;obtain⟨_,Ah,Wt,Yq,Gz,Gw,rO,_,_,Ma⟩:=id CL
   have ha:a∉α'.all:=fun z=>by
    refine aJ (aC.liveAll z) fun o e=>?_;rw[CL.new]at e;(first | contradiction | (obtain rfl:=oi e) | cases e)
   refine nK (s:={ s₁ with heap:=u7 }) et<|qA (s:={ s₁ with heap:=u7 }) F o8 Kb m5 (.inl rfl) (.exc Gz Gw rO ha) fun nC vM BC j8 HZ Vs=>?_
   have GU:ex C.inH n h' (bQ.set i (some (.exc c3))) aa≠.stuck:=by intro z;rw[z]at hc;exact hc rfl
   have zb:nC.heap.get? a=some Ah:=j8.seqs a Ah (au.not_ix ha) Gz (.inr (.inl ⟨_,_,Gw,rO⟩));refine bC (WF (hb:=K.hb.h) (fun b o e=>vM.base b o e) zb) fun hx G4 G3 G5=>?_
   have jz:pz K hx a C:=⟨G4,fun c5=>by
    refine aw Ma fun y e2 hT=>?_;rw[hT (f8.ph.trans c5)]at e2
    exact⟨Ah,Wt,G3,rO,e2⟩⟩
   refine cm (qV l7 hx a jz (F.wx BC zb rO G5) BC (vM.wx zb rO ha G3 G5) GU Vs) (fun fl vX hp=>?_) fun e vX zw=>?_
   ·obtain⟨W5,W6,Bw,WG,AC,ps,H0,fo⟩:=hp;have AC:ak K.hb vX.heap W6 Bw:=AC.unwx G4;refine aw (id ps.ns) fun m ns J=>?_;refine wpAny_nameGoes (ps.ok.ws i y _ m5) ns (by rw[ps.ok.kind];rfl) fun r8 lB IE I3=>?_
    obtain⟨IZ,J6⟩:=AC.but ps.la F.new.l (fun b o hb e=>(I3.2 b hb).trans e) (fun o e=>by
     refine lW (id ns) fun aK es d5 aA d J=>?_;rw[e]at aA;(first | contradiction | (obtain rfl:=oi aA) | cases aA)
     exact gF.notSolid ⟨_,_,d⟩) fun J o e J=>by
     refine lW (id IE) fun aK es d5 aA d J=>?_;exact⟨aK,aA,es,d5,d⟩
    have BD:aZ env (W5.map fun J=>none) r8 Bw:=ps.wipe IE fun b hb=>I3.2 b hb;have tb:aW (e8 env) α s.heap Bw r8:=(((aM.trans (aH.mono ((fun J q=>absurd q dT)) (iv eO F.cl))).trans (ie.mono ((fun J q=>absurd q dT)) (iv wz F.cl))).trans (j8.trans WG)).trans (J6.mono (by simp[e8]) (iv ps F.cl));have j5:cJ s { vX with heap:=r8,toks:=vX.toks+1 }:=((aV.trans bH).trans ⟨(HZ.trans H0).gens,(HZ.trans H0).os⟩).trans ⟨rfl,rfl⟩
    cases p1:ex C.inH n h' (bQ.set i (some (.exc c3))) aa with
    | next ρ' σ' =>
     rw[p1]at fo;obtain⟨rfl,rfl,rfl⟩:=fo;exact⟨_,_,_,tb,IZ,BD,j5,rfl,rfl,rfl⟩
    | ret v ρ' σ' =>
     rw[p1]at fo;obtain⟨⟨Wl,rfl,dg⟩,rfl,rfl⟩:=fo;exact⟨_,_,_,tb,IZ,BD,j5,⟨Wl,rfl,dg.ext J6⟩,rfl,rfl⟩
    | cont ρ' σ'=>rw[p1]at hc;exact absurd rfl hc
    | brk ρ' σ'=>rw[p1]at hc;exact absurd rfl hc
    | exc i ρ' σ'=>rw[p1]at hc;exact absurd rfl hc
    | stuck=>exact absurd p1 GU
   ·obtain⟨Xg,Ys,Yv,_,_,_,oa,_⟩:=zw;rw[oa]at hc;exact absurd rfl hc
  ·exact absurd rfl hc
end
end Mine
namespace Mine
open PySem PyProof.Rows
theorem UH{N:List (Str×NameKind)}{x:Str}{i:Nat}(h:mw N x=some i):∃k,N[i]?=some (x,k)/\(k=NameKind.local\/k=.cell):=by
 unfold mw at h;refine cj h fun j a0 L=>cj L fun q hq O=>cG O fun hk ar=>?_;clear h L O;have hx:=Hm a0 hq;obtain⟨z,k⟩:=q;dsimp only at hx;subst hx;obtain rfl:=oi ar;refine⟨k,hq,?_⟩
 cases k with
 | «local»=>exact .inl rfl
 | cell=>exact .inr rfl
 | _=>contradiction
theorem vS{N:List (Str×NameKind)}{env:Env}{x:Str}{i:Nat}(am:env.scope.names=N)(h:mw N x=some i):∃k,env.scope.names[i]?=some (x,k)/\(k=NameKind.local\/k=.cell):=by
 subst am;exact UH h
section
variable {K:aQ}{A:Around}{T:ba}{C:bh}{f:List (Str×NameKind)->Expr->Option X}{N:List (Str×NameKind)}{env:Env}{ρ:aE}{σ:ac}{s:Shared}{α:au}
open PySem.W
theorem Un{F:Frag}{b n:Str}{c i:Nat}{x u:Value}{v:H}{fs:List (Str×H)}{Q:Unit->Shared->Prop}{E:Value->Shared->Prop}(B:j9 K F b c)(hn:n∈lb)(r:ak K.hb s.heap σ α)(nG:af s.heap α (.inst c i) x)(cI:af s.heap α v u)
  (hs:σ[i]?=some (.ns fs)) (hl:fs.length<100) (a2:∀s',ak K.hb s'.heap (σ.set i (.ns (ee n v fs))) α->aW [] α s.heap α s'.heap->cJ s s'->Q () s'):wpAny (model K.prog K.w) A (setAttr x n u) Q E s:=by
 refine cD (Hq nG) fun a D ae bd=>?_;obtain rfl:=ae;refine dI bd fun bB ha hi=>?_;refine bC (r.obj i _ D hs hi) fun m vE jw bL=>?_;refine lW (id vE) fun lE MJ ME pM tL J=>?_;have X:F.In s.heap:=r.frag B.inn;have I:InstAt s.heap a (instObj c D) c (some lE):=⟨bB,rfl,rfl,pM⟩;refine aw (any_some B.hasd) fun cd hc eo=>?_;refine set_plain X I B.seta (osa_open (s:={ s with toks:=s.toks+1 }) X I B.plain (B.free n hn) fun h1=>?_);refine aI (bx (aI (aI (wpAny_loadPart bB (aI (Looks.here (s:={ s with toks:=s.toks+1 }) (looks_clsIn X hc) ?_))))));rw[eo];refine bx (a:=some D) (aI (bx (aI (wpAny_nsSet1 (s:={ s with toks:=s.toks+1 }) vE fun h' oQ u0=>?_))))
 have hw:Within m (fs.map (·.1)):=fun y hy=>by
  cases hg:aG y fs with
  | none=>exact absurd (bL y hg) hy
  | some w =>
   refine aw (Option.map_eq_some_iff.mp hg) fun e he J=>?_;exact cK.mpr ⟨e,List.mem_of_find?_eq_some he,by simpa using List.find?_some he⟩
 refine lW (oQ.count (Within.cons n u hw)) fun X4 Xp Xo GW OH OC=>?_;refine aI (wpAny_lookBehind GW (by rw[OH];exact pastItsLine_dict (aF OC (by rw[dv,bc,sizeLine_eq];(exact aF (by assumption) (by decide))))) ?_);refine bx ?_
 have key:∀aH:aW [] α s.heap α h',d1 K.hb h' α (.ns (ee n v fs)) D:=fun aH=>by
  refine⟨_,oQ,fun ef b2 e=>?_,fun ef e=>?_⟩
  ·rw[wO]at e;by_cases q:ef=n
   ·rw[az q]at e ⊢;obtain rfl:=oi e;exact⟨u,rfl,cI.ext aH⟩
   ·rw[aY q]at e ⊢;refine aw (jw ef b2 e) fun w lO nH=>?_;exact⟨w,lO,nH.ext aH⟩
  ·rw[wO]at e;by_cases q:ef=n
   ·rw[az q]at e;contradiction
   ·rw[aY q]at e ⊢;exact bL ef e
 refine aP (r.set (m:=.ns (ee n v fs)) hi (fun b o hb e=>(u0.2 b hb).trans e) GW key) fun aC aH=>?_;exact a2 _ aC aH ⟨rfl,rfl⟩
theorem KY{o v:Expr}{n b:Str}{p pos:Pos}{x z:X}{c k:Nat}{b7:Frag}(B:j9 K b7 b c)(hn:n∈lb)(F:dR K.hb env)(js:mf v=false)
  (lR:∀{σ s α},aZ env ρ s.heap α->ak K.hb s.heap σ α->Runs K af A (eval v env) (ev C z ρ σ) s α)
  (dS:∀{σ s α},aZ env ρ s.heap α->ak K.hb s.heap σ α->Runs K af A (eval o env) (ev C x ρ σ) s α) (E:aZ env ρ s.heap α) (r:ak K.hb s.heap σ α) :
  gy K env A (exec (.Assign [.Attribute o n p] v pos) env) (ex C k (.asgAttr c x n z) ρ σ) s α:=by
 change gy K env A _ ((ev C z ρ σ).toS ρ fun v σ=>(ev C x ρ σ).toS ρ fun o σ=>sS c o n v ρ σ) s α;intro hc tk;refine plainObj_wpAny_Assign_Attribute (Runs.useS E (lR E r) hc tk fun cI aa α₁ u s₁ V bG aM aN aR aV et=>?_) (vW js);rw[V]at hc ⊢;have eO:=E.ext aM .nil;refine cm (Runs.useS (env:=env) (s:=s₁) (α:=α₁) eO (dS eO aN) bG et fun J1 ao cc Bp aX aj dO bg r2 bu ck jA=>?_) (fun J J q=>q) (fun J J q=>kg.lift (h6 F E aM) aV q);have kW:=eO.ext bg .nil;show wpAny (model K.prog K.w) A (setAttr Bp n u) _ _ aX;simp only[ai.toS,aj]at hc ⊢
 cases J1 with
 | inst c3 i =>
  unfold sS at dO ⊢;dsimp only at dO ⊢;by_cases kD:c3=c
  ·subst kD;rw[az rfl]at dO ⊢
   cases hs:ao[i]? with
   | none=>rw[hs]at dO;exact absurd rfl dO
   | some sv =>
    rw[hs]at dO
    cases sv with
    | ns fs =>
     dsimp only at dO ⊢;by_cases hl:fs.length<100
     ·rw[az hl];exact Un B hn r2 bu (aR.ext bg) hs hl fun s' aC aH bH=>⟨ρ,_,cc,h6 F E ((aM.trans bg).trans aH),aC,kW.ext aH .nil,(aV.trans ck).trans bH,rfl,rfl,rfl⟩
     ·rw[aY hl]at dO;exact absurd rfl dO
    | _=>exact absurd rfl dO
  ·rw[aY kD]at dO;exact absurd rfl dO
 | _=>exact absurd rfl dO
end
section
variable {K:aQ}{A:Around}{T:ba}{C:bh}{f:List (Str×NameKind)->Expr->Option X}{N:List (Str×NameKind)}{env:Env}{σ:ac}{α:au}
theorem K4(F:dR K.hb env)(am:env.scope.names=N){ci:List Expr}:∀{is:List Nat} {xs:List H} {us:List Value} {ρ ρ':aE} {s:Shared} {Q:Unit->Shared->Prop} {X:Value->Shared->Prop},nA N ci=some is->qx is xs ρ=some ρ'->a7 s.heap α xs us->aZ env ρ s.heap α->ak K.hb s.heap σ α ->
  (∀s',ak K.hb s'.heap σ α->aZ env ρ' s'.heap α->aW (e8 env) α s.heap α s'.heap->cJ s s'->Q () s')->wpAny (model K.prog K.w) A (assignInOrder ((assignEach ci env).map (·.2)) us) Q X s:=by
 induction ci with
 | nil =>
  intro is xs us ρ ρ' s Q X L O v E r a2;obtain rfl:=oi L
  cases xs with
  | nil=>obtain rfl:=oi O;exact assignInOrder_nil (a2 s r E .refl (.refl s))
  | cons _ _=>contradiction
 | cons t ci ag =>
  intro is xs us ρ ρ' s Q X L O v E r a2;change bL _ _ _=_ at L;refine fQ (M:=fun is=>qx is xs ρ=some ρ'->wpAny (model K.prog K.w) A (assignInOrder ((assignEach (t::ci) env).map (·.2)) us) Q X s) L (fun i l hi hl O=>?_) O;refine cj hi fun q hq hi=>?_;obtain rfl:=nc hq
  cases xs with
  | nil=>contradiction
  | cons p a8 =>
   refine cD v.inv_cons fun u Yl ae bd=>?_;obtain rfl:=ae;refine aP bd fun aR bu=>?_;refine aw (vS am hi) fun k lq ju=>?_;refine assignInOrder_cons (wpAny_assign_Name (qA F r E lq ju aR fun s₁ aN eO aM aV=>?_));exact ag hl O (bu.ext aM) eO aN fun s' aC dF aH bH=>a2 s' aC dF (aM.trans aH) (aV.trans bH)
theorem Sv{ci:List Expr}:∀{is:List Nat},nA N ci=some is->(assignEach ci env).length=is.length/\(assignEach ci env).findIdx? (·.1)=none:=by
 induction ci with
 | nil=>intro is h;obtain rfl:=oi h;exact⟨rfl,rfl⟩
 | cons t ci ag =>
  intro is h;change bL _ _ _=_ at h;refine fQ (M:=fun is=>(assignEach (t::ci) env).length=List.length is/\(assignEach (t::ci) env).findIdx? (·.1)=none) h fun i l hi hl=>?_;refine cj hi fun q hq hi=>?_;obtain rfl:=nc hq;refine aP (ag hl) fun L O=>?_;refine⟨congrArg Nat.succ L,?_⟩;show((false,assign (.Name q.1 q.2) env)::assignEach ci env).findIdx? (·.1)=none;rw[List.findIdx?_cons,O];rfl
theorem I9:∀{is:List Nat} {xs:List H} {ρ ρ':aE},qx is xs ρ=some ρ'->is.length=xs.length
 | [],[],_,_,_=>rfl
 | i::is,x::xs,_,_,h=>congrArg Nat.succ (I9 (is:=is) (xs:=xs) h)
 | [],_::_,_,_,h=>nomatch h
 | _::_,[],_,_,h=>nomatch h
theorem JB{ci:List Expr}{kk:Nat}{pp:Pos}{is:List Nat}{en:Bool}(aO:A.handled=none)(F:dR K.hb env)(am:env.scope.names=N)(L:nA N ci=some is):wI K A en env (.Tuple ci kk pp) (io is):=
 ⟨.inr ⟨_,_,_,rfl⟩,fun s σ α ρ ρ' pv u hb E r v Q X a2=>by
  cases pv with
  | tup xs =>
   obtain⟨t,us,k,rfl,a1,XG,vs⟩:=v.tupE
   have Mt:io is (.tup xs) ρ=if xs.length<=100 then qx is xs ρ else none:=rfl
   rw[Mt]at hb;by_cases hl:xs.length<=100
   ·rw[az hl]at hb;refine aP (Sv (env:=env) L) fun g1 g2=>?_;refine wpAny_assign_Tuple aO ⟨_,a1,rfl,k,rfl⟩ (by rw[g1,I9 hb,vs.1];rfl) g2 fun h' hx=>?_;have iy:∀b o,s.heap.get? b=some o->h'.get? b=some o:=fun b o e=>hx b o (fE (eQ e)) e;have bg:aW [] α s.heap α h':=.keeps iy;exact K4 (s:={ s with heap:=h' }) F am L hb (vs.ext bg) (E.ext bg .nil) (r.keeps iy) fun s' aC dF aH bH=>a2 s' aC dF ((h6 F E bg).trans aH) ⟨bH.gens,bH.os⟩
   ·rw[aY hl]at hb;contradiction
  | _=>contradiction⟩
set_option tactic.hygienic true in
theorem K2{ci:List Expr}{fg:Expr}{kk:Nat}{pp pos:Pos}{is:List Nat}{x:X}{n:Nat}{ρ:aE}{s:Shared}(c:Ctx K A T C)(F:dR K.hb env)(am:env.scope.names=N)(L:nA N ci=some is)(hv:IU fg=true)
  (ax:Runs K af A (eval fg env) (ev C x ρ σ) s α) (E:aZ env ρ s.heap α) :
  gy K env A (exec (.Assign [.Tuple ci kk pp] fg pos) env) (ex C n (.asgT is x) ρ σ) s α:=by
 have bt:ex C n (.asgT is x) ρ σ=bif C.hd then .stuck else(ev C x ρ σ).toS ρ fun v σ=>match io is v ρ with
  | some ρ=>.next ρ σ
  | none=>.stuck:=rfl
 rw[bt]
 cases c5:C.hd with
 | true=>exact fun hc=>absurd rfl hc
 | false =>
 rw[cond_false];intro hc tk;refine Assign_Tuple (Runs.useS E ax hc tk fun v aa α₁ u s₁ V bG aM aN aR aV et=>?_) (by cases fg <;> first | rfl | contradiction) (by cases fg <;> first | rfl | contradiction);rw[V]
 cases hb:io is v ρ with
 | none=>rw[hb]at bG;exact absurd rfl bG
 | some ρ' =>
  refine(JB (en:=true) (c.hd c5) F am L).2 s₁ aa α₁ ρ ρ' v u hb (E.ext aM .nil) aN aR _ _ fun s' aC dF aH bH=>?_
  show jL K env (match io is v ρ with | some ρ=>.next ρ aa | none=>.stuck) s α .next s'
  exact hb.symm▸(⟨ρ',aa,α₁,(h6 F E aM).trans aH,aC,dF,aV.trans bH,rfl,rfl,rfl⟩)
end
end Mine
namespace Mine
open PySem PyProof.Rows
section
variable {K:aQ}{A:Around}{T:ba}{C:bh}{f:List (Str×NameKind)->Expr->Option X}{N:List (Str×NameKind)}{env:Env}{ρ:aE}{σ:ac}{s:Shared}{α:au}
set_option tactic.hygienic true in
theorem KZ{elt iter:Expr}{x z:Str}{iF kN pos sR:Pos}{ifs:List Expr}{scope:Scope}{a6:Bool}{t:Nat}{op cond it:X}{i n:Nat}{k:NameKind}(c:Ctx K A T C)(S:b3 K A C f)(F:dR K.hb env)(h:qT T N f elt x iter ifs scope a6 t op cond it)
  (hn:env.scope.names[i]?=some (z,k)) (hk:k=.local\/k=.cell)
  (am:env.scope.names=N) (E:aZ env ρ s.heap α) (r:ak K.hb s.heap σ α) (PM:swapsWith (.ListComp elt [⟨.Name x iF,iter,ifs,0⟩] scope pos) (some (.Name z kN)) sR.line env=pure true) :
  gy K env A (exec (.Assign [.Name z kN] (.ListComp elt [⟨.Name x iF,iter,ifs,0⟩] scope pos) sR) env) (ex C n (.asg i (.comp a6 t (h2 N (dn N scope.names)) op cond it)) ρ σ) s α:=by
 have bt:ex C n (.asg i (.comp a6 t (h2 N (dn N scope.names)) op cond it)) ρ σ=(ev C (.comp a6 t (h2 N (dn N scope.names)) op cond it) ρ σ).toS ρ fun v σ=>.next (ρ.set i (some v)) σ:=rfl
 rw[bt];intro hc tk
 cases c5:C.hd with
 | true=>rw[ky,c5]at hc;exact absurd rfl hc
 | false =>
 rw[Cu c5]at hc ⊢;have co:=h.ok am;refine aP (v4 (en:=false) c c5 S h.it am F.new E r) fun eY hpl=>?_;rw[exec_Assign_Name_used _ _ _ _ PM];refine aI (wpAny_standAt (aI ?_));show wpAny _ A (do let _ <- comprehension (.ListComp elt [⟨.Name x iF,iter,ifs,0⟩] scope pos) scope env _ (newList []) false (eval iter env) (some (assign (.Name z kN) env))) _ _ s;generalize m4:mP a6 (fun v σ=>tst C cond ((cy (h2 N (dn N scope.names)) ρ).set t (some v)) σ) (fun v σ=>ev C op ((cy (h2 N (dn N scope.names)) ρ).set t (some v)) σ) (evIt C it ρ σ)=iQ at hc ⊢
 have kD:iQ≠.stuck:=by intro q;rw[q]at hc;exact hc rfl
 refine aI (cm (wpAny_comprehension_free (use:=some (assign (.Name z kN) env)) (Q:=fun J s'=>jL K env (iQ.toS ρ fun v σ=>.next (ρ.set i (some v)) σ) s α .next s')
  rfl (As hpl) (Cq (tI co E)) co.kind co.names
  (Cw (a6:=a6) (t:=t) (ρ:=ρ) (cu:=fun v σ=>tst C cond ((cy (h2 N (dn N scope.names)) ρ).set t (some v)) σ) (eC:=fun v σ=>ev C op ((cy (h2 N (dn N scope.names)) ρ).set t (some v)) σ) (RR:=fun acc jJ=>compPost (model K.prog K.w) A _ (some (assign (.Name z kN) env)) _ acc jJ)
   co E eY (by rw[m4];exact kD) tk (fun jJ v s' σ' α' ef dF aC=>?_) (fun jJ v s' σ' α' ef dF aC=>?_) c.fr F.new ⟨_,r⟩ (fun e s' hx=>?_) ?_)) (fun J s' hq=>bx (bx hq)) fun J J e=>e)
 ·rw[tH am]at dF;exact Cy S h.cond (tJ am E) ef dF aC
 ·rw[tH am]at dF;exact((S _ elt op h.elt).2 _ _ σ' s' α' (tJ am E) ef dF aC).1
 ·obtain⟨na,σ',V,dP,eJ⟩:=hx;refine⟨na,ρ,σ',s,α,dP,?_,.refl,E,.refl s,eJ⟩;rw[<- m4];show(mP _ _ _ _).toS ρ _=_;rw[V];rfl
 ·rw[m4]
  rintro acc jJ bd s' ⟨rfl,v,σ',α',m,e,aH,aC,vr,j5,ns,ha,eX,oN,N4⟩
  subst e;have dF:=E.ext aH .nil;show wpAny _ A (assign (.Name z kN) env acc) _ _ _;refine wpAny_assign_Name (qA F aC dF hn hk vr fun aX dX kX gw jZ=>?_)
  have lm:jJ∉e8 env:=fun q=>by
   refine aJ (iv E F.cl jJ q) fun o f9=>?_;rw[eX]at f9;contradiction
  have IF:aX.heap.Ns jJ m:=Ae gw (au.not_ix ha) lm ns;refine⟨m,IF,fun h' d6=>?_⟩
  obtain⟨AA,ta⟩:=dX.but ha oN (fun b o hb e=>(d6.2 b hb).trans e) (fun o e=>by
   refine lW (id IF) fun aK es d5 aA d J=>?_;rw[e]at aA;obtain rfl:=oi aA
   exact gF.notSolid ⟨_,_,d⟩) fun q=>absurd q N4
  have ap:nQ env [jJ]:=⟨fun q=>by simp at q;exact lm (q▸bi),fun y c3 cb q=>by
   simp at q;subst q
   exact lm (bI _ (cK.mpr ⟨_,mem_of_lookup cb,rfl⟩))⟩
  exact⟨_,_,_,((h6 F E aH).trans gw).sameBut eX (fun b hb=>d6.2 b hb),AA,kX.ext ta ap,(j5.trans jZ).trans ⟨rfl,rfl⟩,rfl,rfl,rfl⟩
end
theorem KU{e:Expr}{q:Expr×List Comprehension×Scope×Pos}(h:B7 e=some q):e=.ListComp q.1 q.2.1 q.2.2.1 q.2.2.2:=su (o:=Cv e) h
section
variable {K:aQ}{A:Around}{T:ba}{C:bh}{N:List (Str×NameKind)}{env:Env}{n:Nat}
noncomputable def jh(K:aQ)(A:Around)(C:bh)(n:Nat)(env:Env)(t:Sem Flow)(b:S):Prop:=
 ∀ρ σ s α,aZ env ρ s.heap α->ak K.hb s.heap σ α->gy K env A t (ex C n b ρ σ) s α
noncomputable def n3(K:aQ)(A:Around)(C:bh)(n:Nat)(env:Env)(g:Stmt->Option S):Prop:=
 ∀st b,g st=some b->jh K A C n env (exec st env) b
theorem pj{g:Stmt->Option S}(ax:n3 K A C n env g){vU:List Stmt}:∀{b:S},kQ g vU=some b->jh K A C n env (execs vU env) b:=by
 induction vU with
 | nil =>
  intro b h ρ σ s α E r;obtain rfl:=oi h;exact fun J J=>wpAny_execs_nil ⟨ρ,σ,α,.refl,r,E,.refl s,rfl,rfl,rfl⟩
 | cons st vU ag =>
  intro b h;change bL _ _ _=_ at h;refine fQ h fun a dC ha hb ρ σ s α E r hc tk=>?_
  have bt:ex C n (.cons a dC) ρ σ=(match ex C n a ρ σ with
   | .next ρ σ=>ex C n dC ρ σ
   | o=>o):=rfl
  rw[bt]at hc ⊢;refine wpAny_execs_cons ?_
  have L:ex C n a ρ σ≠.stuck:=by intro q;rw[q]at hc;exact hc rfl
  refine cm (jb (ax st a ha _ _ _ _ E r L tk)) (fun fl s₁ hp=>?_) fun e s₁ hx=>?_
  ·obtain⟨⟨bQ,aa,α₁,aM,aN,eO,aV,fo⟩,sZ⟩:=hp
   cases hq:ex C n a ρ σ with
   | next ρ' σ' =>
    rw[hq]at fo hc;obtain⟨rfl,rfl,rfl⟩:=fo;exact cm (ag hb _ _ _ _ eO aN hc (aQ.Tk.up tk sZ)) (fun J J q=>q.lift aM aV) fun J J q=>q.lift aM aV
   | cont ρ' σ'=>rw[hq]at fo;have kA:=fo;obtain⟨rfl,_⟩:=kA;exact⟨bQ,aa,α₁,aM,aN,eO,aV,fo⟩
   | brk ρ' σ'=>rw[hq]at fo;have kA:=fo;obtain⟨rfl,_⟩:=kA;exact⟨bQ,aa,α₁,aM,aN,eO,aV,fo⟩
   | ret v ρ' σ'=>rw[hq]at fo;have kA:=fo;obtain⟨⟨u,rfl,_⟩,_⟩:=kA;exact⟨bQ,aa,α₁,aM,aN,eO,aV,fo⟩
   | exc i ρ' σ'=>rw[hq]at fo;exact fo.elim
   | stuck=>exact absurd hq L
  ·obtain⟨⟨i,ρ',σ',aX,cc,dP,V,q1,q2,q3,q4⟩,_⟩:=hx;exact⟨i,ρ',σ',aX,cc,dP,by rw[V],q1,q2,q3,q4⟩
section
variable {f:List (Str×NameKind)->Expr->Option X}{g:Stmt->Option S}
theorem b3.val(eF:b3 K A C f)(F:dR K.hb env)(am:env.scope.names=N){e:Expr}{x:X}(h:f N e=some x){ρ σ s α}(E:aZ env ρ s.heap α)(r:ak K.hb s.heap σ α):Runs K af A (eval e env) (ev C x ρ σ) s α:=
 ((eF N _ _ h).2 env ρ σ s α am F.new E r).1
theorem b3.tst(eF:b3 K A C f)(F:dR K.hb env)(am:env.scope.names=N){e:Expr}{x:X}(h:f N e=some x){ρ σ s α}(E:aZ env ρ s.heap α)(r:ak K.hb s.heap σ α):Runs K hX A (isTrue e env (eval e env)) (tst C x ρ σ) s α:=
 ((eF N _ _ h).2 env ρ σ s α am F.new E r).2
theorem K0{z:Str}{kN sR:Pos}{v:Expr}{b:S}(c:Ctx K A T C)(eF:b3 K A C f)(F:dR K.hb env)(am:env.scope.names=N)(h:JI T N f (f N) (.Name z kN) v=some b):jh K A C n env (exec (.Assign [.Name z kN] v sR) env) b:=by
 change i6 _ _ _=_ at h;refine j2 h (fun q Om h=>?_) fun J h=>cG h fun js h=>fQ h fun i y hi hy=>?_
 ·rw[KU Om];refine fQ h fun i y hi hy=>?_;refine xi (JJ hy) fun x iF iter ifs hg hy=>?_;rw[hg];refine aw (vS am hi) fun k lq ju=>?_;refine JK (P:=fun y=>jh K A C n env _ (.asg i y)) hy fun t e iQ it ae ρ σ s α E r=>?_
  cases hq:(env.blockKind == .function&&env.kindOf z == some .local&&kN.line == q.2.2.2.line&&!(q.2.2.1.names.any fun(n,k)=>n == z&&(k == .local||k == .cell)))with
  | true=>exact KZ c eF F ae lq ju am E r (congrArg pure hq)
  | false =>
   intro hc tk;refine wpAny_Assign_Name (Runs.useS E (Cr c eF ae am F.new E r) hc tk fun v aa α₁ u s₁ V bG aM aN aR aV et=>?_) (congrArg pure hq);refine qA F aN (E.ext aM .nil) lq ju aR fun aX r2 kW bg ck=>?_;show jL K env (ai.toS _ _ _) _ _ _ _;exact V.symm▸(⟨_,_,_,(h6 F E aM).trans bg,r2,kW,aV.trans ck,rfl,rfl,rfl⟩)
 ·refine aw (vS am hi) fun k lq ju=>?_;exact fun J J J J E r=>K3 F (by simpa using js) lq ju (eF.val F am hy E r) E
theorem VM{t:Expr}{eR kL:List Stmt}{pos:Pos}{bX:X}{dC aK:S}(eF:b3 K A C f)(F:dR K.hb env)(am:env.scope.names=N)(L:f N t=some bX)(O:jh K A C n env (execs eR env) dC)(ar:jh K A C n env (execs kL env) aK) :
  jh K A C n env (exec (.If t eR kL pos) env) (.ife bX dC aK):=fun ρ σ s α E r hc tk=>by
 have bt:ex C n (.ife bX dC aK) ρ σ=(tst C bX ρ σ).toS ρ fun t σ=>if t then ex C n dC ρ σ else ex C n aK ρ σ:=rfl
 rw[bt]at hc ⊢;refine wpAny_If (Runs.useS E (eF.tst F am L E r) hc tk fun t aa α₁ y s₁ V bG aM aN aR aV et=>?_);have:y=t:=aR;subst this;rw[V];have eO:=E.ext aM .nil
 cases y with
 | true=>exact cm (O _ _ _ _ eO aN bG et) (fun J J q=>q.lift (h6 F E aM) aV) fun J J q=>q.lift (h6 F E aM) aV
 | false=>exact cm (ar _ _ _ _ eO aN bG et) (fun J J q=>q.lift (h6 F E aM) aV) fun J J q=>q.lift (h6 F E aM) aV
theorem VJ{x:Str}{iF pos:Pos}{it:Expr}{eR:List Stmt}{na:Nat}{kI:X}{dC:S}(c:Ctx K A T C)(eF:b3 K A C f)(F:dR K.hb env)(am:env.scope.names=N)(L:mw N x=some na)(O:pi T N (f N) it=some kI)(ar:jh K A C n env (execs eR env) dC) :
  jh K A C n env (exec (.For (.Name x iF) it eR [] pos) env) (.for1 na kI dC):=fun ρ σ s α E r=>by
 refine aw (vS am L) fun k lq ju=>?_
 have bt:ex C n (.for1 na kI dC) ρ σ=bif C.hd then .stuck else(evIt C kI ρ σ).toS ρ fun p σ=>ct p.2 (dH na) (fun ρ σ=>ex C n dC ρ σ) p.1 ρ σ:=rfl
 rw[bt]
 cases c5:C.hd with
 | true=>exact fun hc=>absurd rfl hc
 | false =>
 obtain⟨q1,q2⟩:=v4 c c5 eF O am F.new E r;exact FU F (Vp F lq ju) q2 q1 (ar _ _ _ _) E rfl
theorem VI{ci:List Expr}{kk:Nat}{pp pos:Pos}{it:Expr}{eR:List Stmt}{is:List Nat}{kI:X}{dC:S}(c:Ctx K A T C)(eF:b3 K A C f)(F:dR K.hb env)(am:env.scope.names=N)(L:nA N ci=some is)(O:v3 T N (f N) it=some kI)(ar:jh K A C n env (execs eR env) dC) :
  jh K A C n env (exec (.For (.Tuple ci kk pp) it eR [] pos) env) (.forT is kI dC):=fun ρ σ s α E r=>by
 have bt:ex C n (.forT is kI dC) ρ σ=bif C.hd then .stuck else(evIt C kI ρ σ).toS ρ fun p σ=>ct p.2 (io is) (fun ρ σ=>ex C n dC ρ σ) p.1 ρ σ:=rfl
 rw[bt]
 cases c5:C.hd with
 | true=>exact fun hc=>absurd rfl hc
 | false =>
 refine aw (VN c c5 eF O am F.new E r) fun en q1 q2=>?_;exact FU F (JB (c.hd c5) F am L) q2 q1 (ar _ _ _ _) E rfl
theorem VW{e:Option Expr}{pos:Pos}{b:S}(c:Ctx K A T C)(am:env.scope.names=N)(h:Bf T N e=some b):jh K A C n env (exec (.Raise e none pos) env) b:=by
 unfold Bf at h;refine cj h fun q hq h=>cj h fun z bA h=>fc h fun c3 hc=>?_;refine cj hq fun V he hq=>?_;subst he;rw[tC hq];refine cD (HS bA) fun k p bA cL=>?_;exact bA.symm▸(fun J J J J E r=>TY c hc cL am E r)
theorem V4{eR:List Stmt}{hs:List ExceptHandler}{pos:Pos}{b:S}(c:Ctx K A T C)(F:dR K.hb env)(am:env.scope.names=N)(ax:n3 K A C n env g)(qV:C.rz=true->∀(hx:Heap) (a:Addr),pz K hx a C->dR (K.wx hx).hb env->n3 (K.wx hx) (A.mark (some (.ref a))) C.inH n env g)(h:Bj T N g eR hs=some b) :
  jh K A C n env (exec (.Try eR hs [] [] pos) env) b:=by
 unfold Bj at h;refine cj h fun hd h0 h=>?_;rw[sB h0];obtain⟨t,y,hb,uY⟩:=hd;change Option.bind _ _=_ at h;refine cj h fun q hq h=>cj h fun a3 hy h=>cj h fun c3 hc h=>cj h fun i hi h=>cG h fun gm h=>fQ h fun b1 L rK OY=>?_;refine cj hq fun bX a1 hq=>?_;subst a1 hy;rw[nc hq];simp only[el,e7,Bool.not_eq_true',List.isEmpty_eq_false_iff]at gm;exact fun J J J J E r=>V9 c F hc am gm.1 gm.2 (pj ax rK _ _ _ _ E r) fun l7 hx a jz nU {_ _ _ _} dF aC=>pj (qV l7 hx a jz nU) OY _ _ _ _ dF aC
end
theorem VZ{f:List (Str×NameKind)->Expr->Option X}{g:Stmt->Option S}(c:Ctx K A T C)(eF:b3 K A C f)(F:dR K.hb env)(am:env.scope.names=N)(ax:n3 K A C n env g)
  (qV:C.rz=true->∀(hx:Heap) (a:Addr),pz K hx a C->dR (K.wx hx).hb env->n3 (K.wx hx) (A.mark (some (.ref a))) C.inH n env g)
  : n3 K A C n env (JO T N f (f N) g):=by
 intro st b h
 cases st with
 | Assign ci v sR =>
  change Option.bind _ _=_ at h;refine cj h fun t h0 h=>?_;rw[sB h0]
  cases t with
  | Name z kN=>exact K0 c eF F am h
  | Subscript o i pp =>
   change bT _ _=_ at h;exact cG h fun js h=>j1 h fun aK na b2 L O ar J J J J E r=>K1 c.hA F (by simpa using js) (eF.val F am ar) (eF.val F am L) (eF.val F am O) E r
  | Attribute o nm pp =>
   change Option.bind _ _=_ at h;refine cj h fun q hb h=>cG h fun hc h=>fQ h fun aK b2 L ar=>?_;obtain⟨b,cl⟩:=q;refine aP (cV hc) fun bG dO=>?_;refine aw (c.brd b cl hb) fun b7 B J=>?_;exact fun J J J J E r=>KY B (mL.mp dO) F (by simpa using bG) (eF.val F am ar) (eF.val F am L) E r
  | Tuple ci kk pp =>
   change bT _ _=_ at h;refine cG h fun hc h=>fQ h fun is b2 L ar=>?_;exact fun J J J J E r=>K2 c F am L hc (eF.val F am ar E r) E
  | _=>contradiction
 | Expr e pos =>
  change bT _ _=_ at h;exact cG h fun js h=>fc h fun y hq J J J J E r=>M0 F (by simpa using js) (eF.val F am hq E r) E
 | Return v pos =>
  cases v with
  | some e=>exact fc h fun y hq J J J J E r=>T9 F (eF.val F am hq E r) E
  | none=>obtain rfl:=oi h;exact fun ρ σ s α E r J J=>wpAny_Return_none ⟨ρ,σ,α,.refl,r,E,.refl s,⟨.none,rfl,.none⟩,rfl,rfl⟩
 | If t eR kL pos=>exact j1 h fun bX dC aK L O ar=>VM eF F am L (pj ax O) (pj ax ar)
 | For t it eR o pos =>
  change bT _ _=_ at h;refine cG h fun ho h=>j2 h (fun q hq h=>j1 h fun na kI dC L O ar=>?_) fun J h=>cj h fun ci a1 h=>j1 h fun is kI dC L O ar=>?_
  ·rw[gQ.mp ho,nc hq];exact VJ c eF F am L O (pj ax ar)
  ·rw[gQ.mp ho]
   cases t with
   | Tuple Ye kk pp =>
    obtain rfl:=oi a1;exact VI c eF F am L O (pj ax ar)
   | _=>contradiction
 | Break pos=>obtain rfl:=oi h;exact fun ρ σ s α E r J J=>wpAny_Break ⟨ρ,σ,α,.refl,r,E,.refl s,rfl,rfl,rfl⟩
 | Raise V aj pos =>
  change bT _ _=_ at h;refine cG h fun he h=>?_;rw[mK.mp he];exact VW c am h
 | Try rh hs o FN pos =>
  change bT _ _=_ at h;refine cG h fun gm h=>?_;refine aP (cV gm) fun L O=>?_;rw[gQ.mp L,gQ.mp O];exact V4 c F am ax qV h
 | _=>contradiction
theorem V0{f:List (Str×NameKind)->Expr->Option X}{Good:aQ->Around->bh->Prop}(am:env.scope.names=N)
  (G:∀K A C,Good K A C->Ctx K A T C/\b3 K A C f/\(C.rz=true->∀(hx:Heap) (a:Addr),pz K hx a C->Good (K.wx hx) (A.mark (some (.ref a))) C.inH)):∀m {K:aQ} {A:Around} {C:bh},dR K.hb env->Good K A C->n3 K A C n env (s4 T N f m):=by
 intro m
 induction m with
 | zero =>
  intro _ _ _ _ _
  exact fun st b h=>by contradiction
 | succ m ag =>
  intro K A C F g;exact VZ (G K A C g).1 (G K A C g).2.1 F am (ag F g) fun l7 hx a jz nU=>ag nU ((G K A C g).2.2 l7 hx a jz)
end
end Mine
namespace Mine
open PySem PyProof.Rows
structure fL(d:Nat)(A:Around):Prop where
 depth:A.depth+2*d+200<recursionLimit
 units:A.units+20*d+200<cLine
theorem fL.ok{d:Nat}{A:Around}(h:fL d A):d9 A:=⟨by have:=h.depth;(grind),by have:=h.units;(grind)⟩
theorem fL.deeper{d:Nat}{A:Around}{env:Env}(h:fL (d+1) A):fL d (A.deeper env):=by
 refine⟨?_,?_⟩
 ·have:=h.depth;show A.depth+1+2*d+200<recursionLimit
  (grind)
 ·have:=h.units;show A.units+3+20*d+200<cLine
  (grind)
theorem fL.mark{d:Nat}{A:Around}{e:Option Value}(h:fL d A):fL d (A.mark e):=⟨h.depth,h.units⟩
theorem af.refr{h:Heap}{α:au}{p:H}{v:Value}{fr:List Addr}(r:af h α p v):af h ⟨α.ix,α.hid,fr⟩ p v:=af.re (α:=α) (α':=⟨α.ix,α.hid,fr⟩) (fun J J e=>e) (fun J h=>h) r
noncomputable def aQ.wf(K:aQ)(fr:List Addr):aQ:={ K with hb:=⟨K.hb.h,fr,K.hb.prog,K.hb.w⟩ }
theorem e4.push{K:aQ}{A:Around}{fr:List Addr}{env:Env}{bK:Addr}(h:e4 (K.wf fr) A)(bw:env.frame=some bK)(hk:env.scope.kind=.function):e4 (K.wf (bK::fr)) (A.deeper env):=by
 refine bC h.ex fun l L O ar=>?_;refine⟨env::l,?_,?_,fun e he=>?_⟩
 ·show A.frames.map (env::·)=_;rw[L];rfl
 ·show(env::l).map (·.frame)=(bK::fr).map some;rw[dG,dG,bw,O];rfl
 ·rcases bE.mp he with q | q
  ·rw[q,hk];decide
  ·exact ar e q
theorem e4.mark{K:aQ}{A:Around}{e:Option Value}(h:e4 K A):e4 K (A.mark e):=⟨h.ex⟩
theorem d1.wf{K:aQ}{fr l1:List Addr}{h:Heap}{α:au}{m:aS}{a:Addr}(o:d1 (K.wf fr).hb h α m a):d1 (K.wf l1).hb h α m a:=by
 cases m <;> exact o
theorem ak.pushFr{K:aQ}{fr:List Addr}{h:Heap}{σ:ac}{α:au}{bK:Addr}{o:Obj}(r:ak (K.wf fr).hb h σ α)(eK:K.hb.get? bK=none)(e:h.get? bK=some o)(d:gF o)(N9:bK∉α.ix):ak (K.wf (bK::fr)).hb h σ ⟨α.ix,α.hid,bK::fr⟩:=
 ⟨r.base,r.fresh,r.nodup,r.len,r.hidden,fun j m a V aj=>((r.obj j m a V aj).wf (l1:=bK::fr)).re (α:=α) (α':=⟨α.ix,α.hid,bK::fr⟩) (fun J J e=>e) (fun J h=>h),r.hfr,rfl,fun a ha=>by
  rcases bE.mp ha with q | q
  ·subst q;exact⟨eK,o,e,d⟩
  ·exact r.frs a q,fun a ha=>by
  rcases bE.mp ha with q | q
  ·subst q;exact N9
  ·exact r.frNot a q⟩
theorem ak.popFr{K:aQ}{fr:List Addr}{h:Heap}{σ:ac}{α:au}{bK:Addr}(r:ak (K.wf (bK::fr)).hb h σ α):ak (K.wf fr).hb h σ ⟨α.ix,α.hid,fr⟩:=
 ⟨r.base,r.fresh,r.nodup,r.len,r.hidden,fun j m a V aj=>((r.obj j m a V aj).wf (l1:=fr)).re (α:=α) (α':=⟨α.ix,α.hid,fr⟩) (fun J J e=>e) (fun J h=>h),r.hfr,rfl,fun a ha=>r.frs a (bI _ ha),fun a ha=>r.frNot a (bI _ ha)⟩
theorem aW.ofCall{bV:List Addr}{α cc:au}{h cE fb:Heap}{bK:Addr}{fr:List Addr}(hfr:α.fr=fr)(k:∀b o,h.get? b=some o->cE.get? b=some o)(l6:∀b∈bV,h.get? b=none)(eK:h.get? bK=none)
  (y:aW bV ⟨α.ix,α.hid,bK::fr⟩ cE cc fb):aW [] α h ⟨cc.ix,cc.hid,fr⟩ fb:=by
 have no:∀b o,h.get? b=some o->b∉bV:=fun b o e q=>by rw[l6 b q]at e;contradiction
 refine aw y.pre fun β q1 q2=>?_;refine⟨y.hid,⟨β,q1,fun x hx=>⟨?_,(dT)⟩⟩,fun b o hb e hs=>y.seqs b o hb (k b o e) hs,fun b o hb J e=>?_,fun b o J e=>y.alive b o (no b o e) (k b o e),hfr.symm⟩
 ·cases e:h.get? x with
  | none=>rfl
  | some o=>have:=k x o e;rw[(q2 x hx).1]at this;contradiction
 ·rcases y.rest b o hb (no b o e) (k b o e)with q | ⟨f,d,cq,q⟩
  ·exact .inl q
  ·refine .inr ⟨?_,d,cq,q⟩
   rcases bE.mp f with z | z
   ·rw[z,eK]at e;contradiction
   ·exact hfr.symm▸z
theorem gK.leave{K:aQ}{fr:List Addr}{s s₀ s₁ aX:Shared}{α jg:au}{i:Nat}{σ:ac}{dP:Bool}{e:Value}{env:Env}{A:Around}{bK:Addr}{ρ:aE}{Q:Unit->Shared->Prop}{E:Value->Shared->Prop}(hA:e4 (K.wf (bK::fr)) A)(bN:dR (K.wf (bK::fr)).hb env)
  (hfr:α.fr=fr) (k:∀b o,s.heap.get? b=some o->s₁.heap.get? b=some o) (l6:∀b∈e8 env,s.heap.get? b=none) (hl:env.locals=bK) (mv:∃σ,ak (K.wf fr).hb s.heap σ α) (m:cJ s s₀)
  (y:aW (e8 env) ⟨α.ix,α.hid,bK::fr⟩ s₁.heap jg s₀.heap) (te:aZ env ρ s₀.heap jg) (f:gK (K.wf (bK::fr)) s₀ jg i σ dP e aX)
  (a2:∀s',gK (K.wf fr) s α i σ true e s'->Q () s'):wpAny (model K.prog K.w) A (leaving env e) Q E aX:=by
 obtain⟨a,h₀,α',rfl,aH,aC,u,bB,bH⟩:=f;subst hl;have eK:s.heap.get? env.locals=none:=l6 _ bi
 have N8:env.locals∉fr:=fun q=>by
  refine aJ mv fun σ' AB=>?_;obtain⟨_,o,e,_⟩:=AB.frs _ q;rw[eK]at e;contradiction
 have O8:=(te.ext aH .nil).la;have keep:∀b,b≠env.locals->(PySem.W.hideAll h₀ [env.locals]).get? b=h₀.get? b:=fun b hb=>O0 hb
 have Iz:∀b,h₀.get? b=none->(PySem.W.hideAll h₀ [env.locals]).get? b=none:=fun b hb=>by
  cases q:(PySem.W.hideAll h₀ [env.locals]).get? b with
  | none=>rfl
  | some o=>rw[PySem.W.of_hideAll _ q]at hb;contradiction
 have aN:=aC.popFr
 obtain⟨r2,_⟩:=aN.but (h':=PySem.W.hideAll h₀ [env.locals]) (I:=env.locals) O8 bN.new.l (fun b o hb e=>(keep b hb).trans e) (fun o e=>by
  obtain⟨_,aK,aA,d⟩:=aC.frs env.locals bi
  rw[e]at aA;obtain rfl:=oi aA;exact d.notSolid) fun q=>absurd q N8
 have aM:aW [] α s.heap ⟨α'.ix,α'.hid,fr⟩ h₀:=aW.ofCall hfr k l6 eK (y.trans (aH.mono ((fun J q=>absurd q dT)) (iv te bN.cl)));have bg:=aM.sameBut eK keep;refine Rf (K:=K.wf (env.locals::fr)) hA bN.new aC u bB fun hM Bo Mr=>a2 _ ⟨a,_,_,rfl,bg,r2,fun b o hb=>?_,?_,⟨(m.trans bH).gens,(m.trans bH).os⟩⟩
 ·have Ou:b≠env.locals:=fun q=>by rw[q,PySem.W.hideAll_none _ ((bi))]at hb;contradiction
  rcases Bo b o (PySem.W.of_hideAll _ hb)with q | ⟨f,cq,q⟩
  ·exact .inl q
  ·rcases bE.mp f with z | z
   ·exact absurd z Ou
   ·exact .inr ⟨z,cq,q⟩
 ·obtain⟨new,gr,vs,nM,he,hc,hd,L,a1,lf⟩:=Mr;refine⟨Iz a new,gr,vs,nM,he,hc,hd,L,?_,lf⟩
  rcases a1 with⟨q,nv⟩ | ⟨T,nr,ci,q,oL,ei,e3,po,qN,WP⟩
  ·exact .inl q nv
  ·exact .inr T nr ci q (Iz T oL) ei e3 po qN WP
theorem tE:∀{names:List (Str×NameKind)} {n:Nat} {acc:List (Str×Addr)} {x:Str},(x,NameKind.cell)∈names->∃c,(x,c)∈cellsFrom n names acc
 | (y,k)::r,n,acc,x,h=>by
  have keep:∀{r:List (Str×NameKind)} {n:Nat} {acc:List (Str×Addr)} {p:Str×Addr},p∈acc->p∈cellsFrom n r acc:=by
   intro r
   induction r with
   | nil=>intro n acc p hp;exact hp
   | cons q r ag =>
    intro n acc p hp;obtain⟨y,k⟩:=q;unfold cellsFrom
    split
    ·exact ag (bI _ hp)
    ·exact ag hp
  unfold cellsFrom
  rcases bE.mp h with e | h
  ·cases e;rw[az (by rfl)];exact⟨n,keep bi⟩
  ·split
   ·exact tE h
   ·exact tE h
theorem LO:∀{names:List (Str×NameKind)} {n:Nat} {acc:List (Str×Addr)},n5 names->(acc.map (·.1)).Nodup->(∀p∈acc,∀k,(p.1,k)∉names)->((cellsFrom n names acc).map (·.1)).Nodup:=by
 intro r
 induction r with
 | nil =>
  intro _ _ _ h _;exact h
 | cons bt r ag =>
  obtain⟨y,k⟩:=bt;intro n acc kC h hd
  have Gr:n5 r:=fun i j x k b8 L O=>by have:=kC (i+1) (j+1) x k b8 (by simpa using L) (by simpa using O);(exact Nat.succ.inj (by assumption))
  have hy:∀b8,(y,b8)∉r:=fun b8 hm=>by
   refine aJ (List.mem_iff_getElem?.mp hm) fun i hi=>?_;have:=kC 0 (i+1) y k b8 (by rfl) (by simpa using hi)
   (grind)
  unfold cellsFrom
  split
  ·refine ag Gr ?_ fun p hp b8 hm=>?_
   ·simp only[dG,hG];refine⟨fun q=>?_,h⟩;refine aw (cK.mp q) fun p hp ae=>?_;obtain rfl:=ae;exact hd p hp k bi
   ·rcases bE.mp hp with e | hp
    ·subst e;exact hy b8 hm
    ·exact hd p hp b8 (bI _ hm)
  ·exact ag Gr h fun p hp b8 hm=>hd p hp b8 (bI _ hm)
theorem RH:∀{l:List (Str×Addr)},(l.map (·.1)).Nodup->∀p∈l,l.lookup p.1=some p.2:=by
 intro r
 induction r with
 | nil =>
  intro _ p hp
  (exact nomatch hp)
 | cons bt r ag =>
  obtain⟨k,v⟩:=bt;intro h p hp;simp only[dG,hG]at h;rw[List.lookup_cons]
  rcases bE.mp hp with e | hp
  ·subst e;simp
  ·have:(p.1 == k)=false:=by
    cases hb:p.1 == k with
    | false=>rfl
    | true =>
     have:p.1=k:=by simpa using hb
     exact absurd (cK.mpr ⟨p,hp,this⟩) h.1
   exact this.symm▸(ag h.2 p hp)
theorem Ch{i3:Str->Option NameKind}:∀{a8:List Str} {vals:List Value} {m:Str->Option Value} {y:Str},y∉a8->bindL i3 (a8.zip vals) m y=m y
 | [],vals,m,y,h=>by simp[bindL]
 | p::a8,[],m,y,h=>by simp[bindL]
 | p::a8,v::vals,m,y,h=>by
  simp only[bE,not_or]at h;simp only[List.zip_cons_cons,bindL];rw[Ch h.2]
  split
  ·simp[h.1]
  ·rfl
theorem Cf{i3:Str->Option NameKind}:∀{a8:List Str} {vals:List Value} {m:Str->Option Value} {y:Str},y∉a8->bindC i3 (a8.zip vals) m y=m y
 | [],vals,m,y,h=>by simp[bindC]
 | p::a8,[],m,y,h=>by simp[bindC]
 | p::a8,v::vals,m,y,h=>by
  simp only[bE,not_or]at h;simp only[List.zip_cons_cons,bindC];rw[Cf h.2]
  split
  ·rfl
  ·simp[h.1]
theorem Cg{i3:Str->Option NameKind}:∀{a8:List Str} {vals:List Value} {m:Str->Option Value} {i:Nat} {y:Str} {v:Value},a8.Nodup->a8[i]?=some y->vals[i]?=some v->i3 y=some .local->bindL i3 (a8.zip vals) m y=some v
 | [],vals,m,i,y,v,_,h,_,_=>(nomatch h)
 | p::a8,[],m,i,y,v,_,_,h,_=>(nomatch h)
 | p::a8,w::vals,m,i,y,v,hn,L,O,hk=>by
  rw[hG]at hn;simp only[List.zip_cons_cons,bindL]
  cases i with
  | zero =>
   simp at L O;subst L O;rw[Ch hn.1,az hk];simp
  | succ i=>exact Cg hn.2 (by simpa using L) (by simpa using O) hk
theorem Ce{i3:Str->Option NameKind}:∀{a8:List Str} {vals:List Value} {m:Str->Option Value} {i:Nat} {y:Str} {v:Value},a8.Nodup->a8[i]?=some y->vals[i]?=some v->i3 y=some .cell->bindC i3 (a8.zip vals) m y=some v
 | [],vals,m,i,y,v,_,h,_,_=>(nomatch h)
 | p::a8,[],m,i,y,v,_,_,h,_=>(nomatch h)
 | p::a8,w::vals,m,i,y,v,hn,L,O,hk=>by
  rw[hG]at hn;simp only[List.zip_cons_cons,bindC]
  cases i with
  | zero =>
   simp at L O;subst L O;rw[Cf hn.1,aY (by rw[hk];decide)];simp
  | succ i=>exact Ce hn.2 (by simpa using L) (by simpa using O) hk
structure ke(K:aQ)(T:ba)(fn:bJ)(a:Addr)(o:Obj)(fd:FuncData)(body:List Stmt)(a8:List Str)(n1 n2:Nat):Prop where
 ho:K.hb.get? a=some o
 hd:o.data=.func fd
 code:K.hb.h.CodeRec fd.code fd.qualname
 hbody:fd.body=.stmts body
 glob:fd.globals=mainGlobals
 bins:fd.builtins=builtinsNs
 clo:fd.closure=[]
 kind:fd.scope.kind=.function
 co:fd.scope.isCoroutine=false
 gen:fd.scope.isGenerator=false
 sc:pa fd.scope.names=true
 tr:kQ (s4 T fd.scope.names (qG T n1) n2) body=some fn.body
 params:fn.params=a8.length
 slots:fn.slots=fd.scope.names.length
 pk:∀(i:Nat) (p:Str),a8[i]?=some p->∃k,fd.scope.names[i]?=some (p,k)/\(k=NameKind.local\/k=.cell)
 bind:∀vals:List Value,vals.length=a8.length->bindArgs fd ⟨vals,[]⟩=pure (a8.zip vals)
theorem ke.nodup{K T fn a o fd body a8 n1 n2}(f:ke K T fn a o fd body a8 n1 n2):a8.Nodup:=by
 rw[List.Nodup,List.pairwise_iff_getElem];intro i j hi a0 GI e;obtain⟨k,L,_⟩:=f.pk i a8[i] (by simp[hi]);obtain⟨b8,O,_⟩:=f.pk j a8[j] (by simp[a0]);rw[e]at L;have:=(sP f.sc).uniq i j _ _ _ L O
 (grind)
section
variable {K:aQ}{A:Around}{T:ba}{C:bh}{s:Shared}{α:au}{σ:ac}
theorem LC{fr:List Addr}{fn:bJ}{a:Addr}{o:Obj}{fd:FuncData}{body:List Stmt}{a8:List Str}{n1 n2:Nat}(f:ke K T fn a o fd body a8 n1 n2){vs:List H}{us:List Value}{s₁:Shared}
  (hl:vs.length=a8.length) (r:ak (K.wf fr).hb s.heap σ α) (v:a7 s.heap α vs us)
  (I:InCallC s (callEnvC fd s.heap.objs.size a).locals (bindL (callEnvC fd s.heap.objs.size a).kindOf (a8.zip us) fun J=>none) (callEnvC fd s.heap.objs.size a).cells (bindC (callEnvC fd s.heap.objs.size a).kindOf (a8.zip us) fun J=>none) s₁) :
  aZ (callEnvC fd s.heap.objs.size a) (vs.map some++List.replicate (fn.slots-fn.params) none) s₁.heap ⟨α.ix,α.hid,s.heap.objs.size::fr⟩/\dR (K.wf (s.heap.objs.size::fr)).hb (callEnvC fd s.heap.objs.size a)/\ak (K.wf (s.heap.objs.size::fr)).hb s₁.heap σ ⟨α.ix,α.hid,s.heap.objs.size::fr⟩/\cJ s s₁/\(∀b o,s.heap.get? b=some o->s₁.heap.get? b=some o)/\∀b∈e8 (callEnvC fd s.heap.objs.size a),s.heap.get? b=none:=by
 have sc:=sP f.sc;have keep:=I.toInCall.keep;have e9:(callEnvC fd s.heap.objs.size a).scope=fd.scope:=rfl;have Xw:(callEnvC fd s.heap.objs.size a).cells=cellsFrom (s.heap.objs.size+1) fd.scope.names []:=rfl;have XC:(callEnvC fd s.heap.objs.size a).locals=s.heap.objs.size:=rfl
 have fresh:∀b,s.heap.objs.size<=b->s.heap.get? b=none:=fun b hb=>by
  cases e:s.heap.get? b with
  | none=>rfl
  | some aK=>exact absurd (eQ e) (Nat.not_lt.mpr hb)
 have notAll:∀b,s.heap.get? b=none->b∉α.all:=fun b hb q=>by refine aJ (r.liveAll q) fun o e=>?_;rw[hb]at e;contradiction
 have base:∀b,s.heap.get? b=none->K.hb.get? b=none:=fun b hb=>by
  cases e:K.hb.get? b with
  | none=>rfl
  | some o=>rw[r.base b o e]at hb;contradiction
 have w4:∀n c,(n,c)∈(callEnvC fd s.heap.objs.size a).cells->s.heap.get? c=none:=fun n c h=>fresh c (hH (I.above n c h));have i3:∀(i:Nat) (y:Str) (k:NameKind),fd.scope.names[i]?=some (y,k)->(callEnvC fd s.heap.objs.size a).kindOf y=some k:=fun i y k h=>so sc.uniq h;have rV:=LO (n:=s.heap.objs.size+1) (acc:=[]) sc.uniq (by trivial) ((fun J q=>absurd q dT));have cl:∀p∈(callEnvC fd s.heap.objs.size a).cells,(callEnvC fd s.heap.objs.size a).cells.lookup p.1=some p.2:=RH rV;have J7:aW [] α s.heap α s₁.heap:=.keeps keep
 have zp:∀(i:Nat) (w:H),(vs.map some++List.replicate (fn.slots-fn.params) (none:Option H))[i]?=some (some w)->vs[i]?=some w:=fun i w e=>by
  by_cases hi:i<vs.length
  ·rw[ik (by simpa using hi)]at e;simpa using e
  ·rw[iM (by simpa using hi)]at e;rw[List.getElem?_replicate]at e
   split at e <;> cases e
 have arg:∀(i:Nat) (w:H),vs[i]?=some w->∃p k u,a8[i]?=some p/\fd.scope.names[i]?=some (p,k)/\(k=.local\/k=.cell)/\us[i]?=some u/\af s.heap α w u:=fun i w e=>by
  have hi:i<vs.length:=(dU e).1;have hp:i<a8.length:=(Nat.lt_of_lt_of_eq (by assumption) (by assumption));obtain⟨k,L,O⟩:=f.pk i a8[i] (by simp[hp])
  have hu:i<us.length:=by exact v.1▸hi
  exact⟨a8[i],k,us[i],by simp[hp],L,O,by simp[hu],v.2 i w us[i] e (by simp[hu])⟩
 refine⟨⟨⟨f.kind,f.glob,f.bins,i3,sc.nodbg⟩,notAll _ (fresh _ (c9 _)),⟨_,I.toInCall.ns,fun i y w V aj=>?_⟩,fun y c hc=>?_,fun y z c L O=>?_,fun i y V=>?_,fun i w e=>?_⟩,
  ⟨sc,⟨base _ (fresh _ (c9 _)),fun y c hc=>base _ (w4 y c (mem_of_lookup hc)),⟨_,_,rfl,rfl⟩⟩,cl,?_⟩,?_,?_,keep,fun b hb=>?_⟩
 ·refine rq (arg i w (zp i w aj)) fun p k u q1 q2 q3 q4 q5=>?_;rw[e9]at V;rw[q2]at V;cases V;exact⟨u,Cg f.nodup q1 q4 (i3 i _ _ q2),(q5.ext J7).refr⟩
 ·have hm:=mem_of_lookup hc;exact⟨notAll _ (w4 y c hm),cS (I.above y c hm),_,I.cell y c hc⟩
 ·exact name_of_addr I.apart (mem_of_lookup L) (mem_of_lookup O)
 ·rw[e9]at V;refine aJ (tE (n:=s.heap.objs.size+1) (acc:=[]) (eb V)) fun c hc=>?_;have cb:=cl (y,c) hc;refine⟨c,cb,fun w aj=>?_⟩;refine rq (arg i w (zp i w aj)) fun p k u q1 q2 q3 q4 q5=>?_;rw[q2]at V;cases V;refine⟨u,?_,(q5.ext J7).refr⟩;have:=I.cell _ c cb;rw[Ce f.nodup q1 q4 (i3 i _ _ q2)]at this;exact this
 ·refine rq (arg i w (zp i w e)) fun p k u q1 q2 q3 q4 q5=>?_;exact⟨p,k,q2,q3⟩
 ·show(fd.scope.kind == .module&&_)=false;rw[f.kind];rfl
 ·refine lW I.toInCall.ns fun aK es d5 aA d J=>?_;exact(r.keeps keep).pushFr (base _ (fresh _ (c9 _))) aA ⟨es,d5,d⟩ (au.not_ix (notAll _ (fresh _ (c9 _))))
 ·refine hL I.toInCall.same fun h' tk ae=>?_;obtain rfl:=ae;exact⟨rfl,rfl⟩
 ·rcases bE.mp hb with q | q
  ·exact q.symm▸(fresh _ (c9 _))
  ·refine aw (cK.mp q) fun p hp ae=>?_;obtain rfl:=ae;exact w4 p.1 p.2 hp
noncomputable def BK(K:aQ):Prop:=∃a o fd n r,K.mg "law" = some (.ref a)/\K.hb.get? a=some o/\o.data=.func fd/\fd.scope.names=(n,NameKind.local)::r
inductive pw(K:aQ)(T:ba)(P:gx)(f:Nat)(bK:Addr->Prop):Prop
 | mk (fn:bJ) (a:Addr) (o:Obj) (fd:FuncData) (body:List Stmt) (a8:List Str) (n1 n2:Nat) (bw:P.fns[f]?=some fn) (hl:bK a) (F:ke K T fn a o fd body a8 n1 n2):pw K T P f bK
structure PrgOk(K:aQ)(T:ba)(P:gx):Prop where
 hK:K.Ok
 rp:T.repl=true->K.pos=true
 l0:T.repl=true->BK K
 cst:∀x v,T.cst.lookup x=some v->∃u,K.mg x=some u/\∀fr h σ α,ak (K.wf fr).hb h σ α->af h α v u
 bin:∀x,x∈T.bins->K.mg x=none/\∃v,lc x=some v/\K.mb x=some v
 exc:∃F:PySem.W.Frag,F.In K.hb.h/\∀p∈T.excs,pt K p.1 p.2.1 p.2.2/\ou F T p.2.1=true
 fns:∀(f:Nat) (x:Str),T.fns[f]?=some x->pw K T P f fun a=>K.mg x=some (.ref a)
 brd:∀b c,T.brd=some (b,c)->∃F:PySem.W.Frag,j9 K F b c/\∀(j:Nat) (n:Str),T.meths[j]?=some n->pw K T P (T.fns.length+j) fun a=>PySem.W.findIn F (.ref c) n=some (some (.ref a))/\PySem.W.typeIn F (.ref a)=some (.type "function")
theorem pw.wx{P:gx}{h':Heap}{f:Nat}{bK:Addr->Prop}(k:∀b o,K.hb.h.get? b=some o->h'.get? b=some o)(q:pw K T P f bK):pw (K.wx h') T P f bK:=by
 obtain⟨fn,a,o,fd,body,a8,n1,n2,bw,hl,F⟩:=q;exact⟨fn,a,o,fd,body,a8,n1,n2,bw,hl,⟨k _ _ F.ho,F.hd,F.code.keeps k,F.hbody,F.glob,F.bins,F.clo,F.kind,F.co,F.gen,F.sc,F.tr,F.params,F.slots,F.pk,F.bind⟩⟩
theorem PrgOk.wx{P:gx}{h':Heap}(k:∀b o,K.hb.h.get? b=some o->h'.get? b=some o)(p:PrgOk K T P):PrgOk (K.wx h') T P:=by
 refine⟨⟨p.hK.g.keeps k,p.hK.b.keeps k,p.hK.nolimit.keeps k,let⟨o,e⟩:=p.hK.mods;⟨o,k _ _ e⟩⟩,p.rp,fun q=>let⟨a,o,fd,n,r,L,O,ar⟩:=p.l0 q;⟨a,o,fd,n,r,L,k _ _ O,ar⟩,
  fun x v h=>let⟨u,L,O⟩:=p.cst x v h;⟨u,L,fun fr h σ α r=>O fr h σ α (ak.unwx (K:=K.wf fr) k r)⟩,p.bin,?_,fun f x hx=>(p.fns f x hx).wx k
  ,fun b c hb=>?_
  ⟩
 ·refine aw p.exc fun b7 X ax=>?_;refine⟨b7,fun a o e=>k a o (X a o e),fun q hq=>⟨⟨(ax q hq).1.mg,?_,(ax q hq).1.tail.keeps k⟩,(ax q hq).2⟩⟩;obtain⟨nm,vL,tl,bs,hdct,sn,sub,ab,col,dd,k0,k1,k2,k3,k5,eX,mN,yT,rW⟩:=(ax q hq).1.ob;exact⟨nm,vL,tl,bs,hdct,sn,sub,ab,col,dd,k0,k1,k2,k3,k5,k _ _ eX,mN,yT.keeps k,rW⟩
 ·refine aw (p.brd b c hb) fun b7 B ax=>?_
  exact⟨b7,⟨B.mg,fun a o e=>k a o (B.inn a o e),B.keep,B.makes,B.plain,B.hasd,B.seta,B.free
   ,B.geta,B.getr,B.none
   ⟩,fun j n a0=>(ax j n a0).wx k⟩
structure ih(K:aQ)(A:Around)(m:Nat):Prop where
 hd:m=0->A.handled=none
 ph:K.ph=(m != 0)
 rz:m=1->ww K A
theorem ih.ctx{K:aQ}{A:Around}{m d N:Nat}{P:gx}(h:ih K A m):((fu P N m d).hd=false->A.handled=none)/\K.ph=(fu P N m d).hd/\((fu P N m d).rz=true->(fu P N m d).hd=true->ww K A):=
 ⟨fun q=>h.hd (by simpa[bh.hd,fu]using q),h.ph,fun q1 q2=>h.rz (by
  have ei:m<=1:=Nat.le_of_ble_eq_true q1
  have e3:m≠0:=by simpa[bh.hd,fu]using q2
  omega)⟩
theorem ih.mark{K:aQ}{A:Around}{m d N:Nat}{P:gx}{hx:Heap}{a:Addr}(jz:pz K hx a (fu P N m d)):ih (K.wx hx) (A.mark (some (.ref a))) (m+1):=
 ⟨fun q=>by contradiction,by show true=_;(rfl),fun q=>by
  obtain⟨o,vs,L,O,ar⟩:=jz.2 (by show(m != 0)=false;rw[Nat.succ.inj q];rfl)
  exact⟨a,o,vs,rfl,L,O,ar⟩⟩
theorem pt.wf{x:Str}{c:Nat}{up fr:List Nat}(e:pt K x c up):pt (K.wf fr) x c up:=⟨e.mg,e.ob,e.tail⟩
theorem Vo{M:Model}{Γ:PySem.Ctx}{γ:Type}{x:Str}{f:Value->Sem γ}{Q:γ->Pos->Shared->Prop}{E:Value->Pos->Shared->Prop}{p:Pos}{s:Shared}(h:Sem.wp M Γ (mkText x >>= f) Q E p s):Sem.wp M Γ (mkText x >>= f) (fun a p s=>Q a p s/\1<=s.toks) E p s:=by
 have O:Sem.wp M Γ (f (.str x s.toks)) Q E p { s with toks:=s.toks+1 }:=h
 have ar:Sem.wp M Γ (f (.str x s.toks)) (fun a p s=>Q a p s/\1<=s.toks) E p { s with toks:=s.toks+1 }:=
  Sem.wp_mono M Γ _ (fun J J J h=>h) (fun J J J h=>h.1) _ _ (wd (n:=1) (f (.str x s.toks)) (Nat.le_add_left 1 s.toks) O)
 exact ar
theorem U2{M:Model}{Γ:PySem.Ctx}{env:Env}{x:Str}{v:Value}{Q:Unit->Pos->Shared->Prop}{E:Value->Pos->Shared->Prop}{p:Pos}{s:Shared}(hk:env.scope.kind=.function)(hl:env.kindOf x=some .local)
  (h:Sem.wp M Γ (storeName env x v) Q E p s):Sem.wp M Γ (storeName env x v) (fun a p s=>Q a p s/\1<=s.toks) (fun e p s=>E e p s) p s:=by
 have e:storeName env x v=nsSet env.locals x v:=by
  unfold storeName;rw[hl,hk];rfl
 rw[e]at h ⊢;unfold nsSet at h ⊢;rw[Sem.wp_bind']at h ⊢;refine Sem.wp_mono M Γ _ (fun a p s h=>?_) (fun J J J h=>h) _ _ h;exact Vo h
theorem SI{scope:Scope}{g:Addr}{clo:List (Str×Addr)}{x:Str}{v:Value}{rest:List (Str×Value)}{qual:Str}{func:Option Addr}{code:Value}{b:Addr}{Q:Env->Shared->Prop}{E:Value->Shared->Prop}(hk:scope.kind=.function)(hl:scope.names.lookup x=some .local)
  (h:wpAny (model K.prog K.w) A (newFunctionEnv scope g clo ((x,v)::rest) qual func code none b) (fun e s'=>0<s'.toks->Q e s') E s):wpAny (model K.prog K.w) A (newFunctionEnv scope g clo ((x,v)::rest) qual func code none b) Q E s:=by
 intro Γ p zy;have h':=h Γ p zy;unfold newFunctionEnv at h' ⊢;rw[Sem.wp_bind']at h' ⊢;refine Sem.wp_mono _ _ _ (fun a p s h=>?_) (fun J J J h=>h) _ _ h';rw[Sem.wp_bind']at h ⊢;refine Sem.wp_mono _ _ _ (fun a p s h=>?_) (fun J J J h=>h) _ _ h;dsimp only at h ⊢;rw[List.forIn_cons]at h ⊢;rw[Sem.wp_bind',Sem.wp_bind']at h ⊢;rw[Sem.wp_bind']at h ⊢;refine Sem.wp_mono _ _ _ (fun a p s h=>?_) (fun J J J h=>h) _ _ (U2 hk hl h);refine aP h fun h a1=>?_;refine Sem.wp_mono _ _ _ (fun a p s h=>?_) (fun J J J h=>h.1) _ _ (wd (n:=1) _ a1 h);refine aP h fun h a1=>?_;exact Sem.wp_mono _ _ _ (fun a p s h=>h.1 h.2) (fun J J J h=>h.1) _ _ (wd (n:=1) _ a1 h)
set_option backward.match.sparseCases true in
theorem LB{ak:Result->Shared->Prop}{a:Addr}{o:Obj}{fd:FuncData}{body:List Stmt}{vals:List Value}{ri:List (Str×Value)}(tk:K.Tk s\/∃x v rest,ri=(x,v)::rest/\fd.scope.names.lookup x=some .local)
  (zr:A.depth<recursionLimit) (ho:s.heap.get? a=some o) (OI:o.data=.func fd) (fP:s.heap.NoLimit) (hcd:s.heap.CodeRec fd.code fd.qualname)
  (hbody:fd.body=.stmts body) (Ox:bindArgs fd ⟨vals,[]⟩=pure ri) (OD:fd.closure=[])
  (GJ:∀x∈ri,fd.scope.names.lookup x.1=some .local\/(fd.scope.names.lookup x.1=some .cell/\((cellsFrom (s.heap.objs.size+1) fd.scope.names []).lookup x.1).isSome=true))
  (h:∀s₁,InCallC s (callEnvC fd s.heap.objs.size a).locals (bindL (callEnvC fd s.heap.objs.size a).kindOf ri fun J=>none) (callEnvC fd s.heap.objs.size a).cells (bindC (callEnvC fd s.heap.objs.size a).kindOf ri fun J=>none) s₁->K.Tk s₁ ->
   wpAny (model K.prog K.w) (A.deeper (callEnvC fd s.heap.objs.size a)) (execs body (callEnvC fd s.heap.objs.size a)) (fun f s'=>ak (.ok (.ret (match f with | .ret v=>v | _=>.none))) s')
    (fun e s'=>wpAny (model K.prog K.w) (A.deeper (callEnvC fd s.heap.objs.size a)) (leaving (callEnvC fd s.heap.objs.size a) e) (fun J iG=>ak (.error e) iG) (fun aA iG=>ak (.error aA) iG) s') s₁)
  (OE:fd.scope.isCoroutine=false) (OW:fd.scope.isGenerator=false) (hk:fd.scope.kind=.function):codeAny (model K.prog K.w) A (.call (.ref a) ⟨vals,[]⟩) ak s:=by
 refine codeAny_call_function zr ho OI OE OW hbody hcd ?_;rw[Ox,OD];refine bx ?_
 rcases tk with tk | ⟨y,v,rest,rfl,hl⟩
 ·refine nK tk (wpAny_newFunctionEnv_cells hk GJ fun env he s' x e1=>?_);subst he;exact⟨fP.keeps x.toInCall.keep,codeAny_func (h s' x e1)⟩
 ·refine SI hk hl (wpAny_newFunctionEnv_cells hk GJ fun env he s' x e1=>?_);subst he;exact⟨fP.keeps x.toInCall.keep,codeAny_func (h s' x fun J=>e1)⟩
theorem Ly{P:gx}{N m d f:Nat}{vs:List H}{σ:ac}{fn:bJ}(bw:P.fns[f]?=some fn):gU P N m (d+1) f vs σ=if vs.length=fn.params then(match ex (fu P N m d) N fn.body (vs.map some++List.replicate (fn.slots-fn.params) none) σ with
  | .next _ σ=>.ok .none σ
  | .ret v _ σ=>.ok v σ
  | .exc i _ σ=>.exc i σ
  | _=>.stuck)else .stuck:=by
 show(match P.fns[f]? with
  | some fn=>if vs.length=fn.params then(match ex (fu P N m d) N fn.body (vs.map some++List.replicate (fn.slots-fn.params) none) σ with
   | .next _ σ=>ai.ok H.none σ
   | .ret v _ σ=>.ok v σ
   | .exc i _ σ=>.exc i σ
   | _=>.stuck)else .stuck
  | none=>.stuck)=_
 rw[bw]
theorem Cp{P:gx}(p:PrgOk K T P){N d:Nat}{hd:Nat}{fr:List Addr}(zr:A.depth<recursionLimit)(hA:∀env,fL d (A.deeper env))(aO:ih K A hd)(bN:e4 (K.wf fr) A)
  (n8:∀{K:aQ} (p:PrgOk K T P) (m:Nat) (A:Around) (fr:List Addr),fL d A->ih K A m->e4 (K.wf fr) A->Ctx (K.wf fr) A T (fu P N m d))
  {f:Nat} {fn:bJ} {a:Addr} {o:Obj} {fd:FuncData} {body:List Stmt} {a8:List Str} {n1 n2:Nat} (bw:P.fns[f]?=some fn) (F:ke K T fn a o fd body a8 n1 n2)
  {vs:List H} {us:List Value} {s:Shared} {σ:ac} {α:au} (r:ak (K.wf fr).hb s.heap σ α) (v:a7 s.heap α vs us) (hc:gU P N hd (d+1) f vs σ≠.stuck)
  (tk:K.Tk s\/∃x q,a8=x::q/\us≠[]/\fd.scope.names.lookup x=some .local) {wF:Result->Shared->Prop} (cL:∀v s',cf (K.wf fr) af (gU P N hd (d+1) f vs σ) s α v s'->wF (.ok (.ret v)) s') (uV:∀e s',cW (K.wf fr) A (gU P N hd (d+1) f vs σ) s α e s'->wF (.error e) s') :
  codeAny (model K.prog K.w) A (.call (.ref a) ⟨us,[]⟩) wF s:=by
 rw[Ly bw]at hc cL uV;by_cases hl:vs.length=fn.params
 ·rw[az hl]at hc cL uV;rw[F.params]at hl;have sc:=sP F.sc
  refine LB (tk.imp id fun⟨x,q,V,aj,bF⟩=>by
   cases us with
   | nil=>exact absurd rfl aj
   | cons u us=>exact⟨x,u,q.zip us,by rw[V];rfl,bF⟩) zr (r.base _ _ F.ho) F.hd (p.hK.nolimit.keeps r.base) (F.code.keeps r.base) F.hbody (F.bind us (by rw[<- v.1];exact hl)) F.clo (fun q hq=>?_) (fun s₁ I nD=>?_) F.co F.gen F.kind
  ·refine aJ (List.mem_iff_getElem?.mp hq) fun i hi=>?_;refine aP (List.getElem?_zip_eq_some.mp hi) fun L O=>?_;refine aw (F.pk i q.1 L) fun k ar aU=>?_
   rcases aU with rfl | rfl
   ·exact .inl (so sc.uniq ar)
   ·refine .inr ⟨so sc.uniq ar,?_⟩;refine aJ (tE (n:=s.heap.objs.size+1) (acc:=[]) (eb ar)) fun c cb=>?_;refine aJ (HU cb) fun c3 Oz=>?_;rw[Oz];rfl
  ·refine tR (LC F hl r v I) fun E Fr aN aV iy bV=>?_;have N1:fL d (A.deeper (callEnvC fd s.heap.objs.size a)):=hA _;have Gk:e4 (K.wf (s.heap.objs.size::fr)) (A.deeper (callEnvC fd s.heap.objs.size a)):=bN.push rfl F.kind
   have Ck:=pj (n:=N) (V0 (T:=T) (f:=qG T n1) (Good:=fun BJ qS BB=>∃fi l1 m,BJ=aQ.wf fi l1/\BB=fu P N m d/\PrgOk fi T P/\fL d qS/\ih fi qS m/\e4 (aQ.wf fi l1) qS) rfl (fun BJ qS BB g=>by
    refine jQ g fun fi l1 m ae bd=>?_;obtain rfl:=ae;obtain⟨rfl,qo,eP,h',ow⟩:=bd;have ctx:=n8 qo m qS l1 eP h' ow
    exact⟨ctx,VH ctx n1,fun J hx a jz=>⟨fi.wx hx,l1,m+1,rfl,rfl,qo.wx jz.1,eP.mark,ih.mark (K:=fi) jz,⟨ow.ex⟩⟩⟩) n2 Fr ⟨K,_,hd,rfl,rfl,p,N1,⟨aO.hd,aO.ph,aO.rz⟩,Gk⟩) F.tr _ _ _ _ E aN
   generalize m4:ex (fu P N hd d) N fn.body (vs.map some++List.replicate (fn.slots-fn.params) none) σ=iQ at hc Ck cL uV
   have kD:iQ≠.stuck:=by rintro rfl;exact hc rfl
   have hfr:α.fr=fr:=r.fe;have Oa:s.heap.get? s.heap.objs.size=none:=bV _ bi;refine cm (Ck kD nD) (fun fl aX hp=>?_) fun e aX hx=>?_
   ·obtain⟨eE,ao,cc,bg,r2,kW,ck,fo⟩:=hp;have tb:aW [] α s.heap ⟨cc.ix,cc.hid,fr⟩ aX.heap:=aW.ofCall hfr iy bV Oa bg
    cases iQ with
    | next ρ' σ' =>
     obtain⟨rfl,rfl,rfl⟩:=fo;exact cL _ _ ⟨.none,_,_,rfl,tb,r2.popFr,.none,aV.trans ck⟩
    | ret w ρ' σ' =>
     obtain⟨⟨u,rfl,dg⟩,rfl,rfl⟩:=fo;exact cL _ _ ⟨w,_,_,rfl,tb,r2.popFr,dg.refr,aV.trans ck⟩
    | brk ρ' σ'=>exact absurd rfl hc
    | cont ρ' σ'=>exact absurd rfl hc
    | exc i ρ' σ'=>exact fo.elim
    | stuck=>exact absurd rfl kD
   ·obtain⟨i,ρ',σ',s₀,jg,dP,V,y,te,HX,eJ⟩:=hx;subst V;exact gK.leave Gk Fr hfr iy bV rfl ⟨_,r⟩ (aV.trans HX) y te eJ fun s' f=>uV _ _ ⟨i,σ',rfl,_,f⟩
 ·rw[aY hl]at hc;exact absurd rfl hc
theorem LH{P:gx}(p:PrgOk K T P){N d:Nat}{hd:Nat}{fr:List Addr}(hA:fL (d+1) A)(aO:ih K A hd)(bN:e4 (K.wf fr) A)
  (n8:∀{K:aQ} (p:PrgOk K T P) (m:Nat) (A:Around) (fr:List Addr),fL d A->ih K A m->e4 (K.wf fr) A->Ctx (K.wf fr) A T (fu P N m d))
  {f:Nat} {fn:bJ} {a:Addr} {o:Obj} {fd:FuncData} {body:List Stmt} {a8:List Str} {n1 n2:Nat} (bw:P.fns[f]?=some fn) (F:ke K T fn a o fd body a8 n1 n2)
  {vs:List H} {us:List Value} {s:Shared} {σ:ac} {α:au} (r:ak (K.wf fr).hb s.heap σ α) (v:a7 s.heap α vs us) (hc:gU P N hd (d+1) f vs σ≠.stuck)
  (tk:K.Tk s\/∃x q,a8=x::q/\us≠[]/\fd.scope.names.lookup x=some .local) :
  wpAny (model K.prog K.w) A (call (.ref a) us) (cf (K.wf fr) af (gU P N hd (d+1) f vs σ) s α) (cW (K.wf fr) A (gU P N hd (d+1) f vs σ) s α) s:=
 wpAny_call (Cp p (by have:=hA.depth;(grind)) (fun J=>hA.deeper) aO bN n8 bw F r v hc tk (fun J J h=>h) fun J J h=>h)
open PySem.W in
theorem Vn{c:Addr}{us:List Value}{d:Nat}(h:fL (d+1) A):(A.under (.builtin "type.__call__" ⟨.ref c::us,[]⟩)).depth<recursionLimit/\∀env,fL d ((A.under (.builtin "type.__call__" ⟨.ref c::us,[]⟩)).deeper env):=by
 have w:(Code.builtin "type.__call__" ⟨.ref c::us,[]⟩).weight<=1:=Nat.le_of_ble_eq_true (by kernel_rfl);have u:(Code.builtin "type.__call__" ⟨.ref c::us,[]⟩).cUnits<=4:=Nat.le_of_ble_eq_true rfl;have L:=h.depth;have O:=h.units;refine⟨?_,fun env=>⟨?_,?_⟩⟩
 ·show A.depth+(Code.builtin "type.__call__" ⟨.ref c::us,[]⟩).weight<recursionLimit;(grind)
 ·show A.depth+(Code.builtin "type.__call__" ⟨.ref c::us,[]⟩).weight+1+2*d+200<recursionLimit;(grind)
 ·show A.units+(Code.builtin "type.__call__" ⟨.ref c::us,[]⟩).cUnits+3+20*d+200<cLine;(grind)
theorem j9.wf{F:PySem.W.Frag}{b:Str}{c:Addr}{fr:List Addr}(B:j9 K F b c):j9 (K.wf fr) F b c:=⟨B.mg,B.inn,B.keep,B.makes,B.plain,B.hasd,B.seta,B.free
  ,B.geta,B.getr,B.none
  ⟩
open PySem.W in
theorem SM{P:gx}(p:PrgOk K T P){N d:Nat}{hd:Nat}{fr:List Addr}(hA:fL (d+1) A)(aO:ih K A hd)(bN:e4 (K.wf fr) A)
  (n8:∀{K:aQ} (p:PrgOk K T P) (m:Nat) (A:Around) (fr:List Addr),fL d A->ih K A m->e4 (K.wf fr) A->Ctx (K.wf fr) A T (fu P N m d))
  {f:Nat} {fn:bJ} {a:Addr} {o:Obj} {fd:FuncData} {body:List Stmt} {a8:List Str} {n1 n2:Nat} (bw:P.fns[f]?=some fn) (F:ke K T fn a o fd body a8 n1 n2)
  {b7:Frag} {b:Str} {c:Addr} (B:j9 K b7 b c) (hi:findIn b7 (.ref c) "__init__" = some (some (.ref a))) (l8:typeIn b7 (.ref a)=some (.type "function"))
  {vs:List H} {us:List Value} {s:Shared} {σ:ac} {α:au} (r:ak (K.wf fr).hb s.heap σ α) (v:a7 s.heap α vs us) :
  Runs (K.wf fr) af A (call (.ref c) us) (ml (fu P N hd (d+1)) c f vs σ) s α:=by
 intro hc tk;have X:b7.In s.heap:=fun x o e=>r.base x o (B.inn x o e);obtain⟨h,g,tQ,t,os⟩:=s;refine wpAny_call (make_core (makes_of X B.makes) (looks_findIn X hi) (fun self=>bind_fn X self l8) (.inl rfl) ?_);have k:∀b o,h.get? b=some o->((h.push emptyDict).push (instObj c h.objs.size)).get? b=some o:=fun b o e=>cP _ (cP _ e)
 have hn:∀b,h.objs.size<=b->h.get? b=none:=fun b hb=>by
  cases e:h.get? b with
  | none=>rfl
  | some o=>exact absurd (eQ e) (Nat.not_lt.mpr hb)
 have hD:((h.push emptyDict).push (instObj c h.objs.size)).get? h.objs.size=some emptyDict:=cP _ (ec _ rfl)
 have hx:((h.push emptyDict).push (instObj c h.objs.size)).get? (h.objs.size+1)=some (instObj c h.objs.size):=by
  have:=ec (h.push emptyDict) (o:=instObj c h.objs.size) rfl
  rwa [Heap.size_push]at this
 have S0:((h.push emptyDict).push (instObj c h.objs.size)).Ns1 h.objs.size fun J=>none:=
  Heap.Ns1.of_empty ⟨_,#[],_,hD,rfl,fun e he=>absurd he (by(intro q;exact nomatch q)),fun J=>rfl⟩
 refine aP (r.add (D:=h.objs.size) (m:=.ns []) k (hn _ (c9 _)) ⟨_,S0,fun n v e=>(nomatch e),fun J J=>rfl⟩) fun aC aH=>?_
 have O1:(α.add h.objs.size).ix[σ.length]?=some h.objs.size:=by rw[r.len];simp[au.add]
 have P4:h.objs.size+1∉(α.add h.objs.size).all:=fun q=>by
  refine aJ (aC.liveAll q) fun o e=>?_
  rcases c2.mp q with q | q
  ·rcases c2.mp q with q | q
   ·refine aJ (r.liveAll (gO _ q)) fun o e=>?_;rw[hn _ (Nat.le_succ _)]at e;contradiction
   ·exact absurd (dt.mp q) (Nat.succ_ne_self _)
  ·refine aJ (r.liveAll (fk _ q)) fun o e=>?_;rw[hn _ (Nat.le_succ _)]at e;contradiction
 have nG:af ((h.push emptyDict).push (instObj c h.objs.size)) (α.add h.objs.size) (.inst c σ.length) (.ref (h.objs.size+1)):=.inst hx P4 O1;refine aP (Vn (c:=c) (us:=us) hA) fun g1 g2=>?_;unfold ml at hc ⊢
 have kD:gU P N hd (d+1) f (.inst c σ.length::vs) (σ++[.ns []])≠.stuck:=fun q=>hc (by
  show(gU P N hd (d+1) f (.inst c σ.length::vs) (σ++[.ns []])).bind _=_
  rw[q];rfl)
 refine Cp p (s:=⟨(h.push emptyDict).push (instObj c h.objs.size),g,tQ,t,os⟩) g1 g2 ⟨aO.hd,aO.ph,aO.rz⟩ ⟨bN.ex⟩ n8 bw F (vs:=.inst c σ.length::vs) aC (.cons nG (v.ext aH)) kD (.inl tk) (fun w s' hp=>?_) fun e s' hp=>?_
 ·obtain⟨h1,σ',α',e,bg,r2,bu,ck⟩:=hp;change(gU P N hd (d+1) f (.inst c σ.length::vs) (σ++[.ns []])).bind _≠_ at hc;rw[e]at hc
  cases h1 with
  | none =>
   obtain rfl:=bu.noneE;refine⟨rfl,?_⟩;show cf (K.wf fr) af ((gU P N hd (d+1) f (.inst c σ.length::vs) (σ++[.ns []])).bind _) _ _ _ _;rw[e];exact⟨_,σ',α',rfl,aH.trans bg,r2,nG.ext bg,⟨ck.gens,ck.os⟩⟩
  | _=>exact absurd rfl hc
 ·have m6:cW (K.wf fr) (A.under (.builtin "type.__call__" ⟨.ref c::us,[]⟩)) (gU P N hd (d+1) f (.inst c σ.length::vs) (σ++[.ns []])) ⟨h,g,tQ,t,os⟩ α e s':=hp.lift (s₁:=⟨(h.push emptyDict).push (instObj c h.objs.size),g,tQ,t,os⟩) aH ⟨rfl,rfl⟩;obtain⟨i,σ',V,eJ⟩:=m6;show cW (K.wf fr) A ((gU P N hd (d+1) f (.inst c σ.length::vs) (σ++[.ns []])).bind _) _ _ _ _;rw[V];exact⟨i,σ',rfl,eJ⟩
theorem Ie{P:gx}{N d m:Nat}{fr:List Addr}(p:PrgOk K T P)(hA:fL d A)(aO:ih K A m)(bN:e4 (K.wf fr) A)
  (iZ:∀{f fn a o fd body a8 n1 n2},P.fns[f]?=some fn->ke K T fn a o fd body a8 n1 n2->∀vs us s σ α,ak (K.wf fr).hb s.heap σ α->a7 s.heap α vs us->Runs (K.wf fr) af A (call (.ref a) us) (gU P N m d f vs σ) s α)
  (Pl:∀{f fn a o fd body a8 n1 n2},P.fns[f]?=some fn->ke K T fn a o fd body a8 n1 n2->∀{b7 b c},j9 K b7 b c->PySem.W.findIn b7 (.ref c) "__init__" = some (some (.ref a))->PySem.W.typeIn b7 (.ref a)=some (.type "function") ->
   ∀vs us s σ α,ak (K.wf fr).hb s.heap σ α->a7 s.heap α vs us->Runs (K.wf fr) af A (call (.ref c) us) (ml (fu P N m d) c f vs σ) s α)
  : Ctx (K.wf fr) A T (fu P N m d):=by
 refine⟨⟨p.hK.g,p.hK.b,p.hK.nolimit,p.hK.mods⟩,hA.ok,
  aO.ctx.1,aO.ctx.2.1,aO.ctx.2.2,p.rp,bN,?_,
  fun x v h=>?_,fun f x hx=>?_,p.bin
  ,fun b c hb=>?_
  ⟩
 ·refine aw p.exc fun b7 X ax=>?_;exact⟨b7,X,fun q hq=>⟨(ax q hq).1.wf,(ax q hq).2⟩⟩
 ·refine aw (p.cst x v h) fun u L O=>?_;exact⟨u,L,fun h σ α r=>O fr h σ α r⟩
 ·obtain⟨fn,a,o,fd,body,a8,n1,n2,bw,hmg,F⟩:=p.fns f x hx;exact⟨a,o,fd,hmg,F.ho,F.hd,iZ bw F⟩
 ·refine aw (p.brd b c hb) fun b7 B ax=>?_
  refine⟨b7,B.wf,fun j a0=>?_
   ,fun j n a0=>?_
   ⟩
  ·obtain⟨fn,a,o,fd,body,a8,n1,n2,bw,⟨q1,q2⟩,F⟩:=ax j _ a0;exact Pl bw F B q1 q2
  ·obtain⟨fn,a,o,fd,body,a8,n1,n2,bw,⟨q1,q2⟩,F⟩:=ax j n a0;exact⟨a,o,fd,q1,q2,F.ho,F.hd,iZ bw F⟩
theorem n8{P:gx}{N:Nat}(d:Nat):∀{K:aQ} (p:PrgOk K T P) (m:Nat) (A:Around) (fr:List Addr),fL d A->ih K A m->e4 (K.wf fr) A->Ctx (K.wf fr) A T (fu P N m d):=by
 induction d with
 | zero =>
  exact fun p m A fr hA aO bN=>Ie p hA aO bN (fun J J J J J J J J J hc=>absurd rfl hc)
   (fun J J J J J J J J J J J J J J J hc=>absurd rfl hc)
 | succ d ag =>
  exact fun p m A fr hA aO bN=>Ie p hA aO bN (fun bw F vs us s σ α r v hc tk=>LH p hA aO bN ag bw F r v hc (.inl tk))
   (fun bw F J J J B q1 q2 vs us s σ α r v=>SM p hA aO bN ag bw F B q1 q2 r v)
end
end Mine
namespace Mine
open PySem PySem.W PyProof.Rows
theorem zU:∀{a8:List Str} {vals:List Value} {i:Nat} {p:Str} {v:Value},a8.Nodup->a8[i]?=some p->vals[i]?=some v->(a8.zip vals).lookup p=some v
 | [],_,_,_,_,_,h,_=>(nomatch h)
 | _::_,[],_,_,_,_,_,h=>(nomatch h)
 | q::a8,w::vals,i,p,v,hn,L,O=>by
  rw[hG]at hn;rw[List.zip_cons_cons,List.lookup_cons]
  cases i with
  | zero=>simp at L O;subst L O;simp
  | succ i =>
   have rE:a8[i]?=some p:=by simpa using L
   have:(p == q)=false:=by
    cases hb:p == q with
    | false=>rfl
    | true =>
     have:p=q:=by simpa using hb
     subst this;exact absurd (eb rE) hn.1
   exact this.symm▸(zU hn.2 rE (by simpa using O))
theorem M8{a8:List Str}{vals:List Value}(hn:a8.Nodup)(hl:vals.length=a8.length):(a8.filterMap fun n=>((a8.zip vals).lookup n).map (n,·))=a8.zip vals:=by
 have key:∀(o7:List Str) (ws:List Value),o7.length=ws.length->(∀(i:Nat) q w,o7[i]?=some q->ws[i]?=some w->(a8.zip vals).lookup q=some w)->(o7.filterMap fun n=>((a8.zip vals).lookup n).map (n,·))=o7.zip ws:=by
  intro o7
  induction o7 with
  | nil=>intro ws _ _;(rfl)
  | cons q o7 ag =>
   intro ws hl h
   cases ws with
   | nil=>contradiction
   | cons w ws =>
    have h0:=h 0 q w (by rfl) (by rfl);simp only[List.filterMap_cons,h0,Option.map_some,List.zip_cons_cons];rw[ag ws (by simpa using hl) fun i q w L O=>h (i+1) q w (by simpa using L) (by simpa using O)]
 exact key a8 vals hl.symm fun i q w L O=>zU hn L O
theorem Lh{fd:FuncData}{a8:List Str}(hp:fd.params.posonlyargs=[])(ha:fd.params.args.map (·.arg)=a8)(hk:fd.params.kwonlyargs=[])(hv:fd.params.vararg=none)(hw:fd.params.kwarg=none)(uS:fd.defaults=.none)
  (hn:a8.Nodup) {vals:List Value} (hl:vals.length=a8.length):bindArgs fd ⟨vals,[]⟩=pure (a8.zip vals):=by
 obtain⟨nm,q,⟨X7,n6,av,XU,i3,kw,Xk⟩,body,sc,g,cl,Xl,XV,doc,pm,an,code,f8,Xe⟩:=fd;dsimp only at hp ha hk hv hw uS;subst hp hk hv hw uS;refine(aY ?_).trans ((aY ?_).trans ?_)
 ·show ¬(decide (vals.length > (n6.map (·.arg)).length)&&true)=true;exact ha▸hl▸(gR (Nat.lt_irrefl _))▸nofun
 ·show ¬(!(((n6.map (·.arg)).take ((n6.map (·.arg)).length-(List.drop (0-(n6.map (·.arg)).length) ([]:List Value)).length)).filter fun n=>(((n6.map (·.arg)).zip vals).lookup n).isNone).isEmpty)=true;rw[ha,List.drop_nil,List.length_nil,Nat.sub_zero,List.take_length,List.filter_eq_nil_iff.mpr]
  ·exact nofun
  intro a jS;obtain⟨i,hi,rfl⟩:=List.mem_iff_getElem.mp jS;rw[zU hn (i:=i) (v:=vals[i]) (dx hi) (dx _)];exact nofun
 ·have bA:∀(l:List Str),l.zip ([]:List Value)=[]:=fun l=>List.zip_nil_right;dsimp only;rw[show(none.getD #[]:Array Value).toList=[]from rfl,List.drop_nil,bA];show(pure:_->Sem _) ((List.map (fun x:Arg=>x.arg) n6++[]).filterMap fun n=>(((List.map (fun x:Arg=>x.arg) n6).zip vals).lookup n).map (n,·))=_;rw[ha,List.append_nil,M8 hn hl]
noncomputable def AF:Value->Option Addr
 | .ref a=>some a
 | _=>none
noncomputable def Hr:Value->Option Int
 | .int i _=>some i
 | _=>none
noncomputable def Jo:Value->Option Str
 | .str s _=>some s
 | _=>none
noncomputable def FX:Data->Option FuncData
 | .func fd=>some fd
 | _=>none
noncomputable def I8:Data->Option (Array Value×Nat)
 | .seq xs n=>some (xs,n)
 | _=>none
noncomputable def Jm:FuncBody->Option (List Stmt)
 | .stmts b=>some b
 | _=>none
theorem I0{v:Value}{a:Addr}(h:AF v=some a):v=.ref a:=by
 cases v with
 | ref b=>rw[oi h]
 | _=>contradiction
theorem Qk{v:Value}{i:Int}(h:Hr v=some i):∃t,v=.int i t:=by
 cases v with
 | int j t=>exact⟨t,by rw[oi h]⟩
 | _=>contradiction
theorem U3{v:Value}{s:Str}(h:Jo v=some s):∃t,v=.str s t:=by
 cases v with
 | str j t=>exact⟨t,by rw[oi h]⟩
 | _=>contradiction
theorem Ny{d:Data}{fd:FuncData}(h:FX d=some fd):d=.func fd:=by
 cases d with
 | func f=>rw[oi h]
 | _=>contradiction
theorem Um{d:Data}{q:Array Value×Nat}(h:I8 d=some q):d=.seq q.1 q.2:=by
 cases d with
 | seq f n=>rw[<- oi h]
 | _=>contradiction
theorem UV{d:FuncBody}{b:List Stmt}(h:Jm d=some b):d=.stmts b:=by
 cases d with
 | stmts f=>rw[oi h]
 | _=>contradiction
noncomputable def UI(q:Str×Str×NameKind):Bool:=q.1 == q.2.1&&AR q.2.2
noncomputable def IM(a8:List Str)(names:List (Str×NameKind)):Bool:=decide (a8.length<=names.length)&&(a8.zip names).all UI
noncomputable def isNone:Value->Bool
 | .none=>true
 | _=>false
noncomputable def yz(K:Frag)(fd:FuncData):Bool:=
 codeIn K fd.code fd.qualname&&fd.globals == mainGlobals&&fd.builtins == builtinsNs&&fd.closure.isEmpty&&fd.scope.kind == .function&&!fd.scope.isCoroutine&&!fd.scope.isGenerator&&pa fd.scope.names &&
  fd.params.posonlyargs.isEmpty&&fd.params.kwonlyargs.isEmpty&&fd.params.vararg.isNone&&fd.params.kwarg.isNone&&isNone fd.defaults&&IM (fd.params.args.map (·.arg)) fd.scope.names
noncomputable def qf(T:ba)(n1 n2:Nat)(K:Frag)(q:Option (Option Value)):Option bJ:=
 q.bind fun q=>q.bind fun v=>(AF v).bind fun a=>(K.lookup a).bind fun o=>(FX o.data).bind fun fd=>(Jm fd.body).bind fun body =>
  bT (yz K fd) ((kQ (s4 T fd.scope.names (qG T n1) n2) body).map fun b=>⟨fd.params.args.length,fd.scope.names.length,b⟩)
theorem WR{α β:Type}{xs:List α}{ys:List β}{i:Nat}{x:α}(hl:xs.length<=ys.length)(h:xs[i]?=some x):∃y,ys[i]?=some y/\(x,y)∈xs.zip ys:=by
 have hi:=(dU h).1;have a0:i<ys.length:=gP hi hl;exact⟨ys[i],dx a0,eb (List.getElem?_zip_eq_some.mpr ⟨h,dx a0⟩)⟩
theorem UG{k:NameKind}(h:AR k=true):k=.local\/k=.cell:=by
 cases k with
 | «local»=>exact .inl rfl
 | cell=>exact .inr rfl
 | _=>contradiction
theorem An{a8:List Str}{names:List (Str×NameKind)}(h:IM a8 names=true)(i:Nat)(p:Str)(O:a8[i]?=some p):∃k,names[i]?=some (p,k)/\(k=NameKind.local\/k=.cell):=by
 refine aP (cV h) fun h0 L=>?_;refine aw (WR (hZ h0) O) fun y ar aU=>?_;refine aP (cV (fC.mp L _ aU)) fun dj gd=>?_;obtain rfl:p=y.1:=eq_of_beq dj;exact⟨y.2,ar,UG gd⟩
inductive BG(K:aQ)(T:ba)(n1 n2:Nat)(q:Option (Option Value))(fn:bJ):Prop
 | mk (a:Addr) (o:Obj) (fd:FuncData) (body:List Stmt) (a8:List Str) (h:q=some (some (.ref a))) (F:ke K T fn a o fd body a8 n1 n2):BG K T n1 n2 q fn
theorem M5{K:aQ}{fi:Frag}{T:ba}{n1 n2:Nat}{a:Addr}{o:Obj}{fd:FuncData}{body:List Stmt}{b:S}(X:fi.In K.hb.h)(O:fi.lookup a=some o)(ar:o.data=.func fd)(hb:fd.body=.stmts body)(cL:yz fi fd=true)
  (a1:kQ (s4 T fd.scope.names (qG T n1) n2) body=some b):ke K T ⟨fd.params.args.length,fd.scope.names.length,b⟩ a o fd body (fd.params.args.map (·.arg)) n1 n2:=by
 unfold yz at cL;refine aP (cV cL) fun cL q14=>?_;refine aP (cV cL) fun cL q13=>?_;refine aP (cV cL) fun cL q12=>?_;refine aP (cV cL) fun cL q11=>?_;refine aP (cV cL) fun cL q10=>?_;refine aP (cV cL) fun cL q9=>?_;refine aP (cV cL) fun cL q8=>?_;refine aP (cV cL) fun cL q7=>?_;refine aP (cV cL) fun cL q6=>?_;refine aP (cV cL) fun cL q5=>?_;refine aP (cV cL) fun cL q4=>?_;refine aP (cV cL) fun cL q3=>?_;refine aP (cV cL) fun q1 q2=>?_
 have uS:fd.defaults=.none:=by
  cases hd:fd.defaults with
  | none=>rfl
  | _=>rw[hd]at q13;contradiction
 refine⟨X _ _ O,ar,codeRec_of X q1,hb,eq_of_beq q2,eq_of_beq q3,gQ.mp q4,eq_of_beq q5,by simpa using q6,by simpa using q7,q8,a1,(bc _).symm,rfl,An q14,fun vals hl=>?_⟩;refine Lh (gQ.mp q9) rfl (gQ.mp q10) (mK.mp q11) (mK.mp q12) uS ?_ hl;rw[List.Nodup,List.pairwise_iff_getElem];intro i j hi a0 GI e;refine aw (An q14 i (fd.params.args.map (·.arg))[i] (dx hi)) fun k L J=>?_;refine aw (An q14 j (fd.params.args.map (·.arg))[j] (dx a0)) fun b8 O J=>?_;rw[e]at L;exact absurd ((sP q8).uniq i j _ _ _ L O) (fE GI)
theorem Ib{K:aQ}{fi:Frag}{T:ba}{n1 n2:Nat}{q:Option (Option Value)}{fn:bJ}(X:fi.In K.hb.h)(h:qf T n1 n2 fi q=some fn):BG K T n1 n2 q fn:=by
 unfold qf at h;refine cj h fun q1 h0 h=>cj h fun v L h=>cj h fun a O h=>cj h fun o ar h=>cj h fun fd aU h=>cj h fun body dj h=>cG h fun cL h=>fc h fun b a1=>?_;refine⟨a,o,fd,body,_,?_,M5 X ar (Ny aU) (UV dj) cL a1⟩;rw[h0,L,I0 O]
noncomputable def jY(T:ba)(n1 n2:Nat)(K:Frag):List (Option (Option Value))->Option (List bJ)
 | []=>some []
 | x::r=>bL (qf T n1 n2 K x) (jY T n1 n2 K r) List.cons
theorem Ic{T:ba}{n1 n2:Nat}{K:Frag}{xs:List (Option (Option Value))}:∀{fs:List bJ},jY T n1 n2 K xs=some fs->∀(i:Nat) (x:Option (Option Value)),xs[i]?=some x->∃fn,fs[i]?=some fn/\qf T n1 n2 K x=some fn:=by
 induction xs with
 | nil=>intro fs _ i x h;exact nomatch h
 | cons y r ag =>
  intro fs h i x O;change bL _ _ _=_ at h;refine fQ (M:=fun fs=>∃fn,fs[i]?=some fn/\qf T n1 n2 K x=some fn) h fun f Xr ar aU=>?_
  cases i with
  | zero=>exact⟨f,rfl,oi O▸ar⟩
  | succ i=>exact ag aU i x O
noncomputable def Ai(q:Value×H):Bool:=match q.2 with
 | .str s=>Jo q.1 == some s&&PyData.strOk s
 | _=>false
theorem II{h:Heap}{α:au}{v:Value}{x:H}(e:Ai (v,x)=true):af h α x v:=by
 cases x with
 | str s =>
  refine aP (cV e) fun L O=>?_;refine aJ (U3 (eq_of_beq L)) fun t ae=>?_;obtain rfl:=ae;exact .str _ _ O
 | _=>contradiction
noncomputable def JT(o:Obj)(xs:List H):Bool:=o.cls == .type "tuple" && o.dict.isNone&&o.slots.isEmpty&&(I8 o.data).any fun q=>q.1.toList.length == xs.length&&(q.1.toList.zip xs).all Ai
theorem Wg{hb:fY}{h:Heap}{σ:ac}{α:au}{a:Addr}{o:Obj}{xs:List H}(e:JT o xs=true)(ho:hb.get? a=some o)(r:ak hb h σ α):af h α (.tup xs) (.ref a):=by
 refine aP (cV e) fun e kt=>?_;refine aP (cV e) fun e bF=>?_;refine aP (cV e) fun V aj=>?_;refine aw ((Option.any_eq_true _ _).mp kt) fun q h4 oa=>?_;refine aP (cV oa) fun oc ro=>?_;obtain⟨c,d,CF,cq⟩:=o;obtain rfl:=eq_of_beq V;obtain rfl:=mK.mp aj;obtain rfl:=Array.isEmpty_iff.mp bF;obtain rfl:=Um h4;have hl:=eq_of_beq oc;refine af.tupI (items:=q.1.toList) (n:=q.2) (r.base _ _ ho) (fun q=>?_) ⟨hl.symm,fun i x v L O=>?_⟩
 ·rcases c2.mp q with q | q
  ·rw[r.fresh a q]at ho;contradiction
  ·rw[r.hfr a q]at ho;contradiction
 ·exact II (fC.mp ro _ (eb (List.getElem?_zip_eq_some.mpr ⟨O,L⟩)))
noncomputable def Cn(K:Frag)(v:H)(u:Value):Bool:=match v with
 | .int i=>Hr u == some i
 | .str s=>Ai (u,.str s)
 | .tup xs=>((AF u).bind fun a=>K.lookup a).any fun o=>JT o xs
 | _=>false
theorem Lw{K:Frag}{hb:fY}(X:K.In hb.h){v:H}{u:Value}(e:Cn K v u=true){fr:List Addr}{h:Heap}{σ:ac}{α:au}(r:ak ⟨hb.h,fr,hb.prog,hb.w⟩ h σ α):af h α v u:=by
 cases v with
 | int i=>refine aJ (Qk (eq_of_beq e)) fun t ae=>?_;obtain rfl:=ae;exact .int _ _
 | str s=>exact II e
 | tup xs =>
  refine aw ((Option.any_eq_true _ _).mp e) fun o L O=>?_;refine cj L fun a ar aU=>?_;exact(I0 ar).symm▸(Wg (hb:=⟨_,fr,_,_⟩) O (X _ _ aU) r)
 | _=>contradiction
noncomputable def rn(K:Frag)(l:List (Str×H)):Bool:=l.all fun p=>((nsIn K mainGlobals p.1).bind id).any (Cn K p.2)
theorem L9{K:Frag}{hb:fY}(X:K.In hb.h){l:List (Str×H)}(h:rn K l=true)(x:Str)(v:H)(hx:l.lookup x=some v):∃u,nsIn K mainGlobals x=some (some u)/\∀fr h σ α,ak ⟨hb.h,fr,hb.prog,hb.w⟩ h σ α->af h α v u:=by
 refine aw ((Option.any_eq_true _ _).mp (fC.mp h _ (ng hx))) fun u L O=>?_;exact cj L fun q ar aU=>⟨u,ar.trans (congrArg some aU),fun J J J J r=>Lw X O r⟩
noncomputable def SU(K:Frag)(x:Str):Bool:=(nsIn K mainGlobals x).any Option.isNone
noncomputable def rj(K:Frag)(l:List Str):Bool:=(K.lookup sysModules).isSome&&l.all fun x=>SU K x&&(lc x).isSome&&!(x == ("__name__" : Str))
theorem Lm{x:Str}{v:Value}(h:lc x=some v):bootBuiltins x=some v:=
 (show ∀p∈Cc,bootBuiltins p.1=some p.2 from(by repeat (first | refine List.forall_mem_cons.mpr ⟨(by dsimp only;boot_by_name),?_⟩ | exact fun J h=>nomatch h))) _ (ng h)
noncomputable def tG(T:ba)(up:List Nat):List Str:=up.map fun d=>((T.excs.find? fun q=>q.2.1 == d).map (·.1)).getD ""
noncomputable def xr(h:Heap)(F:Frag)(T:ba)(p:Str×Nat×List Nat):Bool:=
 h.ownExcOk p.1 (tG T p.2.2) [.type "ValueError",.type "Exception",.type "BaseException",.type "object"] "ValueError.__new__" && nsIn F mainGlobals p.1 == some (some (.ref p.2.1))&&h.nsMap mainGlobals p.1 == some (.ref p.2.1) &&
  (tG T p.2.2).map (fun n=>(h.nsMap mainGlobals n).getD .none) == p.2.2.map Value.ref&&(tG T p.2.2).all fun n=>T.excs.any fun q=>q.1 == n
noncomputable def rs(h:Heap)(F:Frag)(T:ba):Bool:=
 !T.repl &&
 (T.excs.all fun p=>xr h F T p&&ou F T p.2.1)
theorem MZ{K:aQ}{F:Frag}{T:ba}{h₀:Heap}(k:∀b o,h₀.get? b=some o->K.hb.h.get? b=some o)(X:F.In K.hb.h)(hg:K.hb.h.Ns mainGlobals K.mg)(e:rs h₀ F T=true) :
  ∃F:Frag,F.In K.hb.h/\∀p∈T.excs,pt K p.1 p.2.1 p.2.2/\ou F T p.2.1=true:=by
 unfold rs at e;have ax:=fC.mp (cV e).2;refine⟨F,X,fun p hp=>?_⟩;have L:=ax p hp;simp only[el]at L;refine aP L fun L O=>?_;unfold xr at L;simp only[el,e7]at L;obtain⟨⟨⟨⟨q1,q2⟩,q3⟩,q4⟩,q5⟩:=L;refine CO (Heap.ownExc_of_ok q1) fun C N nm q bs hdct sn bd=>?_;refine CO bd fun sub ab col dd k0 k1 k2 bd=>?_;refine xh bd fun k3 k5 ei e3 po qN=>?_;rw[q3]at ei;cases ei;rw[q4]at e3;refine⟨⟨mg_of X hg q2,⟨nm,q,N,bs,hdct,sn,sub,ab,col,dd,k0,k1,k2,k3,k5,k _ _ e3,_,po.keeps k,qN⟩,?_⟩,O⟩
 have:=OwnTail.of_chain (h:=h₀) (bmB:=[.type "ValueError",.type "Exception",.type "BaseException",.type "object"]) (tG T p.2.2) fun n hn=>by
  have hq:=fC.mp q5 n hn;refine aw (List.any_eq_true.mp hq) fun r hr zq=>?_
  have zq:r.1=n:=by simpa using zq
  have ar:=ax r hr;simp only[el]at ar;have ar:=ar.1;unfold xr at ar;simp only[el]at ar;rw[zq]at ar;exact⟨_,_,_,ar.1.1.1.1⟩
 rw[q4]at this;exact this.keeps k
noncomputable def w1(K:Frag)(T:ba):Bool:=
 match T.brd with
 | none=>true
 | some (b,c)=>nsIn K mainGlobals b == some (some (.ref c))&&keepIn K (.ref c)&&makesIn K c&&plainOver K c&&(clsIn K c).any (·.hasDict)&&findIn K (.ref c) "__setattr__" == some (some (.builtin "object.__setattr__")) &&
   lb.all (fun n=>takerIn K c n == some none) &&
   findIn K (.ref c) "__getattribute__" == some (some (.builtin "object.__getattribute__"))&&findIn K (.ref c) "__getattr__" == some none&&lb.all (fun n=>findIn K (.ref c) n == some none) &&
   T.meths.all fun n=>(findIn K (.ref c) n).join.bind (typeIn K) == some (.type "function")
noncomputable def lZ(T:ba)(K:Frag):List (Option (Option Value)):=T.fns.map (nsIn K mainGlobals ·)++T.meths.map (fun n=>T.brd.bind fun q=>findIn K (.ref q.2) n)
noncomputable def s1(h:Heap)(F:Frag)(T:ba):Bool:=rs h F T&&w1 F T
theorem Vw{h:Heap}{F:Frag}{T:ba}(e:s1 h F T=true):rs h F T=true:=(cV e).1
theorem Wq{T:ba}{F:Frag}{f:Nat}{x:Str}(h:T.fns[f]?=some x):(lZ T F)[f]?=some (nsIn F mainGlobals x):=by
 unfold lZ;rw[ik (by rw[bc];exact(dU h).1),fB,h];rfl
theorem Wr{T:ba}{F:Frag}{j:Nat}{n:Str}(h:T.meths[j]?=some n):(lZ T F)[T.fns.length+j]?=some (T.brd.bind fun q=>findIn F (.ref q.2) n):=by
 unfold lZ;rw[iM (by rw[bc];exact e6 _ _),bc,Nat.add_sub_cancel_left,fB,h];rfl
theorem Ln{K:aQ}{F:Frag}{T:ba}{b:Str}{c:Nat}(X:F.In K.hb.h)(hg:K.hb.h.Ns mainGlobals K.mg)(e:w1 F T=true)(hb:T.brd=some (b,c)):j9 K F b c/\∀n∈T.meths,(findIn F (.ref c) n).join.bind (typeIn F)=some (.type "function"):=by
 unfold w1 at e;rw[hb]at e;simp only[el,e7]at e;obtain⟨⟨⟨⟨⟨⟨⟨⟨⟨⟨V,aj⟩,bF⟩,kt⟩,h4⟩,oa⟩,oc⟩,g1⟩,g2⟩,g3⟩,ro⟩:=e;exact⟨⟨mg_of X hg V,X,aj,bF,kt,h4,oa,fun n hn=>eq_of_beq (fC.mp oc n hn),g1,g2,fun n hn=>eq_of_beq (fC.mp g3 n hn)⟩,fun n hn=>eq_of_beq (fC.mp ro n hn)⟩
theorem prgOk{K:aQ}{fi:Frag}{T:ba}{n1 n2:Nat}{P:gx}{p:Program}{loose:List Str}(lS:TopRead p loose K.mg K.mb K.hb.h)(X:fi.In K.hb.h){h₀:Heap}(k₀:∀b o,h₀.get? b=some o->K.hb.h.get? b=some o)(bA:s1 h₀ fi T=true)(L:rn fi T.cst=true)(O:rj fi T.bins=true)(ar:jY T n1 n2 fi (lZ T fi)=some P.fns)(PA:T.repl=true->K.pos=true):PrgOk K T P:=by
 unfold rj at O;refine aP (cV O) fun NX O=>?_;refine aJ (Option.isSome_iff_exists.mp NX) fun S5 Pp=>?_;have h0:=Vw bA;have hK:K.Ok:=⟨lS.g,lS.b,lS.nolimit,S5,X _ _ Pp⟩
 have O7:T.repl=true->BK K:=fun q=>by
  unfold rs at h0;have:=(cV h0).1;rw[q]at this;contradiction
 refine⟨hK,PA,O7,fun x v hx=>?_,fun x hx=>?_,
  MZ k₀ X lS.g h0,
  fun f x hx=>?_
  ,fun b c hb=>?_
  ⟩
 ·refine aw (L9 X L x v hx) fun u q1 q2=>?_;exact⟨u,mg_of X lS.g q1,q2⟩
 ·have:=fC.mp O x hx;simp only[el,Bool.not_eq_true',k6]at this;obtain⟨⟨q1,q2⟩,q3⟩:=this;refine aJ (Option.isSome_iff_exists.mp q2) fun v hv=>?_;refine⟨?_,v,hv,(lS.builtins x q3).trans (Lm hv)⟩;refine aw ((Option.any_eq_true _ _).mp q1) fun q ar aU=>?_;exact mg_none_of X lS.g (ar.trans (congrArg some (mK.mp aU)))
 ·refine aw (Ic ar f _ (Wq hx)) fun fn q1 q2=>?_;obtain⟨a,o,fd,body,a8,hq,F⟩:=Ib X q2;exact⟨fn,a,o,fd,body,a8,n1,n2,q1,mg_of X lS.g hq,F⟩
 ·refine aP (Ln X lS.g (cV bA).2 hb) fun B l8=>?_;refine⟨fi,B,fun j n a0=>?_⟩;refine aw (Ic ar _ _ (Wr a0)) fun fn q1 q2=>?_;obtain⟨a,o,fd,body,a8,hq,F⟩:=Ib X q2
  have hq:findIn fi (.ref c) n=some (some (.ref a)):=by rw[hb]at hq;exact hq
  have:=l8 n (eb a0);rw[hq]at this;exact⟨fn,a,o,fd,body,a8,n1,n2,q1,⟨hq,this⟩,F⟩
end Mine
namespace Mine
open PySem PySem.W PyProof.Rows
theorem WB{P:Params}{h:Heap}:∀{l:List Int} {vs:List Value},WellAll P h vs (ofPys (l.map .int))->a7 h ⟨[],[],[]⟩ (l.map .int) vs:=by
 intro l
 induction l with
 | nil =>
  intro vs W;cases(show WellAll P h vs []from W);exact .nil
 | cons i l ag =>
  intro vs W
  cases(show WellAll P h vs (ofPy (.int i)::ofPys (l.map .int))from W)with
  | cons a b =>
   cases a;exact .cons (.int i _) (ag b)
theorem Uj{P:Params}{h:Heap}{a:Addr}{l:List Int}(W:Well P h (.ref a) (ofPy (.list (l.map .int)))):af h ⟨[],[],[]⟩ (.fl (l.map .int)) (.ref a):=by
 simp only[ofPy]at W
 cases W with
 | list e w=>exact af.flI e (by simp[au.all]) (WB w)
theorem LJ{d:Nat}(h:d<=100):fL d callerA:=by
 have L:callerA.depth+2*100+200<recursionLimit:=by decide
 have O:callerA.units+20*100+200<cLine:=by decide
 exact⟨by omega,by omega⟩
theorem OF{h:Heap}{fr:List Addr}{prog:Program}{w:World}{mg mb:Str->Option Value}{pos:Bool}:ih ⟨⟨h,fr,prog,w⟩,mg,mb,pos,false⟩ callerA 0:=
 ⟨fun J=>rfl,rfl,fun z=>by contradiction⟩
theorem law_end{prog:Program}{w:World}{s₁:Shared}{mg mb:Str->Option Value}{T:ba}{P:gx}{f N d:Nat}{name:Str}{fa a:Addr}{l:List Int}{σ:ac}{pos:Bool}(p:PrgOk ⟨⟨s₁.heap,[],prog,w⟩,mg,mb,pos,false⟩ T P)(hx:T.fns[f]?=some name)
  (hmg:mg name=some (.ref fa)) (hd:d<=100) (tk:pos=false) (W:Well w.params s₁.heap (.ref a) (ofPy (.list (l.map .int)))) (hrun:bz P N d f [.fl (l.map .int)] []=.ok (.bool true) σ)
  {Q:Value->Shared->Prop} {E:Value->Shared->Prop} (a2:∀s',(∀b o,s₁.heap.get? b=some o->s'.heap.get? b=some o)->s'.os=s₁.os->s'.gens=s₁.gens->Q (.bool true) s') :
  wpAny (model prog w) callerA (call (.ref fa) [.ref a]) Q E s₁:=by
 have ctx:=n8 (N:=N) d p 0 callerA [] (LJ hd) OF ⟨[],rfl,rfl,fun e he=>(nomatch he)⟩;refine tS (ctx.fn f name hx) fun eP o fd L O ar ax=>?_
 have e:eP=fa:=by
  have rE:mg name=some (.ref eP):=L;rw[hmg]at rE;cases rE;rfl
 subst e;have mv:ak ⟨s₁.heap,[],prog,w⟩ s₁.heap [] ⟨[],[],[]⟩:=⟨fun J J e=>e,fun J h=>(nomatch h),List.nodup_nil,rfl,fun J h=>(nomatch h),fun i m a e=>(nomatch e),fun J h=>(nomatch h),rfl,fun J h=>(nomatch h),fun J h=>(nomatch h)⟩;have ax:=ax [.fl (l.map .int)] [.ref a] s₁ [] ⟨[],[],[]⟩ mv #v[(Uj W)];have PC:(fu P N 0 d).call f [.fl (l.map .int)] []=.ok (.bool true) σ:=hrun;rw[PC]at ax;refine cm (ax (by(intro q;exact nomatch q)) fun q=>by rw[tk]at q;contradiction) (fun v s' hp=>?_) fun e s' hx=>?_
 ·obtain⟨b,σ',α',e,x,r,vr,m⟩:=hp;cases e;obtain rfl:=vr.boolE;exact a2 s' (fun b o e=>r.base b o e) m.os m.gens
 ·obtain⟨i,σ',e,eJ⟩:=hx;contradiction
end Mine
namespace Mine
open PySem PySem.W PyProof.Rows
noncomputable def iV(h:Heap):Frag:=(List.range h.objs.size).filterMap fun a=>(h.get? a).map fun o=>(a,o)
theorem RI{f:Nat->Option Obj}{a:Addr}{o:Obj}:∀{l:List Nat},(l.filterMap fun a=>(f a).map fun o=>(a,o)).lookup a=some o->f a=some o:=by
 intro l
 induction l with
 | nil =>
  intro h
  (exact nomatch h)
 | cons b l ag =>
  intro h;rw[List.filterMap_cons]at h
  cases hb:f b with
  | none=>rw[hb]at h;exact ag h
  | some p =>
   rw[hb]at h;simp only[Option.map_some,List.lookup_cons]at h
   cases hq:(a == b)with
   | true =>
    rw[hq]at h
    have:a=b:=by simpa using hq
    subst this;exact hb.symm▸h
   | false=>rw[hq]at h;exact ag h
theorem Nr(h:Heap):(iV h).In h:=fun a o e=>RI (f:=h.get?) e
structure Says(T:ba)(n1 n2:Nat)(fns:List bJ)(h:Heap):Prop where
 ex:∃(K:Frag) (h₀:Heap),K.In h/\(∀b o,h₀.get? b=some o->h.get? b=some o)/\s1 h₀ K T=true/\rn K T.cst=true/\rj K T.bins=true/\jY T n1 n2 K (lZ T K)=some fns
noncomputable def topHook(T:ba)(n1 n2:Nat)(fns:List bJ):Hook where
 α:=Bool×Bool×Bool×Option (List bJ)
 obs:=fun s=>(s1 s.heap (iV s.heap) T,rn (iV s.heap) T.cst,rj (iV s.heap) T.bins,jY T n1 n2 (iV s.heap) (lZ T (iV s.heap)))
 val:=fun J=>(true,true,true,some fns)
 says:=fun J h=>Says T n1 n2 fns h
 of:=fun J s e=>⟨⟨iV s.heap,s.heap,Nr _,fun J J e=>e,congrArg (·.1) e,congrArg (·.2.1) e,congrArg (·.2.2.1) e,congrArg (·.2.2.2) e⟩⟩
 keeps:=fun J h h' q k=>by
  refine mT q.ex fun K h₀ a eP b=>?_;exact⟨⟨K,h₀,fun x o e=>k x o (a x o e),fun x o e=>k x o (eP x o e),b⟩⟩
noncomputable def viewOf(p:Program):Program:={ p with main:={ p.main with body:=p.main.body.filter fun s=>match s with | .Assign [.Name n _] _ _=>!(n == "__name__") | _=>true } }
end Mine
namespace Mine
open PySem PySem.W PySem.Calls PyProof.Rows
theorem US:stepT=PySem.W.Fast.tw10156331382660048174:=PySem.W.Fast.te10156331382660048174
theorem Mg:denote=PySem.W.Fast.tw11892475500146522536:=PySem.W.Fast.te11892475500146522536
theorem Vm:treeTable=PySem.W.Fast.tw14364793385576792824:=PySem.W.Fast.te14364793385576792824
theorem UR:stepOk=PySem.W.Fast.tw6613529449190102663:=PySem.W.Fast.te6613529449190102663
noncomputable def v0(p:Program)(w:World)(qj:Nat)(pE:Option Value):Nat->SharedT->Thread->Option SharedT
 | 0,_,_=>none
 | n+1,s,t=>match through t with
  | true=>some s
  | false=>match PySem.W.Fast.tw6613529449190102663 qj pE t with
   | false=>none
   | true=>match PySem.W.Fast.tw10156331382660048174 (PySem.W.Fast.tw11892475500146522536 PySem.W.Fast.tw14364793385576792824) p w s t with
    | some (s',bX)=>v0 p w qj pE n s' bX
    | none=>none
theorem Vx{p:Program}{w:World}{qj:Nat}{pE:Option Value}:∀{n:Nat} {s s':SharedT} {t:Thread},v0 p w qj pE n s t=some s'->topRun treeTable p w qj pE n s.abs t=some s'.abs:=by
 intro n
 induction n with
 | zero=>intro s s' t h;exact nomatch h
 | succ n ag =>
  intro s s' t h;unfold v0 at h;unfold topRun;rw[<- UR,<- US,<- Mg,<- Vm]at h
  cases he:through t with
  | true=>rw[he]at h;cases h;rfl
  | false =>
   rw[he]at h
   cases hk:stepOk qj pE t with
   | false=>rw[hk]at h;cases h
   | true =>
    rw[hk]at h
    cases hs:stepT (denote treeTable) p w s t with
    | none=>rw[hs]at h;cases h
    | some r=>obtain⟨aX,Yh⟩:=r;rw[hs]at h;exact(stepT_spec hs).symm▸(ag h)
noncomputable def s5:List Obj->Nat->BT->Option BT
 | [],_,t=>some t
 | o::l,n,t=>match((t.ins n o).get n).isSome with
  | true=>s5 l (n+1) (t.ins n o)
  | false=>none
theorem V7{life:Life}:∀{l:List Obj} {n:Nat} {t bX:BT},s5 l n t=some bX->absHeap bX (n+l.length) life=l.foldl Heap.push (absHeap t n life):=by
 intro l
 induction l with
 | nil =>
  intro n t bX h;cases h;rfl
 | cons o l ag =>
  intro n t bX h;unfold s5 at h
  cases hs:((t.ins n o).get n).isSome with
  | false=>rw[hs]at h;cases h
  | true =>
   rw[hs]at h;rw[dv,show n+(l.length+1)=n+1+l.length by grind,ag h,absHeap_ins hs];rfl
theorem Np{life:Life}:∀(l:List Obj) (a:Array Obj),l.foldl Heap.push ⟨a,life⟩=⟨a++l.toArray,life⟩:=by
 intro l
 induction l with
 | nil =>
  intro a
  (rfl)
 | cons o l ag =>
  intro a;show l.foldl Heap.push ⟨a.push o,life⟩=_;rw[ag (a.push o)];simp
theorem V8{l:List Obj}{life:Life}{t:BT}(h:s5 l 0 .nil=some t):absHeap t l.length life=⟨l.toArray,life⟩:=by
 have:=V7 (life:=life) h;rw[Nat.zero_add]at this;rw[this];show l.foldl Heap.push ⟨#[],life⟩=_;rw[Np];simp
noncomputable def Mz(p:Program)(h₀:Heap)(s₁:Shared):Option Shared:=
 match staticsOk (importedModules p.main.body) h₀ s₁.heap&&namesBound p s₁.heap&&gensDone s₁&&laidKept h₀ s₁.heap with
 | true=>some s₁
 | false=>none
noncomputable def sm(p:Program)(w:World)(os:OsState)(N:Nat):Option Shared:=
 (s5 (boot_heap w.params).objs.toList 0 .nil).bind fun T =>
  match(boot_heap w.params).isNs mainGlobals with
  | true=>(v0 p w (boot_heap w.params).objs.toList.length ((boot_heap w.params).nsMap mainGlobals "__annotations__") N ⟨T,(boot_heap w.params).objs.toList.length,(boot_heap w.params).life,#[],boot_drawn,boot_toks,os⟩ (topStub p)).bind fun s=>Mz p (boot_heap w.params) s.abs
  | false=>none
theorem Rk{p:Program}{w:World}{os:OsState}{N:Nat}{s₁:Shared}(h:sm p w os N=some s₁):topFrom treeTable p w N ⟨boot_heap w.params,#[],boot_drawn,boot_toks,os⟩=some s₁:=by
 unfold sm at h;refine aw (Option.bind_eq_some_iff.mp h) fun T dD h=>?_
 have aO:absHeap T (boot_heap w.params).objs.toList.length (boot_heap w.params).life=boot_heap w.params:=by
  rw[V8 dD]
 cases hn:(boot_heap w.params).isNs mainGlobals with
 | false=>rw[hn]at h;cases h
 | true =>
  rw[hn]at h;refine aw (Option.bind_eq_some_iff.mp h) fun s hs h=>?_;have hr:=Vx hs
  have ha:(SharedT.abs ⟨T,(boot_heap w.params).objs.toList.length,(boot_heap w.params).life,#[],boot_drawn,boot_toks,os⟩)=⟨boot_heap w.params,#[],boot_drawn,boot_toks,os⟩:=by
   show(⟨absHeap T _ _,#[],boot_drawn,boot_toks,os⟩:Shared)=_;rw[aO]
  rw[ha,Array.length_toList]at hr;unfold topFrom
  have hb:((boot_heap w.params).isNs mainGlobals&&(#[]:Array GenState).size == 0)=true:=by rw[hn];rfl
  show(match((boot_heap w.params).isNs mainGlobals&&(#[]:Array GenState).size == 0)with | true=>_ | false=>_)=_;rw[hb];dsimp only;rw[hr];exact h
theorem Uk:openSeen=PySem.W.Fast.tw4187177175401517315:=PySem.W.Fast.te4187177175401517315
theorem Rm{p q:Program}{loose:List Str}{Xt:Shared->Bool}{α:Type}{Yf:Shared->α}{Ya:World->α}{N:Nat}(e:opening p=plainProg p.main.scope.names)(am:Nat.ble 600 N=true)(f:∀s,fenceModules? p s=some s)
  (h:∀w os,(sm p w os N).map (fun s=>(PySem.W.Fast.tw4187177175401517315 q loose (importedModules p.main.body) Xt true s,Yf s))=some (openGood q loose,Ya w)):LeftO p q loose Xt Yf Ya N:=fun w=>by
 rw[<- Uk]at h;refine aw (Option.map_eq_some_iff.mp (boot_open e am f w)) fun s hs hv=>?_;obtain⟨hp,g,d,t,os⟩:=s;simp only[Prod.mk.injEq]at hv;obtain⟨rfl,rfl,rfl,rfl⟩:=hv;unfold openEnds;rw[hs];refine aw (Option.map_eq_some_iff.mp (h w os)) fun s₁ L O=>?_;show(topFrom treeTable p w N _).map _=_;have:=Rk L;rw[show(⟨boot_heap w.params,{ toList:=[] },boot_drawn,boot_toks,os⟩:Shared)=⟨boot_heap w.params,#[],boot_drawn,boot_toks,os⟩from rfl,this];exact congrArg some O
theorem Se{T:ba}{n1 n2:Nat}{K:Frag}{ys:List (Option (Option Value))}{b:List bJ}(O:jY T n1 n2 K ys=some b)(xs:List (Option (Option Value))):∀{a:List bJ},jY T n1 n2 K xs=some a->jY T n1 n2 K (xs++ys)=some (a++b):=by
 induction xs with
 | nil=>intro a h;obtain rfl:=oi h;exact O
 | cons x r ag =>
  intro a h;change bL _ _ _=_ at h;refine fQ (M:=fun a=>jY T n1 n2 K (x::r++ys)=some (a++b)) h fun f fs ar aU=>?_;show bL (qf T n1 n2 K x) (jY T n1 n2 K (r++ys)) List.cons=_;rw[ar,ag aU];rfl
noncomputable def uI(T:ba)(g:List (Option (Option Value))->List (Option (Option Value)))(s:Shared):Option (List bJ):=jY T 40 30 (iV s.heap) (g (lZ T (iV s.heap)))
theorem Nm{T:ba}{o:Option Shared}{k:Nat}{a b:List bJ}(L:o.map (uI T (List.take k))=some (some a))(O:o.map (uI T (List.drop k))=some (some b)):o.map (fun s=>jY T 40 30 (iV s.heap) (lZ T (iV s.heap)))=some (some (a++b)):=by
 cases o with
 | none=>exact nomatch L
 | some s =>
  have h:=Se (oi O) _ (oi L);rw[List.take_append_drop]at h;exact congrArg some h
noncomputable def TT:ba where
 fns:=[("is_value" : Str),("product" : Str),("chosen" : Str),("single" : Str),("outcome" : Str),("is_name" : Str),("are_names" : Str),("are_unlike" : Str),("is_rule" : Str),("is_step" : Str),("is_plan" : Str),("givers_of" : Str),("outside" : Str),("is_between" : Str),("_law_cell_at" : Str),("_law_next" : Str),("_law_names" : Str),("_law_value" : Str),("_law_given" : Str),("_law_rule" : Str),("_law_plan" : Str),("_law_outside" : Str),("_law_first" : Str),("_law_puts" : Str),("_law_needed" : Str),("_law_missing" : Str),("_law_fired" : Str),("_law_pairs" : Str),("_law_places" : Str),("_law_looked" : Str),("_law_word" : Str),("_law_fire_due" : Str),("_law_done" : Str),("_law_fire_by" : Str),("_law_look" : Str),("law" : Str)]
 cst:=[("MOST_VALUE",.int 999999),("WRAP",.int 1000000),("LETTERS",.str "abcdefghijklmnopqrstuvwxyz"),("FIGURES",.str "0123456789"),("LONGEST",.int 8),("MOST_STEPS",.int 20),("MOST_NEEDS",.int 4),("MOST_GIVES",.int 3),("PLAIN_WORDS",.tup [.str "sum",.str "times",.str "least",.str "most"]),("MOST_TURNS",.int 200)]
 bins:=["len", "list", "tuple", "sum", "min", "max", "sorted", "all", "int", "str", "bool", "ValueError", "isinstance", "range", "enumerate", "zip", "set"]
 muts:=[(102,12),(114,12),(137,21),(210,15),(216,15),(232,17),(271,21),(272,16),(291,21),(294,17),(301,17),(307,17),(335,16),(353,17),(416,16),(417,16)]
 excs:=[("FireError",31,[]),("NoPlan",44,[31]),("NoTurn",56,[31]),("NoPlace",68,[31]),("NoValue",80,[31]),("TokenThere",92,[31]),("NoStep",104,[31]),("Fired",116,[31]),("NotReady",128,[31]),("IsReady",140,[31]),("NoText",152,[31])]
 brd:=some ("Board",342)
 meths:=["__init__", "need_place", "need_turn", "need_step", "put", "missed", "has_fired", "fire", "told", "fired"]
 repl:=false
 dstr:=[(107,12)]
noncomputable abbrev sd:Nat:=0
noncomputable abbrev Hk:Nat:=1
noncomputable abbrev Hb:Nat:=2
noncomputable abbrev Hl:Nat:=3
noncomputable abbrev zI:Nat:=4
noncomputable abbrev vb:Nat:=5
noncomputable abbrev ma:Nat:=6
noncomputable abbrev oX:Nat:=7
noncomputable abbrev Hc:Nat:=8
noncomputable abbrev Hd:Nat:=9
noncomputable abbrev vc:Nat:=10
noncomputable abbrev va:Nat:=11
noncomputable abbrev zJ:Nat:=12
noncomputable abbrev lv:Nat:=13
noncomputable abbrev g0:Nat:=14
noncomputable abbrev i2:Nat:=15
noncomputable abbrev sf:Nat:=16
noncomputable abbrev si:Nat:=17
noncomputable abbrev Hg:Nat:=18
noncomputable abbrev zH:Nat:=19
noncomputable abbrev Hh:Nat:=20
noncomputable abbrev vd:Nat:=21
noncomputable abbrev zE:Nat:=22
noncomputable abbrev Hi:Nat:=23
noncomputable abbrev sg:Nat:=24
noncomputable abbrev p3:Nat:=25
noncomputable abbrev zD:Nat:=26
noncomputable abbrev oY:Nat:=27
noncomputable abbrev sh:Nat:=28
noncomputable abbrev zG:Nat:=29
noncomputable abbrev Hj:Nat:=30
noncomputable abbrev Hf:Nat:=31
noncomputable abbrev se:Nat:=32
noncomputable abbrev He:Nat:=33
noncomputable abbrev zF:Nat:=34
noncomputable abbrev P8:Nat:=35
noncomputable abbrev zz:Nat:=36
noncomputable abbrev zB:Nat:=37
noncomputable abbrev oW:Nat:=38
noncomputable abbrev zC:Nat:=39
noncomputable abbrev u9:Nat:=40
noncomputable abbrev u8:Nat:=41
noncomputable abbrev zA:Nat:=42
noncomputable abbrev sa:Nat:=43
noncomputable abbrev sb:Nat:=44
noncomputable abbrev oV:Nat:=45
noncomputable abbrev qM:Nat:=56
noncomputable abbrev qL:Nat:=104
noncomputable abbrev nL:Nat:=116
noncomputable abbrev pn:Nat:=128
noncomputable abbrev aT:Nat:=342
noncomputable def uo:bJ:=⟨1,5,#v[(.ret (.and #v[(.isinst (.v 0) .int),(.not (.isinst (.v 0) .bool)),(.cmp2 (.k (.int 0)) .le (.v 0) .le (.k (.int 999999)))]))]⟩
noncomputable def FG:S:=(.asg 1 (.bin .mod (.bin .mul (.v 1) (.v 2)) (.k (.int 1000000))))
noncomputable def FF:S:=#v[FG]
noncomputable def FE:S:=(.for1 2 (.v 0) FF)
noncomputable def FD:bJ:=⟨1,4,#v[(.asg 1 (.k (.int 1))),FE,(.ret (.v 1))]⟩
noncomputable def uf:S:=(.ife (.cmp (.sub (.v 0) (.k (.int 0))) .eq (.k (.int 0))) #v[(.ret (.sub (.v 0) (.k (.int 1))))] .nil)
noncomputable def DE:S:=(.ret (.sub (.v 0) (.k (.int 2))))
noncomputable def DD:bJ:=⟨1,1,#v[uf,DE]⟩
noncomputable def mY:S:=(.asg 2 (.sub (.v 0) (.k (.int 0))))
noncomputable def FI:S:=(.ret (.bin .mod (.b1 .sum (.v 1)) (.k (.int 1000000))))
noncomputable def lY:S:=(.ife (.cmp (.v 2) .eq (.k (.str "sum"))) #v[FI] .nil)
noncomputable def FJ:S:=(.ret (.call Hk #v[(.v 1)]))
noncomputable def mZ:S:=(.ife (.cmp (.v 2) .eq (.k (.str "times"))) #v[FJ] .nil)
noncomputable def FK:S:=(.ret (.b1 .min (.v 1)))
noncomputable def oF:S:=(.ife (.cmp (.v 2) .eq (.k (.str "least"))) #v[FK] .nil)
noncomputable def FL:S:=(.ret (.b1 .max (.v 1)))
noncomputable def rC:S:=(.ife (.cmp (.v 2) .eq (.k (.str "most"))) #v[FL] .nil)
noncomputable def uF:S:=(.ife (.cmp (.v 2) .eq (.k (.str "fixed"))) #v[(.ret (.sub (.v 0) (.k (.int 1))))] .nil)
noncomputable def FM:S:=(.ret (.call Hb #v[(.v 1)]))
noncomputable def uG:S:=(.ife (.cmp (.v 2) .eq (.k (.str "choose"))) #v[FM] .nil)
noncomputable def yy:S:=(.ret (.sub (.v 1) (.k (.int 0))))
noncomputable def FH:bJ:=⟨2,9,#v[mY,lY,mZ,oF,rC,uF,uG,yy]⟩
noncomputable def yu:S:=(.ife (.cmp (.sub (.v 1) (.k (.int 1))) .eq (.k (.int 0))) #v[(.ret (.lst true #v[(.sub (.v 1) (.k (.int 0))),(.k .none)]))] .nil)
noncomputable def rB:S:=(.ife (.cmp (.sub (.v 0) (.k (.int 0))) .eq (.k (.str "way"))) #v[yu,(.ret (.lst true #v[(.k .none),(.sub (.v 1) (.k (.int 0)))]))] .nil)
noncomputable def yv:S:=(.asg 3 (.call Hl #v[(.v 0),(.v 1)]))
noncomputable def Fx:X:=(.comp true 1 [none,none,some 3] (.v 2) (.k (.bool true)) (.range1 (.v 2)))
noncomputable def yw:S:=(.ret Fx)
noncomputable def Fw:bJ:=⟨3,6,#v[rB,yv,yw]⟩
noncomputable def ug:S:=(.ife (.or #v[(.not (.isinst (.v 0) .str)),(.not (.cmp2 (.k (.int 1)) .le (.b1 .len (.v 0)) .le (.k (.int 8)))),(.cmp (.sub (.v 0) (.k (.int 0))) .notin (.k (.str "abcdefghijklmnopqrstuvwxyz")))]) #v[(.ret (.k (.bool false)))] .nil)
noncomputable def xL:S:=(.ret (.b1 .all (.comp true 1 [none,none,none,none] (.or #v[(.cmp (.v 1) .isin (.k (.str "abcdefghijklmnopqrstuvwxyz"))),(.cmp (.v 1) .isin (.k (.str "0123456789")))]) (.k (.bool true)) (.v 0))))
noncomputable def DH:bJ:=⟨1,7,#v[ug,xL]⟩
noncomputable def ud:bJ:=⟨2,6,#v[(.ret (.and #v[(.isinst (.v 0) .tuple),(.cmp2 (.k (.int 1)) .le (.b1 .len (.v 0)) .le (.v 1)),(.b1 .all (.comp true 1 [none,none,none] (.call vb #v[(.v 1)]) (.k (.bool true)) (.v 0)))]))]⟩
noncomputable def ue:bJ:=⟨1,3,#v[(.ret (.cmp (.b1 .lenset (.v 0)) .eq (.b1 .len (.v 0))))]⟩
noncomputable def uj:S:=(.ife (.or #v[(.not (.isinst (.v 0) .tuple)),(.cmp (.b1 .len (.v 0)) .eq (.k (.int 0))),(.not (.isinst (.sub (.v 0) (.k (.int 0))) .str))]) #v[(.ret (.k (.bool false)))] .nil)
noncomputable def rx:S:=(.ife (.cmp (.sub (.v 0) (.k (.int 0))) .eq (.k (.str "fixed"))) #v[(.ret (.and #v[(.cmp (.b1 .len (.v 0)) .eq (.k (.int 2))),(.call sd #v[(.sub (.v 0) (.k (.int 1)))])]))] .nil)
noncomputable def xP:S:=(.ife (.cmp (.b1 .len (.v 0)) .ne (.k (.int 1))) #v[(.ret (.k (.bool false)))] .nil)
noncomputable def uk:S:=(.ife (.cmp (.sub (.v 0) (.k (.int 0))) .eq (.k (.str "later"))) #v[(.ret (.cmp (.v 1) .eq (.k (.int 1))))] .nil)
noncomputable def ul:S:=(.ife (.cmp (.sub (.v 0) (.k (.int 0))) .eq (.k (.str "way"))) #v[(.ret (.and #v[(.cmp (.v 1) .eq (.k (.int 2))),(.cmp (.v 2) .eq (.k (.int 2)))]))] .nil)
noncomputable def um:S:=(.ife (.cmp (.sub (.v 0) (.k (.int 0))) .eq (.k (.str "choose"))) #v[(.ret (.cmp (.v 1) .eq (.k (.int 3))))] .nil)
noncomputable def xQ:S:=(.ret (.cmp (.sub (.v 0) (.k (.int 0))) .isin (.k (.tup [(.str "sum"),(.str "times"),(.str "least"),(.str "most")]))))
noncomputable def ui:bJ:=⟨3,9,#v[uj,rx,xP,uk,ul,um,xQ]⟩
noncomputable def un:S:=(.ife (.or #v[(.not (.isinst (.v 0) .tuple)),(.cmp (.b1 .len (.v 0)) .ne (.k (.int 4))),(.not (.call vb #v[(.sub (.v 0) (.k (.int 0)))]))]) #v[(.ret (.k (.bool false)))] .nil)
noncomputable def pQ:S:=(.ife (.or #v[(.not (.call ma #v[(.sub (.v 0) (.k (.int 2))),(.k (.int 4))])),(.not (.call ma #v[(.sub (.v 0) (.k (.int 3))),(.k (.int 3))])),(.not (.call oX #v[(.sub (.v 0) (.k (.int 3)))]))]) #v[(.ret (.k (.bool false)))] .nil)
noncomputable def xR:S:=(.ret (.call Hc #v[(.sub (.v 0) (.k (.int 1))),(.b1 .len (.sub (.v 0) (.k (.int 2)))),(.b1 .len (.sub (.v 0) (.k (.int 3))))]))
noncomputable def DM:bJ:=⟨1,10,#v[un,pQ,xR]⟩
noncomputable def DJ:X:=(.comp true 1 [none,none,none] (.call Hd #v[(.v 1)]) (.k (.bool true)) (.v 0))
noncomputable def uh:S:=(.ife (.or #v[(.not (.isinst (.v 0) .tuple)),(.not (.cmp2 (.k (.int 1)) .le (.b1 .len (.v 0)) .le (.k (.int 20)))),(.not (.b1 .all DJ))]) #v[(.ret (.k (.bool false)))] .nil)
noncomputable def xM:S:=(.asg 2 (.lst false .nil))
noncomputable def DL:S:=#v[(.expr (.me .extend (.v 2) #v[(.sub (.v 1) (.k (.int 3)))]))]
noncomputable def xN:S:=(.for1 1 (.v 0) DL)
noncomputable def DK:X:=(.comp true 1 [none,none] (.sub (.v 1) (.k (.int 0))) (.k (.bool true)) (.v 0))
noncomputable def xO:S:=(.ret (.and #v[(.call oX #v[DK]),(.call oX #v[(.v 2)])]))
noncomputable def DI:bJ:=⟨1,9,#v[uh,xM,xN,xO]⟩
noncomputable def DG:S:=#v[(.asgSub (.v 1) (.v 3) (.v 2))]
noncomputable def DF:S:=#v[(.for1 3 (.sub (.v 2) (.k (.int 3))) DG)]
noncomputable def xJ:bJ:=⟨1,4,#v[(.asg 1 (.dnew false)),(.for1 2 (.v 0) DF),(.ret (.v 1))]⟩
noncomputable def Fy:S:=(.asg 1 (.call va #v[(.v 0)]))
noncomputable def Fz:S:=(.asg 2 (.lst false .nil))
noncomputable def FC:S:=#v[(.ife (.and #v[(.cmp (.v 4) .notin (.v 1)),(.cmp (.v 4) .notin (.v 2))]) #v[(.expr (.me .append (.v 2) #v[(.v 4)]))] .nil)]
noncomputable def FA:S:=#v[(.for1 4 (.sub (.v 3) (.k (.int 2))) FC)]
noncomputable def yx:bJ:=⟨1,6,#v[Fy,Fz,(.for1 3 (.v 0) FA),(.ret (.v 2))]⟩
noncomputable def xK:bJ:=⟨3,6,#v[(.ret (.and #v[(.isinst (.v 0) .int),(.not (.isinst (.v 0) .bool)),(.cmp2 (.v 1) .le (.v 0) .le (.v 2))]))]⟩
noncomputable def ry:bJ:=⟨2,3,#v[(.ife (.cmp (.v 1) .lt (.b1 .len (.v 0))) #v[(.ret (.sub (.v 0) (.v 1)))] .nil),(.ret (.k (.int 0)))]⟩
noncomputable def uw:bJ:=⟨1,2,#v[(.asg 1 (.bin .mod (.bin .add (.bin .mul (.v 0) (.k (.int 48271))) (.k (.int 11))) (.k (.int 2147483647)))),(.ret (.bin .mod (.bin .mul (.v 1) (.v 1)) (.k (.int 2147483629))))]⟩
noncomputable def Ez:X:=(.comp true 1 [none,none,some 0,some 1] (.bin .add (.sub (.v 3) (.bin .mod (.bin .add (.bin .fdiv (.v 2) (.k (.int 9))) (.v 1)) (.k (.int 12)))) (.sub (.lst true #v[(.k (.str "")),(.k (.str "x"))]) (.bin .fdiv (.v 1) (.k (.int 12))))) (.k (.bool true)) (.range1 (.k (.int 24))))
noncomputable def x4:S:=(.ife (.cmp (.bin .mod (.v 0) (.k (.int 9))) .eq (.k (.int 8))) #v[(.asg 1 (.lst true #v[(.k (.str "sum")),(.k (.str "later")),(.k (.str "way")),(.k (.str "fixed")),(.k (.str "a9")),(.k (.str "b")),(.k (.str "times")),(.k (.str "choose")),(.k (.str "least")),(.k (.str "most")),(.k (.str "z0")),(.k (.str "put"))])),(.ret Ez)] .nil)
noncomputable def EA:S:=(.asg 3 (.bin .add (.k (.int 1)) (.bin .mod (.v 0) (.k (.int 8)))))
noncomputable def EB:S:=(.asg 4 (.bin .mod (.bin .fdiv (.v 0) (.k (.int 8))) (.v 3)))
noncomputable def x5:S:=#v[(.asg 6 (.sub (.v 1) (.bin .mod (.bin .add (.bin .fdiv (.v 0) (.k (.int 64))) (.v 2)) (.sub (.lst true #v[(.k (.int 26)),(.k (.int 36))]) (.b1 .int (.cmp (.v 4) .gt (.k (.int 0)))))))),(.expr (.me .append (.v 5) #v[(.bin .add (.bin .add (.bin .mul (.k (.str "m")) (.v 4)) (.v 6)) (.bin .mul (.k (.str "m")) (.bin .sub (.bin .sub (.v 3) (.k (.int 1))) (.v 4))))]))]
noncomputable def EC:S:=(.for1 2 (.range1 (.k (.int 24))) x5)
noncomputable def uv:bJ:=⟨1,9,#v[x4,EA,EB,(.asg 1 (.k (.str "abcdefghijklmnopqrstuvwxyz0123456789"))),(.asg 5 (.lst false .nil)),EC,(.ret (.v 5))]⟩
noncomputable def uE:bJ:=⟨1,1,#v[(.ife (.cmp (.bin .mod (.v 0) (.k (.int 4))) .eq (.k (.int 0))) #v[(.ret (.sub (.lst true #v[(.k (.int 0)),(.k (.int 0)),(.k (.int 1)),(.k (.int 999999))]) (.bin .mod (.bin .fdiv (.v 0) (.k (.int 4))) (.k (.int 4)))))] .nil),(.ife (.cmp (.bin .mod (.v 0) (.k (.int 4))) .eq (.k (.int 1))) #v[(.ret (.bin .mod (.bin .fdiv (.v 0) (.k (.int 4))) (.bin .pow (.k (.int 10)) (.k (.int 6)))))] .nil),(.ret (.bin .mod (.bin .fdiv (.v 0) (.k (.int 4))) (.k (.int 5))))]⟩
noncomputable def Ec:S:=(.ret (.sub (.lst true #v[(.lst true #v[(.sub (.v 1) (.k (.int 0))),(.k .none)]),(.lst true #v[(.k .none),(.sub (.v 1) (.k (.int 0)))])]) (.b1 .int (.cmp (.sub (.v 1) (.k (.int 1))) .ne (.k (.int 0))))))
noncomputable def Eb:S:=(.ife (.cmp (.sub (.v 0) (.k (.int 0))) .eq (.k (.str "way"))) #v[Ec] .nil)
noncomputable def Ed:S:=(.asg 3 (.sub (.v 1) (.k (.int 0))))
noncomputable def Ee:S:=(.asg 3 (.bin .mod (.b1 .sum (.v 1)) (.bin .pow (.k (.int 10)) (.k (.int 6)))))
noncomputable def oy:S:=(.ife (.cmp (.sub (.v 0) (.k (.int 0))) .eq (.k (.str "sum"))) #v[Ee] .nil)
noncomputable def Eh:S:=(.asg 3 (.bin .mod (.bin .mul (.v 3) (.v 4)) (.bin .pow (.k (.int 10)) (.k (.int 6)))))
noncomputable def Eg:S:=#v[Eh]
noncomputable def Ef:S:=(.for1 4 (.v 1) Eg)
noncomputable def oz:S:=(.ife (.cmp (.sub (.v 0) (.k (.int 0))) .eq (.k (.str "times"))) #v[(.asg 3 (.k (.int 1))),Ef] .nil)
noncomputable def x0:S:=(.asg 3 (.sub (.b1 .sorted (.v 1)) (.sub (.lst true #v[(.k (.int 0)),(.neg (.k (.int 1)))]) (.b1 .int (.cmp (.sub (.v 0) (.k (.int 0))) .eq (.k (.str "most")))))))
noncomputable def oA:S:=(.ife (.cmp (.sub (.v 0) (.k (.int 0))) .isin (.tup #v[(.k (.str "least")),(.k (.str "most"))])) #v[x0] .nil)
noncomputable def Ej:S:=(.asg 3 (.sub (.v 1) (.bin .add (.k (.int 1)) (.b1 .int (.cmp (.sub (.v 1) (.k (.int 0))) .ne (.k (.int 0)))))))
noncomputable def Ei:S:=(.ife (.cmp (.sub (.v 0) (.k (.int 0))) .eq (.k (.str "choose"))) #v[Ej] .nil)
noncomputable def Ea:X:=(.comp true 1 [none,none,some 3] (.v 2) (.k (.bool true)) (.range1 (.v 2)))
noncomputable def x1:S:=(.ret Ea)
noncomputable def D9:bJ:=⟨3,9,#v[Eb,Ed,oy,oz,oA,(.ife (.cmp (.sub (.v 0) (.k (.int 0))) .eq (.k (.str "fixed"))) #v[(.asg 3 (.sub (.v 0) (.k (.int 1))))] .nil),Ei,x1]⟩
noncomputable def uA:bJ:=⟨2,4,#v[(.asg 2 (.sub (.lst true #v[(.k (.str "sum")),(.k (.str "times")),(.k (.str "least")),(.k (.str "most")),(.k (.str "fixed")),(.k (.str "later")),(.k (.str "later")),(.k (.str "way")),(.k (.str "choose")),(.k (.str "way")),(.k (.str "choose")),(.k (.str "sum"))]) (.v 1))),(.ife (.cmp (.v 2) .eq (.k (.str "fixed"))) #v[(.ret (.tup #v[(.k (.str "fixed")),(.call si #v[(.v 0)])]))] .nil),(.ret (.tup #v[(.v 2)]))]⟩
noncomputable def ER:S:=(.asg 2 (.call sf #v[(.call g0 #v[(.v 0),(.v 1)])]))
noncomputable def ux:S:=(.asg 3 (.sub (.lst true #v[(.k (.int 1)),(.k (.int 2)),(.k (.int 3)),(.k (.int 4)),(.k (.int 6)),(.k (.int 8))]) (.bin .mod (.call g0 #v[(.v 0),(.bin .add (.v 1) (.k (.int 1)))]) (.k (.int 6)))))
noncomputable def ES:S:=(.asg 3 (.bin .add (.k (.int 9)) (.bin .mod (.bin .fdiv (.call g0 #v[(.v 0),(.bin .add (.v 1) (.k (.int 1)))]) (.k (.int 60))) (.k (.int 12)))))
noncomputable def uy:S:=(.ife (.cmp (.bin .mod (.bin .fdiv (.call g0 #v[(.v 0),(.bin .add (.v 1) (.k (.int 1)))]) (.k (.int 6))) (.k (.int 10))) .eq (.k (.int 1))) #v[ES] .nil)
noncomputable def yd:S:=(.asg 4 (.sub (.lst true #v[(.k (.int 2)),(.k (.int 4)),(.k (.int 6)),(.k (.int 9))]) (.bin .mod (.call g0 #v[(.v 0),(.bin .add (.v 1) (.k (.int 2)))]) (.k (.int 4)))))
noncomputable def ET:S:=(.asg 5 (.lst false .nil))
noncomputable def EO:X:=(.comp false 1 [none,none,some 2] (.sub (.v 2) (.v 1)) (.k (.bool true)) (.range1 (.min2 (.k (.int 24)) (.bin .add (.v 4) (.v 3)))))
noncomputable def ye:S:=(.asg 7 EO)
noncomputable def yf:S:=(.asg 8 (.b1 (.list true) (.v 7)))
noncomputable def yg:S:=(.asg 9 (.call i2 #v[(.bin .add (.call g0 #v[(.v 0),(.bin .add (.bin .add (.v 1) (.k (.int 3))) (.bin .mod (.v 6) (.k (.int 8))))]) (.bin .mul (.k (.int 977)) (.v 6)))]))
noncomputable def yh:S:=(.asg 10 (.call zH #v[(.call i2 #v[(.v 9)]),(.bin .mod (.bin .fdiv (.v 9) (.k (.int 5))) (.k (.int 12)))]))
noncomputable def yi:S:=(.asg 11 (.call i2 #v[(.bin .add (.v 9) (.k (.int 1)))]))
noncomputable def yj:S:=(.asg 12 (.sub (.lst true #v[(.bin .add (.k (.int 1)) (.bin .mod (.v 11) (.k (.int 4)))),(.k (.int 1))]) (.b1 .int (.cmp (.sub (.v 10) (.k (.int 0))) .eq (.k (.str "later"))))))
noncomputable def yk:S:=(.asg 12 (.fdget ["way", "choose"] [(.int 2),(.int 3)] (.sub (.v 10) (.k (.int 0))) (.v 12)))
noncomputable def yl:S:=(.asg 13 (.fdget ["way"] [(.int 2)] (.sub (.v 10) (.k (.int 0))) (.sub (.lst true #v[(.k (.int 1)),(.k (.int 1)),(.k (.int 1)),(.k (.int 2)),(.k (.int 3))]) (.bin .mod (.bin .fdiv (.v 11) (.k (.int 4))) (.k (.int 5))))))
noncomputable def ym:S:=(.asg 13 (.min2 (.v 13) (.b1 .len (.v 7))))
noncomputable def yn:S:=(.ife (.or #v[(.cmp (.v 13) .eq (.k (.int 0))),(.and #v[(.cmp (.sub (.v 10) (.k (.int 0))) .eq (.k (.str "way"))),(.cmp (.v 13) .lt (.k (.int 2)))])]) #v[.brk] .nil)
noncomputable def EP:X:=(.comp true 1 [none,none,none,none,some 11,some 8] (.sub (.v 5) (.bin .mod (.call i2 #v[(.bin .add (.v 4) (.bin .mul (.k (.int 7)) (.v 1)))]) (.b1 .len (.v 5)))) (.k (.bool true)) (.range1 (.v 12)))
noncomputable def EW:S:=(.asg 14 EP)
noncomputable def EQ:X:=(.comp true 1 [none,none,none,none,some 7,some 11] (.me .pop (.v 4) #v[(.bin .mod (.call i2 #v[(.bin .add (.bin .add (.v 5) (.bin .mul (.k (.int 31)) (.v 1))) (.k (.int 5)))]) (.b1 .len (.v 4)))]) (.k (.bool true)) (.range1 (.v 13)))
noncomputable def EX:S:=(.asg 15 EQ)
noncomputable def EV:S:=(.expr (.me .append (.v 5) #v[(.tup #v[(.sub (.v 2) (.bin .sub (.k (.int 23)) (.v 6))),(.v 10),(.b1 .tuple (.v 14)),(.b1 .tuple (.v 15))])]))
noncomputable def uz:S:=#v[yg,yh,yi,yj,yk,yl,ym,yn,EW,EX,EV]
noncomputable def EU:S:=(.for1 6 (.range1 (.v 3)) uz)
noncomputable def EY:S:=(.expr (.me .append (.v 5) #v[(.tup #v[(.sub (.v 2) (.k (.int 0))),(.tup #v[(.k (.str "sum"))]),(.tup #v[(.sub (.v 2) (.k (.int 0)))]),(.tup #v[(.sub (.v 2) (.k (.int 1)))])])]))
noncomputable def yo:S:=(.ife (.cmp (.v 5) .eq (.lst true .nil)) #v[EY] .nil)
noncomputable def EZ:S:=(.ret (.b1 .tuple (.v 5)))
noncomputable def EN:bJ:=⟨2,26,#v[ER,ux,uy,yd,ET,ye,yf,EU,yo,EZ]⟩
noncomputable def EF:S:=#v[(.expr (.me .extend (.v 1) #v[(.sub (.v 2) (.k (.int 3)))]))]
noncomputable def EG:S:=(.asg 3 (.lst false .nil))
noncomputable def EI:S:=#v[(.ife (.and #v[(.cmp (.v 4) .notin (.v 1)),(.cmp (.v 4) .notin (.v 3))]) #v[(.expr (.me .append (.v 3) #v[(.v 4)]))] .nil)]
noncomputable def EH:S:=#v[(.for1 4 (.sub (.v 2) (.k (.int 2))) EI)]
noncomputable def x8:bJ:=⟨1,5,#v[(.asg 1 (.lst false .nil)),(.for1 2 (.v 0) EF),EG,(.for1 2 (.v 0) EH),(.ret (.v 3))]⟩
noncomputable def D8:S:=#v[(.ife (.cmp (.sub (.v 2) (.k (.int 1))) .eq (.tup #v[(.k (.str "later"))])) #v[(.expr (.me .extend (.v 1) #v[(.sub (.v 2) (.k (.int 3)))]))] .nil)]
noncomputable def xZ:bJ:=⟨1,3,#v[(.asg 1 (.lst false .nil)),(.for1 2 (.v 0) D8),(.ret (.v 1))]⟩
noncomputable def E1:S:=(.asg 4 (.lst false .nil))
noncomputable def E2:S:=(.asg 5 (.bin .mod (.call g0 #v[(.v 0),(.v 1)]) (.k (.int 3))))
noncomputable def E6:S:=(.asg 9 (.call i2 #v[(.bin .add (.bin .add (.call g0 #v[(.v 0),(.bin .add (.bin .add (.v 1) (.k (.int 1))) (.bin .mod (.bin .add (.v 6) (.v 8)) (.k (.int 6))))]) (.bin .mul (.k (.int 31)) (.v 6))) (.bin .mul (.k (.int 1009)) (.v 8)))]))
noncomputable def E8:S:=(.expr (.me .append (.v 4) #v[(.tup #v[(.v 7),(.v 8),(.call si #v[(.call i2 #v[(.v 9)])])])]))
noncomputable def E7:S:=(.ife (.or #v[(.cmp (.v 5) .gt (.k (.int 0))),(.cmp (.bin .mod (.v 9) (.k (.int 3))) .gt (.k (.int 0)))]) #v[E8] .nil)
noncomputable def yp:S:=#v[E6,E7]
noncomputable def E5:S:=(.for1 8 (.range1 (.v 3)) yp)
noncomputable def E4:S:=#v[E5]
noncomputable def E3:S:=(.forT [6,7] (.enum (.call vd #v[(.v 2)])) E4)
noncomputable def Fa:S:=(.asg 9 (.call i2 #v[(.bin .add (.call g0 #v[(.v 0),(.bin .add (.bin .add (.v 1) (.k (.int 1))) (.bin .mod (.v 6) (.k (.int 6))))]) (.k (.int 7)))]))
noncomputable def Fc:S:=(.expr (.me .append (.v 4) #v[(.tup #v[(.v 7),(.k (.int 0)),(.call si #v[(.call i2 #v[(.v 9)])])])]))
noncomputable def Fb:S:=(.ife (.cmp (.bin .mod (.v 9) (.k (.int 5))) .gt (.bin .sub (.v 5) (.k (.int 1)))) #v[Fc] .nil)
noncomputable def yq:S:=#v[Fa,Fb]
noncomputable def E9:S:=(.forT [6,7] (.enum (.call zE #v[(.v 2)])) yq)
noncomputable def Fd:S:=(.ret (.v 4))
noncomputable def E0:bJ:=⟨4,17,#v[E1,E2,E3,E9,Fd]⟩
noncomputable def ED:S:=(.asg 3 (.b1 (.list true) (.sub (.v 0) (.k (.int 2)))))
noncomputable def x7:S:=(.asg 3 (.lst true #v[(.sub (.v 3) (.bin .add (.k (.int 1)) (.b1 .int (.cmp (.sub (.v 1) (.tup #v[(.sub (.v 3) (.k (.int 0))),(.v 2)])) .ne (.k (.int 0))))))]))
noncomputable def EE:S:=(.ife (.and #v[(.cmp (.sub (.v 0) (.k (.int 1))) .eq (.tup #v[(.k (.str "choose"))])),(.cmp (.tup #v[(.sub (.v 3) (.k (.int 0))),(.v 2)]) .isin (.v 1))]) #v[x7] .nil)
noncomputable def x6:bJ:=⟨3,6,#v[ED,EE,(.ret (.v 3))]⟩
noncomputable def Ew:X:=(.comp true 1 [none,none,some 1,some 2] (.v 1) (.cmp (.tup #v[(.v 1),(.v 3)]) .notin (.v 2)) (.call sg #v[(.v 0),(.v 1),(.v 2)]))
noncomputable def Ex:S:=(.asg 3 Ew)
noncomputable def Ey:S:=(.ret (.sub (.bin .add (.v 3) (.lst true #v[(.k .none)])) (.k (.int 0))))
noncomputable def Ev:bJ:=⟨3,5,#v[Ex,Ey]⟩
noncomputable def D2:X:=(.comp true 1 [none,none,some 1,some 2] (.me .get (.v 2) #v[(.tup #v[(.v 1),(.v 3)])]) (.k (.bool true)) (.sub (.v 0) (.k (.int 2))))
noncomputable def D3:S:=(.asg 4 D2)
noncomputable def D4:S:=(.asg 5 (.bin .add (.v 2) (.b1 .int (.cmp (.sub (.v 0) (.k (.int 1))) .eq (.tup #v[(.k (.str "later"))])))))
noncomputable def D5:S:=(.asg 6 (.call Hg #v[(.sub (.v 0) (.k (.int 1))),(.v 4),(.b1 .len (.sub (.v 0) (.k (.int 3))))]))
noncomputable def D7:S:=(.asgSub (.v 1) (.tup #v[(.sub (.sub (.v 0) (.k (.int 3))) (.v 7)),(.v 5)]) (.sub (.v 6) (.v 7)))
noncomputable def xY:S:=(.ife (.and #v[(.cmp (.sub (.v 6) (.v 7)) .isNot (.k .none)),(.cmp (.v 5) .lt (.v 3))]) #v[D7] .nil)
noncomputable def uu:S:=#v[xY]
noncomputable def D6:S:=(.for1 7 (.range1 (.b1 .len (.v 6))) uu)
noncomputable def xX:bJ:=⟨4,12,#v[D3,D4,D5,D6]⟩
noncomputable def yb:S:=(.ife (.or #v[(.not (.isinst (.v 0) .list)),(.cmp (.v 0) .ne (.v 1))]) #v[(.ret (.k (.bool false)))] .nil)
noncomputable def ya:X:=(.comp true 1 [none,none,none,none] (.v 1) (.isinst (.v 1) .bool) (.v 2))
noncomputable def rA:S:=#v[(.ife (.or #v[(.not (.isinst (.v 2) .tuple)),(.cmp ya .ne (.lst true .nil))]) #v[(.ret (.k (.bool false)))] .nil)]
noncomputable def yc:S:=(.for1 2 (.v 0) rA)
noncomputable def x9:bJ:=⟨2,6,#v[yb,yc,(.ret (.k (.bool true)))]⟩
noncomputable def EM:S:=#v[(.ife (.cmp (.v 3) .notin (.v 1)) #v[(.expr (.me .append (.v 1) #v[(.v 3)]))] .nil)]
noncomputable def EL:S:=#v[(.for1 3 (.bin .add (.sub (.v 2) (.k (.int 2))) (.sub (.v 2) (.k (.int 3)))) EM)]
noncomputable def EK:S:=(.for1 2 (.v 0) EL)
noncomputable def EJ:bJ:=⟨1,4,#v[(.asg 1 (.lst false .nil)),EK,(.ret (.v 1))]⟩
noncomputable def Eo:S:=(.asg 5 (.call sh #v[(.v 1)]))
noncomputable def Er:S:=(.asg 5 (.rev (.v 5)))
noncomputable def Ep:S:=(.ife (.cmp (.bin .mod (.v 4) (.k (.int 2))) .eq (.k (.int 1))) #v[Er] .nil)
noncomputable def En:X:=(.comp true 1 [none,none,some 6,some 2] (.tup #v[(.v 1),(.sub (.v 3) (.tup #v[(.v 2),(.v 1)]))]) (.cmp (.tup #v[(.v 2),(.v 1)]) .isin (.v 3)) (.range1 (.v 3)))
noncomputable def Et:S:=(.asg 7 En)
noncomputable def Eu:S:=(.ife (.not (.call oY #v[(.meth 342 sb "told" (.v 0) #v[(.v 6)]),(.v 7)])) #v[(.ret (.k (.bool false)))] .nil)
noncomputable def x3:S:=#v[Et,Eu]
noncomputable def Es:S:=(.for1 6 (.v 5) x3)
noncomputable def x2:bJ:=⟨5,11,#v[Eo,Ep,Es,(.ret (.k (.bool true)))]⟩
noncomputable def M4:bJ:=⟨1,16,#v[(.asg 1 (.bin .add (.bin .mul (.lst true #v[(.k (.str "NoPlan"))]) (.b1 .int (.isexc (.v 0) [44] [31,44,56,68,80,92,104,116,128,140,152]))) (.bin .mul (.lst true #v[(.k (.str "NoTurn"))]) (.b1 .int (.isexc (.v 0) [56] [31,44,56,68,80,92,104,116,128,140,152]))))),(.asg 1 (.bin .add (.bin .add (.v 1) (.bin .mul (.lst true #v[(.k (.str "NoPlace"))]) (.b1 .int (.isexc (.v 0) [68] [31,44,56,68,80,92,104,116,128,140,152])))) (.bin .mul (.lst true #v[(.k (.str "NoValue"))]) (.b1 .int (.isexc (.v 0) [80] [31,44,56,68,80,92,104,116,128,140,152]))))),(.asg 1 (.bin .add (.bin .add (.v 1) (.bin .mul (.lst true #v[(.k (.str "TokenThere"))]) (.b1 .int (.isexc (.v 0) [92] [31,44,56,68,80,92,104,116,128,140,152])))) (.bin .mul (.lst true #v[(.k (.str "NoStep"))]) (.b1 .int (.isexc (.v 0) [104] [31,44,56,68,80,92,104,116,128,140,152]))))),(.asg 1 (.bin .add (.bin .add (.v 1) (.bin .mul (.lst true #v[(.k (.str "Fired"))]) (.b1 .int (.isexc (.v 0) [116] [31,44,56,68,80,92,104,116,128,140,152])))) (.bin .mul (.lst true #v[(.k (.str "NotReady"))]) (.b1 .int (.isexc (.v 0) [128] [31,44,56,68,80,92,104,116,128,140,152]))))),(.asg 1 (.bin .add (.bin .add (.v 1) (.bin .mul (.lst true #v[(.k (.str "IsReady"))]) (.b1 .int (.isexc (.v 0) [140] [31,44,56,68,80,92,104,116,128,140,152])))) (.bin .mul (.lst true #v[(.k (.str "NoText"))]) (.b1 .int (.isexc (.v 0) [152] [31,44,56,68,80,92,104,116,128,140,152]))))),(.ife (.or #v[(.cmp (.b1 .len (.v 1)) .ne (.k (.int 1))),(.not (.isexc (.v 0) [31,44,56,68,80,92,104,116,128,140,152] [31,44,56,68,80,92,104,116,128,140,152]))]) #v[(.ret (.k (.str "other")))] .nil),(.ret (.sub (.v 1) (.k (.int 0))))]⟩
noncomputable def D1:S:=(.asg 6 (.comp true 1 [none,none,some 4] (.v 1) (.cmp (.sub (.v 1) (.k (.int 0))) .eq (.v 2)) (.v 0)))
noncomputable def xV:S:=(.ife (.cmp (.v 6) .eq (.lst true .nil)) #v[(.ret (.k (.str "NoStep")))] .nil)
noncomputable def ur:S:=(.ife (.or #v[(.isinst (.v 5) .bool),(.not (.isinst (.v 5) .int)),(.not (.cmp2 (.k (.int 0)) .le (.v 5) .lt (.v 3)))]) #v[(.ret (.k (.str "NoTurn")))] .nil)
noncomputable def ut:S:=(.ife (.cmp (.tup #v[(.v 4),(.v 5)]) .isin (.v 2)) #v[(.ret (.k (.str "Fired")))] .nil)
noncomputable def xW:S:=(.ife (.cmp (.call p3 #v[(.sub (.v 6) (.k (.int 0))),(.v 1),(.v 5)]) .isNot (.k .none)) #v[(.ret (.k (.str "NotReady")))] .nil)
noncomputable def D0:bJ:=⟨6,11,#v[D1,xV,ur,ut,xW,(.ret (.k (.str "")))]⟩
noncomputable def xU:S:=(.asg 2 (.ife (.cmp (.b1 .len (.v 1)) .eq (.k (.int 3))) (.meth 342 u9 "put" (.v 0) #v[(.sub (.v 1) (.k (.int 0))),(.sub (.v 1) (.k (.int 1))),(.sub (.v 1) (.k (.int 2)))]) (.meth 342 sa "fire" (.v 0) #v[(.sub (.v 1) (.k (.int 0))),(.sub (.v 1) (.k (.int 1)))])))
noncomputable def uq:S:=(.ret (.call Hj #v[(.v 3)]))
noncomputable def xT:S:=(.tryE #v[xU] [31,44,56,68,80,92,104,116,128,140,152] 3 #v[uq])
noncomputable def xS:bJ:=⟨2,8,#v[xT,(.ret (.sub (.lst true #v[(.k (.str "")),(.k (.str "other"))]) (.b1 .int (.cmp (.v 2) .isNot (.k .none)))))]⟩
noncomputable def DR:S:=(.asg 5 (.sub (.v 0) (.bin .mod (.v 4) (.b1 .len (.v 0)))))
noncomputable def DS:S:=(.asg 6 (.bin .mod (.bin .fdiv (.v 4) (.k (.int 20))) (.v 3)))
noncomputable def DT:S:=(.asg 7 (.comp true 1 [none,none,none,some 2,some 1,some 6] (.v 1) (.and #v[(.cmp (.call p3 #v[(.v 1),(.v 4),(.v 5)]) .is (.k .none)),(.cmp (.tup #v[(.sub (.v 1) (.k (.int 0))),(.v 5)]) .notin (.v 3))]) (.v 0)))
noncomputable def DV:S:=(.asg 5 (.sub (.v 7) (.bin .mod (.bin .fdiv (.v 4) (.k (.int 480))) (.b1 .len (.v 7)))))
noncomputable def DU:S:=(.ife (.and #v[(.cmp (.v 7) .ne (.lst true .nil)),(.cmp (.bin .mod (.bin .fdiv (.v 4) (.k (.int 120))) (.k (.int 4))) .gt (.k (.int 0)))]) #v[DV] .nil)
noncomputable def DX:S:=(.asg 8 (.sub (.lst true #v[(.k (.str "")),(.k (.str "zz99zz9")),(.k .none),(.k (.int 3)),(.bin .add (.sub (.v 5) (.k (.int 0))) (.k (.str "q"))),(.slice (.sub (.v 5) (.k (.int 0))) (.k .none) (.neg (.k (.int 1))))]) (.bin .mod (.bin .fdiv (.v 4) (.k (.int 1440))) (.k (.int 6)))))
noncomputable def DW:S:=(.ife (.cmp (.bin .mod (.bin .fdiv (.v 4) (.k (.int 120))) (.k (.int 12))) .eq (.k (.int 4))) #v[DX] .nil)
noncomputable def DZ:S:=(.asg 6 (.sub (.lst true #v[(.neg (.k (.int 1))),(.v 3),(.k (.bool true)),(.k .none),(.k (.str "0")),(.bin .pow (.k (.int 10)) (.k (.int 20)))]) (.bin .mod (.bin .fdiv (.v 4) (.k (.int 1440))) (.k (.int 6)))))
noncomputable def DY:S:=(.ife (.or #v[(.cmp (.bin .mod (.bin .fdiv (.v 4) (.k (.int 120))) (.k (.int 12))) .eq (.k (.int 8))),(.and #v[(.cmp (.bin .mod (.bin .fdiv (.v 4) (.k (.int 120))) (.k (.int 12))) .eq (.k (.int 4))),(.cmp (.bin .mod (.bin .fdiv (.v 4) (.k (.int 8640))) (.k (.int 2))) .eq (.k (.int 1)))])]) #v[DZ] .nil)
noncomputable def DQ:bJ:=⟨5,10,#v[DR,DS,DT,DU,(.asg 8 (.sub (.v 5) (.k (.int 0)))),DW,DY,(.ret (.tup #v[(.v 8),(.v 6)]))]⟩
noncomputable def El:S:=(.ife (.and #v[(.cmp (.bin .mod (.v 5) (.k (.int 2))) .eq (.k (.int 0))),(.not (.call oY #v[(.meth 342 oV "fired" (.v 0) .nil),(.v 3)]))]) #v[(.ret (.k (.bool false)))] .nil)
noncomputable def Em:S:=(.ret (.and #v[(.call zG #v[(.v 0),(.v 1),(.v 2),(.v 4),(.bin .fdiv (.v 5) (.k (.int 2)))]),(.call oY #v[(.meth 342 oV "fired" (.v 0) .nil),(.v 3)])]))
noncomputable def Ek:bJ:=⟨6,8,#v[El,Em]⟩
noncomputable def Fe:S:=(.asg 1 (.call Hh #v[(.v 0),(.k (.int 0))]))
noncomputable def Ff:S:=(.asg 2 (.bin .add (.k (.int 1)) (.bin .mod (.call g0 #v[(.v 0),(.k (.int 11))]) (.k (.int 6)))))
noncomputable def Fg:S:=(.asg 3 (.call Hi #v[(.v 0),(.k (.int 12)),(.v 1),(.v 2)]))
noncomputable def Fh:S:=(.asg 4 (.new 342 zz #v[(.v 1),(.v 2)]))
noncomputable def Fi:S:=(.asg 5 (.dnew true))
noncomputable def Fj:S:=(.asg 6 (.lst false .nil))
noncomputable def Fk:S:=(.asg 7 (.lst false .nil))
noncomputable def Fl:S:=(.asg 10 (.call i2 #v[(.bin .add (.v 9) (.bin .mul (.k (.int 31)) (.v 8)))]))
noncomputable def Fo:S:=(.asg 11 (.me .pop (.v 3) #v[(.bin .mod (.bin .fdiv (.v 10) (.k (.int 3))) (.b1 .len (.v 3)))]))
noncomputable def Fp:S:=(.asgSub (.v 5) (.slice (.v 11) (.k .none) (.k (.int 2))) (.sub (.v 11) (.k (.int 2))))
noncomputable def Fm:S:=(.asg 11 (.call He #v[(.v 1),(.v 5),(.v 6),(.v 2),(.bin .fdiv (.v 10) (.k (.int 3)))]))
noncomputable def Fn:S:=(.asg 12 (.call Hf #v[(.v 1),(.v 5),(.v 6),(.v 2),(.sub (.v 11) (.k (.int 0))),(.sub (.v 11) (.k (.int 1)))]))
noncomputable def oB:S:=(.ife (.and #v[(.cmp (.bin .mod (.v 10) (.k (.int 3))) .eq (.k (.int 0))),(.cmp (.v 3) .ne (.lst true .nil))]) #v[Fo,Fp,(.asg 12 (.k (.str "")))] #v[Fm,Fn])
noncomputable def mX:S:=(.ife (.cmp (.call se #v[(.v 4),(.v 11)]) .ne (.v 12)) #v[(.ret (.k (.bool false)))] .nil)
noncomputable def Fq:S:=(.expr (.me .append (.v 6) #v[(.v 11)]))
noncomputable def Fs:S:=(.asg 13 (.sub (.comp true 1 [none,none,some 11] (.v 1) (.cmp (.sub (.v 1) (.k (.int 0))) .eq (.sub (.v 2) (.k (.int 0)))) (.v 1)) (.k (.int 0))))
noncomputable def Ft:S:=(.expr (.call zD #v[(.v 13),(.v 5),(.sub (.v 11) (.k (.int 1))),(.v 2)]))
noncomputable def oC:S:=(.ife (.and #v[(.cmp (.b1 .len (.v 11)) .eq (.k (.int 2))),(.cmp (.v 12) .eq (.k (.str "")))]) #v[Fq,Fs,Ft] .nil)
noncomputable def pR:S:=(.ife (.not (.call zF #v[(.v 4),(.v 1),(.v 5),(.v 6),(.v 2),(.bin .fdiv (.v 10) (.k (.int 7)))])) #v[(.ret (.k (.bool false)))] .nil)
noncomputable def oD:S:=(.asg 14 (.lst true #v[(.meth 342 oV "fired" (.v 4) .nil),(.meth 342 sb "told" (.v 4) #v[(.sub (.call sh #v[(.v 1)]) (.k (.int 0)))])]))
noncomputable def DO:X:=(.comp true 1 [none,none,none] (.tup #v[(.v 1),(.b1 (.list true) (.v 1))]) (.k (.bool true)) (.v 14))
noncomputable def oE:S:=(.expr (.me .extend (.v 7) #v[DO]))
noncomputable def yt:S:=#v[Fl,oB,mX,oC,pR,oD,oE]
noncomputable def yr:S:=(.forT [8,9] (.enum (.slice (.v 0) (.k (.int 20)) (.k (.int 80)))) yt)
noncomputable def DP:X:=(.comp true 1 [none,none] (.v 1) (.cmp (.sub (.v 1) (.k (.int 0))) .ne (.sub (.v 1) (.k (.int 1)))) (.v 7))
noncomputable def uC:S:=(.ife (.cmp (.b1 .len DP) .gt (.k (.int 0))) #v[(.ret (.k (.bool false)))] .nil)
noncomputable def Fv:S:=(.expr (.me0 .clear (.sub (.v 15) (.k (.int 0)))))
noncomputable def Fu:S:=#v[Fv]
noncomputable def uD:S:=(.for1 15 (.v 7) Fu)
noncomputable def uB:S:=(.ret (.call zF #v[(.v 4),(.v 1),(.v 5),(.v 6),(.v 2),(.k (.int 1))]))
noncomputable def DN:bJ:=⟨1,29,#v[Fe,Ff,Fg,Fh,Fi,Fj,Fk,yr,uC,uD,uB]⟩
noncomputable def Dc:S:=(.ife (.not (.call vc #v[(.v 1)])) #v[(.raise 44)] .nil)
noncomputable def xv:S:=(.ife (.not (.call lv #v[(.v 2),(.k (.int 1)),(.k (.int 200))])) #v[(.raise 56)] .nil)
noncomputable def tX:S:=(.asgAttr 342 (.v 0) "plan" (.v 1))
noncomputable def tY:S:=(.asgAttr 342 (.v 0) "turns" (.v 2))
noncomputable def tZ:S:=(.asgAttr 342 (.v 0) "givers" (.call va #v[(.v 1)]))
noncomputable def t0:S:=(.asgAttr 342 (.v 0) "outer" (.call zJ #v[(.v 1)]))
noncomputable def t1:S:=(.asgAttr 342 (.v 0) "here" (.dnew true))
noncomputable def t2:S:=(.asgAttr 342 (.v 0) "gone" (.dnew true))
noncomputable def t3:S:=(.asgAttr 342 (.v 0) "order" (.lst false .nil))
noncomputable def Db:bJ:=⟨3,10,#v[Dc,xv,tX,tY,tZ,t0,t1,t2,t3]⟩
noncomputable def Ds:S:=(.ife (.or #v[(.not (.isinst (.v 1) .str)),(.and #v[(.cmp (.v 1) .notin (.attr 342 (.v 0) "givers")),(.cmp (.v 1) .notin (.attr 342 (.v 0) "outer"))])]) #v[(.raise 68)] .nil)
noncomputable def Dr:bJ:=⟨2,5,#v[Ds]⟩
noncomputable def uc:S:=(.ife (.not (.call lv #v[(.v 1),(.k (.int 0)),(.bin .sub (.attr 342 (.v 0) "turns") (.k (.int 1)))])) #v[(.raise 56)] .nil)
noncomputable def xH:bJ:=⟨2,4,#v[uc]⟩
noncomputable def ub:S:=(.ife (.cmp (.sub (.v 2) (.k (.int 0))) .eq (.v 1)) #v[(.ret (.v 2))] .nil)
noncomputable def xG:S:=#v[ub]
noncomputable def xF:S:=(.for1 2 (.attr 342 (.v 0) "plan") xG)
noncomputable def xE:S:=(.ife (.isinst (.v 1) .str) #v[xF] .nil)
noncomputable def xD:bJ:=⟨2,6,#v[xE,(.raise 104)]⟩
noncomputable def Dt:S:=(.expr (.meth 342 zB "need_place" (.v 0) #v[(.v 1)]))
noncomputable def Du:S:=(.expr (.meth 342 oW "need_turn" (.v 0) #v[(.v 2)]))
noncomputable def Dv:S:=(.ife (.and #v[(.cmp (.v 1) .isin (.attr 342 (.v 0) "givers")),(.or #v[(.cmp (.sub (.sub (.sub (.attr 342 (.v 0) "givers") (.v 1)) (.k (.int 1))) (.k (.int 0))) .ne (.k (.str "later"))),(.cmp (.v 2) .gt (.k (.int 0)))])]) #v[(.raise 68)] .nil)
noncomputable def Dw:S:=(.ife (.not (.call sd #v[(.v 3)])) #v[(.raise 80)] .nil)
noncomputable def Dx:S:=(.ife (.cmp (.tup #v[(.v 1),(.v 2)]) .isin (.attr 342 (.v 0) "here")) #v[(.raise 92)] .nil)
noncomputable def Dy:S:=(.asgSub (.attr 342 (.v 0) "here") (.tup #v[(.v 1),(.v 2)]) (.v 3))
noncomputable def xI:bJ:=⟨4,8,#v[Dt,Du,Dv,Dw,Dx,Dy]⟩
noncomputable def xA:S:=(.asg 3 (.sub (.v 1) (.k (.int 2))))
noncomputable def Dn:S:=(.asg 4 (.me .get (.attr 342 (.v 0) "here") #v[(.tup #v[(.sub (.v 3) (.k (.int 0))),(.v 2)])]))
noncomputable def Do:S:=(.ret (.sub (.v 3) (.k (.int 0))))
noncomputable def t8:S:=(.ife (.cmp (.v 4) .is (.k .none)) #v[Do] .nil)
noncomputable def Dq:S:=(.asg 3 (.slice (.v 3) (.k (.int 1)) (.k (.int 2))))
noncomputable def Dp:S:=(.asg 3 (.slice (.v 3) (.k (.int 2)) (.k (.int 3))))
noncomputable def t9:S:=(.ife (.cmp (.v 4) .eq (.k (.int 0))) #v[Dq] #v[Dp])
noncomputable def rv:S:=(.ife (.cmp (.sub (.sub (.v 1) (.k (.int 1))) (.k (.int 0))) .eq (.k (.str "choose"))) #v[Dn,t8,t9] .nil)
noncomputable def xC:S:=(.ife (.cmp (.tup #v[(.v 5),(.v 2)]) .notin (.attr 342 (.v 0) "here")) #v[(.ret (.v 5))] .nil)
noncomputable def xB:S:=#v[xC]
noncomputable def pP:S:=(.for1 5 (.v 3) xB)
noncomputable def ua:S:=(.ret (.k .none))
noncomputable def Dm:bJ:=⟨3,6,#v[xA,rv,pP,ua]⟩
noncomputable def xz:bJ:=⟨3,3,#v[(.ret (.cmp (.tup #v[(.v 1),(.v 2)]) .isin (.attr 342 (.v 0) "gone")))]⟩
noncomputable def t5:S:=(.asg 3 (.meth 342 zC "need_step" (.v 0) #v[(.v 1)]))
noncomputable def ru:S:=(.expr (.meth 342 oW "need_turn" (.v 0) #v[(.v 2)]))
noncomputable def t6:S:=(.ife (.meth 342 zA "has_fired" (.v 0) #v[(.v 1),(.v 2)]) #v[(.raise 116)] .nil)
noncomputable def xw:S:=(.ife (.cmp (.meth 342 u8 "missed" (.v 0) #v[(.v 3),(.v 2)]) .isNot (.k .none)) #v[(.raise 128)] .nil)
noncomputable def De:S:=(.asgSub (.attr 342 (.v 0) "gone") (.tup #v[(.v 1),(.v 2)]) (.k (.bool true)))
noncomputable def Df:S:=(.expr (.me .append (.attr 342 (.v 0) "order") #v[(.tup #v[(.v 1),(.v 2)])]))
noncomputable def Dd:X:=(.comp true 1 [none,none,some 0,some 2] (.me .get (.attr 342 (.v 2) "here") #v[(.tup #v[(.v 1),(.v 3)])]) (.k (.bool true)) (.sub (.v 3) (.k (.int 2))))
noncomputable def Dg:S:=(.asg 5 Dd)
noncomputable def Dh:S:=(.asg 6 (.bin .add (.v 2) (.b1 .int (.cmp (.sub (.sub (.v 3) (.k (.int 1))) (.k (.int 0))) .eq (.k (.str "later"))))))
noncomputable def t7:S:=(.ife (.cmp (.v 6) .eq (.attr 342 (.v 0) "turns")) #v[.ret0] .nil)
noncomputable def Dj:S:=(.asgSub (.attr 342 (.v 0) "here") (.tup #v[(.v 4),(.v 6)]) (.v 7))
noncomputable def Di:S:=(.ife (.cmp (.v 7) .isNot (.k .none)) #v[Dj] .nil)
noncomputable def xy:S:=#v[Di]
noncomputable def xx:S:=(.forT [4,7] (.zip #v[(.sub (.v 3) (.k (.int 3))),(.call zI #v[(.sub (.v 3) (.k (.int 1))),(.v 5),(.b1 .len (.sub (.v 3) (.k (.int 3))))])]) xy)
noncomputable def t4:bJ:=⟨3,14,#v[t5,ru,t6,xw,De,Df,Dg,Dh,t7,xx]⟩
noncomputable def DB:S:=(.expr (.meth 342 zB "need_place" (.v 0) #v[(.v 1)]))
noncomputable def DA:X:=(.comp false 1 [none,none,some 1,some 0] (.tup #v[(.v 1),(.sub (.attr 342 (.v 3) "here") (.tup #v[(.v 2),(.v 1)]))]) (.cmp (.tup #v[(.v 2),(.v 1)]) .isin (.attr 342 (.v 3) "here")) (.range1 (.attr 342 (.v 0) "turns")))
noncomputable def DC:S:=(.ret DA)
noncomputable def Dz:bJ:=⟨2,3,#v[DB,DC]⟩
noncomputable def Dl:S:=(.ret (.b1 (.list false) (.attr 342 (.v 0) "order")))
noncomputable def Dk:bJ:=⟨1,2,#v[Dl]⟩
noncomputable def PP:gx:=⟨[uo,FD,DD,FH,Fw,DH,ud,ue,ui,DM,DI,xJ,yx,xK,ry,uw,uv,uE,D9,uA,EN,x8,xZ,E0,x6,Ev,xX,x9,EJ,x2,M4,D0,xS,DQ,Ek,DN,Db,Dr,xH,xD,xI,Dm,xz,t4,Dz,Dk]⟩
noncomputable def topN:Nat:=4500
noncomputable def a5:c8->ai H
 | .next _ σ=>.ok .none σ
 | .ret v _ σ=>.ok v σ
 | .exc i _ σ=>.exc i σ
 | _=>.stuck
section
variable {α β:Type}{σ:ac}{ρ:aE}{C:bh}{n:Nat}
theorem b0{a:α}{f:α->ac->ai β}:(ai.ok a σ).bind f=f a σ:=rfl
theorem gI{a:α}{f:α->ac->c8}:(ai.ok a σ).toS ρ f=f a σ:=rfl
theorem pN{a b:Str}:cQ .eq (.str a) (.str b) σ=.ok (a == b) σ:=rfl
theorem Iu{a b:Str}:cQ .ne (.str a) (.str b) σ=.ok (!(a == b)) σ:=rfl
theorem kx{a b:Int}:cQ .eq (.int a) (.int b) σ=.ok (a == b) σ:=rfl
theorem Aa{a b:Int}:cQ .ne (.int a) (.int b) σ=.ok (!(a == b)) σ:=rfl
theorem lt_int{a b:Int}:cQ .lt (.int a) (.int b) σ=.ok (decide (a<b)) σ:=rfl
theorem le_int{a b:Int}:cQ .le (.int a) (.int b) σ=.ok (decide (a<=b)) σ:=rfl
theorem gt_int{a b:Int}:cQ .gt (.int a) (.int b) σ=.ok (decide (a > b)) σ:=rfl
theorem add_int{a b:Int}:jO .add (.int a) (.int b) σ=.ok (.int (a+b)) σ:=rfl
theorem sub_int{a b:Int}:jO .sub (.int a) (.int b) σ=.ok (.int (a-b)) σ:=rfl
theorem mul_int{a b:Int}(h:a.natAbs<2 ^ 60\/b.natAbs<2 ^ 60):jO .mul (.int a) (.int b) σ=.ok (.int (a*b)) σ:=by
 show(if qg a b=true then ai.ok (H.int (a*b)) σ else .stuck)=_;exact az (ed h)
theorem gq{a b:Int}(h:0<b):jO .mod (.int a) (.int b) σ=.ok (.int (a%b)) σ:=az h
theorem M7{a b:Int}(h:0<b)(O:b<1073741824):jO .fdiv (.int a) (.int b) σ=.ok (.int (a/b)) σ:=az ⟨h,O⟩
theorem add_str{a b:Str}(h:a.length+b.length<=aB):jO .add (.str a) (.str b) σ=.ok (.str (a++b)) σ:=by
 show(if a.length+b.length<=aB then ai.ok (H.str (a++b)) σ else .stuck)=_;exact az h
theorem Kx{a b:List H}(h:a.length+b.length<=aB):jO .add (.fl a) (.fl b) σ=.ok (.fl (a++b)) σ:=by
 show(if a.length+b.length<=aB then ai.ok (H.fl (a++b)) σ else .stuck)=_;exact az h
theorem qk{f:List H->ai H}{a:H}{xs:List H}(h:d0 σ a=some xs):jy f a σ=f xs:=by unfold jy;rw[h]
theorem sA{γ:Type}{g:List H->Option γ}{f:γ->ai H}{a:H}{l:γ}(h:(cO σ a).bind g=some l):fR g f a σ=f l:=by unfold fR;rw[h]
theorem len_str{s:Str}(h:s.length<=aB):db .len (.str s) σ=.ok (.int s.length) σ:=by
 show(if s.length<=aB then ai.ok (H.int s.length) σ else .stuck)=_;exact az h
theorem vq{xs:List H}(h:xs.length<=aB):db .len (.tup xs) σ=.ok (.int xs.length) σ:=by
 show(if xs.length<=aB then ai.ok (H.int xs.length) σ else .stuck)=_;exact az h
theorem vp{xs:List H}(h:xs.length<=aB):db .len (.fl xs) σ=.ok (.int xs.length) σ:=by
 show(if xs.length<=aB then ai.ok (H.int xs.length) σ else .stuck)=_;exact az h
theorem Rx{xs:List H}(h:xs.length<=aB):db (.list true) (.tup xs) σ=.ok (.fl xs) σ:=by
 show(if xs.length<=aB then ai.ok (H.fl xs) σ else .stuck)=_;exact az h
theorem JU{xs:List H}(h:xs.length<=aB):db .tuple (.fl xs) σ=.ok (.tup xs) σ:=by
 show(if xs.length<=aB then ai.ok (H.tup xs) σ else .stuck)=_;exact az h
theorem int_bool{b:Bool}:db .int (.bool b) σ=.ok (.int (if b then 1 else 0)) σ:=rfl
theorem nk{xs:List H}(h:xs.length<=aB):er true xs σ=.ok (.fl xs) σ:=az h
theorem z4{xs:List H}(h:xs.length<=aB):er false xs σ=.ok (.ref σ.length) (σ++[.lst xs]):=az h
theorem ve{i:Int}{m:Nat}(h0:0<=i)(h:i.toNat<m):fJ i m=some i.toNat:=by
 unfold fJ;rw[az h0,az h]
theorem kO{xs:List H}{i:Int}{x:H}(hl:xs.length<=aB)(h0:0<=i)(h:xs[i.toNat]?=some x):fU (.fl xs) (.int i) σ=.ok x σ:=by
 have hi:=(dU h).1;show(if xs.length<=aB then ai.ofOpt ((fJ i xs.length).bind (xs[·]?)) σ else .stuck)=_;rw[az hl,ve h0 hi];show ai.ofOpt xs[i.toNat]? σ=_;rw[h];rfl
theorem Jv{xs:List H}{i:Int}{x:H}(hl:xs.length<=aB)(h0:0<=i)(h:xs[i.toNat]?=some x):fU (.tup xs) (.int i) σ=.ok x σ:=by
 have hi:=(dU h).1;show(if xs.length<=aB then ai.ofOpt ((fJ i xs.length).bind (xs[·]?)) σ else .stuck)=_;rw[az hl,ve h0 hi];show ai.ofOpt xs[i.toNat]? σ=_;rw[h];rfl
theorem Jt{xs:List H}{r:Nat}{i:Int}{x:H}(hr:σ[r]?=some (.lst xs))(hl:xs.length<=aB)(h0:0<=i)(h:xs[i.toNat]?=some x):fU (.ref r) (.int i) σ=.ok x σ:=by
 have hi:=(dU h).1
 have e:cO σ (.ref r)=some xs:=by unfold cO;dsimp only;rw[hr]
 show(match cO σ (.ref r)with
  | some xs=>mh xs i σ
  | none=>.stuck)=_
 rw[e];show(if xs.length<=aB then ai.ofOpt ((fJ i xs.length).bind (xs[·]?)) σ else .stuck)=_;rw[az hl,ve h0 hi];show ai.ofOpt xs[i.toNat]? σ=_;rw[h];rfl
theorem Ju{s:Str}{i:Int}{c:Nat}(hl:s.cps.size<=aB)(h0:0<=i)(h:s.cps.toList[i.toNat]?=some c):fU (.str s) (.int i) σ=.ok (.str ⟨#[c]⟩) σ:=by
 have hi:=(dU h).1
 have h':s.cps[i.toNat]?=some c:=by exact(Array.getElem?_toList)▸h
 show(if s.cps.size<=aB then(match(fJ i s.cps.size).bind (s.cps[·]?)with
   | some c=>ai.ok (H.str ⟨#[c]⟩) σ
   | none=>.stuck)
  else .stuck)=_
 rw[az hl,ve h0 (by simpa using hi)]
 show(match s.cps[i.toNat]? with
   | some c=>ai.ok (H.str ⟨#[c]⟩) σ
   | none=>.stuck)=_
 rw[h']
theorem tt{P:Nat->Prop}:∀k,k<0->P k:=fun J h=>absurd h (Nat.not_lt_zero _)
theorem fq{P:Nat->Prop}{n:Nat}(h:∀k,k<n->P k)(q:P n):∀k,k<n+1->P k:=fun k hk=>(Nat.lt_succ_iff_lt_or_eq.mp hk).elim (h k) fun e=>e▸q
theorem vf{P:Int->Prop}{n:Nat}(h:∀k:Nat,k<n->P k){w:Int}(h0:0<=w)(L:w<n):P w:=by
 refine aJ (iN h0) fun k ae=>?_;obtain rfl:=ae;exact h k (d3.mp L)
theorem A5{w:Int}{n:Nat}(h0:0<=w)(L:w<n):w.toNat<n:=vf (P:=fun w=>w.toNat<n) (fun J h=>h) h0 L
theorem BU{a:Int}{k N:Nat}(am:N≠0):((a+k)%N).toNat=((a%N).toNat+k)%N:=by
 have bA:(N:Int)≠0:=Int.ofNat_ne_zero.mpr am;rw[<- Int.emod_add_emod];refine aJ (iN (eI a bA)) fun m hm=>?_;rw[hm,Int.toNat_natCast,<- Int.natCast_add,<- Int.natCast_emod,Int.toNat_natCast]
theorem eM:aB=1000000:=rfl
theorem Ct{f:H->ac->ai (Option H)}{g:H->H}:∀(xs:List H),(∀x∈xs,f x σ=.ok (some (g x)) σ)->dM none f xs σ=.ok (xs.map g) σ:=by
 intro xs
 induction xs with
 | nil =>
  intro _;exact az trivial
 | cons x xs ag =>
  intro h;refine(az trivial).trans ?_;rw[h x bi];show(dM none f xs σ).bind _=_;rw[ag fun y hy=>h y (bI _ hy)];rfl
theorem mQ{t:Nat}{b9:List (Option Nat)}{elt it:X}{xs:List H}(g:H->H)(bO:evIt C it ρ σ=.ok (xs,none) σ)(hl:xs.length<=aB)
  (h:∀x∈xs,ev C elt ((cy b9 ρ).set t (some x)) σ=.ok (g x) σ) (aO:C.hd=false:=by first | rfl | assumption):ev C (.comp true t b9 elt (.k (.bool true)) it) ρ σ=.ok (.fl (xs.map g)) σ:=by
 rw[ky,aO,bO];show iS xs.length (dM none (fun x σ=>((ai.ok true σ).bind fun b σ=>if b=true then(ev C elt ((cy b9 ρ).set t (some x)) σ).bind fun v σ=>.ok (some v) σ else .ok none σ)) xs σ) _=_
 rw[Ct (g:=g) xs fun x hx=>by
  show(ev C elt ((cy b9 ρ).set t (some x)) σ).bind _=_
  rw[h x hx];rfl]
 exact nk (by simpa using hl)
section
variable {a b c r:X}{aa ao gJ:ac}{x y z:H}
theorem cz{o:mH}{v:ai H}(ha:ev C a ρ σ=.ok x aa)(hb:ev C b ρ aa=.ok y ao)(h:jO o x y ao=v):ev C (.bin o a b) ρ σ=v:=by
 rw[ML,ha,b0,hb,b0,h]
theorem cY{v:ai H}(ha:ev C a ρ σ=.ok x aa)(hb:ev C b ρ aa=.ok y ao)(h:fU x y ao=v):ev C (.sub a b) ρ σ=v:=by
 rw[MS,ha,b0,hb,b0,h]
theorem Je{o lo hi v:H}{a b:Option Int}(L:mm lo=some a)(O:mm hi=some b)(h:sQ σ o a b=some v):lJ o lo hi σ=.ok v σ:=by
 unfold lJ;rw[L,O];show ai.ofOpt (sQ σ o a b) σ=_;rw[h];rfl
theorem Uz{xs:List H}{lo hi:H}{a b:Option Int}(L:mm lo=some a)(O:mm hi=some b)(hl:xs.length<=aB):lJ (.fl xs) lo hi σ=.ok (.fl (dE xs a b)) σ:=
 Je L O (show(if xs.length<=aB then some (H.fl (dE xs a b))else none)=_ from az hl)
theorem CJ{v:ai H}(ha:ev C a ρ σ=.ok x aa)(hb:ev C b ρ aa=.ok y ao)(hc:ev C c ρ ao=.ok z gJ)(h:lJ x y z gJ=v):ev C (.slice a b c) ρ σ=v:=by
 rw[C6,ha,b0,hb,b0,hc,b0,h]
theorem K8{k:fX}:iP false k x σ=db k x σ:=rfl
theorem c4{k:fX}{v:ai H}(ha:ev C a ρ σ=.ok x aa)(h:db k x aa=v)(aO:C.hd=false:=by first | rfl | assumption):ev C (.b1 k a) ρ σ=v:=by
 rw[CZ,ha,b0,aO,K8,h]
theorem CI{v:ai H}(ha:ev C a ρ σ=.ok x aa)(hb:ev C b ρ aa=.ok y ao)(h:qd x y ao=v)(aO:C.hd=false:=by first | rfl | assumption):ev C (.min2 a b) ρ σ=v:=by
 rw[C3,aO];show(ev C a ρ σ).bind _=_;rw[ha,b0,hb,b0,h]
theorem dN{f:Nat}{v:ai H}(ha:ev C a ρ σ=.ok x aa)(h:C.call f [x] aa=v):ev C (.call f #v[a]) ρ σ=v:=by
 rw[tU,lg,ha,b0,h5];exact h
theorem hJ{f:Nat}{v:ai H}(ha:ev C a ρ σ=.ok x aa)(hb:ev C b ρ aa=.ok y ao)(h:C.call f [x,y] ao=v):ev C (.call f #v[a,b]) ρ σ=v:=by
 rw[tU,lg,ha,b0,lg,hb,b0,h5];exact h
theorem lV{f:Nat}{v:ai H}(ha:ev C a ρ σ=.ok x aa)(hb:ev C b ρ aa=.ok y ao)(hc:ev C c ρ ao=.ok z gJ)(h:C.call f [x,y,z] gJ=v):ev C (.call f #v[a,b,c]) ρ σ=v:=by
 rw[tU,lg,ha,b0,lg,hb,b0,lg,hc,b0,h5];exact h
theorem gW{m:hW}{v:ai H}(ha:ev C a ρ σ=.ok x aa)(hm:o2 m x aa=true)(hb:ev C b ρ aa=.ok y ao)(h:iC m x [y] ao=v):ev C (.me m a #v[b]) ρ σ=v:=by
 rw[C0,ha,b0,az hm,lg,hb,b0,h5];exact h
theorem CH{t:jN}{q:Bool}(ha:ev C a ρ σ=.ok x aa)(h:kH x t aa=.ok q aa):ev C (.isinst a t) ρ σ=.ok (.bool q) aa:=by
 rw[MP,ha,b0,h];rfl
theorem iU{o:ig}{q:Bool}(ha:ev C a ρ σ=.ok x aa)(hb:ev C b ρ aa=.ok y ao)(h:cQ o x y ao=.ok q gJ):ev C (.cmp a o b) ρ σ=.ok (.bool q) gJ:=by
 rw[MM,ha,b0,hb,b0,h];rfl
theorem mS{xs:X}{v:ai H}(h:evAnd C xs ρ σ=v):ev C (.and xs) ρ σ=v:=h
theorem oe{v:ai H}(h:ev C a ρ σ=v):evAnd C #v[a] ρ σ=v:=h
theorem hh{xs:X}{v:ai Bool}(h:tstAnd C xs ρ σ=v):tst C (.and xs) ρ σ=v:=h
theorem ib{xs:X}{v:ai Bool}(h:tstOr C xs ρ σ=v):tst C (.or xs) ρ σ=v:=h
theorem oj{v:ai H}(ha:ev C a ρ σ=.ok (.bool true) aa)(hb:evAnd C (.cons b r) ρ aa=v):evAnd C (.cons a (.cons b r)) ρ σ=v:=by
 rw[rr,ha];exact hb
theorem ch{o:ig}{v:ai Bool}(ha:ev C a ρ σ=.ok x aa)(hb:ev C b ρ aa=.ok y ao)(h:cQ o x y ao=v):tst C (.cmp a o b) ρ σ=v:=by
 rw[Wc,ha,b0,hb,b0,h]
theorem fV{q:Bool}(ha:tst C a ρ σ=.ok q aa):tst C (.not a) ρ σ=.ok (!q) aa:=by
 rw[We,ha];rfl
theorem iI{f:Nat}{args:X}{q:Bool}(h:ev C (.call f args) ρ σ=.ok (.bool q) aa):tst C (.call f args) ρ σ=.ok q aa:=by
 rw[Wb,h];rfl
theorem Vl{k:fX}{q:Bool}(h:ev C (.b1 k a) ρ σ=.ok (.bool q) aa):tst C (.b1 k a) ρ σ=.ok q aa:=by
 rw[Wa,h];rfl
theorem Jy{t:jN}{q:Bool}(h:ev C (.isinst a t) ρ σ=.ok (.bool q) aa):tst C (.isinst a t) ρ σ=.ok q aa:=by
 rw[Wd,h];rfl
theorem ja{v:ai Bool}(ha:tst C a ρ σ=.ok false aa)(h:tstOr C r ρ aa=v):tstOr C (.cons a r) ρ σ=v:=by
 rw[qI,ha];exact h
theorem JA(ha:tst C a ρ σ=.ok true aa):tstOr C (.cons a r) ρ σ=.ok true aa:=by
 rw[qI,ha];rfl
theorem sW{v:ai Bool}(ha:tst C a ρ σ=.ok true aa)(h:tstAnd C r ρ aa=v):tstAnd C (.cons a r) ρ σ=v:=by
 rw[qH,ha];exact h
theorem AY(ha:tst C a ρ σ=.ok false aa):tstAnd C (.cons a r) ρ σ=.ok false aa:=by
 rw[qH,ha];rfl
theorem qD{q p:Bool}(ha:tst C a ρ σ=.ok q aa)(h:q=false->tstOr C r ρ aa=.ok p aa):tstOr C (.cons a r) ρ σ=.ok (q||p) aa:=by
 rw[qI,ha,b0];cases q
 ·exact h rfl
 ·rfl
theorem i9{q:Bool}(ha:tst C a ρ σ=.ok q aa):tstOr C #v[a] ρ σ=.ok q aa:=by
 rw[qI,ha,b0];cases q <;> rfl
theorem lL{q p:Bool}(ha:tst C a ρ σ=.ok q aa)(h:q=true->tstAnd C r ρ aa=.ok p aa):tstAnd C (.cons a r) ρ σ=.ok (q&&p) aa:=by
 rw[qH,ha,b0];cases q
 ·rfl
 ·exact h rfl
theorem iH{q:Bool}(ha:tst C a ρ σ=.ok q aa):tstAnd C #v[a] ρ σ=.ok q aa:=by
 rw[qH,ha,b0];cases q <;> rfl
theorem xe{q p:Bool}(ha:ev C a ρ σ=.ok (.bool q) aa)(h:q=true->evAnd C (.cons b r) ρ aa=.ok (.bool p) aa):evAnd C (.cons a (.cons b r)) ρ σ=.ok (.bool (q&&p)) aa:=by
 rw[rr,ha];cases q
 ·rfl
 ·exact h rfl
theorem xf{i j k:Int}(ha:ev C a ρ σ=.ok (.int i) σ)(hb:ev C b ρ σ=.ok (.int j) σ)(hc:ev C c ρ σ=.ok (.int k) σ):ev C (.cmp2 a .le b .le c) ρ σ=.ok (.bool (decide (i<=j)&&decide (j<=k))) σ:=by
 rw[MN,ha,b0,hb,b0,le_int,b0];cases decide (i<=j)
 ·rfl
 ·rw[az rfl,hc,b0,le_int];rfl
theorem Jx{i j k:Int}(ha:ev C a ρ σ=.ok (.int i) σ)(hb:ev C b ρ σ=.ok (.int j) σ)(hc:ev C c ρ σ=.ok (.int k) σ):tst C (.cmp2 a .le b .le c) ρ σ=.ok (decide (i<=j)&&decide (j<=k)) σ:=by
 rw[JS,ha,b0,hb,b0,le_int,b0];cases decide (i<=j)
 ·rfl
 ·rw[az rfl,hc,b0,le_int];rfl
theorem c7{vs:List H}(ha:ev C a ρ σ=.ok x aa)(h:evs C r ρ aa=.ok vs ao):evs C (.cons a r) ρ σ=.ok (x::vs) ao:=by
 rw[lg,ha,b0,h];rfl
theorem ku{xs:X}{vs:List H}(h:evs C xs ρ σ=.ok vs aa)(hl:vs.length<=aB):ev C (.tup xs) ρ σ=.ok (.tup vs) aa:=by
 rw[MT,h,b0,az hl]
theorem xg{xs:X}{vs:List H}(h:evs C xs ρ σ=.ok vs aa)(hl:vs.length<=aB):ev C (.lst true xs) ρ σ=.ok (.fl vs) aa:=by
 rw[MQ,h,b0,nk hl]
theorem CG{ks:List Str}{vals:List H}{k:Str}(ha:ev C a ρ σ=.ok (.str k) aa)(hb:ev C b ρ aa=.ok y ao):ev C (.fdget ks vals a b) ρ σ=.ok ((j4 k (ks.zip vals)).getD y) ao:=by
 rw[MO,ha,b0,hb,b0];rfl
end
theorem al{a r:S}{ρ':aE}{σ':ac}(h:ex C n a ρ σ=.next ρ' σ'):ex C n (.cons a r) ρ σ=ex C n r ρ' σ':=by
 show(match ex C n a ρ σ with | .next ρ σ=>ex C n r ρ σ | o=>o)=_;rw[h]
theorem bn{a r:S}{v:H}{ρ':aE}{σ':ac}(h:ex C n a ρ σ=.ret v ρ' σ'):ex C n (.cons a r) ρ σ=.ret v ρ' σ':=by
 show(match ex C n a ρ σ with | .next ρ σ=>ex C n r ρ σ | o=>o)=_;rw[h]
theorem MV{a r:S}{ρ':aE}{σ':ac}(h:ex C n a ρ σ=.brk ρ' σ'):ex C n (.cons a r) ρ σ=.brk ρ' σ':=by
 show(match ex C n a ρ σ with | .next ρ σ=>ex C n r ρ σ | o=>o)=_;rw[h]
theorem bR{i:Nat}{x:X}{v:H}{σ':ac}(h:ev C x ρ σ=.ok v σ'):ex C n (.asg i x) ρ σ=.next (ρ.set i (some v)) σ':=by
 show(ev C x ρ σ).toS ρ _=_;rw[h];rfl
theorem di{x:X}{v:H}{σ':ac}(h:ev C x ρ σ=.ok v σ'):ex C n (.ret x) ρ σ=.ret v ρ σ':=by
 show(ev C x ρ σ).toS ρ _=_;rw[h];rfl
theorem gb{x:X}{σ':ac}(h:ev C x ρ σ=.ok .none σ'):ex C n (.expr x) ρ σ=.next ρ σ':=by
 show(ev C x ρ σ).toS ρ _=_;rw[h];rfl
theorem cB{c:X}{a b:S}{σ':ac}(h:tst C c ρ σ=.ok true σ'):ex C n (.ife c a b) ρ σ=ex C n a ρ σ':=by
 show(tst C c ρ σ).toS ρ _=_;rw[h];rfl
theorem xq{c:X}{a b:S}{σ':ac}(h:tst C c ρ σ=.ok false σ'):ex C n (.ife c a b) ρ σ=ex C n b ρ σ':=by
 show(tst C c ρ σ).toS ρ _=_;rw[h];rfl
theorem bU:ex C n .nil ρ σ=.next ρ σ:=rfl
theorem bD{c:X}{a:S}{σ':ac}(h:tst C c ρ σ=.ok false σ'):ex C n (.ife c a .nil) ρ σ=.next ρ σ':=(xq h).trans bU
theorem MX{b h:S}{eh:List Nat}{i:Nat}{o:c8}(e:ex C n b ρ σ=o)(ho:∀c ρ σ,o≠.exc c ρ σ):ex C n (.tryE b eh i h) ρ σ=o:=by
 show(match ex C n b ρ σ with
  | .exc c ρ σ=>bif C.rz then(if eh.contains c/\i<ρ.length then pG (ex C.inH n h (ρ.set i (some (.exc c))) σ)else c8.stuck)else .stuck
  | o=>o)=_
 rw[e]
 cases o <;> first | rfl | exact absurd rfl (ho _ _ _)
theorem MY{b h:S}{eh:List Nat}{i c:Nat}{ρ':aE}{σ':ac}(e:ex C n b ρ σ=.exc c ρ' σ')(hc:eh.contains c=true)(hi:i<ρ'.length)(aO:C.rz=true:=by first | rfl | assumption) :
  ex C n (.tryE b eh i h) ρ σ=pG (ex C.inH n h (ρ'.set i (some (.exc c))) σ'):=by
 show(match ex C n b ρ σ with
  | .exc c ρ σ=>bif C.rz then(if eh.contains c/\i<ρ.length then pG (ex C.inH n h (ρ.set i (some (.exc c))) σ)else c8.stuck)else .stuck
  | o=>o)=_
 exact e.symm▸aO.symm▸(az ⟨hc,hi⟩)
theorem pO{a r:S}{c:Nat}{ρ':aE}{σ':ac}(h:ex C n a ρ σ=.exc c ρ' σ'):ex C n (.cons a r) ρ σ=.exc c ρ' σ':=by
 show(match ex C n a ρ σ with | .next ρ σ=>ex C n r ρ σ | o=>o)=_;rw[h]
theorem C7{i c:Nat}{x:X}{σ':ac}(h:ev C x ρ σ=.exc c σ'):ex C n (.asg i x) ρ σ=.exc c ρ σ':=by
 show(ev C x ρ σ).toS ρ _=_;rw[h];rfl
section
variable {ip:H->aE->Option aE}{f:aE->ac->c8}{x:H}{xs:List H}{bQ eE:aE}{ao:ac}
theorem fN:ct none ip f [] ρ σ=.next ρ σ:=az trivial
theorem fv(hb:ip x ρ=some bQ)(h:f bQ σ=.next eE ao):ct none ip f (x::xs) ρ σ=ct none ip f xs eE ao:=by
 refine(az trivial).trans ?_;rw[hb];show qa _ (f bQ σ)=_;rw[h];rfl
theorem Nq(hb:ip x ρ=some bQ)(h:f bQ σ=.brk eE ao):ct none ip f (x::xs) ρ σ=.next eE ao:=by
 refine(az trivial).trans ?_;rw[hb];show qa _ (f bQ σ)=_;rw[h];rfl
theorem gc{i:Nat}{it:X}{body:S}{ys:List H}{aa:ac}{o:c8}(bO:evIt C it ρ σ=.ok (ys,none) aa)(h:ct none (dH i) (fun ρ σ=>ex C n body ρ σ) ys ρ aa=o)(aO:C.hd=false:=by first | rfl | assumption):ex C n (.for1 i it body) ρ σ=o:=by
 show(bif C.hd then c8.stuck else(evIt C it ρ σ).toS ρ _)=_;exact aO.symm▸bO.symm▸h
end
theorem Lz{P:gx}{d f:Nat}{vs:List H}{fn:bJ}(bw:P.fns[f]?=some fn)(hl:vs.length=fn.params) :
  bz P n (d+1) f vs σ=a5 (ex (fu P n 0 d) n fn.body (vs.map some++List.replicate (fn.slots-fn.params) none) σ):=by
 show(match P.fns[f]? with
  | some fn=>if vs.length=fn.params then
    match ex (fu P n 0 d) n fn.body (vs.map some++List.replicate (fn.slots-fn.params) none) σ with
    | .next _ σ=>ai.ok H.none σ
    | .ret v _ σ=>.ok v σ
    | .exc i _ σ=>.exc i σ
    | _=>.stuck
   else .stuck
  | none=>.stuck)=_
 rw[bw];dsimp only;rw[az hl];cases ex (fu P n 0 d) n fn.body (vs.map some++List.replicate (fn.slots-fn.params) none) σ <;> rfl
end
noncomputable def CC(d:Nat):bh:=fu PP topN 0 d
theorem cx{d f:Nat}{vs:List H}{σ:ac}{fn:bJ}(bw:PP.fns[f]?=some fn)(hl:vs.length=fn.params) :
  bz PP topN (d+1) f vs σ=a5 (ex (CC d) topN fn.body (vs.map some++List.replicate (fn.slots-fn.params) none) σ):=Lz bw hl
noncomputable def iA:List Nat:=("abcdefghijklmnopqrstuvwxyz" : Str).cps.toList
noncomputable def yB:List Nat:=("0123456789" : Str).cps.toList
structure gL(s:Str):Prop where
 pos:1<=s.length
 len:s.length<=8
 fst:∀c,s.cps.toList[0]?=some c->c∈iA
 all:∀c∈s.cps.toList,c∈iA\/c∈yB
noncomputable def pb(c:Nat):Bool:=iA.contains c||yB.contains c
noncomputable def iD(s:Str):Bool:=decide (1<=s.length)&&decide (s.length<=8)&&(s.cps.toList.take 1).all (fun c=>iA.contains c)&&s.cps.toList.all pb
theorem z9{s:Str}(h:iD s=true):gL s:=by
 simp only[iD,pb,el,im,fC,Bool.or_eq_true,mL]at h;refine⟨h.1.1.1,h.1.1.2,fun c hc=>?_,h.2⟩;refine h.1.2 c ?_
 cases hq:s.cps.toList with
 | nil=>rw[hq]at hc;cases hc
 | cons x r=>rw[hq]at hc;simp at hc;subst hc;(exact bi)
theorem Ik{s:Str}(h:gL s):iD s=true:=by
 simp only[iD,pb,el,im,fC,Bool.or_eq_true,mL];refine⟨⟨⟨h.pos,h.len⟩,fun c hc=>h.fst c ?_⟩,h.all⟩
 cases hq:s.cps.toList with
 | nil=>rw[hq]at hc;(exact nomatch hc)
 | cons x r=>rw[hq]at hc;simp at hc;simp[hc]
section
variable {d:Nat}{σ:ac}
theorem h0{i:Int}:bz PP topN (d+1) sd [.int i] σ=.ok (.bool (decide (0<=i)&&decide (i<=999999))) σ:=by
 rw[cx (fn:=uo) rfl rfl]
 have:ex (CC d) topN uo.body [some (.int i),none,none,none,none] σ=.ret (.bool (decide (0<=i)&&decide (i<=999999))) [some (.int i),none,none,none,none] σ:=
  bn (di (mS (oj (aa:=σ) rfl (oj (aa:=σ) rfl (oe (xf rfl rfl rfl))))))
 show a5 (ex (CC d) topN uo.body [some (.int i),none,none,none,none] σ)=_;rw[this];rfl
theorem SY{c:Nat}{y:Str}:cQ .notin (.str ⟨#[c]⟩) (.str y) σ=.ok (!(y.cps.toList.contains c)) σ:=rfl
theorem KO{α:Type}{xs:List α}{g:α->Bool}:db .all (.fl (xs.map fun x=>.bool (g x))) σ=.ok (.bool (xs.all g)) σ:=by
 have e:∀xs:List α,lT (xs.map fun x=>.bool (g x))=some (xs.map g):=by
  intro xs
  induction xs with
  | nil=>rfl
  | cons x xs ag =>
   show(lT (xs.map fun x=>.bool (g x))).map (g x::·)=_;rw[ag];rfl
 refine(sA (σ:=σ) (a:=.fl _) (l:=xs.map g) (g:=lT) (e xs)).trans ?_;rw[List.all_map];rfl
theorem wQ{C:bh}{ρ:aE}{α:Type}{t:Nat}{b9:List (Option Nat)}{elt it:X}{xs:List α}{w:α->H}{g:α->Bool}(bO:evIt C it ρ σ=.ok (xs.map w,none) σ)(hl:xs.length<=aB)
  (h:∀x∈xs,ev C elt ((cy b9 ρ).set t (some (w x))) σ=.ok (.bool (g x)) σ) (aO:C.hd=false:=by first | rfl | assumption):ev C (.b1 .all (.comp true t b9 elt (.k (.bool true)) it)) ρ σ=.ok (.bool (xs.all g)) σ:=by
 refine c4 (x:=.fl (xs.map fun x=>.bool (g x))) (aa:=σ) ?_ KO aO;rw[ky,aO,bO];show iS xs.length (dM none (fun x σ=>((ai.ok true σ).bind fun b σ=>if b=true then(ev C elt ((cy b9 ρ).set t (some x)) σ).bind fun v σ=>.ok (some v) σ else .ok none σ)) (xs.map w) σ) _=_
 have e:∀ys:List α,(∀x∈ys,ev C elt ((cy b9 ρ).set t (some (w x))) σ=.ok (.bool (g x)) σ)->dM none (fun x σ=>((ai.ok true σ).bind fun b σ=>if b=true then(ev C elt ((cy b9 ρ).set t (some x)) σ).bind fun v σ=>.ok (some v) σ else .ok none σ)) (ys.map w) σ=.ok (ys.map fun x=>.bool (g x)) σ:=by
  intro ys
  induction ys with
  | nil=>intro _;exact az trivial
  | cons y ys ag =>
   intro hy;refine(az trivial).trans ?_;dsimp only;rw[b0,az rfl,hy y bi,b0,b0];rw[ag fun x hx=>hy x (bI _ hx)];rfl
 exact(e xs h).symm▸(nk (by simpa using hl))
theorem L{s:Str}(cZ:s.length<=aB):bz PP topN (d+1) vb [.str s] σ=.ok (.bool (iD s)) σ:=by
 rw[cx (fn:=DH) rfl rfl];show a5 (ex (CC d) topN #v[ug,xL] [some (.str s),none,none,none,none,none,none] σ)=_
 have hsz:s.length=s.cps.toList.length:=by simp[Str.length]
 have bt:tst (CC d) (.or #v[(.not (.isinst (.v 0) .str)),(.not (.cmp2 (.k (.int 1)) .le (.b1 .len (.v 0)) .le (.k (.int 8)))),(.cmp (.sub (.v 0) (.k (.int 0))) .notin (.k (.str "abcdefghijklmnopqrstuvwxyz")))]) [some (.str s),none,none,none,none,none,none] σ =
   .ok (!(decide (1<=s.length)&&decide (s.length<=8))||!(s.cps.toList.take 1).all (fun c=>iA.contains c)) σ:=by
  refine ib (ja (aa:=σ) rfl (qD ((fV (Jx rfl (c4 rfl (len_str cZ)) rfl)).trans ?_) fun hq=>i9 ?_))
  ·rw[show decide ((1:Int)<=(s.length:Int))=decide (1<=s.length)from decide_eq_decide.mpr (by grind),show decide ((s.length:Int)<=8)=decide (s.length<=8)from decide_eq_decide.mpr (by grind)]
  ·simp only[Bool.not_eq_false',el,im]at hq
   cases hx:s.cps.toList with
   | nil=>rw[hsz,hx]at hq;(exact nomatch hq)
   | cons c r =>
    refine(ch (cY rfl rfl (Ju (c:=c) (i:=0) cZ ((fm _)) (by rw[hx];rfl))) rfl SY).trans ?_;show ai.ok (!iA.contains c) σ=_;simp
 have V:ex (CC d) topN xL [some (.str s),none,none,none,none,none,none] σ=.ret (.bool (s.cps.toList.all pb)) [some (.str s),none,none,none,none,none,none] σ:=by
  refine di (wQ (xs:=s.cps.toList) (w:=fun c=>.str ⟨#[c]⟩) (g:=pb) rfl (hsz▸cZ) fun c hc=>?_);rw[MR,tT];show(if iA.contains c=true then ai.ok (H.bool (iA.contains c)) σ else _)=_;unfold pb
  cases q:iA.contains c with
  | true=>rfl
  | false=>rfl
 cases hq:(!(decide (1<=s.length)&&decide (s.length<=8))||!(s.cps.toList.take 1).all (fun c=>iA.contains c))with
 | true =>
  rw[hq]at bt;rw[bn (a:=ug) ((cB bt).trans rfl)]
  have:iD s=false:=by
   unfold iD;revert hq;cases(decide (1<=s.length)&&decide (s.length<=8)) <;> cases((s.cps.toList.take 1).all fun c=>iA.contains c) <;> simp
  rw[this];rfl
 | false =>
  rw[hq]at bt;rw[al (a:=ug) (bD bt),bn V]
  have:iD s=s.cps.toList.all pb:=by
   unfold iD;revert hq;cases(decide (1<=s.length)&&decide (s.length<=8)) <;> cases((s.cps.toList.take 1).all fun c=>iA.contains c) <;> simp
  rw[this];rfl
end
noncomputable def nn(l:List Str)(m:Nat):Bool:=(decide (1<=l.length)&&decide (l.length<=m))&&l.all iD
section
variable {d:Nat}{σ:ac}
theorem tM{a b:Nat}:decide ((a:Int)<=(b:Int))=decide (a<=b):=decide_eq_decide.mpr (by grind)
theorem O{l:List Str}{m:Nat}(h:∀n∈l,n.length<=aB)(hl:l.length<=aB):bz PP topN (d+2) ma [.tup (l.map .str),.int m] σ=.ok (.bool (nn l m)) σ:=by
 have fP:(l.map H.str).length<=aB:=by rw[bc];exact hl
 rw[cx (fn:=ud) rfl rfl]
 have:ex (CC (d+1)) topN ud.body [some (.tup (l.map .str)),some (.int m),none,none,none,none] σ=.ret (.bool (nn l m)) [some (.tup (l.map .str)),some (.int m),none,none,none,none] σ:=by
  refine bn (di (mS (oj rfl (xe ?_ fun J=>oe ?_))))
  ·refine(xf (i:=((1:Nat):Int)) (k:=(m:Int)) rfl (c4 rfl (vq fP)) rfl).trans ?_;rw[bc,tM,tM]
  ·exact wQ (xs:=l) (w:=.str) (g:=iD) rfl hl fun n hn=>dN rfl (L (h n hn))
 show a5 (ex (CC (d+1)) topN ud.body [some (.tup (l.map .str)),some (.int m),none,none,none,none] σ)=_;rw[this];rfl
theorem KN:∀l:List Str,kn (l.map .str)=some l:=by
 intro l
 induction l with
 | nil =>
  exact rfl
 | cons x l ag =>
  show(kn (l.map .str)).map (x::·)=_;rw[ag];rfl
theorem Mc:∀(l a:List Str),a.Nodup->(l.foldl (fun a x=>if a.any (· == x)then a else a++[x]) a).length<=a.length+l.length ∧
  ((l.foldl (fun a x=>if a.any (· == x)then a else a++[x]) a).length=a.length+l.length ↔ (a++l).Nodup):=by
 intro l
 induction l with
 | nil =>
  intro a h;simpa using h
 | cons x l ag =>
  intro a h;rw[iO]
  cases hx:a.any (· == x)with
  | true =>
   rw[az rfl];refine aP (ag a h) fun L O=>?_;rw[dv];refine⟨(Nat.le_succ_of_le (by assumption)),⟨fun q=>absurd q (by grind),fun q=>?_⟩⟩;refine aw (List.any_eq_true.mp hx) fun y hy e=>?_
   have e:y=x:=by simpa using e
   subst e;rw[jo]at q;exact absurd rfl (q.2.2 y hy y ((bi)))
  | false =>
   rw[aY (by trivial)]
   have hn:(a++[x]).Nodup:=by
    rw[jo];refine⟨h,by simp,fun y hy z bA e=>?_⟩;rw[dt]at bA;subst bA;subst e;rw[List.any_eq_false]at hx;exact hx y hy (by simp)
   refine aP (ag (a++[x]) hn) fun L O=>?_;rw[da,List.length_singleton]at L O;rw[dv];refine⟨by grind,?_⟩;rw[ey,List.singleton_append]at O;rw[<- O]
   (grind)
theorem Md{l:List Str}:(gD l).length=l.length ↔ l.Nodup:=by
 have:=(Mc l [] (by trivial)).2;rw[List.length_nil,Nat.zero_add,List.nil_append]at this;exact this
noncomputable def jC(l:List Str):Bool:=(gD l).length == l.length
theorem JX{l:List Str}:jC l=true ↔ l.Nodup:=by
 unfold jC;rw[e7];exact Md
theorem Rq{v:H}{l:List Str}(hv:d0 σ v=some (l.map .str))(hl:l.length<=1000):db .lenset v σ=.ok (.int (gD l).length) σ:=by
 have e:db .lenset v σ=match(d0 σ v).bind kn with
  | some l=>if l.length<=1000 then .ok (.int (gD l).length) σ else .stuck
  | none=>.stuck:=by cases v <;> rfl
 rw[e,hv]
 show(match kn (l.map .str)with
  | some l=>if l.length<=1000 then ai.ok (H.int (gD l).length) σ else .stuck
  | none=>.stuck)=_
 rw[KN];dsimp only;rw[az hl]
theorem HN{v:H}{xs:List H}(hv:d0 σ v=some xs)(hn:∀s,v≠.str s)(hl:xs.length<=aB):db .len v σ=.ok (.int xs.length) σ:=by
 have e:db .len v σ=jy (fun xs=>if xs.length<=aB then .ok (.int xs.length) σ else .stuck) v σ:=by cases v <;> first | rfl | exact absurd rfl (hn _)
 rw[e,qk hv,az hl]
theorem ar{v:H}{l:List Str}(hv:d0 σ v=some (l.map .str))(hn:∀s,v≠.str s)(hl:l.length<=1000):bz PP topN (d+1) oX [v] σ=.ok (.bool (jC l)) σ:=by
 rw[cx (fn:=ue) rfl rfl]
 have:ex (CC d) topN ue.body [some v,none,none] σ=.ret (.bool (jC l)) [some v,none,none] σ:=by
  refine bn (di ?_);refine iU (q:=jC l) (c4 rfl (Rq hv hl)) (c4 rfl (HN hv hn (by rw[bc];exact aF hl (by decide)))) ?_;rw[kx,bc];unfold jC;congr 1;rw[Bool.eq_iff_iff];simp only[e7];(grind)
 show a5 (ex (CC d) topN ue.body [some v,none,none] σ)=_;rw[this];rfl
inductive cR where
 | word (w:Str)
 | fixed (v:Int)
noncomputable def cR.pv:cR->H
 | .word w=>.tup [.str w]
 | .fixed v=>.tup [.str "fixed",.int v]
inductive fj:cR->Nat->Nat->Prop where
 | sum (n g:Nat):fj (.word "sum") n g
 | times (n g:Nat):fj (.word "times") n g
 | least (n g:Nat):fj (.word "least") n g
 | most (n g:Nat):fj (.word "most") n g
 | later (g:Nat):fj (.word "later") 1 g
 | way:fj (.word "way") 2 2
 | choose (g:Nat):fj (.word "choose") 3 g
 | fixed (v:Int) (n g:Nat):0<=v->v<=999999->fj (.fixed v) n g
noncomputable def mu:cR->Nat->Nat->Bool
 | .fixed v,_,_=>decide (0<=v)&&decide (v<=999999)
 | .word w,n,g=>if w == ("fixed" : Str)then false else if w == ("later" : Str)then n == 1 else if w == ("way" : Str)then(n == 2&&g == 2)else if w == ("choose" : Str)then n == 3 else
   [("sum" : Str), "times", "least", "most"].any fun y=>y == w
set_option tactic.hygienic true in
theorem Ug{r:cR}{n g:Nat}(h:mu r n g=true):fj r n g:=by
 cases r with
 | fixed v =>
  simp only[mu,el,im]at h;exact .fixed v n g h.1 h.2
 | word w =>
  simp only[mu]at h
  split at h
  ·cases h
  ·split at h
   ·rename_i q;rw[e7]at q h;subst q;subst h;exact .later g
   ·split at h
    ·rename_i q;rw[el]at h;rw[e7]at q h;refine aP h fun L O=>?_;rw[e7]at O;subst q;subst L;subst O;exact .way
    ·split at h
     ·rename_i q;rw[e7]at q h;subst q;subst h;exact .choose g
     ·simp only[List.any_cons,List.any_nil,Bool.or_false,Bool.or_eq_true,e7]at h
      rcases h with q | q | q | q
      ·rw[<- q];exact .sum n g
      ·rw[<- q];exact .times n g
      ·rw[<- q];exact .least n g
      ·rw[<- q];exact .most n g
theorem Uf{r:cR}{n g:Nat}(h:fj r n g):mu r n g=true:=by
 cases h with
 | fixed v n g q1 q2=>simp[mu,q1,q2]
 | _=>rfl
theorem tA{n k:Nat}:((n:Int) == ((k:Nat):Int))=(n == k):=by
 rw[Bool.eq_iff_iff];simp only[e7];(grind)
theorem R2{w:Str}:cQ .isin (.str w) (.tup [.str "sum",.str "times",.str "least",.str "most"]) σ=.ok ([("sum" : Str), "times", "least", "most"].any fun y=>y == w) σ:=rfl
theorem aU{r:cR}{n g:Nat}:bz PP topN (d+2) Hc [r.pv,.int n,.int g] σ=.ok (.bool (mu r n g)) σ:=by
 rw[cx (fn:=ui) rfl rfl]
 cases r with
 | fixed v =>
  have:ex (CC (d+1)) topN ui.body [some (.tup [.str "fixed",.int v]),some (.int n),some (.int g),none,none,none,none,none,none] σ=.ret (.bool (mu (.fixed v) n g)) [some (.tup [.str "fixed",.int v]),some (.int n),some (.int g),none,none,none,none,none,none] σ:=by
   refine(al (a:=uj) (ρ':=[some (.tup [.str "fixed",.int v]),some (.int n),some (.int g),none,none,none,none,none,none]) (σ':=σ) rfl).trans (bn (a:=rx) ?_);refine(cB (σ':=σ) rfl).trans (bn (di ?_));exact mS (oj rfl (oe (dN rfl h0)))
  show a5 (ex (CC (d+1)) topN ui.body [some (.tup [.str "fixed",.int v]),some (.int n),some (.int g),none,none,none,none,none,none] σ)=_;rw[this];rfl
 | word w =>
  show a5 (ex (CC (d+1)) topN #v[uj,rx,xP,uk,ul,um,xQ] [some (.tup [.str w]),some (.int n),some (.int g),none,none,none,none,none,none] σ)=_;have ci:∀k:Str,tst (CC (d+1)) (.cmp (.sub (.v 0) (.k (.int 0))) .eq (.k (.str k))) [some (.tup [.str w]),some (.int n),some (.int g),none,none,none,none,none,none] σ=.ok (w == k) σ:=fun k=>rfl;rw[al (a:=uj) (ρ':=[some (.tup [.str w]),some (.int n),some (.int g),none,none,none,none,none,none]) (σ':=σ) rfl];simp only[mu]
  cases L:w == ("fixed" : Str)with
  | true =>
   rw[bn (a:=rx) ((cB (σ':=σ) (by rw[ci,L])).trans (bn (di (mS (v:=.ok (.bool false) σ) rfl))))];rfl
  | false =>
   rw[al (a:=rx) (bD (σ':=σ) (by rw[ci,L]))];rw[al (a:=xP) (ρ':=[some (.tup [.str w]),some (.int n),some (.int g),none,none,none,none,none,none]) (σ':=σ) rfl]
   cases O:w == ("later" : Str)with
   | true =>
    rw[bn (a:=uk) ((cB (σ':=σ) (by rw[ci,O])).trans (bn (di (iU (x:=.int n) (y:=.int ((1:Nat):Int)) (aa:=σ) (ao:=σ) rfl rfl (kx.trans (by rw[tA]))))))];rfl
   | false =>
    rw[al (a:=uk) (bD (σ':=σ) (by rw[ci,O]))]
    cases ar:w == ("way" : Str)with
    | true =>
     rw[bn (a:=ul) ((cB (σ':=σ) (by rw[ci,ar])).trans (bn (di (mS (xe (q:=n == 2) (p:=g == 2) (iU (x:=.int n) (y:=.int ((2:Nat):Int)) (aa:=σ) (ao:=σ) rfl rfl (kx.trans (by rw[tA]))) fun J=>oe (iU (x:=.int g) (y:=.int ((2:Nat):Int)) (aa:=σ) (ao:=σ) rfl rfl (kx.trans (by rw[tA]))))))))];rfl
    | false =>
     rw[al (a:=ul) (bD (σ':=σ) (by rw[ci,ar]))]
     cases aU:w == ("choose" : Str)with
     | true =>
      rw[bn (a:=um) ((cB (σ':=σ) (by rw[ci,aU])).trans (bn (di (iU (x:=.int n) (y:=.int ((3:Nat):Int)) (aa:=σ) (ao:=σ) rfl rfl (kx.trans (by rw[tA]))))))];rfl
     | false =>
      rw[al (a:=um) (bD (σ':=σ) (by rw[ci,aU]))];rw[bn (a:=xQ) (di (iU (x:=.str w) (y:=.tup [.str "sum",.str "times",.str "least",.str "most"]) (aa:=σ) (ao:=σ) rfl rfl R2))];rfl
end
structure aq where
 name:Str
 rule:cR
 needs:List Str
 gives:List Str
noncomputable def aq.pv(s:aq):H:=.tup [.str s.name,s.rule.pv,.tup (s.needs.map .str),.tup (s.gives.map .str)]
structure hB(s:aq):Prop where
 name:gL s.name
 needs:∀n∈s.needs,gL n
 needs1:1<=s.needs.length
 needs4:s.needs.length<=4
 gives:∀n∈s.gives,gL n
 gives1:1<=s.gives.length
 gives3:s.gives.length<=3
 unlike:s.gives.Nodup
 rule:fj s.rule s.needs.length s.gives.length
structure d2(p:List aq):Prop where
 pos:1<=p.length
 most:p.length<=20
 steps:∀s∈p,hB s
 names:(p.map (·.name)).Nodup
 gives:(p.flatMap (·.gives)).Nodup
noncomputable def bk(p:List aq):H:=.tup (p.map aq.pv)
noncomputable def nB(s:aq):Bool:=iD s.name&&(nn s.needs 4&&(nn s.gives 3&&(jC s.gives&&mu s.rule s.needs.length s.gives.length)))
noncomputable def sI(p:List aq):Bool:=(decide (1<=p.length)&&decide (p.length<=20))&&(p.all nB&&(jC (p.map (·.name))&&jC (p.flatMap (·.gives))))
theorem Ip{l:List Str}{m:Nat}:nn l m=true ↔ (∀n∈l,gL n)/\1<=l.length/\l.length<=m:=by
 simp only[nn,el,im,fC];exact⟨fun h=>⟨fun n hn=>z9 (h.2 n hn),h.1⟩,fun h=>⟨h.2,fun n hn=>Ik (h.1 n hn)⟩⟩
theorem Jk{s:aq}:nB s=true ↔ hB s:=by
 simp only[nB,el,Ip,JX];constructor
 ·rintro⟨a,b,c,e,f⟩
  exact⟨z9 a,b.1,b.2.1,b.2.2,c.1,c.2.1,c.2.2,e,Ug f⟩
 ·intro h;exact⟨Ik h.name,⟨h.needs,h.needs1,h.needs4⟩,⟨h.gives,h.gives1,h.gives3⟩,h.unlike,Uf h.rule⟩
theorem Ts{p:List aq}:sI p=true ↔ d2 p:=by
 simp only[sI,el,JX,im,fC,Jk];constructor
 ·rintro⟨⟨a,b⟩,c,e,f⟩
  exact⟨a,b,c,e,f⟩
 ·intro h;exact⟨⟨h.pos,h.most⟩,h.steps,h.names,h.gives⟩
structure tg(s:aq):Prop where
 name:s.name.length<=aB
 needs:∀n∈s.needs,n.length<=aB
 needsl:s.needs.length<=aB
 gives:∀n∈s.gives,n.length<=aB
 givesl:s.gives.length<=aB
section
variable {d:Nat}{σ:ac}
theorem vo{xs:List Str}(h:xs.length<=aB):db .len (.tup (xs.map .str)) σ=.ok (.int xs.length) σ:=by
 rw[vq (by rw[bc];exact h),bc]
theorem Lj{a b:Bool}:(!a||!b)=!(a&&b):=by cases a <;> cases b <;> rfl
theorem dj{s:aq}(h:tg s):bz PP topN (d+3) Hd [s.pv] σ=.ok (.bool (nB s)) σ:=by
 rw[cx (fn:=DM) rfl rfl];show a5 (ex (CC (d+2)) topN #v[un,pQ,xR] [some s.pv,none,none,none,none,none,none,none,none,none] σ)=_
 have bt:tst (CC (d+2)) (.or #v[(.not (.isinst (.v 0) .tuple)),(.cmp (.b1 .len (.v 0)) .ne (.k (.int 4))),(.not (.call vb #v[(.sub (.v 0) (.k (.int 0)))]))]) [some s.pv,none,none,none,none,none,none,none,none,none] σ=.ok (!iD s.name) σ:=
  ib (ja (aa:=σ) rfl (ja (aa:=σ) rfl (i9 (fV (iI (dN (x:=.str s.name) (aa:=σ) rfl (L h.name)))))))
 unfold nB
 cases g9:iD s.name with
 | false =>
  rw[g9]at bt;rw[bn (a:=un) ((cB bt).trans rfl)];rfl
 | true =>
  rw[g9]at bt;rw[al (a:=un) (bD bt)]
  cases q1:nn s.needs 4 with
  | false =>
   have V:tst (CC (d+2)) (.or #v[(.not (.call ma #v[(.sub (.v 0) (.k (.int 2))),(.k (.int 4))])),(.not (.call ma #v[(.sub (.v 0) (.k (.int 3))),(.k (.int 3))])),(.not (.call oX #v[(.sub (.v 0) (.k (.int 3)))]))]) [some s.pv,none,none,none,none,none,none,none,none,none] σ=.ok true σ:=
    ib (JA (fV (q:=false) (iI (hJ (x:=.tup (s.needs.map .str)) (y:=.int ((4:Nat):Int)) (aa:=σ) (ao:=σ) rfl rfl ((O h.needs h.needsl).trans (by rw[q1]))))))
   rw[bn (a:=pQ) ((cB V).trans rfl)];rfl
  | true =>
   cases q2:nn s.gives 3 with
   | false =>
    have V:tst (CC (d+2)) (.or #v[(.not (.call ma #v[(.sub (.v 0) (.k (.int 2))),(.k (.int 4))])),(.not (.call ma #v[(.sub (.v 0) (.k (.int 3))),(.k (.int 3))])),(.not (.call oX #v[(.sub (.v 0) (.k (.int 3)))]))]) [some s.pv,none,none,none,none,none,none,none,none,none] σ=.ok true σ:=
     ib (ja (fV (q:=true) (iI (hJ (x:=.tup (s.needs.map .str)) (y:=.int ((4:Nat):Int)) (aa:=σ) (ao:=σ) rfl rfl ((O h.needs h.needsl).trans (by rw[q1]))))) (JA (fV (q:=false) (iI (hJ (x:=.tup (s.gives.map .str)) (y:=.int ((3:Nat):Int)) (aa:=σ) (ao:=σ) rfl rfl ((O h.gives h.givesl).trans (by rw[q2])))))))
    rw[bn (a:=pQ) ((cB V).trans rfl)];rfl
   | true =>
    have g3:=(Ip.mp q2).2.2
    have V:tst (CC (d+2)) (.or #v[(.not (.call ma #v[(.sub (.v 0) (.k (.int 2))),(.k (.int 4))])),(.not (.call ma #v[(.sub (.v 0) (.k (.int 3))),(.k (.int 3))])),(.not (.call oX #v[(.sub (.v 0) (.k (.int 3)))]))]) [some s.pv,none,none,none,none,none,none,none,none,none] σ=.ok (!jC s.gives) σ:=
     ib (ja (fV (q:=true) (iI (hJ (x:=.tup (s.needs.map .str)) (y:=.int ((4:Nat):Int)) (aa:=σ) (ao:=σ) rfl rfl ((O h.needs h.needsl).trans (by rw[q1]))))) (ja (fV (q:=true) (iI (hJ (x:=.tup (s.gives.map .str)) (y:=.int ((3:Nat):Int)) (aa:=σ) (ao:=σ) rfl rfl ((O h.gives h.givesl).trans (by rw[q2])))))
      (i9 (fV (iI (dN (x:=.tup (s.gives.map .str)) (aa:=σ) rfl (ar rfl (fun J q=>by cases q) (aF g3 (by decide)))))))))
    cases q3:jC s.gives with
    | false =>
     rw[q3]at V;rw[bn (a:=pQ) ((cB V).trans rfl)];rfl
    | true =>
     rw[q3]at V;rw[al (a:=pQ) (bD V)];rw[bn (a:=xR) (di (lV (x:=s.rule.pv) (aa:=σ) rfl (c4 (x:=.tup (s.needs.map .str)) (aa:=σ) rfl (vo h.needsl)) (c4 (x:=.tup (s.gives.map .str)) (aa:=σ) rfl (vo h.givesl)) aU))];rfl
theorem F4{pl:H}{dY:ac}{d:Nat}:∀(p:List aq) (y:Option H) (acc:List Str),acc.length+3*p.length<=1000->(∀s∈p,s.gives.length<=3) ->
  ∃a3,ct none (dH 1) (fun ρ σ=>ex (CC d) topN DL ρ σ) (p.map aq.pv) [some pl,y,some (.ref dY.length),none,none,none,none,none,none] (dY++[.lst (acc.map .str)]) =
   .next [some pl,a3,some (.ref dY.length),none,none,none,none,none,none] (dY++[.lst ((acc++p.flatMap (·.gives)).map .str)])
 | [],y,acc,_,_=>⟨y,by simpa using fN⟩
 | s::p,y,acc,h,hs=>by
  have hg:=hs s ((bi));obtain⟨a3,ag⟩:=F4 (pl:=pl) (dY:=dY) (d:=d) p (some s.pv) (acc++s.gives) (by rw[da];rw[dv]at h;(grind)) fun t a1=>hs t (bI _ a1);refine⟨a3,(fv (bQ:=[some pl,some s.pv,some (.ref dY.length),none,none,none,none,none,none]) (eE:=[some pl,some s.pv,some (.ref dY.length),none,none,none,none,none,none]) (ao:=dY++[.lst ((acc++s.gives).map .str)]) rfl ?_).trans (ag.trans (by simp[k8]))⟩
  have iY:(dY++[aS.lst (acc.map .str)])[dY.length]?=some (.lst (acc.map .str)):=by simp
  refine(al (gb (gW (m:=.extend) (x:=.ref dY.length) (aa:=dY++[.lst (acc.map .str)]) (ao:=dY++[.lst (acc.map .str)]) rfl ?_ (y:=.tup (s.gives.map .str)) rfl ?_))).trans bU
  ·show g4 (.ref dY.length) _=true;unfold g4;dsimp only;rw[iY]
  ·show kz (.ref dY.length) (.tup (s.gives.map .str)) _=_;unfold kz;dsimp only;rw[iY];dsimp only;rw[az (by rw[bc,bc,eM];(grind))];simp
theorem Nk:∀(q:List aq),(∀s∈q,s.gives.length<=3)->(q.flatMap (·.gives)).length<=3*q.length:=by
 intro q
 induction q with
 | nil =>
  intro _
  (trivial)
 | cons s q ag =>
  intro hs;have L:=ag fun t a1=>hs t (bI _ a1);have O:=hs s ((bi));rw[k8,da,dv];(grind)
theorem Gd{p:List aq}(h:∀s∈p,tg s)(hl:p.length<=aB):∃τ,bz PP topN (d+4) vc [bk p] σ=.ok (.bool (sI p)) (σ++τ):=by
 have fP:(p.map aq.pv).length<=aB:=by rw[bc];exact hl
 have cZ:∀{σ:ac},db .len (bk p) σ=.ok (.int p.length) σ:=fun{σ}=>by
  show db .len (.tup (p.map aq.pv)) σ=_;rw[vq fP,bc]
 rw[cx (fn:=DI) rfl rfl];show ∃τ,a5 (ex (CC (d+3)) topN #v[uh,xM,xN,xO] [some (bk p),none,none,none,none,none,none,none,none] σ)=_
 have bt:tst (CC (d+3)) (.or #v[(.not (.isinst (.v 0) .tuple)),(.not (.cmp2 (.k (.int 1)) .le (.b1 .len (.v 0)) .le (.k (.int 20)))),(.not (.b1 .all DJ))]) [some (bk p),none,none,none,none,none,none,none,none] σ=.ok (!(decide (1<=p.length)&&decide (p.length<=20))||!p.all nB) σ:=by
  refine ib (ja (aa:=σ) rfl (qD ((fV (Jx (i:=((1:Nat):Int)) (k:=((20:Nat):Int)) rfl (c4 rfl cZ) rfl)).trans (by rw[tM,tM])) fun J=>i9 (fV (Vl (wQ (xs:=p) (w:=aq.pv) (g:=nB) rfl hl fun s hs=>?_)))));exact dN rfl (dj (h s hs))
 rw[Lj]at bt;unfold sI;rw[<- Bool.and_assoc]
 cases g9:((decide (1<=p.length)&&decide (p.length<=20))&&p.all nB)with
 | false =>
  rw[g9]at bt;exact⟨[],by rw[bn (a:=uh) ((cB bt).trans rfl),List.append_nil];rfl⟩
 | true =>
  rw[g9]at bt;simp only[el,im,fC,Jk]at g9;obtain⟨⟨bj,Tj⟩,hs⟩:=g9
  have V:ex (CC (d+3)) topN xM [some (bk p),none,none,none,none,none,none,none,none] σ=.next [some (bk p),none,some (.ref σ.length),none,none,none,none,none,none] (σ++[.lst []]):=rfl
  obtain⟨a3,aj⟩:=F4 (pl:=bk p) (dY:=σ) (d:=d+3) p none [] (by simp;(grind)) fun s hq=>(hs s hq).gives3
  have iq:ex (CC (d+3)) topN xN [some (bk p),none,some (.ref σ.length),none,none,none,none,none,none] (σ++[.lst []])=.next [some (bk p),a3,some (.ref σ.length),none,none,none,none,none,none] (σ++[.lst ((p.flatMap (·.gives)).map .str)]):=
   gc (ys:=p.map aq.pv) (aa:=σ++[.lst []]) rfl aj
  have OX:(p.flatMap (·.gives)).length<=60:=by
   have L:=Nk p fun s hq=>(hs s hq).gives3
   (grind)
  have bF:ex (CC (d+3)) topN xO [some (bk p),a3,some (.ref σ.length),none,none,none,none,none,none] (σ++[.lst ((p.flatMap (·.gives)).map .str)])=.ret (.bool (jC (p.map (·.name))&&jC (p.flatMap (·.gives)))) [some (bk p),a3,some (.ref σ.length),none,none,none,none,none,none] (σ++[.lst ((p.flatMap (·.gives)).map .str)]):=by
   have iY:(σ++[aS.lst ((p.flatMap (·.gives)).map .str)])[σ.length]?=some (.lst ((p.flatMap (·.gives)).map .str)):=by simp
   have cr:ev (CC (d+3)) DK [some (bk p),a3,some (.ref σ.length),none,none,none,none,none,none] (σ++[.lst ((p.flatMap (·.gives)).map .str)])=.ok (.fl ((p.map (·.name)).map .str)) (σ++[.lst ((p.flatMap (·.gives)).map .str)]):=by
    refine(mQ (fun x=>match x with | .tup (.str n::_)=>.str n | _=>.none) (xs:=p.map aq.pv) rfl fP fun x hx=>?_).trans ?_
    ·refine aw (cK.mp hx) fun s hs ae=>?_;obtain rfl:=ae;rfl
    ·rw[hI,hI];rfl
   refine di (mS (xe (dN cr (ar rfl (fun J q=>by cases q) (by rw[bc];exact aF Tj (by decide)))) fun J=>(oe (dN rfl (ar ?_ (fun J q=>by cases q) (aF OX (by decide)))))));unfold d0;dsimp only;rw[iY]
  refine⟨[.lst ((p.flatMap (·.gives)).map .str)],?_⟩;rw[al (a:=uh) (bD bt),al V,al iq,bn bF];rfl
theorem gd{p:List aq}(h:∀s∈p,tg s)(hl:p.length<=aB):∃σ',bz PP topN (d+4) vc [bk p] σ=.ok (.bool (sI p)) σ':=let⟨_,e⟩:=Gd h hl;⟨_,e⟩
end
section
variable {d:Nat}{σ:ac}{C:bh}{ρ:aE}
theorem qr{n:Nat}(h:n<=100){a:X}(ha:ev C a ρ σ=.ok (.int n) σ):evIt C (.range1 a) ρ σ=.ok (cF 0 1 n,none) σ:=by
 rw[xm,ha,b0];show(if 0<=(n:Int)/\(n:Int)<=aB then ai.ok (cF 0 1 (n:Int).toNat,none) σ else .stuck)=_;rw[az ⟨(fm _),by rw[eM];(exact Int.ofNat_le.mpr (aF (by assumption) (by decide)))⟩];rfl
theorem AE{n:Nat}{x:H}(h:x∈cF 0 1 n):∃i:Nat,i<n/\x=.int i:=by
 refine aw (cK.mp h) fun i hi ae=>?_;obtain rfl:=ae;exact⟨i,List.mem_range.mp hi,by simp⟩
theorem mx{ws:List Str}(h:ws.length<=100):(ws.map H.str).length<=aB:=by rw[bc];exact aF h (by decide)
theorem Tt{p:List aq}(hl:p.length<=20):(p.map aq.pv).length<=aB:=by rw[bc];exact aF hl (by decide)
end
section
variable {d:Nat}{σ:ac}{C:bh}{ρ:aE}
theorem uK{l:List Int}(hl:l.length<=63){k:Nat}:bz PP topN (d+1) g0 [.fl (l.map .int),.int k] σ=.ok (.int (l.getD k 0)) σ:=by
 rw[cx (fn:=ry) rfl rfl]
 have fP:(l.map H.int).length<=aB:=by rw[bc];exact aF hl (by decide)
 have cZ:db .len (.fl (l.map .int)) σ=.ok (.int l.length) σ:=by rw[vp fP,bc]
 show a5 (ex (CC d) topN ry.body [some (.fl (l.map .int)),some (.int k),none] σ)=_;by_cases h:k<l.length
 ·have:ex (CC d) topN ry.body [some (.fl (l.map .int)),some (.int k),none] σ=.ret (.int (l.getD k 0)) [some (.fl (l.map .int)),some (.int k),none] σ:=by
   refine bn ((cB (σ':=σ) (ch (x:=.int k) (aa:=σ) rfl (c4 (x:=.fl (l.map .int)) (aa:=σ) rfl cZ) ?_)).trans (bn (di (cY (x:=.fl (l.map .int)) (y:=.int k) (aa:=σ) (ao:=σ) rfl rfl (kO fP ((fm _)) ?_)))))
   ·rw[lt_int,ed ((d3.mpr (by assumption)))]
   ·simp[h]
  rw[this];rfl
 ·have:ex (CC d) topN ry.body [some (.fl (l.map .int)),some (.int k),none] σ=.ret (.int 0) [some (.fl (l.map .int)),some (.int k),none] σ:=by
   refine(al (ρ':=[some (.fl (l.map .int)),some (.int k),none]) (σ':=σ) (bD (σ':=σ) (ch (x:=.int k) (aa:=σ) rfl (c4 (x:=.fl (l.map .int)) (aa:=σ) rfl cZ) ?_))).trans rfl;rw[lt_int,gR ((fun q=>(by assumption:¬_) (d3.mp q)))]
  have e:l.getD k 0=0:=by simp[List.getD,Nat.not_lt.mp h]
  rw[this,e];rfl
noncomputable def d8(p:Int):Int:=(p*48271+11)%2147483647*((p*48271+11)%2147483647)%2147483629
theorem ll{p:Int}:bz PP topN (d+1) i2 [.int p] σ=.ok (.int (d8 p)) σ:=by
 rw[cx (fn:=uw) rfl rfl]
 have:ex (CC d) topN uw.body [some (.int p),none] σ=.ret (.int (d8 p)) [some (.int p),some (.int ((p*48271+11)%2147483647))] σ:=by
  refine(al (ρ':=[some (.int p),some (.int ((p*48271+11)%2147483647))]) (σ':=σ) (bR (cz (cz (cz (x:=.int p) (y:=.int 48271) (aa:=σ) (ao:=σ) rfl rfl (mul_int (.inr (by decide)))) (y:=.int 11) (ao:=σ) rfl add_int) (y:=.int 2147483647) (ao:=σ) rfl (gq (by decide))))).trans (bn (di (cz (cz (x:=.int ((p*48271+11)%2147483647)) (y:=.int ((p*48271+11)%2147483647)) (aa:=σ) (ao:=σ) rfl rfl (mul_int (.inl ?_))) (y:=.int 2147483629) (ao:=σ) rfl (gq (by decide)))));have L:=eI (p*48271+11) (show(2147483647:Int)≠0 by decide);have O:=fA (p*48271+11) (show(0:Int)<2147483647 by decide);refine aJ (iN L) fun w hw=>?_;rw[hw]at O ⊢;exact dw (d3.mp O) (by decide)
 show a5 (ex (CC d) topN uw.body [some (.int p),none] σ)=_;rw[this];rfl
theorem oG{p a b:Int}(ha:0<a)(Ol:a<1073741824)(hb:0<b){x:X}(hx:ev C x ρ σ=.ok (.int p) σ):ev C (.bin .mod (.bin .fdiv x (.k (.int a))) (.k (.int b))) ρ σ=.ok (.int (p/a%b)) σ:=
 cz (cz hx (y:=.int a) (ao:=σ) rfl (M7 ha Ol)) (y:=.int b) (ao:=σ) rfl (gq hb)
theorem yN{p:Int}:∃v,0<=v/\v<=999999/\∀{d:Nat} {σ:ac},bz PP topN (d+1) si [.int p] σ=.ok (.int v) σ:=by
 have ni:∀{d:Nat} {σ:ac} (c:Int),tst (CC d) (.cmp (.bin .mod (.v 0) (.k (.int 4))) .eq (.k (.int c))) [some (.int p)] σ=.ok (p%4 == c) σ:=fun{d σ} c =>
  ch rfl (y:=.int c) (ao:=σ) rfl kx
 have gH:=eI (p/4) (show(4:Int)≠0 by decide);have n1:=fA (p/4) (show(0:Int)<4 by decide)
 have cs:∀{d:Nat} {σ:ac} {v:Int},ex (CC d) topN uE.body [some (.int p)] σ=.ret (.int v) [some (.int p)] σ->bz PP topN (d+1) si [.int p] σ=.ok (.int v) σ:=fun{d σ v} h=>by
  rw[cx (fn:=uE) rfl rfl];show a5 (ex (CC d) topN uE.body [some (.int p)] σ)=_;rw[h];rfl
 by_cases h0:p%4=0
 ·have hx:∃v,0<=v/\v<=999999/\([H.int 0,.int 0,.int 1,.int 999999])[(p/4%4).toNat]?=some (.int v):=by
   refine vf (n:=4) (P:=fun w=>∃v,0<=v/\v<=999999/\([H.int 0,.int 0,.int 1,.int 999999])[w.toNat]?=some (.int v)) (fq (fq (fq (fq tt ?_) ?_) ?_) ?_) gH n1
   ·exact⟨0,by decide,by decide,rfl⟩
   ·exact⟨0,by decide,by decide,rfl⟩
   ·exact⟨1,by decide,by decide,rfl⟩
   ·exact⟨999999,by decide,by decide,rfl⟩
  refine bC hx fun v fg aR hv=>?_;refine⟨v,fg,aR,fun{d σ}=>cs (bn ((cB (σ':=σ) ((ni 0).trans (by rw[h0];rfl))).trans (bn (di (cY (x:=.fl [H.int 0,.int 0,.int 1,.int 999999]) (aa:=σ) rfl (oG (by decide) (by decide) (by decide) rfl) (kO (by decide) gH hv))))))⟩
 ·have k0:∀{d:Nat} {σ:ac},tst (CC d) (.cmp (.bin .mod (.v 0) (.k (.int 4))) .eq (.k (.int 0))) [some (.int p)] σ=.ok false σ:=fun{d σ}=>(ni 0).trans (by rw[show(p%4 == 0)=false from k6.mpr h0]);by_cases L:p%4=1
  ·have pC:=eI (p/4) (show(1000000:Int)≠0 by decide);have ay:=fA (p/4) (show(0:Int)<1000000 by decide);refine⟨p/4%1000000,pC,by grind,fun{d σ}=>cs ((al (ρ':=[some (.int p)]) (σ':=σ) (bD (σ':=σ) k0)).trans (bn ((cB (σ':=σ) ((ni 1).trans (by rw[L];rfl))).trans rfl)))⟩
  ·have pC:=eI (p/4) (show(5:Int)≠0 by decide);have ay:=fA (p/4) (show(0:Int)<5 by decide);refine⟨p/4%5,pC,by grind,fun{d σ}=>cs ((al (ρ':=[some (.int p)]) (σ':=σ) (bD (σ':=σ) k0)).trans ((al (ρ':=[some (.int p)]) (σ':=σ) (bD (σ':=σ) ((ni 1).trans (by rw[show(p%4 == 1)=false from k6.mpr L])))).trans rfl))⟩
inductive jj:cR->Prop where
 | sum:jj (.word "sum")
 | times:jj (.word "times")
 | least:jj (.word "least")
 | most:jj (.word "most")
 | later:jj (.word "later")
 | way:jj (.word "way")
 | choose:jj (.word "choose")
 | fixed (v:Int):0<=v->v<=999999->jj (.fixed v)
theorem NT{p w:Int}(h0:0<=w)(L:w<12):∃r:cR,jj r/\∀{d:Nat} {σ:ac},bz PP topN (d+2) zH [.int p,.int w] σ=.ok r.pv σ:=by
 refine vf (n:=12) (P:=fun w=>∃r:cR,jj r/\∀{d:Nat} {σ:ac},bz PP topN (d+2) zH [.int p,.int w] σ=.ok r.pv σ) (fq (fq (fq (fq (fq (fq (fq (fq (fq (fq (fq (fq tt ?_) ?_) ?_) ?_) ?_) ?_) ?_) ?_) ?_) ?_) ?_) ?_) h0 L
 ·exact⟨_,.sum,rfl⟩
 ·exact⟨_,.times,rfl⟩
 ·exact⟨_,.least,rfl⟩
 ·exact⟨_,.most,rfl⟩
 ·obtain⟨v,fg,aR,hv⟩:=yN (p:=p);refine⟨_,.fixed v fg aR,fun{d σ}=>?_⟩;rw[cx (fn:=uA) rfl rfl]
  have:ex (CC (d+1)) topN uA.body [some (.int p),some (.int 4),none,none] σ=.ret (.tup [.str "fixed",.int v]) [some (.int p),some (.int 4),some (.str "fixed"),none] σ:=
   (al (ρ':=[some (.int p),some (.int 4),some (.str "fixed"),none]) (σ':=σ) rfl).trans (bn (rfl.trans (bn (di (ku (vs:=[.str "fixed",.int v]) (c7 (x:=.str "fixed") (aa:=σ) rfl (c7 (x:=.int v) (aa:=σ) (dN (x:=.int p) (aa:=σ) rfl hv) rfl)) (show(2:Nat)<=aB by decide))))))
  show a5 (ex (CC (d+1)) topN uA.body [some (.int p),some (.int 4),none,none] σ)=_;rw[this];rfl
 ·exact⟨_,.later,rfl⟩
 ·exact⟨_,.later,rfl⟩
 ·exact⟨_,.way,rfl⟩
 ·exact⟨_,.choose,rfl⟩
 ·exact⟨_,.way,rfl⟩
 ·exact⟨_,.choose,rfl⟩
 ·exact⟨_,.sum,rfl⟩
end
noncomputable def my:List Str:=["sum", "later", "way", "fixed", "a9", "b", "times", "choose", "least", "most", "z0", "put"]
noncomputable def vA(b k:Nat):Str:=(my.getD ((b+k)%12) "")++(if k/12=0 then("" : Str)else "x")
noncomputable def qi(b:Nat):List Str:=(List.range 24).map (vA b)
noncomputable def vB:List Str->Bool
 | []=>true
 | x::r=>!(r.any (· == x))&&vB r
theorem SR:∀{l:List Str},vB l=true->l.Nodup:=by
 intro r
 induction r with
 | nil =>
  intro _;exact .nil
 | cons x r ag =>
  intro h;simp only[vB,el,Bool.not_eq_true',List.any_eq_false,e7]at h;exact hG.mpr ⟨fun q=>h.1 x q rfl,ag h.2⟩
noncomputable def vJ(s:Str):Bool:=!(s.cps.toList.take 2 == [122,122])&&!(s.cps.toList.take 2 == [121,121])
noncomputable def jK(s:Str):Prop:=vJ s=true
theorem Sp:∀b:Nat,b<12->(qi b).all vJ=true:=by decide +kernel
theorem So:∀b:Nat,b<12->(vB (qi b)&&(qi b).all iD)=true:=by decide +kernel
theorem Ih{n:Nat}:(Txt.mul "m" (n:Int)).cps.toList=List.replicate n 109:=by
 have hm:("m" : Str)=⟨#[109]⟩:=by decide +kernel
 rw[hm];unfold Txt.mul;by_cases L:(n:Int)<1
 ·have:n=0:=by grind
  subst this;rw[az L];rfl
 ·rw[aY L];by_cases O:n=1
  ·subst O;rfl
  ·rw[aY (by
    have:((n:Int) == 1)=false:=k6.mpr (by grind)
    rw[this];decide)]
   have key:∀(k:Nat) (acc:Array Nat),((List.replicate k (#[109]:Array Nat)).foldl (·++·) acc).toList=acc.toList++List.replicate k 109:=by
    intro k
    induction k with
    | zero=>intro acc;simp
    | succ k ag =>
     intro acc;rw[List.replicate_succ,iO,ag];simp[List.replicate_succ]
   have:=key n #[];simpa using this
noncomputable def fT:List Nat:=("abcdefghijklmnopqrstuvwxyz0123456789" : Str).cps.toList
noncomputable def jq(p q N b k:Nat):List Nat:=List.replicate p 109++fT.getD ((b+k)%N) 0::List.replicate q 109
noncomputable def j0(p q N b k:Nat):Str:=⟨(jq p q N b k).toArray⟩
noncomputable def np(p q N b:Nat):List Str:=(List.range 24).map (j0 p q N b)
theorem AS:fT.length=36/\fT.Nodup/\(∀c∈fT,c∈iA\/c∈yB)/\(∀i,i<26->fT.getD i 0∈iA)/\109∈iA:=by decide +kernel
theorem R8{p q:Nat}{x y:Nat}(h:List.replicate p 109++x::List.replicate q 109=List.replicate p 109++y::List.replicate q 109):x=y:=
 (List.cons.inj (List.append_cancel_left h)).1
theorem Ur{i j:Nat}(hi:i<36)(a0:j<36)(h:fT.getD i 0=fT.getD j 0):i=j:=by
 refine dI AS fun L O J=>?_
 have V:fT.getD i 0=fT[i]'((aF (by assumption) (by decide))):=by simp[List.getD,L,hi]
 have aj:fT.getD j 0=fT[j]'((aF (by assumption) (by decide))):=by simp[List.getD,L,a0]
 rw[V,aj]at h
 have bF:fT[i]?=fT[j]?:=by rw[dx ((aF (by assumption) (by decide))),dx ((aF (by assumption) (by decide))),h]
 exact(List.getElem?_inj (by assumption) O).mp bF
theorem Sq{p q N b:Nat}(hs:p+1+q<=8)(am:(p=0/\N=26)\/(0<p/\N=36)):(np p q N b).Nodup/\∀n∈np p q N b,gL n:=by
 have uL:24<=N/\N<=36:=by
  rcases am with⟨_,rfl⟩ | ⟨_,rfl⟩
  ·decide
  ·decide
 have rH:0<N:=gP (by decide) uL.1;refine CN AS fun f1 f2 rt tW ox=>?_;constructor
 ·unfold np;rw[List.Nodup,List.pairwise_map];refine List.Pairwise.imp_of_mem ?_ (List.nodup_range (n:=24));intro i j hi a0 dc e;have hi:=List.mem_range.mp hi;have a0:=List.mem_range.mp a0
  have V:jq p q N b i=jq p q N b j:=by
   have:=congrArg (fun s:Str=>s.cps.toList) e;simpa[j0]using this
  have aj:=R8 V;have HW:∀{k:Nat},(b+k)%N<36:=gP (Nat.mod_lt _ rH) uL.2;have bF:=Ur HW HW aj
  have key:∀i j,j<24->(b+i)%N=(b+j)%N->j<=i:=fun i j a0 e=>by
   rcases Nat.le_total j i with h | h
   ·exact h
   ·have z:=Nat.sub_mod_eq_zero_of_mod_eq e.symm;rw[Nat.add_sub_add_left,Nat.mod_eq_of_lt (hF (Nat.sub_le _ _) (gP a0 uL.1))]at z;exact Nat.le_of_sub_eq_zero z
  exact dc (Nat.le_antisymm (key j i hi bF.symm) (key i j a0 bF))
 ·intro n hn;refine aw (cK.mp hn) fun k hk ae=>?_;obtain rfl:=ae;have aV:(b+k)%N<N:=Nat.mod_lt _ rH
  have m5:fT.getD ((b+k)%N) 0∈fT:=by
   have eZ:(b+k)%N<fT.length:=by rw[f1];exact gP aV uL.2
   rw[k4,dx eZ];exact km eZ
  have hl:(j0 p q N b k).length=p+1+q:=by
   show(jq p q N b k).toArray.size=_;simp[jq];(grind)
  refine⟨by rw[hl];exact aF (Nat.le_add_left 1 p) (e6 _ q),by rw[hl];exact hs,fun c hc=>?_,fun c hc=>?_⟩
  ·have cb:(jq p q N b k)[0]?=some c:=by simpa[j0]using hc
   rcases am with⟨rfl,rfl⟩ | ⟨hp,rfl⟩
   ·simp[jq]at cb;subst cb;have:=tW _ aV;simpa[List.getD]using this
   ·obtain⟨qo,rfl⟩:∃qo,p=qo+1:=⟨p-1,by grind⟩;simp[jq,List.replicate_succ]at cb;subst cb;exact ox
  ·have cb:c∈jq p q N b k:=by simpa[j0]using hc
   simp only[jq,c2,bE,List.mem_replicate]at cb
   rcases cb with⟨_,rfl⟩ | rfl | ⟨_,rfl⟩
   ·exact .inl ox
   ·exact rt _ m5
   ·exact .inl ox
theorem At{x y:Nat}{r:List Nat}{s:Str}(h:s.cps.toList=x::y::r)(q:x=109\/y=109):jK s:=by
 unfold jK vJ;rw[h]
 rcases q with rfl | rfl
 ·rfl
 ·show(!(x == 122&&(false&&true))&&!(x == 121&&(false&&true)))=true;rw[Bool.false_and,Bool.and_false,Bool.and_false];rfl
theorem Sr{p q N b:Nat}:∀n∈np p q N b,jK n:=by
 intro n hn;refine aw (cK.mp hn) fun k hk ae=>?_;obtain rfl:=ae;have e:(j0 p q N b k).cps.toList=jq p q N b k:=rfl;generalize j0 p q N b k=s at e;unfold jq at e
 cases p with
 | zero =>
  cases q with
  | zero=>unfold jK vJ;rw[e];show(!(_&&false)&&!(_&&false))=true;rw[Bool.and_false,Bool.and_false];rfl
  | succ q=>exact At e (.inr rfl)
 | succ p =>
  cases p with
  | zero=>exact At e (.inl rfl)
  | succ p=>exact At e (.inl rfl)
section
variable {d:Nat}{σ:ac}{C:bh}{ρ:aE}
theorem AD{n:Nat}{g:H->H}{f:Nat->Str}(h:∀k,k<n->g (.int k)=.str (f k)):(cF 0 1 n).map g=((List.range n).map f).map .str:=by
 unfold cF;rw[hI,hI];refine List.map_congr_left fun k hk=>?_;show g (.int (0+(k:Int)*1))=.str (f k);exact(show(0+(k:Int)*1)=k by grind).symm▸(h k (List.mem_range.mp hk))
theorem UL:∀i,i<12->(my.map H.str)[i]?=some (.str (my.getD i "")):=fun i hi=>by
 rw[fB];have:my.length=12:=rfl;simp[List.getD,this,hi]
theorem UM:∀i,i<12->(my.getD i ("" : Str)).length<=8:=by decide +kernel
noncomputable abbrev fM(a b c e f g h:Option H):aE:=[a,b,c,e,f,g,h,none,none]
theorem Sn{c:Int}:ev (CC d) Ez (fM (some (.int c)) (some (.fl (my.map .str))) none none none none none) σ=.ok (.fl ((qi (c/9%12).toNat).map .str)) σ:=by
 have gH:=eI (c/9) (show(12:Int)≠0 by decide);have n1:=fA (c/9) (show(0:Int)<12 by decide);refine(mQ (fun x=>match x with | .int i=>.str (vA (c/9%12).toNat i.toNat) | _=>.none) (qr (n:=24) (by decide) rfl) (by rw[show(cF 0 1 24).length=24 by simp[cF]];decide) fun x hx=>?_).trans (by rw[AD (f:=vA (c/9%12).toNat) fun k hk=>by rfl];rfl);refine aw (AE hx) fun k hk ae=>?_;obtain rfl:=ae;show _=ai.ok (H.str (vA (c/9%12).toNat ((k:Int).toNat))) σ;have hi:((c/9+k)%12).toNat=((c/9%12).toNat+k)%12:=BU (N:=12) (by decide);have eZ:((c/9%12).toNat+k)%12<12:=Nat.mod_lt _ (by decide)
 have O:([H.str "",.str "x"])[((k:Int)/12).toNat]?=some (.str (if k/12=0 then("" : Str)else "x")):=by
  have e:((k:Int)/12).toNat=k/12:=rfl;exact e.symm▸(fq (P:=fun i=>([H.str "",.str "x"])[i]?=some (.str (if i=0 then("" : Str)else "x"))) (fq tt rfl) rfl _ (Nat.div_lt_of_lt_mul hk))
 refine cz (x:=.str (my.getD (((c/9%12).toNat+k)%12) "")) (y:=.str (if k/12=0 then("" : Str)else "x")) (aa:=σ) (ao:=σ) ?_ ?_ ?_
 ·refine cY (x:=.fl (my.map .str)) (aa:=σ) rfl rfl (kO (show(12:Nat)<=aB by decide) (eI _ (by decide)) ?_);exact hi.symm▸(UL _ eZ)
 ·exact cY (x:=.fl [.str "",.str "x"]) (aa:=σ) rfl rfl (kO (show(2:Nat)<=aB by decide) ((fm _)) O)
 ·have jV:=UM _ eZ
  have lz:(if k/12=0 then("" : Str)else "x").length<=1:=by split <;> decide +kernel
  rw[add_str (by rw[eM];(grind))];rfl
theorem Ii{n:Int}(h0:0<=n)(L:n<=100):jO .mul (.str "m") (.int n) σ=.ok (.str (Txt.mul "m" n)) σ:=by
 show(if("m" : Str).length<=100/\0<=n/\n<=100 then ai.ok (H.str (Txt.mul "m" n)) σ else .stuck)=_;exact az ⟨by decide +kernel,h0,L⟩
theorem B4{dY:ac}{xs:List H}{v:H}(h:xs.length<1000):iC .append (.ref dY.length) [v] (dY++[.lst xs])=.ok .none (dY++[.lst (xs++[v])]):=by
 have iY:(dY++[aS.lst xs])[dY.length]?=some (.lst xs):=by simp
 show ko (.ref dY.length) v (dY++[.lst xs])=_;unfold ko;dsimp only;rw[iY];dsimp only;rw[az (by rw[eM];(exact aF (by assumption) (by decide)))];simp
theorem nl{dY τ:ac}{xs:List H}{m:hW}(hm:m=.append\/m=.extend\/m=.pop):o2 m (.ref dY.length) (dY++.lst xs::τ)=true:=by
 have iY:(dY++aS.lst xs::τ)[dY.length]?=some (.lst xs):=by simp
 have:g4 (.ref dY.length) (dY++.lst xs::τ)=true:=by unfold g4;dsimp only;rw[iY]
 rcases hm with rfl | rfl | rfl <;> exact this
theorem Wk{c:Int}{p q N k:Nat}(hs:p+1+q<=8)(am:(p=0/\N=26)\/(0<p/\N=36))(acc:List Str)(y0:acc.length<100){z:Option H} :
  ex (CC d) topN x5 (fM (some (.int c)) (some (.str "abcdefghijklmnopqrstuvwxyz0123456789")) (some (.int k)) (some (.int ((p+1+q:Nat):Int))) (some (.int p)) (some (.ref σ.length)) z) (σ++[.lst (acc.map .str)]) =
   .next (fM (some (.int c)) (some (.str "abcdefghijklmnopqrstuvwxyz0123456789")) (some (.int k)) (some (.int ((p+1+q:Nat):Int))) (some (.int p)) (some (.ref σ.length)) (some (.str ⟨#[fT.getD (((c/64%N).toNat+k)%N) 0]⟩))) (σ++[.lst ((acc++[j0 p q N (c/64%N).toNat k]).map .str)]):=by
 refine CN AS fun f1 f2 rt tW ox=>?_
 have rH:0<N:=by grind
 have gH:=eI (c/64) (show(N:Int)≠0 by(exact Int.ofNat_ne_zero.mpr (cS (by assumption))));have n1:=fA (c/64) (show(0:Int)<N by(exact d3.mpr (by assumption)));have hi:((c/64+k)%N).toNat=((c/64%N).toNat+k)%N:=BU (cS rH);have eZ:((c/64%N).toNat+k)%N<N:=Nat.mod_lt _ rH
 have PF:([H.int 26,.int 36])[((if decide ((p:Int) > 0)=true then 1 else 0:Int)).toNat]?=some (.int N):=by
  rcases am with⟨rfl,rfl⟩ | ⟨hp,rfl⟩
  ·rfl
  ·rw[ed (by grind)];rfl
 have PG:(0:Int)<=(if decide ((p:Int) > 0)=true then 1 else 0:Int):=by split <;> decide
 have cT:ex (CC d) topN (.asg 6 (.sub (.v 1) (.bin .mod (.bin .add (.bin .fdiv (.v 0) (.k (.int 64))) (.v 2)) (.sub (.lst true #v[(.k (.int 26)),(.k (.int 36))]) (.b1 .int (.cmp (.v 4) .gt (.k (.int 0)))))))) (fM (some (.int c)) (some (.str "abcdefghijklmnopqrstuvwxyz0123456789")) (some (.int k)) (some (.int ((p+1+q:Nat):Int))) (some (.int p)) (some (.ref σ.length)) z) (σ++[.lst (acc.map .str)]) =
   .next (fM (some (.int c)) (some (.str "abcdefghijklmnopqrstuvwxyz0123456789")) (some (.int k)) (some (.int ((p+1+q:Nat):Int))) (some (.int p)) (some (.ref σ.length)) (some (.str ⟨#[fT.getD (((c/64%N).toNat+k)%N) 0]⟩))) (σ++[.lst (acc.map .str)]):=by
  generalize iX:σ++[aS.lst (acc.map .str)]=S;refine bR (cY (x:=.str "abcdefghijklmnopqrstuvwxyz0123456789") (aa:=S) rfl (cz rfl (y:=.int N) (ao:=S) (cY (x:=.fl [.int 26,.int 36]) (aa:=S) rfl (c4 (iU (x:=.int p) (y:=.int 0) (aa:=S) (ao:=S) rfl rfl gt_int) int_bool) (kO (show(2:Nat)<=aB by decide) PG PF)) (gq ((d3.mpr (by assumption))))) (Ju (by decide +kernel) (eI _ ((Int.ofNat_ne_zero.mpr (cS (by assumption))))) ?_));rw[hi];show fT[((c/64%N).toNat+k)%N]?=_;simp[List.getD,f1,show((c/64%N).toNat+k)%N<36 by grind]
 refine(al cT).trans ?_;refine(al (gb (gW (m:=.append) (x:=.ref σ.length) (aa:=σ++[.lst (acc.map .str)]) rfl (nl (.inl rfl)) (y:=.str (j0 p q N (c/64%N).toNat k)) (ao:=σ++[.lst (acc.map .str)]) ?_ (B4 (by rw[bc];(exact aF (by assumption) (by decide))))))).trans (by rw[bU,fD];rfl);generalize σ++[aS.lst (acc.map .str)]=S;have hp:Txt.mul "m" (p:Int)=⟨(List.replicate p 109).toArray⟩:=Str.ext' (Array.toList_inj.mp (by rw[Ih]))
 have hq:Txt.mul "m" (((p+1+q:Nat):Int)-1-p)=⟨(List.replicate q 109).toArray⟩:=by
  rw[show((p+1+q:Nat):Int)-1-p=(q:Int) by grind];exact Str.ext' (Array.toList_inj.mp (by rw[Ih]))
 refine cz (cz (cz (x:=.str "m") (y:=.int p) (aa:=S) (ao:=S) rfl rfl (Ii ((fm _)) (by grind))) (y:=.str ⟨#[fT.getD (((c/64%N).toNat+k)%N) 0]⟩) (ao:=S) rfl (add_str ?_)) (cz (x:=.str "m") (aa:=S) rfl rfl (Ii (by grind) (by grind))) ?_
 ·rw[hp,eM];show(List.replicate p 109).toArray.size+1<=_;simp;(grind)
 ·rw[hp,hq,add_str]
  ·congr 1;refine congrArg H.str (Str.ext' ?_);simp[Str.cps_append,j0,jq]
  ·rw[Str.length_append,eM];show(List.replicate p 109).toArray.size+1+(List.replicate q 109).toArray.size<=_;simp;(exact aF (by assumption) (by decide))
theorem RK{c:Int}{p q N:Nat}(hs:p+1+q<=8)(am:(p=0/\N=26)\/(0<p/\N=36)):∀(n k:Nat) (acc:List Str) (y z:Option H),acc.length=k->k+n<=24->∃a3 bY,
  ct none (dH 2) (fun ρ σ=>ex (CC d) topN x5 ρ σ) ((List.range' k n).map fun(i:Nat)=>H.int i) (fM (some (.int c)) (some (.str "abcdefghijklmnopqrstuvwxyz0123456789")) y (some (.int ((p+1+q:Nat):Int))) (some (.int p)) (some (.ref σ.length)) z) (σ++[.lst (acc.map .str)]) =
   .next (fM (some (.int c)) (some (.str "abcdefghijklmnopqrstuvwxyz0123456789")) a3 (some (.int ((p+1+q:Nat):Int))) (some (.int p)) (some (.ref σ.length)) bY) (σ++[.lst ((acc++(List.range' k n).map (j0 p q N (c/64%N).toNat)).map .str)]):=by
 intro n
 induction n with
 | zero =>
  intro k acc y z _ _;exact⟨y,z,by simpa using fN⟩
 | succ n ag =>
  intro k acc y z L O;obtain⟨a3,bY,ag⟩:=ag (k+1) (acc++[j0 p q N (c/64%N).toNat k]) (some (.int k)) (some (.str ⟨#[fT.getD (((c/64%N).toNat+k)%N) 0]⟩)) (by rw[da,L];rfl) (by grind);refine⟨a3,bY,?_⟩;rw[List.range'_succ,dG];refine(fv (bQ:=fM (some (.int c)) (some (.str "abcdefghijklmnopqrstuvwxyz0123456789")) (some (.int k)) (some (.int ((p+1+q:Nat):Int))) (some (.int p)) (some (.ref σ.length)) z) rfl (Wk hs am acc (by grind))).trans (ag.trans ?_);simp[ey]
theorem NS(c:Int):∃names:List Str,names.length=24/\names.Nodup/\(∀n∈names,gL n)/\(∀n∈names,jK n) ∧
  ((∀d,bz PP topN (d+1) sf [.int c] []=.ok (.fl (names.map .str)) [])\/(∀d,bz PP topN (d+1) sf [.int c] []=.ok (.ref 0) [.lst (names.map .str)])):=by
 have qC:∀d,tst (CC d) (.cmp (.bin .mod (.v 0) (.k (.int 9))) .eq (.k (.int 8))) (fM (some (.int c)) none none none none none none) []=.ok (c%9 == 8) []:=fun d =>
  ch rfl (y:=.int 8) (ao:=[]) rfl kx
 have cs:∀{d:Nat} {v:H} {ρ:aE} {σ:ac},ex (CC d) topN uv.body (fM (some (.int c)) none none none none none none) []=.ret v ρ σ->bz PP topN (d+1) sf [.int c] []=.ok v σ:=fun{d v ρ σ} h=>by
  rw[cx (fn:=uv) rfl rfl];show a5 (ex (CC d) topN uv.body (fM (some (.int c)) none none none none none none) [])=_;rw[h];rfl
 by_cases Ge:c%9=8
 ·have gH:=eI (c/9) (show(12:Int)≠0 by decide);have n1:=fA (c/9) (show(0:Int)<12 by decide);have g:=So (c/9%12).toNat (A5 (n:=12) gH n1);rw[el]at g;refine⟨qi (c/9%12).toNat,by simp[qi],SR g.1,fun n hn=>z9 (fC.mp g.2 n hn),fun n hn=>fC.mp (Sp (c/9%12).toNat (A5 (n:=12) gH n1)) n hn,.inl fun d=>cs (bn (a:=x4) ((cB (σ':=[]) ((qC d).trans (by rw[Ge];rfl))).trans ((al (ρ':=fM (some (.int c)) (some (.fl (my.map .str))) none none none none none) (σ':=[]) rfl).trans (bn (di Sn)))))⟩
 ·have pC:=eI c (show(8:Int)≠0 by decide);have ay:=fA c (show(0:Int)<8 by decide);have d4:(0:Int)<1+c%8:=Int.lt_of_lt_of_le (by decide) (Int.le_add_of_nonneg_right pC);have eR:=eI (c/8) (Int.ne_of_gt d4);have b1:=fA (c/8) d4;refine aJ (iN eR) fun p hp=>?_;refine aJ (iN pC) fun e he=>?_;rw[hp,he]at b1;rw[he]at ay;have GX:p<1+e:=d3.mp b1;rw[Nat.add_comm]at GX
  have hq:1+c%8=((p+1+(e-p):Nat):Int):=by
   rw[he,Nat.add_right_comm,Nat.add_sub_cancel' (Nat.le_of_lt_succ GX),Nat.add_comm];rfl
  generalize e-p=q at hq
  have hs:p+1+q<=8:=by rw[he]at hq;exact(Int.ofNat.inj hq:1+e=p+1+q)▸Nat.add_le_add_left (Nat.le_of_lt_succ (d3.mp ay)) 1
  obtain⟨N,am⟩:∃N:Nat,(p=0/\N=26)\/(0<p/\N=36):=by
   rcases Nat.eq_zero_or_pos p with q | q
   ·exact⟨26,.inl ⟨q,rfl⟩⟩
   ·exact⟨36,.inr ⟨q,rfl⟩⟩
  have F9:=Sq (b:=(c/64%N).toNat) hs am;refine⟨np p q N (c/64%N).toNat,by simp[np],F9.1,F9.2,Sr,.inr fun d=>?_⟩;obtain⟨a3,bY,hl⟩:=RK (d:=d) (σ:=[]) (c:=c) hs am 24 0 [] none none rfl (by decide);refine cs (ρ:=fM (some (.int c)) (some (.str "abcdefghijklmnopqrstuvwxyz0123456789")) a3 (some (.int ((p+1+q:Nat):Int))) (some (.int p)) (some (.ref 0)) bY) ?_
  have bt:ex (CC d) topN x4 (fM (some (.int c)) none none none none none none) []=.next (fM (some (.int c)) none none none none none none) []:=(bD (σ':=[]) ((qC d).trans (by rw[show(c%9 == 8)=false from k6.mpr Ge])))
  have V:ex (CC d) topN EA (fM (some (.int c)) none none none none none none) []=.next (fM (some (.int c)) none none (some (.int ((p+1+q:Nat):Int))) none none none) []:=by
   refine bR ((cz (x:=.int 1) (aa:=[]) rfl rfl add_int).trans ?_);rw[hq]
  have aj:ex (CC d) topN EB (fM (some (.int c)) none none (some (.int ((p+1+q:Nat):Int))) none none none) []=.next (fM (some (.int c)) none none (some (.int ((p+1+q:Nat):Int))) (some (.int p)) none none) []:=by
   refine bR ((cz rfl (y:=.int ((p+1+q:Nat):Int)) (ao:=[]) rfl (gq (by grind))).trans ?_);rw[<- hq,hp]
  have h4:ex (CC d) topN EC (fM (some (.int c)) (some (.str "abcdefghijklmnopqrstuvwxyz0123456789")) none (some (.int ((p+1+q:Nat):Int))) (some (.int p)) (some (.ref 0)) none) [.lst []] =
    .next (fM (some (.int c)) (some (.str "abcdefghijklmnopqrstuvwxyz0123456789")) a3 (some (.int ((p+1+q:Nat):Int))) (some (.int p)) (some (.ref 0)) bY) [.lst ((np p q N (c/64%N).toNat).map .str)]:=by
   refine gc (ys:=(List.range' 0 24).map fun(i:Nat)=>H.int i) (aa:=[.lst []]) ((qr (n:=24) (by decide) rfl).trans ?_) (hl.trans ?_)
   ·have:cF 0 1 24=(List.range' 0 24).map fun(i:Nat)=>H.int i:=by
     unfold cF;rw[List.range_eq_range'];refine List.map_congr_left fun i J=>?_;congr 1;(grind)
    rw[this]
   ·simp[np,List.range_eq_range']
  exact(al bt).trans ((al V).trans ((al aj).trans (rfl.trans (rfl.trans ((al h4).trans rfl)))))
end
noncomputable abbrev wE(s nm many room pl k fr sp pick rule more nd gv wt md:Option H):aE:=
 [s,some (.int 0),nm,many,room,pl,k,fr,sp,pick,rule,more,nd,gv,wt,md,none,none,none,none,none,none,none,none,none,none]
structure nV where
 pk:Option H
 rl:Option H
 mr:Option H
 nd:Option H
 gv:Option H
 wt:Option H
 md:Option H
noncomputable def f5(aD:ac)(l:List Int)(b5:H)(many room:Option H)(cn:List Str)(k:Option H)(v:nV):aE:=wE (some (.fl (l.map .int))) (some b5) many room (some (.ref aD.length)) k (some (.ref (aD.length+1))) (some (.fl (cn.map .str))) v.pk v.rl v.mr v.nd v.gv v.wt v.md
noncomputable abbrev bv(aD:ac)(p:List H)(f:List Str):ac:=aD++[.lst p,.lst (f.map .str)]
section
variable {d:Nat}{σ aD:ac}{C:bh}{ρ:aE}
theorem CV:∀(f:List Str) (i:Nat),(f.map H.str).eraseIdx i=(f.eraseIdx i).map .str
 | [],_=>rfl
 | _::_,0=>rfl
 | x::f,i+1=>by
  show H.str x::(f.map H.str).eraseIdx i=H.str x::(f.eraseIdx i).map .str;rw[CV f i]
theorem CW:∀(f:List Str) (i:Nat) (h:i<f.length),(f[i]::f.eraseIdx i).Perm f
 | [],_,h=>(nomatch h)
 | _::_,0,_=>.refl _
 | x::f,i+1,h=>by
  have hi:i<f.length:=by simpa using h
  have:=CW f i hi;show(f[i]'hi::x::f.eraseIdx i).Perm (x::f);exact(List.Perm.swap x _ _).trans (.cons x this)
theorem tv{p:List H}{f:List Str}:(bv aD p f)[aD.length+1]?=some (.lst (f.map .str)):=by simp[bv,iM]
theorem rf{p:List H}{f:List Str}:(bv aD p f)[aD.length]?=some (.lst p):=by simp[bv,iM]
theorem HM{p:List H}{f:List Str}(h:f.length<=100):db .len (.ref (aD.length+1)) (bv aD p f)=.ok (.int f.length) (bv aD p f):=by
 have hs:d0 (bv aD p f) (.ref (aD.length+1))=some (f.map .str):=by unfold d0;dsimp only;rw[tv]
 rw[HN hs (fun J q=>by cases q) (mx h),bc]
theorem Tz{p:List H}{f:List Str}{i:Int}{x:Str}(h:f.length<=100)(h0:0<=i)(hx:f[i.toNat]?=some x) :
  iC .pop (.ref (aD.length+1)) [.int i] (bv aD p f)=.ok (.str x) (bv aD p (f.eraseIdx i.toNat)):=by
 show o5 (.ref (aD.length+1)) (.int i) (bv aD p f)=_;unfold o5;dsimp only;rw[tv];dsimp only;rw[az ⟨h0,mx h⟩,fB,hx];dsimp only[Option.map_some];congr 1
 have e:bv aD p f=(aD++[.lst p])++[.lst (f.map .str)]:=by simp[bv]
 rw[e,List.set_append_right _ _ (by simp)];simp[bv,CV]
theorem L3{f:H->ac->ai (Option H)}{x v:H}{xs ys:List H}{aa ao:ac}(L:f x σ=.ok (some v) aa)(O:dM none f xs aa=.ok ys ao):dM none f (x::xs) σ=.ok (v::ys) ao:=by
 refine(az trivial).trans ?_;rw[L];show(dM none f xs aa).bind _=_;rw[O];rfl
theorem Mk{p:List H}{more:Int}:∀(p8:List Nat) (f:List Str),p8.length<=f.length->f.length<=100->∃made ow,made.length=p8.length/\(made++ow).Perm f ∧
  dM none (fun x σ=>(tst (CC (d+1)) (.k (.bool true)) (([none,none,none,none,some (.ref (aD.length+1)),some (.int more)]:aE).set 1 (some x)) σ).bind fun b σ=>if b then(ev (CC (d+1)) (.me .pop (.v 4) #v[(.bin .mod (.call i2 #v[(.bin .add (.bin .add (.v 5) (.bin .mul (.k (.int 31)) (.v 1))) (.k (.int 5)))]) (.b1 .len (.v 4)))]) (([none,none,none,none,some (.ref (aD.length+1)),some (.int more)]:aE).set 1 (some x)) σ).bind fun v σ=>.ok (some v) σ else .ok none σ) (p8.map fun(j:Nat)=>H.int j) (bv aD p f) =
   .ok (made.map .str) (bv aD p ow):=by
 intro p8
 induction p8 with
 | nil=>intro f _ _;exact⟨[],f,rfl,.refl _,az trivial⟩
 | cons j p8 ag =>
  intro f L O
  have bw:0<f.length:=by rw[dv]at L;(grind)
  have gH:=eI (d8 (more+31*j+5)) (show((f.length:Nat):Int)≠0 by(exact Int.ofNat_ne_zero.mpr (cS (by assumption))));have n1:=fA (d8 (more+31*j+5)) (show(0:Int)<((f.length:Nat):Int) by(exact d3.mpr (by assumption)))
  have hi:(d8 (more+31*j+5)%((f.length:Nat):Int)).toNat<f.length:=by grind
  generalize a4:(d8 (more+31*j+5)%((f.length:Nat):Int)).toNat=i at hi
  have hx:f[i]?=some f[i]:=by simp[hi]
  obtain⟨made,ow,aV,ck,iB⟩:=ag (f.eraseIdx i) (by rw[List.length_eraseIdx,az hi];rw[dv]at L;(grind)) (aF (List.length_eraseIdx_le f i) O);refine⟨f[i]::made,ow,by rw[dv,aV,dv],?_,?_⟩
  ·rw[List.cons_append];exact(List.Perm.cons _ ck).trans (CW f i hi)
  ·have e:ev (CC (d+1)) (.me .pop (.v 4) #v[(.bin .mod (.call i2 #v[(.bin .add (.bin .add (.v 5) (.bin .mul (.k (.int 31)) (.v 1))) (.k (.int 5)))]) (.b1 .len (.v 4)))]) (([none,none,none,none,some (.ref (aD.length+1)),some (.int more)]:aE).set 1 (some (.int j))) (bv aD p f)=.ok (.str f[i]) (bv aD p (f.eraseIdx i)):=by
    refine gW (m:=.pop) (x:=.ref (aD.length+1)) (aa:=bv aD p f) rfl ?_ (y:=.int (d8 (more+31*j+5)%((f.length:Nat):Int))) (ao:=bv aD p f) ?_ ?_
    ·show g4 (.ref (aD.length+1)) (bv aD p f)=true;unfold g4;dsimp only;rw[tv]
    ·exact cz (dN rfl ll) (c4 (x:=.ref (aD.length+1)) (aa:=bv aD p f) rfl (HM O)) (gq ((d3.mpr (by assumption))))
    ·rw[Tz O gH (by rw[a4];exact hx),a4]
   refine L3 (aa:=bv aD p (f.eraseIdx i)) ?_ iB;show((ev _ _ _ _).bind fun v σ=>ai.ok (some v) σ)=_;rw[e];rfl
theorem Wz{cn:List Str}{more:Int}{nd:Nat}(hs:1<=cn.length)(hl:cn.length<=100)(hn:nd<=4){s nm many room pl k fr pick rule gv wt md:Option H} :
  ∃jf:List Str,jf.length=nd/\(∀w∈jf,w∈cn)/\ev (CC (d+1)) EP (wE s nm many room pl k fr (some (.fl (cn.map .str))) pick rule (some (.int more)) (some (.int nd)) gv wt md) σ=.ok (.fl (jf.map .str)) σ:=by
 have fP:=mx hl;refine⟨(List.range nd).map fun(j:Nat)=>cn.getD (d8 (more+7*(j:Int))%((cn.length:Nat):Int)).toNat "",by simp,fun w hw=>?_,?_⟩
 ·refine aw (cK.mp hw) fun j a0 ae=>?_;obtain rfl:=ae;have gH:=eI (d8 (more+7*j)) (show((cn.length:Nat):Int)≠0 by(exact Int.ofNat_ne_zero.mpr (cS (by assumption))));have n1:=fA (d8 (more+7*j)) (show(0:Int)<((cn.length:Nat):Int) by(exact d3.mpr (by assumption)))
  have hi:(d8 (more+7*j)%((cn.length:Nat):Int)).toNat<cn.length:=by grind
  have:cn.getD (d8 (more+7*j)%((cn.length:Nat):Int)).toNat "" = cn[(d8 (more+7*j)%((cn.length:Nat):Int)).toNat]:=by simp[List.getD,hi]
  rw[this];exact km hi
 ·refine(mQ (fun x=>match x with | .int i=>.str (cn.getD (d8 (more+7*i)%((cn.length:Nat):Int)).toNat "") | _=>.none) (qr (n:=nd) ((aF (by assumption) (by decide))) rfl) (by rw[show(cF 0 1 nd).length=nd by simp[cF]];exact aF hn (by decide)) fun x hx=>?_).trans (by rw[AD (f:=fun(j:Nat)=>cn.getD (d8 (more+7*(j:Int))%((cn.length:Nat):Int)).toNat "") fun k hk=>rfl]);refine aw (AE hx) fun j a0 ae=>?_;obtain rfl:=ae;have gH:=eI (d8 (more+7*j)) (show((cn.length:Nat):Int)≠0 by(exact Int.ofNat_ne_zero.mpr (cS (by assumption))));have n1:=fA (d8 (more+7*j)) (show(0:Int)<((cn.length:Nat):Int) by(exact d3.mpr (by assumption)))
  have hi:(d8 (more+7*j)%((cn.length:Nat):Int)).toNat<cn.length:=by grind
  have cZ:db .len (.fl (cn.map .str)) σ=.ok (.int cn.length) σ:=by rw[vp fP,bc]
  refine cY (x:=.fl (cn.map .str)) (aa:=σ) rfl (cz (dN rfl ll) (c4 (x:=.fl (cn.map .str)) (aa:=σ) rfl cZ) (gq ((d3.mpr (by assumption))))) (kO fP gH ?_);rw[fB];simp[List.getD,hi]
end
noncomputable def cR.head:cR->Str
 | .word w=>w
 | .fixed _ => "fixed"
noncomputable def m0(more:Int):Nat:=[1,1,1,2,3].getD (more/4%5).toNat 1
theorem F2(more:Int):([H.int 1,.int 1,.int 1,.int 2,.int 3])[(more/4%5).toNat]?=some (.int (m0 more))/\1<=m0 more/\m0 more<=3:=by
 have gH:=eI (more/4) (show(5:Int)≠0 by decide);have n1:=fA (more/4) (show(0:Int)<5 by decide);unfold m0;generalize more/4%5=x at gH n1;refine vf (n:=5) (P:=fun x=>([H.int 1,.int 1,.int 1,.int 2,.int 3])[x.toNat]?=some (.int ([1,1,1,2,3].getD x.toNat 1:Nat))/\1<=[1,1,1,2,3].getD x.toNat 1/\[1,1,1,2,3].getD x.toNat 1<=3) ?_ gH n1;refine fq (fq (fq (fq (fq tt ?_) ?_) ?_) ?_) ?_ <;> exact⟨rfl,by decide,by decide⟩
theorem GA{r:cR}{σ:ac}(h:jj r):fU r.pv (.int 0) σ=.ok (.str r.head) σ:=by cases h <;> rfl
structure wB(r:cR)(more:Int)(nd gv:Nat):Prop where
 n1:1<=nd
 n4:nd<=4
 g1:1<=gv
 g3:gv<=3
 ok:∀g:Nat,((r.head == ("way" : Str))=true->g=2)->fj r nd g
 way:(r.head == ("way" : Str))=true->gv=2
 nd_eq:(j4 r.head ((["way", "choose"]:List Str).zip [.int 2,.int 3])).getD (.int (if(r.head == ("later" : Str))=true then 1 else 1+more%4))=.int nd
 gv_eq:(j4 r.head ((["way"]:List Str).zip [.int 2])).getD (.int (m0 more))=.int gv
theorem QZ{r:cR}(h:jj r)(more:Int):∃nd gv,wB r more nd gv:=by
 have HX:=eI more (show(4:Int)≠0 by decide);have aV:=fA more (show(0:Int)<4 by decide);refine dI (F2 more) fun J g1 g3=>?_
 have hn:(1+more%4)=(((1+more%4).toNat:Nat):Int):=by grind
 have sD:∀(r:cR),(r.head == ("way" : Str))=false->(r.head == ("later" : Str))=false->(∀n g,fj r n g)->j4 r.head ((["way", "choose"]:List Str).zip [H.int 2,.int 3])=none->j4 r.head ((["way"]:List Str).zip [H.int 2])=none->∃nd gv,wB r more nd gv:=by
  intro r a b c e f;refine⟨(1+more%4).toNat,m0 more,by grind,by grind,g1,g3,fun g J=>c _ _,fun q=>(by rw[a]at q;cases q),?_,?_⟩
  ·rw[e,b];show H.int (1+more%4)=_;rw[<- hn]
  ·rw[f];rfl
 cases h with
 | sum=>exact sD _ (by decide +kernel) (by decide +kernel) (fun n g=>.sum n g) rfl rfl
 | times=>exact sD _ (by decide +kernel) (by decide +kernel) (fun n g=>.times n g) rfl rfl
 | least=>exact sD _ (by decide +kernel) (by decide +kernel) (fun n g=>.least n g) rfl rfl
 | most=>exact sD _ (by decide +kernel) (by decide +kernel) (fun n g=>.most n g) rfl rfl
 | fixed v fg aR=>exact sD _ (show(("fixed" : Str) == "way")=false by decide +kernel) (show(("fixed" : Str) == "later")=false by decide +kernel) (fun n g=>.fixed v n g fg aR) rfl rfl
 | later =>
  refine⟨1,m0 more,by decide,by decide,g1,g3,fun g J=>.later g,fun q=>(by rw[show(cR.head (.word "later") == ("way" : Str))=false by decide +kernel]at q;cases q),?_,rfl⟩;rw[show(cR.head (.word "later") == ("later" : Str))=true by decide +kernel];rfl
 | way=>exact⟨2,2,by decide,by decide,by decide,by decide,fun g hg=>by rw[hg (by decide +kernel)];exact .way,fun J=>rfl,rfl,rfl⟩
 | choose=>exact⟨3,m0 more,by decide,by decide,g1,g3,fun g J=>.choose g,fun q=>(by rw[show(cR.head (.word "choose") == ("way" : Str))=false by decide +kernel]at q;cases q),rfl,rfl⟩
section
variable {d:Nat}{aD:ac}
theorem H7(a b:Nat):min (a:Int) (b:Int)=((min a b:Nat):Int):=by
 rcases Nat.le_total a b with h | h
 ·rw[Int.min_eq_left (Int.ofNat_le.mpr h),Nat.min_eq_left h]
 ·rw[Int.min_eq_right (Int.ofNat_le.mpr h),Nat.min_eq_right h]
theorem Nx{l:List Int}(hl:l.length<=63){cn:List Str}{b5:H}{many room:Option H}{k fl:Nat}{v:nV}{S:ac}(bw:db .len (.ref (aD.length+1)) S=.ok (.int (fl:Nat)) S) :
  ∃(pick more:Int) (r:cR) (n g:Nat),jj r/\wB r more n g/\∀rest,ex (CC (d+2)) topN (.cons yg (.cons yh (.cons yi (.cons yj (.cons yk (.cons yl (.cons ym rest)))))))
   (f5 aD l b5 many room cn (some (.int (k:Nat))) v) S=ex (CC (d+2)) topN rest (f5 aD l b5 many room cn (some (.int (k:Nat))) ⟨some (.int pick),some r.pv,some (.int more),some (.int (n:Nat)),some (.int ((min g fl:Nat):Int)),v.wt,v.md⟩) S:=by
 have bt:ev (CC (d+2)) (.call i2 #v[(.bin .add (.call g0 #v[(.v 0),(.bin .add (.bin .add (.v 1) (.k (.int 3))) (.bin .mod (.v 6) (.k (.int 8))))]) (.bin .mul (.k (.int 977)) (.v 6)))]) (f5 aD l b5 many room cn (some (.int (k:Nat))) v) S=_:=
  dN (cz (hJ (x:=.fl (l.map .int)) (y:=.int ((3+k%8:Nat):Int)) (aa:=S) (ao:=S) rfl (by rw[Int.natCast_add,Int.natCast_emod];rfl) (uK (d:=d+1) hl)) (y:=.int (977*(k:Int))) (ao:=S) rfl add_int) (ll (d:=d+1))
 generalize d8 (l.getD (3+k%8) 0+977*(k:Int))=pick at bt;refine aw (NT (p:=d8 pick) (eI (pick/5) (show(12:Int)≠0 by decide)) (fA (pick/5) (show(0:Int)<12 by decide))) fun r r1 PB=>?_;have aj:=fun{σ:ac}=>ll (d:=d+1) (σ:=σ) (p:=pick+1);generalize d8 (pick+1)=more at aj;refine hL (QZ r1 more) fun n g K=>?_;have hd:∀{ρ:aE},ev (CC (d+2)) (.v 10) ρ S=.ok r.pv S->ev (CC (d+2)) (.sub (.v 10) (.k (.int 0))) ρ S=.ok (.str r.head) S:=fun h=>cY h (y:=.int 0) (ao:=S) rfl (GA r1)
 have Qc:∀b:Bool,fU (.fl [.int (1+more%4),.int 1]) (.int (if b then 1 else 0)) S=.ok (.int (if b=true then 1 else 1+more%4)) S:=fun b=>by cases b <;> rfl
 refine⟨pick,more,r,n,g,r1,K,fun rest=>?_⟩;refine Eq.trans (al (a:=yg) (bR bt)) ?_;refine Eq.trans (al (a:=yh) (bR (hJ (dN (x:=.int pick) (aa:=S) rfl ll) (y:=.int (pick/5%12)) (ao:=S) rfl PB))) ?_;refine Eq.trans (al (a:=yi) (bR (dN (x:=.int (pick+1)) (aa:=S) rfl aj))) ?_;refine Eq.trans (al (a:=yj) (bR (cY (x:=.fl [.int (1+more%4),.int 1]) (aa:=S) rfl (c4 (iU (hd rfl) (y:=.str "later") (ao:=S) rfl pN) int_bool) (Qc _)))) ?_;refine Eq.trans (al (a:=yk) (bR ((CG (hd rfl) (y:=.int (if(r.head == ("later" : Str))=true then 1 else 1+more%4)) (ao:=S) rfl).trans (congrArg (fun x=>ai.ok x S) K.nd_eq)))) ?_;refine Eq.trans (al (a:=yl) (bR ((CG (hd rfl) (cY (x:=.fl [.int 1,.int 1,.int 1,.int 2,.int 3]) (aa:=S) rfl (y:=.int (more/4%5)) (ao:=S) rfl (kO (show(5:Nat)<=aB by decide) (eI (more/4) (show(5:Int)≠0 by decide)) (F2 more).1))).trans (congrArg (fun x=>ai.ok x S) K.gv_eq)))) ?_;exact Eq.trans (al (a:=ym) (bR (CI (x:=.int (g:Nat)) (aa:=S) rfl (c4 (x:=.ref (aD.length+1)) (aa:=S) rfl bw) (congrArg (fun x=>ai.ok (H.int x) S) (H7 g fl))))) rfl
theorem Wj{l:List Int}(hl:l.length<=63){names cn free:List Str}{b5:H}{many room:Option H}{steps:List aq}(hk:steps.length<20)
  (e9:∀τ (i:Nat),i<24->fU b5 (.int i) (aD++τ)=.ok (.str (names.getD i "")) (aD++τ)) (m7:1<=cn.length) (zt:cn.length<=100) (zc:free.length<=100)
  (oR:∀i,i<24->gL (names.getD i "")) (zu:∀n∈cn,gL n) (OV:∀n∈free,gL n) (rV:free.Nodup) (v:nV) :
  ∃b2:nV,
   (ex (CC (d+2)) topN uz (f5 aD l b5 many room cn (some (.int steps.length)) v) (bv aD (steps.map aq.pv) free) =
    .brk (f5 aD l b5 many room cn (some (.int steps.length)) b2) (bv aD (steps.map aq.pv) free)) ∨
   ∃s fw,hB s/\s.name=names.getD (23-steps.length) "" /\ (s.gives++fw).Perm free ∧
    ex (CC (d+2)) topN uz (f5 aD l b5 many room cn (some (.int steps.length)) v) (bv aD (steps.map aq.pv) free) =
    .next (f5 aD l b5 many room cn (some (.int steps.length)) b2) (bv aD ((steps++[s]).map aq.pv) fw):=by
 obtain⟨pick,more,r,n,g,r1,K,yF⟩:=Nx (d:=d) (aD:=aD) hl (cn:=cn) (b5:=b5) (many:=many) (room:=room) (k:=steps.length) (v:=v) (HM (p:=steps.map aq.pv) zc);have gl:min g free.length<=free.length:=Nat.min_le_right _ _;have yJ:min g free.length<=g:=Nat.min_le_left _ _;generalize min g free.length=gg at yF gl yJ;have FY:gg<=100:=aF gl zc
 have cond:tst (CC (d+2)) (.or #v[(.cmp (.v 13) .eq (.k (.int 0))),(.and #v[(.cmp (.sub (.v 10) (.k (.int 0))) .eq (.k (.str "way"))),(.cmp (.v 13) .lt (.k (.int 2)))])]) (f5 aD l b5 many room cn (some (.int steps.length)) ⟨some (.int pick),some r.pv,some (.int more),some (.int (n:Nat)),some (.int (gg:Nat)),v.wt,v.md⟩) (bv aD (steps.map aq.pv) free)=.ok (((gg:Int) == 0)||((r.head == ("way" : Str))&&decide ((gg:Int)<2))) (bv aD (steps.map aq.pv) free):=
  ib (qD (q:=(gg:Int) == 0) (aa:=bv aD (steps.map aq.pv) free) rfl fun J=>i9 (hh (lL (ch (cY (x:=r.pv) (y:=.int 0) (aa:=bv aD (steps.map aq.pv) free) (ao:=bv aD (steps.map aq.pv) free) rfl rfl (GA r1)) (y:=.str "way") (ao:=bv aD (steps.map aq.pv) free) rfl pN) fun J=>iH rfl)))
 cases hb:(((gg:Int) == 0)||((r.head == ("way" : Str))&&decide ((gg:Int)<2)))with
 | true =>
  rw[hb]at cond;exact⟨_,.inl ((yF _).trans (MV (a:=yn) ((cB cond).trans rfl)))⟩
 | false =>
  rw[hb]at cond;refine aP (Bool.or_eq_false_iff.mp hb) fun rK uP=>?_;have NO:1<=gg:=Nat.pos_of_ne_zero fun q=>k6.mp rK (by rw[q];rfl)
  have NQ:(r.head == ("way" : Str))=true->gg=2:=fun q=>by
   rw[q,Bool.true_and]at uP;exact Nat.le_antisymm (K.way q▸yJ) (Int.ofNat_le.mp (Int.not_lt.mp (of_decide_eq_false uP)))
  refine bC (Wz (d:=d+1) (σ:=bv aD (steps.map aq.pv) free) (more:=more) m7 zt K.n4 (s:=some (.fl (l.map .int))) (nm:=some b5) (many:=many) (room:=room) (pl:=some (.ref aD.length)) (k:=some (.int steps.length)) (fr:=some (.ref (aD.length+1))) (pick:=some (.int pick)) (rule:=some r.pv) (gv:=some (.int (gg:Nat))) (wt:=v.wt) (md:=v.md)) fun jf wc WC PZ=>?_;refine mT (Mk (d:=d+1) (aD:=aD) (p:=steps.map aq.pv) (more:=more) (List.range' 0 gg) free (by rw[List.length_range'];exact gl) zc) fun made fw dl dp OJ=>?_;rw[List.length_range']at dl
  have hr:cF 0 1 gg=(List.range' 0 gg).map fun(j:Nat)=>H.int j:=by
   unfold cF;rw[List.range_eq_range'];exact List.map_congr_left fun i J=>by rw[Int.mul_one,Int.zero_add]
  have Mo:ev (CC (d+2)) EQ (f5 aD l b5 many room cn (some (.int steps.length)) ⟨some (.int pick),some r.pv,some (.int more),some (.int (n:Nat)),some (.int (gg:Nat)),some (.fl (jf.map .str)),v.md⟩) (bv aD (steps.map aq.pv) free)=.ok (.fl (made.map .str)) (bv aD (steps.map aq.pv) fw):=by
   show ev (CC (d+2)) (.comp true 1 _ _ _ _) _ _=_;rw[ky,show(CC (d+2)).hd=false from rfl,qr (n:=gg) FY rfl,b0,hr];exact(congrArg (fun o:ai (List H)=>iS ((List.range' 0 gg).map fun(j:Nat)=>H.int j).length o fun ys σ=>er true ys σ) OJ).trans (nk (mx (by rw[dl];exact FY)))
  have J5:jf.length<=4:=wc▸K.n4;have CA:made.length<=3:=dl▸aF yJ K.g3;have QU:23-((steps.length:Nat):Int)=((23-steps.length:Nat):Int):=(Int.ofNat_sub (aF (hH hk) (by decide))).symm
  have Mm:ex (CC (d+2)) topN EV (f5 aD l b5 many room cn (some (.int steps.length)) ⟨some (.int pick),some r.pv,some (.int more),some (.int (n:Nat)),some (.int (gg:Nat)),some (.fl (jf.map .str)),some (.fl (made.map .str))⟩) (bv aD (steps.map aq.pv) fw)=.next (f5 aD l b5 many room cn (some (.int steps.length)) ⟨some (.int pick),some r.pv,some (.int more),some (.int (n:Nat)),some (.int (gg:Nat)),some (.fl (jf.map .str)),some (.fl (made.map .str))⟩) (bv aD ((steps++[aq.mk (names.getD (23-steps.length) "") r jf made]).map aq.pv) fw):=by
   refine gb (gW (m:=.append) (x:=.ref aD.length) (aa:=bv aD (steps.map aq.pv) fw) rfl (nl (.inl rfl)) (y:=aq.pv (aq.mk (names.getD (23-steps.length) "") r jf made)) (ao:=bv aD (steps.map aq.pv) fw) (ku (vs:=[.str (names.getD (23-steps.length) ""),r.pv,.tup (jf.map .str),.tup (made.map .str)]) (c7 (cY (x:=b5) (y:=.int (23-((steps.length:Nat):Int))) (aa:=bv aD (steps.map aq.pv) fw) (ao:=bv aD (steps.map aq.pv) fw) rfl rfl (QU▸e9 _ _ (hF (Nat.sub_le _ _) (by decide)))) (c7 (x:=r.pv) (aa:=bv aD (steps.map aq.pv) fw) rfl (c7 (c4 (x:=.fl (jf.map .str)) (aa:=bv aD (steps.map aq.pv) fw) rfl (JU (mx (aF J5 (by decide))))) (c7 (c4 (x:=.fl (made.map .str)) (aa:=bv aD (steps.map aq.pv) fw) rfl (JU (mx (aF CA (by decide))))) rfl)))) (show(4:Nat)<=aB by decide)) ?_);show ko (.ref aD.length) _ _=_;have iY:(bv aD (steps.map aq.pv) fw)[aD.length]?=some (.lst (steps.map aq.pv)):=rf;unfold ko;dsimp only;rw[iY];dsimp only;rw[az (by rw[bc];exact aF (Nat.succ_le_of_lt hk) (by decide)),fD];show ai.ok H.none ((aD++[aS.lst (steps.map aq.pv),.lst (fw.map .str)]).set aD.length _)=_;rw[List.set_append_right _ _ (c9 _),Nat.sub_self];rfl
  refine⟨_,.inr ⟨⟨names.getD (23-steps.length) "",r,jf,made⟩,fw,⟨oR _ (hF (Nat.sub_le _ _) (by decide)),fun w hw=>zu w (WC w hw),wc.symm▸K.n1,J5,fun w hw=>OV w (dp.subset (gO _ hw)),dl.symm▸NO,CA,(jo.mp (dp.nodup_iff.mpr rV)).1,?_⟩,rfl,dp,(yF _).trans ((al (a:=yn) (bD cond)).trans ((al (a:=EW) (bR PZ)).trans ((al (a:=EX) (bR Mo)).trans ((al Mm).trans bU))))⟩⟩;show fj r jf.length made.length;exact wc.symm▸dl.symm▸(K.ok gg NQ)
end
structure py(names:List Str)(steps:List aq)(free:List Str):Prop where
 ok:∀s∈steps,hB s
 nm:steps.map (·.name)=(List.range steps.length).map fun j=>names.getD (23-j) ""
 nd:(steps.flatMap (·.gives)++free).Nodup
 fr:∀n∈free,gL n
 len:free.length<=100
 fp:∀n∈free,jK n
 gp:∀s∈steps,∀g∈s.gives,jK g
section
variable {d:Nat}{aD:ac}
theorem RJ{l:List Int}(hl:l.length<=63){names cn:List Str}{b5:H}{many room:Option H}
  (e9:∀τ (i:Nat),i<24->fU b5 (.int i) (aD++τ)=.ok (.str (names.getD i "")) (aD++τ)) (m7:1<=cn.length) (zt:cn.length<=100)
  (oR:∀i,i<24->gL (names.getD i "")) (zu:∀n∈cn,gL n):∀(n:Nat) (steps:List aq) (free:List Str) (kk:Option H) (v:nV),steps.length+n<=20->py names steps free ->
  ∃(AT:List aq) (fw:List Str) (HD:Option H) (b2:nV),AT.length<=20/\py names AT fw ∧
   ct none (dH 6) (fun ρ σ=>ex (CC (d+2)) topN uz ρ σ) ((List.range' steps.length n).map fun(i:Nat)=>H.int i) (f5 aD l b5 many room cn kk v) (bv aD (steps.map aq.pv) free) =
    .next (f5 aD l b5 many room cn HD b2) (bv aD (AT.map aq.pv) fw):=by
 intro n
 induction n with
 | zero=>intro steps free kk v h I;exact⟨steps,free,kk,v,h,I,fN⟩
 | succ n ag =>
  intro steps free kk v h I;rw[List.range'_succ,dG];obtain⟨b2,T⟩:=Wj (d:=d) (aD:=aD) hl (many:=many) (room:=room) (steps:=steps) ((hF (e6 _ _) (by assumption))) e9 m7 zt I.len oR zu I.fr (jo.mp I.nd).2.1 v
  rcases T with T | ⟨s,fw,hf,sn,sp,T⟩
  ·exact⟨steps,free,some (.int steps.length),b2,aF (e6 _ _) h,I,Nq rfl T⟩
  ·have Kg:py names (steps++[s]) fw:=by
    refine⟨fun x hx=>?_,?_,?_,fun x hx=>I.fr x (sp.subset (fk _ hx)),?_,fun x hx=>I.fp x (sp.subset (fk _ hx)),fun x hx g hg=>?_⟩
    ·rcases c2.mp hx with q | q
     ·exact I.ok x q
     ·rw[dt.mp q];exact hf
    ·rw[fD,I.nm,da,List.length_singleton,List.range_succ,fD,List.map_singleton,List.map_singleton,sn]
    ·have:((steps++[s]).flatMap (·.gives)++fw).Perm (steps.flatMap (·.gives)++free):=by
      rw[List.flatMap_append,ey];refine List.Perm.append_left _ ?_;simpa using sp
     exact this.nodup_iff.mpr I.nd
    ·have:=sp.length_eq;rw[da]at this;have:=I.len
     (grind)
    ·rcases c2.mp hx with q | q
     ·exact I.gp x q g hg
     ·rw[dt.mp q]at hg;exact I.fp g (sp.subset (gO _ hg))
   obtain⟨UU,Nu,Q1,bu,q1,q2,q3⟩:=ag (steps++[s]) fw (some (.int steps.length)) b2 (by rw[da,List.length_singleton];(grind)) Kg;refine⟨UU,Nu,Q1,bu,q1,q2,(fv rfl T).trans ?_⟩;rw[da,List.length_singleton]at q3;exact q3
theorem ss{f:H->Option PyData}:∀{xs:List H},(∀x∈xs,∃d,f x=some d)->∃ds,xs.mapM f=some ds/\ds.length=xs.length
 | [],_=>⟨[],rfl,rfl⟩
 | x::xs,h=>by
  obtain⟨e,he⟩:=h x ((bi));refine aw (ss (xs:=xs) fun y hy=>h y (bI _ hy)) fun es OO hl=>?_;exact⟨e::es,by rw[List.mapM_cons,he,OO];rfl,by simp[hl]⟩
theorem JE{σ:ac}{m:Nat}(l:List Str):∃e,toD (m+2) σ (.tup (l.map .str))=some e:=by
 obtain⟨ds,h,_⟩:=ss (f:=toD (m+1) σ) (xs:=l.map .str) fun x hx=>by refine aw (cK.mp hx) fun w J ae=>?_;obtain rfl:=ae;exact⟨.str w,rfl⟩
 exact⟨.tuple ds,by show((l.map H.str).mapM (toD (m+1) σ)).map PyData.tuple=_;rw[h];rfl⟩
theorem A4{σ:ac}{m:Nat}(s:aq):∃e,toD (m+3) σ s.pv=some e:=by
 obtain⟨ds,h,_⟩:=ss (f:=toD (m+2) σ) (xs:=[.str s.name,s.rule.pv,.tup (s.needs.map .str),.tup (s.gives.map .str)]) fun x hx=>by
  simp only[bE,dT,or_false]at hx
  rcases hx with q | q | q | q
  ·subst q;exact⟨.str s.name,rfl⟩
  ·subst q;cases s.rule with
   | word w=>exact⟨.tuple [.str w],rfl⟩
   | fixed v=>exact⟨.tuple [.str "fixed",.int v],rfl⟩
  ·subst q;exact JE _
  ·subst q;exact JE _
 exact⟨.tuple ds,by show(([H.str s.name,s.rule.pv,.tup (s.needs.map .str),.tup (s.gives.map .str)]).mapM (toD (m+2) σ)).map PyData.tuple=_;rw[h];rfl⟩
theorem CP{σ:ac}{i:Nat}{steps:List aq}(iY:σ[i]?=some (.lst (steps.map aq.pv))):cQ .eq (.ref i) (.fl []) σ=.ok (decide (steps=[])) σ:=by
 obtain⟨ds,h,hl⟩:=ss (f:=toD 15 σ) (xs:=steps.map aq.pv) fun x hx=>by refine aw (cK.mp hx) fun s J ae=>?_;obtain rfl:=ae;exact A4 (m:=12) s
 have e:toD 16 σ (.ref i)=some (.list ds):=by
  show(match σ[i]? with | some (.lst xs)=>(xs.mapM (toD 15 σ)).map PyData.list | _=>none)=_;rw[iY];dsimp only;rw[h];rfl
 show ai.ofOpt (eqv σ (.ref i) (.fl [])) σ=_;unfold eqv;rw[e];show ai.ok (PyData.eqv (.list ds) (.list [])) σ=_;rw[bc]at hl
 cases steps with
 | nil =>
  have:ds=[]:=hY hl;subst this;rfl
 | cons s steps =>
  cases ds with
  | nil=>(exact nomatch hl)
  | cons x ds=>rw[show decide (s::steps=[])=false from gR (by(intro q;exact nomatch q))];rfl
theorem uJ{names:List Str}{i:Nat}(h:i<names.length):names.getD i "" = names[i]:=by rw[k4,dx h];rfl
theorem qb{names:List Str}(hl:names.length=24)(i:Nat):23-i<names.length:=hl▸hF (Nat.sub_le _ _) (by decide)
theorem Qn{names:List Str}(hn:names.Nodup)(hl:names.length=24){steps:List aq}{free:List Str}(I:py names steps free)(L:1<=steps.length)(O:steps.length<=20):d2 steps:=by
 refine⟨L,O,I.ok,?_,(jo.mp I.nd).1⟩;rw[I.nm,List.Nodup,List.pairwise_map];refine List.Pairwise.imp_of_mem ?_ (List.nodup_range (n:=steps.length));intro i j hi a0 dc e;have up:∀{i:Nat},i∈List.range steps.length->i<=23:=fun h=>aF (hH (List.mem_range.mp h)) (aF O (by decide));rw[uJ (qb hl i),uJ (qb hl j)]at e;have e:=(List.getElem?_inj (qb hl i) hn).mp (show names[23-i]?=names[23-j]? by rw[dx (qb hl i),dx (qb hl j),e]);exact dc (by rw[<- Nat.sub_sub_self (up hi),e,Nat.sub_sub_self (up a0)])
theorem Qm{names:List Str}(hl:names.length=24){steps:List aq}{free:List Str}(I:py names steps free){s:aq}(hs:s∈steps):s.name∈names:=by
 have h:s.name∈steps.map (·.name):=cK.mpr ⟨s,hs,rfl⟩;rw[I.nm]at h;refine aw (cK.mp h) fun j J e=>?_;exact e▸(uJ (qb hl j)).symm▸(km _)
theorem Ss{names:List Str}(hl:names.length=24){v:H}(h:(v=.fl (names.map .str)/\aD=[])\/(v=.ref 0/\aD=[.lst (names.map .str)])):∀τ (i:Nat),i<24->fU v (.int i) (aD++τ)=.ok (.str (names.getD i "")) (aD++τ):=by
 intro τ i hi;have il:i<names.length:=hl▸hi
 have hg:(names.map H.str)[(i:Int).toNat]?=some (.str (names.getD i "")):=by
  rw[fB,uJ il,Int.toNat_natCast,dx il];rfl
 have fP:(names.map H.str).length<=aB:=mx (hl▸(by decide))
 rcases h with⟨rfl,rfl⟩ | ⟨rfl,rfl⟩
 ·exact kO fP ((fm _)) hg
 ·exact Jt (by rfl) fP ((fm _)) hg
end
section
variable {d:Nat}{σ:ac}
theorem cell_call{l:List Int}(hl:l.length<=63){j:Nat}{a:X}{ρ:aE}(h0:ev (CC (d+2)) (.v 0) ρ σ=.ok (.fl (l.map .int)) σ)(ha:ev (CC (d+2)) a ρ σ=.ok (.int j) σ):ev (CC (d+2)) (.call g0 #v[(.v 0),a]) ρ σ=.ok (.int (l.getD j 0)) σ:=
 hJ h0 ha (uK hl)
theorem ND{xs:List Int}{lo hi i:Nat}(h:xs.all (fun x=>decide ((lo:Int)<=x)&&decide (x<=(hi:Int)))=true)(GG:i<xs.length):∃q:Nat,lo<=q/\q<=hi/\xs.getD i 0=q:=by
 rw[k4,dx GG];have m:=fC.mp h _ (km GG);refine aP (cV m) fun aV ck=>?_;have aV:=hZ aV;refine aJ (iN (Int.le_trans (fm lo) aV)) fun q hq=>?_;rw[hq]at aV ck;exact⟨q,Int.ofNat_le.mp aV,Int.ofNat_le.mp (hZ ck),hq⟩
theorem IS{xs:List Int}{lo hi:Nat}{ρ:aE}{C:bh}{a b:X}{c:Int}(h:xs.all (fun x=>decide ((lo:Int)<=x)&&decide (x<=(hi:Int)))=true)(h0:0<xs.length)(hl:xs.length<=100)(ha:ev C a ρ σ=.ok (.fl (xs.map .int)) σ)(hb:ev C b ρ σ=.ok (.int (c%(xs.length:Nat))) σ):∃q:Nat,lo<=q/\q<=hi/\ev C (.sub a b) ρ σ=.ok (.int (q:Nat)) σ:=by
 have Ha:=eI c (Int.ofNat_ne_zero.mpr (cS h0));have bS:=A5 Ha (fA c (d3.mpr h0));refine bC (ND h bS) fun q q1 q2 hq=>?_;refine⟨q,q1,q2,cY ha hb (kO (by rw[bc];exact aF hl (by decide)) Ha ?_)⟩;rw[fB,dx bS,<- hq,k4,dx bS];rfl
theorem F1{xs:List Str}{i:Nat}(h:i<xs.length):xs.getD i "" ∈ xs:=by
 rw[k4,dx h];exact km h
noncomputable abbrev kf(l:List Int)(b5:H)(a b c e f:Option H):aE:=wE (some (.fl (l.map .int))) (some b5) a b c none e f none none none none none none none
theorem RQ{l:List Int}{b5:H}(hl:l.length<=63):∃many:Nat,1<=many/\many<=20/\∀r,ex (CC (d+2)) topN (.cons ux (.cons uy r)) (kf l b5 none none none none none) σ=ex (CC (d+2)) topN r (kf l b5 (some (.int (many:Nat))) none none none none) σ:=by
 have cell:∀{a:Option H},ev (CC (d+2)) (.call g0 #v[(.v 0),(.bin .add (.v 1) (.k (.int 1)))]) (kf l b5 a none none none none) σ=.ok (.int (l.getD 1 0)) σ:=fun{a}=>cell_call hl (j:=1) rfl rfl;refine bC (IS (lo:=1) (hi:=20) (xs:=[1,2,3,4,6,8]) (c:=l.getD 1 0) (ρ:=kf l b5 none none none none none) (a:=.lst true #v[(.k (.int 1)),(.k (.int 2)),(.k (.int 3)),(.k (.int 4)),(.k (.int 6)),(.k (.int 8))]) rfl (by decide) (by decide) rfl (cz cell (b:=.k (.int 6)) (y:=.int 6) (ao:=σ) rfl (gq (by decide)))) fun q q1 q2 V=>?_
 have cC:tst (CC (d+2)) (.cmp (.bin .mod (.bin .fdiv (.call g0 #v[(.v 0),(.bin .add (.v 1) (.k (.int 1)))]) (.k (.int 6))) (.k (.int 10))) .eq (.k (.int 1))) (kf l b5 (some (.int (q:Nat))) none none none none) σ=.ok (l.getD 1 0/6%10 == 1) σ:=
  ch (oG (by decide) (by decide) (by decide) cell) (y:=.int 1) (ao:=σ) rfl kx
 cases Gb:(l.getD 1 0/6%10 == 1)with
 | true =>
  rw[Gb]at cC;have lO:=fA (l.getD 1 0/60) (show(0:Int)<12 by decide);refine aJ (iN (eI (l.getD 1 0/60) (show(12:Int)≠0 by decide))) fun w hw=>?_;have aj:=oG (a:=60) (b:=12) (by decide) (by decide) (by decide) (cell (a:=some (.int (q:Nat))));rw[hw]at lO aj;exact⟨9+w,aF (by decide) (e6 9 w),Nat.add_le_add_left (Nat.le_of_lt_succ (d3.mp lO)) 9,fun r=>(al (a:=ux) (bR V)).trans (al (a:=uy) ((cB cC).trans ((al (a:=ES) (bR (cz (x:=.int 9) (aa:=σ) rfl aj add_int))).trans bU)))⟩
 | false =>
  rw[Gb]at cC;exact⟨q,q1,q2,fun r=>(al (a:=ux) (bR V)).trans (al (a:=uy) (bD cC))⟩
theorem Ue{l:List Int}{b5:H}{a:Option H}(hl:l.length<=63):∃room:Nat,2<=room/\room<=9/\∀r,ex (CC (d+2)) topN (.cons yd (.cons ET r)) (kf l b5 a none none none none) σ=ex (CC (d+2)) topN r (kf l b5 a (some (.int (room:Nat))) (some (.ref σ.length)) none none) (σ++[.lst []]):=by
 refine bC (IS (lo:=2) (hi:=9) (xs:=[2,4,6,9]) (c:=l.getD 2 0) (ρ:=kf l b5 a none none none none) (a:=.lst true #v[(.k (.int 2)),(.k (.int 4)),(.k (.int 6)),(.k (.int 9))]) rfl (by decide) (by decide) rfl (cz (cell_call (d:=d) (a:=.bin .add (.v 1) (.k (.int 2))) hl (j:=2) rfl rfl) (b:=.k (.int 4)) (y:=.int 4) (ao:=σ) rfl (gq (by decide)))) fun q q1 q2 V=>?_;exact⟨q,q1,q2,fun r=>(al (a:=yd) (bR V)).trans rfl⟩
section
variable {aD:ac}{names:List Str}{b5:H}(e9:∀τ (i:Nat),i<24->fU b5 (.int i) (aD++τ)=.ok (.str (names.getD i "")) (aD++τ))(fG:names.length=24)
include e9 fG
theorem Nv{l:List Int}{many room t:Nat}(a1:min (24:Int) ((room:Int)+many)=t)(O:t<=24):∀r,ex (CC (d+2)) topN (.cons ye (.cons yf r)) (kf l b5 (some (.int (many:Nat))) (some (.int (room:Nat))) (some (.ref aD.length)) none none) (aD++[.lst []])=ex (CC (d+2)) topN r (f5 aD l b5 (some (.int (many:Nat))) (some (.int (room:Nat))) (names.take t) none ⟨none,none,none,none,none,none,none⟩) (bv aD [] (names.take t)):=fun r=>by
 have iJ:(names.take t).length<=100:=by rw[List.length_take,fG];exact aF (Nat.min_le_right _ _) (by decide)
 have Pj:ev (CC (d+2)) (.min2 (.k (.int 24)) (.bin .add (.v 4) (.v 3))) (kf l b5 (some (.int (many:Nat))) (some (.int (room:Nat))) (some (.ref aD.length)) none none) (aD++[.lst []])=.ok (.int (t:Nat)) (aD++[.lst []]):=by
  refine CI (x:=.int 24) (y:=.int ((room:Int)+many)) (aa:=aD++[.lst []]) (ao:=aD++[.lst []]) rfl rfl ?_;show ai.ok (H.int (min (24:Int) ((room:Int)+many))) _=_;rw[a1]
 have gT:ev (CC (d+2)) EO (kf l b5 (some (.int (many:Nat))) (some (.int (room:Nat))) (some (.ref aD.length)) none none) (aD++[.lst []])=.ok (.ref (aD.length+1)) (bv aD [] (names.take t)):=by
  show ev (CC (d+2)) (.comp false 1 _ _ _ _) _ _=_;rw[ky,qr (n:=t) (aF O (by decide)) Pj,b0];dsimp only;rw[Ct (g:=fun x=>match x with | .int i=>.str (names.getD i.toNat "") | _=>.none) _ fun x hx=>?_]
  ·show er false _ _=_
   have Pf:(List.range t).map (fun k=>names.getD k "")=names.take t:=by
    refine List.ext_getElem (by rw[bc,List.length_range,List.length_take,fG,Nat.min_eq_left O]) fun i L J=>?_;rw[bc,List.length_range]at L;rw[List.getElem_map,List.getElem_range,List.getElem_take,k4,dx (fG▸gP L O)];rfl
   rw[AD (f:=fun k=>names.getD k "") fun k hk=>by rfl,Pf,z4 (mx iJ),da,ey];rfl
  ·refine aw (AE hx) fun k hk ae=>?_;obtain rfl:=ae;show((ev _ _ _ _).bind fun v σ=>ai.ok (some v) σ)=_;rw[cY (x:=b5) (y:=.int k) (aa:=aD++[.lst []]) (ao:=aD++[.lst []]) rfl rfl (e9 [.lst []] k (gP hk O))];rfl
 have sq:d0 (bv aD [] (names.take t)) (.ref (aD.length+1))=some ((names.take t).map .str):=by unfold d0;dsimp only;rw[tv]
 exact(al (a:=ye) (bR gT)).trans ((al (a:=yf) (bR (c4 (x:=.ref (aD.length+1)) (aa:=bv aD [] (names.take t)) rfl ((qk sq).trans (nk (mx iJ)))))).trans rfl)
theorem S6{l:List Int}{m o k:Option H}{sp free:List Str}{v:nV}:ex (CC (d+2)) topN yo (f5 aD l b5 m o sp k v) (bv aD [] free)=.next (f5 aD l b5 m o sp k v) (bv aD [aq.pv (aq.mk (names.getD 0 "") (.word "sum") [names.getD 0 ""] [names.getD 1 ""])] free):=by
 have gH:∀i:Nat,i<24->ev (CC (d+2)) (.sub (.v 2) (.k (.int (i:Nat)))) (f5 aD l b5 m o sp k v) (bv aD [] free)=.ok (.str (names.getD i "")) (bv aD [] free):=fun i hi =>
  cY (x:=b5) (y:=.int (i:Nat)) (aa:=bv aD [] free) (ao:=bv aD [] free) rfl rfl (e9 _ i hi)
 have n1:∀i:Nat,i<24->ev (CC (d+2)) (.tup #v[(.sub (.v 2) (.k (.int (i:Nat))))]) (f5 aD l b5 m o sp k v) (bv aD [] free)=.ok (.tup [.str (names.getD i "")]) (bv aD [] free):=fun i hi=>ku (vs:=[.str (names.getD i "")]) (c7 (gH i hi) rfl) (show(1:Nat)<=aB by decide);refine(cB (σ':=bv aD [] free) (ch (x:=.ref aD.length) (y:=.fl []) (aa:=bv aD [] free) (ao:=bv aD [] free) rfl rfl (CP (steps:=[]) rf))).trans ((al (a:=EY) (gb (gW (m:=.append) (x:=.ref aD.length) (aa:=bv aD [] free) rfl (nl (.inl rfl)) (y:=aq.pv (aq.mk (names.getD 0 "") (.word "sum") [names.getD 0 ""] [names.getD 1 ""])) (ao:=bv aD [] free) (ku (vs:=[.str (names.getD 0 ""),.tup [.str "sum"],.tup [.str (names.getD 0 "")],.tup [.str (names.getD 1 "")]]) (c7 (gH 0 (by decide)) (c7 (x:=.tup [.str "sum"]) (aa:=bv aD [] free) rfl (c7 (n1 0 (by decide)) (c7 (n1 1 (by decide)) rfl)))) (show(4:Nat)<=aB by decide)) ?_))).trans bU);show ko (.ref aD.length) _ _=_;have iY:(bv aD [] free)[aD.length]?=some (.lst []):=rf;unfold ko;dsimp only;rw[iY];dsimp only;rw[az (by decide)];show ai.ok H.none ((aD++[aS.lst [],.lst (free.map .str)]).set aD.length _)=_;rw[List.set_append_right _ _ (c9 _),Nat.sub_self];rfl
end
theorem S7{a b:Str}(ha:gL a)(hb:gL b):d2 [aq.mk a (.word "sum") [a] [b]]:=by
 refine⟨c9 1,(by show(1:Nat)<=20;decide),fun s hs=>?_,by simp,by simp⟩;rw[dt.mp hs];exact⟨ha,fun n hn=>by rw[dt.mp hn];exact ha,c9 1,(by show(1:Nat)<=4;decide),fun n hn=>by rw[dt.mp hn];exact hb,c9 1,(by show(1:Nat)<=3;decide),by simp,.sum _ _⟩
theorem NU{l:List Int}(hl:l.length<=63):∃p σ',d2 p/\(∀s∈p,jK s.name/\∀g∈s.gives,jK g)/\bz PP topN (d+3) Hh [.fl (l.map .int),.int 0] []=.ok (bk p) σ':=by
 refine Mw (NS (l.getD 0 0)) fun names fG o4 Ac Ad iZ=>?_
 obtain⟨b5,aD,OA,OU⟩:∃b5 aD,(∀d,bz PP topN (d+1) sf [.int (l.getD 0 0)] []=.ok b5 aD)/\((b5=.fl (names.map .str)/\aD=[])\/(b5=.ref 0/\aD=[.lst (names.map .str)])):=by
  rcases iZ with h | h
  ·exact⟨_,_,h,.inl ⟨rfl,rfl⟩⟩
  ·exact⟨_,_,h,.inr ⟨rfl,rfl⟩⟩
 have e9:=Ss (aD:=aD) fG OU;have oR:∀i,i<24->gL (names.getD i ""):=fun i hi=>Ac _ (F1 (fG▸hi));have hpl:∀i,i<24->jK (names.getD i ""):=fun i hi=>Ad _ (F1 (fG▸hi));refine bC (RQ (d:=d) (σ:=aD) (b5:=b5) hl) fun many Pe GR V=>?_;refine bC (Ue (d:=d) (σ:=aD) (b5:=b5) (a:=some (.int (many:Nat))) hl) fun room XI XJ bF=>?_;have dK:1<=min 24 (room+many):=Nat.le_min.mpr ⟨by decide,aF Pe (Nat.le_add_left _ _)⟩;have cC:min 24 (room+many)<=24:=Nat.min_le_left _ _;have h4:=Nv (d:=d) e9 fG (l:=l) (many:=many) (room:=room) (H7 24 (room+many)) cC;generalize min 24 (room+many)=t at dK cC h4
 have iJ:(names.take t).length=t:=by rw[List.length_take,fG];exact Nat.min_eq_left cC
 have tk:∀n∈names.take t,n∈names:=fun n hn=>List.mem_of_mem_take hn;have Kh:py names [] (names.take t):=⟨fun s hs=>(nomatch hs),rfl,o4.sublist (List.take_sublist _ _),fun n hn=>Ac n (tk n hn),aF (Nat.le_of_eq iJ) (aF cC (by decide)),fun n hn=>Ad n (tk n hn),fun s hs=>(nomatch hs)⟩;obtain⟨steps,free,kk,v,cq,I,GN⟩:=RJ (d:=d) (aD:=aD) hl (b5:=b5) (many:=some (.int (many:Nat))) (room:=some (.int (room:Nat))) (cn:=names.take t) e9 (by rw[iJ];exact dK) (by rw[iJ];exact aF cC (by decide)) oR (fun n hn=>Ac n (tk n hn)) many [] (names.take t) none ⟨none,none,none,none,none,none,none⟩ (by rw[List.length_nil,Nat.zero_add];exact GR) Kh
 have Qo:cF 0 1 many=(List.range' 0 many).map fun(i:Nat)=>H.int i:=by
  unfold cF;rw[List.range_eq_range'];exact List.map_congr_left fun i J=>by rw[Int.mul_one,Int.zero_add]
 rw[List.length_nil,<- Qo]at GN;have oc:=gc (C:=CC (d+2)) (n:=topN) (i:=6) (it:=.range1 (.v 3)) (qr (n:=many) (aF GR (by decide)) rfl) GN
 obtain⟨p,hp,Pw,ro⟩:∃p,d2 p/\(∀s∈p,jK s.name/\∀g∈s.gives,jK g)/\ex (CC (d+2)) topN yo (f5 aD l b5 (some (.int (many:Nat))) (some (.int (room:Nat))) (names.take t) kk v) (bv aD (steps.map aq.pv) free)=.next (f5 aD l b5 (some (.int (many:Nat))) (some (.int (room:Nat))) (names.take t) kk v) (bv aD (p.map aq.pv) free):=by
  cases steps with
  | nil=>exact⟨_,S7 (oR 0 (by decide)) (oR 1 (by decide)),fun s hs=>by
    rw[dt.mp hs]
    exact⟨hpl 0 (by decide),fun g hg=>by rw[dt.mp hg];exact hpl 1 (by decide)⟩,S6 e9 fG⟩
  | cons c6 vT=>exact⟨c6::vT,Qn o4 fG I (Nat.succ_pos _) cq,fun s hs=>⟨Ad _ (Qm fG I hs),I.gp s hs⟩,bD (ch (x:=.ref aD.length) (y:=.fl []) (aa:=bv aD ((c6::vT).map aq.pv) free) (ao:=bv aD ((c6::vT).map aq.pv) free) rfl rfl ((CP (steps:=c6::vT) rf).trans rfl))⟩
 have sq:d0 (bv aD (p.map aq.pv) free) (.ref aD.length)=some (p.map aq.pv):=by unfold d0;dsimp only;rw[rf]
 refine⟨p,bv aD (p.map aq.pv) free,hp,Pw,?_⟩;rw[cx (fn:=EN) rfl rfl];exact(congrArg a5 ((al (a:=ER) (bR (dN (cell_call hl (j:=0) rfl rfl) (OA (d+1))))).trans ((V _).trans ((bF _).trans ((h4 _).trans ((al (a:=EU) oc).trans ((al ro).trans (bn (a:=EZ) (di (c4 (x:=.ref aD.length) (aa:=bv aD (p.map aq.pv) free) rfl ((qk sq).trans (az (Tt hp.most))))))))))))).trans rfl
end
section
variable {d:Nat}{σ:ac}
theorem w0{i a b:Int}:bz PP topN (d+1) lv [.int i,.int a,.int b] σ=.ok (.bool (decide (a<=i)&&decide (i<=b))) σ:=by
 rw[cx (fn:=xK) rfl rfl]
 have:ex (CC d) topN xK.body [some (.int i),some (.int a),some (.int b),none,none,none] σ=.ret (.bool (decide (a<=i)&&decide (i<=b))) [some (.int i),some (.int a),some (.int b),none,none,none] σ:=
  bn (di (mS (oj (aa:=σ) rfl (oj (aa:=σ) rfl (oe (xf rfl rfl rfl))))))
 exact(congrArg a5 this).trans rfl
theorem gS{τ cU:ac}{m:aS}:(τ++m::cU)[τ.length]?=some m:=by simp
theorem nx{τ cU:ac}{m bH:aS}:(τ++m::cU).set τ.length bH=τ++bH::cU:=by simp
theorem KD{es:List (Str×H)}{k:Str}:k∉es.map (·.1)->aG k es=none:=by
 intro h;unfold aG;rw[List.find?_eq_none.mpr]
 ·rfl
 ·intro e he q;exact h (cK.mpr ⟨e,he,hZ q⟩)
theorem B5{es:List (Str×H)}{k:Str}{v:H}(h:k∉es.map (·.1)):ee k v es=es++[(k,v)]:=by
 unfold ee;rw[aY];intro q;refine aw (List.any_eq_true.mp q) fun e he q=>?_;exact h (cK.mpr ⟨e,he,hZ q⟩)
theorem KE{es:List (Str×H)}{k:Str}:(aG k es).isSome=decide (k∈es.map (·.1)):=by
 by_cases h:k∈es.map (·.1)
 ·rw[ed h];refine aw (cK.mp h) fun e he q=>?_;unfold aG;rw[Option.isSome_map,List.find?_isSome];exact⟨e,he,ed q⟩
 ·rw[gR h,KD h];rfl
noncomputable def eW(p:List aq):List (Str×H):=p.flatMap fun s=>s.gives.map fun g=>(g,s.pv)
theorem F5(p:List aq):(eW p).map (·.1)=p.flatMap (·.gives):=by
 unfold eW;rw[List.map_flatMap];congr 1
 funext s
 rw[hI];exact List.map_id _
theorem U1{r:Nat}{es:List (Str×H)}{k:Str}{v:H}{ρ:aE}(hr:σ[r]?=some (.ds es))(hl:es.length<aB):hQ (.ref r) (.str k) v ρ σ=.next ρ (σ.set r (.ds (ee k v es))):=by
 have e:((σ[r]?).bind fun m=>qz m (.str k) v)=some (.ds (ee k v es)):=by rw[hr];exact az hl
 unfold hQ;dsimp only;rw[e]
theorem sT{r:Nat}{es:List ((Str×Int)×H)}{x:Str}{j:Int}{v:H}{ρ:aE}(hr:σ[r]?=some (.dp es))(hl:es.length<aB):hQ (.ref r) (.tup [.str x,.int j]) v ρ σ=.next ρ (σ.set r (.dp (ee (x,j) v es))):=by
 have e:((σ[r]?).bind fun m=>qz m (.tup [.str x,.int j]) v)=some (.dp (ee (x,j) v es)):=by rw[hr];exact az hl
 unfold hQ;dsimp only;rw[e]
theorem NI{pl s:H}{τ:ac}:∀(gs:List Str) (y:Option H) (es:List (Str×H)),es.length+gs.length<=1000->(es.map (·.1)++gs).Nodup ->
  ∃a3,ct none (dH 3) (fun ρ σ=>ex (CC d) topN DG ρ σ) (gs.map .str) [some pl,some (.ref τ.length),some s,y] (τ++[.ds es]) =
   .next [some pl,some (.ref τ.length),some s,a3] (τ++[.ds (es++gs.map fun g=>(g,s))]):=by
 intro gs
 induction gs with
 | nil=>intro y es _ _;exact⟨y,by simpa using fN⟩
 | cons g gs ag =>
  intro y es hl hn;have hk:g∉es.map (·.1):=fun q=>(jo.mp hn).2.2 g q g ((bi)) rfl;rw[dv]at hl;obtain⟨a3,e⟩:=ag (some (.str g)) (es++[(g,s)]) (by rw[da];show es.length+1+gs.length<=1000;(grind)) (by simpa using hn);refine⟨a3,(fv (bQ:=[some pl,some (.ref τ.length),some s,some (.str g)]) (eE:=[some pl,some (.ref τ.length),some s,some (.str g)]) (ao:=τ++[.ds (es++[(g,s)])]) rfl ?_).trans (e.trans (by simp))⟩;refine(al ?_).trans bU;show hQ (.ref τ.length) (.str g) s _ (τ++[.ds es])=_;rw[U1 gS (by rw[eM];(grind)),nx,B5 hk]
theorem NJ{pl:H}{τ:ac}:∀(p:List aq) (x y:Option H) (es:List (Str×H)),es.length+3*p.length<=1000->(∀s∈p,s.gives.length<=3)->(es.map (·.1)++p.flatMap (·.gives)).Nodup ->
  ∃aH a3,ct none (dH 2) (fun ρ σ=>ex (CC d) topN DF ρ σ) (p.map aq.pv) [some pl,some (.ref τ.length),x,y] (τ++[.ds es]) =
   .next [some pl,some (.ref τ.length),aH,a3] (τ++[.ds (es++eW p)]):=by
 intro p
 induction p with
 | nil=>intro x y es _ _ _;exact⟨x,y,by simpa[eW]using fN⟩
 | cons s p ag =>
  intro x y es hl ar hn;have hs:=ar s ((bi));rw[dv]at hl;rw[k8,<- ey]at hn;obtain⟨e2,V⟩:=NI (d:=d) (pl:=pl) (s:=s.pv) (τ:=τ) s.gives y es (by grind) (jo.mp hn).1
  have hk:(es++s.gives.map fun g=>(g,s.pv)).map (·.1)=es.map (·.1)++s.gives:=by
   rw[fD,hI];congr 1;exact List.map_id _
  obtain⟨aH,a3,aj⟩:=ag (some s.pv) e2 (es++s.gives.map fun g=>(g,s.pv)) (by rw[da,bc];(grind)) (fun t a1=>ar t (bI _ a1)) (hk.symm▸hn);refine⟨aH,a3,(fv (bQ:=[some pl,some (.ref τ.length),some s.pv,y]) (eE:=[some pl,some (.ref τ.length),some s.pv,e2]) (ao:=τ++[.ds (es++s.gives.map fun g=>(g,s.pv))]) rfl ?_).trans (aj.trans (by simp[eW]))⟩;exact(al (gc (ys:=s.gives.map .str) (aa:=τ++[.ds es]) rfl V)).trans bU
theorem F6{p:List aq}(h:d2 p):bz PP topN (d+1) va [bk p] σ=.ok (.ref σ.length) (σ++[.ds (eW p)]):=by
 rw[cx (fn:=xJ) rfl rfl];obtain⟨aH,a3,e⟩:=NJ (d:=d) (pl:=bk p) (τ:=σ) p none none [] (by show 0+3*p.length<=1000;have:=h.most;(grind)) (fun s hs=>(h.steps s hs).gives3) (by simpa using h.gives)
 have:ex (CC d) topN xJ.body [some (bk p),none,none,none] σ=.ret (.ref σ.length) [some (bk p),some (.ref σ.length),aH,a3] (σ++[.ds (eW p)]):=by
  refine rfl.trans ((al (gc (ys:=p.map aq.pv) (aa:=σ++[.ds []]) rfl e)).trans ?_);exact rfl
 exact(congrArg a5 this).trans rfl
end
section
variable {d:Nat}{σ:ac}
theorem Vv{ns:List Str}:(ns.map H.str).mapM (toD 16 σ)=some (ns.map PyData.str):=by
 induction ns with
 | nil=>rfl
 | cons n ns ag=>rw[dG,List.mapM_cons,ag];rfl
theorem R3{ns:List Str}{g:Str}:i5 σ (.str g) (ns.map .str)=some (decide (g∈ns)):=by
 unfold i5;rw[Vv];show some ((ns.map PyData.str).any fun y=>PyData.eqv y (.str g))=_;congr 1;rw[List.any_map]
 induction ns with
 | nil=>rfl
 | cons n ns ag =>
  rw[List.any_cons,ag];show(n == g||decide (g∈ns))=_;by_cases q:n=g
  ·subst q;simp
  ·rw[k6.mpr q];by_cases q2:g∈ns
   ·simp[q2]
   ·rw[gR q2,gR (by simp[q2];exact fun z=>q z.symm)];rfl
theorem sx{r:Nat}{ns:List Str}{g:Str}(h:σ[r]?=some (.lst (ns.map .str))):cQ .notin (.str g) (.ref r) σ=.ok (!decide (g∈ns)) σ:=by
 show ai.ofOpt ((ep (.str g) (.ref r) σ).map (!·)) σ=_
 have:ep (.str g) (.ref r) σ=some (decide (g∈ns)):=by
  unfold ep;dsimp only;exact h.symm▸R3
 rw[this];rfl
theorem IB{r:Nat}{es:List (Str×H)}{g:Str}(h:σ[r]?=some (.ds es)):cQ .notin (.str g) (.ref r) σ=.ok (!decide (g∈es.map (·.1))) σ:=by
 show ai.ofOpt ((ep (.str g) (.ref r) σ).map (!·)) σ=_
 have:ep (.str g) (.ref r) σ=some (decide (g∈es.map (·.1))):=by
  unfold ep;dsimp only;exact h.symm▸(congrArg some KE)
 rw[this];rfl
noncomputable def dW(G acc:List Str)(n:Str):List Str:=if(!decide (n∈G)&&!decide (n∈acc))=true then acc++[n]else acc
noncomputable def lF(G ns:List Str):List Str:=ns.foldl (dW G) []
theorem vH{G acc:List Str}{n:Str}:(dW G acc n).length<=acc.length+1:=by
 unfold dW;split
 ·simp
 ·(exact e6 _ _)
theorem sE{G:List Str}:∀(ns acc:List Str),(ns.foldl (dW G) acc).length<=acc.length+ns.length:=by
 intro ns
 induction ns with
 | nil=>intro acc;exact c9 _
 | cons n ns ag =>
  intro acc;rw[iO,dv];have L:=ag (dW G acc n);have O:=vH (G:=G) (acc:=acc) (n:=n)
  (grind)
theorem wS{τ:ac}{xs:List H}{v:H}(h:xs.length<1000):iC .append (.ref τ.length) [v] (τ++[.lst xs])=.ok .none (τ++[.lst (xs++[v])]):=B4 h
theorem Tc{pl s:H}{r:Nat}{es:List (Str×H)}{τ:ac}{w:Option H}(hr:τ[r]?=some (.ds es)):∀(ns:List Str) (y:Option H) (acc:List Str),acc.length+ns.length<=900 ->
  ∃a3,ct none (dH 4) (fun ρ σ=>ex (CC d) topN FC ρ σ) (ns.map .str) [some pl,some (.ref r),some (.ref τ.length),some s,y,w] (τ++[.lst (acc.map .str)]) =
   .next [some pl,some (.ref r),some (.ref τ.length),some s,a3,w] (τ++[.lst ((ns.foldl (dW (es.map (·.1))) acc).map .str)]):=by
 intro ns
 induction ns with
 | nil=>intro y acc _;exact⟨y,fN⟩
 | cons n ns ag =>
  intro y acc hl;rw[dv]at hl;obtain⟨a3,e⟩:=ag (some (.str n)) (dW (es.map (·.1)) acc n) (by have:=vH (G:=es.map (·.1)) (acc:=acc) (n:=n);(grind));refine⟨a3,(fv (bQ:=[some pl,some (.ref r),some (.ref τ.length),some s,some (.str n),w]) (eE:=[some pl,some (.ref r),some (.ref τ.length),some s,some (.str n),w]) (ao:=τ++[.lst ((dW (es.map (·.1)) acc n).map .str)]) rfl ?_).trans e⟩
  have zo:(τ++[aS.lst (acc.map .str)])[r]?=some (.ds es):=by
   rw[ik (dU hr).1];exact hr
  have t:tst (CC d) (.and #v[(.cmp (.v 4) .notin (.v 1)),(.cmp (.v 4) .notin (.v 2))]) [some pl,some (.ref r),some (.ref τ.length),some s,some (.str n),w] (τ++[.lst (acc.map .str)])=.ok (!decide (n∈es.map (·.1))&&!decide (n∈acc)) (τ++[.lst (acc.map .str)]):=
   hh (lL (ch (x:=.str n) (y:=.ref r) (aa:=τ++[.lst (acc.map .str)]) (ao:=τ++[.lst (acc.map .str)]) rfl rfl (IB zo)) fun J=>iH (ch (x:=.str n) (y:=.ref τ.length) (aa:=τ++[.lst (acc.map .str)]) (ao:=τ++[.lst (acc.map .str)]) rfl rfl (sx gS)))
  unfold dW
  cases hq:(!decide (n∈es.map (·.1))&&!decide (n∈acc))with
  | false =>
   rw[hq]at t;exact(al (bD t)).trans bU
  | true =>
   rw[hq]at t;rw[az rfl];refine(al ((cB t).trans ((al (gb (gW (m:=.append) (x:=.ref τ.length) (aa:=τ++[.lst (acc.map .str)]) rfl ?_ (y:=.str n) (ao:=τ++[.lst (acc.map .str)]) rfl (wS (by rw[bc];(grind)))))).trans ?_))).trans bU
   ·exact nl (.inl rfl)
   ·rw[fD];exact rfl
theorem Te{pl:H}{r:Nat}{es:List (Str×H)}{τ:ac}{w:Option H}(hr:τ[r]?=some (.ds es)):∀(p:List aq) (x y:Option H) (acc:List Str),acc.length+4*p.length<=900->(∀s∈p,s.needs.length<=4) ->
  ∃aH a3,ct none (dH 3) (fun ρ σ=>ex (CC d) topN FA ρ σ) (p.map aq.pv) [some pl,some (.ref r),some (.ref τ.length),x,y,w] (τ++[.lst (acc.map .str)]) =
   .next [some pl,some (.ref r),some (.ref τ.length),aH,a3,w] (τ++[.lst (((p.flatMap (·.needs)).foldl (dW (es.map (·.1))) acc).map .str)]):=by
 intro p
 induction p with
 | nil=>intro x y acc _ _;exact⟨x,y,fN⟩
 | cons s p ag =>
  intro x y acc hl aU;have hs:=aU s ((bi));rw[dv]at hl;obtain⟨e2,V⟩:=Tc (d:=d) (pl:=pl) (s:=s.pv) (w:=w) hr s.needs y acc (by grind);obtain⟨aH,a3,aj⟩:=ag (some s.pv) e2 (s.needs.foldl (dW (es.map (·.1))) acc) (by have:=sE (G:=es.map (·.1)) s.needs acc;(grind)) fun t a1=>aU t (bI _ a1);refine⟨aH,a3,(fv (bQ:=[some pl,some (.ref r),some (.ref τ.length),some s.pv,y,w]) (eE:=[some pl,some (.ref r),some (.ref τ.length),some s.pv,e2,w]) (ao:=τ++[.lst ((s.needs.foldl (dW (es.map (·.1))) acc).map .str)]) rfl ?_).trans (aj.trans (by rw[k8,List.foldl_append]))⟩;exact(al (gc (ys:=s.needs.map .str) (aa:=τ++[.lst (acc.map .str)]) rfl V)).trans bU
theorem Th{p:List aq}(h:d2 p):bz PP topN (d+2) zJ [bk p] σ=.ok (.ref (σ.length+1)) (σ++[.ds (eW p),.lst ((lF (p.flatMap (·.gives)) (p.flatMap (·.needs))).map .str)]):=by
 rw[cx (fn:=yx) rfl rfl]
 have hr:(σ++[aS.ds (eW p)])[σ.length]?=some (.ds (eW p)):=by simp
 obtain⟨aH,a3,e⟩:=Te (d:=d+1) (pl:=bk p) (w:=none) hr p none none [] (by show 0+4*p.length<=900;have:=h.most;(grind)) fun s hs=>(h.steps s hs).needs4;rw[F5]at e
 have hl:(σ++[aS.ds (eW p)]).length=σ.length+1:=by simp
 rw[hl]at e
 have:ex (CC (d+1)) topN yx.body [some (bk p),none,none,none,none,none] σ=.ret (.ref (σ.length+1)) [some (bk p),some (.ref σ.length),some (.ref (σ.length+1)),aH,a3,none] (σ++[.ds (eW p),.lst ((lF (p.flatMap (·.gives)) (p.flatMap (·.needs))).map .str)]):=by
  refine(al (a:=Fy) (ρ':=[some (bk p),some (.ref σ.length),none,none,none,none]) (σ':=σ++[.ds (eW p)]) (bR (dN (x:=bk p) (aa:=σ) rfl (F6 h)))).trans ?_;refine(al (a:=Fz) (ρ':=[some (bk p),some (.ref σ.length),some (.ref (σ++[aS.ds (eW p)]).length),none,none,none]) (σ':=σ++[.ds (eW p)]++[.lst []]) rfl).trans ?_;rw[hl];refine(al (gc (ys:=p.map aq.pv) (aa:=σ++[.ds (eW p)]++[.lst []]) rfl e)).trans (rfl.trans ?_);rw[ey];rfl
 exact(congrArg a5 this).trans rfl
end
section
variable {d:Nat}{σ:ac}
theorem RA{pl:H}{τ:ac}{u w:Option H}:∀(p:List aq) (x:Option H) (acc:List Str),acc.length+3*p.length<=900->(∀s∈p,s.gives.length<=3) ->
  ∃aH,ct none (dH 2) (fun ρ σ=>ex (CC d) topN EF ρ σ) (p.map aq.pv) [some pl,some (.ref τ.length),x,u,w] (τ++[.lst (acc.map .str)]) =
   .next [some pl,some (.ref τ.length),aH,u,w] (τ++[.lst ((acc++p.flatMap (·.gives)).map .str)]):=by
 intro p
 induction p with
 | nil=>intro x acc _ _;exact⟨x,by simpa using fN⟩
 | cons s p ag =>
  intro x acc hl ar;have hg:=ar s ((bi));rw[dv]at hl;obtain⟨aH,e⟩:=ag (some s.pv) (acc++s.gives) (by rw[da];(grind)) fun t a1=>ar t (bI _ a1);refine⟨aH,(fv (bQ:=[some pl,some (.ref τ.length),some s.pv,u,w]) (eE:=[some pl,some (.ref τ.length),some s.pv,u,w]) (ao:=τ++[.lst ((acc++s.gives).map .str)]) rfl ?_).trans (e.trans (by simp[k8]))⟩;refine(al (gb (gW (m:=.extend) (x:=.ref τ.length) (aa:=τ++[.lst (acc.map .str)]) (ao:=τ++[.lst (acc.map .str)]) rfl (nl (.inr (.inl rfl))) (y:=.tup (s.gives.map .str)) rfl ?_))).trans bU;show kz (.ref τ.length) (.tup (s.gives.map .str)) _=_;unfold kz;dsimp only;rw[gS];dsimp only;rw[az (by rw[bc,bc,eM];(grind)),nx,fD]
theorem RB{pl s:H}{r:Nat}{G:List Str}{τ:ac}(hr:τ[r]?=some (.lst (G.map .str))):∀(ns:List Str) (y:Option H) (acc:List Str),acc.length+ns.length<=900 ->
  ∃a3,ct none (dH 4) (fun ρ σ=>ex (CC d) topN EI ρ σ) (ns.map .str) [some pl,some (.ref r),some s,some (.ref τ.length),y] (τ++[.lst (acc.map .str)]) =
   .next [some pl,some (.ref r),some s,some (.ref τ.length),a3] (τ++[.lst ((ns.foldl (dW G) acc).map .str)]):=by
 intro ns
 induction ns with
 | nil=>intro y acc _;exact⟨y,fN⟩
 | cons n ns ag =>
  intro y acc hl;rw[dv]at hl;obtain⟨a3,e⟩:=ag (some (.str n)) (dW G acc n) (by have:=vH (G:=G) (acc:=acc) (n:=n);(grind));refine⟨a3,(fv (bQ:=[some pl,some (.ref r),some s,some (.ref τ.length),some (.str n)]) (eE:=[some pl,some (.ref r),some s,some (.ref τ.length),some (.str n)]) (ao:=τ++[.lst ((dW G acc n).map .str)]) rfl ?_).trans e⟩
  have zo:(τ++[aS.lst (acc.map .str)])[r]?=some (.lst (G.map .str)):=by
   rw[ik (dU hr).1];exact hr
  have t:tst (CC d) (.and #v[(.cmp (.v 4) .notin (.v 1)),(.cmp (.v 4) .notin (.v 3))]) [some pl,some (.ref r),some s,some (.ref τ.length),some (.str n)] (τ++[.lst (acc.map .str)])=.ok (!decide (n∈G)&&!decide (n∈acc)) (τ++[.lst (acc.map .str)]):=
   hh (lL (ch (x:=.str n) (y:=.ref r) (aa:=τ++[.lst (acc.map .str)]) (ao:=τ++[.lst (acc.map .str)]) rfl rfl (sx zo)) fun J=>iH (ch (x:=.str n) (y:=.ref τ.length) (aa:=τ++[.lst (acc.map .str)]) (ao:=τ++[.lst (acc.map .str)]) rfl rfl (sx gS)))
  unfold dW
  cases hq:(!decide (n∈G)&&!decide (n∈acc))with
  | false =>
   rw[hq]at t;exact(al (bD t)).trans bU
  | true =>
   rw[hq]at t;rw[az rfl];refine(al ((cB t).trans ((al (gb (gW (m:=.append) (x:=.ref τ.length) (aa:=τ++[.lst (acc.map .str)]) rfl ?_ (y:=.str n) (ao:=τ++[.lst (acc.map .str)]) rfl (wS (by rw[bc];(grind)))))).trans ?_))).trans bU
   ·exact nl (.inl rfl)
   ·rw[fD];exact rfl
theorem RC{pl:H}{r:Nat}{G:List Str}{τ:ac}(hr:τ[r]?=some (.lst (G.map .str))):∀(p:List aq) (x y:Option H) (acc:List Str),acc.length+4*p.length<=900->(∀s∈p,s.needs.length<=4) ->
  ∃aH a3,ct none (dH 2) (fun ρ σ=>ex (CC d) topN EH ρ σ) (p.map aq.pv) [some pl,some (.ref r),x,some (.ref τ.length),y] (τ++[.lst (acc.map .str)]) =
   .next [some pl,some (.ref r),aH,some (.ref τ.length),a3] (τ++[.lst (((p.flatMap (·.needs)).foldl (dW G) acc).map .str)]):=by
 intro p
 induction p with
 | nil=>intro x y acc _ _;exact⟨x,y,fN⟩
 | cons s p ag =>
  intro x y acc hl aU;have hs:=aU s ((bi));rw[dv]at hl;obtain⟨e2,V⟩:=RB (d:=d) (pl:=pl) (s:=s.pv) hr s.needs y acc (by grind);obtain⟨aH,a3,aj⟩:=ag (some s.pv) e2 (s.needs.foldl (dW G) acc) (by have:=sE (G:=G) s.needs acc;(grind)) fun t a1=>aU t (bI _ a1);refine⟨aH,a3,(fv (bQ:=[some pl,some (.ref r),some s.pv,some (.ref τ.length),y]) (eE:=[some pl,some (.ref r),some s.pv,some (.ref τ.length),e2]) (ao:=τ++[.lst ((s.needs.foldl (dW G) acc).map .str)]) rfl ?_).trans (aj.trans (by rw[k8,List.foldl_append]))⟩;exact(al (gc (ys:=s.needs.map .str) (aa:=τ++[.lst (acc.map .str)]) rfl V)).trans bU
theorem Rb{p:List aq}(h:d2 p):bz PP topN (d+1) vd [bk p] σ=.ok (.ref (σ.length+1)) (σ++[.lst ((p.flatMap (·.gives)).map .str),.lst ((lF (p.flatMap (·.gives)) (p.flatMap (·.needs))).map .str)]):=by
 rw[cx (fn:=x8) rfl rfl];obtain⟨aM,V⟩:=RA (d:=d) (pl:=bk p) (τ:=σ) (u:=none) (w:=none) p none [] (by show 0+3*p.length<=900;have:=h.most;(grind)) fun s hs=>(h.steps s hs).gives3;rw[List.nil_append]at V;generalize Xs:p.flatMap (·.gives)=G at V
 have hr:(σ++[aS.lst (G.map .str)])[σ.length]?=some (.lst (G.map .str)):=by simp
 obtain⟨aH,a3,e⟩:=RC (d:=d) (pl:=bk p) hr p aM none [] (by show 0+4*p.length<=900;have:=h.most;(grind)) fun s hs=>(h.steps s hs).needs4
 have hl:(σ++[aS.lst (G.map .str)]).length=σ.length+1:=by simp
 rw[hl]at e
 have:ex (CC d) topN x8.body [some (bk p),none,none,none,none] σ=.ret (.ref (σ.length+1)) [some (bk p),some (.ref σ.length),aH,some (.ref (σ.length+1)),a3] (σ++[.lst (G.map .str),.lst ((lF G (p.flatMap (·.needs))).map .str)]):=by
  refine rfl.trans ?_;refine(al (gc (ys:=p.map aq.pv) (aa:=σ++[.lst []]) rfl V)).trans ?_;refine(al (a:=EG) (ρ':=[some (bk p),some (.ref σ.length),aM,some (.ref (σ++[aS.lst (G.map .str)]).length),none]) (σ':=σ++[.lst (G.map .str)]++[.lst []]) rfl).trans ?_;rw[hl];refine(al (gc (ys:=p.map aq.pv) (aa:=σ++[.lst (G.map .str)]++[.lst []]) rfl e)).trans (rfl.trans ?_);rw[ey];rfl
 exact(congrArg a5 this).trans rfl
end
section
variable {d:Nat}{σ:ac}
theorem Nj{s:aq}(h:hB s):tg s:=by
 have k:∀n,gL n->n.length<=aB:=fun n q=>aF q.len (by decide);exact⟨k _ h.name,fun n hn=>k n (h.needs n hn),aF h.needs4 (by decide),fun n hn=>k n (h.gives n hn),aF h.gives3 (by decide)⟩
theorem Tu{p:List aq}(h:d2 p):∃τ,bz PP topN (d+4) vc [bk p] σ=.ok (.bool true) (σ++τ):=by
 obtain⟨τ,e⟩:=Gd (d:=d) (σ:=σ) (fun s hs=>Nj (h.steps s hs)) (aF h.most (by decide));rw[Ts.mpr h]at e;exact⟨τ,e⟩
end
noncomputable def yA(p:List aq)(n:Nat)(g o h gn od:Nat):List (Str×H):=[("plan",bk p),("turns",.int n),("givers",.ref g),("outer",.ref o),("here",.ref h),("gone",.ref gn),("order",.ref od)]
noncomputable def fS(p:List aq):List Str:=lF (p.flatMap (·.gives)) (p.flatMap (·.needs))
structure kU(p:List aq)(n:Nat)(es:List ((Str×Int)×H))(i g o h gn od:Nat)(σ:ac):Prop where
 ns:σ[i]?=some (.ns (yA p n g o h gn od))
 gv:σ[g]?=some (.ds (eW p))
 ot:σ[o]?=some (.lst ((fS p).map .str))
 hr:σ[h]?=some (.dp es)
 ne:h≠i/\h≠g/\h≠o
theorem kU.more{p:List aq}{n:Nat}{es:List ((Str×Int)×H)}{i g o h gn od:Nat}{σ τ:ac}(b:kU p n es i g o h gn od σ):kU p n es i g o h gn od (σ++τ):=by
 have k:∀{j:Nat} {m:aS},σ[j]?=some m->(σ++τ)[j]?=some m:=fun{j m} e=>by exact(ik (dU e).1).symm▸e
 exact⟨k b.ns,k b.gv,k b.ot,k b.hr,b.ne⟩
theorem kU.other{p:List aq}{n:Nat}{es:List ((Str×Int)×H)}{i g o h gn od j:Nat}{m:aS}{σ:ac}(b:kU p n es i g o h gn od σ)(a0:j≠i/\j≠g/\j≠o/\j≠h):kU p n es i g o h gn od (σ.set j m):=by
 have k:∀{a:Nat},j≠a->(σ.set j m)[a]?=σ[a]?:=fun{a} e=>List.getElem?_set_ne e;exact⟨(k a0.1).trans b.ns,(k a0.2.1).trans b.gv,(k a0.2.2.1).trans b.ot,(k a0.2.2.2).trans b.hr,b.ne⟩
theorem kU.put{p:List aq}{n:Nat}{es es':List ((Str×Int)×H)}{i g o h gn od:Nat}{σ:ac}(b:kU p n es i g o h gn od σ):kU p n es' i g o h gn od (σ.set h (.dp es')):=by
 have k:∀{a:Nat},h≠a->(σ.set h (.dp es'))[a]?=σ[a]?:=fun{a} e=>List.getElem?_set_ne e;exact⟨(k b.ne.1).trans b.ns,(k b.ne.2.1).trans b.gv,(k b.ne.2.2).trans b.ot,List.getElem?_set_self (dU b.hr).1,b.ne⟩
theorem Su:(("turns" : Str)∉(["plan"]:List Str))/\(("givers" : Str)∉(["plan", "turns"]:List Str))/\(("outer" : Str)∉(["plan", "turns", "givers"]:List Str))/\(("here" : Str)∉(["plan", "turns", "givers", "outer"]:List Str)) ∧
  (("gone" : Str)∉(["plan", "turns", "givers", "outer", "here"]:List Str))/\(("order" : Str)∉(["plan", "turns", "givers", "outer", "here", "gone"]:List Str)):=by decide +kernel
section
variable {d:Nat}{σ:ac}
noncomputable def cX(σ:ac)(i:Nat)(fs:List (Str×H))(cU:ac):ac:=σ.set i (.ns fs)++cU
theorem cX.len{i:Nat}{fs:List (Str×H)}{cU:ac}:(cX σ i fs cU).length=σ.length+cU.length:=by unfold cX;rw[da,List.length_set]
section
variable {C:bh}{N c i:Nat}{ρ:aE}{fs:List (Str×H)}{cU w:ac}{k:Str}{o x:X}
theorem cX.at_{j:Nat}{m:aS}(h:cU[j]?=some m):(cX σ i fs cU)[σ.length+j]?=some m:=by
 unfold cX;rw[iM (by rw[List.length_set];exact e6 _ _),List.length_set,Nat.add_sub_cancel_left];exact h
theorem cX.put{v:H}(hi:i<σ.length)(ho:∀{σ:ac},ev C o ρ σ=.ok (.inst c i) σ)(hx:ev C x ρ (cX σ i fs cU)=.ok v (cX σ i fs cU++w))(hk:k∉fs.map (·.1))(hl:Nat.ble fs.length 99=true):ex C N (.asgAttr c o k x) ρ (cX σ i fs cU)=.next ρ (cX σ i (fs++[(k,v)]) (cU++w)):=by
 have g:(cX σ i fs cU++w)[i]?=some (.ns fs):=by
  unfold cX;rw[ey,ik (by rw[List.length_set];exact hi)];exact List.getElem?_set_self hi
 show(ev C x ρ (cX σ i fs cU)).toS ρ (fun v σ=>(ev C o ρ σ).toS ρ fun o σ=>sS c o k v ρ σ)=_;rw[hx,gI,ho,gI];unfold sS;dsimp only;rw[az rfl,g];dsimp only;rw[az (Nat.lt_succ_of_le (Nat.le_of_ble_eq_true hl)),B5 hk];unfold cX;rw[ey,List.set_append_left _ _ (by rw[List.length_set];exact hi),List.set_set]
theorem cX.ref{j:Nat}(hi:i<σ.length)(ho:∀{σ:ac},ev C o ρ σ=.ok (.inst c i) σ)(hx:ev C x ρ (cX σ i fs cU)=.ok (.ref ((cX σ i fs cU).length+j)) (cX σ i fs cU++w))(hk:k∉fs.map (·.1))(hl:Nat.ble fs.length 99=true):ex C N (.asgAttr c o k x) ρ (cX σ i fs cU)=.next ρ (cX σ i (fs++[(k,.ref (σ.length+cU.length+j))]) (cU++w)):=
 cX.put hi ho (by rw[cX.len]at hx;exact hx) hk hl
end
theorem Qi{p:List aq}{n i:Nat}{ρ:aE}(h:d2 p)(hi:i<σ.length)(e:σ[i]?=some (.ns []))(kL:∀{σ:ac},ev (CC (d+4)) (.v 0) ρ σ=.ok (.inst aT i) σ)(jw:∀{σ:ac},ev (CC (d+4)) (.v 1) ρ σ=.ok (bk p) σ)(bL:∀{σ:ac},ev (CC (d+4)) (.v 2) ρ σ=.ok (.int n) σ) :
  ex (CC (d+4)) topN #v[tX,tY,tZ,t0,t1,t2,t3] ρ σ=.next ρ (cX σ i (yA p n σ.length (σ.length+2) (σ.length+3) (σ.length+4) (σ.length+5)) [.ds (eW p),.ds (eW p),.lst ((fS p).map .str),.dp [],.dp [],.lst []]):=by
 have s:σ=cX σ i [] []:=by
  unfold cX;rw[List.append_nil,<- oi ((dx hi).symm.trans e)];exact(List.set_getElem_self hi).symm
 have nil:∀{x:X} {v:H} {fs:List (Str×H)},ev (CC (d+4)) x ρ (cX σ i fs [])=.ok v (cX σ i fs [])->ev (CC (d+4)) x ρ (cX σ i fs [])=.ok v (cX σ i fs []++[]):=fun h=>by rw[List.append_nil];exact h
 refine tR Su fun f1 f2 rt tW ox C9=>?_;refine(congrArg _ s).trans ?_;refine Eq.trans (al (a:=tX) (cX.put hi kL (nil jw) dT rfl)) ?_;refine Eq.trans (al (a:=tY) (cX.put hi kL (nil bL) f1 rfl)) ?_;refine Eq.trans (al (a:=tZ) (cX.ref (j:=0) (w:=[.ds (eW p)]) hi kL (dN (f:=va) jw (F6 (d:=d+3) h)) f2 rfl)) ?_;refine Eq.trans (al (a:=t0) (cX.ref (j:=1) (w:=[.ds (eW p),.lst ((fS p).map .str)]) hi kL (dN (f:=zJ) jw (Th (d:=d+2) h)) rt rfl)) ?_;refine Eq.trans (al (a:=t1) (cX.ref (j:=0) (w:=[.dp []]) hi kL rfl tW rfl)) ?_;refine Eq.trans (al (a:=t2) (cX.ref (j:=0) (w:=[.dp []]) hi kL rfl ox rfl)) ?_;exact Eq.trans (al (a:=t3) (cX.ref (j:=0) (w:=[.lst []]) hi kL rfl C9 rfl)) rfl
theorem Qj{p:List aq}{n:Nat}(h:d2 p)(L:1<=n)(O:n<=200):∃(cU:ac) (g o hr gn od:Nat),bz PP topN (d+5) zz [.inst aT σ.length,bk p,.int n] (σ++[.ns []])=.ok .none (σ++cU)/\kU p n [] σ.length g o hr gn od (σ++cU)/\σ.length<g/\σ.length<o/\σ.length<hr/\(σ.length<g/\g<o/\o<hr/\hr<gn/\gn<od)/\(σ++cU)[gn]?=some (.dp [])/\(σ++cU)[od]?=some (.lst []):=by
 refine aJ (Tu (d:=d) (σ:=σ++[.ns []]) h) fun τ hp=>?_
 have V:(σ++[aS.ns []]++τ)[σ.length]?=some (.ns []):=by rw[ey];exact gS
 have eq:∀{fs:List (Str×H)} {cU:ac},cX (σ++[aS.ns []]++τ) σ.length fs cU=σ++(.ns fs::τ++cU):=fun{fs cU}=>by
  unfold cX;rw[ey σ,List.singleton_append,nx,ey]
 have c6:=al (n:=topN) (a:=Dc) (r:=.cons xv #v[tX,tY,tZ,t0,t1,t2,t3]) (ρ:=[some (.inst aT σ.length),some (bk p),some (.int n),none,none,none,none,none,none,none]) (bD (fV (q:=true) (iI (dN (C:=CC (d+4)) (x:=bk p) rfl hp))));have il:σ.length<(σ++[aS.ns []]++τ).length:=(dU V).1
 have at_:=fun(fs:List (Str×H)) (cU:ac) {j:Nat} {m:aS}=>cX.at_ (σ:=σ++[aS.ns []]++τ) (i:=σ.length) (fs:=fs) (cU:=cU) (j:=j) (m:=m)
 generalize σ++[aS.ns []]++τ=bq at c6 V eq il at_
 have cT:ex (CC (d+4)) topN xv [some (.inst aT σ.length),some (bk p),some (.int n),none,none,none,none,none,none,none] bq=.next [some (.inst aT σ.length),some (bk p),some (.int n),none,none,none,none,none,none,none] bq:=by
  refine bD (fV (q:=true) (iI (lV (f:=lv) (x:=.int n) (y:=.int 1) (z:=.int 200) (aa:=bq) (ao:=bq) (gJ:=bq) rfl rfl rfl ?_)));show bz PP topN (d+4) lv [.int n,.int 1,.int 200] bq=_;rw[w0,ed (show(1:Int)<=n from Int.ofNat_le.mpr L),ed (show(n:Int)<=200 from Int.ofNat_le.mpr O)];rfl
 have body:=c6.trans ((al cT).trans (Qi h il V rfl rfl rfl));rw[eq]at body;have lt:∀j,σ.length<bq.length+j:=fun j=>gP il (e6 _ _);have up:∀{j k:Nat},j<k->bq.length+j<bq.length+k:=fun h=>Nat.add_lt_add_left h _;rw[cx (fn:=Db) rfl rfl];refine⟨_,bq.length+0,bq.length+2,bq.length+3,bq.length+4,bq.length+5,(congrArg a5 body).trans rfl,?_⟩;rw[<- eq];refine⟨⟨?_,at_ _ _ rfl,at_ _ _ rfl,at_ _ _ rfl,cS (lt 3),cS (up (by decide)),cS (up (by decide))⟩,lt 0,lt 2,lt 3,⟨lt 0,up (by decide),up (by decide),up (by decide),up (by decide)⟩,at_ _ _ rfl,at_ _ _ rfl⟩;rw[eq];exact gS
end
theorem Tb{G acc:List Str}{n x:Str}:x∈dW G acc n ↔ x∈acc\/(x=n/\n∉G):=by
 unfold dW;by_cases L:n∈G
 ·rw[ed L];exact⟨.inl,fun h=>h.elim id fun z=>absurd L z.2⟩
 ·rw[gR L];by_cases O:n∈acc
  ·rw[ed O];exact⟨.inl,fun h=>h.elim id fun z=>z.1▸O⟩
  ·rw[gR O];show x∈acc++[n] ↔ _;rw[c2,dt];exact⟨fun h=>h.imp id fun z=>⟨z,L⟩,fun h=>h.imp id fun z=>z.1⟩
theorem Ak{G:List Str}{x:Str}:∀(ns acc:List Str),x∈ns.foldl (dW G) acc ↔ x∈acc\/(x∈ns/\x∉G):=by
 intro ns
 induction ns with
 | nil=>intro acc;exact⟨.inl,fun h=>h.elim id fun z=>nomatch z.1⟩
 | cons n ns ag =>
  intro acc;rw[iO,ag,Tb,bE];constructor
  ·rintro((h | ⟨rfl,h⟩) | h)
   ·exact .inl h
   ·exact .inr ⟨.inl rfl,h⟩
   ·exact .inr ⟨.inr h.1,h.2⟩
  ·rintro(h | ⟨rfl | h,h'⟩)
   ·exact .inl (.inl h)
   ·exact .inl (.inr ⟨rfl,h'⟩)
   ·exact .inr ⟨h,h'⟩
theorem Aj{p:List aq}{x:Str}:x∈fS p ↔ x∈p.flatMap (·.needs)/\x∉p.flatMap (·.gives):=by
 unfold fS lF;rw[Ak];exact⟨fun h=>h.elim (fun z=>nomatch z) id,.inr⟩
theorem zR{α:Type}{l:List α}(h:l.length=2):∃a b,l=[a,b]:=by
 cases l with
 | nil=>contradiction
 | cons a l =>
  cases l with
  | nil=>exact nomatch Nat.succ.inj h
  | cons b l =>
   cases l with
   | nil=>exact⟨a,b,rfl⟩
   | cons c l=>exact nomatch Nat.succ.inj (Nat.succ.inj h)
theorem p9{α:Type}{l:List α}(h:l.length=3):∃a b c,l=[a,b,c]:=by
 cases l with
 | nil=>contradiction
 | cons a l =>
  refine hL (zR (Nat.succ.inj h)) fun b c ae=>?_;obtain rfl:=ae;exact⟨a,b,c,rfl⟩
section
variable {C:bh}{ρ:aE}{σ aa ao:ac}
theorem gV{c i:Nat}{o:X}{n:Str}{v:H}{fs:List (Str×H)}(ho:ev C o ρ σ=.ok (.inst c i) aa)(hs:aa[i]?=some (.ns fs))(hv:aG n fs=some v):ev C (.attr c o n) ρ σ=.ok v aa:=by
 rw[CY,ho,b0];unfold rg;dsimp only;rw[az rfl,hs];dsimp only;rw[hv];rfl
theorem gE{c i f:Nat}{o args:X}{n:Str}{vs:List H}{fs:List (Str×H)}{r:ai H}(ho:ev C o ρ σ=.ok (.inst c i) aa)(hs:aa[i]?=some (.ns fs))(hn:aG n fs=none)(ha:evs C args ρ aa=.ok vs ao)(h:C.call f (.inst c i::vs) ao=r):ev C (.meth c f n o args) ρ σ=r:=by
 rw[C2,ho,b0];unfold nj;dsimp only;rw[az rfl,hs];dsimp only;rw[hn];dsimp only;exact ha.symm▸h
end
section
variable {p:List aq}{n g o h gn od:Nat}
end
section
variable {C:bh}{ρ:aE}{σ:ac}
theorem Cs{f:H->ac->ai (Option H)}{q:H->Option H}:∀(xs:List H),(∀x∈xs,f x σ=.ok (q x) σ)->dM none f xs σ=.ok (xs.filterMap q) σ:=by
 intro xs
 induction xs with
 | nil=>intro _;exact az trivial
 | cons x xs ag =>
  intro h;refine(az trivial).trans ?_;rw[h x bi];show(dM none f xs σ).bind _=_;rw[ag fun y hy=>h y (bI _ hy)];show ai.ok (w7 (q x) (xs.filterMap q)) σ=_;rw[List.filterMap_cons];cases q x <;> rfl
theorem pI{t:Nat}{b9:List (Option Nat)}{elt cond it:X}{xs:List H}(q:H->Option H)(bO:evIt C it ρ σ=.ok (xs,none) σ)(hl:xs.length<=aB)
  (hc:∀x∈xs,tst C cond ((cy b9 ρ).set t (some x)) σ=.ok (q x).isSome σ) (he:∀x∈xs,∀v,q x=some v->ev C elt ((cy b9 ρ).set t (some x)) σ=.ok v σ) (aO:C.hd=false:=by first | rfl | assumption) :
  ev C (.comp true t b9 elt cond it) ρ σ=.ok (.fl (xs.filterMap q)) σ:=by
 rw[ky,aO,bO];show iS xs.length (dM none (fun x σ=>((tst C cond ((cy b9 ρ).set t (some x)) σ).bind fun b σ=>if b=true then(ev C elt ((cy b9 ρ).set t (some x)) σ).bind fun v σ=>.ok (some v) σ else .ok none σ)) xs σ) _=_
 rw[Cs (q:=q) xs fun x hx=>by
  show(tst C cond ((cy b9 ρ).set t (some x)) σ).bind _=_;rw[hc x hx,b0]
  cases hq:q x with
  | none=>rfl
  | some v =>
   show(ev C elt ((cy b9 ρ).set t (some x)) σ).bind _=_
   rw[he x hx v hq];rfl]
 exact nk (aF (List.length_filterMap_le _ _) hl)
theorem L5{t:Nat}{b9:List (Option Nat)}{elt cond it:X}{xs:List H}(q:H->Option H)(bO:evIt C it ρ σ=.ok (xs,none) σ)(hl:xs.length<=aB)
  (hc:∀x∈xs,tst C cond ((cy b9 ρ).set t (some x)) σ=.ok (q x).isSome σ) (he:∀x∈xs,∀v,q x=some v->ev C elt ((cy b9 ρ).set t (some x)) σ=.ok v σ) (aO:C.hd=false:=by first | rfl | assumption) :
  ev C (.comp false t b9 elt cond it) ρ σ=.ok (.ref σ.length) (σ++[.lst (xs.filterMap q)]):=by
 rw[ky,aO,bO];show iS xs.length (dM none (fun x σ=>((tst C cond ((cy b9 ρ).set t (some x)) σ).bind fun b σ=>if b=true then(ev C elt ((cy b9 ρ).set t (some x)) σ).bind fun v σ=>.ok (some v) σ else .ok none σ)) xs σ) _=_
 rw[Cs (q:=q) xs fun x hx=>by
  show(tst C cond ((cy b9 ρ).set t (some x)) σ).bind _=_;rw[hc x hx,b0]
  cases hq:q x with
  | none=>rfl
  | some v =>
   show(ev C elt ((cy b9 ρ).set t (some x)) σ).bind _=_
   rw[he x hx v hq];rfl]
 exact z4 (aF (List.length_filterMap_le _ _) hl)
theorem yM{r:Nat}{x:Str}{j:Int}{es:List ((Str×Int)×H)}(h:σ[r]?=some (.dp es)):iC .get (.ref r) [.tup [.str x,.int j]] σ=.ok ((aG (x,j) es).getD .none) σ:=by
 show rD (.ref r) (.tup [.str x,.int j]) σ=_;unfold rD;dsimp only;rw[h];rfl
theorem yI{r:Nat}{es:List ((Str×Int)×H)}(h:σ[r]?=some (.dp es)):o2 .get (.ref r) σ=true:=by
 show sj (.ref r) σ=true;unfold sj;dsimp only;rw[h]
theorem vi{r:Nat}{x:Str}{j:Int}{es:List ((Str×Int)×H)}(h:σ[r]?=some (.dp es)):cQ .isin (.tup [.str x,.int j]) (.ref r) σ=.ok (aG (x,j) es).isSome σ:=by
 show ai.ofOpt (ep (.tup [.str x,.int j]) (.ref r) σ) σ=_
 have:ep (.tup [.str x,.int j]) (.ref r) σ=some (aG (x,j) es).isSome:=by unfold ep;dsimp only;rw[h];rfl
 rw[this];rfl
theorem Js{r:Nat}{x:Str}{j:Int}{v:H}{es:List ((Str×Int)×H)}(h:σ[r]?=some (.dp es))(hv:aG (x,j) es=some v):fU (.ref r) (.tup [.str x,.int j]) σ=.ok v σ:=by
 show mA (.ref r) (.tup [.str x,.int j]) σ=_;unfold mA;dsimp only;rw[h];show ai.ofOpt (aG (x,j) es) σ=_;rw[hv];rfl
end
noncomputable def s0(x:Str)(n:Nat)(es:List ((Str×Int)×H)):List H:=(List.range n).filterMap fun(t:Nat)=>(aG (x,(t:Int)) es).map fun v=>.tup [.int t,v]
theorem wU{es:List ((Str×Int)×H)}{k:Str×Int}{v:H}(h:aG k es=none):ee k v es=es++[(k,v)]:=by
 unfold ee;rw[aY];intro z;refine aw (List.any_eq_true.mp z) fun e he hk=>?_;unfold aG at h;rw[Option.map_eq_none_iff,List.find?_eq_none]at h;exact h e he hk
noncomputable def oK(p:List aq)(x:Str):Option aq:=p.find? fun s=>decide (x∈s.gives)
noncomputable def iz:cR->Bool
 | .word w=>w == "later"
 | _=>false
noncomputable def kq(p:List aq)(x:Str)(j:Int):Bool:=
 match oK p x with
 | some s=>!iz s.rule||decide (j > 0)
 | none=>false
theorem BW{x:Str}:∀{p:List aq},aG x (eW p)=(oK p x).map aq.pv:=by
 intro p
 induction p with
 | nil=>rfl
 | cons s p ag =>
  unfold oK;rw[jp];have e:eW (s::p)=(s.gives.map fun g=>(g,s.pv))++eW p:=rfl;unfold aG at ag ⊢;rw[e,List.find?_append];by_cases hx:x∈s.gives
  ·rw[ed hx]
   have:∀(l:List Str),x∈l->(l.map fun g=>(g,s.pv)).find? (fun e=>decide (e.1=x))=some (x,s.pv):=by
    intro l
    induction l with
    | nil=>intro h;contradiction
    | cons a l Qd =>
     intro h;rw[dG,jp];by_cases ha:a=x
     ·subst ha;simp
     ·exact(gR ha).symm▸(Qd ((bE.mp h).resolve_left fun z=>ha z.symm))
   rw[this _ hx];rfl
  ·rw[gR hx]
   have:(s.gives.map fun g=>(g,s.pv)).find? (fun e=>decide (e.1=x))=none:=by
    rw[List.find?_eq_none];intro e he;refine aw (cK.mp he) fun g hg ae=>?_;obtain rfl:=ae;simp;rintro rfl;exact hx hg
   rw[this];exact ag
section
variable {σ:ac}
theorem QB{r:Nat}{es:List (Str×H)}{k:Str}(h:σ[r]?=some (.ds es)):cQ .isin (.str k) (.ref r) σ=.ok (aG k es).isSome σ:=by
 show ai.ofOpt (ep (.str k) (.ref r) σ) σ=_
 have:ep (.str k) (.ref r) σ=some (aG k es).isSome:=by unfold ep;dsimp only;rw[h]
 rw[this];rfl
theorem Vd{r:Nat}{es:List (Str×H)}{k:Str}{v:H}(h:σ[r]?=some (.ds es))(hv:aG k es=some v):fU (.ref r) (.str k) σ=.ok v σ:=by
 show mA (.ref r) (.str k) σ=_;unfold mA;dsimp only;rw[h];show ai.ofOpt (aG k es) σ=_;rw[hv];rfl
end
noncomputable abbrev c0:=List ((Str×Int)×H)
structure dZ where
 i:Nat
 g:Nat
 o:Nat
 h:Nat
 gn:Nat
 od:Nat
structure dZ.Lt(X:dZ):Prop where
 a:X.i<X.g
 b:X.g<X.o
 c:X.o<X.h
 d:X.h<X.gn
 e:X.gn<X.od
structure dh(p:List aq)(n:Nat)(es gs:c0)(os:List H)(X:dZ)(σ:ac):Prop where
 ns:σ[X.i]?=some (.ns (yA p n X.g X.o X.h X.gn X.od))
 gv:σ[X.g]?=some (.ds (eW p))
 ot:σ[X.o]?=some (.lst ((fS p).map .str))
 hr:σ[X.h]?=some (.dp es)
 go:σ[X.gn]?=some (.dp gs)
 od:σ[X.od]?=some (.lst os)
 lt:X.Lt
structure hV(X:dZ)(σ σ':ac):Prop where
 len:σ.length<=σ'.length
 at_:∀(j:Nat) (m:aS),j≠X.h->j≠X.gn->j≠X.od->σ[j]?=some m->σ'[j]?=some m
theorem hV.refl{X:dZ}{σ:ac}:hV X σ σ:=⟨c9 _,fun J J J J J h=>h⟩
theorem hV.trans{X:dZ}{a b c:ac}(k:hV X a b)(l:hV X b c):hV X a c:=⟨aF k.len l.len,fun j m L O ar h=>l.at_ j m L O ar (k.at_ j m L O ar h)⟩
theorem fO{σ τ:ac}{j:Nat}{m:aS}(e:σ[j]?=some m):(σ++τ)[j]?=some m:=by exact(ik (dU e).1).symm▸e
theorem cH{σ:ac}{j k:Nat}{m bH:aS}(a0:k≠j)(e:σ[j]?=some m):(σ.set k bH)[j]?=some m:=(List.getElem?_set_ne a0).trans e
theorem l2{σ:ac}{j:Nat}{m bH:aS}(e:σ[j]?=some m):(σ.set j bH)[j]?=some bH:=List.getElem?_set_self (dU e).1
theorem hV.app{X:dZ}{σ τ:ac}:hV X σ (σ++τ):=⟨by exact da.symm▸(e6 _ _),fun J J J J J h=>fO h⟩
theorem hV.set{X:dZ}{σ:ac}{j:Nat}{m:aS}(a0:j=X.h\/j=X.gn\/j=X.od):hV X σ (σ.set j m):=⟨by exact List.length_set.symm▸(c9 _),fun k bH L O ar h=>cH (fun q=>by
 subst q
 rcases a0 with q | q | q
 ·exact L q
 ·exact O q
 ·exact ar q) h⟩
section
variable {p:List aq}{n:Nat}{es gs:c0}{os:List H}{X:dZ}{σ:ac}
theorem dh.more{τ:ac}(b:dh p n es gs os X σ):dh p n es gs os X (σ++τ):=⟨fO b.ns,fO b.gv,fO b.ot,fO b.hr,fO b.go,fO b.od,b.lt⟩
theorem dZ.Lt.hi(l:X.Lt):X.h≠X.i:=cS (dw l.a (dw l.b l.c))
theorem dZ.Lt.hg(l:X.Lt):X.h≠X.g:=cS (dw l.b l.c)
theorem dZ.Lt.gi(l:X.Lt):X.gn≠X.i:=cS (dw l.a (dw l.b (dw l.c l.d)))
theorem dZ.Lt.gg(l:X.Lt):X.gn≠X.g:=cS (dw l.b (dw l.c l.d))
theorem dZ.Lt.go(l:X.Lt):X.gn≠X.o:=cS (dw l.c l.d)
theorem dZ.Lt.oh(l:X.Lt):X.od≠X.h:=cS (dw l.d l.e)
theorem dZ.Lt.oo(l:X.Lt):X.od≠X.o:=cS (dw l.c (dw l.d l.e))
theorem dZ.Lt.og(l:X.Lt):X.od≠X.g:=cS (dw l.b (dw l.c (dw l.d l.e)))
theorem dZ.Lt.oi(l:X.Lt):X.od≠X.i:=cS (dw l.a (dw l.b (dw l.c (dw l.d l.e))))
theorem dh.here{es':c0}(b:dh p n es gs os X σ):dh p n es' gs os X (σ.set X.h (.dp es')):=
 ⟨cH b.lt.hi b.ns,cH b.lt.hg b.gv,cH (cS b.lt.c) b.ot,l2 b.hr,cH (fE b.lt.d) b.go,cH b.lt.oh.symm b.od,b.lt⟩
theorem dh.gone{Ga:c0}(b:dh p n es gs os X σ):dh p n es Ga os X (σ.set X.gn (.dp Ga)):=
 ⟨cH b.lt.gi b.ns,cH b.lt.gg b.gv,cH b.lt.go b.ot,cH (cS b.lt.d) b.hr,l2 b.go,cH (fE b.lt.e) b.od,b.lt⟩
theorem dh.order{vG:List H}(b:dh p n es gs os X σ):dh p n es gs vG X (σ.set X.od (.lst vG)):=
 ⟨cH b.lt.oi b.ns,cH b.lt.og b.gv,cH b.lt.oo b.ot,cH b.lt.oh b.hr,cH (cS b.lt.e) b.go,l2 b.od,b.lt⟩
end
noncomputable def jP:cR->Bool
 | .word w=>w == "choose"
 | _=>false
noncomputable def jD:H->Bool
 | .int i=>i == 0
 | _=>false
noncomputable def mM(es:c0)(s:aq)(t:Int):List Str:=
 if jP s.rule=true then(match s.needs with
  | [a,b,c]=>(match aG (a,t) es with
   | none=>[a]
   | some v=>if jD v=true then[b]else[c])
  | _=>[])
 else s.needs
noncomputable def d7(es:c0)(s:aq)(t:Int):Option Str:=(mM es s t).find? fun x=>(aG (x,t) es).isNone
noncomputable def vN(es gs:c0)(s:aq)(t:Int):Bool:=(aG (s.name,t) gs).isNone&&(d7 es s t).isNone
noncomputable def mo:Option Str->H
 | some x=>.str x
 | none=>.none
noncomputable def hE(es:c0):Prop:=∀k v,aG k es=some v->∃i:Int,v=.int i/\0<=i/\i<=999999
section
variable {p:List aq}{n:Nat}{es gs:c0}{os:List H}{X:dZ}{σ:ac}{d:Nat}
theorem Gu{x:Str}{t:Int}(b:dh p n es gs os X σ):bz PP topN (d+1) zA [.inst aT X.i,.str x,.int t] σ=.ok (.bool (aG (x,t) gs).isSome) σ:=by
 rw[cx (fn:=xz) rfl rfl]
 have:ex (CC d) topN xz.body [some (.inst aT X.i),some (.str x),some (.int t)] σ=.ret (.bool (aG (x,t) gs).isSome) [some (.inst aT X.i),some (.str x),some (.int t)] σ:=
  bn (di (iU (x:=.tup [.str x,.int t]) (aa:=σ) rfl (gV (i:=X.i) (aa:=σ) (v:=.ref X.gn) rfl b.ns rfl) (vi b.go)))
 exact(congrArg a5 this).trans rfl
theorem ID{r:Nat}{x:Str}{j:Int}{es:c0}(h:σ[r]?=some (.dp es)):cQ .notin (.tup [.str x,.int j]) (.ref r) σ=.ok (aG (x,j) es).isNone σ:=by
 show ai.ofOpt ((ep (.tup [.str x,.int j]) (.ref r) σ).map (!·)) σ=_
 have:ep (.tup [.str x,.int j]) (.ref r) σ=some (aG (x,j) es).isSome:=by unfold ep;dsimp only;rw[h];rfl
 rw[this];cases aG (x,j) es <;> rfl
theorem FT{ip:H->aE->Option aE}{f:aE->ac->c8}{x v:H}{xs:List H}{ρ bQ eE:aE}{ao:ac}(hb:ip x ρ=some bQ)(h:f bQ σ=.ret v eE ao):ct none ip f (x::xs) ρ σ=.ret v eE ao:=by
 refine(az trivial).trans ?_;rw[hb];show qa _ (f bQ σ)=_;rw[h];rfl
theorem Sd{t:Int}{sp pl:H}{y:Option H}(b:dh p n es gs os X σ):∀(ns:List Str) (z:Option H),∃bY,
  ct none (dH 5) (fun ρ σ=>ex (CC d) topN xB ρ σ) (ns.map .str) [some (.inst aT X.i),some sp,some (.int t),some pl,y,z] σ =
   match ns.find? fun x=>(aG (x,t) es).isNone with
   | some x=>.ret (.str x) [some (.inst aT X.i),some sp,some (.int t),some pl,y,bY] σ
   | none=>.next [some (.inst aT X.i),some sp,some (.int t),some pl,y,bY] σ:=by
 intro ns
 induction ns with
 | nil=>intro z;exact⟨z,fN⟩
 | cons x ns ag =>
  intro z
  have bf:tst (CC d) (.cmp (.tup #v[(.v 5),(.v 2)]) .notin (.attr aT (.v 0) "here")) [some (.inst aT X.i),some sp,some (.int t),some pl,y,some (.str x)] σ=.ok (aG (x,t) es).isNone σ:=
   ch (x:=.tup [.str x,.int t]) (aa:=σ) rfl (gV (i:=X.i) (aa:=σ) (v:=.ref X.h) rfl b.ns rfl) (ID b.hr)
  rw[jp]
  cases hq:(aG (x,t) es).isNone with
  | true =>
   rw[hq]at bf;exact⟨some (.str x),FT (bQ:=[some (.inst aT X.i),some sp,some (.int t),some pl,y,some (.str x)]) rfl (bn (a:=xC) ((cB bf).trans (bn (di rfl))))⟩
  | false =>
   rw[hq]at bf;refine aJ (ag (some (.str x))) fun bY e=>?_;exact⟨bY,(fv (bQ:=[some (.inst aT X.i),some sp,some (.int t),some pl,y,some (.str x)]) (eE:=[some (.inst aT X.i),some sp,some (.int t),some pl,y,some (.str x)]) (ao:=σ) rfl ((al (a:=xC) (bD bf)).trans bU)).trans e⟩
theorem z3{t:Int}{sp pl:H}{y z:Option H}{ns:List Str}(b:dh p n es gs os X σ)(hp:evIt (CC d) (.v 3) [some (.inst aT X.i),some sp,some (.int t),some pl,y,z] σ=.ok (ns.map .str,none) σ) :
  a5 (ex (CC d) topN #v[pP,ua] [some (.inst aT X.i),some sp,some (.int t),some pl,y,z] σ)=.ok (mo (ns.find? fun x=>(aG (x,t) es).isNone)) σ:=by
 refine aJ (Sd (d:=d) (t:=t) (sp:=sp) (pl:=pl) (y:=y) b ns z) fun bY e=>?_;have aj:=gc (C:=CC d) (n:=topN) (i:=5) (body:=xB) hp e
 cases hq:ns.find? fun x=>(aG (x,t) es).isNone with
 | none =>
  rw[hq]at aj;exact(congrArg a5 ((al (a:=pP) aj).trans rfl)).trans rfl
 | some x =>
  rw[hq]at aj;exact(congrArg a5 (bn (a:=pP) aj)).trans rfl
theorem vO{r:cR}{k g:Nat}(h:fj r k g):∃w,(∀σ,fU r.pv (.int 0) σ=.ok (.str w) σ)/\(w == "choose")=jP r/\(jP r=true->k=3):=by
 cases h <;> first | exact⟨_,fun J=>rfl,rfl,fun z=>by contradiction⟩ | exact⟨_,fun J=>rfl,rfl,fun J=>rfl⟩ | exact⟨"fixed",fun J=>rfl,by decide +kernel,fun z=>by contradiction⟩ | skip
 all_goals refine⟨_,fun J=>rfl,rfl,fun z=>?_⟩
 all_goals (revert z;decide +kernel)
noncomputable def qW(_:aq):Prop:=True
theorem H9{s:aq}{t:Int}(b:dh p n es gs os X σ)(hs:hB s)(hr:qW s)(hv:hE es):bz PP topN (d+1) u8 [.inst aT X.i,s.pv,.int t] σ=.ok (mo (d7 es s t)) σ:=by
 rw[cx (fn:=Dm) rfl rfl];show a5 (ex (CC d) topN #v[xA,rv,pP,ua] [some (.inst aT X.i),some s.pv,some (.int t),none,none,none] σ)=_;refine bC (vO hs.rule) fun w jU r7 PY=>?_;rw[al (a:=xA) (ρ':=[some (.inst aT X.i),some s.pv,some (.int t),some (.tup (s.needs.map .str)),none,none]) (σ':=σ) rfl]
 have bf:tst (CC d) (.cmp (.sub (.sub (.v 1) (.k (.int 1))) (.k (.int 0))) .eq (.k (.str "choose"))) [some (.inst aT X.i),some s.pv,some (.int t),some (.tup (s.needs.map .str)),none,none] σ=.ok (jP s.rule) σ:=by
  rw[<- r7];exact ch (x:=.str w) (aa:=σ) (cY (x:=s.rule.pv) (aa:=σ) rfl (y:=.int 0) (ao:=σ) rfl (jU σ)) (y:=.str "choose") (ao:=σ) rfl pN
 unfold d7 mM
 cases hc:jP s.rule with
 | false =>
  rw[hc]at bf;rw[al (a:=rv) (bD bf),aY (by decide)];exact z3 b rfl
 | true =>
  rw[hc]at bf;rw[az rfl];have ar:=PY hc;obtain⟨nm,rl,ns,gv⟩:=s;dsimp only at ar ⊢;obtain⟨x,y,z,rfl⟩:=p9 (show ns.length=3 from ar);dsimp only
  have NB:ev (CC d) (.me .get (.attr aT (.v 0) "here") #v[(.tup #v[(.sub (.v 3) (.k (.int 0))),(.v 2)])]) [some (.inst aT X.i),some (aq.pv ⟨nm,rl,[x,y,z],gv⟩),some (.int t),some (.tup [.str x,.str y,.str z]),none,none] σ=.ok ((aG (x,t) es).getD .none) σ:=
   gW (gV (i:=X.i) (aa:=σ) (v:=.ref X.h) rfl b.ns rfl) (yI b.hr) (y:=.tup [.str x,.int t]) (ao:=σ) rfl (yM b.hr)
  have cT:∀{o:c8},ex (CC d) topN #v[t8,t9] [some (.inst aT X.i),some (aq.pv ⟨nm,rl,[x,y,z],gv⟩),some (.int t),some (.tup [.str x,.str y,.str z]),some ((aG (x,t) es).getD .none),none] σ=o->ex (CC d) topN rv [some (.inst aT X.i),some (aq.pv ⟨nm,rl,[x,y,z],gv⟩),some (.int t),some (.tup [.str x,.str y,.str z]),none,none] σ=o:=fun{o} ho =>
   (cB bf).trans ((al (a:=Dn) (bR NB)).trans ho)
  cases hx:aG (x,t) es with
  | none =>
   rw[hx]at cT;refine(congrArg a5 (bn (cT (bn (a:=t8) ((cB (σ':=σ) rfl).trans (bn (a:=Do) (di (v:=.str x) (σ':=σ) rfl))))))).trans ?_;show _=ai.ok (mo ([x].find? fun x=>(aG (x,t) es).isNone)) σ;rw[jp,hx];rfl
  | some v =>
   rw[hx]at cT;obtain⟨i,rfl,_⟩:=hv _ _ hx
   have dK:ex (CC d) topN t8 [some (.inst aT X.i),some (aq.pv ⟨nm,rl,[x,y,z],gv⟩),some (.int t),some (.tup [.str x,.str y,.str z]),some (.int i),none] σ=.next [some (.inst aT X.i),some (aq.pv ⟨nm,rl,[x,y,z],gv⟩),some (.int t),some (.tup [.str x,.str y,.str z]),some (.int i),none] σ:=(bD (σ':=σ) rfl)
   have cC:tst (CC d) (.cmp (.v 4) .eq (.k (.int 0))) [some (.inst aT X.i),some (aq.pv ⟨nm,rl,[x,y,z],gv⟩),some (.int t),some (.tup [.str x,.str y,.str z]),some (.int i),none] σ=.ok (i == 0) σ:=rfl;show a5 (ex (CC d) topN #v[rv,pP,ua] _ σ)=.ok (mo ((if(i == 0)=true then[y]else[z]).find? _)) σ
   cases hi:(i == 0)with
   | true =>
    rw[hi]at cC;refine(congrArg a5 (al (cT ((al dK).trans ((al (a:=t9) ((cB cC).trans ((al (a:=Dq) (bR (v:=.tup [.str y]) (σ':=σ) rfl)).trans bU))).trans bU))))).trans ?_;exact z3 (ns:=[y]) b rfl
   | false =>
    rw[hi]at cC;refine(congrArg a5 (al (cT ((al dK).trans ((al (a:=t9) ((xq cC).trans ((al (a:=Dp) (bR (v:=.tup [.str z]) (σ':=σ) rfl)).trans bU))).trans bU))))).trans ?_;exact z3 (ns:=[z]) b rfl
end
noncomputable def h7(vs:List H):List Int:=(f7 vs).getD []
noncomputable def qq(l:List Int):Int:=l.foldl (fun a x=>a*x%1000000) 1
noncomputable def lA:List Int->Int
 | []=>0
 | x::l=>l.foldl min x
noncomputable def lC:List Int->Int
 | []=>0
 | x::l=>l.foldl max x
theorem wP:∀l:List Int,f7 (l.map .int)=some l:=by
 intro l
 induction l with
 | nil=>rfl
 | cons x l ag=>show(f7 (l.map .int)).map (x::·)=_;rw[ag];rfl
theorem lw{l:List Int}:h7 (l.map .int)=l:=by unfold h7;rw[wP];rfl
section
variable {d:Nat}{σ:ac}
theorem TD{pl:H}{w:Option H}:∀(l:List Int) (a:Int) (z:Option H),(0<=a/\a<=999999)->(∀x∈l,0<=x/\x<=999999)->∃bY,ct none (dH 2) (fun ρ σ=>ex (CC d) topN FF ρ σ) (l.map .int) [some pl,some (.int a),z,w] σ=.next [some pl,some (.int (l.foldl (fun a x=>a*x%1000000) a)),bY,w] σ:=by
 intro l
 induction l with
 | nil=>intro a z _ _;exact⟨z,fN⟩
 | cons x l ag =>
  intro a z ha hl;have hb:0<=a*x%1000000/\a*x%1000000<=999999:=⟨eI _ (by decide),Int.le_of_lt_add_one (fA _ (by decide))⟩;refine aJ (ag (a*x%1000000) (some (.int x)) hb fun y hy=>hl y (bI _ hy)) fun bY e=>?_;refine⟨bY,(fv (bQ:=[some pl,some (.int a),some (.int x),w]) (eE:=[some pl,some (.int (a*x%1000000)),some (.int x),w]) (ao:=σ) rfl ?_).trans e⟩;refine(al (a:=FG) (bR (cz (cz (x:=.int a) (aa:=σ) rfl (y:=.int x) (ao:=σ) rfl (mul_int (.inl ?_))) (y:=.int 1000000) (ao:=σ) rfl (gq (by decide))))).trans bU
  (grind)
theorem TG{l:List Int}(h:∀x∈l,0<=x/\x<=999999):bz PP topN (d+1) Hk [.fl (l.map .int)] σ=.ok (.int (qq l)) σ:=by
 rw[cx (fn:=FD) rfl rfl];obtain⟨z,e⟩:=TD (d:=d) (σ:=σ) (pl:=.fl (l.map .int)) (w:=none) l 1 none (by decide) h;exact(congrArg a5 (rfl.trans ((al (a:=FE) (gc (ys:=l.map .int) (aa:=σ) rfl e)).trans rfl))).trans rfl
theorem wR{l:List Int}:(cO σ (.fl (l.map .int))).bind f7=some l:=wP l
theorem Jw{l:List Int}(hl:l.length<=1000)(h:∀x∈l,0<=x/\x<=999999):db .sum (.fl (l.map .int)) σ=.ok (.int l.sum) σ:=by
 show fR f7 (fun l=>if l.length<=1000/\l.all (fun x=>decide (x.natAbs<2 ^ 40))then ai.ok (H.int l.sum) σ else .stuck) (.fl (l.map .int)) σ=_;rw[sA wR];refine az ⟨hl,fC.mpr fun x hx=>ed ?_⟩;have:=h x hx
 (grind)
theorem Sb{x:Int}{l:List Int}:db .min (.fl ((x::l).map .int)) σ=.ok (.int (lA (x::l))) σ:=by
 show fR f7 (fun l=>match l with
  | x::l=>ai.ok (H.int (l.foldl min x)) σ
  | []=>.stuck) (.fl ((x::l).map .int)) σ=_
 rw[sA wR];rfl
theorem RT{x:Int}{l:List Int}:db .max (.fl ((x::l).map .int)) σ=.ok (.int (lC (x::l))) σ:=by
 show fR f7 (fun l=>match l with
  | x::l=>ai.ok (H.int (l.foldl max x)) σ
  | []=>.stuck) (.fl ((x::l).map .int)) σ=_
 rw[sA wR];rfl
noncomputable def ny:cR->List H->H
 | .fixed v,_=>.int v
 | .word w,vs =>
  if w == ("sum" : Str)then .int ((h7 vs).sum%1000000)else
  if w == ("times" : Str)then .int (qq (h7 vs))else
  if w == ("least" : Str)then .int (lA (h7 vs))else
  if w == ("most" : Str)then .int (lC (h7 vs))else
  if w == ("choose" : Str)then(if jD (vs.getD 0 .none)=true then vs.getD 1 .none else vs.getD 2 .none)else
  vs.getD 0 .none
noncomputable def qK:cR->Bool
 | .word w=>w == "way"
 | _=>false
noncomputable def hO(r:cR)(vs:List H)(k:Nat):List H:=
 if qK r=true then(if jD (vs.getD 1 .none)=true then[vs.getD 0 .none,.none]else[.none,vs.getD 0 .none])else List.replicate k (ny r vs)
noncomputable def dz(v:H):Prop:=∃i:Int,v=.int i/\0<=i/\i<=999999
noncomputable def nR(r:cR)(vs:List H):Prop:=if jP r=true then dz (vs.getD 0 .none)/\dz (if jD (vs.getD 0 .none)=true then vs.getD 1 .none else vs.getD 2 .none)else ∀v∈vs,dz v
theorem lM:∀{vs:List H},(∀v∈vs,dz v)->∃l:List Int,vs=l.map .int/\∀x∈l,0<=x/\x<=999999:=by
 intro vs
 induction vs with
 | nil=>intro _;exact⟨[],rfl,fun x hx=>by contradiction⟩
 | cons v vs ag =>
  intro h;refine aw (ag fun w hw=>h w (bI _ hw)) fun l ae hl=>?_;obtain rfl:=ae;refine aw (h v bi) fun i ae hi=>?_;obtain rfl:=ae
  exact⟨i::l,rfl,fun x hx=>by
   rcases bE.mp hx with rfl | hx
   ·exact hi
   ·exact hl x hx⟩
end
section
variable {d:Nat}{σ:ac}
theorem dz.get{vs:List H}{i:Nat}(h:∀v∈vs,dz v)(hi:i<vs.length):∃x:Int,vs.getD i .none=.int x/\vs[i]?=some (.int x):=by
 refine aw (h vs[i] (km hi)) fun x hx J=>?_;exact⟨x,by rw[k4,dx hi];exact hx,by rw[dx hi,hx]⟩
theorem qB{vs:List H}{i:Nat}{x:H}(hl:vs.length<=100)(h:vs[i]?=some x):fU (.fl vs) (.int (i:Nat)) σ=.ok x σ:=
 kO (aF hl (by decide)) (fm i) (by rw[Int.toNat_natCast];exact h)
theorem LP{a b c:H}(ha:∃i:Int,a=.int i):bz PP topN (d+1) Hb [.fl [a,b,c]] σ=.ok (if jD a=true then b else c) σ:=by
 refine aJ ha fun i ae=>?_;obtain rfl:=ae;rw[cx (fn:=DD) rfl rfl];have t:tst (CC d) (.cmp (.sub (.v 0) (.k (.int 0))) .eq (.k (.int 0))) [some (.fl [.int i,b,c])] σ=.ok (i == 0) σ:=rfl;show a5 (ex (CC d) topN #v[uf,DE] [some (.fl [.int i,b,c])] σ)=.ok (if(i == 0)=true then b else c) σ
 cases hi:(i == 0)with
 | true =>
  rw[hi]at t;exact(congrArg a5 (bn (a:=uf) ((cB t).trans rfl))).trans rfl
 | false =>
  rw[hi]at t;exact(congrArg a5 ((al (a:=uf) (bD t)).trans rfl)).trans rfl
theorem Us{r:cR}{vs:List H}{k:Nat}(h:fj r vs.length k)(hw:qK r=false)(hl:vs.length<=100)(L:1<=vs.length)(he:nR r vs):bz PP topN (d+2) Hl [r.pv,.fl vs] σ=.ok (ny r vs) σ:=by
 rw[cx (fn:=FH) rfl rfl];show a5 (ex (CC (d+1)) topN #v[mY,lY,mZ,oF,rC,uF,uG,yy] [some r.pv,some (.fl vs),none,none,none,none,none,none,none] σ)=_;generalize hk:vs.length=m at h
 cases h with
 | sum _ _ =>
  refine aw (lM (show ∀v∈vs,dz v from he)) fun l ae hv=>?_;obtain rfl:=ae
  have e:ev (CC (d+1)) (.bin .mod (.b1 .sum (.v 1)) (.k (.int 1000000))) [some (cR.pv (.word "sum")),some (.fl (l.map .int)),some (.str "sum"),none,none,none,none,none,none] σ=.ok (.int (l.sum%1000000)) σ:=
   cz (c4 (x:=.fl (l.map .int)) (aa:=σ) rfl (Jw (by rw[bc]at hl;(exact aF (by assumption) (by decide))) hv)) (y:=.int 1000000) (ao:=σ) rfl (gq (by decide))
  refine(congrArg a5 (rfl.trans (bn (a:=lY) (rfl.trans (bn (a:=FI) (di e)))))).trans ?_;show ai.ok (H.int (l.sum%1000000)) σ=ai.ok (.int ((h7 (l.map .int)).sum%1000000)) σ;rw[lw]
 | times _ _ =>
  refine aw (lM (show ∀v∈vs,dz v from he)) fun l ae hv=>?_;obtain rfl:=ae;refine(congrArg a5 ((al (a:=mY) rfl).trans ((al (a:=lY) rfl).trans (bn (a:=mZ) (rfl.trans (bn (a:=FJ) (di (dN (x:=.fl (l.map .int)) (aa:=σ) rfl (TG hv))))))))).trans ?_;show ai.ok (H.int (qq l)) σ=ai.ok (.int (qq (h7 (l.map .int)))) σ;rw[lw]
 | least _ _ =>
  refine aw (lM (show ∀v∈vs,dz v from he)) fun l ae hv=>?_;obtain rfl:=ae
  cases l with
  | nil=>exact absurd L (by decide)
  | cons x l =>
  refine(congrArg a5 ((al (a:=mY) rfl).trans ((al (a:=lY) rfl).trans ((al (a:=mZ) rfl).trans
   (bn (a:=oF) (rfl.trans (bn (a:=FK) (di (c4 (x:=.fl ((x::l).map .int)) (aa:=σ) rfl Sb))))))))).trans ?_
  show ai.ok (H.int (lA (x::l))) σ=ai.ok (.int (lA (h7 ((x::l).map .int)))) σ;rw[lw]
 | most _ _ =>
  refine aw (lM (show ∀v∈vs,dz v from he)) fun l ae hv=>?_;obtain rfl:=ae
  cases l with
  | nil=>exact absurd L (by decide)
  | cons x l =>
  refine(congrArg a5 ((al (a:=mY) rfl).trans ((al (a:=lY) rfl).trans ((al (a:=mZ) rfl).trans ((al (a:=oF) rfl).trans
   (bn (a:=rC) (rfl.trans (bn (a:=FL) (di (c4 (x:=.fl ((x::l).map .int)) (aa:=σ) rfl RT)))))))))).trans ?_
  show ai.ok (H.int (lC (x::l))) σ=ai.ok (.int (lC (h7 ((x::l).map .int)))) σ;rw[lw]
 | later _ =>
  have hx:vs[0]?=some (vs.getD 0 .none):=by rw[k4,dx (show 0<vs.length from L)];rfl
  exact(congrArg a5 ((al (a:=mY) rfl).trans ((al (a:=lY) rfl).trans ((al (a:=mZ) rfl).trans ((al (a:=oF) rfl).trans ((al (a:=rC) rfl).trans
   ((al (a:=uF) rfl).trans ((al (a:=uG) rfl).trans (bn (a:=yy) (di (cY (x:=.fl vs) (aa:=σ) rfl (y:=.int ((0:Nat):Int)) (ao:=σ) rfl (qB hl hx)))))))))))).trans rfl
 | way=>contradiction
 | choose _ =>
  refine aw ((show dz (vs.getD 0 .none)from And.left he)) fun i hi J=>?_;refine mU (p9 hk) fun a b c ae=>?_;obtain rfl:=ae
  exact(congrArg a5 ((al (a:=mY) rfl).trans ((al (a:=lY) rfl).trans ((al (a:=mZ) rfl).trans ((al (a:=oF) rfl).trans ((al (a:=rC) rfl).trans
   ((al (a:=uF) rfl).trans (bn (a:=uG) (rfl.trans (bn (a:=FM) (di (dN (x:=.fl [a,b,c]) (aa:=σ) rfl (LP ⟨i,hi⟩))))))))))))).trans rfl
 | fixed v _ _ _ _ =>
  exact(congrArg a5 ((al (a:=mY) rfl).trans ((al (a:=lY) rfl).trans ((al (a:=mZ) rfl).trans ((al (a:=oF) rfl).trans (rfl.trans
   rfl)))))).trans rfl
theorem Tg{r:cR}{vs:List H}{k:Nat}(h:fj r vs.length k)(hl:vs.length<=100)(L:1<=vs.length)(hk:k<=100)(he:nR r vs):bz PP topN (d+3) zI [r.pv,.fl vs,.int (k:Nat)] σ=.ok (.fl (hO r vs k)) σ:=by
 rw[cx (fn:=Fw) rfl rfl];show a5 (ex (CC (d+2)) topN #v[rB,yv,yw] [some r.pv,some (.fl vs),some (.int (k:Nat)),none,none,none] σ)=_
 have bf:tst (CC (d+2)) (.cmp (.sub (.v 0) (.k (.int 0))) .eq (.k (.str "way"))) [some r.pv,some (.fl vs),some (.int (k:Nat)),none,none,none] σ=.ok (qK r) σ:=by
  generalize vs.length=m at h;cases h <;> rfl
 unfold hO
 cases hw:qK r with
 | true =>
  rw[hw]at bf;rw[az rfl];generalize hm:vs.length=m at h
  cases h with
  | way =>
   refine hL (zR hm) fun a b ae=>?_;obtain rfl:=ae;obtain⟨j,rfl,_⟩:=(show ∀v∈[a,b],dz v from he) b ((bI _ bi));have cC:tst (CC (d+2)) (.cmp (.sub (.v 1) (.k (.int 1))) .eq (.k (.int 0))) [some (cR.pv (.word "way")),some (.fl [a,.int j]),some (.int ((2:Nat):Int)),none,none,none] σ=.ok (j == 0) σ:=rfl;show _=ai.ok (H.fl (if(j == 0)=true then[a,.none]else[.none,a])) σ
   cases a0:(j == 0)with
   | true =>
    rw[a0]at cC;exact(congrArg a5 (bn (a:=rB) ((cB bf).trans (bn (a:=yu) ((cB cC).trans rfl))))).trans rfl
   | false =>
    rw[a0]at cC;exact(congrArg a5 (bn (a:=rB) ((cB bf).trans ((al (a:=yu) (bD cC)).trans rfl)))).trans rfl
  | _=>contradiction
 | false =>
  rw[hw]at bf;rw[aY (by decide)]
  have cT:ex (CC (d+2)) topN yv [some r.pv,some (.fl vs),some (.int (k:Nat)),none,none,none] σ=.next [some r.pv,some (.fl vs),some (.int (k:Nat)),some (ny r vs),none,none] σ:=
   bR (hJ (x:=r.pv) (y:=.fl vs) (aa:=σ) (ao:=σ) rfl rfl (Us h hw hl L he))
  have AH:evIt (CC (d+2)) (.range1 (.v 2)) [some r.pv,some (.fl vs),some (.int (k:Nat)),some (ny r vs),none,none] σ=.ok (cF 0 1 k,none) σ:=by
   show(if 0<=(k:Int)/\(k:Int)<=aB then ai.ok (cF 0 1 (k:Int).toNat,none) σ else .stuck)=_;rw[az ⟨(fm _),by rw[eM];(exact Int.ofNat_le.mpr (aF (by assumption) (by decide)))⟩];rfl
  have c:ev (CC (d+2)) Fx [some r.pv,some (.fl vs),some (.int (k:Nat)),some (ny r vs),none,none] σ=.ok (.fl ((cF 0 1 k).map fun J=>ny r vs)) σ:=
   mQ (fun J=>ny r vs) AH (by rw[eM];simp[cF];(exact aF (by assumption) (by decide))) fun x J=>rfl
  rw[List.map_const',show(cF 0 1 k).length=k by simp[cF]]at c;exact(congrArg a5 ((al (a:=rB) (bD bf)).trans ((al cT).trans (bn (a:=yw) (di c))))).trans rfl
end
section
variable {p:List aq}{n:Nat}{es gs:c0}{os:List H}{X:dZ}{σ:ac}{d:Nat}
theorem Ix{t:Int}(b:dh p n es gs os X σ)(h0:0<=t)(L:t<n):bz PP topN (d+2) oW [.inst aT X.i,.int t] σ=.ok .none σ:=by
 rw[cx (fn:=xH) rfl rfl]
 have c:bz PP topN (d+1) lv [.int t,.int 0,.int ((n:Int)-1)] σ=.ok (.bool true) σ:=by
  rw[w0,ed h0,ed (show t<=(n:Int)-1 by grind)];rfl
 have bf:tst (CC (d+1)) (.not (.call lv #v[(.v 1),(.k (.int 0)),(.bin .sub (.attr aT (.v 0) "turns") (.k (.int 1)))])) [some (.inst aT X.i),some (.int t),none,none] σ=.ok (!true) σ:=
  fV (iI (lV (x:=.int t) (aa:=σ) rfl (y:=.int 0) (ao:=σ) rfl (cz (gV (i:=X.i) (aa:=σ) (v:=.int n) rfl b.ns rfl) (y:=.int 1) (ao:=σ) rfl sub_int) c))
 exact(congrArg a5 ((al (a:=uc) (bD bf)).trans bU)).trans rfl
theorem UT{i:Nat}{s:aq}:∀(q:List aq) (z:Option H),s∈q->(q.map (·.name)).Nodup->∃bY,ct none (dH 2) (fun ρ σ=>ex (CC d) topN xG ρ σ) (q.map aq.pv) [some (.inst aT i),some (.str s.name),z,none,none,none] σ=.ret s.pv [some (.inst aT i),some (.str s.name),bY,none,none,none] σ:=by
 intro q
 induction q with
 | nil=>intro z h _;contradiction
 | cons a q ag =>
  intro z h hn;rw[dG,hG]at hn;have bf:tst (CC d) (.cmp (.sub (.v 2) (.k (.int 0))) .eq (.v 1)) [some (.inst aT i),some (.str s.name),some a.pv,none,none,none] σ=.ok (a.name == s.name) σ:=rfl;by_cases ha:a.name=s.name
  ·have:a=s:=by
    rcases bE.mp h with rfl | h
    ·rfl
    ·exact absurd (cK.mpr ⟨s,h,ha.symm⟩) hn.1
   subst this;rw[beq_self_eq_true]at bf;exact⟨some a.pv,FT (bQ:=[some (.inst aT i),some (.str a.name),some a.pv,none,none,none]) rfl (bn (a:=ub) ((cB bf).trans rfl))⟩
  ·rw[k6.mpr ha]at bf;refine aJ (ag (some a.pv) ((bE.mp h).resolve_left fun q=>ha (q▸rfl)) hn.2) fun bY e=>?_;exact⟨bY,(fv (bQ:=[some (.inst aT i),some (.str s.name),some a.pv,none,none,none]) (eE:=[some (.inst aT i),some (.str s.name),some a.pv,none,none,none]) (ao:=σ) rfl ((al (a:=ub) (bD bf)).trans bU)).trans e⟩
theorem IW{o:Mine.X}{ρ:aE}(b:dh p n es gs os X σ)(ho:ev (CC d) o ρ σ=.ok (.inst aT X.i) σ):evIt (CC d) (.attr aT o "plan") ρ σ=.ok (p.map aq.pv,none) σ:=by
 show(ev (CC d) (.attr aT o "plan") ρ σ).bind h8=_;rw[gV (v:=bk p) ho b.ns rfl];rfl
theorem Iw{s:aq}(b:dh p n es gs os X σ)(hs:s∈p)(hn:(p.map (·.name)).Nodup):bz PP topN (d+1) zC [.inst aT X.i,.str s.name] σ=.ok s.pv σ:=by
 rw[cx (fn:=xD) rfl rfl];refine aJ (UT (d:=d) (σ:=σ) (i:=X.i) p none hs hn) fun z e=>?_
 have aj:ex (CC d) topN xF [some (.inst aT X.i),some (.str s.name),none,none,none,none] σ=.ret s.pv [some (.inst aT X.i),some (.str s.name),z,none,none,none] σ:=
  gc (ys:=p.map aq.pv) (aa:=σ) (IW b rfl) e
 exact(congrArg a5 (bn (a:=xE) (rfl.trans (bn aj)))).trans rfl
theorem Jz{C:bh}{c f:Nat}{m:Str}{o args:Mine.X}{ρ:aE}{q:Bool}{aa:ac}(h:ev C (.meth c f m o args) ρ σ=.ok (.bool q) aa):tst C (.meth c f m o args) ρ σ=.ok q aa:=by
 show(ev C (.meth c f m o args) ρ σ).bind jc=_;rw[h];rfl
noncomputable def df(es:c0)(s:aq)(t:Int):List H:=s.needs.map fun x=>(aG (x,t) es).getD .none
noncomputable def fh(s:aq)(t:Int):Int:=t+(if iz s.rule=true then 1 else 0)
noncomputable def g8(w:Int)(es:c0)(e:Str×H):c0:=if lx e.2=true then es else ee (e.1,w) e.2 es
noncomputable def iW(n:Nat)(es:c0)(s:aq)(t:Int):c0:=if fh s t=n then es else(s.gives.zip (hO s.rule (df es s t) s.gives.length)).foldl (g8 (fh s t)) es
theorem xj{s:aq}{t:Int}(hs:hB s)(hv:hE es)(hm:d7 es s t=none):nR s.rule (df es s t):=by
 unfold nR;unfold d7 mM at hm;rw[List.find?_eq_none]at hm
 have yL:∀x,¬(aG (x,t) es).isNone=true->dz ((aG (x,t) es).getD .none):=fun x hx=>by
  cases ha:aG (x,t) es with
  | none=>rw[ha]at hx;exact absurd rfl hx
  | some v=>exact hv _ _ ha
 refine bC (vO hs.rule) fun J J J ar=>?_
 cases hc:jP s.rule with
 | false =>
  rw[hc,aY (by decide)]at hm;rw[aY (by decide)];intro v l9;refine aw (cK.mp l9) fun x hx ae=>?_;obtain rfl:=ae;exact yL x (hm x hx)
 | true =>
  rw[hc,az rfl]at hm;rw[az rfl];have ar:=ar hc;obtain⟨nm,rl,ns,gv⟩:=s;dsimp only at ar hm;refine mU (p9 (show ns.length=3 from ar)) fun x y z ae=>?_;obtain rfl:=ae;dsimp only at hm
  cases ha:aG (x,t) es with
  | none =>
   rw[ha]at hm;exact absurd (by rw[ha];rfl) (hm x ((bi)))
  | some v =>
   rw[ha]at hm;show dz ((aG (x,t) es).getD .none)/\dz (if jD ((aG (x,t) es).getD .none)=true then(aG (y,t) es).getD .none else(aG (z,t) es).getD .none);rw[ha];refine⟨hv _ _ ha,?_⟩;dsimp only at hm;show dz (if jD v=true then(aG (y,t) es).getD .none else(aG (z,t) es).getD .none)
   cases bA:jD v with
   | true=>rw[bA]at hm;exact yL y (hm y ((bi)))
   | false=>rw[bA]at hm;exact yL z (hm z ((bi)))
theorem Ay{w:Int}{es:c0}{e:Str×H}:(g8 w es e).length<=es.length+1:=by
 unfold g8
 split
 ·exact Nat.le_succ _
 ·unfold ee
  split
  ·rw[bc];exact Nat.le_succ _
  ·rw[da];exact c9 _
theorem TQ{w:Int}:∀(l:List (Str×H)) (es:c0),(l.foldl (g8 w) es).length<=es.length+l.length:=by
 intro l
 induction l with
 | nil=>intro es;exact c9 _
 | cons e l ag =>
  intro es;rw[iO,dv];have L:=ag (g8 w es e);have O:=Ay (w:=w) (es:=es) (e:=e)
  (grind)
theorem oI{w:Option (Nat×aS)}{ip:H->aE->Option aE}{f:aE->ac->c8}{ρ:aE}(hw:fK w σ):ct w ip f [] ρ σ=.next ρ σ:=az hw
theorem oH{w:Option (Nat×aS)}{ip:H->aE->Option aE}{f:aE->ac->c8}{x:H}{xs:List H}{ρ bQ eE:aE}{ao:ac}(hw:fK w σ)(hb:ip x ρ=some bQ)(h:f bQ σ=.next eE ao):ct w ip f (x::xs) ρ σ=ct w ip f xs eE ao:=by
 refine(az hw).trans ?_;rw[hb];show qa _ (f bQ σ)=_;rw[h];rfl
noncomputable def c1(i:Nat)(nm:Str)(t:Int)(sp:H)(pl vs:Option H)(w:Option H)(v:Option H):aE:=[some (.inst aT i),some (.str nm),some (.int t),some sp,pl,vs,w,v,none,none,none,none,none,none]
theorem NL{j:Nat}{nm:Str}{t w:Int}{sp:H}{vs:Option H}(a0:j≠X.h):∀(l:List (Str×H)) (es:c0) (σ:ac) (y z:Option H),σ[j]?=some .tp->dh p n es gs os X σ->es.length+l.length<900000 ->
  ∃a3 bY σ',ct (some (j,.tp)) (io [4,7]) (fun ρ σ=>ex (CC d) topN xy ρ σ) (l.map fun e=>.tup [.str e.1,e.2]) (c1 X.i nm t sp y vs (some (.int w)) z) σ=.next (c1 X.i nm t sp a3 vs (some (.int w)) bY) σ'/\dh p n (l.foldl (g8 w) es) gs os X σ'/\hV X σ σ':=by
 intro l
 induction l with
 | nil=>intro es σ y z hw b _;exact⟨y,z,σ,oI hw,b,.refl⟩
 | cons e l ag =>
  intro es σ y z hw b hl;rw[dv]at hl;obtain⟨x,v⟩:=e;have bf:tst (CC d) (.cmp (.v 7) .isNot (.k .none)) (c1 X.i nm t sp (some (.str x)) vs (some (.int w)) (some v)) σ=.ok (!lx v) σ:=rfl;have hb:io [4,7] (.tup [.str x,v]) (c1 X.i nm t sp y vs (some (.int w)) z)=some (c1 X.i nm t sp (some (.str x)) vs (some (.int w)) (some v)):=rfl
  have cs:∀{es':c0} {aa:ac},es'=g8 w es (x,v)->ex (CC d) topN Di (c1 X.i nm t sp (some (.str x)) vs (some (.int w)) (some v)) σ=.next (c1 X.i nm t sp (some (.str x)) vs (some (.int w)) (some v)) aa->dh p n es' gs os X aa->hV X σ aa->aa[j]?=some .tp ->
    ∃a3 bY σ',ct (some (j,.tp)) (io [4,7]) (fun ρ σ=>ex (CC d) topN xy ρ σ) (((x,v)::l).map fun e=>.tup [.str e.1,e.2]) (c1 X.i nm t sp y vs (some (.int w)) z) σ=.next (c1 X.i nm t sp a3 vs (some (.int w)) bY) σ'/\dh p n (((x,v)::l).foldl (g8 w) es) gs os X σ'/\hV X σ σ':=fun{es' aa} he h b1 k1 jU=>by
   subst he;obtain⟨a3,bY,σ',e,dC,b8⟩:=ag (g8 w es (x,v)) aa (some (.str x)) (some v) jU b1 (by have:=Ay (w:=w) (es:=es) (e:=(x,v));(grind));exact⟨a3,bY,σ',(oH (w:=some (j,.tp)) hw hb ((al h).trans bU)).trans e,dC,k1.trans b8⟩
  cases hv:lx v with
  | true =>
   rw[hv]at bf;exact cs (es':=es) (by unfold g8;exact(az hv).symm) (bD bf) b .refl hw
  | false =>
   rw[hv]at bf;refine cs (es':=ee (x,w) v es) (aa:=σ.set X.h (.dp (ee (x,w) v es))) (by unfold g8;exact(aY (by rw[hv];decide)).symm) ((cB bf).trans ((al (a:=Dj) ?_).trans bU)) b.here (.set (.inl rfl)) (cH (Ne.symm a0) hw);have ts:ev (CC d) (.attr aT (.v 0) "here") (c1 X.i nm t sp (some (.str x)) vs (some (.int w)) (some v)) σ=.ok (.ref X.h) σ:=gV (i:=X.i) (aa:=σ) rfl b.ns rfl;show(ev (CC d) (.v 7) (c1 X.i nm t sp (some (.str x)) vs (some (.int w)) (some v)) σ).toS _ (fun v σ=>(ev (CC d) (.attr aT (.v 0) "here") (c1 X.i nm t sp (some (.str x)) vs (some (.int w)) (some v)) σ).toS _ fun o σ=>(ev (CC d) (.tup #v[(.v 4),(.v 6)]) (c1 X.i nm t sp (some (.str x)) vs (some (.int w)) (some v)) σ).toS _ fun i σ=>hQ o i v _ σ)=_;rw[show ev (CC d) (.v 7) (c1 X.i nm t sp (some (.str x)) vs (some (.int w)) (some v)) σ=.ok v σ from rfl,gI,ts,gI,show ev (CC d) (.tup #v[(.v 4),(.v 6)]) (c1 X.i nm t sp (some (.str x)) vs (some (.int w)) (some v)) σ=.ok (.tup [.str x,.int w]) σ from rfl,gI];exact sT b.hr (by rw[eM];(grind))
theorem wT{r:Nat}{xs:List H}{v:H}(h:σ[r]?=some (.lst xs))(hl:xs.length<900000):iC .append (.ref r) [v] σ=.ok .none (σ.set r (.lst (xs++[v]))):=by
 show ko (.ref r) v σ=_;unfold ko;dsimp only;rw[h];dsimp only;exact az (by rw[eM];(exact aF (by assumption) (by decide)))
theorem z5{r:Nat}{xs:List H}(h:σ[r]?=some (.lst xs)):o2 .append (.ref r) σ=true:=by
 show g4 (.ref r) σ=true;unfold g4;dsimp only;rw[h]
theorem HI{r:cR}{k g:Nat}(h:fj r k g):∃w,(∀σ,fU r.pv (.int 0) σ=.ok (.str w) σ)/\(w == "later")=iz r:=by
 cases h <;> first | exact⟨_,fun J=>rfl,rfl⟩ | exact⟨"fixed",fun J=>rfl,by decide +kernel⟩
theorem WX:∀(a:List Str) (b:List H),mB (a.map .str) b=(a.zip b).map fun e=>.tup [.str e.1,e.2]:=by
 intro a
 induction a with
 | nil=>intro b;cases b <;> rfl
 | cons x a ag =>
  intro b
  cases b with
  | nil=>rfl
  | cons y b=>exact congrArg (_::·) (ag b)
theorem IK{r:cR}{vs:List H}{k g:Nat}(h:fj r k g):(hO r vs g).length=g:=by
 unfold hO
 cases hw:qK r with
 | false=>rw[aY (by decide)];exact List.length_replicate
 | true =>
  rw[az rfl]
  cases h <;> first | contradiction | (split <;> rfl)
structure Ka(p:List aq)(n:Nat)(es gs:c0)(os:List H)(X:dZ)(σ:ac)(r:ai H)(v:H)(σ':ac):Prop where
 e:r=.ok v σ'
 b:dh p n es gs os X σ'
 k:hV X σ σ'
theorem Nb{s:aq}{t:Int}(hp:d2 p)(b:dh p n es gs os X σ)(hs:s∈p)(hr:qW s)(hv:hE es)(h0:0<=t)(L:t<n)(hg:aG (s.name,t) gs=none)(hm:d7 es s t=none)
  (jV:es.length<800000) (lz:gs.length<800000) (XX:os.length<800000) :
  ∃σ',Ka p n (iW n es s t) (gs++[((s.name,t),.bool true)]) (os++[.tup [.str s.name,.int t]]) X σ (bz PP topN (d+4) sa [.inst aT X.i,.str s.name,.int t] σ) .none σ':=by
 have hf:=hp.steps s hs;rw[cx (fn:=t4) rfl rfl]
 have c6:ex (CC (d+3)) topN t5 [some (.inst aT X.i),some (.str s.name),some (.int t),none,none,none,none,none,none,none,none,none,none,none] σ=.next (c1 X.i s.name t s.pv none none none none) σ:=
  bR (gE (i:=X.i) (aa:=σ) (ao:=σ) (vs:=[.str s.name]) rfl b.ns rfl rfl (Iw b hs hp.names))
 have cT:ex (CC (d+3)) topN ru (c1 X.i s.name t s.pv none none none none) σ=.next (c1 X.i s.name t s.pv none none none none) σ:=
  gb (gE (i:=X.i) (aa:=σ) (ao:=σ) (vs:=[.int t]) rfl b.ns rfl rfl (Ix b h0 L))
 have i8:ex (CC (d+3)) topN t6 (c1 X.i s.name t s.pv none none none none) σ=.next (c1 X.i s.name t s.pv none none none none) σ:=by
  have c:=Gu (d:=d+2) (x:=s.name) (t:=t) b;rw[hg]at c;exact(bD (Jz (gE (i:=X.i) (aa:=σ) (ao:=σ) (vs:=[.str s.name,.int t]) rfl b.ns rfl rfl c)))
 have o9:ex (CC (d+3)) topN xw (c1 X.i s.name t s.pv none none none none) σ=.next (c1 X.i s.name t s.pv none none none none) σ:=by
  have c:=H9 (d:=d+2) (t:=t) b hf hr hv;rw[hm]at c;exact(bD (ch (gE (i:=X.i) (aa:=σ) (ao:=σ) (vs:=[s.pv,.int t]) rfl b.ns rfl rfl c) (y:=.none) (ao:=σ) rfl rfl))
 have qu:ex (CC (d+3)) topN De (c1 X.i s.name t s.pv none none none none) σ=.next (c1 X.i s.name t s.pv none none none none) (σ.set X.gn (.dp (gs++[((s.name,t),.bool true)]))):=by
  have tn:ev (CC (d+3)) (.attr aT (.v 0) "gone") (c1 X.i s.name t s.pv none none none none) σ=.ok (.ref X.gn) σ:=gV (i:=X.i) (aa:=σ) rfl b.ns rfl;show(ai.ok (H.bool true) σ).toS _ (fun v σ=>(ev (CC (d+3)) (.attr aT (.v 0) "gone") (c1 X.i s.name t s.pv none none none none) σ).toS _ fun o σ=>(ev (CC (d+3)) (.tup #v[(.v 1),(.v 2)]) (c1 X.i s.name t s.pv none none none none) σ).toS _ fun i σ=>hQ o i v _ σ)=_;rw[gI,tn,gI,show ev (CC (d+3)) (.tup #v[(.v 1),(.v 2)]) (c1 X.i s.name t s.pv none none none none) σ=.ok (.tup [.str s.name,.int t]) σ from rfl,gI,sT b.go (by rw[eM];(exact aF (by assumption) (by decide))),wU hg]
 have b1:dh p n es (gs++[((s.name,t),.bool true)]) os X (σ.set X.gn (.dp (gs++[((s.name,t),.bool true)]))):=b.gone;have k1:hV X σ (σ.set X.gn (.dp (gs++[((s.name,t),.bool true)]))):=.set (.inr (.inl rfl));generalize σ.set X.gn (.dp (gs++[((s.name,t),.bool true)]))=bq at qu b1 k1;generalize gs++[((s.name,t),.bool true)]=NP at b1 ⊢
 have qv:ex (CC (d+3)) topN Df (c1 X.i s.name t s.pv none none none none) bq=.next (c1 X.i s.name t s.pv none none none none) (bq.set X.od (.lst (os++[.tup [.str s.name,.int t]]))):=
  gb (gW (gV (i:=X.i) (aa:=bq) (v:=.ref X.od) rfl b1.ns rfl) (z5 b1.od) (y:=.tup [.str s.name,.int t]) (ao:=bq) rfl (wT b1.od ((aF (by assumption) (by decide)))))
 have d4:dh p n es NP (os++[.tup [.str s.name,.int t]]) X (bq.set X.od (.lst (os++[.tup [.str s.name,.int t]]))):=b1.order;have k2:=k1.trans (hV.set (X:=X) (σ:=bq) (m:=.lst (os++[.tup [.str s.name,.int t]])) (.inr (.inr rfl)));generalize bq.set X.od (.lst (os++[.tup [.str s.name,.int t]]))=bZ at qv d4 k2;generalize os++[.tup [.str s.name,.int t]]=X5 at d4 ⊢
 have fG:(s.needs.map H.str).length<=aB:=by rw[bc];exact aF hf.needs4 (by decide)
 have AL:ex (CC (d+3)) topN Dg (c1 X.i s.name t s.pv none none none none) bZ=.next (c1 X.i s.name t s.pv none (some (.fl (df es s t))) none none) bZ:=by
  have c:ev (CC (d+3)) Dd (c1 X.i s.name t s.pv none none none none) bZ=.ok (.fl ((s.needs.map H.str).map fun v=>match v with | .str x=>(aG (x,t) es).getD .none | _=>.none)) bZ:=
   mQ (xs:=s.needs.map .str) _ rfl fG fun v l9=>by
    refine aw (cK.mp l9) fun x J ae=>?_;obtain rfl:=ae;exact gW (gV (i:=X.i) (aa:=bZ) (v:=.ref X.h) rfl d4.ns rfl) (yI d4.hr) (y:=.tup [.str x,.int t]) (ao:=bZ) rfl (yM d4.hr)
  rw[hI]at c;exact bR c
 refine aw (HI hf.rule) fun w jU r7=>?_
 have AM:ex (CC (d+3)) topN Dh (c1 X.i s.name t s.pv none (some (.fl (df es s t))) none none) bZ=.next (c1 X.i s.name t s.pv none (some (.fl (df es s t))) (some (.int (fh s t))) none) bZ:=by
  have c:ev (CC (d+3)) (.cmp (.sub (.sub (.v 3) (.k (.int 1))) (.k (.int 0))) .eq (.k (.str "later"))) (c1 X.i s.name t s.pv none (some (.fl (df es s t))) none none) bZ=.ok (.bool (iz s.rule)) bZ:=by
   rw[<- r7];exact iU (cY (x:=s.rule.pv) (aa:=bZ) rfl (y:=.int 0) (ao:=bZ) rfl (jU bZ)) (y:=.str "later") (ao:=bZ) rfl pN
  exact bR (cz (x:=.int t) (aa:=bZ) rfl (c4 c int_bool) add_int)
 have vY:tst (CC (d+3)) (.cmp (.v 6) .eq (.attr aT (.v 0) "turns")) (c1 X.i s.name t s.pv none (some (.fl (df es s t))) (some (.int (fh s t))) none) bZ=.ok (fh s t == (n:Int)) bZ:=
  ch (x:=.int (fh s t)) (aa:=bZ) rfl (gV (i:=X.i) (aa:=bZ) (v:=.int n) rfl d4.ns rfl) kx
 have pre:∀{o:c8},ex (CC (d+3)) topN #v[t7,xx] (c1 X.i s.name t s.pv none (some (.fl (df es s t))) (some (.int (fh s t))) none) bZ=o->ex (CC (d+3)) topN t4.body [some (.inst aT X.i),some (.str s.name),some (.int t),none,none,none,none,none,none,none,none,none,none,none] σ=o:=fun{o} ho =>
  (al c6).trans ((al cT).trans ((al i8).trans ((al o9).trans ((al qu).trans ((al qv).trans ((al AL).trans ((al AM).trans ho)))))))
 unfold iW;by_cases hw:fh s t=n
 ·rw[e7.mpr hw]at vY;rw[az hw];exact⟨bZ,(congrArg a5 (pre (bn (a:=t7) ((cB vY).trans rfl)))).trans rfl,d4,k2⟩
 ·rw[k6.mpr hw]at vY;rw[aY hw];have vl:(df es s t).length=s.needs.length:=bc _;have eg:=Tg (d:=d) (σ:=bZ) (r:=s.rule) (vs:=df es s t) (k:=s.gives.length) (vl.symm▸hf.rule) (vl.symm▸(aF hf.needs4 (by decide))) (by rw[vl];exact hf.needs1) (aF hf.gives3 (by decide)) (xj hf hv hm);have kM:(hO s.rule (df es s t) s.gives.length).length=s.gives.length:=IK hf.rule;generalize hO s.rule (df es s t) s.gives.length=us at eg kM ⊢
  have it:evIt (CC (d+3)) (.zip #v[(.sub (.v 3) (.k (.int 3))),(.call zI #v[(.sub (.v 3) (.k (.int 1))),(.v 5),(.b1 .len (.sub (.v 3) (.k (.int 3))))])]) (c1 X.i s.name t s.pv none (some (.fl (df es s t))) (some (.int (fh s t))) none) bZ=.ok ((s.gives.zip us).map fun e=>.tup [.str e.1,e.2],some (bZ.length,.tp)) (bZ++[.tp]):=by
   rw[MK,c7 (x:=.tup (s.gives.map .str)) (aa:=bZ) rfl (c7 (lV (x:=s.rule.pv) (aa:=bZ) rfl (y:=.fl (df es s t)) (ao:=bZ) rfl (c4 (x:=.tup (s.gives.map .str)) (aa:=bZ) rfl (vo (aF hf.gives3 (by decide)))) eg) (h5)),b0];show(if(s.gives.map H.str).length=us.length/\us.length<=aB then ai.ok (mB (s.gives.map .str) us,some (bZ.length,aS.tp)) (bZ++[.tp])else .stuck)=_;rw[az ⟨by rw[bc,kM],by rw[kM];exact aF hf.gives3 (by decide)⟩,WX]
  obtain⟨a3,bY,σ',e,dC,b8⟩:=NL (d:=d+3) (n:=n) (j:=bZ.length) (nm:=s.name) (t:=t) (w:=fh s t) (sp:=s.pv) (vs:=some (.fl (df es s t))) (X:=X) (cS (dU d4.hr).1) (s.gives.zip us) es (bZ++[.tp]) none none (by simp) d4.more (by rw[List.length_zip,kM,Nat.min_self];have:=hf.gives3;(grind))
  have AN:ex (CC (d+3)) topN xx (c1 X.i s.name t s.pv none (some (.fl (df es s t))) (some (.int (fh s t))) none) bZ=.next (c1 X.i s.name t s.pv a3 (some (.fl (df es s t))) (some (.int (fh s t))) bY) σ':=by
   show(evIt (CC (d+3)) _ _ bZ).toS _ _=_;exact it.symm▸e
  exact⟨σ',(congrArg a5 (pre ((al (a:=t7) (bD vY)).trans ((al AN).trans bU)))).trans rfl,dC,(k2.trans .app).trans b8⟩
end
theorem BV{dq:Type}[DecidableEq dq]{k b8:dq}{v:H}{es:List (dq×H)}:aG k (ee b8 v es)=if k=b8 then some v else aG k es:=wO
theorem tq{dq:Type}[DecidableEq dq]{k b8:dq}{v:H}{es:List (dq×H)}(h:aG b8 es=none):aG k (es++[(b8,v)])=if k=b8 then some v else aG k es:=by
 unfold aG at h ⊢;rw[List.find?_append];by_cases hk:k=b8
 ·subst hk;rw[az rfl,Option.map_eq_none_iff.mp h];simp
 ·rw[aY hk]
  have:[(b8,v)].find? (fun e=>decide (e.1=k))=none:=by simp[Ne.symm hk]
  rw[this,Option.or_none]
theorem BX{w:Int}{k:Str×Int}:∀(l:List (Str×H)) (es:c0),k.2≠w\/k.1∉l.map (·.1)->aG k (l.foldl (g8 w) es)=aG k es:=by
 intro l
 induction l with
 | nil=>intro es _;rfl
 | cons e l ag =>
  intro es h;rw[iO,ag]
  ·unfold g8
   split
   ·rfl
   ·rw[BV,aY]
    rintro rfl
    rcases h with h | h
    ·exact h rfl
    ·exact h ((bi))
  ·rcases h with h | h
   ·exact .inl h
   ·exact .inr fun q=>h (bI _ q)
theorem hE.puts{w:Int}:∀(l:List (Str×H)) (es:c0),hE es->(∀e∈l,dz e.2\/e.2=.none)->hE (l.foldl (g8 w) es):=by
 intro l
 induction l with
 | nil=>intro es h _;exact h
 | cons e l ag =>
  intro es h hl;refine ag _ ?_ fun x hx=>hl x (bI _ hx);unfold g8
  rcases hl e bi with hv | hv
  ·split
   ·exact h
   ·intro k v hk;rw[BV]at hk;by_cases hq:k=(e.1,w)
    ·rw[az hq]at hk;obtain rfl:=oi hk;exact hv
    ·rw[aY hq]at hk;exact h k v hk
  ·rw[az (by rw[hv];rfl)];exact h
theorem s7{i:Int}(h0:0<=i)(L:i<=999999):dz (.int i):=⟨i,rfl,h0,L⟩
theorem FR{f:Int->Int->Int}(bw:∀a b:Int,f a b=a\/f a b=b):∀(l:List Int) (a:Int),(0<=a/\a<=999999)->(∀x∈l,0<=x/\x<=999999)->0<=l.foldl f a/\l.foldl f a<=999999:=by
 intro l
 induction l with
 | nil=>intro a h _;exact h
 | cons x l ag =>
  intro a h hl;refine ag _ ?_ fun y hy=>hl y (bI _ hy)
  rcases bw a x with q | q
  ·rw[q];exact h
  ·rw[q];exact hl x bi
theorem H8(a b:Int):min a b=a\/min a b=b:=by grind
theorem H2(a b:Int):max a b=a\/max a b=b:=by grind
theorem Ig{i:Int}:dz (.int (i%1000000)):=s7 (eI _ (by decide)) (Int.le_of_lt_add_one (fA _ (by decide)))
theorem TF:∀(l:List Int) (a:Int),(0<=a/\a<=999999)->dz (.int (l.foldl (fun a x=>a*x%1000000) a)):=by
 intro l
 induction l with
 | nil=>intro a h;exact s7 h.1 h.2
 | cons x l ag=>intro a h;refine bC (Ig (i:=a*x)) fun i hi h0 L=>?_;cases hi;exact ag _ ⟨h0,L⟩
theorem Jb{r:cR}{vs:List H}{k:Nat}(h:fj r vs.length k)(L:1<=vs.length)(he:nR r vs):dz (ny r vs):=by
 have B9:(∀v∈vs,dz v)->dz (vs.getD 0 .none):=fun hv=>by
  rw[k4,dx (show 0<vs.length from L)];exact hv _ (km _)
 generalize hk:vs.length=m at h
 cases h with
 | sum _ _=>exact Ig
 | times _ _=>exact TF _ 1 (by decide)
 | least _ _ =>
  refine aw (lM (show ∀v∈vs,dz v from he)) fun l ae hv=>?_;obtain rfl:=ae;show dz (.int (lA (h7 (l.map .int))));rw[lw]
  cases l with
  | nil=>exact absurd L (by decide)
  | cons x l=>refine aP (FR (f:=min) H8 l x (hv x bi) fun y hy=>hv y (bI _ hy)) fun a b=>?_;exact s7 a b
 | most _ _ =>
  refine aw (lM (show ∀v∈vs,dz v from he)) fun l ae hv=>?_;obtain rfl:=ae;show dz (.int (lC (h7 (l.map .int))));rw[lw]
  cases l with
  | nil=>exact absurd L (by decide)
  | cons x l=>refine aP (FR (f:=max) H2 l x (hv x bi) fun y hy=>hv y (bI _ hy)) fun a b=>?_;exact s7 a b
 | later _=>exact B9 he
 | way=>exact B9 he
 | choose _=>exact he.2
 | fixed v _ _ a b=>exact s7 a b
theorem Tf{r:cR}{vs:List H}{k:Nat}(h:fj r vs.length k)(L:1<=vs.length)(he:nR r vs):∀u∈hO r vs k,dz u\/u=.none:=by
 unfold hO
 cases hw:qK r with
 | false =>
  rw[aY (by decide)];intro u hu;rw[List.eq_of_mem_replicate hu];exact .inl (Jb h L he)
 | true =>
  rw[az rfl];have hs:=Jb h L he;generalize vs.length=m at h
  cases h with
  | way =>
   have hs:dz (vs.getD 0 .none):=hs;intro u hu
   split at hu
   ·rcases bE.mp hu with rfl | hu
    ·exact .inl hs
    ·exact .inr (dt.mp hu)
   ·rcases bE.mp hu with rfl | hu
    ·exact .inr rfl
    ·exact(dt.mp hu).symm▸(.inl hs)
  | _=>contradiction
theorem hE.fire{n:Nat}{es:c0}{s:aq}{t:Int}(hs:hB s)(hv:hE es)(hm:d7 es s t=none):hE (iW n es s t):=by
 unfold iW
 split
 ·exact hv
 ·have vl:(df es s t).length=s.needs.length:=bc _;refine hv.puts _ _ fun e he=>?_;exact Tf (k:=s.gives.length) (by rw[vl];exact hs.rule) (by rw[vl];exact hs.needs1) (xj hs hv hm) e.2 (List.of_mem_zip he).2
structure cA where
 es:c0
 gs:c0
 os:List H
noncomputable def cA.fire(n:Nat)(B:cA)(s:aq)(t:Int):cA:=⟨iW n B.es s t,B.gs++[((s.name,t),.bool true)],B.os++[.tup [.str s.name,.int t]]⟩
noncomputable def cA.rdy(B:cA)(s:aq)(t:Int):Bool:=vN B.es B.gs s t
theorem cA.rdy_of{B:cA}{s:aq}{t:Int}(h:B.rdy s t=true):aG (s.name,t) B.gs=none/\d7 B.es s t=none:=by
 refine aP (cV h) fun a b=>?_;exact⟨mK.mp a,mK.mp b⟩
inductive f0(p:List aq)(n:Nat)(A:cA):cA->List (aq×Int)->Prop
 | nil:f0 p n A A []
 | snoc {B:cA} {l:List (aq×Int)} {s:aq} {t:Int} (h:f0 p n A B l) (hs:s∈p) (h0:0<=t) (L:t<n) (hr:B.rdy s t=true):f0 p n A (B.fire n s t) (l++[(s,t)])
section
variable {p:List aq}{n:Nat}{A B:cA}{l:List (aq×Int)}
theorem f0.trans{D:cA}{k:List (aq×Int)}(h:f0 p n A B l)(O:f0 p n B D k):f0 p n A D (l++k):=by
 induction O with
 | nil=>rw[List.append_nil];exact h
 | snoc O hs h0 L hr ag=>rw[<- ey];exact .snoc ag hs h0 L hr
theorem f0.val(hp:d2 p)(h:f0 p n A B l)(hv:hE A.es):hE B.es:=by
 induction h with
 | nil=>exact hv
 | snoc h hs h0 L hr ag=>exact ag.fire (hp.steps _ hs) (cA.rdy_of hr).2
structure qX(B:cA)(m:Nat):Prop where
 es:B.es.length<=3*m
 gs:B.gs.length<=m
 os:B.os.length<=m
theorem NK{es:c0}{s:aq}{t:Int}(hs:hB s):(iW n es s t).length<=es.length+3:=by
 unfold iW
 split
 ·exact e6 _ _
 ·refine aF (TQ _ _) (Nat.add_le_add_left ?_ _);rw[List.length_zip];exact aF (Nat.min_le_left _ _) hs.gives3
theorem qX.fire{m:Nat}{s:aq}{t:Int}(hs:hB s)(h:qX B m):qX (B.fire n s t) (m+1):=
 ⟨by have:=NK (n:=n) (es:=B.es) (t:=t) hs;have:=h.es;show(iW n B.es s t).length<=_;(grind),by show(B.gs++[_]).length<=_;rw[da];exact Nat.succ_le_succ h.gs,by show(B.os++[_]).length<=_;rw[da];exact Nat.succ_le_succ h.os⟩
noncomputable def left(p:List aq)(B:cA)(t:Int):Nat:=p.countP fun s=>(aG (s.name,t) B.gs).isNone
theorem L8{f g:aq->Bool}{s:aq}(h:∀x,g x=true->f x=true)(bw:f s=true)(hg:g s=false):∀{p:List aq},s∈p->p.countP g+1<=p.countP f:=by
 intro p
 induction p with
 | nil=>intro h;contradiction
 | cons a p ag =>
  intro hs;rw[List.countP_cons,List.countP_cons];have le:p.countP g<=p.countP f:=List.countP_mono_left fun x J=>h x
  rcases bE.mp hs with rfl | hs
  ·rw[bw,hg];simp;exact le
  ·have:=ag hs
   cases ha:g a with
   | true=>rw[h a ha];simp;(assumption)
   | false=>simp;(exact aF (by assumption) (e6 _ _))
theorem f0.left{t:Int}(h:f0 p n A B l)(a1:∀e∈l,e.2=t):left p B t+l.length<=left p A t:=by
 induction h with
 | nil=>exact c9 _
 | @snoc B l s bX h hs h0 L hr ag =>
  have:=ag fun e he=>a1 e (gO _ he);obtain rfl:bX=t:=a1 (s,bX) (fk _ (dt.mpr rfl));have hg:=(cA.rdy_of hr).1
  have key:∀x,aG (x,bX) (B.fire n s bX).gs=if(x,bX)=(s.name,bX)then some (.bool true)else aG (x,bX) B.gs:=fun x=>tq hg
  have c:Mine.left p (B.fire n s bX) bX+1<=Mine.left p B bX:=by
   refine L8 (s:=s) (fun x hx=>?_) (by rw[hg];rfl) ?_ hs
   ·rw[key]at hx;by_cases q:(x.name,bX)=(s.name,bX)
    ·rw[az q]at hx;contradiction
    ·rw[aY q]at hx;exact hx
   ·rw[key,az rfl];rfl
  rw[da];show _+(l.length+1)<=_
  (grind)
theorem f0.rdy{t:Int}{s:aq}(h:f0 p n A B l)(a1:∀e∈l,t<e.2):B.rdy s t=A.rdy s t:=by
 induction h with
 | nil=>rfl
 | @snoc B l s' bX h hs h0 L hr ag =>
  rw[<- ag fun e he=>a1 e (gO _ he)];have lt:t<bX:=a1 (s',bX) (fk _ (dt.mpr rfl));have hg:=(cA.rdy_of hr).1;have V:∀x,aG (x,t) (B.fire n s' bX).gs=aG (x,t) B.gs:=fun x=>(tq hg).trans (aY fun q=>Int.ne_of_lt lt (Prod.mk.inj q).2)
  have aj:∀x,aG (x,t) (B.fire n s' bX).es=aG (x,t) B.es:=fun x=>by
   show aG (x,t) (iW n B.es s' bX)=_;unfold iW
   split
   ·rfl
   ·refine BX _ _ (.inl (Int.ne_of_lt ?_));unfold fh
    split
    ·exact Int.lt_add_one_of_le (Int.le_of_lt lt)
    ·rw[Int.add_zero];exact lt
  show vN _ _ _ _=vN _ _ _ _;unfold vN d7
  have bF:mM (B.fire n s' bX).es s t=mM B.es s t:=by
   unfold mM
   split
   ·split
    ·rw[aj]
    ·rfl
   ·rfl
  rw[V,bF];refine congrArg (fun f=>(aG (s.name,t) B.gs).isNone&&((mM B.es s t).find? f).isNone) (funext fun x=>?_);rw[aj]
end
noncomputable abbrev wr(p:List aq)(n:Nat)(B:cA)(X:dZ)(σ:ac):Prop:=dh p n B.es B.gs B.os X σ
noncomputable def iE(p:List aq)(x:Str):Bool:=decide (x∈p.flatMap (·.gives))||decide (x∈fS p)
section
variable {p:List aq}{n:Nat}{es gs:c0}{os:List H}{X:dZ}{σ:ac}{d:Nat}
theorem Iv{x:Str}(b:dh p n es gs os X σ)(h:iE p x=true):bz PP topN (d+1) zB [.inst aT X.i,.str x] σ=.ok .none σ:=by
 rw[cx (fn:=Dr) rfl rfl]
 have bf:tst (CC d) (.or #v[(.not (.isinst (.v 1) .str)),(.and #v[(.cmp (.v 1) .notin (.attr aT (.v 0) "givers")),(.cmp (.v 1) .notin (.attr aT (.v 0) "outer"))])]) [some (.inst aT X.i),some (.str x),none,none,none] σ=.ok (!iE p x) σ:=by
  refine ib (ja rfl (i9 ((hh (lL (ch (x:=.str x) (aa:=σ) rfl (gV (i:=X.i) (aa:=σ) (v:=.ref X.g) rfl b.ns rfl) (IB b.gv)) fun J=>iH (ch (x:=.str x) (aa:=σ) rfl (gV (i:=X.i) (aa:=σ) (v:=.ref X.o) rfl b.ns rfl) (sx b.ot)))).trans ?_)));rw[F5];unfold iE;rw[Bool.not_or]
 rw[h]at bf;exact(congrArg a5 ((al (a:=Ds) (bD bf)).trans bU)).trans rfl
theorem TO{x:Str}{j i:Int}(hp:d2 p)(b:dh p n es gs os X σ)(L:iE p x=true)(h0:0<=j)(a0:j<n)(hb:kq p x j=false)(hv:0<=i/\i<=999999)(ha:aG (x,j) es=none)(hl:es.length<900000) :
  bz PP topN (d+4) u9 [.inst aT X.i,.str x,.int j,.int i] σ=.ok .none (σ.set X.h (.dp (es++[((x,j),.int i)]))):=by
 rw[cx (fn:=xI) rfl rfl];show a5 (ex (CC (d+3)) topN xI.body [some (.inst aT X.i),some (.str x),some (.int j),some (.int i),none,none,none,none] σ)=_;generalize lu:([some (.inst aT X.i),some (.str x),some (.int j),some (.int i),none,none,none,none]:aE)=ρ
 have fg:∀{τ:ac},ev (CC (d+3)) (.v 0) ρ τ=.ok (.inst aT X.i) τ:=fun{τ}=>by subst lu;rfl
 have aR:∀{τ:ac},ev (CC (d+3)) (.v 1) ρ τ=.ok (.str x) τ:=fun{τ}=>by subst lu;rfl
 have bu:∀{τ:ac},ev (CC (d+3)) (.v 2) ρ τ=.ok (.int j) τ:=fun{τ}=>by subst lu;rfl
 have ic:∀{τ:ac},ev (CC (d+3)) (.v 3) ρ τ=.ok (.int i) τ:=fun{τ}=>by subst lu;rfl
 have c6:ex (CC (d+3)) topN Dt ρ σ=.next ρ σ:=gb (gE fg b.ns rfl (c7 aR rfl) (Iv b L))
 have cT:ex (CC (d+3)) topN Du ρ σ=.next ρ σ:=gb (gE fg b.ns rfl (c7 bu rfl) (Ix b h0 a0))
 have BY:=gV (n := "givers") (v:=.ref X.g) (fg (τ:=σ)) b.ns rfl;have ts:=gV (n := "here") (v:=.ref X.h) (fg (τ:=σ)) b.ns rfl;have key:ev (CC (d+3)) (.tup #v[(.v 1),(.v 2)]) ρ σ=.ok (.tup [.str x,.int j]) σ:=ku (vs:=[.str x,.int j]) (c7 aR (c7 bu rfl)) (show(2:Nat)<=aB by decide)
 have cC:tst (CC (d+3)) (.and #v[(.cmp (.v 1) .isin (.attr aT (.v 0) "givers")),(.or #v[(.cmp (.sub (.sub (.sub (.attr aT (.v 0) "givers") (.v 1)) (.k (.int 1))) (.k (.int 0))) .ne (.k (.str "later"))),(.cmp (.v 2) .gt (.k (.int 0)))])]) ρ σ=.ok (kq p x j) σ:=by
  have cr:=ch aR BY (QB (k:=x) b.gv);rw[BW,Option.isSome_map]at cr;unfold kq
  cases hg:oK p x with
  | none =>
   rw[hg]at cr;exact hh (AY cr)
  | some s =>
   rw[hg]at cr;have hs:s∈p:=List.mem_of_find?_eq_some hg;refine aw (HI (hp.steps s hs).rule) fun w jU r7=>?_;have ft:ev (CC (d+3)) (.sub (.attr aT (.v 0) "givers") (.v 1)) ρ σ=.ok s.pv σ:=cY BY aR (Vd b.gv (by rw[BW,hg];rfl));have rk:ev (CC (d+3)) (.sub (.sub (.sub (.attr aT (.v 0) "givers") (.v 1)) (.k (.int 1))) (.k (.int 0))) ρ σ=.ok (.str w) σ:=cY (cY ft (y:=.int 1) (ao:=σ) rfl (v:=.ok s.rule.pv σ) rfl) (y:=.int 0) (ao:=σ) rfl (jU σ);have Cm:=ch rk (y:=.str "later") (ao:=σ) (b:=.k (.str "later")) rfl Iu;rw[r7]at Cm;exact hh (sW cr (iH (ib (qD Cm fun J=>i9 (ch bu (y:=.int 0) (ao:=σ) rfl gt_int)))))
 rw[hb]at cC
 have i8:ex (CC (d+3)) topN Dv ρ σ=.next ρ σ:=(bD cC)
 have j6:tst (CC (d+3)) (.not (.call sd #v[(.v 3)])) ρ σ=.ok (!true) σ:=by
  have c:bz PP topN (d+3) sd [.int i] σ=.ok (.bool (decide (0<=i)&&decide (i<=999999))) σ:=Mine.h0;rw[ed hv.1,ed hv.2]at c;exact fV (iI (dN ic c))
 have o9:ex (CC (d+3)) topN Dw ρ σ=.next ρ σ:=(bD j6)
 have pe:=ch key ts (vi (x:=x) (j:=j) b.hr);rw[ha]at pe
 have qu:ex (CC (d+3)) topN Dx ρ σ=.next ρ σ:=(bD pe)
 have qv:ex (CC (d+3)) topN Dy ρ σ=.next ρ (σ.set X.h (.dp (es++[((x,j),.int i)]))):=by
  show(ev (CC (d+3)) (.v 3) ρ σ).toS ρ (fun v σ=>(ev (CC (d+3)) (.attr aT (.v 0) "here") ρ σ).toS ρ fun o σ=>(ev (CC (d+3)) (.tup #v[(.v 1),(.v 2)]) ρ σ).toS ρ fun i σ=>hQ o i v ρ σ)=_;rw[ic,gI,ts,gI,key,gI,sT b.hr (by rw[eM];(exact aF (by assumption) (by decide))),wU ha]
 exact(congrArg a5 ((al c6).trans ((al cT).trans ((al i8).trans ((al o9).trans ((al qu).trans ((al qv).trans bU))))))).trans rfl
theorem FP(b:dh p n es gs os X σ)(hl:os.length<=900000):bz PP topN (d+1) oV [.inst aT X.i] σ=.ok (.ref σ.length) (σ++[.lst os]):=by
 rw[cx (fn:=Dk) rfl rfl]
 have e:ev (CC d) (.b1 (.list false) (.attr aT (.v 0) "order")) [some (.inst aT X.i),none] σ=.ok (.ref σ.length) (σ++[.lst os]):=by
  refine c4 (gV (i:=X.i) (aa:=σ) (v:=.ref X.od) rfl b.ns rfl) ?_;show jy (fun xs=>er false xs σ) (.ref X.od) σ=_;rw[qk (show d0 σ (.ref X.od)=some os by unfold d0;dsimp only;rw[b.od])];exact z4 (by rw[eM];omega)
 exact(congrArg a5 (bn (a:=Dl) (di e))).trans rfl
end
theorem yK{s:aq}{x:Str}(hx:x∈s.gives):∀{p:List aq},(p.flatMap (·.gives)).Nodup->s∈p->oK p x=some s:=by
 intro p
 induction p with
 | nil=>intro _ h;contradiction
 | cons a p ag =>
  intro hg hs;rw[k8,jo]at hg;unfold oK;rw[jp];by_cases ha:x∈a.gives
  ·rw[ed ha]
   rcases bE.mp hs with rfl | hs
   ·rfl
   ·exact absurd rfl (hg.2.2 x ha x (List.mem_flatMap.mpr ⟨s,hs,hx⟩))
  ·rw[gR ha]
   rcases bE.mp hs with rfl | hs
   ·exact absurd hx ha
   ·exact ag hg.2.1 hs
theorem WT{g:List Str}{l:List H}{x:Str}(h:x∈(g.zip l).map (·.1)):x∈g:=by
 refine aw (cK.mp h) fun e he ae=>?_;obtain rfl:=ae;exact(List.of_mem_zip he).1
section
variable {p:List aq}{n:Nat}{A B:cA}{l:List (aq×Int)}{es:c0}{s:aq}{t:Int}
theorem F3{x:Str}{j:Int}(hp:d2 p)(hs:s∈p)(h0:0<=t)(hb:kq p x j=false):aG (x,j) (iW n es s t)=aG (x,j) es:=by
 unfold iW
 split
 ·rfl
 ·refine BX _ _ ?_;by_cases hx:x∈s.gives
  ·refine .inl fun q=>?_;unfold kq at hb;rw[yK hx hp.gives hs]at hb;refine aP (Bool.or_eq_false_iff.mp hb) fun L O=>?_
   have L:iz s.rule=true:=by cases hl:iz s.rule <;> rw[hl]at L <;> first | rfl | contradiction
   have q:j=t+(if iz s.rule=true then 1 else 0):=q;rw[az L]at q;have:=of_decide_eq_false O
   (grind)
  ·exact .inr fun q=>hx (WT q)
theorem f0.free{x:Str}{j:Int}(hp:d2 p)(h:f0 p n A B l)(hb:kq p x j=false):aG (x,j) B.es=aG (x,j) A.es:=by
 induction h with
 | nil=>rfl
 | snoc h hs h0 L hr ag=>exact(F3 hp hs h0 hb).trans ag
theorem y1{dq:Type}[DecidableEq dq]{k:dq}{es:List (dq×H)}:(aG k es).isSome=true ↔ k∈es.map (·.1):=by
 unfold aG;rw[Option.isSome_map,List.find?_isSome,cK];exact⟨fun⟨e,he,q⟩=>⟨e,he,hZ q⟩,fun⟨e,he,q⟩=>⟨e,he,ed q⟩⟩
structure qU(p:List aq)(n:Nat)(B:cA):Prop where
 nodup:(B.gs.map (·.1)).Nodup
 inn:∀k:Str×Int,k∈B.gs.map (·.1)->∃s∈p,k.1=s.name/\0<=k.2/\k.2<(n:Int)
 os:B.os=B.gs.map fun e=>.tup [.str e.1.1,.int e.1.2]
theorem f0.gk(h:f0 p n A B l)(g:qU p n A):qU p n B:=by
 induction h with
 | nil=>exact g
 | @snoc B l s t h hs h0 L hr ag =>
  have hg:=(cA.rdy_of hr).1
  have SP:(s.name,t)∉B.gs.map (·.1):=fun q=>by
   have:=y1.mpr q;rw[hg]at this;contradiction
  refine⟨?_,fun k hk=>?_,?_⟩
  ·show((B.gs++[((s.name,t),H.bool true)]).map (·.1)).Nodup;rw[fD,jo];refine⟨ag.nodup,hG.mpr ⟨dT,List.nodup_nil⟩,fun a ha b hb q=>?_⟩;rw[dt.mp hb]at q;have q:a=(s.name,t):=q;rw[q]at ha;exact SP ha
  ·have hk:k∈(B.gs++[((s.name,t),H.bool true)]).map (·.1):=hk;rw[fD]at hk
   rcases c2.mp hk with hk | hk
   ·exact ag.inn k hk
   ·rw[dt.mp hk];exact⟨s,hs,rfl,h0,L⟩
  ·show B.os++[_]=(B.gs++[((s.name,t),H.bool true)]).map _;rw[fD,ag.os];rfl
theorem f0.count(h:f0 p n A B l):B.gs.length=A.gs.length+l.length:=by
 induction h with
 | nil=>rfl
 | @snoc B l s t h hs h0 L hr ag =>
  show(B.gs++[((s.name,t),H.bool true)]).length=_;rw[da,da,ag];rfl
end
theorem Yr:((0:Nat):Int)<=0:=Int.le_refl 0
theorem SS{α:Type}[DecidableEq α]:∀(l k:List α),l.Nodup->(∀x∈l,x∈k)->l.length<=k.length:=by
 intro l
 induction l with
 | nil=>intro k _ _;exact Nat.zero_le _
 | cons a l ag =>
  intro k hn hk;rw[hG]at hn;have ha:=hk a bi;have:=ag (k.erase a) hn.2 fun x hx=>(List.mem_erase_of_ne (fun e:x=a=>hn.1 (e▸hx))).mpr (hk x (bI _ hx));rw[List.length_erase_of_mem ha]at this;have:=List.length_pos_of_mem ha;rw[dv];(grind)
theorem qU.len{p:List aq}{n:Nat}{B:cA}(g:qU p n B):B.gs.length<=p.length*n:=by
 have:=SS _ ((p.map (·.name)).flatMap fun x=>(List.range n).map fun(t:Nat)=>(x,(t:Int))) g.nodup fun k hk=>by
  refine om (g.inn k hk) fun s hs L O ar=>?_;obtain⟨x,t⟩:=k;refine aJ (iN O) fun t ae=>?_;obtain rfl:=ae;rw[List.mem_flatMap];refine⟨x,cK.mpr ⟨s,hs,Eq.symm L⟩,cK.mpr ⟨t,List.mem_range.mpr (by have:(t:Int)<n:=ar;(exact d3.mp (by assumption))),rfl⟩⟩
 rw[bc,List.length_flatMap]at this
 have c:∀l:List Str,(l.map fun x=>((List.range n).map fun(t:Nat)=>(x,(t:Int))).length).sum=l.length*n:=by
  intro l
  induction l with
  | nil=>simp
  | cons a l ag=>rw[dG,List.sum_cons,ag,bc,List.length_range,dv,Nat.succ_mul,Nat.add_comm]
 rw[c,bc]at this;exact this
theorem FW{p:List aq}{x:Str}{j:Int}(h:∀s∈p,x∈s.gives->iz s.rule=true/\j<=0):kq p x j=false:=by
 unfold kq
 cases hg:oK p x with
 | none=>rfl
 | some s =>
  have hs:=List.mem_of_find?_eq_some hg;have hx:x∈s.gives:=hZ (List.find?_some (p:=fun s:aq=>decide (x∈s.gives)) hg);refine aP (h s hs hx) fun L O=>?_;show(!iz s.rule||decide (j > 0))=false;rw[L,gR (by grind)];rfl
noncomputable def cA.put(B:cA)(x:Str)(j i:Int):cA:=⟨B.es++[((x,j),.int i)],B.gs,B.os⟩
section
variable {d:Nat}{σ:ac}{es:c0}{tk:Nat}{s:aq}{t:Int}
theorem AJ{r:cR}{k g:Nat}(h:fj r k g):cQ .eq r.pv (.tup [.str "later"]) σ=.ok (iz r) σ/\cQ .eq r.pv (.tup [.str "choose"]) σ=.ok (jP r) σ:=by
 have:∀w v:Str,cQ .eq (.tup [.str w]) (.tup [.str v]) σ=.ok (w == v) σ:=fun w v=>by
  show ai.ofOpt (some ((w == v)&&true)) σ=_;rw[Bool.and_true];rfl
 cases h <;> first | exact⟨this _ _,this _ _⟩ | exact⟨rfl,rfl⟩
noncomputable def mj(es:c0)(s:aq)(t:Int):List Str:=
 if jP s.rule=true then(match s.needs with
  | [a,b,c]=>(match aG (a,t) es with
   | none=>[a,b,c]
   | some v=>if jD v=true then[b]else[c])
  | l=>l)
 else s.needs
theorem SA(hs:hB s):((mj es s t).find? fun x=>(aG (x,t) es).isNone)=d7 es s t:=by
 refine bC (vO hs.rule) fun J J J ar=>?_;unfold mj d7 mM
 cases hc:jP s.rule with
 | false=>rfl
 | true =>
  have ar:=ar hc;rw[az rfl,az rfl];obtain⟨nm,rl,ns,gv⟩:=s;refine mU (p9 (show ns.length=3 from ar)) fun a b c ae=>?_;obtain rfl:=ae;dsimp only
  cases ha:aG (a,t) es with
  | none =>
   dsimp only;rw[jp,jp (a:=a) (as:=[]),ha];rfl
  | some v=>rfl
theorem SF(hs:hB s)(h:σ[tk]?=some (.dp es))(hv:hE es):bz PP topN (d+1) sg [s.pv,.ref tk,.int t] σ=.ok (.fl ((mj es s t).map .str)) σ:=by
 rw[cx (fn:=x6) rfl rfl]
 have c6:ex (CC d) topN ED [some s.pv,some (.ref tk),some (.int t),none,none,none] σ=.next [some s.pv,some (.ref tk),some (.int t),some (.fl (s.needs.map .str)),none,none] σ:=
  bR (c4 (x:=.tup (s.needs.map .str)) (aa:=σ) rfl (Rx (by rw[bc];exact aF hs.needs4 (by decide))))
 have bf:tst (CC d) (.cmp (.sub (.v 0) (.k (.int 1))) .eq (.tup #v[(.k (.str "choose"))])) [some s.pv,some (.ref tk),some (.int t),some (.fl (s.needs.map .str)),none,none] σ=.ok (jP s.rule) σ:=
  ch (x:=s.rule.pv) (y:=.tup [.str "choose"]) (aa:=σ) (ao:=σ) rfl rfl (AJ hs.rule).2
 have cs:∀{l:List Str},ex (CC d) topN EE [some s.pv,some (.ref tk),some (.int t),some (.fl (s.needs.map .str)),none,none] σ=.next [some s.pv,some (.ref tk),some (.int t),some (.fl (l.map .str)),none,none] σ->a5 (ex (CC d) topN x6.body [some s.pv,some (.ref tk),some (.int t),none,none,none] σ)=.ok (.fl (l.map .str)) σ:=fun{l} h =>
  (congrArg a5 ((al c6).trans ((al h).trans rfl))).trans rfl
 unfold mj;refine bC (vO hs.rule) fun J J J ar=>?_
 cases hc:jP s.rule with
 | false =>
  rw[hc]at bf;rw[aY (by decide)];exact cs (bD (hh (AY bf)))
 | true =>
  rw[hc]at bf;have ar:=ar hc;rw[az rfl];obtain⟨nm,rl,ns,gv⟩:=s;refine mU (p9 (show ns.length=3 from ar)) fun a b c ae=>?_;obtain rfl:=ae;dsimp only;have key:ev (CC d) (.tup #v[(.sub (.v 3) (.k (.int 0))),(.v 2)]) [some (aq.pv ⟨nm,rl,[a,b,c],gv⟩),some (.ref tk),some (.int t),some (.fl [.str a,.str b,.str c]),none,none] σ=.ok (.tup [.str a,.int t]) σ:=rfl;have cC:=ch key (b:=.v 1) (y:=.ref tk) (ao:=σ) rfl (vi h)
  cases ha:aG (a,t) es with
  | none =>
   rw[ha]at cC;exact cs (l:=[a,b,c]) (bD (hh (sW bf (iH cC))))
  | some v =>
   rw[ha]at cC;refine aw (hv _ _ ha) fun i ae J=>?_;obtain rfl:=ae;dsimp only
   have V:ev (CC d) (.b1 .int (.cmp (.sub (.v 1) (.tup #v[(.sub (.v 3) (.k (.int 0))),(.v 2)])) .ne (.k (.int 0)))) [some (aq.pv ⟨nm,rl,[a,b,c],gv⟩),some (.ref tk),some (.int t),some (.fl [.str a,.str b,.str c]),none,none] σ=.ok (.int (if(!(i == 0))=true then 1 else 0)) σ:=
    c4 (iU (cY (x:=.ref tk) (aa:=σ) rfl key (Js h ha)) (y:=.int 0) (ao:=σ) rfl Aa) int_bool
   have aj:ev (CC d) (.sub (.v 3) (.bin .add (.k (.int 1)) (.b1 .int (.cmp (.sub (.v 1) (.tup #v[(.sub (.v 3) (.k (.int 0))),(.v 2)])) .ne (.k (.int 0)))))) [some (aq.pv ⟨nm,rl,[a,b,c],gv⟩),some (.ref tk),some (.int t),some (.fl [.str a,.str b,.str c]),none,none] σ=.ok (.str (if jD (.int i)=true then b else c)) σ:=by
    refine cY (x:=.fl [.str a,.str b,.str c]) (aa:=σ) rfl (cz (x:=.int 1) (aa:=σ) rfl V add_int) ?_;show _=ai.ok (H.str (if(i == 0)=true then b else c)) σ;cases(i == 0) <;> rfl
   have bF:=(cB (n:=topN) (a:=.cons x7 .nil) (b:=.nil) (hh (sW bf (iH cC)))).trans ((al (a:=x7) (bR (xg (c7 aj h5) (show(1:Nat)<=aB by decide)))).trans bU)
   cases bA:jD (.int i)with
   | true=>rw[bA]at bF;exact cs (l:=[b]) bF
   | false=>rw[bA]at bF;exact cs (l:=[c]) bF
theorem Ia(hs:hB s)(h:σ[tk]?=some (.dp es))(hv:hE es):bz PP topN (d+2) p3 [s.pv,.ref tk,.int t] σ=.ok (mo (d7 es s t)) σ:=by
 rw[cx (fn:=Ev) rfl rfl,<- SA hs]
 have fG:(mj es s t).length<=4:=by
  unfold mj
  split
  ·split
   ·split
    ·exact Nat.le_of_ble_eq_true rfl
    ·split <;> exact Nat.le_of_ble_eq_true rfl
   ·exact hs.needs4
  ·exact hs.needs4
 have it:evIt (CC (d+1)) (.call sg #v[(.v 0),(.v 1),(.v 2)]) [some s.pv,some (.ref tk),some (.int t),none,none] σ=.ok ((mj es s t).map .str,none) σ:=by
  show(ev (CC (d+1)) (.call sg #v[(.v 0),(.v 1),(.v 2)]) [some s.pv,some (.ref tk),some (.int t),none,none] σ).bind h8=_;rw[show ev (CC (d+1)) (.call sg #v[(.v 0),(.v 1),(.v 2)]) [some s.pv,some (.ref tk),some (.int t),none,none] σ=.ok (.fl ((mj es s t).map .str)) σ from lV (x:=s.pv) (y:=.ref tk) (z:=.int t) (aa:=σ) (ao:=σ) (gJ:=σ) rfl rfl rfl (SF hs h hv)];rfl
 generalize mj es s t=ns at fG it
 have gT:ev (CC (d+1)) Ew [some s.pv,some (.ref tk),some (.int t),none,none] σ=.ok (.fl ((ns.filter fun x=>(aG (x,t) es).isNone).map .str)) σ:=by
  refine(pI (fun y=>match y with | .str x=>if(aG (x,t) es).isNone=true then some (.str x)else none | _=>none) it (by rw[bc];exact aF fG (by decide)) (fun y hy=>?_) (fun y hy v hv=>?_)).trans ?_
  ·refine aw (cK.mp hy) fun x hx ae=>?_;obtain rfl:=ae;refine(ch (x:=.tup [.str x,.int t]) (y:=.ref tk) (aa:=σ) (ao:=σ) rfl rfl (ID h)).trans ?_;dsimp only;cases(aG (x,t) es).isNone <;> rfl
  ·refine aw (cK.mp hy) fun x hx ae=>?_;obtain rfl:=ae;dsimp only at hv
   split at hv
   ·obtain rfl:=oi hv;rfl
   ·contradiction
  ·refine congrArg (fun l=>ai.ok (H.fl l) σ) ?_;rw[List.filterMap_map,<- List.filterMap_eq_filter,List.map_filterMap];refine congrArg (fun f=>ns.filterMap f) (funext fun x=>?_);show(if(aG (x,t) es).isNone=true then some (H.str x)else none)=_;unfold Option.guard
   split <;> rfl
 have V:ev (CC (d+1)) (.sub (.bin .add (.v 3) (.lst true #v[(.k .none)])) (.k (.int 0))) [some s.pv,some (.ref tk),some (.int t),some (.fl ((ns.filter fun x=>(aG (x,t) es).isNone).map .str)),none] σ=.ok (mo (ns.find? fun x=>(aG (x,t) es).isNone)) σ:=by
  rw[<- List.head?_filter];have fl:=List.length_filter_le (fun x=>(aG (x,t) es).isNone) ns;generalize ns.filter (fun x=>(aG (x,t) es).isNone)=fs at fl;refine cY (cz (x:=.fl (fs.map .str)) (aa:=σ) rfl (y:=.fl [.none]) (ao:=σ) rfl (Kx (by rw[bc,eM];show _+1<=_;(grind)))) (y:=.int ((0:Nat):Int)) (ao:=σ) rfl (qB (by rw[da,bc];show _+1<=_;(grind)) ?_);cases fs <;> rfl
 exact(congrArg a5 ((al (a:=Ex) (bR gT)).trans (bn (a:=Ey) (di V)))).trans rfl
end
theorem Jg{x:Int}{l:List Int}:(eB (x::l))[0]?=some (lA (x::l))/\(eB (x::l))[l.length]?=some (lC (x::l)):=by
 have pm:(eB (x::l)).Perm (x::l):=List.mergeSort_perm _ _
 have TS:(eB (x::l)).Pairwise fun a b=>a<=b:=by
  refine(List.pairwise_mergeSort (le:=fun a b=>decide (a<=b)) (fun a b c L O=>?_) (fun a b=>?_) (x::l)).imp fun h=>hZ h
  ·exact ed (Int.le_trans (hZ L) (hZ O))
  ·rw[Bool.or_eq_true,im,im];exact Int.le_total a b
 have least:∀(l:List Int) (a:Int),(l.foldl min a=a\/l.foldl min a∈l)/\l.foldl min a<=a/\∀y∈l,l.foldl min a<=y:=by
  intro l
  induction l with
  | nil=>intro a;exact⟨.inl rfl,Int.le_refl _,fun y hy=>nomatch hy⟩
  | cons b l ag =>
   intro a;refine dI (ag (min a b)) fun L O ar=>?_;rw[iO];refine⟨?_,Int.le_trans O (Int.min_le_left _ _),fun y hy=>?_⟩
   ·rcases L with L | L
    ·rw[L]
     rcases H8 a b with q | q
     ·exact .inl q
     ·rw[q];exact .inr bi
    ·exact .inr (bI _ L)
   ·rcases bE.mp hy with rfl | hy
    ·exact Int.le_trans O (Int.min_le_right _ _)
    ·exact ar y hy
 have most:∀(l:List Int) (a:Int),(l.foldl max a=a\/l.foldl max a∈l)/\a<=l.foldl max a/\∀y∈l,y<=l.foldl max a:=by
  intro l
  induction l with
  | nil=>intro a;exact⟨.inl rfl,Int.le_refl _,fun y hy=>nomatch hy⟩
  | cons b l ag =>
   intro a;refine dI (ag (max a b)) fun L O ar=>?_;rw[iO];refine⟨?_,Int.le_trans (Int.le_max_left _ _) O,fun y hy=>?_⟩
   ·rcases L with L | L
    ·rw[L]
     rcases H2 a b with q | q
     ·exact .inl q
     ·rw[q];exact .inr bi
    ·exact .inr (bI _ L)
   ·rcases bE.mp hy with rfl | hy
    ·exact Int.le_trans (Int.le_max_right _ _) O
    ·exact ar y hy
 refine dI (least l x) fun ay aL a9=>?_;refine dI (most l x) fun b1 d4 wZ=>?_;have len:(eB (x::l)).length=l.length+1:=pm.length_eq
 have h0:0<(eB (x::l)).length:=by rw[len];exact Nat.succ_pos _
 have L:l.length<(eB (x::l)).length:=by rw[len];exact Nat.lt_succ_self _
 rw[dx h0,dx L]
 have at_:∀y,y∈x::l->∃i,∃h:i<(eB (x::l)).length,(eB (x::l))[i]=y:=fun y hy=>List.getElem_of_mem (pm.mem_iff.mpr hy)
 have le:∀(i j:Nat) (hi:i<(eB (x::l)).length) (a0:j<(eB (x::l)).length),i<=j->(eB (x::l))[i]<=(eB (x::l))[j]:=fun i j hi a0 h=>by
  rcases Nat.lt_or_eq_of_le h with h | rfl
  ·exact List.pairwise_iff_getElem.mp TS i j hi a0 h
  ·exact Int.le_refl _
 have Ho:∀(i:Nat) (hi:i<(eB (x::l)).length),(eB (x::l))[i]∈x::l:=fun i hi=>pm.mem_iff.mp (km hi);constructor
 ·refine congrArg some (Int.le_antisymm ?_ ?_)
  ·obtain⟨i,hi,e⟩:=at_ (lA (x::l)) (bE.mpr ay)
   exact e▸le 0 i h0 hi (Nat.zero_le _)
  ·rcases bE.mp (Ho 0 h0)with q | q
   ·exact q.symm▸aL
   ·exact a9 _ q
 ·refine congrArg some (Int.le_antisymm ?_ ?_)
  ·rcases bE.mp (Ho l.length L)with q | q
   ·exact q.symm▸d4
   ·exact wZ _ q
  ·obtain⟨i,hi,e⟩:=at_ (lC (x::l)) (bE.mpr b1)
   exact e▸le i l.length hi L (by grind)
section
variable {d:Nat}{σ:ac}
theorem Jh{l:List Int}(hl:l.length<64):db .sorted (.fl (l.map .int)) σ=.ok (.fl ((eB l).map .int)) σ:=by
 show fR qy (fun l=>ai.ok (H.fl l) σ) (.fl (l.map .int)) σ=_;refine sA ?_;show qy (l.map .int)=_;unfold qy;rw[wP];exact az hl
theorem Vq{pl mn:H}{z:Option H}:∀(l:List Int) (a:Int) (y:Option H),(0<=a/\a<=999999)->(∀x∈l,0<=x/\x<=999999)->∃a3,ct none (dH 4) (fun ρ σ=>ex (CC d) topN Eg ρ σ) (l.map .int) [z,some pl,some mn,some (.int a),y,none,none,none,none] σ=.next [z,some pl,some mn,some (.int (l.foldl (fun a x=>a*x%1000000) a)),a3,none,none,none,none] σ:=by
 intro l
 induction l with
 | nil=>intro a y _ _;exact⟨y,fN⟩
 | cons x l ag =>
  intro a y ha hl;have hb:0<=a*x%1000000/\a*x%1000000<=999999:=⟨eI _ (by decide),Int.le_of_lt_add_one (fA _ (by decide))⟩;refine aJ (ag (a*x%1000000) (some (.int x)) hb fun y hy=>hl y (bI _ hy)) fun a3 e=>?_;refine⟨a3,(fv (bQ:=[z,some pl,some mn,some (.int a),some (.int x),none,none,none,none]) (eE:=[z,some pl,some mn,some (.int (a*x%1000000)),some (.int x),none,none,none,none]) (ao:=σ) rfl ?_).trans e⟩;refine(al (a:=Eh) (bR (cz (cz (x:=.int a) (aa:=σ) rfl (y:=.int x) (ao:=σ) rfl (mul_int (.inl ?_))) (y:=.int 1000000) (ao:=σ) rfl (gq (by decide))))).trans bU
  (grind)
theorem oJ{rp:H}{vs:List H}{v:H}{k:Nat}{y:Option H}(hk:k<=100):a5 (ex (CC d) topN #v[x1] [some rp,some (.fl vs),some (.int (k:Nat)),some v,y,none,none,none,none] σ)=.ok (.fl (List.replicate k v)) σ:=by
 have AH:evIt (CC d) (.range1 (.v 2)) [some rp,some (.fl vs),some (.int (k:Nat)),some v,y,none,none,none,none] σ=.ok (cF 0 1 k,none) σ:=by
  show(if 0<=(k:Int)/\(k:Int)<=aB then ai.ok (cF 0 1 (k:Int).toNat,none) σ else .stuck)=_;rw[az ⟨fm k,by rw[eM];(exact Int.ofNat_le.mpr (aF (by assumption) (by decide)))⟩];rfl
 have c:ev (CC d) Ea [some rp,some (.fl vs),some (.int (k:Nat)),some v,y,none,none,none,none] σ=.ok (.fl ((cF 0 1 k).map fun J=>v)) σ:=
  mQ (fun J=>v) AH (by rw[eM];simp[cF];exact aF hk (by decide)) fun x J=>rfl
 rw[List.map_const',show(cF 0 1 k).length=k by simp[cF]]at c;exact(congrArg a5 (bn (a:=x1) (di c))).trans rfl
theorem Q9{r:cR}{vs:List H}{k:Nat}(h:fj r vs.length k)(hl:vs.length<=10)(L:1<=vs.length)(hk:k<=100)(he:nR r vs):bz PP topN (d+1) Hg [r.pv,.fl vs,.int (k:Nat)] σ=.ok (.fl (hO r vs k)) σ:=by
 rw[cx (fn:=D9) rfl rfl];have vu:vs.length<=100:=aF hl (by decide)
 have hx:vs[0]?=some (vs.getD 0 .none):=by rw[k4,dx (show 0<vs.length from L)];rfl
 have skip:∀{a:S} {b:List S} {ρ:aE} {c:X} {t:S},a=.ife c t .nil->tst (CC d) c ρ σ=.ok false σ->ex (CC d) topN a ρ σ=.next ρ σ:=fun{a b ρ c t} e h=>by exact e.symm▸((bD h))
 have cT:∀{rp:H},ex (CC d) topN Ed [some rp,some (.fl vs),some (.int (k:Nat)),none,none,none,none,none,none] σ=.next [some rp,some (.fl vs),some (.int (k:Nat)),some (vs.getD 0 .none),none,none,none,none,none] σ:=fun{rp} =>
  bR (cY (x:=.fl vs) (aa:=σ) rfl (y:=.int ((0:Nat):Int)) (ao:=σ) rfl (qB vu hx))
 generalize hm:vs.length=m at h
 cases h with
 | sum _ _ =>
  refine aw (lM (show ∀v∈vs,dz v from he)) fun l ae hv=>?_;obtain rfl:=ae
  have e:ev (CC d) (.bin .mod (.b1 .sum (.v 1)) (.bin .pow (.k (.int 10)) (.k (.int 6)))) [some (cR.pv (.word "sum")),some (.fl (l.map .int)),some (.int (k:Nat)),some ((l.map H.int).getD 0 .none),none,none,none,none,none] σ=.ok (.int (l.sum%1000000)) σ:=
   cz (c4 (x:=.fl (l.map .int)) (aa:=σ) rfl (Jw (by rw[bc]at hl;exact aF hl (by decide)) hv)) (y:=.int 1000000) (ao:=σ) rfl (gq (by decide))
  refine(congrArg a5 (rfl.trans ((al cT).trans ((al (a:=oy) (rfl.trans ((al (a:=Ee) (bR e)).trans bU))).trans
   ((al (a:=oz) rfl).trans ((al (a:=oA) rfl).trans (rfl.trans rfl))))))).trans ((oJ hk).trans ?_)
  show ai.ok (H.fl (List.replicate k (.int (l.sum%1000000)))) σ=ai.ok (.fl (List.replicate k (.int ((h7 (l.map .int)).sum%1000000)))) σ;rw[lw]
 | times _ _ =>
  refine aw (lM (show ∀v∈vs,dz v from he)) fun l ae hv=>?_;obtain rfl:=ae;obtain⟨y,e⟩:=Vq (d:=d) (σ:=σ) (pl:=.fl (l.map .int)) (mn:=.int (k:Nat)) (z:=some (cR.pv (.word "times"))) l 1 none (by decide) hv
  refine(congrArg a5 (rfl.trans ((al cT).trans ((al (a:=oy) rfl).trans
   ((al (a:=oz) (rfl.trans (rfl.trans ((al (a:=Ef) (gc (ys:=l.map .int) (aa:=σ) rfl e)).trans bU)))).trans ((al (a:=oA) rfl).trans (rfl.trans rfl))))))).trans ((oJ hk).trans ?_)
  show ai.ok (H.fl (List.replicate k (.int (qq l)))) σ=ai.ok (.fl (List.replicate k (.int (qq (h7 (l.map .int)))))) σ;rw[lw]
 | least _ _ =>
  refine aw (lM (show ∀v∈vs,dz v from he)) fun l ae hv=>?_;obtain rfl:=ae
  cases l with
  | nil=>exact absurd L (by decide)
  | cons x l =>
  have hf:=Jg (x:=x) (l:=l)
  have cq:((eB (x::l)).map H.int).length<=100:=by rw[bc,show(eB (x::l)).length=(x::l).length from(List.mergeSort_perm _ _).length_eq,<- bc (f:=H.int)];exact vu
  have e:ev (CC d) (.sub (.b1 .sorted (.v 1)) (.sub (.lst true #v[(.k (.int 0)),(.neg (.k (.int 1)))]) (.b1 .int (.cmp (.sub (.v 0) (.k (.int 0))) .eq (.k (.str "most")))))) [some (cR.pv (.word "least")),some (.fl ((x::l).map .int)),some (.int (k:Nat)),some (((x::l).map H.int).getD 0 .none),none,none,none,none,none] σ=.ok (.int (lA (x::l))) σ:=
   cY (c4 (x:=.fl ((x::l).map .int)) (aa:=σ) rfl (Jh (by rw[bc]at hl;(exact hF (by assumption) (by decide))))) (y:=.int ((0:Nat):Int)) (ao:=σ) rfl (qB cq (by rw[fB,hf.1];rfl))
  refine(congrArg a5 (rfl.trans ((al cT).trans ((al (a:=oy) rfl).trans
   ((al (a:=oz) rfl).trans ((al (a:=oA) (rfl.trans ((al (a:=x0) (bR e)).trans bU))).trans (rfl.trans rfl))))))).trans ((oJ hk).trans ?_)
  show ai.ok (H.fl (List.replicate k (.int (lA (x::l))))) σ=ai.ok (.fl (List.replicate k (.int (lA (h7 ((x::l).map .int)))))) σ;rw[lw]
 | most _ _ =>
  refine aw (lM (show ∀v∈vs,dz v from he)) fun l ae hv=>?_;obtain rfl:=ae
  cases l with
  | nil=>exact absurd L (by decide)
  | cons x l =>
  have hf:=Jg (x:=x) (l:=l)
  have cq:((eB (x::l)).map H.int).length=l.length+1:=by rw[bc];exact(List.mergeSort_perm _ _).length_eq
  have XY:l.length+1<=100:=by rw[bc]at vu;exact vu
  have e:ev (CC d) (.sub (.b1 .sorted (.v 1)) (.sub (.lst true #v[(.k (.int 0)),(.neg (.k (.int 1)))]) (.b1 .int (.cmp (.sub (.v 0) (.k (.int 0))) .eq (.k (.str "most")))))) [some (cR.pv (.word "most")),some (.fl ((x::l).map .int)),some (.int (k:Nat)),some (((x::l).map H.int).getD 0 .none),none,none,none,none,none] σ=.ok (.int (lC (x::l))) σ:=by
   refine cY (c4 (x:=.fl ((x::l).map .int)) (aa:=σ) rfl (Jh (by rw[bc]at hl;(grind)))) (y:=.int (-1)) (ao:=σ) rfl ?_
   show(match cO σ (.fl ((eB (x::l)).map H.int))with
    | some xs=>mh xs (-1) σ
    | none=>.stuck)=_
   show(if((eB (x::l)).map H.int).length<=aB then ai.ofOpt ((fJ (-1) ((eB (x::l)).map H.int).length).bind (((eB (x::l)).map H.int)[·]?)) σ else .stuck)=_;rw[az (by rw[cq,eM];(exact aF (by assumption) (by decide))),cq,show fJ (-1) (l.length+1)=some l.length by unfold fJ;rw[aY (by decide)];simp;(grind)];show ai.ofOpt (((eB (x::l)).map H.int)[l.length]?) σ=_;rw[fB,hf.2];rfl
  refine(congrArg a5 (rfl.trans ((al cT).trans ((al (a:=oy) rfl).trans
   ((al (a:=oz) rfl).trans ((al (a:=oA) (rfl.trans ((al (a:=x0) (bR e)).trans bU))).trans (rfl.trans rfl))))))).trans ((oJ hk).trans ?_)
  show ai.ok (H.fl (List.replicate k (.int (lC (x::l))))) σ=ai.ok (.fl (List.replicate k (.int (lC (h7 ((x::l).map .int)))))) σ;rw[lw]
 | later _ =>
  exact(congrArg a5 (rfl.trans ((al cT).trans ((al (a:=oy) rfl).trans
   ((al (a:=oz) rfl).trans ((al (a:=oA) rfl).trans (rfl.trans rfl))))))).trans (oJ hk)
 | way =>
  refine hL (zR hm) fun a b ae=>?_;obtain rfl:=ae;obtain⟨j,rfl,_⟩:=(show ∀v∈[a,b],dz v from he) b ((bI _ bi))
  have e:ev (CC d) (.sub (.lst true #v[(.lst true #v[(.sub (.v 1) (.k (.int 0))),(.k .none)]),(.lst true #v[(.k .none),(.sub (.v 1) (.k (.int 0)))])]) (.b1 .int (.cmp (.sub (.v 1) (.k (.int 1))) .ne (.k (.int 0))))) [some (cR.pv (.word "way")),some (.fl [a,.int j]),some (.int ((2:Nat):Int)),none,none,none,none,none,none] σ=.ok (.fl (if jD (.int j)=true then[a,.none]else[.none,a])) σ:=by
   refine cY (x:=.fl [.fl [a,.none],.fl [.none,a]]) (aa:=σ) rfl (c4 (iU (x:=.int j) (y:=.int 0) (aa:=σ) (ao:=σ) rfl rfl Aa) int_bool) ?_;show _=ai.ok (H.fl (if(j == 0)=true then[a,.none]else[.none,a])) σ;cases(j == 0) <;> rfl
  exact(congrArg a5 (bn (a:=Eb) (rfl.trans (bn (a:=Ec) (di e))))).trans rfl
 | choose _ =>
  refine aw ((show dz (vs.getD 0 .none)from And.left he)) fun i hi J=>?_;refine mU (p9 hm) fun a b c ae=>?_;obtain rfl:=ae;obtain rfl:a=.int i:=hi
  have e:ev (CC d) (.sub (.v 1) (.bin .add (.k (.int 1)) (.b1 .int (.cmp (.sub (.v 1) (.k (.int 0))) .ne (.k (.int 0)))))) [some (cR.pv (.word "choose")),some (.fl [.int i,b,c]),some (.int (k:Nat)),some (.int i),none,none,none,none,none] σ=.ok (if jD (.int i)=true then b else c) σ:=by
   refine cY (x:=.fl [.int i,b,c]) (aa:=σ) rfl (cz (x:=.int 1) (aa:=σ) rfl (c4 (iU (x:=.int i) (y:=.int 0) (aa:=σ) (ao:=σ) rfl rfl Aa) int_bool) add_int) ?_;show _=ai.ok (if(i == 0)=true then b else c) σ;cases(i == 0) <;> rfl
  exact(congrArg a5 (rfl.trans (rfl.trans (rfl.trans
   (rfl.trans (rfl.trans (rfl.trans (al (a:=Ei) (rfl.trans ((al (a:=Ej) (bR e)).trans bU)))))))))).trans (oJ hk)
 | fixed v _ _ _ _ =>
  exact(congrArg a5 (rfl.trans ((al cT).trans ((al (a:=oy) rfl).trans
   ((al (a:=oz) rfl).trans ((al (a:=oA) rfl).trans (rfl.trans rfl))))))).trans (oJ hk)
end
section
variable {d:Nat}{σ:ac}{es:c0}{tk n:Nat}{s:aq}
noncomputable def f4(sp:H)(tk:Nat)(t:Int)(n:Nat)(vs:List H)(w:Int)(us:List H)(z:Option H):aE:=[some sp,some (.ref tk),some (.int t),some (.int (n:Nat)),some (.fl vs),some (.int w),some (.fl us),z,none,none,none,none]
theorem Nd{t w:Int}{vs us:List H}(hu:us.length=s.gives.length)(hg:s.gives.length<=3)(hw:w<n)(hk:tk<σ.length):∀(k a:Nat) (es:c0) (z:Option H),a+k=s.gives.length->es.length+3<900000+a ->
  ∃bY,ct none (dH 7) (fun ρ σ=>ex (CC d) topN uu ρ σ) ((List.range' a k).map fun(i:Nat)=>H.int (0+(i:Int)*1)) (f4 s.pv tk t n vs w us z) (σ.set tk (.dp es))=.next (f4 s.pv tk t n vs w us bY) (σ.set tk (.dp (((s.gives.zip us).drop a).foldl (g8 w) es))):=by
 intro k
 induction k with
 | zero =>
  intro a es z ha _;refine⟨z,fN.trans ?_⟩;rw[List.drop_eq_nil_of_le (by rw[List.length_zip,hu,Nat.min_self];(grind))];rfl
 | succ k ag =>
  intro a es z ha hl
  have tn:a<s.gives.length:=by grind
  have wW:a<us.length:=by grind
  have hd:(s.gives.zip us).drop a=(s.gives[a],us[a])::(s.gives.zip us).drop (a+1):=by
   rw[List.drop_eq_getElem_cons (by rw[List.length_zip,hu,Nat.min_self];exact tn),List.getElem_zip]
  have aO:(σ.set tk (.dp es))[tk]?=some (.dp es):=List.getElem?_set_self hk;have V:∀{τ:ac},ev (CC d) (.sub (.v 6) (.v 7)) (f4 s.pv tk t n vs w us (some (.int (a:Int)))) τ=.ok us[a] τ:=fun{τ}=>cY (x:=.fl us) (y:=.int (a:Int)) (aa:=τ) (ao:=τ) rfl rfl (qB (by grind) (dx wW))
  have dK:tst (CC d) (.and #v[(.cmp (.sub (.v 6) (.v 7)) .isNot (.k .none)),(.cmp (.v 5) .lt (.v 3))]) (f4 s.pv tk t n vs w us (some (.int (a:Int)))) (σ.set tk (.dp es))=.ok (!lx us[a]) (σ.set tk (.dp es)):=by
   refine hh ((lL (ch V (y:=.none) (ao:=σ.set tk (.dp es)) rfl (v:=.ok (!lx us[a]) (σ.set tk (.dp es))) rfl) fun J=>iH (ch (x:=.int w) (y:=.int (n:Nat)) (aa:=σ.set tk (.dp es)) (ao:=σ.set tk (.dp es)) rfl rfl lt_int)).trans ?_);rw[ed hw,Bool.and_true]
  have hb:dH 7 (H.int (0+(a:Int)*1)) (f4 s.pv tk t n vs w us z)=some (f4 s.pv tk t n vs w us (some (.int (a:Int)))):=by
   rw[show(0:Int)+(a:Int)*1=a by grind];rfl
  obtain⟨bY,e⟩:=ag (a+1) (g8 w es (s.gives[a],us[a])) (some (.int (a:Int))) (((Nat.succ_add_eq_add_succ _ _).trans (by assumption))) (by have:=Ay (w:=w) (es:=es) (e:=(s.gives[a],us[a]));(grind));refine⟨bY,?_⟩;rw[List.range'_succ,dG,hd,iO];refine(fv hb ((al (a:=xY) ?_).trans bU)).trans e;unfold g8
  cases hv:lx us[a]with
  | true =>
   rw[hv]at dK;rw[az rfl];exact(bD dK)
  | false =>
   rw[hv]at dK;rw[aY (by decide)];refine(cB dK).trans ((al (a:=D7) ?_).trans bU)
   have aj:ev (CC d) (.tup #v[(.sub (.sub (.v 0) (.k (.int 3))) (.v 7)),(.v 5)]) (f4 s.pv tk t n vs w us (some (.int (a:Int)))) (σ.set tk (.dp es))=.ok (.tup [.str s.gives[a],.int w]) (σ.set tk (.dp es)):=
    ku (vs:=[.str s.gives[a],.int w]) (c7 (cY (x:=.tup (s.gives.map .str)) (y:=.int (a:Int)) (aa:=σ.set tk (.dp es)) (ao:=σ.set tk (.dp es)) rfl rfl (Jv (by rw[bc,eM];(exact aF (by assumption) (by decide))) (fm a) (by rw[Int.toNat_natCast,fB,dx tn];rfl))) rfl) (show(2:Nat)<=aB by decide)
   show(ev (CC d) (.sub (.v 6) (.v 7)) (f4 s.pv tk t n vs w us (some (.int (a:Int)))) (σ.set tk (.dp es))).toS _ (fun v σ=>(ev (CC d) (.v 1) (f4 s.pv tk t n vs w us (some (.int (a:Int)))) σ).toS _ fun o σ=>(ev (CC d) (.tup #v[(.sub (.sub (.v 0) (.k (.int 3))) (.v 7)),(.v 5)]) (f4 s.pv tk t n vs w us (some (.int (a:Int)))) σ).toS _ fun i σ=>hQ o i v _ σ)=_;rw[V,gI,show ev (CC d) (.v 1) (f4 s.pv tk t n vs w us (some (.int (a:Int)))) (σ.set tk (.dp es))=.ok (.ref tk) (σ.set tk (.dp es))from rfl,gI,aj,gI,sT aO (by rw[eM];(grind)),List.set_set]
theorem Uu{t w:Int}{vs us:List H}(hu:us.length<=3)(hw:¬w<n):∀(k a:Nat) (z:Option H),a+k=us.length ->
  ∃bY,ct none (dH 7) (fun ρ σ=>ex (CC d) topN uu ρ σ) ((List.range' a k).map fun(i:Nat)=>H.int (0+(i:Int)*1)) (f4 s.pv tk t n vs w us z) σ=.next (f4 s.pv tk t n vs w us bY) σ:=by
 intro k
 induction k with
 | zero=>intro a z _;exact⟨z,fN⟩
 | succ k ag =>
  intro a z ha
  have wW:a<us.length:=by grind
  have dK:tst (CC d) (.and #v[(.cmp (.sub (.v 6) (.v 7)) .isNot (.k .none)),(.cmp (.v 5) .lt (.v 3))]) (f4 s.pv tk t n vs w us (some (.int (a:Int)))) σ=.ok false σ:=by
   refine hh ((lL (ch (cY (x:=.fl us) (y:=.int (a:Int)) (aa:=σ) (ao:=σ) rfl rfl (qB ((aF (by assumption) (by decide))) (dx wW))) (y:=.none) (ao:=σ) rfl (v:=.ok (!lx us[a]) σ) rfl) fun J=>iH (ch (x:=.int w) (y:=.int (n:Nat)) (aa:=σ) (ao:=σ) rfl rfl lt_int)).trans ?_);rw[gR hw,Bool.and_false]
  have hb:dH 7 (H.int (0+(a:Int)*1)) (f4 s.pv tk t n vs w us z)=some (f4 s.pv tk t n vs w us (some (.int (a:Int)))):=by
   rw[show(0:Int)+(a:Int)*1=a by grind];rfl
  obtain⟨bY,e⟩:=ag (a+1) (some (.int (a:Int))) (((Nat.succ_add_eq_add_succ _ _).trans (by assumption)));refine⟨bY,?_⟩;rw[List.range'_succ,dG];exact(fv hb ((al (a:=xY) (bD dK)).trans bU)).trans e
theorem Q7{t:Int}(hs:hB s)(h:σ[tk]?=some (.dp es))(hv:hE es)(hm:d7 es s t=none)(L:t<n)(hl:es.length<800000):bz PP topN (d+2) zD [s.pv,.ref tk,.int t,.int (n:Nat)] σ=.ok .none (σ.set tk (.dp (iW n es s t))):=by
 rw[cx (fn:=xX) rfl rfl];have vl:(df es s t).length=s.needs.length:=bc _;have hk:tk<σ.length:=(dU h).1
 have gT:ev (CC (d+1)) D2 [some s.pv,some (.ref tk),some (.int t),some (.int (n:Nat)),none,none,none,none,none,none,none,none] σ=.ok (.fl (df es s t)) σ:=by
  refine(mQ (xs:=s.needs.map .str) (fun y=>match y with | .str x=>(aG (x,t) es).getD .none | _=>.none) rfl (by rw[bc];exact aF hs.needs4 (by decide)) (fun y hy=>?_)).trans ?_
  ·refine aw (cK.mp hy) fun x hx ae=>?_;obtain rfl:=ae;exact gW (x:=.ref tk) (aa:=σ) rfl (yI h) (y:=.tup [.str x,.int t]) (ao:=σ) rfl (yM h)
  ·rw[hI];rfl
 have cT:ex (CC (d+1)) topN D4 [some s.pv,some (.ref tk),some (.int t),some (.int (n:Nat)),some (.fl (df es s t)),none,none,none,none,none,none,none] σ=.next [some s.pv,some (.ref tk),some (.int t),some (.int (n:Nat)),some (.fl (df es s t)),some (.int (fh s t)),none,none,none,none,none,none] σ:=
  bR (cz (x:=.int t) (aa:=σ) rfl (c4 (iU (x:=s.rule.pv) (y:=.tup [.str "later"]) (aa:=σ) (ao:=σ) rfl rfl (AJ hs.rule).1) int_bool) add_int)
 have g:=Q9 (d:=d) (σ:=σ) (r:=s.rule) (vs:=df es s t) (k:=s.gives.length) (by rw[vl];exact hs.rule) (by rw[vl];exact aF hs.needs4 (by decide)) (by rw[vl];exact hs.needs1) (aF hs.gives3 (by decide)) (xj hs hv hm)
 have i8:ex (CC (d+1)) topN D5 [some s.pv,some (.ref tk),some (.int t),some (.int (n:Nat)),some (.fl (df es s t)),some (.int (fh s t)),none,none,none,none,none,none] σ=.next (f4 s.pv tk t n (df es s t) (fh s t) (hO s.rule (df es s t) s.gives.length) none) σ:=
  bR (lV (x:=s.rule.pv) (y:=.fl (df es s t)) (aa:=σ) (ao:=σ) rfl rfl (c4 (x:=.tup (s.gives.map .str)) (aa:=σ) rfl (vo (aF hs.gives3 (by decide)))) g)
 have nF:=IK (vs:=df es s t) hs.rule
 have it:evIt (CC (d+1)) (.range1 (.b1 .len (.v 6))) (f4 s.pv tk t n (df es s t) (fh s t) (hO s.rule (df es s t) s.gives.length) none) σ=.ok ((List.range' 0 s.gives.length).map fun(i:Nat)=>H.int (0+(i:Int)*1),none) σ:=by
  rw[xm,c4 (C:=CC (d+1)) (a:=.v 6) (x:=.fl (hO s.rule (df es s t) s.gives.length)) (aa:=σ) rfl (vp (by rw[nF,eM];have:=hs.gives3;(exact aF (by assumption) (by decide)))),b0,nF];show(if 0<=(s.gives.length:Int)/\(s.gives.length:Int)<=aB then ai.ok (cF 0 1 (s.gives.length:Int).toNat,none) σ else .stuck)=_;rw[az ⟨fm _,by have:=hs.gives3;rw[eM];(grind)⟩,<- List.range_eq_range'];rfl
 have cs:∀{bY:Option H} {σ':ac},ct none (dH 7) (fun ρ σ=>ex (CC (d+1)) topN uu ρ σ) ((List.range' 0 s.gives.length).map fun(i:Nat)=>H.int (0+(i:Int)*1)) (f4 s.pv tk t n (df es s t) (fh s t) (hO s.rule (df es s t) s.gives.length) none) σ=.next (f4 s.pv tk t n (df es s t) (fh s t) (hO s.rule (df es s t) s.gives.length) bY) σ'->a5 (ex (CC (d+1)) topN xX.body [some s.pv,some (.ref tk),some (.int t),some (.int (n:Nat)),none,none,none,none,none,none,none,none] σ)=.ok .none σ':=fun{bY σ'} e =>
  (congrArg a5 ((al (a:=D3) (bR gT)).trans ((al cT).trans ((al i8).trans ((al (a:=D6) (gc it e)).trans bU))))).trans rfl
 have self:σ.set tk (.dp es)=σ:=by
  have e:=(dU h).2;rw[<- e];exact List.set_getElem_self hk
 have wc:fh s t<=t+1:=by
  unfold fh
  split <;> (grind)
 unfold iW;by_cases hw:fh s t=n
 ·rw[az hw,self];obtain⟨bY,e⟩:=Uu (d:=d+1) (σ:=σ) (tk:=tk) (s:=s) (n:=n) (t:=t) (w:=fh s t) (vs:=df es s t) (us:=hO s.rule (df es s t) s.gives.length) (by rw[nF];exact hs.gives3) (by grind) s.gives.length 0 none (by rw[nF];(exact Nat.zero_add _));exact cs e
 ·rw[aY hw];obtain⟨bY,e⟩:=Nd (d:=d+1) (σ:=σ) (tk:=tk) (s:=s) (n:=n) (t:=t) (w:=fh s t) (vs:=df es s t) (us:=hO s.rule (df es s t) s.gives.length) nF hs.gives3 (by grind) hk s.gives.length 0 es none ((Nat.zero_add _)) (by grind);rw[self,List.drop_zero]at e;exact cs e
end
noncomputable def dk(k:Str×Int):H:=.tup [.str k.1,.int k.2]
noncomputable def i4(k:Str×Int):PyData:=.tuple [.str k.1,.int k.2]
theorem zP(a b:Str×Int):PyData.eqv (i4 a) (i4 b)=decide (a=b):=by
 show(a.1 == b.1&&(a.2 == b.2&&true))=_;rw[Bool.and_true,Bool.eq_iff_iff,el,e7,e7,im];exact⟨fun h=>Prod.ext h.1 h.2,fun h=>h▸⟨rfl,rfl⟩⟩
section
variable {d:Nat}{σ:ac}
theorem A2{n:Nat}:∀(l:List (Str×Int)),(l.map dk).mapM (toD (n+2) σ)=some (l.map i4):=by
 intro l
 induction l with
 | nil=>rfl
 | cons q l ag=>rw[dG,List.mapM_cons,ag];rfl
theorem H5{k:Str×Int}{l:List (Str×Int)}:i5 σ (dk k) (l.map dk)=some (decide (k∈l)):=by
 unfold i5;rw[A2 (n:=14) l];show some ((l.map i4).any fun y=>PyData.eqv y (i4 k))=_;refine congrArg some ?_;rw[List.any_map,Bool.eq_iff_iff,List.any_eq_true,im]
 exact⟨fun⟨x,hx,e⟩=>by
  have e:PyData.eqv (i4 x) (i4 k)=true:=e;rw[zP]at e
  exact hZ e▸hx,fun h=>⟨k,h,by
  show PyData.eqv (i4 k) (i4 k)=true
  rw[zP];exact ed rfl⟩⟩
theorem SX{r:Nat}{k:Str×Int}{l:List (Str×Int)}(h:σ[r]?=some (.lst (l.map dk))):cQ .notin (dk k) (.ref r) σ=.ok (!decide (k∈l)) σ:=by
 show ai.ofOpt ((ep (dk k) (.ref r) σ).map (!·)) σ=_
 have:ep (dk k) (.ref r) σ=some (decide (k∈l)):=by unfold ep;dsimp only;exact h.symm▸H5
 rw[this];rfl
theorem CS:∀(l:List (Str×Int)),PyData.eqv (.list (l.map i4)) (.list (l.map i4))=true:=by
 intro l;show PyData.eqvAll _ _=true
 induction l with
 | nil=>rfl
 | cons q l ag =>
  rw[dG];show(PyData.eqv (i4 q) (i4 q)&&PyData.eqvAll _ _)=true;rw[ag,zP,ed rfl];rfl
theorem JD{r:Nat}{l:List (Str×Int)}(h:σ[r]?=some (.lst (l.map dk))):toD 16 σ (.ref r)=some (.list (l.map i4)):=by
 show(match σ[r]? with | some (.lst xs)=>(xs.mapM (toD 15 σ)).map PyData.list | _=>none)=_;rw[h];show((l.map dk).mapM (toD 15 σ)).map PyData.list=_;rw[A2 (n:=13) l];rfl
theorem HO{r:Nat}{xs:List H}(h:σ[r]?=some (.lst xs)):kH (.ref r) .list σ=.ok true σ:=by
 have e:cO σ (.ref r)=some xs:=by unfold cO;dsimp only;rw[h]
 show(match cO σ (.ref r)with | some _=>ai.ok true σ | none=>.stuck)=_;rw[e]
theorem Q2{a b:Option H}{q:Str×Int}:ex (CC d) topN rA [a,b,some (dk q),none,none,none] σ=.next [a,b,some (dk q),none,none,none] σ:=by
 have gT:ev (CC d) ya [a,b,some (dk q),none,none,none] σ=.ok (.fl []) σ:=by
  refine(pI (fun J=>none) (xs:=[.str q.1,.int q.2]) rfl (show(2:Nat)<=aB by decide) (fun x hx=>?_) (fun x hx v hv=>by contradiction)).trans rfl
  rcases bE.mp hx with rfl | hx
  ·rfl
  ·rw[dt.mp hx];rfl
 exact(al (bD (σ':=σ) (ib (ja (aa:=σ) rfl (i9 (ch gT (y:=.fl []) (ao:=σ) rfl rfl)))))).trans bU
theorem Q3{w:Option (Nat×aS)}{a b:Option H}(hw:fK w σ):∀(l:List (Str×Int)) (y:Option H),∃a3,ct w (dH 2) (fun ρ σ=>ex (CC d) topN rA ρ σ) (l.map dk) [a,b,y,none,none,none] σ=.next [a,b,a3,none,none,none] σ:=by
 intro l
 induction l with
 | nil=>intro y;exact⟨y,oI hw⟩
 | cons q l ag =>
  intro y;refine aJ (ag (some (dk q))) fun a3 e=>?_;exact⟨a3,(oH hw (bQ:=[a,b,some (dk q),none,none,none]) rfl Q2).trans e⟩
theorem vj{C:bh}{x:X}{ρ:aE}{r:Nat}{xs:List H}(h:evIt C x ρ σ=(ev C x ρ σ).bind h8)(hx:ev C x ρ σ=.ok (.ref r) σ)(hr:σ[r]?=some (.lst xs)):evIt C x ρ σ=.ok (xs,some (r,.lst xs)) σ:=by
 rw[h,hx];show h8 (.ref r) σ=_;unfold h8 items nI;dsimp only;rw[hr]
theorem Rc{r q:Nat}{l:List (Str×Int)}(hr:σ[r]?=some (.lst (l.map dk)))(hq:σ[q]?=some (.lst (l.map dk))):bz PP topN (d+1) oY [.ref r,.ref q] σ=.ok (.bool true) σ:=by
 rw[cx (fn:=x9) rfl rfl];refine aJ (Q3 (d:=d) (a:=some (.ref r)) (b:=some (.ref q)) (w:=some (r,.lst (l.map dk))) hr l none) fun a3 e=>?_
 have ne:cQ .ne (.ref r) (.ref q) σ=.ok false σ:=by
  show ai.ofOpt ((eqv σ (.ref r) (.ref q)).map (!·)) σ=_;unfold eqv;rw[JD hr,JD hq];show ai.ofOpt (some (!PyData.eqv _ _)) σ=_;rw[CS];rfl
 have c6:ex (CC d) topN yb [some (.ref r),some (.ref q),none,none,none,none] σ=.next [some (.ref r),some (.ref q),none,none,none,none] σ:=
  (bD (σ':=σ) (ib (ja (aa:=σ) (fV (q:=true) (Jy (CH (x:=.ref r) (aa:=σ) rfl (HO hr)))) (i9 (ch (x:=.ref r) (y:=.ref q) (aa:=σ) (ao:=σ) rfl rfl ne)))))
 have cT:ex (CC d) topN yc [some (.ref r),some (.ref q),none,none,none,none] σ=.next [some (.ref r),some (.ref q),a3,none,none,none] σ:=by
  show(evIt (CC d) (.v 0) [some (.ref r),some (.ref q),none,none,none,none] σ).toS _ _=_;rw[vj (r:=r) rfl rfl hr];exact e
 exact(congrArg a5 ((al c6).trans ((al cT).trans rfl))).trans rfl
end
theorem AI{C:bh}{x:Mine.X}{ρ:aE}{σ:ac}{n:Nat}(h:ev C x ρ σ=.ok (.int (n:Nat)) σ)(hn:n<=200):evIt C (.range1 x) ρ σ=.ok (cF 0 1 n,none) σ:=by
 rw[xm,h,b0];show(if 0<=(n:Int)/\(n:Int)<=aB then ai.ok (cF 0 1 (n:Int).toNat,none) σ else .stuck)=_;rw[az ⟨fm n,by rw[eM];(exact Int.ofNat_le.mpr (aF (by assumption) (by decide)))⟩];rfl
structure eu where
 p:List aq
 n:Nat
 X:dZ
 tk:Nat
 gl:Nat
 l:List Int
structure eG(Γ:eu)(B:cA)(σ:ac):Prop where
 bo:wr Γ.p Γ.n B Γ.X σ
 tk:σ[Γ.tk]?=some (.dp B.es)
 gl:σ[Γ.gl]?=some (.lst B.os)
 ok:hE B.es
 gk:qU Γ.p Γ.n B
theorem eG.more{Γ:eu}{B:cA}{σ τ:ac}(h:eG Γ B σ):eG Γ B (σ++τ):=⟨h.bo.more,fO h.tk,fO h.gl,h.ok,h.gk⟩
structure fZ(Γ:eu):Prop where
 hp:d2 Γ.p
 hpl:∀s∈Γ.p,qW s
 hl:Γ.l.length<=63
 hn1:1<=Γ.n
 hn:Γ.n<=6
section
variable {Γ:eu}{B:cA}{σ:ac}{d:Nat}
theorem ol{C:bh}{ρ:aE}{σ aa:ac}{f:Nat}{xs:Mine.X}{vs:List H}{v:ai H}(h:evs C xs ρ σ=.ok vs aa)(hc:C.call f vs aa=v):ev C (.call f xs) ρ σ=v:=by
 rw[tU,h];exact hc
end
noncomputable def ez(p:List aq):List Str:=(p.filter fun s=>iz s.rule).flatMap (·.gives)
section
variable {d:Nat}{σ:ac}
theorem Rt{pl:H}{τ:ac}:∀(p:List aq) (x:Option H) (acc:List Str),acc.length+3*p.length<=900->(∀s∈p,hB s) ->
  ∃aH,ct none (dH 2) (fun ρ σ=>ex (CC d) topN D8 ρ σ) (p.map aq.pv) [some pl,some (.ref τ.length),x] (τ++[.lst (acc.map .str)]) =
   .next [some pl,some (.ref τ.length),aH] (τ++[.lst ((acc++ez p).map .str)]):=by
 intro p
 induction p with
 | nil=>intro x acc _ _;exact⟨x,by simpa[ez]using fN⟩
 | cons s p ag =>
  intro x acc hl ar;have hs:=ar s ((bi));have hg:=hs.gives3;rw[dv]at hl
  have t:tst (CC d) (.cmp (.sub (.v 2) (.k (.int 1))) .eq (.tup #v[(.k (.str "later"))])) [some pl,some (.ref τ.length),some s.pv] (τ++[.lst (acc.map .str)])=.ok (iz s.rule) (τ++[.lst (acc.map .str)]):=
   ch (x:=s.rule.pv) (y:=.tup [.str "later"]) (aa:=τ++[.lst (acc.map .str)]) (ao:=τ++[.lst (acc.map .str)]) rfl rfl (AJ hs.rule).1
  cases hq:iz s.rule with
  | false =>
   rw[hq]at t;obtain⟨aH,e⟩:=ag (some s.pv) acc (by grind) fun t a1=>ar t (bI _ a1)
   have bt:ez (s::p)=ez p:=by unfold ez;rw[List.filter_cons,hq,aY (by decide)]
   rw[bt];refine⟨aH,(fv (bQ:=[some pl,some (.ref τ.length),some s.pv]) (eE:=[some pl,some (.ref τ.length),some s.pv]) (ao:=τ++[.lst (acc.map .str)]) rfl ?_).trans e⟩;exact(al (bD t)).trans bU
  | true =>
   rw[hq]at t;obtain⟨aH,e⟩:=ag (some s.pv) (acc++s.gives) (by rw[da];(grind)) fun t a1=>ar t (bI _ a1)
   have bt:ez (s::p)=s.gives++ez p:=by unfold ez;rw[List.filter_cons,hq,az rfl,k8]
   rw[bt,<- ey];refine⟨aH,(fv (bQ:=[some pl,some (.ref τ.length),some s.pv]) (eE:=[some pl,some (.ref τ.length),some s.pv]) (ao:=τ++[.lst ((acc++s.gives).map .str)]) rfl ?_).trans e⟩;refine(al ((cB t).trans ?_)).trans bU;refine(al (gb (gW (m:=.extend) (x:=.ref τ.length) (aa:=τ++[.lst (acc.map .str)]) (ao:=τ++[.lst (acc.map .str)]) rfl (nl (.inr (.inl rfl))) (y:=.tup (s.gives.map .str)) rfl ?_))).trans bU;show kz (.ref τ.length) (.tup (s.gives.map .str)) _=_;unfold kz;dsimp only;rw[gS];dsimp only;rw[az (by rw[bc,bc,eM];(grind)),nx,fD]
theorem Q8{p:List aq}(h:d2 p):bz PP topN (d+1) zE [bk p] σ=.ok (.ref σ.length) (σ++[.lst ((ez p).map .str)]):=by
 rw[cx (fn:=xZ) rfl rfl];obtain⟨aH,e⟩:=Rt (d:=d) (pl:=bk p) (τ:=σ) p none [] (by show 0+3*p.length<=900;have:=h.most;(grind)) h.steps;rw[List.nil_append]at e
 have:ex (CC d) topN xZ.body [some (bk p),none,none] σ=.ret (.ref σ.length) [some (bk p),some (.ref σ.length),aH] (σ++[.lst ((ez p).map .str)]):=
  rfl.trans ((al (gc (ys:=p.map aq.pv) (aa:=σ++[.lst []]) rfl e)).trans rfl)
 exact(congrArg a5 this).trans rfl
end
theorem FQ{p:List aq}{x:Str}:x∈ez p ↔ ∃s∈p,iz s.rule=true/\x∈s.gives:=by
 unfold ez;rw[List.mem_flatMap];exact⟨fun⟨s,h,hx⟩=>⟨s,(List.mem_filter.mp h).1,(List.mem_filter.mp h).2,hx⟩,fun⟨s,h,hl,hx⟩=>⟨s,List.mem_filter.mpr ⟨h,hl⟩,hx⟩⟩
theorem Ni{p:List aq}(h:d2 p):(ez p).Nodup:=by
 have:=h.gives;unfold List.Nodup at this;rw[List.pairwise_flatMap]at this;unfold ez List.Nodup;rw[List.pairwise_flatMap];exact⟨fun s hs=>this.1 s (List.mem_filter.mp hs).1,this.2.filter _⟩
set_option tactic.hygienic true in
theorem Td{G:List Str}:∀(ns acc:List Str),acc.Nodup->(ns.foldl (dW G) acc).Nodup:=by
 intro ns
 induction ns with
 | nil=>intro acc h;exact h
 | cons n ns ag =>
  intro acc h;rw[iO];refine ag _ ?_;unfold dW
  split
  ·rename_i hc;rw[jo];refine⟨h,hG.mpr ⟨dT,List.nodup_nil⟩,fun a ha b hb e=>?_⟩;rw[dt.mp hb]at e;rw[e]at ha;rw[ed ha]at hc;simp at hc
  ·exact h
noncomputable abbrev ew:=Str×Nat×Int
noncomputable def b4(e:ew):H:=.tup [.str e.1,.int (e.2.1:Nat),.int e.2.2]
structure wD(p:List aq)(n:Nat)(e:ew):Prop where
 plc:iE p e.1=true
 free:kq p e.1 (e.2.1:Nat)=false
 lt:e.2.1<n
 val:0<=e.2.2/\e.2.2<=999999
structure ij(p:List aq)(n:Nat)(l:List ew):Prop where
 nodup:(l.map fun e=>(e.1,e.2.1)).Nodup
 ok:∀e∈l,wD p n e
theorem ij.snoc{p:List aq}{n:Nat}{l:List ew}{e:ew}(h:ij p n l)(he:wD p n e)(hn:∀q∈l,(q.1,q.2.1)≠(e.1,e.2.1)):ij p n (l++[e]):=by
 refine⟨?_,fun q hq=>?_⟩
 ·rw[fD,jo];refine⟨h.nodup,hG.mpr ⟨dT,List.nodup_nil⟩,fun a ha b hb=>?_⟩;refine aw (cK.mp ha) fun q hq ae=>?_;obtain rfl:=ae;exact(dt.mp hb).symm▸(hn q hq)
 ·rcases c2.mp hq with hq | hq
  ·exact h.ok q hq
  ·rw[dt.mp hq];exact he
theorem IL{p:List aq}{x:Str}{j:Int}(h:x∈fS p):kq p x j=false/\iE p x=true:=by
 refine⟨FW fun s hs hx=>absurd (List.mem_flatMap.mpr ⟨s,hs,hx⟩) (Aj.mp h).2,?_⟩;unfold iE;rw[ed h,Bool.or_true]
theorem Ng{p:List aq}{x:Str}(hp:d2 p)(h:x∈ez p):kq p x ((0:Nat):Int)=false/\iE p x=true:=by
 refine bC (FQ.mp h) fun s hs hl hx=>?_;refine⟨FW fun s' d6 P1=>?_,?_⟩
 ·have:=(yK P1 hp.gives d6).symm.trans (yK hx hp.gives hs);obtain rfl:=oi this;exact⟨hl,Int.le_refl 0⟩
 ·unfold iE;rw[ed (List.mem_flatMap.mpr ⟨s,hs,hx⟩)];rfl
section
variable {p:List aq}{n:Nat}{τ:ac}{d:Nat}{l:List Int}{b6 at_:Nat}{cM:Int}{wt:Option (Nat×aS)}
noncomputable def dL(l:List Int)(at_:Nat)(p:List aq)(n b6:Nat)(cM:Int)(j x t k:Option H):aE:=some (.fl (l.map .int))::some (.int (at_:Nat))::some (bk p)::some (.int (n:Nat))::some (.ref b6)::some (.int cM)::j::x::t::k::List.replicate 7 none
theorem B3{C:bh}{N f:Nat}{ρ:aE}{y:X}{e:ew}{acc:List ew}(oT:b6<τ.length)(hl:acc.length<900)(bw:∀σ,ev C (.v f) ρ σ=.ok (.ref b6) σ)(hy:ev C y ρ (τ.set b6 (.lst (acc.map b4)))=.ok (b4 e) (τ.set b6 (.lst (acc.map b4)))) :
  ex C N (.expr (.me .append (.v f) #v[y])) ρ (τ.set b6 (.lst (acc.map b4)))=.next ρ (τ.set b6 (.lst ((acc++[e]).map b4))):=by
 have g:(τ.set b6 (.lst (acc.map b4)))[b6]?=some (.lst (acc.map b4)):=List.getElem?_set_self oT;refine(gb (gW (bw _) (z5 g) hy (wT g (by rw[bc];(exact aF (by assumption) (by decide)))))).trans ?_;rw[List.set_set,fD];rfl
theorem w3{C:bh}{ρ:aE}{σ:ac}{x:X}{k:Nat}(hl:l.length<=63)(eX:∀vs σ,C.call g0 vs σ=bz PP topN (d+1) g0 vs σ)(h0:ev C (.v 0) ρ σ=.ok (.fl (l.map .int)) σ)(hx:ev C x ρ σ=.ok (.int (k:Nat)) σ):ev C (.call g0 #v[(.v 0),x]) ρ σ=.ok (.int (l.getD k 0)) σ:=hJ h0 hx ((eX _ _).trans (uK hl))
theorem TJ{x:Str}{j:Nat}(hl:l.length<=63)(hx:x∈fS p)(oT:b6<τ.length):∀(k a:Nat) (acc:List ew) (t z:Option H),a+k=n->acc.length+k<900->ij p n acc->(∀e∈acc,e.1=x->e.2.1<a) ->
  ∃ek bX bY,ct none (dH 8) (fun ρ σ=>ex (CC (d+1)) topN yp ρ σ) ((List.range' a k).map fun(i:Nat)=>H.int (0+(i:Int)*1)) (dL l at_ p n b6 cM (some (.int (j:Nat))) (some (.str x)) t z) (τ.set b6 (.lst (acc.map b4)))=.next (dL l at_ p n b6 cM (some (.int (j:Nat))) (some (.str x)) bX bY) (τ.set b6 (.lst (ek.map b4)))/\ij p n ek/\ek.length<=acc.length+k/\∀e∈ek,e∈acc\/e.1=x:=by
 intro k
 induction k with
 | zero=>intro a acc t z _ _ h _;exact⟨acc,t,z,fN,h,c9 _,fun e he=>.inl he⟩
 | succ k ag =>
  intro a acc t z ha hk h hb;refine bC (yN (p:=d8 (d8 (l.getD (at_+1+(j+a)%6) 0+31*(j:Int)+1009*(a:Int))))) fun v fg aR hv=>?_
  have Ov:dH 8 (H.int (0+(a:Int)*1)) (dL l at_ p n b6 cM (some (.int (j:Nat))) (some (.str x)) t z)=some (dL l at_ p n b6 cM (some (.int (j:Nat))) (some (.str x)) (some (.int (a:Nat))) z):=by
   rw[show(0:Int)+(a:Int)*1=a by grind];rfl
  have eR:∀{σ:ac},ex (CC (d+1)) topN E6 (dL l at_ p n b6 cM (some (.int (j:Nat))) (some (.str x)) (some (.int (a:Nat))) z) σ=.next (dL l at_ p n b6 cM (some (.int (j:Nat))) (some (.str x)) (some (.int (a:Nat))) (some (.int (d8 (l.getD (at_+1+(j+a)%6) 0+31*(j:Int)+1009*(a:Int)))))) σ:=fun{σ}=>by
   refine bR (dN (cz (cz (w3 (d:=d) hl (fun J J=>rfl) rfl (k:=at_+1+(j+a)%6) (cz (x:=.int ((at_:Int)+1)) (aa:=σ) rfl (cz (x:=.int ((j:Int)+a)) (aa:=σ) rfl (y:=.int 6) (ao:=σ) rfl (gq (by decide))) ?_)) (cz (x:=.int 31) (y:=.int (j:Nat)) (aa:=σ) (ao:=σ) rfl rfl (mul_int (.inl (by decide)))) add_int) rfl add_int) (ll (d:=d)));rw[add_int];(rfl)
  have bf:∀{σ:ac} {q:Int},tst (CC (d+1)) (.or #v[(.cmp (.v 5) .gt (.k (.int 0))),(.cmp (.bin .mod (.v 9) (.k (.int 3))) .gt (.k (.int 0)))]) (dL l at_ p n b6 cM (some (.int (j:Nat))) (some (.str x)) (some (.int (a:Nat))) (some (.int q))) σ=.ok (decide (cM > 0)||decide (q%3 > 0)) σ:=fun{σ q} =>
   ib (qD rfl fun J=>i9 rfl)
  generalize hq:d8 (l.getD (at_+1+(j+a)%6) 0+31*(j:Int)+1009*(a:Int))=q at eR hv
  have cs:∀(ea:List ew),ex (CC (d+1)) topN E7 (dL l at_ p n b6 cM (some (.int (j:Nat))) (some (.str x)) (some (.int (a:Nat))) (some (.int q))) (τ.set b6 (.lst (acc.map b4)))=.next (dL l at_ p n b6 cM (some (.int (j:Nat))) (some (.str x)) (some (.int (a:Nat))) (some (.int q))) (τ.set b6 (.lst (ea.map b4)))->ij p n ea->ea.length<=acc.length+1->(∀e∈ea,e∈acc\/e=(x,a,v)) ->
    ∃ek bX bY,ct none (dH 8) (fun ρ σ=>ex (CC (d+1)) topN yp ρ σ) ((List.range' a (k+1)).map fun(i:Nat)=>H.int (0+(i:Int)*1)) (dL l at_ p n b6 cM (some (.int (j:Nat))) (some (.str x)) t z) (τ.set b6 (.lst (acc.map b4)))=.next (dL l at_ p n b6 cM (some (.int (j:Nat))) (some (.str x)) bX bY) (τ.set b6 (.lst (ek.map b4)))/\ij p n ek/\ek.length<=acc.length+(k+1)/\∀e∈ek,e∈acc\/e.1=x:=fun ea V L jV aV=>by
   obtain⟨ek,bX,bY,aj,O,lz,ck⟩:=ag (a+1) ea (some (.int (a:Nat))) (some (.int q)) (((Nat.succ_add_eq_add_succ _ _).trans (by assumption))) (by grind) L (fun e he hx=>by
    rcases aV e he with he | rfl
    ·have:=hb e he hx;(exact aF (by assumption) (e6 _ _))
    ·exact Nat.lt_succ_self _)
   refine⟨ek,bX,bY,?_,O,by grind,fun e he=>?_⟩
   ·rw[List.range'_succ,dG];exact(fv Ov ((al eR).trans ((al V).trans bU))).trans aj
   ·rcases ck e he with he | he
    ·rcases aV e he with he | rfl
     ·exact .inl he
     ·exact .inr rfl
    ·exact .inr he
  cases hc:(decide (cM > 0)||decide (q%3 > 0))with
  | false=>exact cs acc (bD (bf.trans (by rw[hc]))) h (Nat.le_succ _) fun e he=>.inl he
  | true =>
   refine cs (acc++[(x,a,v)]) ((cB (bf.trans (by rw[hc]))).trans ((al (a:=E8) (B3 oT (by grind) (fun J=>rfl) ?_)).trans bU)) (h.snoc ⟨(IL (j:=0) hx).2,(IL hx).1,by show a<n;(grind),fg,aR⟩ fun e he q=>?_) (da.symm▸(c9 _)) fun e he=>?_
   ·exact ku (vs:=[.str x,.int (a:Nat),.int v]) (c7 (x:=.str x) (aa:=τ.set b6 (.lst (acc.map b4))) rfl (c7 (x:=.int (a:Nat)) (aa:=τ.set b6 (.lst (acc.map b4))) rfl (c7 (dN (dN (x:=.int q) (aa:=τ.set b6 (.lst (acc.map b4))) rfl (ll (d:=d))) hv) h5))) (show(3:Nat)<=aB by decide)
   ·refine aP (Prod.mk.inj q) fun q1 q2=>?_;exact Nat.lt_irrefl _ (q2▸hb e he q1)
   ·rcases c2.mp he with he | he
    ·exact .inl he
    ·exact .inr (dt.mp he)
end
theorem yD{f:aq->List Str}{m:Nat}:∀(q:List aq),(∀s∈q,(f s).length<=m)->(q.flatMap f).length<=m*q.length:=by
 intro q
 induction q with
 | nil=>intro _;exact c9 _
 | cons s q ag =>
  intro h;have L:=h s bi;have O:=ag fun t a1=>h t (bI _ a1);rw[k8,da,dv,Nat.mul_succ];(grind)
theorem Ta{p:List aq}(h:d2 p):(fS p).length<=80:=by
 have L:=sE (G:=p.flatMap (·.gives)) (p.flatMap (·.needs)) [];have O:=yD (f:=fun s=>s.needs) p fun s hs=>(h.steps s hs).needs4;exact aF L (aF (by rw[List.length_nil,Nat.zero_add];exact O) (Nat.mul_le_mul_left 4 h.most))
theorem Nh{p:List aq}(h:d2 p):(ez p).length<=60:=by
 unfold ez;have O:=yD (f:=fun s=>s.gives) (p.filter fun s=>iz s.rule) fun s hs=>(h.steps s (List.mem_filter.mp hs).1).gives3;exact aF O (Nat.mul_le_mul_left 3 (aF (List.length_filter_le _ _) h.most))
section
variable {p:List aq}{n:Nat}{τ:ac}{d:Nat}{l:List Int}{b6 at_:Nat}{cM:Int}{wt:Option (Nat×aS)}
theorem TK(hl:l.length<=63)(hn:n<=6)(oT:b6<τ.length)(hw:∀m,fK wt (τ.set b6 m)):∀(xs:List Str) (j:Nat) (acc:List ew) (a x t z:Option H),xs.Nodup->(∀x∈xs,x∈fS p)->(∀e∈acc,e.1∉xs)->acc.length+6*xs.length<800->ij p n acc ->
  ∃ek eP aH bX bY,ct wt (io [6,7]) (fun ρ σ=>ex (CC (d+1)) topN E4 ρ σ) (jv j (xs.map .str)) (dL l at_ p n b6 cM a x t z) (τ.set b6 (.lst (acc.map b4)))=.next (dL l at_ p n b6 cM eP aH bX bY) (τ.set b6 (.lst (ek.map b4)))/\ij p n ek/\ek.length<=acc.length+6*xs.length/\∀e∈ek,e∈acc\/e.1∈xs:=by
 intro xs
 induction xs with
 | nil=>intro j acc a x t z _ _ _ _ h;exact⟨acc,a,x,t,z,oI (hw _),h,c9 _,fun e he=>.inl he⟩
 | cons y xs ag =>
  intro j acc a x t z hd hm ha cZ h;rw[dv]at cZ;rw[hG]at hd;obtain⟨ea,dK,ei,V,L,jV,aV⟩:=TJ (d:=d) (at_:=at_) (cM:=cM) (x:=y) (j:=j) hl (hm y bi) oT n 0 acc t z (Nat.zero_add n) (by grind) h (fun e he hx=>absurd (hx▸bi) (ha e he))
  obtain⟨ek,eP,aH,bX,bY,aj,O,lz,ck⟩:=ag (j+1) ea (some (.int (j:Nat))) (some (.str y)) dK ei hd.2 (fun x hx=>hm x (bI _ hx)) (fun e he hx=>by
   rcases aV e he with he | he
   ·exact ha e he (bI _ hx)
   ·exact hd.1 (he▸hx)) (by grind) L
  refine⟨ek,eP,aH,bX,bY,?_,O,by rw[dv];(grind),fun e he=>?_⟩
  ·refine(oH (hw _) (bQ:=dL l at_ p n b6 cM (some (.int (j:Nat))) (some (.str y)) t z) rfl ((al (a:=E5) (gc (AI rfl ((aF (by assumption) (by decide)))) ?_)).trans bU)).trans aj;unfold cF;exact List.range_eq_range'.symm▸V
  ·rcases ck e he with he | he
   ·rcases aV e he with he | he
    ·exact .inl he
    ·exact .inr (he▸bi)
   ·exact .inr (bI _ he)
theorem TH(hp:d2 p)(hl:l.length<=63)(hn1:1<=n)(oT:b6<τ.length)(hw:∀m,fK wt (τ.set b6 m)):∀(xs:List Str) (j:Nat) (acc:List ew) (a x t z:Option H),xs.Nodup->(∀x∈xs,x∈ez p)->(∀e∈acc,e.1∉xs)->acc.length+xs.length<900->ij p n acc ->
  ∃ek eP aH bX bY,ct wt (io [6,7]) (fun ρ σ=>ex (CC (d+1)) topN yq ρ σ) (jv j (xs.map .str)) (dL l at_ p n b6 cM a x t z) (τ.set b6 (.lst (acc.map b4)))=.next (dL l at_ p n b6 cM eP aH bX bY) (τ.set b6 (.lst (ek.map b4)))/\ij p n ek/\ek.length<=acc.length+xs.length:=by
 intro xs
 induction xs with
 | nil=>intro j acc a x t z _ _ _ _ h;exact⟨acc,a,x,t,z,oI (hw _),h,c9 _⟩
 | cons y xs ag =>
  intro j acc a x t z hd hm ha cZ h;rw[dv]at cZ;rw[hG]at hd;refine bC (yN (p:=d8 (d8 (l.getD (at_+1+j%6) 0+7)))) fun v fg aR hv=>?_
  have eR:∀{σ:ac},ex (CC (d+1)) topN Fa (dL l at_ p n b6 cM (some (.int (j:Nat))) (some (.str y)) t z) σ=.next (dL l at_ p n b6 cM (some (.int (j:Nat))) (some (.str y)) t (some (.int (d8 (l.getD (at_+1+j%6) 0+7))))) σ:=fun{σ}=>by
   refine bR (dN (cz (w3 (d:=d) hl (fun J J=>rfl) rfl (k:=at_+1+j%6) (cz (x:=.int ((at_:Int)+1)) (aa:=σ) rfl rfl ?_)) (y:=.int 7) (ao:=σ) rfl add_int) (ll (d:=d)));rw[add_int];(rfl)
  have bf:∀{σ:ac} {q:Int},tst (CC (d+1)) (.cmp (.bin .mod (.v 9) (.k (.int 5))) .gt (.bin .sub (.v 5) (.k (.int 1)))) (dL l at_ p n b6 cM (some (.int (j:Nat))) (some (.str y)) t (some (.int q))) σ=.ok (decide (q%5 > cM-1)) σ:=fun{σ q} =>
   ch rfl (y:=.int (cM-1)) (ao:=σ) rfl gt_int
  generalize hq:d8 (l.getD (at_+1+j%6) 0+7)=q at eR hv
  have cs:∀(ea:List ew),ex (CC (d+1)) topN Fb (dL l at_ p n b6 cM (some (.int (j:Nat))) (some (.str y)) t (some (.int q))) (τ.set b6 (.lst (acc.map b4)))=.next (dL l at_ p n b6 cM (some (.int (j:Nat))) (some (.str y)) t (some (.int q))) (τ.set b6 (.lst (ea.map b4)))->ij p n ea->ea.length<=acc.length+1->(∀e∈ea,e∈acc\/e=(y,0,v)) ->
    ∃ek eP aH bX bY,ct wt (io [6,7]) (fun ρ σ=>ex (CC (d+1)) topN yq ρ σ) (jv j ((y::xs).map .str)) (dL l at_ p n b6 cM a x t z) (τ.set b6 (.lst (acc.map b4)))=.next (dL l at_ p n b6 cM eP aH bX bY) (τ.set b6 (.lst (ek.map b4)))/\ij p n ek/\ek.length<=acc.length+(y::xs).length:=fun ea V L jV aV=>by
   obtain⟨ek,eP,aH,bX,bY,aj,O,lz⟩:=ag (j+1) ea (some (.int (j:Nat))) (some (.str y)) t (some (.int q)) hd.2 (fun x hx=>hm x (bI _ hx)) (fun e he hx=>by
    rcases aV e he with he | rfl
    ·exact ha e he (bI _ hx)
    ·exact hd.1 hx) (by grind) L
   exact⟨ek,eP,aH,bX,bY,(oH (hw _) (bQ:=dL l at_ p n b6 cM (some (.int (j:Nat))) (some (.str y)) t z) rfl ((al eR).trans ((al V).trans bU))).trans aj,O,by rw[dv];(grind)⟩
  cases hc:decide (q%5 > cM-1)with
  | false=>exact cs acc (bD (bf.trans (by rw[hc]))) h (Nat.le_succ _) fun e he=>.inl he
  | true =>
   refine aP (Ng hp (hm y bi)) fun f1 f2=>?_;refine cs (acc++[(y,0,v)]) ((cB (bf.trans (by rw[hc]))).trans ((al (a:=Fc) (B3 oT (by grind) (fun J=>rfl) ?_)).trans bU)) (h.snoc ⟨f2,f1,hn1,fg,aR⟩ fun e he q=>?_) (da.symm▸(c9 _)) fun e he=>?_
   ·exact ku (vs:=[.str y,.int ((0:Nat):Int),.int v]) (c7 (x:=.str y) (aa:=τ.set b6 (.lst (acc.map b4))) rfl (c7 (x:=.int ((0:Nat):Int)) (aa:=τ.set b6 (.lst (acc.map b4))) rfl (c7 (dN (dN (x:=.int q) (aa:=τ.set b6 (.lst (acc.map b4))) rfl (ll (d:=d))) hv) h5))) (show(3:Nat)<=aB by decide)
   ·exact ha e he ((Prod.mk.inj q).1▸bi)
   ·rcases c2.mp he with he | he
    ·exact .inl he
    ·exact .inr (dt.mp he)
theorem CR{C:bh}{x:X}{ρ:aE}{σ aa:ac}{r:Nat}{xs:List H}(hx:ev C x ρ σ=.ok (.ref r) aa)(hr:aa[r]?=some (.lst xs))(hl:xs.length<=1000):evIt C (.enum x) ρ σ=.ok (jv 0 xs,some (r,.lst xs)) aa:=by
 rw[CX,hx,b0];unfold lX cO nI;dsimp only;rw[hr];exact az (by rw[eM];(exact aF (by assumption) (by decide)))
theorem Re{σ:ac}(hp:d2 p)(hl:l.length<=63)(hn1:1<=n)(hn:n<=6):∃(acc:List ew) (cU:ac),bz PP topN (d+2) Hi [.fl (l.map .int),.int (at_:Nat),bk p,.int (n:Nat)] σ=.ok (.ref σ.length) (σ++.lst (acc.map b4)::cU)/\ij p n acc/\acc.length<800:=by
 rw[cx (fn:=E0) rfl rfl];have kM:=Ta hp;have fl:=Nh hp
 have cT:∀{σ:ac},ex (CC (d+1)) topN E2 (some (.fl (l.map .int))::some (.int (at_:Nat))::some (bk p)::some (.int (n:Nat))::some (.ref σ.length)::List.replicate 12 none) (σ++[.lst []])=.next (dL l at_ p n σ.length (l.getD at_ 0%3) none none none none) (σ++[.lst []]):=fun{σ} =>
  bR (cz (w3 (d:=d) hl (fun J J=>rfl) rfl (k:=at_) rfl) (y:=.int 3) (ao:=σ++[.lst []]) rfl (gq (by decide)))
 generalize l.getD at_ 0%3=cM at cT
 have eg:=Rb (d:=d) (σ:=σ++[.lst []]) hp;change bz PP topN (d+1) vd [bk p] (σ++[.lst []])=.ok (.ref ((σ++[aS.lst []]).length+1)) (σ++[aS.lst []]++[aS.lst ((p.flatMap (·.gives)).map .str),.lst ((fS p).map .str)])at eg;rw[show σ++[aS.lst []]++[aS.lst ((p.flatMap (·.gives)).map .str),.lst ((fS p).map .str)]=σ++.lst []::[.lst ((p.flatMap (·.gives)).map .str),.lst ((fS p).map .str)] by rw[ey];rfl]at eg
 have Uc:σ.length<(σ++.lst []::[aS.lst ((p.flatMap (·.gives)).map .str),.lst ((fS p).map .str)]).length:=by rw[da];show _<_+3;(grind)
 have g1:(σ++.lst []::[aS.lst ((p.flatMap (·.gives)).map .str),.lst ((fS p).map .str)])[(σ++[aS.lst []]).length+1]?=some (.lst ((fS p).map .str)):=by
  rw[da,iM (by show _<=_+1+1;(grind)),show σ.length+[aS.lst []].length+1-σ.length=2 by show σ.length+1+1-σ.length=2;(grind)];rfl
 have Iq:σ.length≠(σ++[aS.lst []]).length+1:=by rw[da];show _≠_+1+1;(grind)
 generalize XH:(σ++[aS.lst []]).length+1=aN at eg g1 Iq;obtain⟨ea,ay,aM,dK,ei,V,L,jV,aV⟩:=TK (d:=d) (at_:=at_) (cM:=cM) (wt:=some (aN,.lst ((fS p).map .str))) hl hn Uc (fun m=>cH Iq g1) (fS p) 0 [] none none none none (Td _ _ List.nodup_nil) (fun x hx=>hx) (fun e he=>nomatch he) (by rw[List.length_nil];(grind)) ⟨List.nodup_nil,fun e he=>nomatch he⟩;rw[List.map_nil,nx,nx]at V
 have i8:ex (CC (d+1)) topN E3 (dL l at_ p n σ.length cM none none none none) (σ++[.lst []])=.next (dL l at_ p n σ.length cM ay aM dK ei) (σ++.lst (ea.map b4)::[.lst ((p.flatMap (·.gives)).map .str),.lst ((fS p).map .str)]):=by
  show(evIt (CC (d+1)) (.enum (.call vd #v[(.v 2)])) (dL l at_ p n σ.length cM none none none none) (σ++[.lst []])).toS _ _=_;rw[CR (dN (x:=bk p) (aa:=σ++[.lst []]) rfl eg) g1 (by rw[bc];(exact aF (by assumption) (by decide))),gI];exact V
 generalize [aS.lst ((p.flatMap (·.gives)).map .str),.lst ((fS p).map .str)]=jG at i8;have fst:=Q8 (d:=d) (σ:=σ++.lst (ea.map b4)::jG) hp;rw[show σ++aS.lst (ea.map b4)::jG++[.lst ((ez p).map .str)]=σ++.lst (ea.map b4)::(jG++[.lst ((ez p).map .str)]) by rw[ey];rfl]at fst
 have Ud:σ.length<(σ++aS.lst (ea.map b4)::(jG++[aS.lst ((ez p).map .str)])).length:=by rw[da,dv];(grind)
 have g2:(σ++.lst (ea.map b4)::(jG++[.lst ((ez p).map .str)]))[(σ++aS.lst (ea.map b4)::jG).length]?=some (.lst ((ez p).map .str)):=by
  rw[<- List.cons_append,<- ey];exact gS
 have Ir:σ.length≠(σ++aS.lst (ea.map b4)::jG).length:=by rw[da,dv];(grind)
 generalize (σ++aS.lst (ea.map b4)::jG).length=r2 at fst g2 Ir
 obtain⟨BS,aL,bg,cC,e3,aj,O,lz⟩:=TH (d:=d) (at_:=at_) (cM:=cM) (wt:=some (r2,.lst ((ez p).map .str))) hp hl hn1 Ud (fun m=>cH Ir g2) (ez p) 0 ea ay aM dK ei (Ni hp) (fun x hx=>hx) (fun e he hx=>by
  rcases aV e he with he | he
  ·exact nomatch he
  ·refine bC (FQ.mp hx) fun s hs J hg=>?_
   exact(Aj.mp he).2 (List.mem_flatMap.mpr ⟨s,hs,hg⟩)) (by rw[List.length_nil]at jV;(grind)) L
 rw[nx,nx]at aj
 have o9:ex (CC (d+1)) topN E9 (dL l at_ p n σ.length cM ay aM dK ei) (σ++.lst (ea.map b4)::jG)=.next (dL l at_ p n σ.length cM aL bg cC e3) (σ++.lst (BS.map b4)::(jG++[.lst ((ez p).map .str)])):=by
  show(evIt (CC (d+1)) (.enum (.call zE #v[(.v 2)])) (dL l at_ p n σ.length cM ay aM dK ei) (σ++.lst (ea.map b4)::jG)).toS _ _=_;rw[CR (dN (x:=bk p) (aa:=σ++.lst (ea.map b4)::jG) rfl fst) g2 (by rw[bc];(exact aF (by assumption) (by decide))),gI];exact aj
 refine⟨BS,jG++[.lst ((ez p).map .str)],?_,O,by rw[List.length_nil]at jV;(grind)⟩
 have c6:ex (CC (d+1)) topN E1 (some (.fl (l.map .int))::some (.int (at_:Nat))::some (bk p)::some (.int (n:Nat))::List.replicate 13 none) σ=.next (some (.fl (l.map .int))::some (.int (at_:Nat))::some (bk p)::some (.int (n:Nat))::some (.ref σ.length)::List.replicate 12 none) (σ++[.lst []]):=rfl
 have qu:∀{σ':ac},ex (CC (d+1)) topN Fd (dL l at_ p n σ.length cM aL bg cC e3) σ'=.ret (.ref σ.length) (dL l at_ p n σ.length cM aL bg cC e3) σ':=fun{σ'}=>di rfl;have body:=rfl.trans ((al (cT (σ:=σ))).trans ((al i8).trans ((al o9).trans (bn (r:=.nil) qu))));exact(congrArg a5 body).trans rfl
end
structure jH(X:dZ)(j:Nat):Prop where
 i:j≠X.i
 g:j≠X.g
 o:j≠X.o
 h:j≠X.h
 gn:j≠X.gn
 od:j≠X.od
theorem jH.gt{X:dZ}{j:Nat}(l:X.Lt)(h:X.od<j):jH X j:=by
 have a:=l.a;have b:=l.b;have c:=l.c;have d:=l.d;have e:=l.e;have gn:=dw e h;have aO:=dw d gn;have o:=dw c aO;have g:=dw b o;exact⟨cS (dw a g),cS g,cS o,cS aO,cS gn,cS h⟩
theorem dh.other{p:List aq}{n:Nat}{es gs:c0}{os:List H}{X:dZ}{σ:ac}{j:Nat}{m:aS}(b:dh p n es gs os X σ)(a:jH X j):dh p n es gs os X (σ.set j m):=
 ⟨cH a.i b.ns,cH a.g b.gv,cH a.o b.ot,cH a.h b.hr,cH a.gn b.go,cH a.od b.od,b.lt⟩
noncomputable def nZ(Γ:eu)(σ σ':ac):Prop:=∀j m,jH Γ.X j->j≠Γ.tk->j≠Γ.gl->σ[j]?=some m->σ'[j]?=some m
theorem nZ.trans{Γ:eu}{a b c:ac}(h:nZ Γ a b)(k:nZ Γ b c):nZ Γ a c:=fun j m q1 q2 q3 e=>k j m q1 q2 q3 (h j m q1 q2 q3 e)
structure wq(Γ:eu):Prop where
 t:jH Γ.X Γ.tk
 g:jH Γ.X Γ.gl
 ne:Γ.tk≠Γ.gl
section
variable {Γ:eu}{B:cA}{σ:ac}{d:Nat}
noncomputable def AO(n:Str):H->Option H
 | .tup (.str w::r)=>if(w == n)=true then some (.tup (.str w::r))else none
 | _=>none
inductive kZ:H->Prop
 | str (x:Str):kZ (.str x)
 | none:kZ .none
 | int (i:Int):kZ (.int i)
noncomputable def jR(p:List aq):H->Option aq
 | .str x=>p.find? fun s=>s.name == x
 | _=>none
theorem Ul{x:Str}:∀{p:List aq},(p.map (·.name)).Nodup->(p.map aq.pv).filterMap (AO x)=(jR p (.str x)).toList.map aq.pv:=by
 intro p
 induction p with
 | nil=>intro _;rfl
 | cons a q ag =>
  intro hn;rw[dG,hG]at hn;show _=(((a::q).find? fun s=>s.name == x).toList).map aq.pv;rw[dG,List.filterMap_cons,jp,show AO x a.pv=(if(a.name == x)=true then some a.pv else none)from rfl]
  cases hq:a.name == x with
  | false=>exact ag hn.2
  | true =>
   refine congrArg (a.pv::·) (List.filterMap_eq_nil_iff.mpr fun y hy=>?_);obtain⟨b,hb,rfl⟩:=cK.mp hy;show(if(b.name == x)=true then some b.pv else none)=none;exact aY fun z=>hn.1 (cK.mpr ⟨b,hb,(eq_of_beq z).trans (eq_of_beq hq).symm⟩)
theorem M9{s:aq}:∀{p:List aq},(p.map (·.name)).Nodup->s∈p->jR p (.str s.name)=some s:=by
 intro p
 induction p with
 | nil=>intro _ h;contradiction
 | cons a q ag =>
  intro hn h;rw[dG,hG]at hn;show((a::q).find? fun b=>b.name == s.name)=_;rw[jp]
  cases hq:a.name == s.name with
  | false=>exact ag hn.2 ((bE.mp h).resolve_left fun z=>by rw[<- z,beq_self_eq_true]at hq;exact nomatch hq)
  | true =>
   rcases bE.mp h with rfl | h
   ·rfl
   ·exact absurd (cK.mpr ⟨s,h,(eq_of_beq hq).symm⟩) hn.1
theorem Jl{p:List aq}{C:bh}{ρ:aE}{b9:List (Option Nat)}{i:Nat}{bp:H}{y:Mine.X}(hp:d2 p)(Pn:kZ bp)(hd:C.hd=false)(it:evIt C (.v i) ρ σ=.ok (p.map aq.pv,none) σ)(L:∀x,ev C (.v 1) ((cy b9 ρ).set 1 (some x)) σ=.ok x σ)(O:∀x,ev C y ((cy b9 ρ).set 1 (some x)) σ=.ok bp σ) :
  ev C (.comp true 1 b9 (.v 1) (.cmp (.sub (.v 1) (.k (.int 0))) .eq y) (.v i)) ρ σ=.ok (.fl ((jR p bp).toList.map aq.pv)) σ:=by
 have HT:(p.map aq.pv).length<=aB:=by rw[bc];exact aF hp.most (by decide)
 have no:(∀w,cQ .eq (.str w) bp σ=.ok false σ)->jR p bp=none->ev C (.comp true 1 b9 (.v 1) (.cmp (.sub (.v 1) (.k (.int 0))) .eq y) (.v i)) ρ σ=.ok (.fl ((jR p bp).toList.map aq.pv)) σ:=fun h e=>by
  rw[e];refine(pI (fun J=>none) it HT (fun z bA=>?_) fun z bA v hv=>nomatch hv).trans (congrArg (fun l=>ai.ok (H.fl l) σ) (List.filterMap_eq_nil_iff.mpr fun J J=>rfl));obtain⟨s',_,rfl⟩:=cK.mp bA;exact ch (cY (L _) (y:=.int 0) (ao:=σ) rfl (v:=.ok (.str s'.name) σ) rfl) (O _) (h _)
 cases Pn with
 | none=>exact no (fun J=>rfl) rfl
 | int i=>exact no (fun J=>rfl) rfl
 | str x =>
  rw[<- Ul hp.names];refine pI (AO x) it HT (fun z bA=>?_) fun z bA v hv=>?_
  ·obtain⟨s',_,rfl⟩:=cK.mp bA;refine(ch (cY (L _) (y:=.int 0) (ao:=σ) rfl (v:=.ok (.str s'.name) σ) rfl) (O _) pN).trans ?_;show _=ai.ok (if(s'.name == x)=true then some s'.pv else none).isSome σ;cases(s'.name == x) <;> rfl
  ·obtain⟨s',_,rfl⟩:=cK.mp bA;have hv:(if(s'.name == x)=true then some s'.pv else none)=some v:=hv
   cases hq:(s'.name == x)with
   | false=>rw[hq]at hv;exact nomatch hv
   | true=>rw[hq]at hv;obtain rfl:=oi hv;exact L _
theorem RG{p:List aq}{C:bh}{ρ:aE}{b9:List (Option Nat)}{i:Nat}{s:aq}{y:Mine.X}(hp:d2 p)(hs:s∈p)(hd:C.hd=false)(it:evIt C (.v i) ρ σ=.ok (p.map aq.pv,none) σ)(L:∀x,ev C (.v 1) ((cy b9 ρ).set 1 (some x)) σ=.ok x σ)(O:∀x,ev C y ((cy b9 ρ).set 1 (some x)) σ=.ok (.str s.name) σ) :
  ev C (.sub (.comp true 1 b9 (.v 1) (.cmp (.sub (.v 1) (.k (.int 0))) .eq y) (.v i)) (.k (.int 0))) ρ σ=.ok s.pv σ:=by
 have gT:=Jl hp (.str s.name) hd it L O;rw[M9 hp.names hs]at gT;exact cY gT (y:=.int 0) (ao:=σ) rfl rfl
end
noncomputable def qw(x:Str)(es:c0):H->Option H
 | .int t=>(aG (x,t) es).map fun v=>.tup [.int t,v]
 | _=>none
theorem I6{x:Str}{n:Nat}{es:c0}:(cF 0 1 n).filterMap (qw x es)=s0 x n es:=by
 unfold s0 cF;rw[List.filterMap_map];refine congrArg (fun f=>(List.range n).filterMap f) (funext fun(t:Nat)=>?_);show Option.map (fun v=>H.tup [.int (0+(t:Int)*1),v]) (aG (x,0+(t:Int)*1) es)=_;rw[Int.zero_add,Int.mul_one]
theorem I1{n:Nat}{y:H}(h:y∈cF 0 1 n):∃t:Int,y=.int t:=by
 obtain⟨t,_,rfl⟩:=cK.mp h;exact⟨_,rfl⟩
theorem I2{n:Nat}(hn:n<=200):(cF 0 1 n).length<=aB:=by
 unfold cF;rw[bc,List.length_range];exact aF hn (by decide)
section
variable {σ:ac}{es:c0}{x:Str}{n h:Nat}{C:bh}{ρ:aE}{K D:X}
theorem I4(aO:σ[h]?=some (.dp es))(hK:∀t:Int,ev C K (ρ.set 1 (some (.int t))) σ=.ok (.tup [.str x,.int t]) σ)(hD:∀t:Int,ev C D (ρ.set 1 (some (.int t))) σ=.ok (.ref h) σ):∀y∈cF 0 1 n,tst C (.cmp K .isin D) (ρ.set 1 (some y)) σ=.ok (qw x es y).isSome σ:=fun y hy=>by
 obtain⟨t,rfl⟩:=I1 hy;exact(ch (hK t) (hD t) (vi aO)).trans (congrArg (ai.ok · σ) (Option.isSome_map).symm)
theorem I5(aO:σ[h]?=some (.dp es))(Oi:∀t:Int,ev C (.v 1) (ρ.set 1 (some (.int t))) σ=.ok (.int t) σ)(hK:∀t:Int,ev C K (ρ.set 1 (some (.int t))) σ=.ok (.tup [.str x,.int t]) σ)(hD:∀t:Int,ev C D (ρ.set 1 (some (.int t))) σ=.ok (.ref h) σ):∀y∈cF 0 1 n,∀v,qw x es y=some v->ev C (.tup #v[(.v 1),(.sub D K)]) (ρ.set 1 (some y)) σ=.ok v σ:=fun y hy v hv=>by
 obtain⟨t,rfl⟩:=I1 hy;obtain⟨w,hw,rfl⟩:=Option.map_eq_some_iff.mp hv;exact ku (vs:=[.int t,w]) (c7 (Oi t) (c7 (cY (hD t) (hK t) (Js aO hw)) h5)) (show(2:Nat)<=aB by decide)
end
section
variable {p:List aq}{n:Nat}{es gs:c0}{os:List H}{X:dZ}{σ:ac}{d:Nat}
theorem JF{x:Str}(hn:n<=200)(b:dh p n es gs os X σ)(L:iE p x=true):bz PP topN (d+2) sb [.inst aT X.i,.str x] σ=.ok (.ref σ.length) (σ++[.lst (s0 x n es)]):=by
 rw[cx (fn:=Dz) rfl rfl,<- I6];have GY:∀t:Int,ev (CC (d+1)) (.attr aT (.v 3) "here") ((cy [none,none,some 1,some 0] [some (.inst aT X.i),some (.str x),none]).set 1 (some (.int t))) σ=.ok (.ref X.h) σ:=fun t=>gV (i:=X.i) (aa:=σ) rfl b.ns rfl
 have gT:ev (CC (d+1)) DA [some (.inst aT X.i),some (.str x),none] σ=.ok (.ref σ.length) (σ++[.lst ((cF 0 1 n).filterMap (qw x es))]):=
  L5 (qw x es) (AI (gV (i:=X.i) (aa:=σ) rfl b.ns rfl) hn) (I2 hn) (I4 b.hr (fun t=>rfl) GY) (I5 b.hr (fun t=>rfl) (fun t=>rfl) GY)
 exact(congrArg a5 ((al (a:=DB) (gb (gE (i:=X.i) (aa:=σ) (ao:=σ) (vs:=[.str x]) rfl b.ns rfl rfl (Iv b L)))).trans (bn (a:=DC) (di gT)))).trans rfl
noncomputable def eA(p:List aq):List Str:=lF [] (p.flatMap fun s=>s.needs++s.gives)
theorem RL{pl s:H}{τ:ac}:∀(ns:List Str) (y:Option H) (acc:List Str),acc.length+ns.length<=900 ->
  ∃a3,ct none (dH 3) (fun ρ σ=>ex (CC d) topN EM ρ σ) (ns.map .str) [some pl,some (.ref τ.length),some s,y] (τ++[.lst (acc.map .str)]) =
   .next [some pl,some (.ref τ.length),some s,a3] (τ++[.lst ((ns.foldl (dW []) acc).map .str)]):=by
 intro ns
 induction ns with
 | nil=>intro y acc _;exact⟨y,fN⟩
 | cons n ns ag =>
  intro y acc hl;have kM:=vH (G:=[]) (acc:=acc) (n:=n);refine aJ (ag (some (.str n)) (dW [] acc n) (aF (Nat.add_le_add_right kM _) (by rw[Nat.add_assoc,Nat.add_comm 1];exact hl))) fun a3 e=>?_;refine⟨a3,(fv (bQ:=[some pl,some (.ref τ.length),some s,some (.str n)]) (eE:=[some pl,some (.ref τ.length),some s,some (.str n)]) (ao:=τ++[.lst ((dW [] acc n).map .str)]) rfl ?_).trans e⟩
  have t:tst (CC d) (.cmp (.v 3) .notin (.v 1)) [some pl,some (.ref τ.length),some s,some (.str n)] (τ++[.lst (acc.map .str)])=.ok (!decide (n∈acc)) (τ++[.lst (acc.map .str)]):=
   ch (x:=.str n) (y:=.ref τ.length) (aa:=τ++[.lst (acc.map .str)]) (ao:=τ++[.lst (acc.map .str)]) rfl rfl (sx gS)
  have bt:dW [] acc n=if(!decide (n∈acc))=true then acc++[n]else acc:=by
   unfold dW;rw[gR (show n∉([]:List Str)from dT)];rfl
  rw[bt]
  cases hq:(!decide (n∈acc))with
  | false =>
   rw[hq]at t;exact(al (bD t)).trans bU
  | true =>
   rw[hq]at t;rw[az rfl,fD];exact(al ((cB t).trans ((al (gb (gW (m:=.append) (x:=.ref τ.length) (aa:=τ++[.lst (acc.map .str)]) rfl (nl (.inl rfl)) (y:=.str n) (ao:=τ++[.lst (acc.map .str)]) rfl (wS (by rw[bc];exact hF (aF (e6 _ _) hl) (by decide)))))).trans bU))).trans bU
theorem RM{pl:H}{τ:ac}:∀(p:List aq) (x y:Option H) (acc:List Str),acc.length+7*p.length<=900->(∀s∈p,hB s) ->
  ∃aH a3,ct none (dH 2) (fun ρ σ=>ex (CC d) topN EL ρ σ) (p.map aq.pv) [some pl,some (.ref τ.length),x,y] (τ++[.lst (acc.map .str)]) =
   .next [some pl,some (.ref τ.length),aH,a3] (τ++[.lst (((p.flatMap fun s=>s.needs++s.gives).foldl (dW []) acc).map .str)]):=by
 intro p
 induction p with
 | nil=>intro x y acc _ _;exact⟨x,y,fN⟩
 | cons s p ag =>
  intro x y acc hl aU;have hs:=aU s bi
  have l4:(s.needs++s.gives).length<=7:=by rw[da];exact Nat.add_le_add hs.needs4 hs.gives3
  rw[dv,Nat.mul_succ,Nat.add_comm _ 7,<- Nat.add_assoc]at hl;have m1:acc.length+(s.needs++s.gives).length<=acc.length+7:=Nat.add_le_add_left l4 _;refine aJ (RL (d:=d) (pl:=pl) (s:=s.pv) (τ:=τ) (s.needs++s.gives) y acc (aF m1 (aF (e6 _ _) hl))) fun e2 V=>?_;refine hL (ag (some s.pv) e2 ((s.needs++s.gives).foldl (dW []) acc) (aF (Nat.add_le_add_right (aF (sE (G:=[]) (s.needs++s.gives) acc) m1) _) hl) fun t a1=>aU t (bI _ a1)) fun aH a3 aj=>?_;rw[k8,List.foldl_append];refine⟨aH,a3,(fv (bQ:=[some pl,some (.ref τ.length),some s.pv,y]) (eE:=[some pl,some (.ref τ.length),some s.pv,e2]) (ao:=τ++[.lst (((s.needs++s.gives).foldl (dW []) acc).map .str)]) rfl ?_).trans aj⟩
  have ad:ev (CC d) (.bin .add (.sub (.v 2) (.k (.int 2))) (.sub (.v 2) (.k (.int 3)))) [some pl,some (.ref τ.length),some s.pv,y] (τ++[.lst (acc.map .str)])=.ok (.tup ((s.needs++s.gives).map .str)) (τ++[.lst (acc.map .str)]):=by
   refine cz (x:=.tup (s.needs.map .str)) (y:=.tup (s.gives.map .str)) (aa:=τ++[.lst (acc.map .str)]) (ao:=τ++[.lst (acc.map .str)]) rfl rfl ?_;rw[fD];exact az (by rw[bc,bc,<- da];exact aF l4 (by decide))
  refine(al (gc (ys:=(s.needs++s.gives).map .str) (aa:=τ++[.lst (acc.map .str)]) ?_ V)).trans bU;show(ev (CC d) (.bin .add (.sub (.v 2) (.k (.int 2))) (.sub (.v 2) (.k (.int 3)))) [some pl,some (.ref τ.length),some s.pv,y] (τ++[.lst (acc.map .str)])).bind h8=_;rw[ad];rfl
theorem HK(h:d2 p):bz PP topN (d+1) sh [bk p] σ=.ok (.ref σ.length) (σ++[.lst ((eA p).map .str)]):=by
 rw[cx (fn:=EJ) rfl rfl];refine hL (RM (d:=d) (pl:=bk p) (τ:=σ) p none none [] (aF (Nat.add_le_add_left (Nat.mul_le_mul_left 7 h.most) 0) (by decide)) h.steps) fun aH a3 e=>?_;exact(congrArg a5 (rfl.trans ((al (a:=EK) (gc (ys:=p.map aq.pv) (aa:=σ++[.lst []]) rfl e)).trans rfl))).trans rfl
theorem Ar{x:Str}(h:x∈eA p):iE p x=true:=by
 unfold eA lF at h;rw[Ak]at h;unfold iE;by_cases q:x∈p.flatMap (·.gives)
 ·rw[ed q];rfl
 ·rcases h with h | ⟨h,_⟩
  ·exact absurd h dT
  ·obtain⟨s,hs,hx⟩:=List.mem_flatMap.mp h
   rcases c2.mp hx with hx | hx
   ·rw[ed (Aj.mpr ⟨List.mem_flatMap.mpr ⟨s,hs,hx⟩,q⟩),Bool.or_true]
   ·exact absurd (List.mem_flatMap.mpr ⟨s,hs,hx⟩) q
theorem IT(h:d2 p):(eA p).length<=140:=by
 unfold eA lF;refine aF (sE (G:=[]) _ []) ?_;rw[List.length_nil,Nat.zero_add];exact aF (yD (f:=fun s=>s.needs++s.gives) (m:=7) p fun s hs=>by rw[da];exact Nat.add_le_add (h.steps s hs).needs4 (h.steps s hs).gives3) (Nat.mul_le_mul_left 7 h.most)
end
noncomputable def dJ(q:Int×Int):H:=.tup [.int q.1,.int q.2]
noncomputable def sJ(q:Int×Int):PyData:=.tuple [.int q.1,.int q.2]
theorem JG{x:Str}{n:Nat}{es:c0}(h:hE es):∃l:List (Int×Int),s0 x n es=l.map dJ:=by
 unfold s0;generalize List.range n=ci
 induction ci with
 | nil=>exact⟨[],rfl⟩
 | cons t ci ag =>
  obtain⟨l,hl⟩:=ag;rw[List.filterMap_cons]
  cases hv:aG (x,(t:Int)) es with
  | none=>exact⟨l,hl⟩
  | some v =>
   obtain⟨i,rfl,_⟩:=h _ _ hv;exact⟨((t:Int),i)::l,congrArg (H.tup [.int t,.int i]::·) hl⟩
section
variable {d:Nat}{σ:ac}
theorem A3{n:Nat}:∀(l:List (Int×Int)),(l.map dJ).mapM (toD (n+2) σ)=some (l.map sJ):=by
 intro l
 induction l with
 | nil=>rfl
 | cons q l ag=>rw[dG,List.mapM_cons,ag];rfl
theorem CT:∀(l:List (Int×Int)),PyData.eqv (.list (l.map sJ)) (.list (l.map sJ))=true:=by
 intro l;show PyData.eqvAll _ _=true
 induction l with
 | nil=>rfl
 | cons q l ag =>
  rw[dG];show((q.1 == q.1&&(q.2 == q.2&&true))&&PyData.eqvAll _ _)=true;rw[ag,beq_self_eq_true,beq_self_eq_true];rfl
theorem Sy{r:Nat}{l:List (Int×Int)}(h:σ[r]?=some (.lst (l.map dJ))):cQ .ne (.ref r) (.fl (l.map dJ)) σ=.ok false σ:=by
 have V:toD 16 σ (.ref r)=some (.list (l.map sJ)):=by
  show(match σ[r]? with | some (.lst xs)=>(xs.mapM (toD 15 σ)).map PyData.list | _=>none)=_;rw[h];show((l.map dJ).mapM (toD 15 σ)).map PyData.list=_;rw[A3 (n:=13) l];rfl
 have aj:toD 16 σ (.fl (l.map dJ))=some (.list (l.map sJ)):=by
  show((l.map dJ).mapM (toD 15 σ)).map PyData.list=_;rw[A3 (n:=13) l];rfl
 show ai.ofOpt ((eqv σ (.ref r) (.fl (l.map dJ))).map (!·)) σ=_;unfold eqv;rw[V,aj];show ai.ofOpt (some (!PyData.eqv _ _)) σ=_;rw[CT];rfl
theorem TB{a b:Option H}{q:Int×Int}:ex (CC d) topN rA [a,b,some (dJ q),none,none,none] σ=.next [a,b,some (dJ q),none,none,none] σ:=by
 have gT:ev (CC d) ya [a,b,some (dJ q),none,none,none] σ=.ok (.fl []) σ:=by
  refine(pI (fun J=>none) (xs:=[.int q.1,.int q.2]) rfl (show(2:Nat)<=aB by decide) (fun x hx=>?_) (fun x hx v hv=>by contradiction)).trans rfl
  rcases bE.mp hx with rfl | hx
  ·rfl
  ·rw[dt.mp hx];rfl
 exact(al (bD (σ':=σ) (ib (ja (aa:=σ) rfl (i9 (ch gT (y:=.fl []) (ao:=σ) rfl rfl)))))).trans bU
theorem TC{w:Option (Nat×aS)}{a b:Option H}(hr:fK w σ):∀(l:List (Int×Int)) (y:Option H),∃a3,ct w (dH 2) (fun ρ σ=>ex (CC d) topN rA ρ σ) (l.map dJ) [a,b,y,none,none,none] σ=.next [a,b,a3,none,none,none] σ:=by
 intro l
 induction l with
 | nil=>intro y;exact⟨y,oI hr⟩
 | cons q l ag =>
  intro y;obtain⟨a3,e⟩:=ag (some (dJ q));exact⟨a3,(oH hr (bQ:=[a,b,some (dJ q),none,none,none]) rfl TB).trans e⟩
theorem Rd{r:Nat}{l:List (Int×Int)}(hr:σ[r]?=some (.lst (l.map dJ))):bz PP topN (d+1) oY [.ref r,.fl (l.map dJ)] σ=.ok (.bool true) σ:=by
 rw[cx (fn:=x9) rfl rfl];obtain⟨a3,e⟩:=TC (d:=d) (a:=some (.ref r)) (b:=some (.fl (l.map dJ))) (w:=some (r,.lst (l.map dJ))) hr l none
 have c6:ex (CC d) topN yb [some (.ref r),some (.fl (l.map dJ)),none,none,none,none] σ=.next [some (.ref r),some (.fl (l.map dJ)),none,none,none,none] σ:=
  bD (σ':=σ) (ib (ja (aa:=σ) (fV (q:=true) (Jy (CH (x:=.ref r) (aa:=σ) rfl (HO hr)))) (i9 (ch (x:=.ref r) (y:=.fl (l.map dJ)) (aa:=σ) (ao:=σ) rfl rfl (Sy hr)))))
 have cT:ex (CC d) topN yc [some (.ref r),some (.fl (l.map dJ)),none,none,none,none] σ=.next [some (.ref r),some (.fl (l.map dJ)),a3,none,none,none] σ:=by
  show(evIt (CC d) (.v 0) [some (.ref r),some (.fl (l.map dJ)),none,none,none,none] σ).toS _ _=_;rw[vj (r:=r) rfl rfl hr];exact e
 exact(congrArg a5 ((al c6).trans ((al cT).trans rfl))).trans rfl
end
section
variable {Γ:eu}{B:cA}{σ:ac}{d:Nat}
noncomputable def gN(Γ:eu)(b:Int)(pl x y:Option H):aE:=[some (.inst aT Γ.X.i),some (bk Γ.p),some (.ref Γ.tk),some (.int (Γ.n:Nat)),some (.int b),pl,x,y,none,none,none]
theorem RE{x:Str}{b:Int}{pl y:Option H}(ax:fZ Γ)(S:eG Γ B σ)(hx:iE Γ.p x=true) :
  ∃τ a3,ex (CC (d+2)) topN x3 (gN Γ b pl (some (.str x)) y) σ=.next (gN Γ b pl (some (.str x)) a3) (σ++τ):=by
 have hn:Γ.n<=200:=aF ax.hn (by decide);obtain⟨l,hl⟩:=JG (x:=x) (n:=Γ.n) S.ok
 have gT:ev (CC (d+2)) En (gN Γ b pl (some (.str x)) y) σ=.ok (.fl (l.map dJ)) σ:=by
  exact hl▸I6▸(pI (qw x B.es) (AI rfl hn) (I2 hn) (I4 S.tk (fun t=>rfl) fun t=>rfl) (I5 S.tk (fun t=>rfl) (fun t=>rfl) fun t=>rfl))
 have sX:=JF (d:=d) hn S.bo hx;rw[hl]at sX;have V:ev (CC (d+2)) (.meth aT sb "told" (.v 0) #v[(.v 6)]) (gN Γ b pl (some (.str x)) (some (.fl (l.map dJ)))) σ=.ok (.ref σ.length) (σ++[.lst (l.map dJ)]):=gE (i:=Γ.X.i) (aa:=σ) (ao:=σ) (vs:=[.str x]) rfl S.bo.ns rfl rfl sX;exact⟨_,_,(al (a:=Et) (bR gT)).trans ((al (a:=Eu) (bD (fV (q:=true) (iI (hJ (f:=oY) V (y:=.fl (l.map dJ)) (ao:=σ++[aS.lst (l.map dJ)]) rfl (Rd (d:=d+1) (σ:=σ++[aS.lst (l.map dJ)]) (r:=σ.length) gS)))))).trans bU)⟩
theorem WA{w:Option (Nat×aS)}{σ τ:ac}(h:fK w σ):fK w (σ++τ):=by
 cases w with
 | none=>trivial
 | some q=>exact fO h
theorem RF{b:Int}{pl:Option H}{w:Option (Nat×aS)}(ax:fZ Γ):∀(xs:List Str) (x y:Option H) (σ:ac),(∀x∈xs,iE Γ.p x=true)->eG Γ B σ->fK w σ ->
  ∃aH a3 τ,ct w (dH 6) (fun ρ σ=>ex (CC (d+2)) topN x3 ρ σ) (xs.map .str) (gN Γ b pl x y) σ=.next (gN Γ b pl aH a3) (σ++τ):=by
 intro xs
 induction xs with
 | nil=>intro x y σ _ _ hw;exact⟨x,y,[],by rw[List.append_nil];exact oI hw⟩
 | cons a xs ag =>
  intro x y σ hx S hw;refine hL (RE (d:=d) (b:=b) (pl:=pl) (y:=y) ax S (hx a bi)) fun τ e2 e=>?_;refine mU (ag (some (.str a)) e2 (σ++τ) (fun z bA=>hx z (bI _ bA)) S.more (WA hw)) fun aH a3 W7 aj=>?_;rw[ey]at aj;exact⟨aH,a3,τ++W7,(oH hw (bQ:=gN Γ b pl (some (.str a)) y) rfl e).trans aj⟩
theorem Ra{b:Int}(ax:fZ Γ)(S:eG Γ B σ):∃τ,bz PP topN (d+3) zG [.inst aT Γ.X.i,bk Γ.p,.ref Γ.tk,.int (Γ.n:Nat),.int b] σ=.ok (.bool true) (σ++τ):=by
 rw[cx (fn:=x2) rfl rfl]
 have c6:ex (CC (d+2)) topN Eo (gN Γ b none none none) σ=.next (gN Γ b (some (.ref σ.length)) none none) (σ++[.lst ((eA Γ.p).map .str)]):=bR (dN (x:=bk Γ.p) (aa:=σ) rfl (HK (d:=d+1) ax.hp))
 have n0:eG Γ B (σ++[.lst ((eA Γ.p).map .str)]):=S.more;have jU:(σ++[aS.lst ((eA Γ.p).map .str)])[σ.length]?=some (.lst ((eA Γ.p).map .str)):=gS;generalize L:σ++[aS.lst ((eA Γ.p).map .str)]=bq at c6 n0 jU;have dK:tst (CC (d+2)) (.cmp (.bin .mod (.v 4) (.k (.int 2))) .eq (.k (.int 1))) (gN Γ b (some (.ref σ.length)) none none) bq=.ok (b%2 == 1) bq:=rfl
 have cs:∀{pl:H} {xs:List Str} {w:Option (Nat×aS)},ex (CC (d+2)) topN Ep (gN Γ b (some (.ref σ.length)) none none) bq=.next (gN Γ b (some pl) none none) bq->h8 pl bq=.ok (xs.map .str,w) bq->(∀x∈xs,iE Γ.p x=true)->fK w bq->∃τ,a5 (ex (CC (d+2)) topN x2.body (gN Γ b none none none) σ)=.ok (.bool true) (σ++τ):=fun{pl xs w} cT bO hx hw=>by
  refine mU (RF (d:=d) (b:=b) (pl:=some pl) ax xs none none bq hx n0 hw) fun aH a3 τ e=>?_
  have i8:ex (CC (d+2)) topN Es (gN Γ b (some pl) none none) bq=.next (gN Γ b (some pl) aH a3) (bq++τ):=by
   show(evIt (CC (d+2)) (.v 5) (gN Γ b (some pl) none none) bq).toS _ _=_;rw[show evIt (CC (d+2)) (.v 5) (gN Γ b (some pl) none none) bq=.ok (xs.map .str,w) bq from bO];exact e
  refine⟨aS.lst ((eA Γ.p).map .str)::τ,(congrArg a5 ((al c6).trans ((al cT).trans ((al i8).trans rfl)))).trans ?_⟩;rw[<- L,ey];rfl
 cases hq:(b%2 == 1)with
 | false =>
  rw[hq]at dK;exact cs (pl:=.ref σ.length) (xs:=eA Γ.p) (w:=some (σ.length,.lst ((eA Γ.p).map .str))) (bD dK) (by unfold h8 items nI;dsimp only;rw[jU]) (fun x hx=>Ar hx) jU
 | true =>
  rw[hq]at dK
  have fz:ev (CC (d+2)) (.rev (.v 5)) (gN Γ b (some (.ref σ.length)) none none) bq=.ok (.fl ((eA Γ.p).reverse.map .str)) bq:=by
   rw[C5];show sL (.ref σ.length) bq=_;unfold sL cO;dsimp only;rw[jU];dsimp only;rw[az (by rw[bc];exact aF (IT ax.hp) (by decide)),List.map_reverse]
  exact cs (pl:=.fl ((eA Γ.p).reverse.map .str)) (xs:=(eA Γ.p).reverse) (w:=none) ((cB dK).trans ((al (a:=Er) (bR fz)).trans bU)) rfl (fun x hx=>Ar (List.mem_reverse.mp hx)) trivial
theorem Nf(S:eG Γ B σ)(hl:B.os.length<=900000){ρ:aE}(h0:∀τ,ev (CC (d+2)) (.v 0) ρ τ=.ok (.inst aT Γ.X.i) τ)(ar:∀τ,ev (CC (d+2)) (.v 3) ρ τ=.ok (.ref Γ.gl) τ) :
  ev (CC (d+2)) (.call oY #v[(.meth aT oV "fired" (.v 0) .nil),(.v 3)]) ρ σ=.ok (.bool true) (σ++[.lst B.os]):=by
 have os:B.os=(B.gs.map (·.1)).map dk:=by rw[S.gk.os,hI];rfl
 have V:ev (CC (d+2)) (.meth aT oV "fired" (.v 0) .nil) ρ σ=.ok (.ref σ.length) (σ++[.lst B.os]):=gE (i:=Γ.X.i) (h0 σ) S.bo.ns rfl rfl (FP (d:=d+1) S.bo hl);refine hJ V (ar _) (Rc (d:=d+1) (l:=B.gs.map (·.1)) ?_ ?_)
 ·rw[gS,os]
 ·rw[fO S.gl,os]
theorem HJ{b:Int}(ax:fZ Γ)(S:eG Γ B σ)(hl:B.os.length<=900000):∃τ,bz PP topN (d+4) zF [.inst aT Γ.X.i,bk Γ.p,.ref Γ.tk,.ref Γ.gl,.int (Γ.n:Nat),.int b] σ=.ok (.bool true) (σ++τ):=by
 rw[cx (fn:=Ek) rfl rfl];have fp:∀{σ:ac},eG Γ B σ->_:=fun{σ} S=>Nf (d:=d+1) (ρ:=[some (.inst aT Γ.X.i),some (bk Γ.p),some (.ref Γ.tk),some (.ref Γ.gl),some (.int (Γ.n:Nat)),some (.int b),none,none]) S hl (fun J=>rfl) fun J=>rfl
 have c6:∃τ,ex (CC (d+3)) topN El [some (.inst aT Γ.X.i),some (bk Γ.p),some (.ref Γ.tk),some (.ref Γ.gl),some (.int (Γ.n:Nat)),some (.int b),none,none] σ=.next [some (.inst aT Γ.X.i),some (bk Γ.p),some (.ref Γ.tk),some (.ref Γ.gl),some (.int (Γ.n:Nat)),some (.int b),none,none] (σ++τ):=by
  have dK:tst (CC (d+3)) (.cmp (.bin .mod (.v 5) (.k (.int 2))) .eq (.k (.int 0))) [some (.inst aT Γ.X.i),some (bk Γ.p),some (.ref Γ.tk),some (.ref Γ.gl),some (.int (Γ.n:Nat)),some (.int b),none,none] σ=.ok (b%2 == 0) σ:=rfl
  cases hq:(b%2 == 0)with
  | false=>rw[hq]at dK;exact⟨[],by rw[List.append_nil];exact bD (hh (AY dK))⟩
  | true=>rw[hq]at dK;exact⟨_,bD (hh (sW dK (iH (fV (q:=true) (iI (fp S))))))⟩
 obtain⟨τ,c6⟩:=c6;have n0:eG Γ B (σ++τ):=S.more;obtain⟨Bx,lk⟩:=Ra (d:=d) (b:=b/2) ax n0
 have V:ev (CC (d+3)) (.call zG #v[(.v 0),(.v 1),(.v 2),(.v 4),(.bin .fdiv (.v 5) (.k (.int 2)))]) [some (.inst aT Γ.X.i),some (bk Γ.p),some (.ref Γ.tk),some (.ref Γ.gl),some (.int (Γ.n:Nat)),some (.int b),none,none] (σ++τ)=.ok (.bool true) (σ++τ++Bx):=
  ol rfl lk
 have aj:=fp (n0.more (τ:=Bx));refine⟨τ++(Bx++[.lst B.os]),(congrArg a5 ((al c6).trans (bn (a:=Em) (di (mS (oj V (oe aj))))))).trans ?_⟩;rw[ey,ey];rfl
end
inductive jM:H->Prop
 | int (t:Int):jM (.int t)
 | bool (b:Bool):jM (.bool b)
 | none:jM .none
 | str (x:Str):jM (.str x)
noncomputable def jB(n:Nat):H->Bool
 | .int t=>decide (0<=t)&&decide (t<=(n:Int)-1)
 | _=>false
theorem yC{p:List aq}{bp:H}{s:aq}(h:jR p bp=some s):bp=.str s.name/\s∈p:=by
 cases bp with
 | str x =>
  have h:(p.find? fun s=>s.name == x)=some s:=h;have e:=List.find?_some h;have e:(s.name == x)=true:=e;exact⟨congrArg H.str (eq_of_beq e).symm,List.mem_of_find?_eq_some h⟩
 | _=>exact nomatch h
theorem A1{n:Nat}{be:H}(h:jB n be=true):∃t:Nat,be=.int (t:Int)/\t<n:=by
 cases be with
 | int t =>
  obtain⟨h0,L⟩:=cV h;obtain⟨t,rfl⟩:=iN (hZ h0);exact⟨t,rfl,d3.mp (Int.lt_of_le_sub_one (hZ L))⟩
 | _=>exact nomatch h
section
variable {p:List aq}{n:Nat}{es gs:c0}{os:List H}{X:dZ}{σ:ac}{d:Nat}
theorem Lo{be:H}{a b:Int}(h:jM be):bz PP topN (d+1) lv [be,.int a,.int b] σ=.ok (.bool (match be with | .int t=>decide (a<=t)&&decide (t<=b) | _=>false)) σ:=by
 cases h with
 | int t=>exact w0
 | bool b=>rfl
 | none=>rfl
 | str x=>rfl
theorem SE{be:H}(b:dh p n es gs os X σ)(h:jM be):bz PP topN (d+2) oW [.inst aT X.i,be] σ=if jB n be=true then .ok .none σ else .exc qM σ:=by
 rw[cx (fn:=xH) rfl rfl];have c:bz PP topN (d+1) lv [be,.int 0,.int ((n:Int)-1)] σ=.ok (.bool (jB n be)) σ:=(Lo h).trans (by cases h <;> rfl)
 have bf:tst (CC (d+1)) (.not (.call lv #v[(.v 1),(.k (.int 0)),(.bin .sub (.attr aT (.v 0) "turns") (.k (.int 1)))])) [some (.inst aT X.i),some be,none,none] σ=.ok (!jB n be) σ:=
  fV (iI (lV (x:=be) (aa:=σ) rfl (y:=.int 0) (ao:=σ) rfl (cz (gV (i:=X.i) (aa:=σ) (v:=.int n) rfl b.ns rfl) (y:=.int 1) (ao:=σ) rfl sub_int) c))
 cases hq:jB n be with
 | true=>rw[hq]at bf;exact(congrArg a5 ((al (a:=uc) (bD bf)).trans bU)).trans rfl
 | false=>rw[hq]at bf;exact(congrArg a5 (pO (a:=uc) ((cB bf).trans rfl))).trans rfl
theorem SQ{i:Nat}{x:Str}:∀(q:List aq) (z:Option H),(q.find? fun s=>s.name == x)=none->∃bY,ct none (dH 2) (fun ρ σ=>ex (CC d) topN xG ρ σ) (q.map aq.pv) [some (.inst aT i),some (.str x),z,none,none,none] σ=.next [some (.inst aT i),some (.str x),bY,none,none,none] σ:=by
 intro q
 induction q with
 | nil=>intro z _;exact⟨z,fN⟩
 | cons a q ag =>
  intro z h;rw[jp]at h;have bf:tst (CC d) (.cmp (.sub (.v 2) (.k (.int 0))) .eq (.v 1)) [some (.inst aT i),some (.str x),some a.pv,none,none,none] σ=.ok (a.name == x) σ:=rfl
  cases hq:a.name == x with
  | true=>rw[hq]at h;exact nomatch h
  | false =>
   rw[hq]at h bf;refine aJ (ag (some a.pv) h) fun bY e=>?_;exact⟨bY,(fv (bQ:=[some (.inst aT i),some (.str x),some a.pv,none,none,none]) rfl ((al (a:=ub) (bD bf)).trans bU)).trans e⟩
theorem SD{bp:H}(b:dh p n es gs os X σ)(hn:kZ bp)(h:jR p bp=none):bz PP topN (d+1) zC [.inst aT X.i,bp] σ=.exc qL σ:=by
 rw[cx (fn:=xD) rfl rfl]
 cases hn with
 | str x =>
  refine aJ (SQ (d:=d) (σ:=σ) (i:=X.i) p none h) fun z e=>?_;exact(congrArg a5 ((al (a:=xE) (rfl.trans ((al (a:=xF) (gc (IW b rfl) e)).trans bU))).trans rfl)).trans rfl
 | none=>exact(congrArg a5 (rfl.trans rfl)).trans rfl
 | int i=>exact(congrArg a5 (rfl.trans rfl)).trans rfl
noncomputable def lj(p:List aq)(n:Nat)(B:cA)(bp be:H):Option Nat:=
 match jR p bp with
 | none=>some qL
 | some s=>if jB n be=true then(match be with
  | .int t=>if(aG (s.name,t) B.gs).isSome=true then some nL else if(d7 B.es s t).isSome=true then some pn else none
  | _=>none)else some qM
noncomputable def kR:Option Nat->Str
 | none => ""
 | some c=>if c=qL then "NoStep" else if c=qM then "NoTurn" else if c=nL then "Fired" else "NotReady"
noncomputable def nX(i:Nat)(bp be:H)(s:Option H):aE:=some (.inst aT i)::some bp::some be::s::List.replicate 10 none
theorem Nc{bp be:H}{B:cA}{c:Nat}(hp:d2 p)(hpl:∀s∈p,qW s)(b:wr p n B X σ)(hv:hE B.es)(hn:kZ bp)(a1:jM be)(h:lj p n B bp be=some c):bz PP topN (d+4) sa [.inst aT X.i,bp,be] σ=.exc c σ:=by
 rw[cx (fn:=t4) rfl rfl];unfold lj at h
 cases bw:jR p bp with
 | none =>
  rw[bw]at h;obtain rfl:=oi h;exact(congrArg a5 (pO (a:=t5) (C7 (gE (i:=X.i) (aa:=σ) (ao:=σ) (vs:=[bp]) rfl b.ns rfl rfl (SD (d:=d+2) b hn bw))))).trans rfl
 | some s =>
  rw[bw]at h;obtain⟨rfl,hs⟩:=yC bw
  have c6:ex (CC (d+3)) topN t5 (nX X.i (.str s.name) be none) σ=.next (nX X.i (.str s.name) be (some s.pv)) σ:=bR (gE (i:=X.i) (aa:=σ) (ao:=σ) (vs:=[.str s.name]) rfl b.ns rfl rfl (Iw (d:=d+2) b hs hp.names))
  have dP:=SE (d:=d+1) b a1;have V:∀{r:ai H},bz PP topN (d+1+2) oW [.inst aT X.i,be] σ=r->ev (CC (d+3)) (.meth aT oW "need_turn" (.v 0) #v[(.v 2)]) (nX X.i (.str s.name) be (some s.pv)) σ=r:=fun{r} e=>gE (i:=X.i) (aa:=σ) (ao:=σ) (vs:=[be]) rfl b.ns rfl rfl e
  cases hq:jB n be with
  | false =>
   rw[hq]at h dP;obtain rfl:=oi h
   exact(congrArg a5 ((al c6).trans (pO (a:=ru) (by
    show(ev (CC (d+3)) (.meth aT oW "need_turn" (.v 0) #v[(.v 2)]) (nX X.i (.str s.name) be (some s.pv)) σ).toS _ _=_
    rw[V dP];rfl)))).trans rfl
  | true =>
   rw[hq]at h dP;obtain⟨t,rfl,zv⟩:=A1 hq;have cT:=gb (n:=topN) (V dP);have cC:tst (CC (d+3)) (.meth aT zA "has_fired" (.v 0) #v[(.v 1),(.v 2)]) (nX X.i (.str s.name) (.int (t:Int)) (some s.pv)) σ=.ok (aG (s.name,(t:Int)) B.gs).isSome σ:=Jz (gE (i:=X.i) (aa:=σ) (ao:=σ) (vs:=[.str s.name,.int (t:Int)]) rfl b.ns rfl rfl (Gu (d:=d+2) b));have h:(if(aG (s.name,(t:Int)) B.gs).isSome=true then some nL else if(d7 B.es s (t:Int)).isSome=true then some pn else none)=some c:=h
   cases hg:(aG (s.name,(t:Int)) B.gs).isSome with
   | true =>
    rw[hg]at h cC;obtain rfl:=oi h;exact(congrArg a5 ((al c6).trans ((al (a:=ru) cT).trans (pO (a:=t6) ((cB cC).trans rfl))))).trans rfl
   | false =>
    rw[hg]at h cC;have iB:ev (CC (d+3)) (.meth aT u8 "missed" (.v 0) #v[(.v 3),(.v 2)]) (nX X.i (.str s.name) (.int (t:Int)) (some s.pv)) σ=.ok (mo (d7 B.es s (t:Int))) σ:=gE (i:=X.i) (aa:=σ) (ao:=σ) (vs:=[s.pv,.int (t:Int)]) rfl b.ns rfl rfl (H9 (d:=d+2) b (hp.steps s hs) (hpl s hs) hv);have j6:tst (CC (d+3)) (.cmp (.meth aT u8 "missed" (.v 0) #v[(.v 3),(.v 2)]) .isNot (.k .none)) (nX X.i (.str s.name) (.int (t:Int)) (some s.pv)) σ=.ok (d7 B.es s (t:Int)).isSome σ:=ch iB (y:=.none) (ao:=σ) rfl (by cases d7 B.es s (t:Int) <;> rfl)
    cases hm:(d7 B.es s (t:Int)).isSome with
    | false=>rw[hm]at h;exact nomatch h
    | true =>
     rw[hm]at h j6;obtain rfl:=oi h;exact(congrArg a5 ((al c6).trans ((al (a:=ru) cT).trans ((al (a:=t6) (bD cC)).trans (pO (a:=xw) ((cB j6).trans rfl)))))).trans rfl
theorem Na{bp be:H}{B:cA}(h:lj p n B bp be=none):∃s,s∈p/\bp=.str s.name/\∃t:Nat,be=.int (t:Int)/\t<n/\B.rdy s (t:Int)=true:=by
 unfold lj at h
 cases bw:jR p bp with
 | none=>rw[bw]at h;exact nomatch h
 | some s =>
  rw[bw]at h;obtain⟨rfl,hs⟩:=yC bw
  cases hq:jB n be with
  | false=>rw[hq]at h;exact nomatch h
  | true =>
   rw[hq]at h;obtain⟨t,rfl,a1⟩:=A1 hq;refine⟨s,hs,rfl,t,rfl,a1,?_⟩;have h:(if(aG (s.name,(t:Int)) B.gs).isSome=true then some nL else if(d7 B.es s (t:Int)).isSome=true then some pn else none)=none:=h;show((aG (s.name,(t:Int)) B.gs).isNone&&(d7 B.es s (t:Int)).isNone)=true
   cases hg:aG (s.name,(t:Int)) B.gs with
   | some v=>rw[hg]at h;exact nomatch h
   | none =>
    rw[hg]at h
    cases hm:d7 B.es s (t:Int)with
    | some v=>rw[hm]at h;exact nomatch h
    | none=>rfl
theorem FO{bp be:H}{B:cA}{c:Nat}(h:lj p n B bp be=some c):c∈[qL,qM,nL,pn]:=by
 unfold lj at h
 split at h
 ·obtain rfl:=oi h;decide
 split at h
 ·split at h
  ·split at h
   ·obtain rfl:=oi h;decide
   split at h
   ·obtain rfl:=oi h;decide
   ·exact nomatch h
  ·exact nomatch h
 ·obtain rfl:=oi h;decide
end
section
variable {Γ:eu}{B:cA}{σ:ac}{d:Nat}
theorem QC{r:Nat}{k:Str×Int}{l:List (Str×Int)}(h:σ[r]?=some (.lst (l.map dk))):cQ .isin (dk k) (.ref r) σ=.ok (decide (k∈l)) σ:=by
 show ai.ofOpt (ep (dk k) (.ref r) σ) σ=_
 have:ep (dk k) (.ref r) σ=some (decide (k∈l)):=by unfold ep;dsimp only;exact h.symm▸H5
 rw[this];rfl
theorem Qg(S:eG Γ B σ){k:Str×Int}:cQ .isin (dk k) (.ref Γ.gl) σ=.ok (aG k B.gs).isSome σ:=by
 have os:B.os=(B.gs.map (·.1)).map dk:=by rw[S.gk.os,hI];rfl
 refine(QC (l:=B.gs.map (·.1)) (by rw[S.gl,os])).trans (congrArg (ai.ok · σ) ?_);rw[Bool.eq_iff_iff,im];exact y1.symm
theorem MF{s:aq}:cQ .eq (.fl [s.pv]) (.fl []) σ=.ok false σ:=by
 obtain⟨e,he⟩:=A4 (σ:=σ) (m:=12) s
 have L:toD 16 σ (.fl [s.pv])=some (.list [e]):=by
  show([s.pv].mapM (toD 15 σ)).map PyData.list=_;rw[List.mapM_cons,he];rfl
 show ai.ofOpt (eqv σ (.fl [s.pv]) (.fl [])) σ=_;unfold eqv;rw[L];rfl
noncomputable def ki(Γ:eu)(bp be:H)(s:Option H):aE:=some (bk Γ.p)::some (.ref Γ.tk)::some (.ref Γ.gl)::some (.int (Γ.n:Nat))::some bp::some be::s::List.replicate 4 none
theorem Ml{bp be:H}{s:Option H}(h:jM be):tst (CC d) (.or #v[(.isinst (.v 5) .bool),(.not (.isinst (.v 5) .int)),(.not (.cmp2 (.k (.int 0)) .le (.v 5) .lt (.v 3)))]) (ki Γ bp be s) σ=.ok (!jB Γ.n be) σ:=by
 cases h with
 | bool b=>rfl
 | none=>rfl
 | str x=>rfl
 | int t =>
  have e:jB Γ.n (.int t)=(decide (0<=t)&&decide (t<(Γ.n:Nat))):=congrArg (decide (0<=t)&&·) (decide_eq_decide.mpr Int.le_sub_one_iff)
  have j6:tst (CC d) (.cmp2 (.k (.int 0)) .le (.v 5) .lt (.v 3)) (ki Γ bp (.int t) s) σ=.ok (jB Γ.n (.int t)) σ:=by
   rw[e,JS,show ev (CC d) (.k (.int 0)) (ki Γ bp (.int t) s) σ=.ok (.int 0) σ from rfl,b0,show ev (CC d) (.v 5) (ki Γ bp (.int t) s) σ=.ok (.int t) σ from rfl,b0,le_int,b0];cases decide ((0:Int)<=t) <;> rfl
  exact ib (ja (aa:=σ) rfl (ja (aa:=σ) rfl (i9 (fV j6))))
theorem Q6{bp be:H}(ax:fZ Γ)(S:eG Γ B σ)(hn:kZ bp)(a1:jM be):bz PP topN (d+3) Hf [bk Γ.p,.ref Γ.tk,.ref Γ.gl,.int (Γ.n:Nat),bp,be] σ=.ok (.str (kR (lj Γ.p Γ.n B bp be))) σ:=by
 rw[cx (fn:=D0) rfl rfl]
 have c6:ex (CC (d+2)) topN D1 (ki Γ bp be none) σ=.next (ki Γ bp be (some (.fl ((jR Γ.p bp).toList.map aq.pv)))) σ:=bR (Jl ax.hp hn rfl rfl (fun J=>rfl) fun J=>rfl)
 unfold lj
 cases bw:jR Γ.p bp with
 | none =>
  rw[bw]at c6;exact(congrArg a5 ((al c6).trans rfl)).trans rfl
 | some s =>
  rw[bw]at c6;obtain⟨rfl,hs⟩:=yC bw
  have cT:ex (CC (d+2)) topN xV (ki Γ (.str s.name) be (some (.fl [s.pv]))) σ=.next (ki Γ (.str s.name) be (some (.fl [s.pv]))) σ:=bD (ch (x:=.fl [s.pv]) (y:=.fl []) (aa:=σ) (ao:=σ) rfl rfl MF)
  have cC:=Ml (d:=d+2) (σ:=σ) (Γ:=Γ) (bp:=.str s.name) (s:=some (.fl [s.pv])) a1;show _=ai.ok (H.str (kR (if jB Γ.n be=true then _ else _))) σ
  cases hq:jB Γ.n be with
  | false =>
   rw[hq]at cC;exact(congrArg a5 ((al c6).trans ((al cT).trans (bn (a:=ur) ((cB cC).trans rfl))))).trans rfl
  | true =>
   rw[hq]at cC;obtain⟨t,rfl,zv⟩:=A1 hq;have j6:tst (CC (d+2)) (.cmp (.tup #v[(.v 4),(.v 5)]) .isin (.v 2)) (ki Γ (.str s.name) (.int (t:Int)) (some (.fl [s.pv]))) σ=.ok (aG (s.name,(t:Int)) B.gs).isSome σ:=ch (x:=dk (s.name,(t:Int))) (y:=.ref Γ.gl) (aa:=σ) (ao:=σ) rfl rfl (Qg S);have ni:ev (CC (d+2)) (.call p3 #v[(.sub (.v 6) (.k (.int 0))),(.v 1),(.v 5)]) (ki Γ (.str s.name) (.int (t:Int)) (some (.fl [s.pv]))) σ=.ok (mo (d7 B.es s (t:Int))) σ:=lV (x:=s.pv) (y:=.ref Γ.tk) (z:=.int (t:Int)) (aa:=σ) (ao:=σ) (gJ:=σ) rfl rfl rfl (Ia (d:=d) (ax.hp.steps s hs) S.tk S.ok);have pe:tst (CC (d+2)) (.cmp (.call p3 #v[(.sub (.v 6) (.k (.int 0))),(.v 1),(.v 5)]) .isNot (.k .none)) (ki Γ (.str s.name) (.int (t:Int)) (some (.fl [s.pv]))) σ=.ok (d7 B.es s (t:Int)).isSome σ:=ch ni (y:=.none) (ao:=σ) rfl (by cases d7 B.es s (t:Int) <;> rfl);have pre:=fun{r:Mine.S}=>(al (r:=.cons xV (.cons ur r)) c6).trans ((al cT).trans (al (a:=ur) (bD cC)));show _=ai.ok (H.str (kR (if(aG (s.name,(t:Int)) B.gs).isSome=true then some nL else if(d7 B.es s (t:Int)).isSome=true then some pn else none))) σ
   cases hg:(aG (s.name,(t:Int)) B.gs).isSome with
   | true =>
    rw[hg]at j6;exact(congrArg a5 (pre.trans (bn (a:=ut) ((cB j6).trans rfl)))).trans rfl
   | false =>
    rw[hg]at j6
    cases hm:(d7 B.es s (t:Int)).isSome with
    | true =>
     rw[hm]at pe;exact(congrArg a5 (pre.trans ((al (a:=ut) (bD j6)).trans (bn (a:=xW) ((cB pe).trans rfl))))).trans rfl
    | false =>
     rw[hm]at pe;exact(congrArg a5 (pre.trans ((al (a:=ut) (bD j6)).trans ((al (a:=xW) (bD pe)).trans rfl)))).trans rfl
theorem WD{c:Nat}(hc:c∈[qL,qM,nL,pn]):gU PP topN 1 (d+1) Hj [.exc c] σ=.ok (.str (kR (some c))) σ:=by
 rcases bE.mp hc with rfl | hc
 ·rfl
 rcases bE.mp hc with rfl | hc
 ·rfl
 rcases bE.mp hc with rfl | hc
 ·rfl
 rw[dt.mp hc];rfl
noncomputable def kh(i:Nat)(pL:H)(a b:Option H):aE:=[some (.inst aT i),some pL,a,b,none,none,none,none]
theorem CB{i:Nat}{pL:H}{σ':ac}(h:ev (CC d) (.ife (.cmp (.b1 .len (.v 1)) .eq (.k (.int 3))) (.meth aT u9 "put" (.v 0) #v[(.sub (.v 1) (.k (.int 0))),(.sub (.v 1) (.k (.int 1))),(.sub (.v 1) (.k (.int 2)))]) (.meth aT sa "fire" (.v 0) #v[(.sub (.v 1) (.k (.int 0))),(.sub (.v 1) (.k (.int 1)))])) (kh i pL none none) σ=.ok .none σ') :
  bz PP topN (d+1) se [.inst aT i,pL] σ=.ok (.str "") σ':=by
 rw[cx (fn:=xS) rfl rfl]
 have c6:ex (CC d) topN xT (kh i pL none none) σ=.next (kh i pL (some .none) none) σ':=MX ((al (a:=xU) (bR h)).trans bU) (fun J J J z=>by contradiction)
 exact(congrArg a5 ((al c6).trans rfl)).trans rfl
theorem Mj{bp be:H}{c:Nat}(ax:fZ Γ)(S:eG Γ B σ)(hn:kZ bp)(a1:jM be)(h:lj Γ.p Γ.n B bp be=some c):bz PP topN (d+5) se [.inst aT Γ.X.i,.tup [bp,be]] σ=.ok (.str (kR (some c))) σ:=by
 rw[cx (fn:=xS) rfl rfl];have hc:=FO h
 have e:ev (CC (d+4)) (.ife (.cmp (.b1 .len (.v 1)) .eq (.k (.int 3))) (.meth aT u9 "put" (.v 0) #v[(.sub (.v 1) (.k (.int 0))),(.sub (.v 1) (.k (.int 1))),(.sub (.v 1) (.k (.int 2)))]) (.meth aT sa "fire" (.v 0) #v[(.sub (.v 1) (.k (.int 0))),(.sub (.v 1) (.k (.int 1)))])) (kh Γ.X.i (.tup [bp,be]) none none) σ=.exc c σ:=by
  rw[xp,show tst (CC (d+4)) (.cmp (.b1 .len (.v 1)) .eq (.k (.int 3))) (kh Γ.X.i (.tup [bp,be]) none none) σ=.ok false σ from rfl,b0];exact gE (i:=Γ.X.i) (aa:=σ) (ao:=σ) (vs:=[bp,be]) rfl S.bo.ns rfl rfl (Nc (d:=d) ax.hp ax.hpl S.bo S.ok hn a1 h)
 have m5:[31,44,56,68,80,92,104,116,128,140,152].contains c=true:=by
  rcases bE.mp hc with rfl | hc
  ·decide
  rcases bE.mp hc with rfl | hc
  ·decide
  rcases bE.mp hc with rfl | hc
  ·decide
  rw[dt.mp hc];decide
 have aO:ex (CC (d+4)).inH topN #v[uq] (kh Γ.X.i (.tup [bp,be]) none (some (.exc c))) σ=.ret (.str (kR (some c))) (kh Γ.X.i (.tup [bp,be]) none (some (.exc c))) σ:=
  bn (di (dN (x:=.exc c) (aa:=σ) rfl (WD (d:=d+3) hc)))
 have c6:ex (CC (d+4)) topN xT (kh Γ.X.i (.tup [bp,be]) none none) σ=.ret (.str (kR (some c))) (List.replicate 8 none) σ:=by
  refine(MY (h:=.cons uq .nil) (pO (a:=xU) (C7 e)) m5 (Nat.le_of_ble_eq_true rfl) rfl).trans ?_;show pG (ex (CC (d+4)).inH topN #v[uq] (kh Γ.X.i (.tup [bp,be]) none (some (.exc c))) σ)=_;rw[aO];rfl
 exact(congrArg a5 (bn c6)).trans rfl
end
section
variable {C:bh}{ρ:aE}{σ:ac}
theorem L2{α:Type}{f:α->H}{c:α->Bool}{g:H->ac->ai (Option H)}:∀(l:List α),(∀a∈l,g (f a) σ=.ok (if c a=true then some (f a)else none) σ)->dM none g (l.map f) σ=.ok ((l.filter c).map f) σ:=by
 intro l
 induction l with
 | nil=>intro _;exact az trivial
 | cons a l ag =>
  intro h;refine(az trivial).trans ?_;rw[h a bi];show(dM none g (l.map f) σ).bind _=_;rw[ag fun y hy=>h y (bI _ hy),List.filter_cons];cases c a <;> rfl
theorem L7{α:Type}{f:α->H}{c:α->Bool}{l:List α}{t:Nat}{b9:List (Option Nat)}{elt cond it:X}(bO:evIt C it ρ σ=.ok (l.map f,none) σ)(hl:l.length<=1000)(hc:∀a∈l,tst C cond ((cy b9 ρ).set t (some (f a))) σ=.ok (c a) σ)(he:∀a∈l,ev C elt ((cy b9 ρ).set t (some (f a))) σ=.ok (f a) σ)(aO:C.hd=false):ev C (.comp true t b9 elt cond it) ρ σ=.ok (.fl ((l.filter c).map f)) σ:=by
 rw[ky,aO,bO];show iS (l.map f).length (dM none (fun x σ=>((tst C cond ((cy b9 ρ).set t (some x)) σ).bind fun b σ=>if b=true then(ev C elt ((cy b9 ρ).set t (some x)) σ).bind fun v σ=>.ok (some v) σ else .ok none σ)) (l.map f) σ) _=_
 rw[L2 (c:=c) l fun a ha=>by
  show(tst C cond ((cy b9 ρ).set t (some (f a))) σ).bind _=_;rw[hc a ha,b0]
  cases c a with
  | false=>rfl
  | true =>
   show(ev C elt ((cy b9 ρ).set t (some (f a))) σ).bind _=_
   rw[he a ha];rfl]
 exact nk (by rw[bc];exact aF (List.length_filter_le _ _) (aF hl (by decide)))
theorem Sx{l:List aq}:cQ .ne (.fl (l.map aq.pv)) (.fl []) σ=.ok (!l.isEmpty) σ:=by
 obtain⟨ds,h,hl⟩:=ss (f:=toD 15 σ) (xs:=l.map aq.pv) fun x hx=>by
  obtain⟨s,_,rfl⟩:=cK.mp hx;exact A4 (m:=12) s
 have e:toD 16 σ (.fl (l.map aq.pv))=some (.list ds):=by
  show((l.map aq.pv).mapM (toD 15 σ)).map PyData.list=_;rw[h];rfl
 show ai.ofOpt ((eqv σ (.fl (l.map aq.pv)) (.fl [])).map (!·)) σ=_;unfold eqv;rw[e];rw[bc]at hl
 cases l with
 | nil=>obtain rfl:=hY hl;rfl
 | cons a l =>
  cases ds with
  | nil=>exact nomatch hl
  | cons b ds=>rfl
theorem Ao{vs:List H}{q:Int}(h0:0<=q)(L:q<(vs.length:Nat))(hl:vs.length<=1000):∃v∈vs,fU (.fl vs) (.int q) σ=.ok v σ:=by
 obtain⟨k,rfl⟩:=iN h0;have hk:k<vs.length:=d3.mp L;exact⟨vs[k],km hk,kO (aF hl (by decide)) h0 (dx hk)⟩
theorem sw{c k:Int}(hk:0<k):0<=c%k/\c%k<k:=⟨eI _ (Int.ne_of_gt hk),fA _ hk⟩
end
section
variable {Γ:eu}{B:cA}{σ:ac}{d:Nat}
noncomputable def gM(Γ:eu)(c:Int)(s t l n:Option H):aE:=[some (bk Γ.p),some (.ref Γ.tk),some (.ref Γ.gl),some (.int (Γ.n:Nat)),some (.int c),s,t,l,n,none]
theorem Ls{c:Int}(ax:fZ Γ):∃s∈Γ.p,ex (CC (d+2)) topN DR (gM Γ c none none none none) σ=.next (gM Γ c (some s.pv) none none none) σ:=by
 have nh:0<Γ.p.length:=ax.hp.pos;have o3:(Γ.p.map aq.pv).length=Γ.p.length:=bc _;have Cd:Γ.p.length<=aB:=aF ax.hp.most (by decide);obtain⟨h0,L⟩:=sw (c:=c) (k:=(Γ.p.length:Nat)) (d3.mpr nh);obtain⟨k,hk⟩:=iN h0;rw[hk]at L;have ju:k<Γ.p.length:=d3.mp L;refine⟨Γ.p[k],km ju,bR (cY (x:=bk Γ.p) (aa:=σ) rfl (cz (x:=.int c) (aa:=σ) rfl (c4 (x:=bk Γ.p) (aa:=σ) rfl (vq (by rw[o3];exact Cd))) (by rw[o3];exact gq (d3.mpr nh))) ?_)⟩;rw[hk];refine Jv (by rw[o3];exact Cd) (fm k) ?_;rw[Int.toNat_natCast,fB,dx ju];rfl
noncomputable def w2(B:cA)(t:Int)(s:aq):Bool:=(d7 B.es s t).isNone&&!(aG (s.name,t) B.gs).isSome
theorem Lr{c t:Int}{s:aq}(ax:fZ Γ)(S:eG Γ B σ):ex (CC (d+2)) topN DT (gM Γ c (some s.pv) (some (.int t)) none none) σ=.next (gM Γ c (some s.pv) (some (.int t)) (some (.fl ((Γ.p.filter (w2 B t)).map aq.pv))) none) σ:=by
 refine bR (L7 (f:=aq.pv) (c:=w2 B t) (l:=Γ.p) rfl (aF ax.hp.most (by decide)) (fun a ha=>?_) (fun a ha=>rfl) rfl);have m:ev (CC (d+2)) (.call p3 #v[(.v 1),(.v 4),(.v 5)]) ((cy [none,none,none,some 2,some 1,some 6] (gM Γ c (some s.pv) (some (.int t)) none none)).set 1 (some a.pv)) σ=.ok (mo (d7 B.es a t)) σ:=lV (x:=a.pv) (y:=.ref Γ.tk) (z:=.int t) (aa:=σ) (ao:=σ) (gJ:=σ) rfl rfl rfl (Ia (d:=d) (ax.hp.steps a ha) S.tk S.ok)
 have os:B.os=(B.gs.map (·.1)).map dk:=by rw[S.gk.os,hI];rfl
 have n:cQ .notin (dk (a.name,t)) (.ref Γ.gl) σ=.ok (!(aG (a.name,t) B.gs).isSome) σ:=(SX (l:=B.gs.map (·.1)) (by rw[S.gl,os])).trans (congrArg (fun b=>ai.ok (!b) σ) (by rw[Bool.eq_iff_iff,im];exact y1.symm));exact hh (lL (ch m (y:=.none) (ao:=σ) rfl (by cases d7 B.es a t <;> rfl)) fun J=>iH (ch (x:=dk (a.name,t)) (y:=.ref Γ.gl) (aa:=σ) (ao:=σ) rfl rfl n))
theorem Lq{c t:Int}{s:aq}{l:List aq}(hs:s∈Γ.p)(hl:∀a∈l,a∈Γ.p)(Gc:l.length<=1000):∃s'∈Γ.p,ex (CC d) topN DU (gM Γ c (some s.pv) (some (.int t)) (some (.fl (l.map aq.pv))) none) σ=.next (gM Γ c (some s'.pv) (some (.int t)) (some (.fl (l.map aq.pv))) none) σ:=by
 have bf:tst (CC d) (.and #v[(.cmp (.v 7) .ne (.lst true .nil)),(.cmp (.bin .mod (.bin .fdiv (.v 4) (.k (.int 120))) (.k (.int 4))) .gt (.k (.int 0)))]) (gM Γ c (some s.pv) (some (.int t)) (some (.fl (l.map aq.pv))) none) σ=.ok (!l.isEmpty&&decide (c/120%4 > 0)) σ:=
  hh (lL (ch (x:=.fl (l.map aq.pv)) (y:=.fl []) (aa:=σ) (ao:=σ) rfl rfl Sx) fun J=>iH rfl)
 cases hq:(!l.isEmpty&&decide (c/120%4 > 0))with
 | false=>rw[hq]at bf;exact⟨s,hs,bD bf⟩
 | true =>
  rw[hq]at bf
  cases l with
  | nil=>exact nomatch hq
  | cons a l =>
   have o3:((a::l).map aq.pv).length=(a::l).length:=bc _;have nh:(0:Int)<(((a::l).map aq.pv).length:Nat):=d3.mpr (by rw[o3];exact Nat.succ_pos _);obtain⟨h0,L⟩:=sw (c:=c/480) nh;obtain⟨v,hv,e⟩:=Ao (σ:=σ) h0 L (by rw[o3];exact Gc);obtain⟨s',d6,rfl⟩:=cK.mp hv;exact⟨s',hl s' d6,(cB bf).trans ((al (a:=DV) (bR (cY (x:=.fl ((a::l).map aq.pv)) (aa:=σ) rfl (cz rfl (c4 (x:=.fl ((a::l).map aq.pv)) (aa:=σ) rfl (vp (by rw[o3];exact aF Gc (by decide)))) (gq nh)) e))).trans bU)⟩
theorem Lp{c t:Int}{s:aq}{l:Option H}(hs:hB s):∃bp,kZ bp/\ex (CC d) topN DW (gM Γ c (some s.pv) (some (.int t)) l (some (.str s.name))) σ=.next (gM Γ c (some s.pv) (some (.int t)) l (some bp)) σ:=by
 have bf:tst (CC d) (.cmp (.bin .mod (.bin .fdiv (.v 4) (.k (.int 120))) (.k (.int 12))) .eq (.k (.int 4))) (gM Γ c (some s.pv) (some (.int t)) l (some (.str s.name))) σ=.ok (c/120%12 == 4) σ:=rfl
 cases hq:(c/120%12 == 4)with
 | false=>rw[hq]at bf;exact⟨_,.str _,bD bf⟩
 | true =>
  rw[hq]at bf;have fG:s.name.length<=aB:=aF hs.name.len (by decide);obtain⟨h0,L⟩:=sw (c:=c/1440) (k:=6) (by decide);have hd:ev (CC d) (.sub (.v 5) (.k (.int 0))) (gM Γ c (some s.pv) (some (.int t)) l (some (.str s.name))) σ=.ok (.str s.name) σ:=rfl
  have Q4:ev (CC d) (.lst true #v[(.k (.str "")),(.k (.str "zz99zz9")),(.k .none),(.k (.int 3)),(.bin .add (.sub (.v 5) (.k (.int 0))) (.k (.str "q"))),(.slice (.sub (.v 5) (.k (.int 0))) (.k .none) (.neg (.k (.int 1))))]) (gM Γ c (some s.pv) (some (.int t)) l (some (.str s.name))) σ=.ok (.fl [.str "",.str "zz99zz9",.none,.int 3,.str (s.name ++ "q"),.str (lI s.name none (some (-1)))]) σ:=
   xg (c7 (x:=.str "") (aa:=σ) rfl (c7 (x:=.str "zz99zz9") (aa:=σ) rfl (c7 (x:=.none) (aa:=σ) rfl (c7 (x:=.int 3) (aa:=σ) rfl (c7 (cz hd (y:=.str "q") (ao:=σ) rfl (add_str (aF (Nat.add_le_add_right hs.name.len _) (by decide)))) (c7 (CJ hd (y:=.none) (ao:=σ) rfl (z:=.int (-1)) (gJ:=σ) rfl (Je (a:=none) (b:=some (-1)) rfl rfl (az fG))) h5)))))) (show(6:Nat)<=aB by decide)
  obtain⟨v,hv,e⟩:=Ao (σ:=σ) (vs:=[.str "",.str "zz99zz9",.none,.int 3,.str (s.name ++ "q"),.str (lI s.name none (some (-1)))]) h0 L (show(6:Nat)<=1000 by decide);refine⟨v,?_,(cB bf).trans ((al (a:=DX) (bR (cY Q4 (oG (by decide) (by decide) (by decide) rfl) e))).trans bU)⟩;simp only[bE,dT,or_false]at hv
  rcases hv with rfl | rfl | rfl | rfl | rfl | rfl
  ·exact .str _
  ·exact .str _
  ·exact .none
  ·exact .int _
  ·exact .str _
  ·exact .str _
theorem Lu{c t:Int}{s l:Option H}{bp:H}:∃be,jM be/\ex (CC d) topN DY (gM Γ c s (some (.int t)) l (some bp)) σ=.next (gM Γ c s (some be) l (some bp)) σ:=by
 have bf:tst (CC d) (.or #v[(.cmp (.bin .mod (.bin .fdiv (.v 4) (.k (.int 120))) (.k (.int 12))) .eq (.k (.int 8))),(.and #v[(.cmp (.bin .mod (.bin .fdiv (.v 4) (.k (.int 120))) (.k (.int 12))) .eq (.k (.int 4))),(.cmp (.bin .mod (.bin .fdiv (.v 4) (.k (.int 8640))) (.k (.int 2))) .eq (.k (.int 1)))])]) (gM Γ c s (some (.int t)) l (some bp)) σ=.ok ((c/120%12 == 8)||((c/120%12 == 4)&&(c/8640%2 == 1))) σ:=
  ib (qD rfl fun J=>i9 (hh (lL (ch (oG (by decide) (by decide) (by decide) rfl) (y:=.int 4) (ao:=σ) rfl kx) fun J=>iH (ch (oG (by decide) (by decide) (by decide) rfl) (y:=.int 1) (ao:=σ) rfl kx))))
 cases hq:((c/120%12 == 8)||((c/120%12 == 4)&&(c/8640%2 == 1)))with
 | false=>rw[hq]at bf;exact⟨_,.int _,bD bf⟩
 | true =>
  rw[hq]at bf;obtain⟨h0,L⟩:=sw (c:=c/1440) (k:=6) (by decide);obtain⟨v,hv,e⟩:=Ao (σ:=σ) (vs:=[.int (-1),.int (Γ.n:Nat),.bool true,.none,.str "0",.int (10 ^ 20)]) h0 L (show(6:Nat)<=1000 by decide);refine⟨v,?_,(cB bf).trans ((al (a:=DZ) (bR (cY (x:=.fl [.int (-1),.int (Γ.n:Nat),.bool true,.none,.str "0",.int (10 ^ 20)]) (aa:=σ) rfl (oG (by decide) (by decide) (by decide) rfl) e))).trans bU)⟩;simp only[bE,dT,or_false]at hv
  rcases hv with rfl | rfl | rfl | rfl | rfl | rfl
  ·exact .int _
  ·exact .int _
  ·exact .bool _
  ·exact .none
  ·exact .str _
  ·exact .int _
theorem Q5{c:Int}(ax:fZ Γ)(S:eG Γ B σ):∃bp be,kZ bp/\jM be/\bz PP topN (d+3) He [bk Γ.p,.ref Γ.tk,.ref Γ.gl,.int (Γ.n:Nat),.int c] σ=.ok (.tup [bp,be]) σ:=by
 rw[cx (fn:=DQ) rfl rfl];obtain⟨s,hs,c6⟩:=Ls (d:=d) (σ:=σ) (c:=c) ax
 have cT:ex (CC (d+2)) topN DS (gM Γ c (some s.pv) none none none) σ=.next (gM Γ c (some s.pv) (some (.int (c/20%(Γ.n:Nat)))) none none) σ:=bR (cz rfl (y:=.int (Γ.n:Nat)) (ao:=σ) rfl (gq (d3.mpr ax.hn1)))
 have i8:=Lr (d:=d) (c:=c) (t:=c/20%(Γ.n:Nat)) (s:=s) ax S;generalize hl:Γ.p.filter (w2 B (c/20%(Γ.n:Nat)))=l at i8
 have m5:∀a∈l,a∈Γ.p:=fun a ha=>by rw[<- hl]at ha;exact(List.mem_filter.mp ha).1
 have l4:l.length<=1000:=by exact hl▸(aF (List.length_filter_le _ _) (aF ax.hp.most (by decide)))
 generalize c/20%(Γ.n:Nat)=t at cT i8;obtain⟨s',d6,o9⟩:=Lq (d:=d+2) (σ:=σ) (c:=c) (t:=t) hs m5 l4;obtain⟨bp,hn,qv⟩:=Lp (d:=d+2) (Γ:=Γ) (σ:=σ) (c:=c) (t:=t) (l:=some (.fl (l.map aq.pv))) (ax.hp.steps s' d6);obtain⟨be,a1,AL⟩:=Lu (d:=d+2) (Γ:=Γ) (σ:=σ) (c:=c) (t:=t) (s:=some s'.pv) (l:=some (.fl (l.map aq.pv))) (bp:=bp);exact⟨bp,be,hn,a1,(congrArg a5 ((al c6).trans ((al cT).trans ((al i8).trans ((al o9).trans (rfl.trans ((al qv).trans ((al AL).trans rfl)))))))).trans rfl⟩
end
section
variable {Γ:eu}{B:cA}{σ:ac}{d:Nat}
theorem Mf{x:Str}{t:Nat}{v:Int}(ax:fZ Γ)(S:eG Γ B σ)(at_:wq Γ)(he:wD Γ.p Γ.n (x,t,v))(ha:aG (x,(t:Int)) B.es=none)(hl:B.es.length<800000) :
  ∃bZ,bz PP topN (d+5) se [.inst aT Γ.X.i,b4 (x,t,v)] (σ.set Γ.tk (.dp (B.es++[((x,(t:Int)),.int v)])))=.ok (.str "") bZ/\eG Γ (B.put x t v) bZ/\nZ Γ σ bZ:=by
 have b1:wr Γ.p Γ.n B Γ.X (σ.set Γ.tk (.dp (B.es++[((x,(t:Int)),.int v)]))):=S.bo.other at_.t
 have pk:=TO (d:=d) (i:=v) ax.hp b1 he.plc (fm t) (d3.mpr he.lt) he.free he.val ha (dw hl (by decide))
 refine⟨_,CB (d:=d+4) (by
  rw[xp,show tst (CC (d+4)) (.cmp (.b1 .len (.v 1)) .eq (.k (.int 3))) (kh Γ.X.i (b4 (x,t,v)) none none) (σ.set Γ.tk (.dp (B.es++[((x,(t:Int)),.int v)])))=.ok true _ from rfl,b0]
  exact gE (i:=Γ.X.i) (vs:=[.str x,.int (t:Int),.int v]) rfl b1.ns rfl rfl pk),?_,?_⟩
 ·refine⟨b1.here,cH at_.t.h.symm (l2 S.tk),cH at_.g.h.symm (cH at_.ne S.gl),fun k u hu=>?_,⟨S.gk.nodup,S.gk.inn,S.gk.os⟩⟩;have hu:aG k (B.es++[((x,(t:Int)),H.int v)])=some u:=hu;rw[tq ha]at hu;by_cases q:k=(x,(t:Int))
  ·rw[az q]at hu;obtain rfl:=oi hu;exact⟨v,rfl,he.val⟩
  ·rw[aY q]at hu;exact S.ok k u hu
 ·exact fun j m q1 q2 q3 e=>cH (Ne.symm q1.h) (cH (Ne.symm q2) e)
theorem Me{s:aq}{t:Nat}(ax:fZ Γ)(S:eG Γ B σ)(at_:wq Γ)(hs:s∈Γ.p)(a1:t<Γ.n)(hr:B.rdy s (t:Int)=true)(hl:B.es.length<800000)(hg:B.gs.length<800000) :
  ∃bq dy,bz PP topN (d+5) se [.inst aT Γ.X.i,dk (s.name,(t:Int))] σ=.ok (.str "") bq/\bq[Γ.gl]?=some (.lst B.os)/\bz PP topN (d+4) zD [s.pv,.ref Γ.tk,.int (t:Int),.int (Γ.n:Nat)] (bq.set Γ.gl (.lst (B.os++[dk (s.name,(t:Int))])))=.ok .none dy/\eG Γ (B.fire Γ.n s (t:Int)) dy/\nZ Γ σ dy:=by
 obtain⟨aN,r2⟩:=cA.rdy_of hr
 have kM:B.os.length=B.gs.length:=by rw[S.gk.os,bc]
 obtain⟨bq,V,b1,k1⟩:=Nb (d:=d) ax.hp S.bo hs (ax.hpl s hs) S.ok (fm t) (d3.mpr a1) aN r2 hl hg (by rw[kM];exact hg)
 have g1:bq[Γ.gl]?=some (.lst B.os):=k1.at_ Γ.gl _ at_.g.h at_.g.gn at_.g.od S.gl
 have dK:bq[Γ.tk]?=some (.dp B.es):=k1.at_ Γ.tk _ at_.t.h at_.t.gn at_.t.od S.tk
 have cC:(bq.set Γ.gl (.lst (B.os++[dk (s.name,(t:Int))])))[Γ.tk]?=some (.dp B.es):=cH at_.ne.symm dK
 have f2:=Q7 (d:=d+2) (ax.hp.steps s hs) cC S.ok r2 (d3.mpr a1) hl;have fs:f0 Γ.p Γ.n B (B.fire Γ.n s (t:Int)) [(s,(t:Int))]:=.snoc .nil hs (fm t) (d3.mpr a1) hr
 refine⟨bq,_,CB (d:=d+4) (by
  rw[xp,show tst (CC (d+4)) (.cmp (.b1 .len (.v 1)) .eq (.k (.int 3))) (kh Γ.X.i (dk (s.name,(t:Int))) none none) σ=.ok false σ from rfl,b0]
  exact gE (i:=Γ.X.i) (aa:=σ) (ao:=σ) (vs:=[.str s.name,.int (t:Int)]) rfl S.bo.ns rfl rfl V),g1,f2,?_,?_⟩
 ·exact⟨(b1.other at_.g).other at_.t,l2 cC,cH at_.ne (l2 g1),fs.val ax.hp S.ok,fs.gk S.gk⟩
 ·exact fun j m q1 q2 q3 e=>cH (Ne.symm q2) (cH (Ne.symm q3) (k1.at_ j m q1.h q1.gn q1.od e))
inductive kb:List H->Prop
 | kv (l:List (Str×Int)) (h:l.length<=900000):kb (l.map dk)
 | pr (l:List (Int×Int)) (h:l.length<=900000):kb (l.map dJ)
theorem kb.len{xs:List H}(h:kb xs):xs.length<=900000:=by
 cases h with
 | kv l h=>rw[bc];exact h
 | pr l h=>rw[bc];exact h
theorem kb.toD{xs:List H}(h:kb xs):∃ds,xs.mapM (toD 15 σ)=some ds/\PyData.eqv (.list ds) (.list ds)=true:=by
 cases h with
 | kv l _=>exact⟨_,A2 (n:=13) l,CS l⟩
 | pr l _=>exact⟨_,A3 (n:=13) l,CT l⟩
theorem Sw{r:Nat}{xs:List H}(h:kb xs)(hr:σ[r]?=some (.lst xs)):cQ .ne (.ref r) (.fl xs) σ=.ok false σ:=by
 obtain⟨ds,e,q⟩:=h.toD (σ:=σ)
 have V:Mine.toD 16 σ (.ref r)=some (.list ds):=by
  show(match σ[r]? with | some (.lst xs)=>(xs.mapM (Mine.toD 15 σ)).map PyData.list | _=>none)=_;rw[hr];show(xs.mapM (Mine.toD 15 σ)).map PyData.list=_;rw[e];rfl
 have aj:Mine.toD 16 σ (.fl xs)=some (.list ds):=by
  show(xs.mapM (Mine.toD 15 σ)).map PyData.list=_;rw[e];rfl
 show ai.ofOpt ((eqv σ (.ref r) (.fl xs)).map (!·)) σ=_;unfold eqv;rw[V,aj];show ai.ofOpt (some (!PyData.eqv _ _)) σ=_;rw[q];rfl
end
theorem MH{α β:Type}{f:α->β}{l:List α}{i:Nat}:(l.map f).eraseIdx i=(l.eraseIdx i).map f:=by
 rw[List.eraseIdx_eq_take_drop_succ,List.eraseIdx_eq_take_drop_succ,fD,List.map_take,List.map_drop]
theorem CU{α:Type}{l:List α}{i:Nat}(h:i<l.length):(l[i]::l.eraseIdx i).Perm l:=by
 rw[List.eraseIdx_eq_take_drop_succ]
 have e:l.take i++l[i]::l.drop (i+1)=l:=by rw[<- List.drop_eq_getElem_cons h,List.take_append_drop]
 exact List.perm_middle.symm.trans (by rw[e])
section
variable {σ:ac}
theorem Vu:∀(l:List ew),(l.map b4).mapM (toD 15 σ)=some (l.map fun e=>PyData.tuple [.str e.1,.int (e.2.1:Nat),.int e.2.2]):=by
 intro l
 induction l with
 | nil=>rfl
 | cons q l ag=>rw[dG,List.mapM_cons,ag];rfl
theorem Sz{r:Nat}{l:List ew}(h:σ[r]?=some (.lst (l.map b4))):cQ .ne (.ref r) (.fl []) σ=.ok (!l.isEmpty) σ:=by
 have e:toD 16 σ (.ref r)=some (.list (l.map fun e=>PyData.tuple [.str e.1,.int (e.2.1:Nat),.int e.2.2])):=by
  show(match σ[r]? with | some (.lst xs)=>(xs.mapM (toD 15 σ)).map PyData.list | _=>none)=_;rw[h];show((l.map b4).mapM (toD 15 σ)).map PyData.list=_;rw[Vu];rfl
 show ai.ofOpt ((eqv σ (.ref r) (.fl [])).map (!·)) σ=_;unfold eqv;rw[e];cases l <;> rfl
theorem Ro{r:Nat}{xs:List H}(h:σ[r]?=some (.lst xs))(hl:xs.length<=1000):db .len (.ref r) σ=.ok (.int (xs.length:Nat)) σ:=by
 show jy (fun xs=>if xs.length<=aB then ai.ok (H.int xs.length) σ else .stuck) (.ref r) σ=_;rw[qk (show d0 σ (.ref r)=some xs by unfold d0;dsimp only;rw[h])];exact az (aF hl (by decide))
end
structure wC(Γ:eu)(pr hl j:Nat):Prop where
 ap:jH Γ.X j
 t:j≠Γ.tk
 g:j≠Γ.gl
 p:j≠pr
 h:j≠hl
structure eH(Γ:eu)(pr hl:Nat)(B:cA)(bl:List ew)(hs:List (Nat×List H))(c:Nat)(σ:ac):Prop where
 sim:eG Γ B σ
 pl:σ[pr]?=some (.lst (bl.map b4))
 hd:σ[hl]?=some (.lst (hs.map fun h=>.tup [.ref h.1,.fl h.2]))
 held:∀h∈hs,kb h.2/\σ[h.1]?=some (.lst h.2)/\wC Γ pr hl h.1
 apt:wq Γ
 ap:jH Γ.X pr
 tp:pr≠Γ.tk
 gp:pr≠Γ.gl
 ah:jH Γ.X hl
 th:hl≠Γ.tk
 gh:hl≠Γ.gl
 ph:hl≠pr
 ok:ij Γ.p Γ.n bl
 abs:∀e∈bl,aG (e.1,(e.2.1:Int)) B.es=none
 len:bl.length<800
 sz:qX B c
structure gz where
 k:Option H
 c:Option H
 q:Option H
 de:Option H
 du:Option H
 st:Option H
 to:Option H
noncomputable def gz.sq(v:gz)(q:Int):gz:={ v with q:=some (.int q) }
noncomputable def cw(Γ:eu)(pr hl:Nat)(v:gz):aE:=some (.fl (Γ.l.map .int))::some (bk Γ.p)::some (.int (Γ.n:Nat))::some (.ref pr)::some (.inst aT Γ.X.i)::some (.ref Γ.tk)::some (.ref Γ.gl)::some (.ref hl)::v.k::v.c::v.q::v.de::v.du::v.st::v.to::List.replicate 14 none
inductive nY(Γ:eu)(pr hl c h:Nat)(P:gz->ac->Prop):Prop
 | mk (v:gz) (B:cA) (bl:List ew) (hs:List (Nat×List H)) (σ:ac) (e:P v σ) (W:eH Γ pr hl B bl hs c σ) (aO:hs.length=h):nY Γ pr hl c h P
section
variable {Γ:eu}{pr hl:Nat}{B:cA}{bl:List ew}{hs:List (Nat×List H)}{c:Nat}{σ:ac}
theorem eH.more{τ:ac}(h:eH Γ pr hl B bl hs c σ):eH Γ pr hl B bl hs c (σ++τ):=⟨h.sim.more,fO h.pl,fO h.hd,fun q hq=>⟨(h.held q hq).1,fO (h.held q hq).2.1,(h.held q hq).2.2⟩,h.apt,h.ap,h.tp,h.gp,h.ah,h.th,h.gh,h.ph,h.ok,h.abs,h.len,h.sz⟩
theorem eH.pop{q:Int}{v:gz}{N d:Nat}(h:eH Γ pr hl B bl hs c σ)(dc:bl≠[]):∃i:Nat,∃il:i<bl.length,ex (CC d) N Fo (cw Γ pr hl (v.sq q)) σ=.next ((cw Γ pr hl (v.sq q)).set 11 (some (b4 bl[i]))) (σ.set pr (.lst ((bl.eraseIdx i).map b4))):=by
 have nh:0<bl.length:=List.length_pos_iff.mpr dc;obtain⟨h0,L⟩:=sw (c:=q/3) (k:=(bl.length:Nat)) (d3.mpr nh);obtain⟨i,hi⟩:=iN h0;rw[hi]at L;have il:i<bl.length:=d3.mp L
 have jV:(bl.map b4).length<=1000:=by rw[bc];exact aF (hH h.len) (by decide)
 refine⟨i,il,bR (gW (x:=.ref pr) (aa:=σ) rfl (show g4 (.ref pr) σ=true by unfold g4;dsimp only;rw[h.pl]) (y:=.int (i:Nat)) (ao:=σ) ?_ ?_)⟩
 ·rw[<- hi];refine cz rfl (c4 (x:=.ref pr) (aa:=σ) rfl (Ro h.pl jV)) ?_;rw[bc];exact gq (d3.mpr nh)
 ·show o5 (.ref pr) (.int (i:Nat)) σ=_;unfold o5;dsimp only;rw[h.pl];dsimp only;rw[az ⟨fm i,aF jV (by decide)⟩,Int.toNat_natCast,fB,dx il];show ai.ok (b4 bl[i]) (σ.set pr (.lst ((bl.map b4).eraseIdx i)))=_;rw[MH]
end
theorem MW{C:bh}{ρ:aE}{σ:ac}{N:Nat}{o i x:X}{v:H}{r:Nat}{k:Str}{t:Int}{es:c0}(hx:ev C x ρ σ=.ok v σ)(ho:ev C o ρ σ=.ok (.ref r) σ)(hi:ev C i ρ σ=.ok (.tup [.str k,.int t]) σ)(hr:σ[r]?=some (.dp es))(ha:aG (k,t) es=none)(hl:es.length<800000):ex C N (.asgSub o i x) ρ σ=.next ρ (σ.set r (.dp (es++[((k,t),v)]))):=by
 show(ev C x ρ σ).toS ρ (fun v σ=>(ev C o ρ σ).toS ρ fun o σ=>(ev C i ρ σ).toS ρ fun i σ=>hQ o i v ρ σ)=_;rw[hx,gI,ho,gI,hi,gI,sT hr (gP hl (by decide)),wU ha]
section
variable {Γ:eu}{pr hl:Nat}{B:cA}{bl:List ew}{hs:List (Nat×List H)}{c:Nat}{σ:ac}{d:Nat}
theorem eH.rest{mD:cA}{c3:Nat}{σ':ac}(h:eH Γ pr hl B bl hs c σ)(wG:eG Γ mD σ')(ak:nZ Γ σ σ')(ab:∀e∈bl,aG (e.1,(e.2.1:Int)) mD.es=none)(z:qX mD c3):eH Γ pr hl mD bl hs c3 σ':=
 ⟨wG,ak pr _ h.ap h.tp h.gp h.pl,ak hl _ h.ah h.th h.gh h.hd,fun q hq=>by
  obtain⟨L,O,ar⟩:=h.held q hq
  exact⟨L,ak _ _ ar.ap ar.t ar.g O,ar⟩,h.apt,h.ap,h.tp,h.gp,h.ah,h.th,h.gh,h.ph,h.ok,ab,h.len,z⟩
theorem eH.popped{i:Nat}(h:eH Γ pr hl B bl hs c σ)(il:i<bl.length):eH Γ pr hl B (bl.eraseIdx i) hs c (σ.set pr (.lst ((bl.eraseIdx i).map b4))):=by
 have pm:(bl[i]::bl.eraseIdx i).Perm bl:=CU il;have nd:=((pm.map fun e:ew=>(e.1,e.2.1)).nodup_iff.mpr h.ok.nodup);rw[dG,hG]at nd;have inn:∀e∈bl.eraseIdx i,e∈bl:=fun e he=>pm.mem_iff.mp (bI _ he)
 exact⟨⟨h.sim.bo.other h.ap,cH h.tp h.sim.tk,cH h.gp h.sim.gl,h.sim.ok,h.sim.gk⟩,l2 h.pl,cH h.ph.symm h.hd,fun q hq=>by
  obtain⟨L,O,ar⟩:=h.held q hq
  exact⟨L,cH ar.p.symm O,ar⟩,h.apt,h.ap,h.tp,h.gp,h.ah,h.th,h.gh,h.ph,⟨nd.2,fun e he=>h.ok.ok e (inn e he)⟩,fun e he=>h.abs e (inn e he),hF (List.length_eraseIdx_le _ _) h.len,h.sz⟩
theorem T5{q:Int}{v:gz}{r:S}(ax:fZ Γ)(hc:c<1000)(W:eH Γ pr hl B bl hs c σ)(dc:bl≠[])(bf:tst (CC (d+6)) (.and #v[(.cmp (.bin .mod (.v 10) (.k (.int 3))) .eq (.k (.int 0))),(.cmp (.v 3) .ne (.lst true .nil))]) (cw Γ pr hl (v.sq q)) σ=.ok true σ) :
  nY Γ pr hl (c+1) hs.length fun b2 σ'=>ex (CC (d+6)) topN (.cons oB (.cons mX (.cons oC r))) (cw Γ pr hl (v.sq q)) σ=ex (CC (d+6)) topN r (cw Γ pr hl (b2.sq q)) σ':=by
 obtain⟨i,il,qC⟩:=W.pop (q:=q) (v:=v) (N:=topN) (d:=d+6) dc;have qZ:=W.popped il;have em:bl[i]∈bl:=km il;have f9:=W.ok.ok _ em;have bB:=W.abs _ em;have pm:(bl[i]::bl.eraseIdx i).Perm bl:=CU il;have nd:=((pm.map fun e:ew=>(e.1,e.2.1)).nodup_iff.mpr W.ok.nodup);rw[dG,hG]at nd;have dr:B.es.length<800000:=hF W.sz.es (hF (Nat.mul_le_mul_left 3 (hH hc)) (by decide));generalize σ.set pr (.lst ((bl.eraseIdx i).map b4))=Yu at qC qZ;generalize bl[i]=Tn at qC em f9 bB nd pm;obtain⟨x,t,u⟩:=Tn;obtain⟨bZ,aj,Ko,Km⟩:=Mf (d:=d+1) ax qZ.sim W.apt f9 bB dr;refine⟨⟨v.k,v.c,v.q,some (b4 (x,t,u)),some (.str ""),v.st,v.to⟩,B.put x t u,bl.eraseIdx i,hs,bZ,(al (a:=oB) ((cB bf).trans ((al qC).trans ((al (a:=Fp) (MW (v:=.int u) (k:=x) (t:=(t:Int)) rfl rfl rfl qZ.sim.tk bB dr)).trans rfl)))).trans ((al (a:=mX) (bD (ch (hJ (x:=.inst aT Γ.X.i) (y:=b4 (x,t,u)) rfl rfl aj) (y:=.str "") (ao:=bZ) rfl rfl))).trans rfl),qZ.rest Ko Km (fun e he=>?_) ⟨?_,?_,?_⟩,rfl⟩
 ·show aG (e.1,(e.2.1:Int)) (B.es++[((x,(t:Int)),H.int u)])=none;rw[tq bB,aY]
  ·exact qZ.abs e he
  ·intro q;obtain⟨q1,q2⟩:=Prod.mk.inj q;exact nd.1 (cK.mpr ⟨e,he,by rw[q1,Int.ofNat_inj.mp q2]⟩)
 ·show(B.es++[_]).length<=3*(c+1);rw[da,Nat.mul_succ];exact Nat.add_le_add W.sz.es (by show 1<=3;decide)
 ·exact Nat.le_succ_of_le W.sz.gs
 ·exact Nat.le_succ_of_le W.sz.os
end
section
variable {Γ:eu}{pr hl:Nat}{B:cA}{bl:List ew}{hs:List (Nat×List H)}{c:Nat}{σ:ac}{d:Nat}
theorem WE{e:Nat}(h:e∈[qL,qM,nL,pn]):(kR (some e) == "")=false:=by
 rcases bE.mp h with rfl | h
 ·decide +kernel
 rcases bE.mp h with rfl | h
 ·decide +kernel
 rcases bE.mp h with rfl | h
 ·decide +kernel
 rw[dt.mp h];decide +kernel
theorem It{w:Str}:cQ .ne (.str w) (.str w) σ=.ok false σ:=by rw[Iu,beq_self_eq_true];rfl
theorem T2{q:Int}{v:gz}{r:S}(ax:fZ Γ)(hc:c<1000)(W:eH Γ pr hl B bl hs c σ)(bf:tst (CC (d+6)) (.and #v[(.cmp (.bin .mod (.v 10) (.k (.int 3))) .eq (.k (.int 0))),(.cmp (.v 3) .ne (.lst true .nil))]) (cw Γ pr hl (v.sq q)) σ=.ok false σ) :
  nY Γ pr hl (c+1) hs.length fun b2 σ'=>ex (CC (d+6)) topN (.cons oB (.cons mX (.cons oC r))) (cw Γ pr hl (v.sq q)) σ=ex (CC (d+6)) topN r (cw Γ pr hl (b2.sq q)) σ':=by
 have S:=W.sim;obtain⟨bp,be,hn,a1,bt⟩:=Q5 (d:=d+3) (c:=q/3) ax S;have pre:=fun{r:Mine.S}=>al (n:=topN) (r:=r) (a:=oB) ((xq bf).trans ((al (a:=Fm) (bR (ol rfl bt))).trans ((al (a:=Fn) (bR (ol (vs:=[bk Γ.p,.ref Γ.tk,.ref Γ.gl,.int (Γ.n:Nat),bp,be]) rfl (Q6 (d:=d+3) ax S hn a1)))).trans bU)))
 cases hw:lj Γ.p Γ.n B bp be with
 | some e =>
  rw[hw]at pre;exact⟨⟨v.k,v.c,v.q,some (.tup [bp,be]),some (.str (kR (some e))),v.st,v.to⟩,B,bl,hs,σ,pre.trans ((al (a:=mX) (bD (ch (hJ (x:=.inst aT Γ.X.i) (y:=.tup [bp,be]) (aa:=σ) (ao:=σ) rfl rfl (Mj (d:=d+1) ax S hn a1 hw)) (y:=.str (kR (some e))) (ao:=σ) rfl It))).trans ((al (a:=oC) (bD (hh (sW (aa:=σ) rfl (iH ((ch (x:=.str (kR (some e))) (y:=.str "") (aa:=σ) (ao:=σ) rfl rfl pN).trans (by rw[WE (FO hw)]))))))).trans rfl)),W.rest S (fun J J J J J h=>h) W.abs ⟨aF W.sz.es (Nat.mul_le_mul_left 3 (Nat.le_succ c)),Nat.le_succ_of_le W.sz.gs,Nat.le_succ_of_le W.sz.os⟩,rfl⟩
 | none =>
  rw[hw]at pre;obtain⟨s,m7,rfl,t,rfl,PR,hr⟩:=Na hw;have tB:c<800000:=dw hc (by decide);have dr:B.es.length<800000:=hF W.sz.es (hF (Nat.mul_le_mul_left 3 (hH hc)) (by decide));obtain⟨bq,dy,aj,g1,bF,Kp,Kn⟩:=Me (d:=d+1) ax S W.apt m7 PR hr dr (hF W.sz.gs tB);exact⟨⟨v.k,v.c,v.q,some (dk (s.name,(t:Int))),some (.str ""),some s.pv,v.to⟩,B.fire Γ.n s (t:Int),bl,hs,dy,pre.trans ((al (a:=mX) (bD (ch (hJ (x:=.inst aT Γ.X.i) (y:=dk (s.name,(t:Int))) (aa:=σ) (ao:=σ) rfl rfl aj) (y:=.str "") (ao:=bq) rfl It))).trans ((al (a:=oC) ((cB (σ':=bq) rfl).trans ((al (a:=Fq) (gb (gW (x:=.ref Γ.gl) (aa:=bq) rfl (z5 g1) (y:=dk (s.name,(t:Int))) (ao:=bq) rfl (wT g1 (hF W.sz.os (dw hc (by decide))))))).trans ((al (a:=Fs) (bR (RG ax.hp m7 rfl rfl (fun J=>rfl) fun J=>rfl))).trans ((al (a:=Ft) (gb (ol (vs:=[s.pv,.ref Γ.tk,.int (t:Int),.int (Γ.n:Nat)]) rfl bF))).trans bU))))).trans rfl)),W.rest Kp Kn (fun e he=>(F3 ax.hp m7 (fm t) (W.ok.ok e he).free).trans (W.abs e he)) (W.sz.fire (ax.hp.steps s m7)),rfl⟩
end
section
variable {Γ:eu}{pr hl:Nat}{B:cA}{bl:List ew}{hs:List (Nat×List H)}{c:Nat}{σ:ac}{d:Nat}
theorem Tq(h:d2 Γ.p):∃x l,eA Γ.p=x::l:=by
 have:∃x,x∈eA Γ.p:=by
  obtain⟨s,hs⟩:=List.exists_mem_of_length_pos h.pos;obtain⟨x,hx⟩:=List.exists_mem_of_length_pos (h.steps s hs).needs1;refine⟨x,?_⟩;unfold eA lF;rw[Ak];exact .inr ⟨List.mem_flatMap.mpr ⟨s,hs,gO _ hx⟩,dT⟩
 obtain⟨x,hx⟩:=this
 cases hp:eA Γ.p with
 | nil=>rw[hp]at hx;exact absurd hx dT
 | cons a l=>exact⟨a,l,rfl⟩
theorem T7{v:gz}(ax:fZ Γ)(W:eH Γ pr hl B bl hs c σ)(hc:c<800000):∃m l,kb l/\l.length<=200/\ex (CC (d+6)) topN oD (cw Γ pr hl v) σ=.next ((cw Γ pr hl v).set 14 (some (.fl [.ref σ.length,.ref (σ.length+2)]))) (σ++[.lst B.os,m,.lst l]):=by
 have S:=W.sim;have hn:Γ.n<=200:=aF ax.hn (by decide);obtain⟨x,pl,hx⟩:=Tq ax.hp;obtain⟨l,l3⟩:=JG (x:=x) (n:=Γ.n) S.ok;have BP:eG Γ B (σ++[.lst B.os]):=S.more;have cX:eG Γ B (σ++[.lst B.os]++[.lst ((eA Γ.p).map .str)]):=BP.more;have V:ev (CC (d+6)) (.meth aT oV "fired" (.v 4) .nil) (cw Γ pr hl v) σ=.ok (.ref σ.length) (σ++[.lst B.os]):=gE (i:=Γ.X.i) (aa:=σ) rfl S.bo.ns rfl rfl (FP (d:=d+5) S.bo (aF W.sz.os (aF (hH hc) (by decide))))
 have Am:ev (CC (d+6)) (.sub (.call sh #v[(.v 1)]) (.k (.int 0))) (cw Γ pr hl v) (σ++[.lst B.os])=.ok (.str x) (σ++[.lst B.os]++[.lst ((eA Γ.p).map .str)]):=by
  refine cY (dN (x:=bk Γ.p) (aa:=σ++[.lst B.os]) rfl (HK (d:=d+5) ax.hp)) (y:=.int 0) (ao:=σ++[.lst B.os]++[.lst ((eA Γ.p).map .str)]) rfl (Jt gS (by rw[bc];exact aF (IT ax.hp) (by decide)) (Int.le_refl 0) ?_);rw[hx];rfl
 have sX:=JF (d:=d+4) hn cX.bo (Ar (p:=Γ.p) (x:=x) (by rw[hx];exact bi));rw[l3]at sX;have aj:ev (CC (d+6)) (.meth aT sb "told" (.v 4) #v[(.sub (.call sh #v[(.v 1)]) (.k (.int 0)))]) (cw Γ pr hl v) (σ++[.lst B.os])=.ok (.ref (σ++[aS.lst B.os]++[aS.lst ((eA Γ.p).map .str)]).length) (σ++[.lst B.os]++[.lst ((eA Γ.p).map .str)]++[.lst (l.map dJ)]):=gE (i:=Γ.X.i) (aa:=σ++[.lst B.os]) (vs:=[.str x]) rfl BP.bo.ns rfl (c7 Am h5) sX
 have lz:(l.map dJ).length<=200:=by rw[<- l3];exact aF (List.length_filterMap_le _ _) (by rw[List.length_range];exact hn)
 refine⟨.lst ((eA Γ.p).map .str),l.map dJ,.pr l (by rw[bc]at lz;exact aF lz (by decide)),lz,(bR (xg (vs:=[.ref σ.length,.ref (σ++[aS.lst B.os]++[aS.lst ((eA Γ.p).map .str)]).length]) (c7 V (c7 aj h5)) (show(2:Nat)<=aB by decide))).trans ?_⟩;rw[da,da,ey,ey];rfl
theorem M2{r:Nat}{xs ys:List H}(h:σ[r]?=some (.lst xs))(hl:xs.length+ys.length<=1000):iC .extend (.ref r) [.fl ys] σ=.ok .none (σ.set r (.lst (xs++ys))):=by
 show kz (.ref r) (.fl ys) σ=_;unfold kz;dsimp only;rw[h];dsimp only;exact az (aF hl (by decide))
theorem HP{r:Nat}{xs:List H}(h:σ[r]?=some (.lst xs))(hl:xs.length<=900000):db (.list true) (.ref r) σ=.ok (.fl xs) σ:=by
 show jy (fun xs=>er true xs σ) (.ref r) σ=_;rw[qk (show d0 σ (.ref r)=some xs by unfold d0;dsimp only;rw[h])];exact nk (aF hl (by decide))
theorem T3{v:gz}{m:aS}{l:List H}(W:eH Γ pr hl B bl hs c σ)(hc:c<800000)(hD:kb l)(l4:l.length<=900000)(aO:hs.length<=900) :
  ∃σ',ex (CC d) topN oE ((cw Γ pr hl v).set 14 (some (.fl [.ref σ.length,.ref (σ.length+2)]))) (σ++[.lst B.os,m,.lst l])=.next ((cw Γ pr hl v).set 14 (some (.fl [.ref σ.length,.ref (σ.length+2)]))) σ'/\eH Γ pr hl B bl (hs++[(σ.length,B.os),(σ.length+2,l)]) c σ':=by
 have iL:eH Γ pr hl B bl hs c (σ++[.lst B.os,m,.lst l]):=W.more;have g1:(σ++[aS.lst B.os,m,.lst l])[σ.length]?=some (.lst B.os):=gS
 have g2:(σ++[aS.lst B.os,m,.lst l])[σ.length+2]?=some (.lst l):=by rw[iM (e6 _ _),Nat.add_sub_cancel_left];rfl
 have lt:∀{j:Nat} {x:aS},σ[j]?=some x->j<σ.length:=fun e=>(dU e).1;have bV:∀{j:Nat},σ.length<=j->wC Γ pr hl j:=fun{j} a0=>⟨.gt W.sim.bo.lt (gP (lt W.sim.bo.od) a0),cS (gP (lt W.sim.tk) a0),cS (gP (lt W.sim.gl) a0),cS (gP (lt W.pl) a0),cS (gP (lt W.hd) a0)⟩
 have S9:kb B.os:=by rw[show B.os=(B.gs.map (·.1)).map dk by rw[W.sim.gk.os,hI];rfl];exact .kv _ (by rw[bc];exact aF W.sz.gs (aF (hH hc) (by decide)))
 have cr:ev (CC d) DO ((cw Γ pr hl v).set 14 (some (.fl [.ref σ.length,.ref (σ.length+2)]))) (σ++[.lst B.os,m,.lst l])=.ok (.fl [.tup [.ref σ.length,.fl B.os],.tup [.ref (σ.length+2),.fl l]]) (σ++[.lst B.os,m,.lst l]):=by
  refine(mQ (fun y=>match y with | .ref r=>(if r=σ.length then .tup [.ref σ.length,.fl B.os]else .tup [.ref (σ.length+2),.fl l]) | _=>.none) (xs:=[.ref σ.length,.ref (σ.length+2)]) rfl (show(2:Nat)<=aB by decide) (fun y hy=>?_)).trans ?_
  ·rcases bE.mp hy with rfl | hy
   ·show _=ai.ok (if σ.length=σ.length then H.tup [.ref σ.length,.fl B.os]else _) _;rw[az rfl];exact ku (vs:=[.ref σ.length,.fl B.os]) (c7 rfl (c7 (c4 rfl (HP g1 (aF W.sz.os (aF (hH hc) (by decide))))) h5)) (show(2:Nat)<=aB by decide)
   ·rw[dt.mp hy];show _=ai.ok (if σ.length+2=σ.length then _ else H.tup [.ref (σ.length+2),.fl l]) _;rw[aY (cS (Nat.lt_add_of_pos_right (by decide)))];exact ku (vs:=[.ref (σ.length+2),.fl l]) (c7 rfl (c7 (c4 rfl (HP g2 l4)) h5)) (show(2:Nat)<=aB by decide)
  ·show ai.ok (H.fl [if σ.length=σ.length then _ else _,if σ.length+2=σ.length then _ else _]) _=_;rw[az rfl,aY (cS (Nat.lt_add_of_pos_right (by decide)))]
 refine⟨_,gb (gW (m:=.extend) (x:=.ref hl) rfl (show g4 (.ref hl) _=true by unfold g4;dsimp only;rw[iL.hd]) cr (M2 iL.hd (by rw[bc];exact Nat.add_le_add aO (show 2<=100 by decide)))),?_⟩;refine⟨⟨iL.sim.bo.other W.ah,cH W.th iL.sim.tk,cH W.gh iL.sim.gl,W.sim.ok,W.sim.gk⟩,cH W.ph iL.pl,?_,fun h hm=>?_,W.apt,W.ap,W.tp,W.gp,W.ah,W.th,W.gh,W.ph,W.ok,W.abs,W.len,W.sz⟩
 ·rw[l2 iL.hd,fD];rfl
 ·rcases c2.mp hm with hm | hm
  ·obtain⟨L,O,ar⟩:=iL.held h hm;exact⟨L,cH ar.h.symm O,ar⟩
  ·rcases bE.mp hm with rfl | hm
   ·exact⟨S9,cH (bV (c9 _)).h.symm g1,bV (c9 _)⟩
   ·exact(dt.mp hm).symm▸(⟨hD,cH (bV (e6 _ _)).h.symm g2,bV (e6 _ _)⟩)
end
section
variable {Γ:eu}{pr hl:Nat}{B:cA}{bl:List ew}{hs:List (Nat×List H)}{c:Nat}{σ:ac}{d:Nat}
theorem T6{q:Int}{v:gz}(ax:fZ Γ)(hc:c<1000)(aO:hs.length<=900)(W:eH Γ pr hl B bl hs c σ):nY Γ pr hl c (hs.length+2) fun b2 σ'=>ex (CC (d+6)) topN #v[pR,oD,oE] (cw Γ pr hl (v.sq q)) σ=.next (cw Γ pr hl b2) σ':=by
 have tB:c<800000:=dw hc (by decide);obtain⟨τ,lk⟩:=HJ (d:=d+2) (b:=q/7) ax W.sim (aF W.sz.os (aF (hH hc) (by decide)));have Cb:=al (C:=CC (d+6)) (n:=topN) (σ:=σ) (a:=pR) (r:=.cons oD #v[oE]) (ρ:=cw Γ pr hl (v.sq q)) (bD (fV (q:=true) (iI (ol rfl lk))));have iL:eH Γ pr hl B bl hs c (σ++τ):=W.more;generalize σ++τ=bq at Cb iL;obtain⟨m,l,hD,l4,La⟩:=T7 (d:=d) (v:=v.sq q) ax iL tB;obtain⟨bZ,Lb,wJ⟩:=T3 (d:=d+6) (v:=v.sq q) (m:=m) iL tB hD (aF l4 (by decide)) aO;exact⟨⟨v.k,v.c,some (.int q),v.de,v.du,v.st,some (.fl [.ref bq.length,.ref (bq.length+2)])⟩,B,bl,_,bZ,Cb.trans ((al La).trans ((al Lb).trans rfl)),wJ,da⟩
theorem T1{kk ce:Int}{v:gz}(ax:fZ Γ)(hc:c<900)(aO:hs.length<=900)(W:eH Γ pr hl B bl hs c σ):nY Γ pr hl (c+1) (hs.length+2) fun b2 σ'=>ex (CC (d+6)) topN yt (cw Γ pr hl ⟨some (.int kk),some (.int ce),v.q,v.de,v.du,v.st,v.to⟩) σ=.next (cw Γ pr hl b2) σ':=by
 have bG:c<1000:=dw hc (by decide);have dO:c+1<1000:=hF hc (by decide);have eR:=al (C:=CC (d+6)) (n:=topN) (σ:=σ) (a:=Fl) (r:=.cons oB #v[mX,oC,pR,oD,oE]) (ρ:=cw Γ pr hl ⟨some (.int kk),some (.int ce),v.q,v.de,v.du,v.st,v.to⟩) (bR (dN (x:=.int (ce+31*kk)) (aa:=σ) rfl (ll (d:=d+5))));generalize d8 (ce+31*kk)=p at eR
 have bf:tst (CC (d+6)) (.and #v[(.cmp (.bin .mod (.v 10) (.k (.int 3))) .eq (.k (.int 0))),(.cmp (.v 3) .ne (.lst true .nil))]) (cw Γ pr hl (gz.sq ⟨some (.int kk),some (.int ce),v.q,v.de,v.du,v.st,v.to⟩ p)) σ=.ok ((p%3 == 0)&&!bl.isEmpty) σ:=
  hh (lL (q:=p%3 == 0) (aa:=σ) rfl fun J=>iH (ch (x:=.ref pr) (y:=.fl []) (aa:=σ) (ao:=σ) rfl rfl (Sz W.pl)))
 have cs:nY Γ pr hl (c+1) hs.length (fun b2 σ'=>ex (CC (d+6)) topN #v[oB,mX,oC,pR,oD,oE] (cw Γ pr hl (gz.sq ⟨some (.int kk),some (.int ce),v.q,v.de,v.du,v.st,v.to⟩ p)) σ=ex (CC (d+6)) topN #v[pR,oD,oE] (cw Γ pr hl (b2.sq p)) σ'):=by
  cases hq:((p%3 == 0)&&!bl.isEmpty)with
  | true =>
   rw[hq]at bf;exact T5 (d:=d) ax bG W (fun z=>by rw[z]at hq;exact absurd (cV hq).2 (by decide)) bf
  | false =>
   rw[hq]at bf;exact T2 (d:=d) ax bG W bf
 obtain⟨b2,mD,Aw,d6,σ',e,qY,h'⟩:=cs;obtain⟨bu,J9,TM,PE,bZ,aj,wJ,O⟩:=T6 (d:=d) (q:=p) (v:=b2) ax dO (h'▸aO) qY;exact⟨bu,J9,TM,PE,bZ,eR.trans (e.trans aj),wJ,h'▸O⟩
theorem T4(ax:fZ Γ):∀(eU:List Int) (j:Nat) (B:cA) (bl:List ew) (hs:List (Nat×List H)) (c:Nat) (σ:ac) (v:gz),c+eU.length<=800->hs.length+2*eU.length<=900->eH Γ pr hl B bl hs c σ ->
  nY Γ pr hl (c+eU.length) (hs.length+2*eU.length) fun b2 σ'=>ct none (io [8,9]) (fun ρ σ=>ex (CC (d+6)) topN yt ρ σ) (jv j (eU.map .int)) (cw Γ pr hl v) σ=.next (cw Γ pr hl b2) σ':=by
 intro eU
 induction eU with
 | nil=>intro j B bl hs c σ v L _ W;exact⟨v,B,bl,hs,σ,fN,W,rfl⟩
 | cons x eU ag =>
  intro j B bl hs c σ v L O W
  have ay:c+(x::eU).length=c+1+eU.length:=by rw[dv,Nat.add_assoc,Nat.add_comm 1]
  have aL:hs.length+2*(x::eU).length=hs.length+2+2*eU.length:=by rw[dv,Nat.mul_succ,Nat.add_assoc,Nat.add_comm 2]
  rw[ay]at L ⊢;rw[aL]at O ⊢;obtain⟨aR,fX,TL,PD,bq,e,iL,jV⟩:=T1 (d:=d) (kk:=(j:Int)) (ce:=x) (v:=v) ax (gP (gP (Nat.lt_succ_self c) (e6 _ _)) (aF L (by decide))) (aF (aF (e6 _ 2) (e6 _ _)) O) W;rw[<- jV]at O ⊢;obtain⟨b2,mD,Aw,d6,σ',aj,qY,h'⟩:=ag (j+1) fX TL PD (c+1) bq aR L O iL;exact⟨b2,mD,Aw,d6,σ',(fv (bQ:=cw Γ pr hl ⟨some (.int (j:Int)),some (.int x),v.q,v.de,v.du,v.st,v.to⟩) rfl e).trans aj,qY,h'⟩
end
section
variable {Γ:eu}{pr hl:Nat}{B:cA}{bl:List ew}{hs:List (Nat×List H)}{c:Nat}{σ:ac}{d:Nat}
theorem L1{w:Option (Nat×aS)}{f:H->ac->ai (Option H)}(hw:fK w σ):∀(xs:List H),(∀x∈xs,f x σ=.ok none σ)->dM w f xs σ=.ok [] σ:=by
 intro xs
 induction xs with
 | nil=>intro _;exact az hw
 | cons x xs ag =>
  intro h;refine(az hw).trans ?_;rw[h x bi];show(dM w f xs σ).bind _=_;rw[ag fun y hy=>h y (bI _ hy)];rfl
noncomputable def i0(h:Nat×List H):H:=.tup [.ref h.1,.fl h.2]
theorem MB{v:gz}(W:eH Γ pr hl B bl hs c σ):ex (CC d) topN uC (cw Γ pr hl v) σ=.next (cw Γ pr hl v) σ:=by
 have s8:σ[hl]?=some (.lst (hs.map i0)):=W.hd
 have gT:ev (CC d) DP (cw Γ pr hl v) σ=.ok (.fl []) σ:=by
  show ev (CC d) (.comp true 1 [none,none] (.v 1) (.cmp (.sub (.v 1) (.k (.int 0))) .ne (.sub (.v 1) (.k (.int 1)))) (.v 7)) (cw Γ pr hl v) σ=_;have it:evIt (CC d) (.v 7) (cw Γ pr hl v) σ=.ok (hs.map i0,some (hl,.lst (hs.map i0))) σ:=vj (r:=hl) rfl rfl s8;rw[ky,show(CC d).hd=false from rfl,it];show iS (hs.map i0).length (dM (some (hl,.lst (hs.map i0))) (fun x σ=>((tst (CC d) (.cmp (.sub (.v 1) (.k (.int 0))) .ne (.sub (.v 1) (.k (.int 1)))) ((cy [none,none] (cw Γ pr hl v)).set 1 (some x)) σ).bind fun b σ=>if b=true then(ev (CC d) (.v 1) ((cy [none,none] (cw Γ pr hl v)).set 1 (some x)) σ).bind fun v σ=>.ok (some v) σ else .ok none σ)) (hs.map i0) σ) _=_
  rw[L1 (w:=some (hl,.lst (hs.map i0))) (σ:=σ) s8 (hs.map i0) fun x hx=>by
   obtain⟨h,hm,rfl⟩:=cK.mp hx;obtain⟨L,O,_⟩:=W.held h hm;show(tst (CC d) (.cmp (.sub (.v 1) (.k (.int 0))) .ne (.sub (.v 1) (.k (.int 1)))) ((cy [none,none] (cw Γ pr hl v)).set 1 (some (i0 h))) σ).bind _=_
   rw[ch (x:=.ref h.1) (y:=.fl h.2) (aa:=σ) (ao:=σ) rfl rfl (Sw L O)];rfl]
  rfl
 exact bD (σ':=σ) (ch (c4 gT rfl) (y:=.int 0) (ao:=σ) rfl rfl)
noncomputable def td(Γ:eu)(pr hl:Nat)(σ:ac)(h:Nat×List H):Prop:=wC Γ pr hl h.1/\∃xs,σ[h.1]?=some (.lst xs)/\xs.length<=900000
theorem td.set{h:Nat×List H}{r:Nat}(q:td Γ pr hl σ h):td Γ pr hl (σ.set r (.lst [])) h:=by
 obtain⟨o,xs,O,ar⟩:=q;by_cases e:r=h.1
 ·subst e;exact⟨o,[],l2 O,Nat.zero_le _⟩
 ·exact⟨o,xs,cH e O,ar⟩
theorem LW{v:gz}{ws:List H}:∀(vs:List (Nat×List H)) (y:Option H) (σ:ac),(∀w∈vs,td Γ pr hl σ w)->eG Γ B σ->σ[hl]?=some (.lst ws) ->
  ∃a3 σ',ct (some (hl,.lst ws)) (dH 15) (fun ρ σ=>ex (CC d) topN Fu ρ σ) (vs.map i0) ((cw Γ pr hl v).set 15 y) σ=.next ((cw Γ pr hl v).set 15 a3) σ'/\eG Γ B σ':=by
 intro vs
 induction vs with
 | nil=>intro y σ _ S hw;exact⟨y,σ,oI (w:=some (hl,.lst ws)) hw,S⟩
 | cons w vs ag =>
  intro y σ hv S hw;obtain⟨o,xs,O,ar⟩:=hv w bi;obtain⟨a3,σ',e,wG⟩:=ag (some (i0 w)) (σ.set w.1 (.lst [])) (fun b2 l9=>(hv b2 (bI _ l9)).set) ⟨S.bo.other o.ap,cH o.t S.tk,cH o.g S.gl,S.ok,S.gk⟩ (cH o.h hw)
  have cl:ev (CC d) (.me0 .clear (.sub (.v 15) (.k (.int 0)))) ((cw Γ pr hl v).set 15 (some (i0 w))) σ=.ok .none (σ.set w.1 (.lst [])):=by
   rw[C1];show jX .clear (.ref w.1) σ=_;unfold jX;dsimp only;rw[O];dsimp only;exact az (aF ar (by decide))
  exact⟨a3,σ',(oH (w:=some (hl,.lst ws)) hw (bQ:=(cw Γ pr hl v).set 15 (some (i0 w))) rfl ((al (a:=Fv) (gb cl)).trans bU)).trans e,wG⟩
theorem MA{v:gz}(ax:fZ Γ)(hc:c<1000)(W:eH Γ pr hl B bl hs c σ):∃ρ' σ',ex (CC (d+4)) topN #v[uC,uD,uB] (cw Γ pr hl v) σ=.ret (.bool true) ρ' σ':=by
 have s8:σ[hl]?=some (.lst (hs.map i0)):=W.hd
 obtain⟨y,bq,e,n0⟩:=LW (d:=d+4) (v:=v) hs none σ (fun v hv=>by
  obtain⟨L,O,ar⟩:=W.held v hv
  exact⟨ar,_,O,L.len⟩) W.sim s8
 have AN:ex (CC (d+4)) topN uD (cw Γ pr hl v) σ=.next ((cw Γ pr hl v).set 15 y) bq:=by
  show(evIt (CC (d+4)) (.v 7) (cw Γ pr hl v) σ).toS _ _=_;rw[vj (r:=hl) rfl rfl s8];exact e
 obtain⟨τ,lk⟩:=HJ (d:=d) (b:=1) ax n0 (aF W.sz.os (aF (hH hc) (by decide)));exact⟨_,_,(al (MB W)).trans ((al AN).trans (bn (a:=uB) (di (ol (vs:=[.inst aT Γ.X.i,bk Γ.p,.ref Γ.tk,.ref Γ.gl,.int (Γ.n:Nat),.int 1]) rfl lk))))⟩
end
theorem jH.lt{X:dZ}{j:Nat}(l:X.Lt)(h:j<X.i):jH X j:=by
 have g:=dw h l.a;have o:=dw g l.b;have aO:=dw o l.c;have gn:=dw aO l.d;exact⟨fE h,fE g,fE o,fE aO,fE gn,fE (dw gn l.e)⟩
theorem UD{l:List Int}{a b:Option Int}:dE (l.map H.int) a b=(dE l a b).map H.int:=by
 unfold dE;rw[bc,List.map_take,List.map_drop]
theorem UE{α:Type}(xs:List α)(a b:Option Int):(dE xs a b).length<=xs.length:=by
 unfold dE;exact aF (List.length_take_le' _ _) (by rw[List.length_drop];exact Nat.sub_le _ _)
noncomputable def ji(l:List Int)(p:List aq)(a b c e f:Option H):aE:=some (.fl (l.map .int))::some (bk p)::a::b::c::e::f::List.replicate 22 none
theorem Uh{Γ:eu}{pr hl:Nat}{bl:List ew}{σ:ac}(ax:fZ Γ)(W:eH Γ pr hl ⟨[],[],[]⟩ bl [] 0 σ):∃ρ' σ',ex (CC 19) topN #v[yr,uC,uD,uB] (cw Γ pr hl ⟨none,none,none,none,none,none,none⟩) σ=.ret (.bool true) ρ' σ':=by
 have cl:(dE Γ.l (some 20) (some 80)).length<=63:=aF (UE _ _ _) ax.hl
 have cq:ev (CC 19) (.slice (.v 0) (.k (.int 20)) (.k (.int 80))) (cw Γ pr hl ⟨none,none,none,none,none,none,none⟩) σ=.ok (.fl ((dE Γ.l (some 20) (some 80)).map .int)) σ:=
  CJ (x:=.fl (Γ.l.map .int)) (y:=.int 20) (z:=.int 80) (aa:=σ) (ao:=σ) (gJ:=σ) rfl rfl rfl ((Uz (a:=some 20) (b:=some 80) rfl rfl (by rw[bc];exact aF ax.hl (by decide))).trans (by rw[UD]))
 generalize dE Γ.l (some 20) (some 80)=eU at cl cq;obtain⟨b2,mD,Aw,d6,σ',e,qY,h'⟩:=T4 (d:=13) (pr:=pr) (hl:=hl) ax eU 0 ⟨[],[],[]⟩ bl [] 0 σ ⟨none,none,none,none,none,none,none⟩ (by rw[Nat.zero_add];exact aF cl (by decide)) (aF (Nat.add_le_add_left (Nat.mul_le_mul_left 2 cl) _) (by decide)) W
 have AM:ex (CC 19) topN yr (cw Γ pr hl ⟨none,none,none,none,none,none,none⟩) σ=.next (cw Γ pr hl b2) σ':=by
  show(evIt (CC 19) (.enum (.slice (.v 0) (.k (.int 20)) (.k (.int 80)))) (cw Γ pr hl ⟨none,none,none,none,none,none,none⟩) σ).toS _ _=_;rw[CX,cq];show(lX (.fl (eU.map .int)) σ).toS _ _=_;rw[show lX (.fl (eU.map .int)) σ=.ok (jv 0 (eU.map .int),none) σ from az (by rw[bc];exact aF cl (by decide))];exact e
 obtain⟨ρ',ht,aj⟩:=MA (d:=15) (v:=b2) ax (hF (Nat.add_le_add_left cl 0) (by decide)) qY;exact⟨ρ',ht,(al AM).trans aj⟩
theorem runX{l:List Int}(hl:l.length<=63):∃σ,bz PP topN 20 P8 [.fl (l.map .int)] []=.ok (.bool true) σ:=by
 obtain⟨p,bq,hp,_,Lv⟩:=NU (d:=16) hl;have hpl:∀s∈p,qW s:=fun J J=>trivial;have gH:=eI (l.getD 11 0) (show(6:Int)≠0 by decide);have n1:=fA (l.getD 11 0) (show(0:Int)<6 by decide);obtain⟨n,Pm⟩:=iN (show 0<=1+l.getD 11 0%6 by grind)
 have hn1:1<=n:=by grind
 have hn:n<=6:=by grind
 obtain⟨bl,By,tK,Tw,Tv⟩:=Re (d:=17) (at_:=12) (σ:=bq) hp hl hn1 hn;rw[cx (d:=19) (fn:=DN) rfl rfl]
 have bt:ex (CC 19) topN Fe (some (.fl (l.map .int))::List.replicate 28 none) []=.next (ji l p none none none none none) bq:=bR (hJ (x:=.fl (l.map .int)) (y:=.int 0) (aa:=[]) (ao:=[]) rfl rfl Lv)
 have V:ex (CC 19) topN Ff (ji l p none none none none none) bq=.next (ji l p (some (.int (n:Nat))) none none none none) bq:=by
  exact Pm▸(bR (cz (x:=.int 1) (aa:=bq) rfl (cz (hJ (x:=.fl (l.map .int)) (y:=.int ((11:Nat):Int)) (aa:=bq) (ao:=bq) rfl rfl (uK (d:=18) hl)) (y:=.int 6) (ao:=bq) rfl (gq (by decide))) add_int))
 have aj:ex (CC 19) topN Fg (ji l p (some (.int (n:Nat))) none none none none) bq=.next (ji l p (some (.int (n:Nat))) (some (.ref bq.length)) none none none) (bq++.lst (bl.map b4)::By):=bR (ol (vs:=[.fl (l.map .int),.int ((12:Nat):Int),bk p,.int (n:Nat)]) rfl tK)
 have pl:(bq++.lst (bl.map b4)::By)[bq.length]?=some (.lst (bl.map b4)):=gS;generalize bq++.lst (bl.map b4)::By=bZ at aj pl;generalize bq.length=pr at aj pl;have IX:pr<bZ.length:=(dU pl).1;obtain⟨cU,g,o,hr,gn,od,P9,rh,_,_,_,sr,g1,g2⟩:=Qj (d:=14) (σ:=bZ) hp hn1 (aF hn (by decide))
 have bF:ex (CC 19) topN Fh (ji l p (some (.int (n:Nat))) (some (.ref pr)) none none none) bZ=.next (ji l p (some (.int (n:Nat))) (some (.ref pr)) (some (.inst aT bZ.length)) none none) (bZ++cU):=by
  refine bR ?_;have Qa:(CC 19).call zz (.inst aT bZ.length::[bk p,.int n]) (bZ++[.ns []])=.ok .none (bZ++cU):=P9;rw[C4,show evs (CC 19) #v[(.v 1),(.v 2)] (ji l p (some (.int (n:Nat))) (some (.ref pr)) none none none) bZ=.ok [bk p,.int (n:Nat)] bZ from rfl,b0];unfold ml;rw[Qa];rfl
 have bo:dh p n [] [] [] ⟨bZ.length,g,o,hr,gn,od⟩ (bZ++cU):=⟨rh.ns,rh.gv,rh.ot,rh.hr,g1,g2,⟨sr.1,sr.2.1,sr.2.2.1,sr.2.2.2.1,sr.2.2.2.2⟩⟩;have Aq:(bZ++cU)[pr]?=some (.lst (bl.map b4)):=fO pl;generalize bZ++cU=dy at bF bo Aq;generalize Oj:(⟨bZ.length,g,o,hr,gn,od⟩:dZ)=X at bo
 have hi:bZ.length=X.i:=by rw[<- Oj]
 rw[hi]at bF IX;have Ag:X.od<dy.length:=(dU bo.od).1
 have kt:ex (CC 19) topN Fi (ji l p (some (.int (n:Nat))) (some (.ref pr)) (some (.inst aT X.i)) none none) dy=.next (ji l p (some (.int (n:Nat))) (some (.ref pr)) (some (.inst aT X.i)) (some (.ref dy.length)) none) (dy++[.dp []]):=rfl
 have zQ:(dy++[aS.dp []]).length=dy.length+1:=da
 have h4:ex (CC 19) topN Fj (ji l p (some (.int (n:Nat))) (some (.ref pr)) (some (.inst aT X.i)) (some (.ref dy.length)) none) (dy++[.dp []])=.next (ji l p (some (.int (n:Nat))) (some (.ref pr)) (some (.inst aT X.i)) (some (.ref dy.length)) (some (.ref (dy.length+1)))) (dy++[.dp []]++[.lst []]):=by
  rw[<- zQ];rfl
 have HH:(dy++[aS.dp []]++[aS.lst []]).length=dy.length+2:=by rw[da,zQ];rfl
 have oa:ex (CC 19) topN Fk (ji l p (some (.int (n:Nat))) (some (.ref pr)) (some (.inst aT X.i)) (some (.ref dy.length)) (some (.ref (dy.length+1)))) (dy++[.dp []]++[.lst []])=.next (cw ⟨p,n,X,dy.length,dy.length+1,l⟩ pr (dy.length+2) ⟨none,none,none,none,none,none,none⟩) (dy++[.dp []]++[.lst []]++[.lst []]):=by
  rw[<- HH];rfl
 have ax:fZ ⟨p,n,X,dy.length,dy.length+1,l⟩:=⟨hp,hpl,hl,hn1,hn⟩;have Av:pr<dy.length:=(dU Aq).1;have ay:jH X (dy.length+1):=.gt bo.lt (k7 Ag)
 have W:eH ⟨p,n,X,dy.length,dy.length+1,l⟩ pr (dy.length+2) ⟨[],[],[]⟩ bl [] 0 (dy++[.dp []]++[.lst []]++[.lst []]):=
  ⟨⟨bo.more.more.more,fO (fO gS),fO (show(dy++[aS.dp []]++[aS.lst []])[dy.length+1]?=some (.lst []) by rw[<- zQ];exact gS),fun J J h=>(nomatch h),⟨List.nodup_nil,fun J h=>(nomatch h),rfl⟩⟩,fO (fO (fO Aq)),(by rw[<- HH];exact gS),fun J h=>(nomatch h),⟨.gt bo.lt Ag,ay,fE (Nat.lt_succ_self _)⟩,.lt bo.lt IX,fE Av,fE (k7 Av),.gt bo.lt (k7 (k7 Ag)),cS (k7 (Nat.lt_succ_self _)),cS (Nat.lt_succ_self _),cS (k7 (k7 Av)),Tw,fun J J=>rfl,Tv,⟨Nat.zero_le _,Nat.zero_le _,Nat.zero_le _⟩⟩
 obtain⟨ρ',σ',oc⟩:=Uh ax W;exact⟨σ',(congrArg a5 ((al bt).trans ((al V).trans ((al aj).trans ((al bF).trans ((al kt).trans ((al h4).trans ((al oa).trans oc)))))))).trans rfl⟩
end Mine
namespace Mine
open PySem PySem.W PyProof.Rows
set_option tactic.hygienic true
noncomputable abbrev vn(w:World)(os:OsState):Option Shared:=sm PySem.Challenge.pw_uf020019_04 w os topN
set_option maxRecDepth 1000000 in
set_option maxHeartbeats 80000000 in
theorem Rg:∀w os,(vn w os).map (fun s=>(PySem.W.Fast.tw4187177175401517315 (viewOf PySem.Challenge.pw_uf020019_04) [] (importedModules PySem.Challenge.pw_uf020019_04.main.body) (fun s=>xlAt (viewOf PySem.Challenge.pw_uf020019_04) [] s&&recOk (RowW.records (OpenRow.toRowW PySem.Challenge.rw_uf020019_04.row)) s) true s))=some (openGood (viewOf PySem.Challenge.pw_uf020019_04) []):=fun w os=>by kernel_rfl
set_option maxRecDepth 1000000 in
set_option maxHeartbeats 80000000 in
theorem Rh:∀w os,(vn w os).map (fun s=>(s1 s.heap (iV s.heap) TT,rn (iV s.heap) TT.cst,rj (iV s.heap) TT.bins))=some (true,true,true):=fun w os=>by kernel_rfl
set_option maxRecDepth 1000000 in
set_option maxHeartbeats 80000000 in
theorem Ri:∀w os,(vn w os).map (uI TT (List.take 26))=some (some (PP.fns.take 26)):=fun w os=>by kernel_rfl
set_option maxRecDepth 1000000 in
set_option maxHeartbeats 80000000 in
theorem Rj:∀w os,(vn w os).map (uI TT (List.drop 26))=some (some (PP.fns.drop 26)):=fun w os=>by kernel_rfl
theorem T8{α β γ δ ε:Type}{o:Option α}{f:α->β}{a:α->γ}{b:α->δ}{c:α->ε}{ζ:Type}{e:α->ζ}{x:β}{y:γ×δ×ε}{z:ζ}(L:o.map f=some x)(O:o.map (fun s=>(a s,b s,c s))=some y)(ar:o.map e=some z):o.map (fun s=>(f s,a s,b s,c s,e s))=some (x,y.1,y.2.1,y.2.2,z):=by
 cases o with
 | none=>exact nomatch L
 | some s =>
  obtain rfl:=oi L;obtain rfl:=oi O;obtain rfl:=oi ar;rfl
theorem Rl:∀w os,(sm PySem.Challenge.pw_uf020019_04 w os topN).map (fun s=>(PySem.W.Fast.tw4187177175401517315 (viewOf PySem.Challenge.pw_uf020019_04) [] (importedModules PySem.Challenge.pw_uf020019_04.main.body) (fun s=>xlAt (viewOf PySem.Challenge.pw_uf020019_04) [] s&&recOk (RowW.records (OpenRow.toRowW PySem.Challenge.rw_uf020019_04.row)) s) true s,Hook.obs (topHook TT 40 30 PP.fns) s))=some (openGood (viewOf PySem.Challenge.pw_uf020019_04) [],Hook.val (topHook TT 40 30 PP.fns) w):=fun w os =>
 T8 (Rg w os) (Rh w os) ((Nm (Ri w os) (Rj w os)).trans (congrArg (fun l=>some (some l)) (List.take_append_drop 26 PP.fns)))
theorem leftX:LeftO PySem.Challenge.pw_uf020019_04 (viewOf PySem.Challenge.pw_uf020019_04) [] (fun s=>xlAt (viewOf PySem.Challenge.pw_uf020019_04) [] s&&recOk (RowW.records (OpenRow.toRowW PySem.Challenge.rw_uf020019_04.row)) s) (Hook.obs (topHook TT 40 30 PP.fns)) (Hook.val (topHook TT 40 30 PP.fns)) topN:=
 Rm (by kernel_rfl) (by rfl) (fun s=>by kernel_rfl) Rl
end Mine
set_option tactic.hygienic true
open PySem PySem.W PyProof.Rows
set_option maxRecDepth 100000 in
set_option maxHeartbeats 8000000 in
theorem PySem.Challenge.cw_uf020019_04_holds : PySem.Challenge.rw_uf020019_04.Holds := by
 w_on
 refine holds_law (by decide +kernel) fun said=>?_
 refine holds_open (q:=Mine.viewOf PySem.Challenge.pw_uf020019_04) (loose:=[]) (Xt:=fun s=>xlAt (Mine.viewOf PySem.Challenge.pw_uf020019_04) [] s&&recOk (RowW.records (OpenRow.toRowW PySem.Challenge.rw_uf020019_04.row)) s)
  (XP:=XL (Mine.viewOf PySem.Challenge.pw_uf020019_04) []) (Yf:=Hook.obs (Mine.topHook Mine.TT 40 30 Mine.PP.fns)) (Ya:=Hook.val (Mine.topHook Mine.TT 40 30 Mine.PP.fns)) (YP:=Hook.says (Mine.topHook Mine.TT 40 30 Mine.PP.fns)) (N:=Mine.topN)
  Mine.leftX (Hook.of (Mine.topHook Mine.TT 40 30 Mine.PP.fns)) (Hook.keeps (Mine.topHook Mine.TT 40 30 Mine.PP.fns)) (fun s e=>xl_of s (Bool.and_eq_true_iff.mp e).1) XL.keeps (by rfl) (by rfl) (by rfl) (fun s e=>recFacts_of (Bool.and_eq_true_iff.mp e).2)
  (by rfl) (by first | assumption | decide +kernel) (by decide +kernel) ⟨rfl,rfl,rfl,rfl,rfl,by decide +kernel⟩ ?hw ?hc
 (case hw=>w_witness2)
 intro w s₀ s₁ mg mb G Y fa o pm cd doc dV kV ho hd hcd hD hmg hg args vals as hpre hlay hrd hwl hlo
 obtain⟨K,h₀,KX,k₀,k0,k1,k2,k3⟩:=Mine.Says.ex Y
 refine Ground.open G ?_
 intro T B D TE TW
 clear hd hcd hD ho TE TW D B Y
 have hmg':mg (PySem.Str.ofString "law")=some (.ref fa):=hmg
 clear hmg
 wrow_args hpre hlay hrd hwl hlo
 rename_i xs q1 q2 q3 q4 q5 q6 q7 a q8 q9 q10 q11 W q12 q13 q14 hc q15
 obtain⟨σ,hrun⟩:=Mine.runX (l:=xs) (by omega)
 have p:Mine.PrgOk ⟨⟨s₁.heap,[],PySem.Challenge.rw_uf020019_04.row.prog,w⟩,mg,mb,Mine.TT.repl,false⟩ Mine.TT Mine.PP:=
  Mine.prgOk (n1:=40) (n2:=30) (topRead_of T) KX k₀ k0 k1 k2 k3 fun q=>q
 refine Mine.law_end p (f:=35) rfl hmg' (by decide) rfl W hrun fun s' hk ho hg'=>?_
 refine GoodW.toG ⟨.inl ⟨_,_,[],rfl,fun cls=>rfl,.bool true,?_,fun _=>⟨List.nodup_nil,fun a h=>by simp at h⟩⟩,hk,ho,hg'.trans hg⟩
 first | rfl | wrow_post
