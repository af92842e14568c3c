import PyProof.Rows.All
import Wide.All
import OpenK.AllK
import PySem.Challenge.RW_uf020019_08
set_option autoImplicit false
set_option backward.match.sparseCases false
set_option linter.all false
set_option Elab.async false
set_option genInjectivity false
set_option genSizeOf false
set_option bootstrap.genMatcherCode false
set_option tactic.hygienic false
local macro_rules
 | `(#v[])=>`(.nil)
 | `(#v[$x])=>`(.cons $x .nil)
 | `(#v[$x,$xs,*])=>`(.cons $x #v[$xs,*])
namespace Mine
open PySem
variable {n i c d r tk n2 j n1 gn od gl hl:Nat}{x g mn:Str}{y u:Value}{bE bS P du eX hT:Prop}{o:Obj}{fr own:List Addr}{h' h h₀:Heap}{b a D I z TI bP bL ck aB:Addr}{a9 q eb en:Bool}{ks:List (Option Expr)}{t:Int}{cF:List (Option Nat)}{elt e value aF target:Expr}{args ifs cB:List Expr}{lo:Option Int}{s s₁ s' s₀:Shared}{A:Around}{pos hU apos pp nA:Pos}{vs us:List Value}{E Q:Value->Shared->Prop}{l:List Int}{G cb bj cw:List Str}{env:Env}{scope:Scope}{cells:List (Str×Addr)}{N:List (Str×NameKind)}{gu:CmpOp}{eo:List Nat}{body dU:List Stmt}{i0:Str->Option NameKind}{fd:FuncData}{life:Life}
def bi:=@List.mem_cons_self
def aM:=@wpAny_bind
def be:=@List.length_map
def aD:=@if_pos
def c3:=@Heap.get?_push_of_some
def dI:=@List.getElem?_eq_getElem
def cW:=@List.length_append
def b5:=@List.mem_cons
def de:=@List.mem_singleton
def aY:=@if_neg
def bJ:=@wpAny_pure
def ci:=@List.mem_map
def d7:=@List.mem_append_right
def d2:=@List.mem_of_getElem?
def dy:=@List.length_cons
def dt:=@List.mem_append
def d3:=@Int.natCast_nonneg
def ef:=@Heap.get?_push_size
def cr:=@wpAny_mono
def dz:=@decide_eq_true
def c7:=@Nat.ne_of_gt
def hE:=@List.eq_nil_of_length_eq_zero
def dD:=@List.map_cons
def et:=@List.not_mem_nil
def eB:=@Bool.and_eq_true
def eY:=@List.append_assoc
def eu:=@List.map_append
def h4:=@List.getElem?_append_right
def fc:=@List.size_toArray
def dA:=@Nat.le_refl
def fU:=@Int.emod_lt_of_pos
def iA:=@List.getElem?_append_left
def eZ:=@Int.emod_nonneg
def fH:=@List.getElem?_map
def gW:=@List.mem_append_left
def fI:=@List.all_eq_true
def fx:=@decide_eq_false
def ew:=@Int.ofNat_lt
def dc:=@Eq.trans
def eD:=@Nat.lt_trans
def gX:=@Nat.lt_of_le_of_lt
def gC:=@List.nodup_append
def gc:=@Nat.le_add_right
def hF:=@Nat.lt_of_lt_of_le
def e0:=@Heap.lt_size
def hG:=@of_decide_eq_true
def gY:=@List.isEmpty_iff
def gZ:=@List.nodup_cons
def kP:=@List.getD_eq_getElem?_getD
def kc:=@Int.eq_ofNat_of_zero_le
def fV:=@List.map_map
def ff:=@beq_iff_eq
def iN:=@decide_eq_true_eq
def gD:=@Nat.zero_add
def hH:=@wpAny_holding
def iO:=@List.foldl_cons
def gE:=@wpAny_field
def kQ:=@List.range_eq_range'
def kd:=@wpAny_Call_Name_kw
def h5:=@Nat.ne_of_lt
def h6:=@Nat.le_of_lt
def kR:=@beq_eq_false_iff_ne
def jL:=@List.find?_cons
def n3:=@Option.isNone_iff_eq_none
def kS:=@List.flatMap_cons
def kT:=@Int.toNat_natCast
def mM:=@List.contains_iff_mem
theorem oi{α:Type _}{a b:α}(h:some a=some b):a=b:=Option.some.inj h
theorem aH{m k:Nat}(h:n<=m)(O:m<=k):n<=k:=Nat.le_trans h O
theorem bM{α:Type _}{a:α}(y:α){l:List α}(h:a∈l):a∈y::l:=List.mem_cons_of_mem y h
theorem df{x y:Bool}(h:(x&&y)=true):x=true/\y=true:=Bool.and_eq_true_iff.mp h
theorem dX{α:Type _}{l:List α}{a:α}(h:l[i]?=some a):∃h:i<l.length,l[i]=a:=List.getElem?_eq_some_iff.mp h
universe hX ja j4 qM W8 W9 Xa Ze
theorem aS(h:bE/\bS)(k:bE->bS->P):P:=by
 obtain⟨L,O⟩:=h;exact k L O
theorem dN(h:bE/\bS/\du)(k:bE->bS->du->P):P:=by
 obtain⟨L,O,aw⟩:=h;exact k L O aw
theorem xu(h:bE/\bS/\du/\eX/\hT)(k:bE->bS->du->eX->hT->P):P:=by
 obtain⟨L,O,aw,aQ,c5⟩:=h;exact k L O aw aQ c5
theorem tR{nl:Prop}(h:bE/\bS/\du/\eX/\hT/\nl)(k:bE->bS->du->eX->hT->nl->P):P:=by
 obtain⟨L,O,aw,aQ,c5,gh⟩:=h;exact k L O aw aQ c5 gh
theorem Nb{nl:Prop}{sC:Prop}{sD:Prop}(h:bE/\bS/\du/\eX/\hT/\nl/\sC/\sD)(k:bE->bS->du->eX->hT->nl->sC->sD->P):P:=by
 obtain⟨L,O,aw,aQ,c5,gh,rH,rI⟩:=h;exact k L O aw aQ c5 gh rH rI
theorem aL{bT:Sort hX}{bE:bT->Prop}(h:∃aA,bE aA)(k:∀aA,bE aA->P):P:=by
 obtain⟨aA,L⟩:=h;exact k aA L
theorem ay{bT:Sort hX}{bE:bT->Prop}{bS:bT->Prop}(h:∃aA,bE aA/\bS aA)(k:∀aA,bE aA->bS aA->P):P:=by
 obtain⟨aA,L,O⟩:=h;exact k aA L O
theorem bu{bT:Sort hX}{bE:bT->Prop}{bS:bT->Prop}{du:bT->Prop}(h:∃aA,bE aA/\bS aA/\du aA)(k:∀aA,bE aA->bS aA->du aA->P):P:=by
 obtain⟨aA,L,O,aw⟩:=h;exact k aA L O aw
theorem om{bT:Sort hX}{bE:bT->Prop}{bS:bT->Prop}{du:bT->Prop}{eX:bT->Prop}(h:∃aA,bE aA/\bS aA/\du aA/\eX aA)(k:∀aA,bE aA->bS aA->du aA->eX aA->P):P:=by
 obtain⟨aA,L,O,aw,aQ⟩:=h;exact k aA L O aw aQ
theorem Nc{bT:Sort hX}{bE:bT->Prop}{bS:bT->Prop}{du:bT->Prop}{eX:bT->Prop}{hT:bT->Prop}(h:∃aA,bE aA/\bS aA/\du aA/\eX aA/\hT aA)(k:∀aA,bE aA->bS aA->du aA->eX aA->hT aA->P):P:=by
 obtain⟨aA,L,O,aw,aQ,c5⟩:=h;exact k aA L O aw aQ c5
theorem jm{bT:Sort hX}{cQ:Sort ja}{bE:bT->cQ->Prop}(h:∃aA,∃aT,bE aA aT)(k:∀aA,∀aT,bE aA aT->P):P:=by
 obtain⟨aA,aT,L⟩:=h;exact k aA aT L
theorem cJ{bT:Sort hX}{cQ:Sort ja}{bE:bT->cQ->Prop}{bS:bT->cQ->Prop}(h:∃aA,∃aT,bE aA aT/\bS aA aT)(k:∀aA,∀aT,bE aA aT->bS aA aT->P):P:=by
 obtain⟨aA,aT,L,O⟩:=h;exact k aA aT L O
theorem jn{bT:Sort hX}{cQ:Sort ja}{bE:bT->cQ->Prop}{bS:bT->cQ->Prop}{du:bT->cQ->Prop}(h:∃aA,∃aT,bE aA aT/\bS aA aT/\du aA aT)(k:∀aA,∀aT,bE aA aT->bS aA aT->du aA aT->P):P:=by
 obtain⟨aA,aT,L,O,aw⟩:=h;exact k aA aT L O aw
theorem xv{bT:Sort hX}{cQ:Sort ja}{bE:bT->cQ->Prop}{bS:bT->cQ->Prop}{du:bT->cQ->Prop}{eX:bT->cQ->Prop}(h:∃aA,∃aT,bE aA aT/\bS aA aT/\du aA aT/\eX aA aT)(k:∀aA,∀aT,bE aA aT->bS aA aT->du aA aT->eX aA aT->P):P:=by
 obtain⟨aA,aT,L,O,aw,aQ⟩:=h;exact k aA aT L O aw aQ
theorem rs{bT:Sort hX}{cQ:Sort ja}{dT:Sort j4}{bE:bT->cQ->dT->Prop}(h:∃aA,∃aT,∃a8,bE aA aT a8)(k:∀aA,∀aT,∀a8,bE aA aT a8->P):P:=by
 obtain⟨aA,aT,a8,L⟩:=h;exact k aA aT a8 L
theorem jP{bT:Sort hX}{cQ:Sort ja}{dT:Sort j4}{bE:bT->cQ->dT->Prop}{bS:bT->cQ->dT->Prop}(h:∃aA,∃aT,∃a8,bE aA aT a8/\bS aA aT a8)(k:∀aA,∀aT,∀a8,bE aA aT a8->bS aA aT a8->P):P:=by
 obtain⟨aA,aT,a8,L,O⟩:=h;exact k aA aT a8 L O
theorem lM{bT:Sort hX}{cQ:Sort ja}{dT:Sort j4}{bE:bT->cQ->dT->Prop}{bS:bT->cQ->dT->Prop}{du:bT->cQ->dT->Prop}(h:∃aA,∃aT,∃a8,bE aA aT a8/\bS aA aT a8/\du aA aT a8)(k:∀aA,∀aT,∀a8,bE aA aT a8->bS aA aT a8->du aA aT a8->P):P:=by
 obtain⟨aA,aT,a8,L,O,aw⟩:=h;exact k aA aT a8 L O aw
theorem op{bT:Sort hX}{cQ:Sort ja}{dT:Sort j4}{bE:bT->cQ->dT->Prop}{bS:bT->cQ->dT->Prop}{du:bT->cQ->dT->Prop}{eX:bT->cQ->dT->Prop}(h:∃aA,∃aT,∃a8,bE aA aT a8/\bS aA aT a8/\du aA aT a8/\eX aA aT a8)(k:∀aA,∀aT,∀a8,bE aA aT a8->bS aA aT a8->du aA aT a8->eX aA aT a8->P):P:=by
 obtain⟨aA,aT,a8,L,O,aw,aQ⟩:=h;exact k aA aT a8 L O aw aQ
theorem rt{bT:Sort hX}{cQ:Sort ja}{dT:Sort j4}{bE:bT->cQ->dT->Prop}{bS:bT->cQ->dT->Prop}{du:bT->cQ->dT->Prop}{eX:bT->cQ->dT->Prop}{hT:bT->cQ->dT->Prop}(h:∃aA,∃aT,∃a8,bE aA aT a8/\bS aA aT a8/\du aA aT a8/\eX aA aT a8/\hT aA aT a8)(k:∀aA,∀aT,∀a8,bE aA aT a8->bS aA aT a8->du aA aT a8->eX aA aT a8->hT aA aT a8->P):P:=by
 obtain⟨aA,aT,a8,L,O,aw,aQ,c5⟩:=h;exact k aA aT a8 L O aw aQ c5
theorem xw{bT:Sort hX}{cQ:Sort ja}{dT:Sort j4}{jB:Sort qM}{bE:bT->cQ->dT->jB->Prop}{bS:bT->cQ->dT->jB->Prop}(h:∃aA,∃aT,∃a8,∃dH,bE aA aT a8 dH/\bS aA aT a8 dH)(k:∀aA,∀aT,∀a8,∀dH,bE aA aT a8 dH->bS aA aT a8 dH->P):P:=by
 obtain⟨aA,aT,a8,dH,L,O⟩:=h;exact k aA aT a8 dH L O
theorem Nd{bT:Sort hX}{cQ:Sort ja}{dT:Sort j4}{jB:Sort qM}{bE:bT->cQ->dT->jB->Prop}{bS:bT->cQ->dT->jB->Prop}{du:bT->cQ->dT->jB->Prop}{eX:bT->cQ->dT->jB->Prop}{hT:bT->cQ->dT->jB->Prop}{nl:bT->cQ->dT->jB->Prop}{sC:bT->cQ->dT->jB->Prop}{sD:bT->cQ->dT->jB->Prop}(h:∃aA,∃aT,∃a8,∃dH,bE aA aT a8 dH/\bS aA aT a8 dH/\du aA aT a8 dH/\eX aA aT a8 dH/\hT aA aT a8 dH/\nl aA aT a8 dH/\sC aA aT a8 dH/\sD aA aT a8 dH)(k:∀aA,∀aT,∀a8,∀dH,bE aA aT a8 dH->bS aA aT a8 dH->du aA aT a8 dH->eX aA aT a8 dH->hT aA aT a8 dH->nl aA aT a8 dH->sC aA aT a8 dH->sD aA aT a8 dH->P):P:=by
 obtain⟨aA,aT,a8,dH,L,O,aw,aQ,c5,gh,rH,rI⟩:=h;exact k aA aT a8 dH L O aw aQ c5 gh rH rI
theorem Dg{bT:Sort hX}{cQ:Sort ja}{dT:Sort j4}{jB:Sort qM}{XU:Sort W8}{XV:Sort W9}{XW:Sort Xa}{bE:bT->cQ->dT->jB->XU->XV->XW->Prop}(h:∃aA,∃aT,∃a8,∃dH,∃mL,∃rd,∃rf,bE aA aT a8 dH mL rd rf)(k:∀aA,∀aT,∀a8,∀dH,∀mL,∀rd,∀rf,bE aA aT a8 dH mL rd rf->P):P:=by
 obtain⟨aA,aT,a8,dH,mL,rd,rf,L⟩:=h;exact k aA aT a8 dH mL rd rf L
section
open Classical
inductive H where
 | none | bool (b:Bool) | int (i:Int) | str (s:Str)
 | tup (xs:List H) | fl (xs:List H) | ref (i:Nat)
 | exc (c:Nat)
 | inst (c i:Nat)
inductive aW where
 | lst (xs:List H)
 | ds (es:List (Str×H))
 | dp (es:List ((Str×Int)×H))
 | ns (fs:List (Str×H))
 | tp
 | no
noncomputable abbrev aa:=List aW
noncomputable abbrev az:=List (Option H)
inductive ah(α:Type) where
 | ok (a:α) (σ:aa)
 | exc (i:Nat) (σ:aa)
 | stuck
noncomputable def ah.bind{α β:Type}:ah α->(α->aa->ah β)->ah β
 | .ok a σ,f=>f a σ
 | .exc i σ,_=>.exc i σ
 | .stuck,_=>.stuck
noncomputable def ah.ofOpt{α:Type}:Option α->aa->ah α
 | some a,σ=>.ok a σ
 | none,_=>.stuck
inductive mD where | add | sub | mul | mod | fdiv | pow
inductive iq where | eq | ne | lt | le | gt | ge | is | isNot | isin | notin
inductive jK where | int | str | bool | tuple
 | list
inductive eL where | len | list (a9:Bool) | tuple | all | int | str | lenset
 | sum
 | min | max
 | sorted
 | dict
inductive h2 where | append | extend
 | pop
 | get
inductive iu where
 | clear
inductive X where
 | nil | cons (a r:X)
 | k (v:H)
 | v (i:Nat)
 | and (xs:X) | or (xs:X) | not (a:X) | neg (a:X)
 | bin (o:mD) (a b:X)
 | cmp (a:X) (o:iq) (b:X)
 | cmp2 (a:X) (o:iq) (b:X) (bI:iq) (c:X)
 | lst (a9:Bool) (xs:X)
 | tup (xs:X)
 | fdget (ks:List Str) (vals:List H) (key dflt:X)
 | comp (a9:Bool) (t:Nat) (cF:List (Option Nat)) (elt:X) (cond:X) (it:X)
 | range1 (a:X)
 | call (f:Nat) (args:X)
 | b1 (b:eL) (a:X)
 | min2 (a b:X)
 | isinst (a:X) (t:jK)
 | isexc (a:X) (eo tN:List Nat)
 | me (m:h2) (o:X) (args:X)
 | me0 (m:iu) (o:X)
 | sub (o i:X)
 | slice (o lo hi:X)
 | enum (a:X)
 | zip (xs:X)
 | dnew (pk:Bool)
 | attr (c:Nat) (o:X) (n:Str)
 | meth (c f:Nat) (n:Str) (o args:X)
 | new (c f:Nat) (args:X)
noncomputable abbrev ae(n:Int):X:=.k (.int n)
noncomputable abbrev af(i:Int):Option H:=some (.int i)
noncomputable abbrev aR(i:Nat):Option H:=some (.ref i)
noncomputable abbrev a1(s:Str):Option H:=some (.str s)
noncomputable def aI:Nat:=1000000
noncomputable def b2(σ:aa):H->Option (List H)
 | .fl xs=>some xs
 | .ref i=>match σ[i]? with
  | some (.lst xs)=>some xs
  | _=>none
 | _=>none
noncomputable def el(σ:aa):H->Option (List H)
 | .fl xs=>some xs
 | .tup xs=>some xs
 | .ref i=>match σ[i]? with
  | some (.lst xs)=>some xs
  | _=>none
 | _=>none
noncomputable def v5(s:Str):List H:=s.cps.toList.map fun n=>.str ⟨#[n]⟩
noncomputable def items(σ:aa):H->Option (List H)
 | .str s=>some (v5 s)
 | .fl xs=>some xs
 | .tup xs=>some xs
 | .ref i=>match σ[i]? with
  | some (.lst xs)=>some xs
  | _=>none
 | _=>none
noncomputable def toD:Nat->aa->H->Option PyData
 | 0,_,_=>none
 | n+1,σ,.tup xs=>(xs.mapM (toD n σ)).map .tuple
 | n+1,σ,.fl xs=>(xs.mapM (toD n σ)).map .list
 | n+1,σ,.ref i=>match σ[i]? with
  | some (.lst xs)=>(xs.mapM (toD n σ)).map .list
  | _=>none
 | _+1,_,.none=>some .none
 | _+1,_,.bool b=>some (.bool b)
 | _+1,_,.int i=>some (.int i)
 | _+1,_,.str s=>some (.str s)
 | _+1,_,.exc _=>none
 | _+1,_,.inst _ _=>none
noncomputable def eqv(σ:aa)(a b:H):Option Bool:=
 match toD 16 σ a,toD 16 σ b with
 | some x,some y=>some (PyData.eqv x y)
 | _,_=>none
noncomputable def hQ(σ:aa)(x:H)(xs:List H):Option Bool:=
 match toD 16 σ x,xs.mapM (toD 16 σ)with
 | some d,some ds=>some (ds.any fun y=>PyData.eqv y d)
 | _,_=>none
noncomputable def aG{dx:Type}[DecidableEq dx](k:dx)(es:List (dx×H)):Option H:=(es.find? fun e=>decide (e.1=k)).map (·.2)
noncomputable def eg{dx:Type}[DecidableEq dx](k:dx)(v:H)(es:List (dx×H)):List (dx×H):=
 if(es.any fun e=>decide (e.1=k))then es.map (fun e=>if e.1=k then(e.1,v)else e)else es++[(k,v)]
noncomputable def IN:(p:H)->Option { k:Str×Int // p=.tup [.str k.1,.int k.2] }
 | .tup [.str x,.int i]=>some ⟨(x,i),rfl⟩
 | _=>none
noncomputable def g8(p:H):Option (Str×Int):=(IN p).map (·.1)
theorem Jz{α:Type}{a:α}(h:none=some a):P:=nomatch h
theorem qk{α:Type}{P:α->Prop}{o:Option { a // P a }}{a:α}(h:o.map (·.1)=some a):P a:=by
 cases o with
 | none=>exact nomatch h
 | some q=>obtain rfl:=oi h;exact q.2
noncomputable def i8(k:Str):List (Str×H)->Option H
 | []=>none
 | (x,v)::r=>if x=k then some v else i8 k r
noncomputable def fj(i:Int)(n:Nat):Option Nat:=
 if 0<=i then(if i.toNat<n then some i.toNat else none)
 else if 0<=i+n then some (i+n).toNat else none
noncomputable def gL(o:Obj):Prop:=∃es n,o.data=.dict es n
noncomputable def kb(o:Obj):Prop:=(∃xs n,o.data=.seq xs n)\/(∃C vs,o.cls=.ref C/\o.data=.fields vs)\/∃C,o.cls=.ref C/\o.data=.plain
theorem kb.seq{c:Value}{d:Option Addr}{xs:Array Value}{cu:Array (Option Value)}:kb { cls:=c,dict:=d,data:=.seq xs n,slots:=cu }:=.inl ⟨xs,n,rfl⟩
theorem gL.notSolid(d:gL o):¬kb o:=by
 refine jm d fun es n d=>?_
 rintro(⟨xs,m,e⟩ | ⟨C,vs,_,e⟩ | ⟨C,_,e⟩) <;> rw[d]at e <;> contradiction
noncomputable def jg(fr:List Addr)(h':Heap)(b:Addr)(o:Obj):Prop:=h'.get? b=some o\/(b∈fr/\gL o/\∃cu,h'.get? b=some { o with slots:=cu })
theorem jg.trans{hM:Heap}(x:jg fr h' b o)(y:∀aP,h'.get? b=some aP->jg fr hM b aP):jg fr hM b o:=by
 rcases x with x | ⟨f,d,cu,x⟩
 ·rcases y o x with y | ⟨f,d,cu,y⟩
  ·exact .inl y
  ·exact .inr ⟨f,d,cu,y⟩
 ·rcases y _ x with y | ⟨_,_,pb,y⟩
  ·exact .inr ⟨f,d,cu,y⟩
  ·exact .inr ⟨f,d,pb,y⟩
theorem jg.ns{m:Str->Option Value}(n:h.Ns b m)(e:h.get? b=some o)(x:jg fr h' b o):h'.Ns b m:=by
 refine jP n fun aP es d9 aE r=>?_;rw[e]at aE;obtain rfl:=oi aE
 rcases x with x | ⟨_,d,cu,x⟩
 ·exact⟨o,es,d9,x,r⟩
 ·exact⟨_,es,d9,x,r⟩
theorem jg.same(x:jg fr h' b o)(n:¬gL o):h'.get? b=some o:=by
 rcases x with x | ⟨_,d,_⟩
 ·exact x
 ·exact absurd d n
theorem jg.not(x:jg fr h' b o)(n:b∉fr):h'.get? b=some o:=by
 rcases x with x | ⟨f,_⟩
 ·exact x
 ·exact absurd f n
structure ax where
 ix:List Addr
 hid:List Addr
 fr:List Addr
noncomputable def ax.all(α:ax):List Addr:=α.ix++α.hid
inductive ai(h:Heap)(α:ax):H->Value->Prop where
 | none:ai h α .none .none
 | bool (b:Bool):ai h α (.bool b) (.bool b)
 | int (i:Int) (t:Tok):ai h α (.int i) (.int i t)
 | str (s:Str) (t:Tok):PyData.strOk s=true->ai h α (.str s) (.str s t)
 | tup {xs:List H} {a:Addr} {items:Array Value} {n:Nat}:h.get? a=some { cls:=.type "tuple",data:=.seq items n }->a∉α.all->xs.length=items.size ->
   (∀(i:Nat) (x:H) (v:Value),xs[i]?=some x->items[i]?=some v->ai h α x v)->ai h α (.tup xs) (.ref a)
 | fl {xs:List H} {a:Addr} {items:Array Value} {n:Nat}:h.get? a=some { cls:=.type "list",data:=.seq items n }->a∉α.all->xs.length=items.size ->
   (∀(i:Nat) (x:H) (v:Value),xs[i]?=some x->items[i]?=some v->ai h α x v)->ai h α (.fl xs) (.ref a)
 | ref {i:Nat} {a:Addr}:α.ix[i]?=some a->ai h α (.ref i) (.ref a)
 | exc {c:Nat} {a:Addr} {o:Obj} {vs:Array Value}:h.get? a=some o->o.cls=.ref c->o.data=.fields vs->a∉α.all->ai h α (.exc c) (.ref a)
 | inst {c i:Nat} {a D:Addr}:h.get? a=some { cls:=.ref c,dict:=some D,data:=.plain }->a∉α.all->α.ix[i]?=some D->ai h α (.inst c i) (.ref a)
structure a4(F:List Addr)(α:ax)(h:Heap)(α':ax)(h':Heap):Prop where
 hid:α'.hid=α.hid
 pre:∃β,α'.ix=α.ix++β/\∀x∈β,h.get? x=none/\x∉F
 seqs:∀b o,b∉α.ix->h.get? b=some o->kb o->h'.get? b=some o
 rest:∀b o,b∉α.ix->b∉F->h.get? b=some o->jg α.fr h' b o
 alive:∀b o,b∉F->h.get? b=some o->∃aP,h'.get? b=some aP
 fre:α'.fr=α.fr
theorem a4.refl{F α h}:a4 F α h α h:=
 ⟨rfl,⟨[],by simp,fun J hx=>(nomatch hx)⟩,fun J J J e J=>e,fun J J J J e=>.inl e,fun J o J e=>⟨o,e⟩,rfl⟩
theorem a4.keeps{F α h h'}(k:∀b o,h.get? b=some o->h'.get? b=some o):a4 F α h α h':=
 ⟨rfl,⟨[],by simp,fun J hx=>(nomatch hx)⟩,fun b o J e J=>k b o e,fun b o J J e=>.inl (k b o e),fun b o J e=>⟨o,k b o e⟩,rfl⟩
theorem a4.notMem{F α h α' h'}(x:a4 F α h α' h')(hb:b∉α.ix)(e:h.get? b=some o):b∉α'.ix:=by
 refine ay x.pre fun β q bc=>?_;rw[q];intro hm
 rcases dt.mp hm with q | q
 ·exact hb q
 ·rw[(bc b q).1]at e;contradiction
theorem ax.not_ix{α:ax}(h:b∉α.all):b∉α.ix:=fun q=>h (gW _ q)
theorem a4.notAll{F α h α' h'}(x:a4 F α h α' h')(hb:b∉α.all)(e:h.get? b=some o):b∉α'.all:=by
 intro hm
 rcases dt.mp hm with q | q
 ·exact x.notMem (ax.not_ix hb) e q
 ·rw[x.hid]at q;exact hb (d7 _ q)
theorem a4.mono{F nS α h α' h'}(x:a4 F α h α' h')(bQ:∀b∈F,b∈nS)(al:∀b∈nS,∃o,h.get? b=some o):a4 nS α h α' h':=by
 refine ay x.pre fun β e bc=>?_
 exact⟨x.hid,⟨β,e,fun y hy=>⟨(bc y hy).1,fun q=>by refine aL (al y q) fun o ho=>?_;rw[(bc y hy).1]at ho;cases ho⟩⟩,x.seqs,fun b o hb Pb e=>x.rest b o hb (fun q=>Pb (bQ b q)) e,
  fun b o hb e=>x.alive b o (fun q=>hb (bQ b q)) e,x.fre⟩
theorem a4.trans{F α h α' h' jA hM}(x:a4 F α h α' h')(y:a4 F α' h' jA hM):a4 F α h jA hM:=by
 refine ay x.pre fun β q1 bc=>?_;refine ay y.pre fun γ q2 hg=>?_;refine⟨y.hid.trans x.hid,⟨β++γ,by rw[q2,q1,eY],fun a ha=>?_⟩,fun b o hb e hs=>?_,fun b o hb bQ e=>?_,fun b o hb e=>?_,y.fre.trans x.fre⟩
 ·rcases dt.mp ha with q | q
  ·exact bc a q
  ·refine⟨?_,(hg a q).2⟩
   cases hq:h.get? a with
   | none=>rfl
   | some o =>
    refine aL (x.alive a o (hg a q).2 hq) fun aP rZ=>?_;rw[(hg a q).1]at rZ;contradiction
 ·exact y.seqs b o (x.notMem hb e) (x.seqs b o hb e hs) hs
 ·exact(x.rest b o hb bQ e).trans fun aP aE=>x.fre▸y.rest b aP (x.notMem hb e) bQ aE
 ·refine aL (x.alive b o hb e) fun aP aE=>?_;exact y.alive b aP hb aE
theorem a4.drop{F own α h α' h' jA hM}(x:a4 [] α h α' h')(hown:∀b∈own,h.get? b=none)(al:∀b∈F,∃o,h.get? b=some o)(y:a4 (own++F) α' h' jA hM):a4 F α h jA hM:=by
 refine ay x.pre fun β q1 bc=>?_;refine ay y.pre fun γ q2 hg=>?_
 have no:∀b o,h.get? b=some o->b∉own:=fun b o e q=>by rw[hown b q]at e;contradiction
 refine⟨y.hid.trans x.hid,⟨β++γ,by rw[q2,q1,eY],fun a ha=>?_⟩,fun b o hb e hs=>?_,fun b o hb bQ e=>?_,fun b o hb e=>?_,y.fre.trans x.fre⟩
 ·rcases dt.mp ha with q | q
  ·refine⟨(bc a q).1,fun A0=>?_⟩;refine aL (al a A0) fun o ho=>?_;rw[(bc a q).1]at ho;contradiction
  ·refine⟨?_,fun A0=>(hg a q).2 (d7 _ A0)⟩
   cases hq:h.get? a with
   | none=>rfl
   | some o =>
    obtain⟨aP,rZ⟩:=x.alive a o ((et)) hq;rw[(hg a q).1]at rZ;contradiction
 ·exact y.seqs b o (x.notMem hb e) (x.seqs b o hb e hs) hs
 ·exact(x.rest b o hb ((et)) e).trans fun aP aE=>x.fre▸y.rest b aP (x.notMem hb e) (fun q=>by
   rcases dt.mp q with q | q
   ·exact no b o e q
   ·exact bQ q) aE
 ·obtain⟨aP,aE⟩:=x.alive b o ((et)) e
  exact y.alive b aP (fun q=>by
   rcases dt.mp q with q | q
   ·exact no b o e q
   ·exact hb q) aE
theorem a4.get{F α h α' h'}(x:a4 F α h α' h')(e:α.ix[i]?=some a):α'.ix[i]?=some a:=by
 refine ay x.pre fun β q J=>?_;exact q.symm▸(iA (dX e).1).symm▸e
section
variable {α:ax}{v:Value}
theorem ai.noneE(r:ai h α .none v):v=.none:=by cases r;rfl
theorem ai.boolE{b:Bool}(r:ai h α (.bool b) v):v=.bool b:=by cases r;rfl
theorem ai.intE{i:Int}(r:ai h α (.int i) v):∃t,v=.int i t:=by cases r;exact⟨_,rfl⟩
theorem ai.strE(r:ai h α (.str x) v):∃t,v=.str x t/\PyData.strOk x=true:=by
 cases r with
 | str _ t h=>exact⟨_,rfl,h⟩
theorem ai.refE(r:ai h α (.ref i) v):∃a,v=.ref a/\α.ix[i]?=some a:=by
 cases r with
 | ref e=>exact⟨_,rfl,e⟩
end
theorem ai.ext{F α h α' h'}(x:a4 F α h α' h'){p:H}{v:Value}(r:ai h α p v):ai h' α' p v:=by
 induction r with
 | none=>exact .none
 | bool b=>exact .bool b
 | int i t=>exact .int i t
 | str s t hs=>exact .str s t hs
 | tup e hn hl _ aj=>exact .tup (x.seqs _ _ (ax.not_ix hn) e .seq) (x.notAll hn e) hl aj
 | fl e hn hl _ aj=>exact .fl (x.seqs _ _ (ax.not_ix hn) e .seq) (x.notAll hn e) hl aj
 | ref e=>exact .ref (x.get e)
 | exc e hc hd hn=>exact .exc (x.seqs _ _ (ax.not_ix hn) e (.inr (.inl ⟨_,_,hc,hd⟩))) hc hd (x.notAll hn e)
 | inst e hn hi=>exact .inst (x.seqs _ _ (ax.not_ix hn) e (.inr (.inr ⟨_,rfl,rfl⟩))) (x.notAll hn e) (x.get hi)
noncomputable def bh(h:Heap)(α:ax)(xs:List H)(vs:List Value):Prop:=
 xs.length=vs.length/\∀(i:Nat) (x:H) (v:Value),xs[i]?=some x->vs[i]?=some v->ai h α x v
theorem bh.nil{h α}:bh h α [] []:=⟨rfl,fun J J J e=>(nomatch e)⟩
theorem bh.cons{h α x xs v vs}(a:ai h α x v)(b:bh h α xs vs):bh h α (x::xs) (v::vs):=by
 refine⟨by simp[b.1],fun i y w V ak=>?_⟩
 cases i with
 | zero=>simp at V ak;subst V ak;exact a
 | succ i=>simp at V ak;exact b.2 i y w V ak
theorem bh.ext{F α h α' h'}(x:a4 F α h α' h'){p:List H}{v:List Value}(r:bh h α p v):bh h' α' p v:=
 ⟨r.1,fun i a b V ak=>(r.2 i a b V ak).ext x⟩
theorem bh.inv_cons{h α x xs vs}(r:bh h α (x::xs) vs):∃v wo,vs=v::wo/\ai h α x v/\bh h α xs wo:=by
 cases vs with
 | nil=>simp[bh]at r
 | cons v wo=>exact⟨v,wo,rfl,r.2 0 x v (by rfl) (by rfl),by have:=r.1;simp at this;exact this,fun i a b V ak=>r.2 (i+1) a b (by simpa using V) (by simpa using ak)⟩
theorem bh.append{h α xs vs ys ws}(a:bh h α xs vs)(b:bh h α ys ws):bh h α (xs++ys) (vs++ws):=by
 refine⟨by simp[a.1,b.1],fun i y w V ak=>?_⟩;by_cases hi:i<xs.length
 ·rw[iA hi]at V;rw[iA (a.1▸hi)]at ak;exact a.2 i y w V ak
 ·rw[h4 (by omega)]at V;rw[h4 (by rw[<- a.1];omega),<- a.1]at ak;exact b.2 _ y w V ak
theorem ai.tupI{α:ax}{xs:List H}{items:List Value}(e:h.get? a=some { cls:=.type "tuple",data:=.seq items.toArray n })(hn:a∉α.all)(r:bh h α xs items):ai h α (.tup xs) (.ref a):=
 .tup e hn (by simpa using r.1) fun i x v V ak=>r.2 i x v V (by simpa using ak)
theorem ai.flI{α:ax}{xs:List H}{items:List Value}(e:h.get? a=some { cls:=.type "list",data:=.seq items.toArray n })(hn:a∉α.all)(r:bh h α xs items):ai h α (.fl xs) (.ref a):=
 .fl e hn (by simpa using r.1) fun i x v V ak=>r.2 i x v V (by simpa using ak)
inductive SeqAt(T:String)(h:Heap)(α:ax)(xs:List H)(v:Value):Prop
 | mk (a:Addr) (items:List Value) (n:Nat) (e:v=.ref a) (a3:h.get? a=some { cls:=.type T,data:=.seq (List.toArray items) n }) (hn:a∉α.all) (vs:bh h α xs items):SeqAt T h α xs v
theorem ai.tupE{α:ax}{xs:List H}{v:Value}(r:ai h α (.tup xs) v):SeqAt "tuple" h α xs v:=by
 cases r with
 | tup e hn hl hr=>exact⟨_,_,_,rfl,by simpa using e,hn,by simpa using hl,fun i x v V ak=>hr i x v V (by simpa using ak)⟩
theorem ai.flE{α:ax}{xs:List H}{v:Value}(r:ai h α (.fl xs) v):SeqAt "list" h α xs v:=by
 cases r with
 | fl e hn hl hr=>exact⟨_,_,_,rfl,by simpa using e,hn,by simpa using hl,fun i x v V ak=>hr i x v V (by simpa using ak)⟩
structure bn where
 calls:Nat->Nat->List H->aa->ah H
 md:Nat
noncomputable abbrev bn.call(C:bn):Nat->List H->aa->ah H:=C.calls C.md
noncomputable def bn.hd(C:bn):Bool:=C.md != 0
noncomputable def bn.rz(C:bn):Bool:=Nat.ble C.md 1
noncomputable def bn.inH(C:bn):bn:=⟨C.calls,C.md+1⟩
noncomputable def hY(w:Option (Nat×aW))(σ:aa):Prop:=
 match w with
 | none=>True
 | some (i,m)=>σ[i]?=some m
noncomputable def xi:Option H->List H->List H
 | some v,ys=>v::ys
 | none,ys=>ys
noncomputable def dW(w:Option (Nat×aW))(f:H->aa->ah (Option H)):List H->aa->ah (List H)
 | [],σ=>if hY w σ then .ok [] σ else .stuck
 | x::xs,σ=>if hY w σ then(f x σ).bind fun y σ=>(dW w f xs σ).bind fun ys σ=>.ok (xi y ys) σ else .stuck
noncomputable def ib(n:Nat)(c:ah (List H))(f:List H->aa->ah H):ah H:=
 match c with
 | .ok ys σ=>f ys σ
 | _=>.stuck
noncomputable def nK(σ:aa):H->Option (Nat×aW)
 | .ref i=>match σ[i]? with
  | some (.lst xs)=>some (i,.lst xs)
  | _=>none
 | _=>none
noncomputable def eW(a9:Bool)(xs:List H)(σ:aa):ah H:=
 if xs.length<=aI then(if a9 then .ok (.fl xs) σ else .ok (.ref σ.length) (σ++[.lst xs]))else .stuck
noncomputable def dh(a c:Int)(n:Nat):List H:=(List.range n).map fun(i:Nat)=>.int (a+(i:Int)*c)
noncomputable def qo(a b:Int):Bool:=decide (a.natAbs<2 ^ 60\/b.natAbs<2 ^ 60)
noncomputable def rh(f:Int->Int->ah H)(a b:H):ah H:=
 match a with
 | .int x=>match b with
  | .int y=>f x y
  | _=>.stuck
 | _=>.stuck
noncomputable def wZ(a b:H)(σ:aa):ah H:=
 match a with
 | .int x=>match b with
  | .int y=>.ok (.int (x+y)) σ
  | _=>.stuck
 | .str x=>match b with
  | .str y=>if x.length+y.length<=aI then .ok (.str (x++y)) σ else .stuck
  | _=>.stuck
 | .tup x=>match b with
  | .tup y=>if x.length+y.length<=aI then .ok (.tup (x++y)) σ else .stuck
  | _=>.stuck
 | a=>match b2 σ a with
  | some x=>match b2 σ b with
   | some y=>if x.length+y.length<=aI then .ok (.fl (x++y)) σ else .stuck
   | none=>.stuck
  | none=>.stuck
noncomputable def Jm(a b:H)(σ:aa):ah H:=
 match b with
 | .int y=>match a with
  | .int x=>if qo x y then .ok (.int (x*y)) σ else .stuck
  | .str x=>if x.length<=100/\0<=y/\y<=100 then .ok (.str (Txt.mul x y)) σ else .stuck
  | .fl xs=>if xs.length<=100/\0<=y/\y<=100 then .ok (.fl (List.replicate y.toNat xs).flatten) σ else .stuck
  | _=>.stuck
 | _=>.stuck
noncomputable def jM(o:mD)(a b:H)(σ:aa):ah H:=
 match o with
 | .add=>wZ a b σ
 | .sub=>rh (fun x y=>.ok (.int (x-y)) σ) a b
 | .mul=>Jm a b σ
 | .mod=>rh (fun x y=>if 0<y then .ok (.int (x%y)) σ else .stuck) a b
 | .fdiv=>rh (fun x y=>if 0<y/\y<1073741824 then .ok (.int (x/y)) σ else .stuck) a b
 | .pow=>rh (fun x n=>if 0<=n/\n<=100/\x=10 then .ok (.int (x ^ n.toNat)) σ else .stuck) a b
noncomputable def sx(f:Int->Int->Bool)(a b:H)(σ:aa):ah Bool:=
 match a with
 | .int x=>match b with
  | .int y=>.ok (f x y) σ
  | _=>.stuck
 | _=>.stuck
noncomputable def g7:H->Bool
 | .none=>true
 | _=>false
noncomputable def Ah(f:Bool->Bool)(a b:H)(σ:aa):ah Bool:=
 match b with
 | .none=>.ok (f (g7 a)) σ
 | .bool y=>match a with
  | .bool x=>.ok (f (decide (x=y))) σ
  | _=>.stuck
 | _=>.stuck
noncomputable def dP(a b:H)(σ:aa):Option Bool:=
 match b with
 | .str y=>match a with
  | .str x=>match x.cps.toList with
   | [c]=>some (y.cps.toList.contains c)
   | _=>none
  | _=>none
 | .tup xs=>hQ σ a xs
 | .fl xs=>hQ σ a xs
 | .ref r=>match σ[r]? with
  | some (.lst xs)=>hQ σ a xs
  | some (.ds es)=>match a with
   | .str k=>some (aG k es).isSome
   | _=>none
  | some (.dp es)=>(g8 a).map fun k=>(aG k es).isSome
  | _=>none
 | _=>none
noncomputable def cY(o:iq)(a b:H)(σ:aa):ah Bool:=
 match o with
 | .eq=>ah.ofOpt (eqv σ a b) σ
 | .ne=>ah.ofOpt ((eqv σ a b).map (!·)) σ
 | .lt=>sx (fun x y=>decide (x<y)) a b σ
 | .le=>sx (fun x y=>decide (x<=y)) a b σ
 | .gt=>sx (fun x y=>decide (x > y)) a b σ
 | .ge=>sx (fun x y=>decide (x>=y)) a b σ
 | .is=>Ah id a b σ
 | .isNot=>Ah (!·) a b σ
 | .isin=>ah.ofOpt (dP a b σ) σ
 | .notin=>ah.ofOpt ((dP a b σ).map (!·)) σ
noncomputable def gd:List H->Option (List Int)
 | []=>some []
 | .int i::r=>(gd r).map (i::·)
 | _::_=>none
noncomputable def lF:List H->Option (List Bool)
 | []=>some []
 | .bool b::r=>(lF r).map (b::·)
 | _::_=>none
noncomputable def ke:List H->Option (List Str)
 | []=>some []
 | .str s::r=>(ke r).map (s::·)
 | _::_=>none
noncomputable def gK(l:List Str):List Str:=l.foldl (fun a x=>if a.any (· == x)then a else a++[x]) []
noncomputable def eJ(l:List Int):List Int:=l.mergeSort (fun a b=>decide (a<=b))
noncomputable def qD(xs:List H):Option (List H):=
 match gd xs with
 | some l=>if l.length<64 then some ((eJ l).map .int)else none
 | none=>none
noncomputable def jW(f:List H->ah H)(a:H)(σ:aa):ah H:=
 match el σ a with
 | some xs=>f xs
 | none=>.stuck
noncomputable def fZ{α:Type}(g:List H->Option α)(f:α->ah H)(a:H)(σ:aa):ah H:=
 match(b2 σ a).bind g with
 | some l=>f l
 | none=>.stuck
noncomputable def RO(a:H)(σ:aa):ah H:=
 match a with
 | .str s=>if s.length<=aI then .ok (.int s.length) σ else .stuck
 | a=>jW (fun xs=>if xs.length<=aI then .ok (.int xs.length) σ else .stuck) a σ
noncomputable def QL(a:H)(σ:aa):ah H:=
 match a with
 | .bool b=>.ok (.int (if b then 1 else 0)) σ
 | _=>.stuck
noncomputable def VL(a:H)(σ:aa):ah H:=
 match a with
 | .str s=>.ok (.str s) σ
 | .int i=>if 0<=i/\i<1000000000 then .ok (.str (Str.ofString (toString i))) σ else .stuck
 | _=>.stuck
noncomputable def C9:List H->List ((Str×Int)×H)->Option (List ((Str×Int)×H))
 | [],es=>some es
 | .tup [k,v]::r,es=>match g8 k with
  | some k=>C9 r (eg k v es)
  | none=>none
 | _::_,_=>none
noncomputable def M1(a:H)(σ:aa):ah H:=
 match a with
 | .ref r=>match σ[r]? with
  | some (.dp es)=>if es.length<=aI then .ok (.ref σ.length) (σ++[.dp es])else .stuck
  | _=>.stuck
 | .fl xs=>match C9 xs []with
  | some es=>if xs.length<=aI then .ok (.ref σ.length) (σ++[.dp es])else .stuck
  | none=>.stuck
 | _=>.stuck
noncomputable def dk(b:eL)(a:H)(σ:aa):ah H:=
 match b with
 | .dict=>M1 a σ
 | .len=>RO a σ
 | .list a9=>jW (fun xs=>eW a9 xs σ) a σ
 | .tuple=>jW (fun xs=>if xs.length<=aI then .ok (.tup xs) σ else .stuck) a σ
 | .sum=>fZ gd (fun l=>if l.length<=1000/\l.all (fun x=>decide (x.natAbs<2 ^ 40))then .ok (.int l.sum) σ else .stuck) a σ
 | .min=>fZ gd (fun l=>match l with
  | x::l=>.ok (.int (l.foldl min x)) σ
  | []=>.stuck) a σ
 | .max=>fZ gd (fun l=>match l with
  | x::l=>.ok (.int (l.foldl max x)) σ
  | []=>.stuck) a σ
 | .sorted=>fZ qD (fun l=>.ok (.fl l) σ) a σ
 | .all=>fZ lF (fun l=>.ok (.bool (l.all id)) σ) a σ
 | .int=>QL a σ
 | .str=>VL a σ
 | .lenset=>match(el σ a).bind ke with
  | some l=>if l.length<=1000 then .ok (.int (gK l).length) σ else .stuck
  | none=>.stuck
noncomputable def u0:eL->Bool
 | .all | .lenset=>true
 | .sum=>true
 | .min | .max=>true
 | .dict=>true
 | _=>false
noncomputable def iP(hd:Bool)(b:eL)(a:H)(σ:aa):ah H:=bif hd&&u0 b then .stuck else dk b a σ
noncomputable def vu(a:H)(eo tN:List Nat)(σ:aa):ah Bool:=
 match a with
 | .exc c=>if tN.contains c then .ok (eo.contains c) σ else .stuck
 | _=>.stuck
noncomputable def ku(a:H)(t:jK)(σ:aa):ah Bool:=
 match t with
 | .int=>match a with
  | .int _=>.ok true σ
  | .bool _=>.ok true σ
  | .none=>.ok false σ
  | .str _=>.ok false σ
  | _=>.stuck
 | .bool=>match a with
  | .bool _=>.ok true σ
  | .int _=>.ok false σ
  | .none=>.ok false σ
  | .str _=>.ok false σ
  | _=>.stuck
 | .str=>match a with
  | .str _=>.ok true σ
  | .int _=>.ok false σ
  | .none=>.ok false σ
  | .bool _=>.ok false σ
  | .tup _=>.ok false σ
  | _=>.stuck
 | .tuple=>match a with
  | .tup _=>.ok true σ
  | .str _=>.ok false σ
  | .int _=>.ok false σ
  | _=>.stuck
 | .list=>match a with
  | .tup _=>.ok false σ
  | a=>match b2 σ a with
   | some _=>.ok true σ
   | none=>.stuck
noncomputable def li(xs:List H)(i:Int)(σ:aa):ah H:=if xs.length<=aI then ah.ofOpt ((fj i xs.length).bind (xs[·]?)) σ else .stuck
noncomputable def mu(o i:H)(σ:aa):ah H:=
 match o with
 | .ref r=>match σ[r]? with
  | some (.ds es)=>match i with
   | .str k=>ah.ofOpt (aG k es) σ
   | _=>.stuck
  | some (.dp es)=>ah.ofOpt ((g8 i).bind fun k=>aG k es) σ
  | _=>.stuck
 | _=>.stuck
noncomputable def f6(o i:H)(σ:aa):ah H:=
 match i with
 | .int i=>match o with
  | .str s=>if s.cps.size<=aI then
    match(fj i s.cps.size).bind (s.cps[·]?)with
    | some c=>.ok (.str ⟨#[c]⟩) σ
    | none=>.stuck
   else .stuck
  | .tup xs=>li xs i σ
  | o=>match b2 σ o with
   | some xs=>li xs i σ
   | none=>.stuck
 | i=>mu o i σ
noncomputable def o3:H->Option (Option Int)
 | .none=>some none
 | .int i=>some (some i)
 | _=>none
noncomputable def dR{α:Type}(xs:List α)(lo hi:Option Int):List α:=
 (xs.drop (lo.elim 0 (clipAt xs.length))).take (hi.elim xs.length (clipAt xs.length)-lo.elim 0 (clipAt xs.length))
noncomputable def nx(s:Str)(lo hi:Option Int):Str:=⟨(dR s.cps.toList lo hi).toArray⟩
noncomputable def sM(σ:aa)(o:H)(lo hi:Option Int):Option H:=
 match o with
 | .str x=>if x.length<=aI then some (.str (nx x lo hi))else none
 | .tup xs=>if xs.length<=aI then some (.tup (dR xs lo hi))else none
 | o=>(b2 σ o).bind fun xs=>if xs.length<=aI then some (.fl (dR xs lo hi))else none
noncomputable def j0(o lo hi:H)(σ:aa):ah H:=ah.ofOpt ((o3 lo).bind fun lo=>(o3 hi).bind fun hi=>sM σ o lo hi) σ
noncomputable def Jy(a:H)(σ:aa):ah H:=
 match a with
 | .int i=>.ok (.int (-i)) σ
 | _=>.stuck
noncomputable def iZ(o:H)(σ:aa):Bool:=
 match o with
 | .ref r=>match σ[r]? with
  | some (.lst _)=>true
  | _=>false
 | _=>false
noncomputable def QS:H->Bool
 | .str _=>true
 | _=>false
noncomputable def sg(o:H)(σ:aa):Bool:=
 match o with
 | .ref r=>match σ[r]? with
  | some (.ds _)=>true
  | some (.dp _)=>true
  | _=>false
 | _=>false
noncomputable def o0(m:h2)(o:H)(σ:aa):Bool:=
 match m with
 | .append | .extend=>iZ o σ
 | .pop=>iZ o σ
 | .get=>sg o σ
noncomputable def kf(o v:H)(σ:aa):ah H:=
 match o with
 | .ref r=>match σ[r]? with
  | some (.lst xs)=>if xs.length<aI then .ok .none (σ.set r (.lst (xs++[v])))else .stuck
  | _=>.stuck
 | _=>.stuck
noncomputable def lO(o v:H)(σ:aa):ah H:=
 match o with
 | .ref r=>match σ[r]? with
  | some (.lst xs)=>match v with
   | .tup ys=>if xs.length+ys.length<=aI then .ok .none (σ.set r (.lst (xs++ys)))else .stuck
   | .fl ys=>if xs.length+ys.length<=aI then .ok .none (σ.set r (.lst (xs++ys)))else .stuck
   | _=>.stuck
  | _=>.stuck
 | _=>.stuck
noncomputable def rF(o v:H)(σ:aa):ah H:=
 match o with
 | .ref r=>match σ[r]? with
  | some (.ds es)=>match v with
   | .str k=>.ok ((aG k es).getD .none) σ
   | _=>.stuck
  | some (.dp es)=>match g8 v with
   | some k=>.ok ((aG k es).getD .none) σ
   | none=>.stuck
  | _=>.stuck
 | _=>.stuck
noncomputable def sF(o v:H)(σ:aa):ah H:=
 match o with
 | .ref r=>match σ[r]? with
  | some (.lst xs)=>match v with
   | .int i=>if 0<=i/\xs.length<=aI then match xs[i.toNat]? with
     | some v=>.ok v (σ.set r (.lst (xs.eraseIdx i.toNat)))
     | none=>.stuck
    else .stuck
   | _=>.stuck
  | _=>.stuck
 | _=>.stuck
noncomputable def i2(m:h2)(o:H)(args:List H)(σ:aa):ah H:=
 match args with
 | [v]=>match m with
  | .append=>kf o v σ
  | .extend=>lO o v σ
  | .pop=>sF o v σ
  | .get=>rF o v σ
 | _=>.stuck
noncomputable def ql(x y:H)(σ:aa):ah H:=
 match x,y with
 | .int x,.int y=>.ok (.int (min x y)) σ
 | _,_=>.stuck
noncomputable def jS(m:iu)(o:H)(σ:aa):ah H:=
 match m with
 | .clear=>match o with
  | .ref r=>match σ[r]? with
   | some (.lst xs)=>if xs.length<=aI then .ok .none (σ.set r (.lst []))else .stuck
   | _=>.stuck
  | _=>.stuck
noncomputable def rj(c:Nat)(o:H)(n:Str)(σ:aa):ah H:=
 match o with
 | .inst b3 i=>if b3=c then(match σ[i]? with
  | some (.ns fs)=>ah.ofOpt (aG n fs) σ
  | _=>.stuck)else .stuck
 | _=>.stuck
noncomputable def rD(ks:List Str)(vals:List H)(key dflt:H)(σ:aa):ah H:=
 match key with
 | .str k=>.ok ((i8 k (ks.zip vals)).getD dflt) σ
 | _=>.stuck
noncomputable def iI(v:H)(σ:aa):ah Bool:=
 match v with
 | .bool b=>.ok b σ
 | _=>.stuck
noncomputable def d4(v:H)(σ:aa):ah (List H×Option (Nat×aW)):=
 match items σ v with
 | some xs=>.ok (xs,nK σ v) σ
 | none=>.stuck
noncomputable def nr(a:H)(σ:aa):ah (List H×Option (Nat×aW)):=
 match a with
 | .int n=>if 0<=n/\n<=aI then .ok (dh 0 1 n.toNat,none) σ else .stuck
 | _=>.stuck
noncomputable def ky:Nat->List H->List H
 | _,[]=>[]
 | i,x::r=>.tup [.int i,x]::ky (i+1) r
noncomputable def ou(a:H)(σ:aa):ah (List H×Option (Nat×aW)):=
 match b2 σ a with
 | some xs=>if xs.length<=aI then .ok (ky 0 xs,nK σ a) σ else .stuck
 | none=>.stuck
noncomputable def mx:List H->List H->List H
 | x::r,y::q=>.tup [x,y]::mx r q
 | _,_=>[]
noncomputable def qQ(a b:H)(σ:aa):ah (List H×Option (Nat×aW)):=
 match a,b with
 | .tup xs,.fl ys=>if xs.length=ys.length/\ys.length<=aI then .ok (mx xs ys,some (σ.length,.tp)) (σ++[.tp])else .stuck
 | _,_=>.stuck
noncomputable def ww(vs:List H)(σ:aa):ah (List H×Option (Nat×aW)):=
 match vs with
 | [a,b]=>qQ a b σ
 | _=>.stuck
noncomputable def c4(cF:List (Option Nat))(ρ:az):az:=cF.map fun(o:Option Nat)=>match o with | some i=>(ρ[i]?).join | none=>none
noncomputable def BR(ρ:az)(i:Nat)(σ:aa):ah H:=
 match ρ[i]? with
 | some (some v)=>.ok v σ
 | _=>.stuck
structure h1 where
 ev:az->aa->ah H
 tst:az->aa->ah Bool
 evs:az->aa->ah (List H)
 evAnd:az->aa->ah H
 evOr:az->aa->ah H
 tstAnd:az->aa->ah Bool
 tstOr:az->aa->ah Bool
 evIt:az->aa->ah (List H×Option (Nat×aW))
noncomputable def h1.two(e:az->aa->ah H)(t:az->aa->ah Bool):h1:=
 ⟨e,t,fun J J=>.stuck,fun J J=>.stuck,fun J J=>.stuck,fun J J=>.stuck,fun J J=>.stuck,fun ρ σ=>(e ρ σ).bind d4⟩
noncomputable def h1.val(e:az->aa->ah H):h1:=h1.two e fun ρ σ=>(e ρ σ).bind iI
noncomputable def h1.nil:h1:=
 ⟨fun J J=>.stuck,fun J J=>.stuck,fun J σ=>.ok [] σ,fun J J=>.stuck,fun J J=>.stuck,fun J σ=>.ok true σ,fun J σ=>.ok false σ,fun J J=>.stuck⟩
noncomputable def h1.cons(a:h1)(last:Bool)(r:h1):h1:=
 ⟨fun J J=>.stuck,fun J J=>.stuck,fun ρ σ=>(a.ev ρ σ).bind fun v σ=>(r.evs ρ σ).bind fun vs σ=>.ok (v::vs) σ,
  fun ρ σ=>if last then a.ev ρ σ else(a.ev ρ σ).bind fun v σ=>(iI v σ).bind fun b σ=>if b then r.evAnd ρ σ else .ok v σ,
  fun ρ σ=>if last then a.ev ρ σ else(a.ev ρ σ).bind fun v σ=>(iI v σ).bind fun b σ=>if b then .ok v σ else r.evOr ρ σ,
  fun ρ σ=>(a.tst ρ σ).bind fun b σ=>if b then r.tstAnd ρ σ else .ok false σ,
  fun ρ σ=>(a.tst ρ σ).bind fun b σ=>if b then .ok true σ else r.tstOr ρ σ,
  fun J J=>.stuck⟩
noncomputable def h1.it(f:az->aa->ah (List H×Option (Nat×aW))):h1:=
 ⟨fun J J=>.stuck,fun J J=>.stuck,fun J J=>.stuck,fun J J=>.stuck,fun J J=>.stuck,fun J J=>.stuck,fun J J=>.stuck,f⟩
noncomputable def X.isNil:X->Bool
 | .nil=>true
 | _=>false
noncomputable def o1(C:bn)(c f:Nat)(n:Str)(x:H)(args:aa->ah (List H))(σ:aa):ah H:=
 match x with
 | .inst b3 i=>if b3=c then(match σ[i]? with
  | some (.ns fs)=>(match aG n fs with
   | none=>(args σ).bind fun vs σ=>C.call f (.inst b3 i::vs) σ
   | some _=>.stuck)
  | _=>.stuck)else .stuck
 | _=>.stuck
noncomputable def l7(C:bn)(c f:Nat)(vs:List H)(σ:aa):ah H:=
 (C.call f (.inst c σ.length::vs) (σ++[.ns []])).bind fun v σ'=>match v with
  | .none=>.ok (.inst c σ.length) σ'
  | _=>.stuck
noncomputable def ch(C:bn):X->h1
 | .nil=>h1.nil
 | .cons a r=>h1.cons (ch C a) r.isNil (ch C r)
 | .k v=>.val fun J σ=>.ok v σ
 | .v i=>.val fun ρ σ=>BR ρ i σ
 | .and xs=>.two (ch C xs).evAnd (ch C xs).tstAnd
 | .or xs=>.two (ch C xs).evOr (ch C xs).tstOr
 | .not a=>.two (fun ρ σ=>((ch C a).ev ρ σ).bind fun v σ=>(iI v σ).bind fun b σ=>.ok (.bool (!b)) σ) (fun ρ σ=>((ch C a).tst ρ σ).bind fun b σ=>.ok (!b) σ)
 | .neg a=>.val fun ρ σ=>((ch C a).ev ρ σ).bind Jy
 | .bin o a b=>.val fun ρ σ=>((ch C a).ev ρ σ).bind fun x σ=>((ch C b).ev ρ σ).bind fun y σ=>jM o x y σ
 | .cmp a o b=>.two (fun ρ σ=>((ch C a).ev ρ σ).bind fun x σ=>((ch C b).ev ρ σ).bind fun y σ=>(cY o x y σ).bind fun r σ=>.ok (.bool r) σ)
   (fun ρ σ=>((ch C a).ev ρ σ).bind fun x σ=>((ch C b).ev ρ σ).bind fun y σ=>cY o x y σ)
 | .cmp2 a o b bI c=>.two (fun ρ σ=>((ch C a).ev ρ σ).bind fun x σ=>((ch C b).ev ρ σ).bind fun y σ=>(cY o x y σ).bind fun r σ =>
   if r then((ch C c).ev ρ σ).bind fun z σ=>(cY bI y z σ).bind fun r σ=>.ok (.bool r) σ else .ok (.bool false) σ)
   (fun ρ σ=>((ch C a).ev ρ σ).bind fun x σ=>((ch C b).ev ρ σ).bind fun y σ=>(cY o x y σ).bind fun r σ =>
   if r then((ch C c).ev ρ σ).bind fun z σ=>cY bI y z σ else .ok false σ)
 | .lst a9 xs=>.val fun ρ σ=>((ch C xs).evs ρ σ).bind fun vs σ=>eW a9 vs σ
 | .tup xs=>.val fun ρ σ=>((ch C xs).evs ρ σ).bind fun vs σ=>if vs.length<=aI then .ok (.tup vs) σ else .stuck
 | .fdget ks vals key dflt=>.val fun ρ σ=>((ch C key).ev ρ σ).bind fun k σ=>((ch C dflt).ev ρ σ).bind fun d σ=>rD ks vals k d σ
 | .comp a9 t cF elt cond it=>.val fun ρ σ=>bif C.hd then .stuck else((ch C it).evIt ρ σ).bind fun(xs,w) σ =>
   ib xs.length (dW w (fun x σ =>
    ((ch C cond).tst ((c4 cF ρ).set t (some x)) σ).bind fun b σ=>if b then((ch C elt).ev ((c4 cF ρ).set t (some x)) σ).bind fun v σ=>.ok (some v) σ else .ok none σ) xs σ) fun ys σ=>eW a9 ys σ
 | .range1 a=>.it fun ρ σ=>((ch C a).ev ρ σ).bind nr
 | .enum a=>.it fun ρ σ=>((ch C a).ev ρ σ).bind ou
 | .zip xs=>.it fun ρ σ=>((ch C xs).evs ρ σ).bind ww
 | .dnew pk=>.val fun J σ=>.ok (.ref σ.length) (σ++[bif pk then .dp []else .ds []])
 | .attr c o n=>.val fun ρ σ=>((ch C o).ev ρ σ).bind fun x σ=>rj c x n σ
 | .meth c f n o args=>.val fun ρ σ=>((ch C o).ev ρ σ).bind fun x σ=>o1 C c f n x (fun σ=>(ch C args).evs ρ σ) σ
 | .new c f args=>.val fun ρ σ=>((ch C args).evs ρ σ).bind fun vs σ=>l7 C c f vs σ
 | .me0 m o=>.val fun ρ σ=>((ch C o).ev ρ σ).bind fun x σ=>jS m x σ
 | .call f args=>.val fun ρ σ=>((ch C args).evs ρ σ).bind fun vs σ=>C.call f vs σ
 | .b1 b a=>.val fun ρ σ=>((ch C a).ev ρ σ).bind fun v σ=>iP C.hd b v σ
 | .min2 a b=>.val fun ρ σ=>bif C.hd then .stuck else((ch C a).ev ρ σ).bind fun x σ=>((ch C b).ev ρ σ).bind fun y σ=>ql x y σ
 | .isinst a t=>.val fun ρ σ=>((ch C a).ev ρ σ).bind fun v σ=>(ku v t σ).bind fun b σ=>.ok (.bool b) σ
 | .isexc a eo tN=>.val fun ρ σ=>((ch C a).ev ρ σ).bind fun v σ=>(vu v eo tN σ).bind fun b σ=>.ok (.bool b) σ
 | .me m o args=>.val fun ρ σ=>((ch C o).ev ρ σ).bind fun r σ=>if o0 m r σ then((ch C args).evs ρ σ).bind fun vs σ=>i2 m r vs σ else .stuck
 | .sub o i=>.val fun ρ σ=>((ch C o).ev ρ σ).bind fun x σ=>((ch C i).ev ρ σ).bind fun y σ=>f6 x y σ
 | .slice o lo hi=>.val fun ρ σ=>((ch C o).ev ρ σ).bind fun x σ=>((ch C lo).ev ρ σ).bind fun a σ=>((ch C hi).ev ρ σ).bind fun b σ=>j0 x a b σ
noncomputable def ev(C:bn)(x:X)(ρ:az)(σ:aa):ah H:=(ch C x).ev ρ σ
noncomputable def evs(C:bn)(x:X)(ρ:az)(σ:aa):ah (List H):=(ch C x).evs ρ σ
noncomputable def evAnd(C:bn)(x:X)(ρ:az)(σ:aa):ah H:=(ch C x).evAnd ρ σ
noncomputable def evOr(C:bn)(x:X)(ρ:az)(σ:aa):ah H:=(ch C x).evOr ρ σ
noncomputable def tst(C:bn)(x:X)(ρ:az)(σ:aa):ah Bool:=(ch C x).tst ρ σ
noncomputable def tstAnd(C:bn)(x:X)(ρ:az)(σ:aa):ah Bool:=(ch C x).tstAnd ρ σ
noncomputable def tstOr(C:bn)(x:X)(ρ:az)(σ:aa):ah Bool:=(ch C x).tstOr ρ σ
noncomputable def evIt(C:bn)(x:X)(ρ:az)(σ:aa):ah (List H×Option (Nat×aW)):=(ch C x).evIt ρ σ
section
variable {C:bn}{ρ:az}{σ:aa}
theorem NF:ev C (.v i) ρ σ=BR ρ i σ:=rfl
theorem NC{xs:X}:ev C (.or xs) ρ σ=evOr C xs ρ σ:=rfl
theorem NB{a:X}:ev C (.not a) ρ σ=(ev C a ρ σ).bind fun v σ=>(iI v σ).bind fun b σ=>.ok (.bool (!b)) σ:=rfl
theorem Nu{o:mD}{a b:X}:ev C (.bin o a b) ρ σ=(ev C a ρ σ).bind fun x σ=>(ev C b ρ σ).bind fun y σ=>jM o x y σ:=rfl
theorem Nv{o:iq}{a b:X}:ev C (.cmp a o b) ρ σ=(ev C a ρ σ).bind fun x σ=>(ev C b ρ σ).bind fun y σ=>(cY o x y σ).bind fun r σ=>.ok (.bool r) σ:=rfl
theorem Nw{o bI:iq}{a b c:X}:ev C (.cmp2 a o b bI c) ρ σ=(ev C a ρ σ).bind fun x σ=>(ev C b ρ σ).bind fun y σ=>(cY o x y σ).bind fun r σ =>
   if r then(ev C c ρ σ).bind fun z σ=>(cY bI y z σ).bind fun r σ=>.ok (.bool r) σ else .ok (.bool false) σ:=rfl
theorem Nz{xs:X}:ev C (.lst a9 xs) ρ σ=(evs C xs ρ σ).bind fun vs σ=>eW a9 vs σ:=rfl
theorem NE{xs:X}:ev C (.tup xs) ρ σ=(evs C xs ρ σ).bind fun vs σ=>if vs.length<=aI then .ok (.tup vs) σ else .stuck:=rfl
theorem Nx{ks:List Str}{vals:List H}{key dflt:X}:ev C (.fdget ks vals key dflt) ρ σ=(ev C key ρ σ).bind fun k σ=>(ev C dflt ρ σ).bind fun d σ=>rD ks vals k d σ:=rfl
theorem kZ{t:Nat}{elt cond it:X}:ev C (.comp a9 t cF elt cond it) ρ σ=bif C.hd then .stuck else(evIt C it ρ σ).bind fun(xs,w) σ =>
   ib xs.length (dW w (fun x σ =>
    (tst C cond ((c4 cF ρ).set t (some x)) σ).bind fun b σ=>if b then(ev C elt ((c4 cF ρ).set t (some x)) σ).bind fun v σ=>.ok (some v) σ else .ok none σ) xs σ) fun ys σ=>eW a9 ys σ:=rfl
theorem tT{f:Nat}{args:X}:ev C (.call f args) ρ σ=(evs C args ρ σ).bind fun vs σ=>C.call f vs σ:=rfl
theorem Dq{b:eL}{a:X}:ev C (.b1 b a) ρ σ=(ev C a ρ σ).bind fun v σ=>iP C.hd b v σ:=rfl
theorem Dt{a b:X}:ev C (.min2 a b) ρ σ=bif C.hd then .stuck else(ev C a ρ σ).bind fun x σ=>(ev C b ρ σ).bind fun y σ=>ql x y σ:=rfl
theorem Ny{a:X}{t:jK}:ev C (.isinst a t) ρ σ=(ev C a ρ σ).bind fun v σ=>(ku v t σ).bind fun b σ=>.ok (.bool b) σ:=rfl
theorem Dr{m:h2}{o args:X}:ev C (.me m o args) ρ σ=(ev C o ρ σ).bind fun r σ=>if o0 m r σ then(evs C args ρ σ).bind fun vs σ=>i2 m r vs σ else .stuck:=rfl
theorem ND{o i:X}:ev C (.sub o i) ρ σ=(ev C o ρ σ).bind fun x σ=>(ev C i ρ σ).bind fun y σ=>f6 x y σ:=rfl
theorem Dv{o lo hi:X}:ev C (.slice o lo hi) ρ σ=(ev C o ρ σ).bind fun x σ=>(ev C lo ρ σ).bind fun a σ=>(ev C hi ρ σ).bind fun b σ=>j0 x a b σ:=rfl
theorem km:evs C .nil ρ σ=.ok [] σ:=rfl
theorem k4{a r:X}:evs C (.cons a r) ρ σ=(ev C a ρ σ).bind fun v σ=>(evs C r ρ σ).bind fun vs σ=>.ok (v::vs) σ:=rfl
theorem xA:evAnd C .nil ρ σ=.stuck:=rfl
theorem xB{a:X}:evAnd C #v[a] ρ σ=ev C a ρ σ:=rfl
theorem ru{a b r:X}:evAnd C (.cons a (.cons b r)) ρ σ=(ev C a ρ σ).bind fun v σ=>(iI v σ).bind fun t σ=>if t then evAnd C (.cons b r) ρ σ else .ok v σ:=rfl
theorem xD:evOr C .nil ρ σ=.stuck:=rfl
theorem xE{a:X}:evOr C #v[a] ρ σ=ev C a ρ σ:=rfl
theorem tS{a b r:X}:evOr C (.cons a (.cons b r)) ρ σ=(ev C a ρ σ).bind fun v σ=>(iI v σ).bind fun t σ=>if t then .ok v σ else evOr C (.cons b r) ρ σ:=rfl
theorem WY{a:X}:tst C (.not a) ρ σ=(tst C a ρ σ).bind fun b σ=>.ok (!b) σ:=rfl
theorem WV{o:iq}{a b:X}:tst C (.cmp a o b) ρ σ=(ev C a ρ σ).bind fun x σ=>(ev C b ρ σ).bind fun y σ=>cY o x y σ:=rfl
theorem WW{o bI:iq}{a b c:X}:tst C (.cmp2 a o b bI c) ρ σ=(ev C a ρ σ).bind fun x σ=>(ev C b ρ σ).bind fun y σ=>(cY o x y σ).bind fun r σ =>
   if r then(ev C c ρ σ).bind fun z σ=>cY bI y z σ else .ok false σ:=rfl
theorem WU{f:Nat}{args:X}:tst C (.call f args) ρ σ=(ev C (.call f args) ρ σ).bind iI:=rfl
theorem WT{b:eL}{a:X}:tst C (.b1 b a) ρ σ=(ev C (.b1 b a) ρ σ).bind iI:=rfl
theorem WX{a:X}{t:jK}:tst C (.isinst a t) ρ σ=(ev C (.isinst a t) ρ σ).bind iI:=rfl
theorem KJ:tstAnd C .nil ρ σ=.ok true σ:=rfl
theorem qK{a r:X}:tstAnd C (.cons a r) ρ σ=(tst C a ρ σ).bind fun b σ=>if b then tstAnd C r ρ σ else .ok false σ:=rfl
theorem KL:tstOr C .nil ρ σ=.ok false σ:=rfl
theorem qL{a r:X}:tstOr C (.cons a r) ρ σ=(tst C a ρ σ).bind fun b σ=>if b then .ok true σ else tstOr C r ρ σ:=rfl
theorem xC{a:X}:evIt C (.range1 a) ρ σ=(ev C a ρ σ).bind nr:=rfl
theorem Nr{a:X}:evIt C (.enum a) ρ σ=(ev C a ρ σ).bind ou:=rfl
theorem Nt{xs:X}:evIt C (.zip xs) ρ σ=(evs C xs ρ σ).bind ww:=rfl
theorem Dp{o:X}{n:Str}:ev C (.attr c o n) ρ σ=(ev C o ρ σ).bind fun x σ=>rj c x n σ:=rfl
theorem NA{f:Nat}{n:Str}{o args:X}:ev C (.meth c f n o args) ρ σ=(ev C o ρ σ).bind fun x σ=>o1 C c f n x (fun σ=>evs C args ρ σ) σ:=rfl
theorem Du{f:Nat}{args:X}:ev C (.new c f args) ρ σ=(evs C args ρ σ).bind fun vs σ=>l7 C c f vs σ:=rfl
theorem Ds{m:iu}{o:X}:ev C (.me0 m o) ρ σ=(ev C o ρ σ).bind fun x σ=>jS m x σ:=rfl
end
inductive S where
 | nil | cons (a r:S)
 | asg (i:Nat) (x:X)
 | asgSub (o i x:X)
 | expr (x:X)
 | ret (x:X)
 | ret0
 | ife (c:X) (a b:S)
 | for1 (i:Nat) (it:X) (body:S)
 | whl (c:X) (body:S)
 | brk
 | cont
 | asgAttr (c:Nat) (o:X) (n:Str) (x:X)
 | asgT (is:List Nat) (x:X)
 | forT (is:List Nat) (it:X) (body:S)
 | raise (c:Nat)
 | tryE (body:S) (eo:List Nat) (i:Nat) (h:S)
inductive bO where
 | next(ρ:az) (σ:aa)
 | brk (ρ:az) (σ:aa)
 | cont (ρ:az) (σ:aa)
 | ret (v:H) (ρ:az) (σ:aa)
 | exc (i:Nat) (ρ:az) (σ:aa)
 | stuck
noncomputable def ah.toS{α:Type}(o:ah α)(ρ:az)(f:α->aa->bO):bO:=
 match o with
 | .ok a σ=>f a σ
 | .exc i σ=>.exc i ρ σ
 | .stuck=>.stuck
noncomputable def iG(go:az->aa->bO):bO->bO
 | .next ρ σ=>go ρ σ
 | .cont ρ σ=>go ρ σ
 | .brk ρ σ=>.next ρ σ
 | .ret v ρ σ=>.ret v ρ σ
 | _=>.stuck
noncomputable def Ma(f:az->bO):Option az->bO
 | none=>.stuck
 | some ρ=>f ρ
noncomputable def cj(w:Option (Nat×aW))(bind:H->az->Option az)(f:az->aa->bO):List H->az->aa->bO
 | [],ρ,σ=>if hY w σ then .next ρ σ else .stuck
 | x::xs,ρ,σ=>if hY w σ then Ma (fun ρ=>iG (cj w bind f xs) (f ρ σ)) (bind x ρ)else .stuck
noncomputable def wp(ρ:az)(k:aa->bO):ah Bool->bO
 | .ok true σ=>k σ
 | .ok false σ=>.next ρ σ
 | _=>.stuck
noncomputable def hz(c:az->aa->ah Bool)(f:az->aa->bO):Nat->az->aa->bO
 | 0,_,_=>.stuck
 | n+1,ρ,σ=>wp ρ (fun σ=>iG (hz c f n) (f ρ σ)) (c ρ σ)
noncomputable def qE(m:aW)(i v:H):Option aW:=
 match m with
 | .ds es=>match i with
  | .str k=>if es.length<aI then some (.ds (eg k v es))else none
  | _=>none
 | .dp es=>(g8 i).bind fun k=>if es.length<aI then some (.dp (eg k v es))else none
 | _=>none
noncomputable def hW(o i v:H)(ρ:az)(σ:aa):bO:=
 match o with
 | .ref r=>match(σ[r]?).bind fun m=>qE m i v with
  | some m=>.next ρ (σ.set r m)
  | none=>.stuck
 | _=>.stuck
noncomputable def sP(c:Nat)(o:H)(n:Str)(v:H)(ρ:az)(σ:aa):bO:=
 match o with
 | .inst b3 i=>if b3=c then(match σ[i]? with
  | some (.ns fs)=>if fs.length<100 then .next ρ (σ.set i (.ns (eg n v fs)))else .stuck
  | _=>.stuck)else .stuck
 | _=>.stuck
noncomputable def qC:List Nat->List H->az->Option az
 | [],[],ρ=>some ρ
 | i::is,v::vs,ρ=>qC is vs (ρ.set i (some v))
 | _,_,_=>none
noncomputable def gF(is:List Nat)(v:H)(ρ:az):Option az:=
 match v with
 | .tup xs=>if xs.length<=100 then qC is xs ρ else none
 | _=>none
noncomputable def dM(i:Nat)(v:H)(ρ:az):Option az:=some (ρ.set i (some v))
noncomputable def pM:bO->bO
 | .next ρ σ=>.next (ρ.map fun J=>none) σ
 | .ret v ρ σ=>.ret v (ρ.map fun J=>none) σ
 | _=>.stuck
noncomputable def mi(f:az->aa->bO):bO->bO
 | .next ρ σ=>f ρ σ
 | o=>o
noncomputable def wj(f:Nat->az->aa->bO):bO->bO
 | .exc c ρ σ=>f c ρ σ
 | o=>o
noncomputable def ex(C:bn)(N:Nat):S->az->aa->bO
 | .nil,ρ,σ=>.next ρ σ
 | .cons a r,ρ,σ=>mi (fun ρ σ=>ex C N r ρ σ) (ex C N a ρ σ)
 | .asg i x,ρ,σ=>(ev C x ρ σ).toS ρ fun v σ=>.next (ρ.set i (some v)) σ
 | .asgSub o i x,ρ,σ=>(ev C x ρ σ).toS ρ fun v σ=>(ev C o ρ σ).toS ρ fun o σ=>(ev C i ρ σ).toS ρ fun i σ=>hW o i v ρ σ
 | .asgAttr c o n x,ρ,σ=>(ev C x ρ σ).toS ρ fun v σ=>(ev C o ρ σ).toS ρ fun o σ=>sP c o n v ρ σ
 | .asgT is x,ρ,σ=>bif C.hd then .stuck else(ev C x ρ σ).toS ρ fun v σ=>match gF is v ρ with
  | some ρ=>.next ρ σ
  | none=>.stuck
 | .forT is it body,ρ,σ=>bif C.hd then .stuck else(evIt C it ρ σ).toS ρ fun(xs,w) σ=>cj w (gF is) (fun ρ σ=>ex C N body ρ σ) xs ρ σ
 | .expr x,ρ,σ=>(ev C x ρ σ).toS ρ fun J σ=>.next ρ σ
 | .ret x,ρ,σ=>(ev C x ρ σ).toS ρ fun v σ=>.ret v ρ σ
 | .ret0,ρ,σ=>.ret .none ρ σ
 | .ife c a b,ρ,σ=>(tst C c ρ σ).toS ρ fun t σ=>if t then ex C N a ρ σ else ex C N b ρ σ
 | .for1 i it body,ρ,σ=>bif C.hd then .stuck else(evIt C it ρ σ).toS ρ fun(xs,w) σ=>cj w (dM i) (fun ρ σ=>ex C N body ρ σ) xs ρ σ
 | .whl c body,ρ,σ=>bif C.hd then .stuck else hz (fun ρ σ=>tst C c ρ σ) (fun ρ σ=>ex C N body ρ σ) N ρ σ
 | .brk,ρ,σ=>.brk ρ σ
 | .cont,ρ,σ=>.cont ρ σ
 | .raise c,ρ,σ=>bif C.rz then .exc c ρ σ else .stuck
 | .tryE body eo i h,ρ,σ=>wj (fun c ρ σ=>bif C.rz then(if eo.contains c/\i<ρ.length then pM (ex C.inH N h (ρ.set i (some (.exc c))) σ)else .stuck)else .stuck) (ex C N body ρ σ)
structure bA where
 params:Nat
 slots:Nat
 body:S
structure gB where
 fns:List bA
noncomputable def g0(P:gB)(N:Nat):Nat->Nat->Nat->List H->aa->ah H
 | _,0,_,_,_=>.stuck
 | m,d+1,f,vs,σ=>match P.fns[f]? with
  | some fn=>if vs.length=fn.params then
    match ex ⟨fun m=>g0 P N m d,m⟩ N fn.body (vs.map some++List.replicate (fn.slots-fn.params) none) σ with
    | .next _ σ=>.ok .none σ
    | .ret v _ σ=>.ok v σ
    | .exc i _ σ=>.exc i σ
    | _=>.stuck
   else .stuck
  | none=>.stuck
noncomputable def bB(P:gB)(N:Nat):Nat->Nat->List H->aa->ah H:=g0 P N 0
noncomputable def fz(P:gB)(N:Nat)(m:Nat)(d:Nat):bn:=⟨fun m=>g0 P N m d,m⟩
theorem w0{dx:Type}[DecidableEq dx]{k br:dx}{v:H}:∀{es:List (dx×H)},aG br (eg k v es)=if br=k then some v else aG br es:=by
 intro es
 have cons:∀(e:dx×H) (es:List (dx×H)),aG br (e::es)=if e.1=br then some e.2 else aG br es:=fun e es=>by
  unfold aG;rw[jL];by_cases q:e.1=br
  ·rw[dz q,aD q];rfl
  ·rw[fx q,aY q]
 unfold eg;by_cases h:(es.any fun e=>decide (e.1=k))=true
 ·rw[aD h]
  induction es with
  | nil=>contradiction
  | cons e es aj =>
   rw[dD,cons,cons];by_cases q:e.1=k
   ·rw[aD q];by_cases q2:br=k
    ·rw[aD (q.trans q2.symm),aD q2]
    ·rw[aY (fun z=>q2 (z.symm.trans q)),aY q2,aY (fun z=>q2 (z.symm.trans q))];by_cases O:(es.any fun e=>decide (e.1=k))=true
     ·rw[aj O,aY q2]
     ·congr 1;rw[List.map_congr_left (g:=id) fun e he=>?_,List.map_id];rw[aY];rfl;intro z;exact O (List.any_eq_true.mpr ⟨e,he,dz z⟩)
   ·rw[aY q];rw[List.any_cons,fx q,Bool.false_or]at h;rw[aj h];by_cases q2:br=k
    ·rw[aD q2,aY (fun z=>q (z.trans q2)),aD q2]
    ·rw[aY q2,aY q2]
 ·rw[aY h]
  induction es with
  | nil =>
   show aG br [(k,v)]=_;rw[cons];by_cases q:br=k
   ·rw[aD q.symm,aD q]
   ·rw[aY (fun z=>q z.symm),aY q]
  | cons e es aj =>
   rw[List.any_cons,Bool.or_eq_true,not_or]at h;have L:e.1≠k:=fun z=>h.1 (dz z);rw[List.cons_append,cons,cons,aj h.2];by_cases q2:br=k
   ·rw[aD q2,aY (fun z=>L (z.trans q2)),aD q2]
   ·rw[aY q2,aY q2]
section
variable {α β γ δ ε ζ:Type}{a:Option α}{b:Option β}{c:Option γ}{d:Option δ}
noncomputable def cc(q:Bool)(o:Option α):Option α:=bif q then o else none
theorem cN{x:α}(h:cc q a=some x)(k:q=true->a=some x->P):P:=by
 cases q with
 | true=>exact k rfl h
 | false=>exact nomatch h
noncomputable def i6(a:Option α)(f:α->Option β)(y:Option β):Option β:=match a with
 | some x=>f x
 | none=>y
theorem jX{f:α->Option β}{y:Option β}{z:β}(h:i6 a f y=some z)(k1:∀x,a=some x->f x=some z->P)(k2:a=none->y=some z->P):P:=by
 cases a with
 | none=>exact k2 rfl h
 | some x=>exact k1 x rfl h
theorem C2{o aP:Option α}{x:α}(h:(bif q then o else aP)=some x)(k1:q=true->o=some x->P)(k2:aP=some x->P):P:=by
 cases q with
 | true=>exact k1 rfl h
 | false=>exact k2 h
theorem qa{q:Prop}[Decidable q]{x:α}(h:(if q then a else none)=some x)(k:q->a=some x->P):P:=by
 by_cases hq:q
 ·exact k hq ((aD hq).symm.trans h)
 ·exact nomatch (aY hq).symm.trans h
theorem ct{f:α->Option β}{z:β}(h:a.bind f=some z)(k:∀x,a=some x->f x=some z->P):P:=by
 cases a with
 | none=>exact nomatch h
 | some x=>exact k x rfl h
theorem fD{f:α->β}{M:β->Prop}{z:β}(h:a.map f=some z)(k:∀x,a=some x->M (f x)):M z:=by
 cases a with
 | none=>exact nomatch h
 | some x=>obtain rfl:=oi h;exact k x rfl
noncomputable def bI(a:Option α)(b:Option β)(f:α->β->ζ):Option ζ:=a.bind fun x=>b.map (f x)
theorem fM{f:α->β->ζ}{M:ζ->Prop}{z:ζ}(h:bI a b f=some z)(k:∀x y,a=some x->b=some y->M (f x y)):M z:=
 ct h fun x L h=>fD h fun y O=>k x y L O
noncomputable def jV(a:Option α)(b:Option β)(c:Option γ)(f:α->β->γ->ζ):Option ζ:=a.bind fun x=>bI b c (f x)
theorem kA{f:α->β->γ->ζ}{M:ζ->Prop}{z:ζ}(h:jV a b c f=some z)(k:∀x y w,a=some x->b=some y->c=some w->M (f x y w)):M z:=
 ct h fun x L h=>fM h fun y w O aw=>k x y w L O aw
noncomputable def JI(a:Option α)(b:Option β)(c:Option γ)(d:Option δ)(f:α->β->γ->δ->ζ):Option ζ:=a.bind fun x=>jV b c d (f x)
theorem Ts{f:α->β->γ->δ->ζ}{M:ζ->Prop}{z:ζ}(h:JI a b c d f=some z)(k:∀x y w u,a=some x->b=some y->c=some w->d=some u->M (f x y w u)):M z:=
 ct h fun x L h=>kA h fun y w u O aw aQ=>k x y w u L O aw aQ
noncomputable def i5:List α->Option α
 | []=>none
 | x::r=>cc r.isEmpty (some x)
theorem sw{l:List α}{x:α}(h:i5 l=some x):l=[x]:=by
 cases l with
 | nil=>exact nomatch h
 | cons y r =>
  refine cN h fun L O=>?_;rw[gY.mp L,oi O]
end
noncomputable def dv(N names:List (Str×NameKind)):List (Str×NameKind):=names.map fun(n,k)=>if(k == .free&&N.lookup n == some .cell)then(n,.cell)else(n,k)
noncomputable def h9(N Lg:List (Str×NameKind)):List (Option Nat):=Lg.map fun(n,k)=>if k == .cell then N.findIdx? (·.1 == n)else none
structure bk where
 fns:List Str
 cst:List (Str×H)
 bins:List Str
 muts:List (Nat×Nat)
 excs:List (Str×Nat×List Nat)
 brd:Option (Str×Nat)
 meths:List Str
 dstr:List (Nat×Nat)
noncomputable def we:Const->Option H
 | .none=>some .none
 | .bool b=>some (.bool b)
 | .int i=>some (.int i)
 | .str s=>cc (PyData.strOk s) (some (.str s))
 | _=>none
noncomputable def KH:Operator->Option mD
 | .Add=>some .add | .Sub=>some .sub | .Mult=>some .mul | .Mod=>some .mod | .FloorDiv=>some .fdiv | .Pow=>some .pow
 | _=>none
noncomputable def qI:CmpOp->Option iq
 | .Eq=>some .eq | .NotEq=>some .ne | .Lt=>some .lt | .LtE=>some .le | .Gt=>some .gt | .GtE=>some .ge
 | .Is=>some .is | .IsNot=>some .isNot | .In=>some .isin | .NotIn=>some .notin
theorem na{α:Type}{v:α}:∀{l:List (Str×α)},l.lookup x=some v->(x,v)∈l:=by
 intro l
 induction l with
 | nil =>
  intro h;cases h
 | cons bK l aj =>
  obtain⟨y,u⟩:=bK;intro h;rw[List.lookup_cons]at h
  cases hb:x == y with
  | true=>rw[hb]at h;cases h;exact(eq_of_beq hb)▸(.head _)
  | false=>rw[hb]at h;exact .tail _ (aj h)
noncomputable def w8(a9:Bool):List (Str×eL):=[("len",.len),("list",.list a9),("tuple",.tuple),("all",.all),("int",.int),("str",.str)
 ,("sum",.sum)
 ,("min",.min),("max",.max)
 ,("sorted",.sorted)
 ]
noncomputable def tA(a9:Bool)(x:Str):Option eL:=(w8 a9).lookup x
noncomputable def Jb:List (Str×h2):=[("append",.append),("extend",.extend)
 ,("pop",.pop)
 ,("get",.get)
 ]
noncomputable def Aw(x:Str):Option h2:=Jb.lookup x
noncomputable def I7:List (Str×iu):=
 ("clear",.clear) ::
 []
noncomputable def At(x:Str):Option iu:=I7.lookup x
noncomputable def KQ:List (Str×jK):=[("int",.int),("str",.str),("bool",.bool),("tuple",.tuple)
 ,("list",.list)
 ]
noncomputable def BK(x:Str):Option jK:=KQ.lookup x
noncomputable def CJ:List (Str×Value):=[("len",.builtin "len"),("list",.type "list"),("tuple",.type "tuple"),("min",.builtin "min"),("all",.builtin "all"),("int",.type "int"),("str",.type "str"),("bool",.type "bool"),("ValueError",.type "ValueError"),("isinstance",.builtin "isinstance"),("range",.type "range"),("set",.type "set")
 ,("sum",.builtin "sum")
 ,("max",.builtin "max")
 ,("sorted",.builtin "sorted")
 ,("dict",.type "dict")
 ,("enumerate",.type "enumerate")
 ,("zip",.type "zip")
 ]
noncomputable def kW(x:Str):Option Value:=CJ.lookup x
noncomputable def kU:List Str:=["plan", "turns", "givers", "outer", "here", "gone", "order"]
noncomputable def o9:List (Str×NameKind)->Bool
 | []=>true
 | (x,k)::r=>!(r.any fun p=>p.1 == x)&&!(x == ("__debug__" : Str))&&(k == .local||k == .cell||k == .globalImplicit)&&o9 r
noncomputable def Ag:X->Bool
 | .range1 _=>true
 | .enum _=>true
 | .zip _=>true
 | _=>false
noncomputable def fk(f:Expr->Option X):List Expr->Option X
 | []=>some .nil
 | e::r=>bI (f e) (fk f r) .cons
noncomputable def SR(T:bk)(x:Str)(i:Nat):NameKind->Option X
 | .local=>some (.v i)
 | .cell=>some (.v i)
 | .globalImplicit=>(T.cst.lookup x).map .k
 | _=>none
noncomputable def By(T:bk)(N:List (Str×NameKind))(x:Str):Option X:=
 (N.findIdx? (·.1 == x)).bind fun i=>(N[i]?).bind fun q=>SR T x i q.2
noncomputable def fC(N:List (Str×NameKind))(x:Str):Bool:=N.lookup x == some .globalImplicit
noncomputable def l1(T:bk)(N:List (Str×NameKind))(x:Str):Bool:=fC N x&&T.bins.contains x
noncomputable def Ao:Expr->Option Str
 | .Constant c _ _=>match c with
  | .str x=>cc (PyData.strOk x) (some x)
  | _=>none
 | _=>none
noncomputable def I1:Expr->Option H
 | .Constant c _ _=>we c
 | _=>none
noncomputable def rp:List (Option Expr)->Option (List Str)
 | []=>some []
 | k::r=>bI (k.bind Ao) (rp r) fun s l=>s::l
noncomputable def An:List Expr->Option (List H)
 | []=>some []
 | e::r=>bI (I1 e) (An r) fun s l=>s::l
noncomputable def xk(n:Nat)(l:List Expr):Option (List H):=cc (l.length == n) (An l)
noncomputable def kE(T:bk)(c:Nat):List Nat:=(T.excs.filter fun p=>p.2.1 == c||p.2.2.contains c).map (·.2.1)
noncomputable def mU(T:bk)(N:List (Str×NameKind))(x:Str):Option Nat:=cc (fC N x) ((T.excs.lookup x).map (·.1))
noncomputable def xI(T:bk)(N:List (Str×NameKind))(x:Str):Option (List Nat):=
 i6 (mU T N x) (fun c=>some (kE T c)) (cc (x == "ValueError" && l1 T N x) (some (T.excs.map (·.2.1))))
noncomputable def Jq:(e:Expr)->Option { q:Str×Pos // e=.Name q.1 q.2 }
 | .Name x p=>some ⟨(x,p),rfl⟩
 | _=>none
noncomputable def m8(e:Expr):Option (Str×Pos):=(Jq e).map (·.1)
structure B1 where
 f:Expr
 as:List Expr
 ks:List Keyword
 pos:Pos
noncomputable def tF:(e:Expr)->Option { q:B1 // e=.Call q.f q.as q.ks q.pos }
 | .Call f as ks pos=>some ⟨⟨f,as,ks,pos⟩,rfl⟩
 | _=>none
structure wF where
 g:Str
 p:Pos
 a:Expr
 pos:Pos
noncomputable def rn(e:Expr):Option wF:=(tF e).bind fun c=>cc c.1.ks.isEmpty (bI (m8 c.1.f) (i5 c.1.as) fun n a=>⟨n.1,n.2,a,c.1.pos⟩)
structure wG where
 g:Str
 p:Pos
 as:List Expr
 pos:Pos
noncomputable def callN?(e:Expr):Option wG:=(tF e).bind fun c=>cc c.1.ks.isEmpty ((m8 c.1.f).map fun n=>⟨n.1,n.2,c.1.as,c.1.pos⟩)
noncomputable def Bs(T:bk)(N:List (Str×NameKind))(f:Expr->Option X)(g:Str)(k:Nat)(e:Expr):Option X:=
 (callN? e).bind fun q=>cc (q.g == g&&l1 T N q.g&&q.as.length == k) (fk f q.as)
noncomputable def IY(T:bk)(N:List (Str×NameKind))(g:Str)(a:Expr):Option Expr:=
 (rn a).bind fun q=>cc (g == "len" && q.g == "set" && l1 T N q.g) (some q.a)
noncomputable def BC(T:bk)(N:List (Str×NameKind))(f:Expr->Option X)(e:Expr):Option X:=
 (rn e).bind fun q=>cc (q.g == "range" && l1 T N q.g) ((f q.a).map .range1)
noncomputable def BD(T:bk)(N:List (Str×NameKind))(f:Expr->Option X)(e:Expr):Option X:=
 BC T N f e
noncomputable def BA(T:bk)(N:List (Str×NameKind))(f:Expr->Option X)(pos:Pos)(g:Str)(a:Expr):Option X:=
 i6 (IY T N g a) (fun x=>(f x).map (.b1 .lenset)) <|
 (bI (tA (!(T.muts.contains (pos.line,pos.col))) g) (f a) .b1)
noncomputable def BH(T:bk)(N:List (Str×NameKind))(f:Expr->Option X)(g:Str)(a b:Expr):Option X:=
 bif g == "isinstance" then
  (m8 b).bind fun q =>
  i6 (xI T N q.1) (fun eo=>(f a).map fun x=>.isexc x eo (T.excs.map (·.2.1)))
  (cc (l1 T N q.1) (bI (f a) (BK q.1) .isinst))
 else cc (g == "min") (bI (f a) (f b) .min2)
noncomputable def Wg(T:bk)(N:List (Str×NameKind))(f:Expr->Option X)(pos:Pos)(g:Str):List Expr->Option X
 | []=>none
 | a::r=>match r with
  | []=>BA T N f pos g a
  | b::r=>cc r.isEmpty (BH T N f g a b)
noncomputable def Bz(T:bk)(f:Expr->Option X)(g:Str)(args:List Expr):Option X:=
 T.brd.bind fun q=>cc (g == q.1&&!args.isEmpty) ((T.meths.findIdx? (· == ("__init__" : Str))).bind fun j=>(fk f args).map (.new q.2 (T.fns.length+j)))
noncomputable def Bt(T:bk)(N:List (Str×NameKind))(f:Expr->Option X)(pos:Pos)(g:Str)(args:List Expr):Option X:=
 cc (fC N g) (i6 (T.fns.findIdx? (· == g)) (fun i=>cc (!args.isEmpty) ((fk f args).map (.call i))) (i6 (Bz T f g args) some (cc (T.bins.contains g) (Wg T N f pos g args))))
noncomputable def KG(f:Expr->Option X)(e:Expr):Option X:=(f e).bind fun x=>cc (!Ag x) (some x)
noncomputable def pi(T:bk)(N:List (Str×NameKind))(f:Expr->Option X)(e:Expr):Option X:=
 i6 (BD T N f e) some (KG f e)
noncomputable def KE(T:bk)(N:List (Str×NameKind))(f:Expr->Option X)(e:Expr):Option X:=
 (rn e).bind fun q=>cc (q.g == "enumerate" && l1 T N q.g) ((f q.a).map .enum)
noncomputable def Bw(f:Expr->Option X):List Expr->Option X
 | []=>some (.k (.bool true))
 | c::r=>cc r.isEmpty (f c)
noncomputable def wd(T:bk)(N:List (Str×NameKind))(f:List (Str×NameKind)->Expr->Option X)(elt:Expr)(x:Str)(iter:Expr)(ifs:List Expr)(scope:Scope)(pos:Pos):Option X:=
 cc (scope.kind == .function&&o9 (dv N scope.names)&&scope.names.all (fun p=>p.2 != .cell))
  (((dv N scope.names).findIdx? (·.1 == x)).bind fun t=>cc ((dv N scope.names)[t]? == some (x,NameKind.local))
   (jV (pi T N (f N) iter) (f (dv N scope.names) elt) (Bw (f (dv N scope.names)) ifs) fun it elt c=>.comp (!(T.muts.contains (pos.line,pos.col))) t (h9 N (dv N scope.names)) elt c it))
noncomputable def sW(f:Expr->Option X):Option Expr->Option X
 | none=>some (.k .none)
 | some e=>f e
noncomputable def nj:Expr->Bool
 | .Call _ a _ _=>!a.isEmpty
 | _=>true
noncomputable def Bu(f:Expr->Option X)(l:Expr)(os:List CmpOp)(ij:List Expr):Option X:=
 match os with
 | []=>none
 | o::os=>match ij with
  | []=>none
  | r::ij=>match os with
   | []=>cc ij.isEmpty (jV (qI o) (f l) (f r) fun o a b=>.cmp a o b)
   | bI::os=>match ij with
    | []=>none
    | r2::ij=>cc (os.isEmpty&&ij.isEmpty) ((qI o).bind fun o=>JI (f l) (f r) (qI bI) (f r2) fun a b bI c=>.cmp2 a o b bI c)
noncomputable def C6:(e:Expr)->Option { q:List (Option Expr)×List Expr×Pos // e=.Dict q.1 q.2.1 q.2.2 }
 | .Dict ks vs p=>some ⟨(ks,vs,p),rfl⟩
 | _=>none
noncomputable def IG(e:Expr):Option (List (Option Expr)×List Expr×Pos):=(C6 e).map (·.1)
noncomputable def Bv(f:Expr->Option X)(ks:List (Option Expr))(vs:List Expr)(m:Str)(args:List Expr):Option X:=
 match args with
 | []=>none
 | k::r=>(i5 r).bind fun d=>cc (m == "get") ((rp ks).bind fun l=>cc (decide l.Nodup&&decide (l.length<=15)&&!l.isEmpty) (jV (xk ks.length vs) (f k) (f d) fun vs k d=>.fdget l vs k d))
noncomputable def Wv(f:Expr->Option X)(o:Expr)(m:Str):Option X:=bI (At m) (f o) .me0
noncomputable def Ww(f:Expr->Option X)(o:Expr)(m:Str)(a:Expr):Option X:=jV (Aw m) (f o) (f a) fun m o a=>.me m o #v[a]
noncomputable def Wz(T:bk)(f:Expr->Option X)(o:Expr)(m:Str):List Expr->Option X
 | []=>Wv f o m
 | a::r=>match r with
  | []=>Ww f o m a
  | _::_=>none
noncomputable def Wx(T:bk)(f:Expr->Option X)(o:Expr)(m:Str)(args:List Expr):Option X:=
 T.brd.bind fun q=>(T.meths.findIdx? (· == m)).bind fun j=>cc (decide (args.length<20)) (bI (f o) (fk f args) fun o xs=>.meth q.2 (T.fns.length+j) m o xs)
noncomputable def Wi(T:bk)(f:Expr->Option X)(o:Expr)(n:Str):Option X:=
 T.brd.bind fun q=>cc (nj o&&kU.contains n) ((f o).map fun o=>.attr q.2 o n)
noncomputable def Bx(T:bk)(f:Expr->Option X)(o:Expr)(m:Str)(args:List Expr):Option X:=
 i6 (IG o) (fun q=>Bv f q.1 q.2.1 m args) (cc (nj o)
  (bif T.meths.contains m then Wx T f o m args else Wz T f o m args))
noncomputable def Wk(T:bk)(N:List (Str×NameKind))(f:Expr->Option X)(fn:Expr)(args:List Expr)(pos:Pos):Option X:=
 match fn with
 | .Name g _=>Bt T N f pos g args
 | .Attribute o m apos=>cc (apos.endLine == pos.line) (Bx T f o m args)
 | _=>none
noncomputable def WI(f:Expr->Option X)(o:Expr)(lo hi:Option Expr):Option Expr->Option X
 | none=>jV (f o) (sW f lo) (sW f hi) .slice
 | some _=>none
noncomputable def Kc:(e:Expr)->Option { q:Option Expr×Option Expr×Option Expr×Pos // e=.Slice q.1 q.2.1 q.2.2.1 q.2.2.2 }
 | .Slice lo hi st p=>some ⟨(lo,hi,st,p),rfl⟩
 | _=>none
noncomputable def CE(e:Expr):Option (Option Expr×Option Expr×Option Expr×Pos):=(Kc e).map (·.1)
noncomputable def BF(f:Expr->Option X)(o i:Expr):Option X:=
 i6 (CE i) (fun q=>WI f o q.1 q.2.1 q.2.2.1) (bI (f o) (f i) .sub)
noncomputable def sV(T:bk)(N:List (Str×NameKind))(f:List (Str×NameKind)->Expr->Option X)(elt:Expr)(gens:List Comprehension)(scope:Scope)(pos:Pos):Option X:=
 (i5 gens).bind fun g=>cc (g.is_async == 0) ((m8 g.target).bind fun q=>wd T N f elt q.1 g.iter g.ifs scope pos)
noncomputable def KI(T:bk)(f:List (Str×NameKind)->Expr->Option X)(N:List (Str×NameKind))(e:Expr):Option X:=
  match e with
  | .Constant c _ _=>(we c).map .k
  | .Name x _=>By T N x
  | .BoolOp o es _=>match o with
   | .And=>(fk (f N) es).map .and
   | .Or=>(fk (f N) es).map .or
  | .UnaryOp o a _=>match o with
   | .Not=>(f N a).map .not
   | .USub=>(f N a).map .neg
   | _=>none
  | .BinOp l o r _=>jV (KH o) (f N l) (f N r) .bin
  | .Compare l os ij _=>Bu (f N) l os ij
  | .List es pos=>(fk (f N) es).map (.lst (!(T.muts.contains (pos.line,pos.col))))
  | .Tuple es _ _=>(fk (f N) es).map .tup
  | .Call fn args IS pos=>cc IS.isEmpty (Wk T N (f N) fn args pos)
  | .Attribute o n _=>Wi T (f N) o n
  | .Subscript o i _=>BF (f N) o i
  | .Dict ks vs pos=>cc (ks.isEmpty&&vs.isEmpty) (some (.dnew (!(T.dstr.contains (pos.line,pos.col)))))
  | .ListComp elt gens scope pos=>sV T N f elt gens scope pos
  | _=>none
noncomputable def qJ(T:bk):Nat->List (Str×NameKind)->Expr->Option X
 | 0,_,_=>none
 | n+1,N,e=>KI T (qJ T n) N e
noncomputable def l2:Expr->Bool
 | .ListComp .. | .SetComp .. | .DictComp ..=>true
 | _=>false
noncomputable def Bf:NameKind->Bool
 | .local=>true
 | .cell=>true
 | _=>false
noncomputable def ml(N:List (Str×NameKind))(x:Str):Option Nat:=
 (N.findIdx? (·.1 == x)).bind fun i=>(N[i]?).bind fun q=>cc (Bf q.2) (some i)
noncomputable def j3(g:Stmt->Option S):List Stmt->Option S
 | []=>some .nil
 | st::r=>bI (g st) (j3 g r) .cons
noncomputable def C0:(e:Expr)->Option { q:Expr×List Comprehension×Scope×Pos // e=.ListComp q.1 q.2.1 q.2.2.1 q.2.2.2 }
 | .ListComp elt gens scope pos=>some ⟨(elt,gens,scope,pos),rfl⟩
 | _=>none
noncomputable def CD(e:Expr):Option (Expr×List Comprehension×Scope×Pos):=(C0 e).map (·.1)
noncomputable def ny(N:List (Str×NameKind)):List Expr->Option (List Nat)
 | []=>some []
 | e::r=>bI ((m8 e).bind fun q=>ml N q.1) (ny N r) fun i l=>i::l
noncomputable def JV:Expr->Bool
 | .Name _ _=>true
 | .Call _ _ _ _=>true
 | .Subscript _ _ _=>true
 | _=>false
noncomputable def wc(T:bk)(N:List (Str×NameKind))(ze:List (Str×NameKind)->Expr->Option X)(f:Expr->Option X)(t v:Expr):Option S:=
 match t with
 | .Name z _=>i6 (CD v) (fun q=>bI (ml N z) (sV T N ze q.1 q.2.1 q.2.2.1 q.2.2.2) .asg) (cc (!l2 v) (bI (ml N z) (f v) .asg))
 | .Subscript o i _=>cc (!l2 v) (jV (f o) (f i) (f v) .asgSub)
 | .Attribute o n _=>T.brd.bind fun q=>cc (!l2 v&&kU.contains n) (bI (f o) (f v) fun o v=>.asgAttr q.2 o n v)
 | .Tuple cB _ _=>cc (JV v) (bI (ny N cB) (f v) .asgT)
 | _=>none
noncomputable def BB(T:bk)(N:List (Str×NameKind))(e:Option Expr):Option S:=
 (e.bind rn).bind fun q=>(Ao q.a).bind fun J=>(mU T N q.g).map .raise
noncomputable def Ws(T:bk)(N:List (Str×NameKind))(g:Stmt->Option S)(b:List Stmt):ExceptHandler->Option S
 | .ExceptHandler t y hb _=>(t.bind m8).bind fun q=>y.bind fun y=>(mU T N q.1).bind fun c=>(ml N y).bind fun i=>cc (N[i]? == some (y,NameKind.local)&&!hb.isEmpty)
   (bI (j3 g b) (j3 g hb) fun b h=>.tryE b (kE T c) i h)
noncomputable def BG(T:bk)(N:List (Str×NameKind))(g:Stmt->Option S)(b:List Stmt)(hs:List ExceptHandler):Option S:=(i5 hs).bind (Ws T N g b)
noncomputable def KO:(e:Expr)->Option { q:List Expr×Nat×Pos // e=.Tuple q.1 q.2.1 q.2.2 }
 | .Tuple cB k p=>some ⟨(cB,k,p),rfl⟩
 | _=>none
noncomputable def LM(e:Expr):Option (List Expr×Nat×Pos):=(KO e).map (·.1)
noncomputable def WO(T:bk)(N:List (Str×NameKind))(f:Expr->Option X)(e:Expr):Option X:=(Bs T N f "zip" 2 e).map .zip
noncomputable def wg(T:bk)(N:List (Str×NameKind))(f:Expr->Option X)(e:Expr):Option X:=
 i6 (KE T N f e) some <|
 i6 (WO T N f e) some <|
 (pi T N f e)
noncomputable def BE(T:bk)(N:List (Str×NameKind))(ze:List (Str×NameKind)->Expr->Option X)(f:Expr->Option X)(g:Stmt->Option S)(st:Stmt):Option S:=
 match st with
 | .Assign cB v _=>(i5 cB).bind fun t=>wc T N ze f t v
 | .Expr e _=>cc (!l2 e) ((f e).map .expr)
 | .Return v _=>match v with
  | some e=>(f e).map .ret
  | none=>some .ret0
 | .If t b o _=>jV (f t) (j3 g b) (j3 g o) .ife
 | .For t it b o _=>cc o.isEmpty (i6 (m8 t) (fun q=>jV (ml N q.1) (pi T N f it) (j3 g b) .for1) ((LM t).bind fun q=>jV (ny N q.1) (wg T N f it) (j3 g b) .forT))
 | .While t b o _=>cc o.isEmpty (bI (f t) (j3 g b) .whl)
 | .Break _=>some .brk
 | .Continue _=>some .cont
 | .Raise e c _=>cc c.isNone (BB T N e)
 | .Try b hs o G1 _=>cc (o.isEmpty&&G1.isEmpty) (BG T N g b hs)
 | _=>none
noncomputable def sX(T:bk)(N:List (Str×NameKind))(f:List (Str×NameKind)->Expr->Option X):Nat->Stmt->Option S
 | 0,_=>none
 | n+1,st=>BE T N f (f N) (sX T N f n) st
end
variable {m bw:aW}{xs ys os cy:List H}{α α' bb jc:ax}{C:bn}{ρ ρ' bU eA:az}{σ σ' ac ar dZ τ aK cL:aa}{cond:X}{f:List (Str×NameKind)->Expr->Option X}{es:List ((Str×Int)×H)}{T:bk}{St:Nat->Heap->ax->Prop}{tv nm pl b6 sp gr:H}{wt:Option (Nat×aW)}{fs:List (Str×H)}{cX:S}{fn:bA}{gG:H->az->Option az}{many room:Option H}
open PyProof.Rows
section
open PySem.W PySem.Calls
noncomputable def A6:Value->Option Addr
 | .ref a=>some a
 | _=>none
noncomputable def ID:Value->Option Int
 | .int i _=>some i
 | _=>none
noncomputable def Kl:Value->Option Str
 | .str s _=>some s
 | _=>none
noncomputable def Hb:Data->Option FuncData
 | .func fd=>some fd
 | _=>none
noncomputable def J5:Data->Option (Array Value×Nat)
 | .seq xs n=>some (xs,n)
 | _=>none
noncomputable def Kj:FuncBody->Option (List Stmt)
 | .stmts b=>some b
 | _=>none
noncomputable def Vh(q:Str×Str×NameKind):Bool:=q.1 == q.2.1&&Bf q.2.2
noncomputable def JQ(bj:List Str)(names:List (Str×NameKind)):Bool:=decide (bj.length<=names.length)&&(bj.zip names).all Vh
noncomputable def isNone:Value->Bool
 | .none=>true
 | _=>false
noncomputable def y8(K:Frag)(fd:FuncData):Bool:=
 codeIn K fd.code fd.qualname&&fd.globals == mainGlobals&&fd.builtins == builtinsNs&&fd.closure.isEmpty&&fd.scope.kind == .function&&!fd.scope.isCoroutine&&!fd.scope.isGenerator&&o9 fd.scope.names &&
  fd.params.posonlyargs.isEmpty&&fd.params.kwonlyargs.isEmpty&&fd.params.vararg.isNone&&fd.params.kwarg.isNone&&isNone fd.defaults&&JQ (fd.params.args.map (·.arg)) fd.scope.names
noncomputable def qn(T:bk)(n1 n2:Nat)(K:Frag)(q:Option (Option Value)):Option bA:=
 q.bind fun q=>q.bind fun v=>(A6 v).bind fun a=>(K.lookup a).bind fun o=>(Hb o.data).bind fun fd=>(Kj fd.body).bind fun body =>
  cc (y8 K fd) ((j3 (sX T fd.scope.names (qJ T n1) n2) body).map fun b=>⟨fd.params.args.length,fd.scope.names.length,b⟩)
noncomputable def jT(T:bk)(n1 n2:Nat)(K:Frag):List (Option (Option Value))->Option (List bA)
 | []=>some []
 | x::r=>bI (qn T n1 n2 K x) (jT T n1 n2 K r) List.cons
noncomputable def AN(q:Value×H):Bool:=match q.2 with
 | .str s=>Kl q.1 == some s&&PyData.strOk s
 | _=>false
noncomputable def KN(o:Obj)(xs:List H):Bool:=o.cls == .type "tuple" && o.dict.isNone&&o.slots.isEmpty&&(J5 o.data).any fun q=>q.1.toList.length == xs.length&&(q.1.toList.zip xs).all AN
noncomputable def CS(K:Frag)(v:H)(u:Value):Bool:=match v with
 | .int i=>ID u == some i
 | .str s=>AN (u,.str s)
 | .tup xs=>((A6 u).bind fun a=>K.lookup a).any fun o=>KN o xs
 | _=>false
noncomputable def ro(K:Frag)(l:List (Str×H)):Bool:=l.all fun p=>((nsIn K mainGlobals p.1).bind id).any (CS K p.2)
noncomputable def Tj(K:Frag)(x:Str):Bool:=(nsIn K mainGlobals x).any Option.isNone
noncomputable def rm(K:Frag)(l:List Str):Bool:=(K.lookup sysModules).isSome&&l.all fun x=>Tj K x&&(kW x).isSome&&!(x == ("__name__" : Str))
noncomputable def iT(h:Heap):Frag:=(List.range h.objs.size).filterMap fun a=>(h.get? a).map fun o=>(a,o)
noncomputable def ow(F:PySem.W.Frag)(T:bk)(c:Nat):Bool:=
 findIn F (.ref c) "__getattribute__" == some (some (.builtin "BaseException.__getattribute__"))&&findIn F (.ref c) "__getattr__" == some none&&findIn F (.ref c) "__class__" == some (some (.builtin "object.__class__")) &&
  subIn F (.ref c) (.type "BaseException") == some true&&subIn F (.ref c) (.type "object") == some true&&(clsIn F c).isSome &&
  T.excs.all (fun q=>kitOne F (.ref c) (.ref q.2.1) == some ((kE T q.2.1).contains c))&&kitOne F (.ref c) (.type "ValueError") == some true
noncomputable def tH(T:bk)(up:List Nat):List Str:=up.map fun d=>((T.excs.find? fun q=>q.2.1 == d).map (·.1)).getD ""
noncomputable def xG(h:Heap)(F:Frag)(T:bk)(p:Str×Nat×List Nat):Bool:=
 h.ownExcOk p.1 (tH T p.2.2) [.type "ValueError",.type "Exception",.type "BaseException",.type "object"] "ValueError.__new__" && nsIn F mainGlobals p.1 == some (some (.ref p.2.1))&&h.nsMap mainGlobals p.1 == some (.ref p.2.1) &&
  (tH T p.2.2).map (fun n=>(h.nsMap mainGlobals n).getD .none) == p.2.2.map Value.ref&&(tH T p.2.2).all fun n=>T.excs.any fun q=>q.1 == n
noncomputable def tW(h:Heap)(F:Frag)(T:bk):Bool:=
 (T.excs.all fun p=>xG h F T p&&ow F T p.2.1)
noncomputable def xb(K:Frag)(T:bk):Bool:=
 match T.brd with
 | none=>true
 | some (b,c)=>nsIn K mainGlobals b == some (some (.ref c))&&keepIn K (.ref c)&&makesIn K c&&plainOver K c&&(clsIn K c).any (·.hasDict)&&findIn K (.ref c) "__setattr__" == some (some (.builtin "object.__setattr__")) &&
   kU.all (fun n=>takerIn K c n == some none) &&
   findIn K (.ref c) "__getattribute__" == some (some (.builtin "object.__getattribute__"))&&findIn K (.ref c) "__getattr__" == some none&&kU.all (fun n=>findIn K (.ref c) n == some none) &&
   T.meths.all fun n=>(findIn K (.ref c) n).join.bind (typeIn K) == some (.type "function")
noncomputable def lR(T:bk)(K:Frag):List (Option (Option Value)):=T.fns.map (nsIn K mainGlobals ·)++T.meths.map (fun n=>T.brd.bind fun q=>findIn K (.ref q.2) n)
noncomputable def sU(h:Heap)(F:Frag)(T:bk):Bool:=tW h F T&&xb F T
noncomputable def viewOf(p:Program):Program:={ p with main:={ p.main with body:=p.main.body.filter fun s=>match s with | .Assign [.Name n _] _ _=>!(n == "__name__") | _=>true } }
noncomputable def wb(p:Program)(w:World)(qr:Nat)(pK:Option Value):Nat->SharedT->Thread->Option SharedT
 | 0,_,_=>none
 | n+1,s,t=>match through t with
  | true=>some s
  | false=>match PySem.W.Fast.tw6613529449190102663 qr pK t with
   | false=>none
   | true=>match PySem.W.Fast.tw10156331382660048174 (PySem.W.Fast.tw11892475500146522536 PySem.W.Fast.tw14364793385576792824) p w s t with
    | some (s',bx)=>wb p w qr pK n s' bx
    | none=>none
noncomputable def sY:List Obj->Nat->BT->Option BT
 | [],_,t=>some t
 | o::l,n,t=>match((t.ins n o).get n).isSome with
  | true=>sY l (n+1) (t.ins n o)
  | false=>none
noncomputable def Nh(p:Program)(h₀:Heap)(s₁:Shared):Option Shared:=
 match staticsOk (importedModules p.main.body) h₀ s₁.heap&&namesBound p s₁.heap&&gensDone s₁&&laidKept h₀ s₁.heap with
 | true=>some s₁
 | false=>none
noncomputable def si(p:Program)(w:World)(os:OsState)(N:Nat):Option Shared:=
 (sY (boot_heap w.params).objs.toList 0 .nil).bind fun T =>
  match(boot_heap w.params).isNs mainGlobals with
  | true=>(wb p w (boot_heap w.params).objs.toList.length ((boot_heap w.params).nsMap mainGlobals "__annotations__") N ⟨T,(boot_heap w.params).objs.toList.length,(boot_heap w.params).life,#[],boot_drawn,boot_toks,os⟩ (topStub p)).bind fun s=>Nh p (boot_heap w.params) s.abs
  | false=>none
noncomputable def uN(T:bk)(g:List (Option (Option Value))->List (Option (Option Value)))(s:Shared):Option (List bA):=jT T 40 30 (iT s.heap) (g (lR T (iT s.heap)))
noncomputable def TT:bk where
 fns:=[("giver_of" : Str),("end_of" : Str),("why" : Str),("is_value" : Str),("product" : Str),("chosen" : Str),("single" : Str),("outcome" : Str),("is_name" : Str),("are_names" : Str),("are_unlike" : Str),("is_rule" : Str),("is_step" : Str),("is_plan" : Str),("givers_of" : Str),("outside" : Str),("is_between" : Str),("fire_turn" : Str),("run" : Str),("_law_cell_at" : Str),("_law_next" : Str),("_law_names" : Str),("_law_value" : Str),("_law_given" : Str),("_law_rule" : Str),("_law_plan" : Str),("_law_outside" : Str),("_law_first" : Str),("_law_puts" : Str),("_law_needed" : Str),("_law_missing" : Str),("_law_fired" : Str),("_law_rest" : Str),("_law_word" : Str),("_law_giver" : Str),("_law_end_good" : Str),("_law_shown" : Str),("_law_asked" : Str),("_law_ring_good" : Str),("law" : Str)]
 cst:=[("MOST_VALUE",.int 999999),("WRAP",.int 1000000),("LETTERS",.str "abcdefghijklmnopqrstuvwxyz"),("FIGURES",.str "0123456789"),("LONGEST",.int 8),("MOST_STEPS",.int 20),("MOST_NEEDS",.int 4),("MOST_GIVES",.int 3),("PLAIN_WORDS",.tup [.str "sum",.str "times",.str "least",.str "most"]),("MOST_TURNS",.int 200)]
 bins:=["len", "list", "tuple", "sum", "min", "max", "sorted", "all", "int", "str", "bool", "ValueError", "isinstance", "range", "enumerate", "zip", "set"]
 muts:=[(53,12),(140,12),(152,12),(175,21),(250,16),(289,17),(328,21),(329,16),(348,21),(351,17),(358,17),(364,17),(392,16),(477,16)]
 excs:=[("FireError",31,[]),("NoPlan",44,[31]),("NoTurn",56,[31]),("NoPlace",68,[31]),("NoValue",80,[31]),("TokenThere",92,[31]),("NoStep",104,[31]),("Fired",116,[31]),("NotReady",128,[31]),("IsReady",140,[31]),("NoText",152,[31])]
 brd:=some ("Board",365)
 meths:=["__init__", "need_place", "need_turn", "need_step", "put", "missed", "has_fired", "is_ready", "fire"]
 dstr:=[(145,12)]
noncomputable abbrev z7:Nat:=0
noncomputable abbrev Ih:Nat:=1
noncomputable abbrev sf:Nat:=2
noncomputable abbrev r9:Nat:=3
noncomputable abbrev Iu:Nat:=4
noncomputable abbrev Ig:Nat:=5
noncomputable abbrev Iw:Nat:=6
noncomputable abbrev Ac:Nat:=7
noncomputable abbrev vj:Nat:=8
noncomputable abbrev l0:Nat:=9
noncomputable abbrev oV:Nat:=10
noncomputable abbrev Ii:Nat:=11
noncomputable abbrev Ij:Nat:=12
noncomputable abbrev vk:Nat:=13
noncomputable abbrev vi:Nat:=14
noncomputable abbrev Ad:Nat:=15
noncomputable abbrev oW:Nat:=16
noncomputable abbrev vh:Nat:=17
noncomputable abbrev Iv:Nat:=18
noncomputable abbrev g6:Nat:=19
noncomputable abbrev js:Nat:=20
noncomputable abbrev sb:Nat:=21
noncomputable abbrev se:Nat:=22
noncomputable abbrev Im:Nat:=23
noncomputable abbrev Ab:Nat:=24
noncomputable abbrev Io:Nat:=25
noncomputable abbrev vm:Nat:=26
noncomputable abbrev z8:Nat:=27
noncomputable abbrev Aa:Nat:=28
noncomputable abbrev sd:Nat:=29
noncomputable abbrev sa:Nat:=30
noncomputable abbrev Il:Nat:=31
noncomputable abbrev Ip:Nat:=32
noncomputable abbrev It:Nat:=33
noncomputable abbrev z9:Nat:=34
noncomputable abbrev Ik:Nat:=35
noncomputable abbrev Ir:Nat:=36
noncomputable abbrev p5:Nat:=37
noncomputable abbrev Iq:Nat:=38
noncomputable abbrev QA:Nat:=39
noncomputable abbrev z4:Nat:=40
noncomputable abbrev Ie:Nat:=41
noncomputable abbrev vg:Nat:=42
noncomputable abbrev z5:Nat:=43
noncomputable abbrev z6:Nat:=44
noncomputable abbrev p4:Nat:=45
noncomputable abbrev lZ:Nat:=46
noncomputable abbrev p3:Nat:=47
noncomputable abbrev Ic:Nat:=48
noncomputable abbrev Xw:Nat:=116
noncomputable abbrev bZ:Nat:=365
noncomputable abbrev bY(i:Nat):Option H:=some (.inst bZ i)
noncomputable def El:S:=(.asg 3 (.sub (.attr 365 (.v 0) "givers") (.v 1)))
noncomputable def Em:S:=(.ret (.tup #v[(.v 3),(.bin .sub (.v 2) (ae 1))]))
noncomputable def ug:S:=(.ife (.cmp (.sub (.sub (.v 3) (ae 1)) (ae 0)) .eq (.k (.str "later"))) #v[Em] .nil)
noncomputable def En:S:=(.ret (.tup #v[(.v 3),(.v 2)]))
noncomputable def Ek:bA:=⟨3,4,#v[El,ug,En]⟩
noncomputable def xT:S:=(.ife (.cmp (.v 1) .notin (.attr 365 (.v 0) "givers")) #v[(.ret (.tup #v[(.k (.str "outside"))]))] .nil)
noncomputable def xU:S:=(.asgT [4,5] (.call z7 #v[(.v 0),(.v 1),(.v 2)]))
noncomputable def ue:S:=(.ife (.cmp (.v 5) .lt (ae 0)) #v[(.ret (.tup #v[(.k (.str "first"))]))] .nil)
noncomputable def xV:S:=(.ife (.meth 365 lZ "has_fired" (.v 0) #v[(.sub (.v 4) (ae 0)),(.v 5)]) #v[(.ret (.tup #v[(.k (.str "left"))]))] .nil)
noncomputable def uf:S:=(.ife (.meth 365 p3 "is_ready" (.v 0) #v[(.v 4),(.v 5)]) #v[(.ret (.tup #v[(.k (.str "ready"))]))] .nil)
noncomputable def Ec:S:=(.ret (.tup #v[(.k (.str "ring")),(.sub (.v 3) (.tup #v[(.sub (.v 4) (ae 0)),(.v 5)]))]))
noncomputable def xW:S:=(.ife (.cmp (.tup #v[(.sub (.v 4) (ae 0)),(.v 5)]) .isin (.v 3)) #v[Ec] .nil)
noncomputable def Eb:bA:=⟨4,7,#v[xT,xU,ue,xV,uf,xW,(.ret (.k .none))]⟩
noncomputable def yV:S:=(.asg 3 (.meth 365 z5 "need_step" (.v 0) #v[(.v 1)]))
noncomputable def uL:S:=(.expr (.meth 365 vg "need_turn" (.v 0) #v[(.v 2)]))
noncomputable def uM:S:=(.ife (.meth 365 lZ "has_fired" (.v 0) #v[(.v 1),(.v 2)]) #v[(.raise 116)] .nil)
noncomputable def yW:S:=(.ife (.meth 365 p3 "is_ready" (.v 0) #v[(.v 3),(.v 2)]) #v[(.raise 140)] .nil)
noncomputable def yX:S:=(.asg 4 (.lst false .nil))
noncomputable def yY:S:=(.asg 5 (.dnew true))
noncomputable def yZ:S:=(.asg 6 (.v 2))
noncomputable def y0:S:=(.asg 7 (.k .none))
noncomputable def y2:S:=(.asgSub (.v 5) (.tup #v[(.sub (.v 3) (ae 0)),(.v 6)]) (.b1 .len (.v 4)))
noncomputable def y3:S:=(.asg 8 (.meth 365 p4 "missed" (.v 0) #v[(.v 3),(.v 6)]))
noncomputable def y4:S:=(.expr (.me .append (.v 4) #v[(.tup #v[(.sub (.v 3) (ae 0)),(.v 6),(.v 8)])]))
noncomputable def y5:S:=(.asg 7 (.call Ih #v[(.v 0),(.v 8),(.v 6),(.v 5)]))
noncomputable def GZ:S:=(.asgT [3,6] (.call z7 #v[(.v 0),(.v 8),(.v 6)]))
noncomputable def y6:S:=(.ife (.cmp (.v 7) .is (.k .none)) #v[GZ] .nil)
noncomputable def GY:S:=#v[y2,y3,y4,y5,y6]
noncomputable def y1:S:=(.whl (.cmp (.v 7) .is (.k .none)) GY)
noncomputable def G0:S:=(.ret (.tup #v[(.v 4),(.v 7)]))
noncomputable def yU:bA:=⟨3,14,#v[yV,uL,uM,yW,yX,yY,yZ,y0,y1,G0]⟩
noncomputable def uq:bA:=⟨1,5,#v[(.ret (.and #v[(.isinst (.v 0) .int),(.not (.isinst (.v 0) .bool)),(.cmp2 (ae 0) .le (.v 0) .le (ae 999999))]))]⟩
noncomputable def GF:S:=(.asg 1 (.bin .mod (.bin .mul (.v 1) (.v 2)) (ae 1000000)))
noncomputable def GD:S:=#v[GF]
noncomputable def GC:S:=(.for1 2 (.v 0) GD)
noncomputable def GB:bA:=⟨1,4,#v[(.asg 1 (ae 1)),GC,(.ret (.v 1))]⟩
noncomputable def ud:S:=(.ife (.cmp (.sub (.v 0) (ae 0)) .eq (ae 0)) #v[(.ret (.sub (.v 0) (ae 1)))] .nil)
noncomputable def Ea:S:=(.ret (.sub (.v 0) (ae 2)))
noncomputable def D9:bA:=⟨1,1,#v[ud,Ea]⟩
noncomputable def mW:S:=(.asg 2 (.sub (.v 0) (ae 0)))
noncomputable def GS:S:=(.ret (.bin .mod (.b1 .sum (.v 1)) (ae 1000000)))
noncomputable def lP:S:=(.ife (.cmp (.v 2) .eq (.k (.str "sum"))) #v[GS] .nil)
noncomputable def GU:S:=(.ret (.call Iu #v[(.v 1)]))
noncomputable def mX:S:=(.ife (.cmp (.v 2) .eq (.k (.str "times"))) #v[GU] .nil)
noncomputable def GV:S:=(.ret (.b1 .min (.v 1)))
noncomputable def oC:S:=(.ife (.cmp (.v 2) .eq (.k (.str "least"))) #v[GV] .nil)
noncomputable def GW:S:=(.ret (.b1 .max (.v 1)))
noncomputable def rC:S:=(.ife (.cmp (.v 2) .eq (.k (.str "most"))) #v[GW] .nil)
noncomputable def uJ:S:=(.ife (.cmp (.v 2) .eq (.k (.str "fixed"))) #v[(.ret (.sub (.v 0) (ae 1)))] .nil)
noncomputable def GX:S:=(.ret (.call Ig #v[(.v 1)]))
noncomputable def uK:S:=(.ife (.cmp (.v 2) .eq (.k (.str "choose"))) #v[GX] .nil)
noncomputable def yT:S:=(.ret (.sub (.v 1) (ae 0)))
noncomputable def GR:bA:=⟨2,9,#v[mW,lP,mX,oC,rC,uJ,uK,yT]⟩
noncomputable def yP:S:=(.ife (.cmp (.sub (.v 1) (ae 1)) .eq (ae 0)) #v[(.ret (.lst true #v[(.sub (.v 1) (ae 0)),(.k .none)]))] .nil)
noncomputable def rB:S:=(.ife (.cmp (.sub (.v 0) (ae 0)) .eq (.k (.str "way"))) #v[yP,(.ret (.lst true #v[(.k .none),(.sub (.v 1) (ae 0))]))] .nil)
noncomputable def yQ:S:=(.asg 3 (.call Iw #v[(.v 0),(.v 1)]))
noncomputable def Gw:X:=(.comp true 1 [none,none,some 3] (.v 2) (.k (.bool true)) (.range1 (.v 2)))
noncomputable def yR:S:=(.ret Gw)
noncomputable def Gv:bA:=⟨3,6,#v[rB,yQ,yR]⟩
noncomputable def uh:S:=(.ife (.or #v[(.not (.isinst (.v 0) .str)),(.not (.cmp2 (ae 1) .le (.b1 .len (.v 0)) .le (ae 8))),(.cmp (.sub (.v 0) (ae 0)) .notin (.k (.str "abcdefghijklmnopqrstuvwxyz")))]) #v[(.ret (.k (.bool false)))] .nil)
noncomputable def x0:S:=(.ret (.b1 .all (.comp true 1 [none,none,none,none] (.or #v[(.cmp (.v 1) .isin (.k (.str "abcdefghijklmnopqrstuvwxyz"))),(.cmp (.v 1) .isin (.k (.str "0123456789")))]) (.k (.bool true)) (.v 0))))
noncomputable def Er:bA:=⟨1,7,#v[uh,x0]⟩
noncomputable def ub:bA:=⟨2,6,#v[(.ret (.and #v[(.isinst (.v 0) .tuple),(.cmp2 (ae 1) .le (.b1 .len (.v 0)) .le (.v 1)),(.b1 .all (.comp true 1 [none,none,none] (.call vj #v[(.v 1)]) (.k (.bool true)) (.v 0)))]))]⟩
noncomputable def uc:bA:=⟨1,3,#v[(.ret (.cmp (.b1 .lenset (.v 0)) .eq (.b1 .len (.v 0))))]⟩
noncomputable def uk:S:=(.ife (.or #v[(.not (.isinst (.v 0) .tuple)),(.cmp (.b1 .len (.v 0)) .eq (ae 0)),(.not (.isinst (.sub (.v 0) (ae 0)) .str))]) #v[(.ret (.k (.bool false)))] .nil)
noncomputable def ry:S:=(.ife (.cmp (.sub (.v 0) (ae 0)) .eq (.k (.str "fixed"))) #v[(.ret (.and #v[(.cmp (.b1 .len (.v 0)) .eq (ae 2)),(.call r9 #v[(.sub (.v 0) (ae 1))])]))] .nil)
noncomputable def x4:S:=(.ife (.cmp (.b1 .len (.v 0)) .ne (ae 1)) #v[(.ret (.k (.bool false)))] .nil)
noncomputable def ul:S:=(.ife (.cmp (.sub (.v 0) (ae 0)) .eq (.k (.str "later"))) #v[(.ret (.cmp (.v 1) .eq (ae 1)))] .nil)
noncomputable def um:S:=(.ife (.cmp (.sub (.v 0) (ae 0)) .eq (.k (.str "way"))) #v[(.ret (.and #v[(.cmp (.v 1) .eq (ae 2)),(.cmp (.v 2) .eq (ae 2))]))] .nil)
noncomputable def un:S:=(.ife (.cmp (.sub (.v 0) (ae 0)) .eq (.k (.str "choose"))) #v[(.ret (.cmp (.v 1) .eq (ae 3)))] .nil)
noncomputable def x5:S:=(.ret (.cmp (.sub (.v 0) (ae 0)) .isin (.k (.tup [(.str "sum"),(.str "times"),(.str "least"),(.str "most")]))))
noncomputable def uj:bA:=⟨3,9,#v[uk,ry,x4,ul,um,un,x5]⟩
noncomputable def uo:S:=(.ife (.or #v[(.not (.isinst (.v 0) .tuple)),(.cmp (.b1 .len (.v 0)) .ne (ae 4)),(.not (.call vj #v[(.sub (.v 0) (ae 0))]))]) #v[(.ret (.k (.bool false)))] .nil)
noncomputable def pV:S:=(.ife (.or #v[(.not (.call l0 #v[(.sub (.v 0) (ae 2)),(ae 4)])),(.not (.call l0 #v[(.sub (.v 0) (ae 3)),(ae 3)])),(.not (.call oV #v[(.sub (.v 0) (ae 3))]))]) #v[(.ret (.k (.bool false)))] .nil)
noncomputable def x6:S:=(.ret (.call Ii #v[(.sub (.v 0) (ae 1)),(.b1 .len (.sub (.v 0) (ae 2))),(.b1 .len (.sub (.v 0) (ae 3)))]))
noncomputable def Ew:bA:=⟨1,10,#v[uo,pV,x6]⟩
noncomputable def Et:X:=(.comp true 1 [none,none,none] (.call Ij #v[(.v 1)]) (.k (.bool true)) (.v 0))
noncomputable def ui:S:=(.ife (.or #v[(.not (.isinst (.v 0) .tuple)),(.not (.cmp2 (ae 1) .le (.b1 .len (.v 0)) .le (ae 20))),(.not (.b1 .all Et))]) #v[(.ret (.k (.bool false)))] .nil)
noncomputable def x1:S:=(.asg 2 (.lst false .nil))
noncomputable def Ev:S:=#v[(.expr (.me .extend (.v 2) #v[(.sub (.v 1) (ae 3))]))]
noncomputable def x2:S:=(.for1 1 (.v 0) Ev)
noncomputable def Eu:X:=(.comp true 1 [none,none] (.sub (.v 1) (ae 0)) (.k (.bool true)) (.v 0))
noncomputable def x3:S:=(.ret (.and #v[(.call oV #v[Eu]),(.call oV #v[(.v 2)])]))
noncomputable def Es:bA:=⟨1,9,#v[ui,x1,x2,x3]⟩
noncomputable def Ep:S:=#v[(.asgSub (.v 1) (.v 3) (.v 2))]
noncomputable def Eo:S:=#v[(.for1 3 (.sub (.v 2) (ae 3)) Ep)]
noncomputable def xY:bA:=⟨1,4,#v[(.asg 1 (.dnew false)),(.for1 2 (.v 0) Eo),(.ret (.v 1))]⟩
noncomputable def Gx:S:=(.asg 1 (.call vi #v[(.v 0)]))
noncomputable def Gy:S:=(.asg 2 (.lst false .nil))
noncomputable def GA:S:=#v[(.ife (.and #v[(.cmp (.v 4) .notin (.v 1)),(.cmp (.v 4) .notin (.v 2))]) #v[(.expr (.me .append (.v 2) #v[(.v 4)]))] .nil)]
noncomputable def Gz:S:=#v[(.for1 4 (.sub (.v 3) (ae 2)) GA)]
noncomputable def yS:bA:=⟨1,6,#v[Gx,Gy,(.for1 3 (.v 0) Gz),(.ret (.v 2))]⟩
noncomputable def xZ:bA:=⟨3,6,#v[(.ret (.and #v[(.isinst (.v 0) .int),(.not (.isinst (.v 0) .bool)),(.cmp2 (.v 1) .le (.v 0) .le (.v 2))]))]⟩
noncomputable def Ee:S:=(.asg 2 (ae 0))
noncomputable def Eh:S:=(.expr (.meth 365 Ic "fire" (.v 0) #v[(.sub (.v 3) (ae 0)),(.v 1)]))
noncomputable def Ei:S:=(.asg 2 (.bin .add (.v 2) (ae 1)))
noncomputable def xX:S:=(.ife (.meth 365 p3 "is_ready" (.v 0) #v[(.v 3),(.v 1)]) #v[Eh,Ei] .nil)
noncomputable def Eg:S:=#v[xX]
noncomputable def Ef:S:=(.for1 3 (.attr 365 (.v 0) "plan") Eg)
noncomputable def Ej:S:=(.ret (.v 2))
noncomputable def Ed:bA:=⟨2,4,#v[Ee,Ef,Ej]⟩
noncomputable def GH:S:=(.asg 1 (ae 0))
noncomputable def GK:S:=(.asg 3 (.call vh #v[(.v 0),(.v 2)]))
noncomputable def GO:S:=(.asg 1 (.bin .add (.v 1) (.v 3)))
noncomputable def GP:S:=(.asg 3 (.call vh #v[(.v 0),(.v 2)]))
noncomputable def GN:S:=#v[GO,GP]
noncomputable def GL:S:=(.whl (.cmp (.v 3) .gt (ae 0)) GN)
noncomputable def GJ:S:=#v[GK,GL]
noncomputable def GI:S:=(.for1 2 (.range1 (.attr 365 (.v 0) "turns")) GJ)
noncomputable def GQ:S:=(.ret (.v 1))
noncomputable def GG:bA:=⟨1,6,#v[GH,GI,GQ]⟩
noncomputable def rA:bA:=⟨2,3,#v[(.ife (.cmp (.v 1) .lt (.b1 .len (.v 0))) #v[(.ret (.sub (.v 0) (.v 1)))] .nil),(.ret (ae 0))]⟩
noncomputable def uA:bA:=⟨1,2,#v[(.asg 1 (.bin .mod (.bin .add (.bin .mul (.v 0) (ae 48271)) (ae 11)) (ae 2147483647))),(.ret (.bin .mod (.bin .mul (.v 1) (.v 1)) (ae 2147483629)))]⟩
noncomputable def E2:X:=(.comp true 1 [none,none,some 0,some 1] (.bin .add (.sub (.v 3) (.bin .mod (.bin .add (.bin .fdiv (.v 2) (ae 9)) (.v 1)) (ae 12))) (.sub (.lst true #v[(.k (.str "")),(.k (.str "x"))]) (.bin .fdiv (.v 1) (ae 12)))) (.k (.bool true)) (.range1 (ae 24)))
noncomputable def yk:S:=(.ife (.cmp (.bin .mod (.v 0) (ae 9)) .eq (ae 8)) #v[(.asg 1 (.lst true #v[(.k (.str "sum")),(.k (.str "later")),(.k (.str "way")),(.k (.str "fixed")),(.k (.str "a9")),(.k (.str "b")),(.k (.str "times")),(.k (.str "choose")),(.k (.str "least")),(.k (.str "most")),(.k (.str "z0")),(.k (.str "put"))])),(.ret E2)] .nil)
noncomputable def E3:S:=(.asg 3 (.bin .add (ae 1) (.bin .mod (.v 0) (ae 8))))
noncomputable def E4:S:=(.asg 4 (.bin .mod (.bin .fdiv (.v 0) (ae 8)) (.v 3)))
noncomputable def yl:S:=#v[(.asg 6 (.sub (.v 1) (.bin .mod (.bin .add (.bin .fdiv (.v 0) (ae 64)) (.v 2)) (.sub (.lst true #v[(ae 26),(ae 36)]) (.b1 .int (.cmp (.v 4) .gt (ae 0))))))),(.expr (.me .append (.v 5) #v[(.bin .add (.bin .add (.bin .mul (.k (.str "m")) (.v 4)) (.v 6)) (.bin .mul (.k (.str "m")) (.bin .sub (.bin .sub (.v 3) (ae 1)) (.v 4))))]))]
noncomputable def E5:S:=(.for1 2 (.range1 (ae 24)) yl)
noncomputable def uz:bA:=⟨1,9,#v[yk,E3,E4,(.asg 1 (.k (.str "abcdefghijklmnopqrstuvwxyz0123456789"))),(.asg 5 (.lst false .nil)),E5,(.ret (.v 5))]⟩
noncomputable def uI:bA:=⟨1,1,#v[(.ife (.cmp (.bin .mod (.v 0) (ae 4)) .eq (ae 0)) #v[(.ret (.sub (.lst true #v[(ae 0),(ae 0),(ae 1),(ae 999999)]) (.bin .mod (.bin .fdiv (.v 0) (ae 4)) (ae 4))))] .nil),(.ife (.cmp (.bin .mod (.v 0) (ae 4)) .eq (ae 1)) #v[(.ret (.bin .mod (.bin .fdiv (.v 0) (ae 4)) (.bin .pow (ae 10) (ae 6))))] .nil),(.ret (.bin .mod (.bin .fdiv (.v 0) (ae 4)) (ae 5)))]⟩
noncomputable def EN:S:=(.ret (.sub (.lst true #v[(.lst true #v[(.sub (.v 1) (ae 0)),(.k .none)]),(.lst true #v[(.k .none),(.sub (.v 1) (ae 0))])]) (.b1 .int (.cmp (.sub (.v 1) (ae 1)) .ne (ae 0)))))
noncomputable def EM:S:=(.ife (.cmp (.sub (.v 0) (ae 0)) .eq (.k (.str "way"))) #v[EN] .nil)
noncomputable def EO:S:=(.asg 3 (.sub (.v 1) (ae 0)))
noncomputable def EP:S:=(.asg 3 (.bin .mod (.b1 .sum (.v 1)) (.bin .pow (ae 10) (ae 6))))
noncomputable def oz:S:=(.ife (.cmp (.sub (.v 0) (ae 0)) .eq (.k (.str "sum"))) #v[EP] .nil)
noncomputable def ES:S:=(.asg 3 (.bin .mod (.bin .mul (.v 3) (.v 4)) (.bin .pow (ae 10) (ae 6))))
noncomputable def ER:S:=#v[ES]
noncomputable def EQ:S:=(.for1 4 (.v 1) ER)
noncomputable def oA:S:=(.ife (.cmp (.sub (.v 0) (ae 0)) .eq (.k (.str "times"))) #v[(.asg 3 (ae 1)),EQ] .nil)
noncomputable def yi:S:=(.asg 3 (.sub (.b1 .sorted (.v 1)) (.sub (.lst true #v[(ae 0),(.neg (ae 1))]) (.b1 .int (.cmp (.sub (.v 0) (ae 0)) .eq (.k (.str "most")))))))
noncomputable def oB:S:=(.ife (.cmp (.sub (.v 0) (ae 0)) .isin (.tup #v[(.k (.str "least")),(.k (.str "most"))])) #v[yi] .nil)
noncomputable def EU:S:=(.asg 3 (.sub (.v 1) (.bin .add (ae 1) (.b1 .int (.cmp (.sub (.v 1) (ae 0)) .ne (ae 0))))))
noncomputable def ET:S:=(.ife (.cmp (.sub (.v 0) (ae 0)) .eq (.k (.str "choose"))) #v[EU] .nil)
noncomputable def EL:X:=(.comp true 1 [none,none,some 3] (.v 2) (.k (.bool true)) (.range1 (.v 2)))
noncomputable def yj:S:=(.ret EL)
noncomputable def EK:bA:=⟨3,9,#v[EM,EO,oz,oA,oB,(.ife (.cmp (.sub (.v 0) (ae 0)) .eq (.k (.str "fixed"))) #v[(.asg 3 (.sub (.v 0) (ae 1)))] .nil),ET,yj]⟩
noncomputable def uE:bA:=⟨2,4,#v[(.asg 2 (.sub (.lst true #v[(.k (.str "sum")),(.k (.str "times")),(.k (.str "least")),(.k (.str "most")),(.k (.str "fixed")),(.k (.str "later")),(.k (.str "later")),(.k (.str "way")),(.k (.str "choose")),(.k (.str "way")),(.k (.str "choose")),(.k (.str "sum"))]) (.v 1))),(.ife (.cmp (.v 2) .eq (.k (.str "fixed"))) #v[(.ret (.tup #v[(.k (.str "fixed")),(.call se #v[(.v 0)])]))] .nil),(.ret (.tup #v[(.v 2)]))]⟩
noncomputable def Fg:S:=(.asg 2 (.call sb #v[(.call g6 #v[(.v 0),(.v 1)])]))
noncomputable def uB:S:=(.asg 3 (.sub (.lst true #v[(ae 1),(ae 2),(ae 3),(ae 4),(ae 6),(ae 8)]) (.bin .mod (.call g6 #v[(.v 0),(.bin .add (.v 1) (ae 1))]) (ae 6))))
noncomputable def Fh:S:=(.asg 3 (.bin .add (ae 9) (.bin .mod (.bin .fdiv (.call g6 #v[(.v 0),(.bin .add (.v 1) (ae 1))]) (ae 60)) (ae 12))))
noncomputable def uC:S:=(.ife (.cmp (.bin .mod (.bin .fdiv (.call g6 #v[(.v 0),(.bin .add (.v 1) (ae 1))]) (ae 6)) (ae 10)) .eq (ae 1)) #v[Fh] .nil)
noncomputable def yp:S:=(.asg 4 (.sub (.lst true #v[(ae 2),(ae 4),(ae 6),(ae 9)]) (.bin .mod (.call g6 #v[(.v 0),(.bin .add (.v 1) (ae 2))]) (ae 4))))
noncomputable def Fi:S:=(.asg 5 (.lst false .nil))
noncomputable def Fd:X:=(.comp false 1 [none,none,some 2] (.sub (.v 2) (.v 1)) (.k (.bool true)) (.range1 (.min2 (ae 24) (.bin .add (.v 4) (.v 3)))))
noncomputable def yq:S:=(.asg 7 Fd)
noncomputable def yr:S:=(.asg 8 (.b1 (.list true) (.v 7)))
noncomputable def yt:S:=(.asg 9 (.call js #v[(.bin .add (.call g6 #v[(.v 0),(.bin .add (.bin .add (.v 1) (ae 3)) (.bin .mod (.v 6) (ae 8)))]) (.bin .mul (ae 977) (.v 6)))]))
noncomputable def yu:S:=(.asg 10 (.call Ab #v[(.call js #v[(.v 9)]),(.bin .mod (.bin .fdiv (.v 9) (ae 5)) (ae 12))]))
noncomputable def yv:S:=(.asg 11 (.call js #v[(.bin .add (.v 9) (ae 1))]))
noncomputable def yw:S:=(.asg 12 (.sub (.lst true #v[(.bin .add (ae 1) (.bin .mod (.v 11) (ae 4))),(ae 1)]) (.b1 .int (.cmp (.sub (.v 10) (ae 0)) .eq (.k (.str "later"))))))
noncomputable def yx:S:=(.asg 12 (.fdget ["way", "choose"] [(.int 2),(.int 3)] (.sub (.v 10) (ae 0)) (.v 12)))
noncomputable def yy:S:=(.asg 13 (.fdget ["way"] [(.int 2)] (.sub (.v 10) (ae 0)) (.sub (.lst true #v[(ae 1),(ae 1),(ae 1),(ae 2),(ae 3)]) (.bin .mod (.bin .fdiv (.v 11) (ae 4)) (ae 5)))))
noncomputable def yz:S:=(.asg 13 (.min2 (.v 13) (.b1 .len (.v 7))))
noncomputable def yA:S:=(.ife (.or #v[(.cmp (.v 13) .eq (ae 0)),(.and #v[(.cmp (.sub (.v 10) (ae 0)) .eq (.k (.str "way"))),(.cmp (.v 13) .lt (ae 2))])]) #v[.brk] .nil)
noncomputable def Fe:X:=(.comp true 1 [none,none,none,none,some 11,some 8] (.sub (.v 5) (.bin .mod (.call js #v[(.bin .add (.v 4) (.bin .mul (ae 7) (.v 1)))]) (.b1 .len (.v 5)))) (.k (.bool true)) (.range1 (.v 12)))
noncomputable def Fl:S:=(.asg 14 Fe)
noncomputable def Ff:X:=(.comp true 1 [none,none,none,none,some 7,some 11] (.me .pop (.v 4) #v[(.bin .mod (.call js #v[(.bin .add (.bin .add (.v 5) (.bin .mul (ae 31) (.v 1))) (ae 5))]) (.b1 .len (.v 4)))]) (.k (.bool true)) (.range1 (.v 13)))
noncomputable def Fm:S:=(.asg 15 Ff)
noncomputable def Fk:S:=(.expr (.me .append (.v 5) #v[(.tup #v[(.sub (.v 2) (.bin .sub (ae 23) (.v 6))),(.v 10),(.b1 .tuple (.v 14)),(.b1 .tuple (.v 15))])]))
noncomputable def uD:S:=#v[yt,yu,yv,yw,yx,yy,yz,yA,Fl,Fm,Fk]
noncomputable def Fj:S:=(.for1 6 (.range1 (.v 3)) uD)
noncomputable def Fn:S:=(.expr (.me .append (.v 5) #v[(.tup #v[(.sub (.v 2) (ae 0)),(.tup #v[(.k (.str "sum"))]),(.tup #v[(.sub (.v 2) (ae 0))]),(.tup #v[(.sub (.v 2) (ae 1))])])]))
noncomputable def yB:S:=(.ife (.cmp (.v 5) .eq (.lst true .nil)) #v[Fn] .nil)
noncomputable def Fo:S:=(.ret (.b1 .tuple (.v 5)))
noncomputable def Fc:bA:=⟨2,26,#v[Fg,uB,uC,yp,Fi,yq,yr,Fj,yB,Fo]⟩
noncomputable def E8:S:=#v[(.expr (.me .extend (.v 1) #v[(.sub (.v 2) (ae 3))]))]
noncomputable def E9:S:=(.asg 3 (.lst false .nil))
noncomputable def Fb:S:=#v[(.ife (.and #v[(.cmp (.v 4) .notin (.v 1)),(.cmp (.v 4) .notin (.v 3))]) #v[(.expr (.me .append (.v 3) #v[(.v 4)]))] .nil)]
noncomputable def Fa:S:=#v[(.for1 4 (.sub (.v 2) (ae 2)) Fb)]
noncomputable def yo:bA:=⟨1,5,#v[(.asg 1 (.lst false .nil)),(.for1 2 (.v 0) E8),E9,(.for1 2 (.v 0) Fa),(.ret (.v 3))]⟩
noncomputable def EJ:S:=#v[(.ife (.cmp (.sub (.v 2) (ae 1)) .eq (.tup #v[(.k (.str "later"))])) #v[(.expr (.me .extend (.v 1) #v[(.sub (.v 2) (ae 3))]))] .nil)]
noncomputable def yh:bA:=⟨1,3,#v[(.asg 1 (.lst false .nil)),(.for1 2 (.v 0) EJ),(.ret (.v 1))]⟩
noncomputable def Fq:S:=(.asg 4 (.lst false .nil))
noncomputable def Fs:S:=(.asg 5 (.bin .mod (.call g6 #v[(.v 0),(.v 1)]) (ae 3)))
noncomputable def Fw:S:=(.asg 9 (.call js #v[(.bin .add (.bin .add (.call g6 #v[(.v 0),(.bin .add (.bin .add (.v 1) (ae 1)) (.bin .mod (.bin .add (.v 6) (.v 8)) (ae 6)))]) (.bin .mul (ae 31) (.v 6))) (.bin .mul (ae 1009) (.v 8)))]))
noncomputable def Fy:S:=(.expr (.me .append (.v 4) #v[(.tup #v[(.v 7),(.v 8),(.call se #v[(.call js #v[(.v 9)])])])]))
noncomputable def Fx:S:=(.ife (.or #v[(.cmp (.v 5) .gt (ae 0)),(.cmp (.bin .mod (.v 9) (ae 3)) .gt (ae 0))]) #v[Fy] .nil)
noncomputable def yC:S:=#v[Fw,Fx]
noncomputable def Fv:S:=(.for1 8 (.range1 (.v 3)) yC)
noncomputable def Fu:S:=#v[Fv]
noncomputable def Ft:S:=(.forT [6,7] (.enum (.call vm #v[(.v 2)])) Fu)
noncomputable def FA:S:=(.asg 9 (.call js #v[(.bin .add (.call g6 #v[(.v 0),(.bin .add (.bin .add (.v 1) (ae 1)) (.bin .mod (.v 6) (ae 6)))]) (ae 7))]))
noncomputable def FD:S:=(.expr (.me .append (.v 4) #v[(.tup #v[(.v 7),(ae 0),(.call se #v[(.call js #v[(.v 9)])])])]))
noncomputable def FC:S:=(.ife (.cmp (.bin .mod (.v 9) (ae 5)) .gt (.bin .sub (.v 5) (ae 1))) #v[FD] .nil)
noncomputable def yD:S:=#v[FA,FC]
noncomputable def Fz:S:=(.forT [6,7] (.enum (.call z8 #v[(.v 2)])) yD)
noncomputable def FE:S:=(.ret (.v 4))
noncomputable def Fp:bA:=⟨4,17,#v[Fq,Fs,Ft,Fz,FE]⟩
noncomputable def E6:S:=(.asg 3 (.b1 (.list true) (.sub (.v 0) (ae 2))))
noncomputable def yn:S:=(.asg 3 (.lst true #v[(.sub (.v 3) (.bin .add (ae 1) (.b1 .int (.cmp (.sub (.v 1) (.tup #v[(.sub (.v 3) (ae 0)),(.v 2)])) .ne (ae 0)))))]))
noncomputable def E7:S:=(.ife (.and #v[(.cmp (.sub (.v 0) (ae 1)) .eq (.tup #v[(.k (.str "choose"))])),(.cmp (.tup #v[(.sub (.v 3) (ae 0)),(.v 2)]) .isin (.v 1))]) #v[yn] .nil)
noncomputable def ym:bA:=⟨3,6,#v[E6,E7,(.ret (.v 3))]⟩
noncomputable def EZ:X:=(.comp true 1 [none,none,some 1,some 2] (.v 1) (.cmp (.tup #v[(.v 1),(.v 3)]) .notin (.v 2)) (.call sd #v[(.v 0),(.v 1),(.v 2)]))
noncomputable def E0:S:=(.asg 3 EZ)
noncomputable def E1:S:=(.ret (.sub (.bin .add (.v 3) (.lst true #v[(.k .none)])) (ae 0)))
noncomputable def EY:bA:=⟨3,5,#v[E0,E1]⟩
noncomputable def ED:X:=(.comp true 1 [none,none,some 1,some 2] (.me .get (.v 2) #v[(.tup #v[(.v 1),(.v 3)])]) (.k (.bool true)) (.sub (.v 0) (ae 2)))
noncomputable def EE:S:=(.asg 4 ED)
noncomputable def EF:S:=(.asg 5 (.bin .add (.v 2) (.b1 .int (.cmp (.sub (.v 0) (ae 1)) .eq (.tup #v[(.k (.str "later"))])))))
noncomputable def EG:S:=(.asg 6 (.call Im #v[(.sub (.v 0) (ae 1)),(.v 4),(.b1 .len (.sub (.v 0) (ae 3)))]))
noncomputable def EI:S:=(.asgSub (.v 1) (.tup #v[(.sub (.sub (.v 0) (ae 3)) (.v 7)),(.v 5)]) (.sub (.v 6) (.v 7)))
noncomputable def yg:S:=(.ife (.and #v[(.cmp (.sub (.v 6) (.v 7)) .isNot (.k .none)),(.cmp (.v 5) .lt (.v 3))]) #v[EI] .nil)
noncomputable def uy:S:=#v[yg]
noncomputable def EH:S:=(.for1 7 (.range1 (.b1 .len (.v 6))) uy)
noncomputable def yf:bA:=⟨4,12,#v[EE,EF,EG,EH]⟩
noncomputable def FG:S:=(.asg 3 (.lst false .nil))
noncomputable def FJ:S:=(.asg 5 (.neg (ae 1)))
noncomputable def FL:S:=(.asg 5 (.b1 .len (.v 3)))
noncomputable def FO:S:=(.expr (.me .append (.v 3) #v[(.tup #v[(.sub (.v 6) (ae 0)),(.v 4)])]))
noncomputable def FP:S:=(.expr (.call Il #v[(.v 6),(.v 1),(.v 4),(.v 2)]))
noncomputable def yF:S:=(.ife (.and #v[(.cmp (.tup #v[(.sub (.v 6) (ae 0)),(.v 4)]) .notin (.v 3)),(.cmp (.call sa #v[(.v 6),(.v 1),(.v 4)]) .is (.k .none))]) #v[FO,FP] .nil)
noncomputable def FN:S:=#v[yF]
noncomputable def FM:S:=(.for1 6 (.v 0) FN)
noncomputable def yE:S:=#v[FL,FM]
noncomputable def FK:S:=(.whl (.cmp (.v 5) .lt (.b1 .len (.v 3))) yE)
noncomputable def FI:S:=#v[FJ,FK]
noncomputable def FH:S:=(.for1 4 (.range1 (.v 2)) FI)
noncomputable def FQ:S:=(.ret (.v 3))
noncomputable def FF:bA:=⟨3,11,#v[FG,FH,FQ]⟩
noncomputable def NQ:bA:=⟨1,16,#v[(.asg 1 (.bin .add (.bin .mul (.lst true #v[(.k (.str "NoPlan"))]) (.b1 .int (.isexc (.v 0) [44] [31,44,56,68,80,92,104,116,128,140,152]))) (.bin .mul (.lst true #v[(.k (.str "NoTurn"))]) (.b1 .int (.isexc (.v 0) [56] [31,44,56,68,80,92,104,116,128,140,152]))))),(.asg 1 (.bin .add (.bin .add (.v 1) (.bin .mul (.lst true #v[(.k (.str "NoPlace"))]) (.b1 .int (.isexc (.v 0) [68] [31,44,56,68,80,92,104,116,128,140,152])))) (.bin .mul (.lst true #v[(.k (.str "NoValue"))]) (.b1 .int (.isexc (.v 0) [80] [31,44,56,68,80,92,104,116,128,140,152]))))),(.asg 1 (.bin .add (.bin .add (.v 1) (.bin .mul (.lst true #v[(.k (.str "TokenThere"))]) (.b1 .int (.isexc (.v 0) [92] [31,44,56,68,80,92,104,116,128,140,152])))) (.bin .mul (.lst true #v[(.k (.str "NoStep"))]) (.b1 .int (.isexc (.v 0) [104] [31,44,56,68,80,92,104,116,128,140,152]))))),(.asg 1 (.bin .add (.bin .add (.v 1) (.bin .mul (.lst true #v[(.k (.str "Fired"))]) (.b1 .int (.isexc (.v 0) [116] [31,44,56,68,80,92,104,116,128,140,152])))) (.bin .mul (.lst true #v[(.k (.str "NotReady"))]) (.b1 .int (.isexc (.v 0) [128] [31,44,56,68,80,92,104,116,128,140,152]))))),(.asg 1 (.bin .add (.bin .add (.v 1) (.bin .mul (.lst true #v[(.k (.str "IsReady"))]) (.b1 .int (.isexc (.v 0) [140] [31,44,56,68,80,92,104,116,128,140,152])))) (.bin .mul (.lst true #v[(.k (.str "NoText"))]) (.b1 .int (.isexc (.v 0) [152] [31,44,56,68,80,92,104,116,128,140,152]))))),(.ife (.or #v[(.cmp (.b1 .len (.v 1)) .ne (ae 1)),(.not (.isexc (.v 0) [31,44,56,68,80,92,104,116,128,140,152] [31,44,56,68,80,92,104,116,128,140,152]))]) #v[(.ret (.k (.str "other")))] .nil),(.ret (.sub (.v 1) (ae 0)))]⟩
noncomputable def EW:X:=(.comp true 1 [none,none,some 1] (.v 1) (.cmp (.v 2) .isin (.sub (.v 1) (ae 3))) (.v 0))
noncomputable def EX:S:=(.ret (.sub (.bin .add EW (.lst true #v[(.k .none)])) (ae 0)))
noncomputable def EV:bA:=⟨2,2,#v[EX]⟩
noncomputable def yb:S:=(.asgT [5,6,7] (.sub (.v 3) (.neg (ae 1))))
noncomputable def yc:S:=(.asg 8 (.call z9 #v[(.v 0),(.v 7)]))
noncomputable def ut:S:=(.ife (.cmp (.v 4) .eq (.tup #v[(.k (.str "outside"))])) #v[(.ret (.cmp (.v 8) .is (.k .none)))] .nil)
noncomputable def uu:S:=(.ife (.cmp (.v 8) .is (.k .none)) #v[(.ret (.k (.bool false)))] .nil)
noncomputable def uv:S:=(.asg 9 (.bin .sub (.v 6) (.b1 .int (.cmp (.sub (.v 8) (ae 1)) .eq (.tup #v[(.k (.str "later"))])))))
noncomputable def Ez:S:=(.ret (.cmp (.v 9) .lt (ae 0)))
noncomputable def uw:S:=(.ife (.cmp (.v 4) .eq (.tup #v[(.k (.str "first"))])) #v[Ez] .nil)
noncomputable def yd:S:=(.ife (.cmp (.v 9) .lt (ae 0)) #v[(.ret (.k (.bool false)))] .nil)
noncomputable def EA:S:=(.ret (.cmp (.tup #v[(.sub (.v 8) (ae 0)),(.v 9)]) .isin (.v 2)))
noncomputable def ux:S:=(.ife (.cmp (.v 4) .eq (.tup #v[(.k (.str "left"))])) #v[EA] .nil)
noncomputable def EB:S:=(.ret (.and #v[(.cmp (.tup #v[(.sub (.v 8) (ae 0)),(.v 9)]) .notin (.v 2)),(.cmp (.call sa #v[(.v 8),(.v 1),(.v 9)]) .is (.k .none))]))
noncomputable def ye:S:=(.ife (.cmp (.v 4) .eq (.tup #v[(.k (.str "ready"))])) #v[EB] .nil)
noncomputable def EC:S:=(.ife (.or #v[(.cmp (.b1 .len (.v 4)) .ne (ae 2)),(.cmp (.sub (.v 4) (ae 0)) .ne (.k (.str "ring"))),(.not (.isinst (.sub (.v 4) (ae 1)) .int)),(.isinst (.sub (.v 4) (ae 1)) .bool)]) #v[(.ret (.k (.bool false)))] .nil)
noncomputable def Ey:S:=(.ret (.and #v[(.cmp (ae 0) .le (.sub (.v 4) (ae 1))),(.cmp (.sub (.v 4) (ae 1)) .lt (.b1 .len (.v 3))),(.cmp (.slice (.sub (.v 3) (.sub (.v 4) (ae 1))) (.k .none) (ae 2)) .eq (.tup #v[(.sub (.v 8) (ae 0)),(.v 9)]))]))
noncomputable def Ex:bA:=⟨5,16,#v[yb,yc,ut,uu,uv,uw,yd,ux,ye,EC,Ey]⟩
noncomputable def Gg:S:=(.ife (.or #v[(.not (.isinst (.v 3) .tuple)),(.cmp (.b1 .len (.v 3)) .ne (ae 2))]) #v[(.ret (.k (.bool false)))] .nil)
noncomputable def Gh:S:=(.asgT [6,7] (.v 3))
noncomputable def Gi:S:=(.ife (.or #v[(.not (.isinst (.v 6) .list)),(.not (.isinst (.v 7) .tuple))]) #v[(.ret (.k (.bool false)))] .nil)
noncomputable def Gj:S:=(.asg 8 (.tup #v[(.v 4),(.v 5)]))
noncomputable def Gl:S:=(.ife (.or #v[(.not (.isinst (.sub (.v 6) (.v 9)) .tuple)),(.cmp (.b1 .len (.sub (.v 6) (.v 9))) .ne (ae 3)),(.cmp (.slice (.sub (.v 6) (.v 9)) (.k .none) (ae 2)) .ne (.v 8))]) #v[(.ret (.k (.bool false)))] .nil)
noncomputable def Gm:S:=(.ife (.isinst (.sub (.sub (.v 6) (.v 9)) (ae 1)) .bool) #v[(.ret (.k (.bool false)))] .nil)
noncomputable def Gn:S:=(.asg 10 (.sub (.comp true 1 [none,none,some 8] (.v 1) (.cmp (.sub (.v 1) (ae 0)) .eq (.sub (.v 2) (ae 0))) (.v 0)) (ae 0)))
noncomputable def Go:S:=(.ife (.or #v[(.cmp (.v 8) .isin (.v 2)),(.cmp (.sub (.sub (.v 6) (.v 9)) (ae 2)) .is (.k .none)),(.cmp (.sub (.sub (.v 6) (.v 9)) (ae 2)) .ne (.call sa #v[(.v 10),(.v 1),(.sub (.v 8) (ae 1))]))]) #v[(.ret (.k (.bool false)))] .nil)
noncomputable def Gp:S:=(.asg 10 (.call z9 #v[(.v 0),(.sub (.sub (.v 6) (.v 9)) (ae 2))]))
noncomputable def Gf:X:=(.comp true 1 [none,none] (.slice (.v 1) (.k .none) (ae 2)) (.k (.bool true)) (.slice (.v 6) (.k .none) (.v 9)))
noncomputable def Gq:S:=(.ife (.or #v[(.cmp (.v 10) .is (.k .none)),(.cmp (.v 8) .isin Gf)]) #v[(.ret (.k (.bool false)))] .nil)
noncomputable def Gr:S:=(.asg 8 (.tup #v[(.sub (.v 10) (ae 0)),(.bin .sub (.sub (.v 8) (ae 1)) (.b1 .int (.cmp (.sub (.v 10) (ae 1)) .eq (.tup #v[(.k (.str "later"))]))))]))
noncomputable def yO:S:=(.ife (.cmp (.bin .add (.v 9) (ae 1)) .lt (.b1 .len (.v 6))) #v[Gq,Gr] .nil)
noncomputable def yN:S:=#v[Gl,Gm,Gn,Go,Gp,yO]
noncomputable def Gk:S:=(.for1 9 (.range1 (.b1 .len (.v 6))) yN)
noncomputable def Gs:S:=(.ife (.or #v[(.cmp (.v 6) .eq (.lst true .nil)),(.cmp (.v 8) .isin (.comp true 1 [none,none] (.slice (.v 1) (.k .none) (ae 2)) (.k (.bool true)) (.slice (.v 6) (.k .none) (.neg (ae 1)))))]) #v[(.ret (.k (.bool false)))] .nil)
noncomputable def Gu:S:=(.ret (.call Ik #v[(.v 0),(.v 1),(.v 2),(.v 6),(.v 7)]))
noncomputable def Ge:bA:=⟨6,21,#v[Gg,Gh,Gi,Gj,Gk,Gs,Gu]⟩
noncomputable def ya:S:=(.ret (.call sf #v[(.v 0),(.v 1),(.v 2)]))
noncomputable def ur:S:=(.ret (.call It #v[(.v 3)]))
noncomputable def x9:S:=(.tryE #v[ya] [31,44,56,68,80,92,104,116,128,140,152] 3 #v[ur])
noncomputable def x8:bA:=⟨3,7,#v[x9]⟩
noncomputable def FV:S:=(.ife (.cmp (.sub (.sub (.v 1) (ae 1)) (ae 0)) .ne (.k (.str "ring"))) #v[(.ret (.cmp (.sub (.sub (.v 1) (ae 1)) (ae 0)) .ne (.k (.str "ready"))))] .nil)
noncomputable def FW:S:=(.asg 2 (.slice (.sub (.v 1) (ae 0)) (.sub (.sub (.v 1) (ae 1)) (ae 1)) (.k .none)))
noncomputable def FS:X:=(.comp true 1 [none,none] (.sub (.v 1) (ae 0)) (.k (.bool true)) (.v 2))
noncomputable def yG:S:=(.asg 3 FS)
noncomputable def FT:X:=(.comp true 1 [none,none,some 3] (.v 1) (.and #v[(.cmp (.sub (.v 1) (ae 0)) .isin (.v 2)),(.cmp (.sub (.v 1) (ae 1)) .eq (.tup #v[(.k (.str "later"))]))]) (.v 0))
noncomputable def yH:S:=(.asg 4 FT)
noncomputable def FU:X:=(.comp true 1 [none,none,some 2] (.v 1) (.cmp (.sub (.v 1) (ae 1)) .ne (.sub (.sub (.v 2) (ae 0)) (ae 1))) (.v 2))
noncomputable def yI:S:=(.ret (.and #v[(.cmp (.b1 .len FU) .eq (ae 0)),(.cmp (.v 4) .eq (.lst true .nil))]))
noncomputable def FR:bA:=⟨2,6,#v[FV,FW,yG,yH,yI]⟩
noncomputable def FX:S:=(.asg 1 (.call Io #v[(.v 0),(ae 0)]))
noncomputable def FY:S:=(.asg 2 (.bin .add (ae 1) (.bin .mod (.call g6 #v[(.v 0),(ae 11)]) (ae 6))))
noncomputable def F0:S:=(.asg 3 (.new 365 z4 #v[(.v 1),(.v 2)]))
noncomputable def F1:S:=(.asg 4 (.dnew true))
noncomputable def F4:S:=(.expr (.meth 365 z6 "put" (.v 3) #v[(.v 5),(.v 6),(.v 7)]))
noncomputable def F5:S:=(.asgSub (.v 4) (.tup #v[(.v 5),(.v 6)]) (.v 7))
noncomputable def F3:S:=#v[F4,F5]
noncomputable def F2:S:=(.forT [5,6,7] (.call Aa #v[(.v 0),(ae 12),(.v 1),(.v 2)]) F3)
noncomputable def F6:S:=(.expr (.call Iv #v[(.v 3)]))
noncomputable def F7:S:=(.asg 8 (.call Ip #v[(.v 1),(.v 4),(.v 2)]))
noncomputable def F8:S:=(.asg 9 (.lst false .nil))
noncomputable def Gc:S:=(.asg 11 (.call p5 #v[(.v 3),(.sub (.v 10) (ae 0)),(.v 6)]))
noncomputable def uH:S:=(.ife (.cmp (.tup #v[(.sub (.v 10) (ae 0)),(.v 6)]) .isin (.v 8)) #v[(.ife (.cmp (.v 11) .ne (.k (.str "Fired"))) #v[(.ret (.k (.bool false)))] .nil),.cont] .nil)
noncomputable def yK:S:=(.ife (.or #v[(.not (.call Ir #v[(.v 1),(.v 4),(.v 8),(.v 11),(.sub (.v 10) (ae 0)),(.v 6)])),(.not (.call Iq #v[(.v 1),(.v 11)]))]) #v[(.ret (.k (.bool false)))] .nil)
noncomputable def Gd:S:=(.expr (.me .append (.v 9) #v[(.tup #v[(.sub (.v 11) (ae 0)),(.b1 (.list true) (.sub (.v 11) (ae 0)))])]))
noncomputable def yL:S:=(.ife (.cmp (.call sf #v[(.v 3),(.sub (.v 10) (ae 0)),(.v 6)]) .ne (.v 11)) #v[(.ret (.k (.bool false)))] .nil)
noncomputable def yJ:S:=#v[Gc,uH,yK,Gd,yL]
noncomputable def Gb:S:=(.for1 6 (.range1 (.v 2)) yJ)
noncomputable def Ga:S:=#v[Gb]
noncomputable def F9:S:=(.for1 10 (.v 1) Ga)
noncomputable def yM:S:=(.ife (.cmp (.b1 .len (.comp true 1 [none,none] (.v 1) (.cmp (.sub (.v 1) (ae 0)) .ne (.sub (.v 1) (ae 1))) (.v 9))) .gt (ae 0)) #v[(.ret (.k (.bool false)))] .nil)
noncomputable def FZ:S:=(.expr (.me0 .clear (.sub (.v 12) (ae 0))))
noncomputable def uF:S:=(.for1 12 (.slice (.v 9) (.k .none) (ae 1)) #v[FZ])
noncomputable def uG:S:=(.ret (.cmp (.b1 .len (.comp true 1 [none,none] (.v 1) (.cmp (.sub (.v 1) (ae 0)) .ne (.sub (.v 1) (ae 1))) (.slice (.v 9) (ae 1) (.k .none)))) .eq (ae 0)))
noncomputable def x7:bA:=⟨1,26,#v[FX,FY,F0,F1,F2,F6,F7,F8,F9,yM,uF,uG]⟩
noncomputable def DC:S:=(.ife (.not (.call vk #v[(.v 1)])) #v[(.raise 44)] .nil)
noncomputable def xJ:S:=(.ife (.not (.call oW #v[(.v 2),(ae 1),(ae 200)])) #v[(.raise 56)] .nil)
noncomputable def tY:S:=(.asgAttr 365 (.v 0) "plan" (.v 1))
noncomputable def tZ:S:=(.asgAttr 365 (.v 0) "turns" (.v 2))
noncomputable def t2:S:=(.asgAttr 365 (.v 0) "givers" (.call vi #v[(.v 1)]))
noncomputable def t3:S:=(.asgAttr 365 (.v 0) "outer" (.call Ad #v[(.v 1)]))
noncomputable def t4:S:=(.asgAttr 365 (.v 0) "here" (.dnew true))
noncomputable def t5:S:=(.asgAttr 365 (.v 0) "gone" (.dnew true))
noncomputable def t6:S:=(.asgAttr 365 (.v 0) "order" (.lst false .nil))
noncomputable def DB:bA:=⟨3,10,#v[DC,xJ,tY,tZ,t2,t3,t4,t5,t6]⟩
noncomputable def DW:S:=(.ife (.or #v[(.not (.isinst (.v 1) .str)),(.and #v[(.cmp (.v 1) .notin (.attr 365 (.v 0) "givers")),(.cmp (.v 1) .notin (.attr 365 (.v 0) "outer"))])]) #v[(.raise 68)] .nil)
noncomputable def DV:bA:=⟨2,5,#v[DW]⟩
noncomputable def D2:S:=(.ife (.not (.call oW #v[(.v 1),(ae 0),(.bin .sub (.attr 365 (.v 0) "turns") (ae 1))])) #v[(.raise 56)] .nil)
noncomputable def D1:bA:=⟨2,4,#v[D2]⟩
noncomputable def xR:S:=(.ife (.cmp (.sub (.v 2) (ae 0)) .eq (.v 1)) #v[(.ret (.v 2))] .nil)
noncomputable def D0:S:=#v[xR]
noncomputable def DZ:S:=(.for1 2 (.attr 365 (.v 0) "plan") D0)
noncomputable def DY:S:=(.ife (.isinst (.v 1) .str) #v[DZ] .nil)
noncomputable def DX:bA:=⟨2,6,#v[DY,(.raise 104)]⟩
noncomputable def D3:S:=(.expr (.meth 365 Ie "need_place" (.v 0) #v[(.v 1)]))
noncomputable def D4:S:=(.expr (.meth 365 vg "need_turn" (.v 0) #v[(.v 2)]))
noncomputable def D5:S:=(.ife (.and #v[(.cmp (.v 1) .isin (.attr 365 (.v 0) "givers")),(.or #v[(.cmp (.sub (.sub (.sub (.attr 365 (.v 0) "givers") (.v 1)) (ae 1)) (ae 0)) .ne (.k (.str "later"))),(.cmp (.v 2) .gt (ae 0))])]) #v[(.raise 68)] .nil)
noncomputable def D6:S:=(.ife (.not (.call r9 #v[(.v 3)])) #v[(.raise 80)] .nil)
noncomputable def D7:S:=(.ife (.cmp (.tup #v[(.v 1),(.v 2)]) .isin (.attr 365 (.v 0) "here")) #v[(.raise 92)] .nil)
noncomputable def D8:S:=(.asgSub (.attr 365 (.v 0) "here") (.tup #v[(.v 1),(.v 2)]) (.v 3))
noncomputable def xS:bA:=⟨4,8,#v[D3,D4,D5,D6,D7,D8]⟩
noncomputable def xO:S:=(.asg 3 (.sub (.v 1) (ae 2)))
noncomputable def DR:S:=(.asg 4 (.me .get (.attr 365 (.v 0) "here") #v[(.tup #v[(.sub (.v 3) (ae 0)),(.v 2)])]))
noncomputable def DS:S:=(.ret (.sub (.v 3) (ae 0)))
noncomputable def t8:S:=(.ife (.cmp (.v 4) .is (.k .none)) #v[DS] .nil)
noncomputable def DU:S:=(.asg 3 (.slice (.v 3) (ae 1) (ae 2)))
noncomputable def DT:S:=(.asg 3 (.slice (.v 3) (ae 2) (ae 3)))
noncomputable def t9:S:=(.ife (.cmp (.v 4) .eq (ae 0)) #v[DU] #v[DT])
noncomputable def rx:S:=(.ife (.cmp (.sub (.sub (.v 1) (ae 1)) (ae 0)) .eq (.k (.str "choose"))) #v[DR,t8,t9] .nil)
noncomputable def xQ:S:=(.ife (.cmp (.tup #v[(.v 5),(.v 2)]) .notin (.attr 365 (.v 0) "here")) #v[(.ret (.v 5))] .nil)
noncomputable def xP:S:=#v[xQ]
noncomputable def pU:S:=(.for1 5 (.v 3) xP)
noncomputable def ua:S:=(.ret (.k .none))
noncomputable def DQ:bA:=⟨3,6,#v[xO,rx,pU,ua]⟩
noncomputable def xN:bA:=⟨3,3,#v[(.ret (.cmp (.tup #v[(.v 1),(.v 2)]) .isin (.attr 365 (.v 0) "gone")))]⟩
noncomputable def DP:S:=(.ret (.and #v[(.not (.meth 365 lZ "has_fired" (.v 0) #v[(.sub (.v 1) (ae 0)),(.v 2)])),(.cmp (.meth 365 p4 "missed" (.v 0) #v[(.v 1),(.v 2)]) .is (.k .none))]))
noncomputable def DO:bA:=⟨3,3,#v[DP]⟩
noncomputable def DE:S:=(.asg 3 (.meth 365 z5 "need_step" (.v 0) #v[(.v 1)]))
noncomputable def DF:S:=(.expr (.meth 365 vg "need_turn" (.v 0) #v[(.v 2)]))
noncomputable def DG:S:=(.ife (.meth 365 lZ "has_fired" (.v 0) #v[(.v 1),(.v 2)]) #v[(.raise 116)] .nil)
noncomputable def DH:S:=(.ife (.cmp (.meth 365 p4 "missed" (.v 0) #v[(.v 3),(.v 2)]) .isNot (.k .none)) #v[(.raise 128)] .nil)
noncomputable def DI:S:=(.asgSub (.attr 365 (.v 0) "gone") (.tup #v[(.v 1),(.v 2)]) (.k (.bool true)))
noncomputable def DJ:S:=(.expr (.me .append (.attr 365 (.v 0) "order") #v[(.tup #v[(.v 1),(.v 2)])]))
noncomputable def DD:X:=(.comp true 1 [none,none,some 0,some 2] (.me .get (.attr 365 (.v 2) "here") #v[(.tup #v[(.v 1),(.v 3)])]) (.k (.bool true)) (.sub (.v 3) (ae 2)))
noncomputable def DK:S:=(.asg 5 DD)
noncomputable def DL:S:=(.asg 6 (.bin .add (.v 2) (.b1 .int (.cmp (.sub (.sub (.v 3) (ae 1)) (ae 0)) .eq (.k (.str "later"))))))
noncomputable def t7:S:=(.ife (.cmp (.v 6) .eq (.attr 365 (.v 0) "turns")) #v[.ret0] .nil)
noncomputable def DN:S:=(.asgSub (.attr 365 (.v 0) "here") (.tup #v[(.v 4),(.v 6)]) (.v 7))
noncomputable def DM:S:=(.ife (.cmp (.v 7) .isNot (.k .none)) #v[DN] .nil)
noncomputable def xM:S:=#v[DM]
noncomputable def xL:S:=(.forT [4,7] (.zip #v[(.sub (.v 3) (ae 3)),(.call Ac #v[(.sub (.v 3) (ae 1)),(.v 5),(.b1 .len (.sub (.v 3) (ae 3)))])]) xM)
noncomputable def xK:bA:=⟨3,14,#v[DE,DF,DG,DH,DI,DJ,DK,DL,t7,xL]⟩
noncomputable def PP:gB:=⟨[Ek,Eb,yU,uq,GB,D9,GR,Gv,Er,ub,uc,uj,Ew,Es,xY,yS,xZ,Ed,GG,rA,uA,uz,uI,EK,uE,Fc,yo,yh,Fp,ym,EY,yf,FF,NQ,EV,Ex,Ge,x8,FR,x7,DB,DV,D1,DX,xS,DQ,xN,DO,xK]⟩
noncomputable def topN:Nat:=4500
end
section
open PySem.W
set_option maxRecDepth 100000 in
set_option maxHeartbeats 8000000 in
theorem saidX:PySem.Challenge.rw_uf020019_08.wellSaid=true:=by decide +kernel
noncomputable abbrev vB(w:World)(os:OsState):Option Shared:=si PySem.Challenge.pw_uf020019_08 w os topN
set_option maxRecDepth 1000000 in
set_option maxHeartbeats 80000000 in
theorem RD:∀w os,(vB w os).map (fun s=>(PySem.W.Fast.tw4187177175401517315 (viewOf PySem.Challenge.pw_uf020019_08) [] (importedModules PySem.Challenge.pw_uf020019_08.main.body) (fun s=>xlAt (viewOf PySem.Challenge.pw_uf020019_08) [] s&&recOk (RowW.records (OpenRow.toRowW PySem.Challenge.rw_uf020019_08.row)) s) true s))=some (openGood (viewOf PySem.Challenge.pw_uf020019_08) []):=fun w os=>by kernel_rfl
set_option maxRecDepth 1000000 in
set_option maxHeartbeats 80000000 in
theorem RE:∀w os,(vB w os).map (fun s=>(sU s.heap (iT s.heap) TT,ro (iT s.heap) TT.cst,rm (iT s.heap) TT.bins))=some (true,true,true):=fun w os=>by kernel_rfl
set_option maxRecDepth 1000000 in
set_option maxHeartbeats 80000000 in
theorem RF:∀w os,(vB w os).map (uN TT (List.take 27))=some (some (PP.fns.take 27)):=fun w os=>by kernel_rfl
set_option maxRecDepth 1000000 in
set_option maxHeartbeats 80000000 in
theorem RG:∀w os,(vB w os).map (uN TT (List.drop 27))=some (some (PP.fns.drop 27)):=fun w os=>by kernel_rfl
noncomputable def QR:Str ⊕ Int->Value->Bool
 | .inl x,v=>Value.isStrOf x v
 | .inr i,v=>Value.isInt i v
noncomputable def Pa(w:World):Str ⊕ Int->Int
 | .inl x=>hashStr w x
 | .inr i=>hashInt i
noncomputable def qm(prog:Program)(w:World):KeyKind prog w (Str ⊕ Int) where
 is:=QR
 hash:=Pa w
 inj:=fun v a b ha hb=>by
  cases a with
  | inl x =>
   refine aL (Value.isStrOf_shape (show Value.isStrOf x v=true from ha)) fun t ag=>?_;obtain rfl:=ag
   cases b with
   | inl y=>exact congrArg Sum.inl (Value.isStrOf_inj (.str x t) x y ha hb)
   | inr j=>cases hb
  | inr i =>
   refine aL (Value.isInt_shape (show Value.isInt i v=true from ha)) fun t ag=>?_;obtain rfl:=ag
   cases b with
   | inl y=>cases hb
   | inr j=>exact congrArg Sum.inr (Value.isInt_inj (.int i t) i j ha hb)
 byValue:=fun k v h=>by
  cases k with
  | inl x=>refine aL (Value.isStrOf_shape (show Value.isStrOf x v=true from h)) fun t ag=>?_;obtain rfl:=ag;rfl
  | inr i=>refine aL (Value.isInt_shape (show Value.isInt i v=true from h)) fun t ag=>?_;obtain rfl:=ag;rfl
 pyHash:=fun{A E s k v Q} hv h=>by
  cases k with
  | inl x=>refine aL (Value.isStrOf_shape (show Value.isStrOf x v=true from hv)) fun t ag=>?_;obtain rfl:=ag;exact wpAny_pyHash_str h
  | inr i=>refine aL (Value.isInt_shape (show Value.isInt i v=true from hv)) fun t ag=>?_;obtain rfl:=ag;exact wpAny_pyHash_int h
 eqBool:=fun{A E s a b u v Q} hu hv h=>by
  cases a with
  | inl x =>
   refine aL (Value.isStrOf_shape (show Value.isStrOf x u=true from hu)) fun t ag=>?_;obtain rfl:=ag
   cases b with
   | inl y =>
    refine aL (Value.isStrOf_shape (show Value.isStrOf y v=true from hv)) fun bx ag=>?_;obtain rfl:=ag;refine wpAny_eqBool_str ?_
    have e:decide (Sum.inl (β:=Int) x=Sum.inl y)=decide (x=y):=by simp
    rw[<- e];exact h
   | inr j =>
    refine aL (Value.isInt_shape (show Value.isInt j v=true from hv)) fun bx ag=>?_;obtain rfl:=ag;exact SeqAt.EqAt.str_int x t j bx prog w E Q (by simpa using h)
  | inr i =>
   refine aL (Value.isInt_shape (show Value.isInt i u=true from hu)) fun t ag=>?_;obtain rfl:=ag
   cases b with
   | inl y =>
    refine aL (Value.isStrOf_shape (show Value.isStrOf y v=true from hv)) fun bx ag=>?_;obtain rfl:=ag;exact SeqAt.EqAt.int_str i t y bx prog w E Q (by simpa using h)
   | inr j =>
    refine aL (Value.isInt_shape (show Value.isInt j v=true from hv)) fun bx ag=>?_;obtain rfl:=ag;refine wpAny_eqBool_int ?_
    have e:decide (Sum.inr (α:=Str) i=Sum.inr j)=(i == j):=by
     by_cases q:i=j <;> simp[q]
    rw[<- e];exact h
 «strs»:=fun k x t v h=>by
  cases k with
  | inl y=>exact(strKind prog w).«strs» y x t v h
  | inr i=>cases h
structure fO where
 h:Heap
 fr:List Addr
 prog:Program
 w:World
noncomputable abbrev fO.get?(b:fO)(a:Addr):Option Obj:=b.h.get? a
structure a2 where
 hb:fO
 mg:Str->Option Value
 mb:Str->Option Value
 ph:Bool
noncomputable abbrev a2.prog(K:a2):Program:=K.hb.prog
noncomputable abbrev a2.w(K:a2):World:=K.hb.w
structure a2.Ok(K:a2):Prop where
 g:K.hb.h.Ns mainGlobals K.mg
 b:K.hb.h.Ns builtinsNs K.mb
 nolimit:K.hb.h.NoLimit
 mods:∃o,K.hb.get? sysModules=some o
noncomputable def d6(B:fO)(h:Heap)(α:ax):aW->Addr->Prop
 | .lst xs,a=>∃items n,h.get? a=some { cls:=.type "list",data:=.seq (List.toArray items) n }/\bh h α xs items
 | .ds es,a=>∃d5,h.DictOf (strKind B.prog B.w) a d5/\d5.map (·.1)=es.map (·.1)/\bh h α (es.map (·.2)) (d5.map (·.2))
 | .dp es,a=>∃xs,h.DictOfH (tupleKind (qm B.prog B.w)) a xs/\xs.map (·.1)=es.map (fun e=>[.inl e.1.1,.inr e.1.2])/\(∀x∈xs,x.2.1∉α.all)/\bh h α (es.map (·.2)) (xs.map (·.2.2))
 | .ns fs,a=>∃m,h.Ns1 a m/\(∀n v,aG n fs=some v->∃u,m n=some u/\ai h α v u)/\(∀n,aG n fs=none->m n=none)
 | .tp,a=>∃x y,h.get? a=some { cls:=.type "tuple",data:=.seq #[x,y] }
 | .no,_=>False
theorem d6.live{B:fO}(o:d6 B h α m a):∃o,h.get? a=some o:=by
 cases m with
 | lst xs=>refine cJ o fun items n e J=>?_;exact⟨_,e⟩
 | ds es=>obtain⟨d5,⟨o,_,_,e,_⟩,_⟩:=o;exact⟨o,e⟩
 | dp es=>obtain⟨d5,⟨o,_,_,e,_⟩,_⟩:=o;exact⟨o,e⟩
 | ns fs=>obtain⟨m,⟨o,_,_,e,_⟩,_⟩:=o;exact⟨o,e⟩
 | tp=>refine jm o fun x y e=>?_;exact⟨_,e⟩
 | no=>exact o.elim
theorem d6.map{B:fO}(v:∀p u,ai h α p u->ai h' α' p u)(k:h'.get? a=h.get? a)
  (cb:∀b o,b∉α.all->h.get? b=some o->kb o->h'.get? b=some o/\b∉α'.all) (o:d6 B h α m a):d6 B h' α' m a:=by
 have vs:∀{p:List H} {u:List Value},bh h α p u->bh h' α' p u:=fun r=>⟨r.1,fun i x y V ak=>v _ _ (r.2 i x y V ak)⟩
 cases m with
 | lst xs=>refine cJ o fun items n e w=>?_;exact⟨items,n,k.trans e,vs w⟩
 | ds es =>
  obtain⟨d5,⟨o,es',d9,e,r⟩,q,w⟩:=o;exact⟨d5,⟨o,es',d9,k.trans e,r⟩,q,vs w⟩
 | dp es =>
  obtain⟨xs,⟨o,es',d9,e,aV,r2,hV,nq,qy⟩,q,hn,w⟩:=o
  have key:∀x∈xs,IsTupleKey (qm B.prog B.w) h' x.1 x.2.1/\x.2.1∉α'.all:=fun x hx=>by
   refine op (nq x hx) fun o items n V ak bG kk=>?_;refine aS (cb _ o (hn x hx) V (.inl ⟨_,_,bG⟩)) fun dE dY=>?_;exact⟨⟨o,items,n,dE,ak,bG,kk⟩,dY⟩
  exact⟨xs,⟨o,es',d9,k.trans e,aV,r2,hV,fun x hx=>(key x hx).1,qy⟩,q,fun x hx=>(key x hx).2,vs w⟩
 | ns fs =>
  obtain⟨m,⟨o,es',d9,e,r⟩,q1,q2⟩:=o;exact⟨m,⟨o,es',d9,k.trans e,r⟩,fun n c6 hn=>let⟨u,dE,dY⟩:=q1 n c6 hn;⟨u,dE,v _ _ dY⟩,q2⟩
 | tp=>refine jm o fun x y e=>?_;exact⟨x,y,k.trans e⟩
 | no=>exact o.elim
theorem d6.ext{F α h α' h'}{B:fO}(x:a4 F α h α' h')(k:h'.get? a=h.get? a)(o:d6 B h α m a):d6 B h' α' m a:=
 o.map (fun J J r=>r.ext x) k fun b o hb e hs=>⟨x.seqs b o (ax.not_ix hb) e hs,x.notAll hb e⟩
structure ao(hb:fO)(h:Heap)(σ:aa)(α:ax):Prop where
 base:∀b o,hb.get? b=some o->h.get? b=some o
 fresh:∀a∈α.ix,hb.get? a=none
 nodup:α.ix.Nodup
 len:σ.length=α.ix.length
 hidden:∀a∈α.hid,a∉α.ix/\∃o,h.get? a=some o
 obj:∀(i:Nat) (m:aW) (a:Addr),σ[i]?=some m->α.ix[i]?=some a->d6 hb h α m a
 hfr:∀a∈α.hid,hb.get? a=none
 fe:α.fr=hb.fr
 frs:∀a∈hb.fr,hb.get? a=none/\∃o,h.get? a=some o/\gL o
 frNot:∀a∈hb.fr,a∉α.ix
structure cq(s s':Shared):Prop where
 gens:s'.gens=s.gens
 os:s'.os=s.os
theorem cq.refl(s:Shared):cq s s:=⟨rfl,rfl⟩
theorem cq.trans{a b c:Shared}(x:cq a b)(y:cq b c):cq a c:=⟨y.gens.trans x.gens,y.os.trans x.os⟩
noncomputable def hB(fr:List Addr)(h h':Heap):Prop:=∀b o,h.get? b=some o->h'.get? b=some o\/(b∈fr/\∃cu,h'.get? b=some { o with slots:=cu })
theorem hB.keeps(k:∀b o,h.get? b=some o->h'.get? b=some o):hB fr h h':=fun b o e=>.inl (k b o e)
theorem hB.trans{hM:Heap}(x:hB fr h h')(y:hB fr h' hM):hB fr h hM:=fun b o e=>by
 rcases x b o e with x | ⟨m,cu,x⟩
 ·exact y b o x
 ·rcases y b _ x with y | ⟨_,pb,y⟩
  ·exact .inr ⟨m,cu,y⟩
  ·exact .inr ⟨m,pb,y⟩
inductive wL(h₀ h:Heap)(a:Addr)(kx:Bool)(x:Value):Prop
 | inl (hn:kx=false) (e:x=.none):wL h₀ h a kx x
 | inr (T:Addr) (nk:Obj) (cB:Array Value) (e:x=.ref T) (h0:h₀.get? T=none) (hn:T≠a) (a3:h.get? T=some nk) (hc:nk.cls=.type "traceback") (hd:nk.data=.fields cB) (aw:3<cB.size):wL h₀ h a kx x
inductive j7(ph:Bool)(h₀ h:Heap)(c:Nat)(a:Addr)(kx:Bool):Prop
 | mk (new:h₀.get? a=none) (e6:Obj) (vs:Array Value) (x:Value) (he:h.get? a=some e6) (hc:e6.cls=.ref c) (hd:e6.data=.fields vs) (L:vs[1]?=some x) (Y5:wL h₀ h a kx x) (jO:∃y,vs[2]?=some y/\(ph=false->y=.none)):j7 ph h₀ h c a kx
theorem j7.new{ph:Bool}{kx:Bool}(x:j7 ph h₀ h c a kx):h₀.get? a=none:=by cases x;assumption
inductive gz(K:a2)(s:Shared)(α:ax)(i:Nat)(σ:aa)(kx:Bool)(e:Value)(s':Shared):Prop where
 | mk (a:Addr) (h₀:Heap) (α':ax) (he:e=.ref a) (x:a4 [] α s.heap α' h₀) (r:ao K.hb h₀ σ α') (u:hB K.hb.fr h₀ s'.heap) (bW:j7 K.ph h₀ s'.heap i a kx) (m:cq s s'):gz K s α i σ kx e s'
section
variable (K:a2){β γ:Type}(dG:Heap->ax->β->γ->Prop)
inductive cp(c:ah β)(s:Shared)(α:ax)(y:γ)(s':Shared):Prop where
 | mk (b:β) (σ':aa) (α':ax) (h:c=.ok b σ') (x:a4 [] α s.heap α' s'.heap) (r:ao K.hb s'.heap σ' α') (v:dG s'.heap α' b y) (m:cq s s'):cp c s α y s'
inductive da(wX:Around)(c:ah β)(s:Shared)(α:ax)(e:Value)(s':Shared):Prop where
 | mk (i:Nat) (σ':aa) (h:c=.exc i σ') (ey:∃eb,gz K s α i σ' eb e s'):da wX c s α e s'
noncomputable def av(A:Around)(t:Sem γ)(c:ah β)(s:Shared)(α:ax):Prop:=
 c≠.stuck->wpAny (model K.prog K.w) A t (cp K dG c s α) (da K A c s α) s
end
noncomputable def gU{β:Type}(Lp:Heap)(Lq:ax)(b y:β):Prop:=y=b
theorem gz.lift{K:a2}{e:Value}(x:a4 [] α s.heap bb s₁.heap)(m:cq s s₁)(f:gz K s₁ bb i σ eb e s'):gz K s α i σ eb e s':=by
 obtain⟨a,h₀,α',e,aO,r,u,bW,bw⟩:=f;exact⟨a,h₀,α',e,x.trans aO,r,u,bW,m.trans bw⟩
theorem da.lift{K:a2}{β:Type}{c:ah β}(x:a4 [] α s.heap bb s₁.heap)(m:cq s s₁)(p:da K A c s₁ bb y s'):da K A c s α y s':=by
 obtain⟨i,σ',e,eb,ey⟩:=p;exact⟨i,σ',e,eb,ey.lift x m⟩
section
variable {K:a2}{β γ lz qS:Type}{dG:Heap->ax->β->γ->Prop}{tj:Heap->ax->lz->qS->Prop}
theorem av.bind{t:Sem γ}{k:γ->Sem qS}{c:ah β}{f:β->aa->ah lz}(aC:av K dG A t c s α)
  (N:∀b σ' α' y s',c=.ok b σ'->a4 [] α s.heap α' s'.heap->ao K.hb s'.heap σ' α'->dG s'.heap α' b y->cq s s'->av K tj A (k y) (f b σ') s' α') :
  av K tj A (t >>= k) (c.bind f) s α:=by
 intro hc
 have L:c≠.stuck:=by rintro rfl;exact hc rfl
 refine aM (cr (aC L) (fun y s' hp=>?_) fun e s' hx=>?_)
 ·obtain⟨b,σ',α',rfl,x,r,v,m⟩:=hp;refine cr (N b σ' α' y s' rfl x r v m hc) (fun b9 kD zR=>?_) fun e kD hx=>?_
  ·obtain⟨cX,po,jA,aE,aO,aF,c6,bw⟩:=zR;exact⟨cX,po,jA,aE,x.trans aO,aF,c6,m.trans bw⟩
  ·exact hx.lift x m
 ·obtain⟨i,σ',rfl,ey⟩:=hx;exact⟨i,σ',rfl,ey⟩
theorem av.pure{y:γ}{b:β}(r:ao K.hb s.heap σ α)(v:dG s.heap α b y):av K dG A (pure y) (.ok b σ) s α:=
 fun J=>bJ ⟨b,σ,α,rfl,.refl,r,v,.refl s⟩
theorem av.standAt{t:Sem γ}{c:ah β}(aC:av K dG A t c s α):av K dG A (do standAt pos;t) c s α:=
 fun h=>aM (wpAny_standAt (aC h))
theorem av.holding{t:Sem γ}{c:ah β}(aC:av K dG A t c s α):av K dG A (holding vs t) c s α:=
 fun h=>hH (aC h)
theorem av.step{t:Sem γ}{b:β}(r:ao K.hb s.heap σ α)
  (aC:∀(Q:γ->Shared->Prop) (E:Value->Shared->Prop),(∀y s',(∀b o,s.heap.get? b=some o->s'.heap.get? b=some o)->ao K.hb s'.heap σ α->dG s'.heap α b y->cq s s'->Q y s')->wpAny (model K.prog K.w) A t Q E s) :
  av K dG A t (.ok b σ) s α:=
 fun J=>aC _ _ fun y s' k aF v m=>⟨b,σ,α,rfl,.keeps k,aF,v,m⟩
end
theorem ao.live{hb h σ α}(r:ao hb h σ α)(ha:a∈α.ix):∃o,h.get? a=some o:=by
 obtain⟨i,hi,rfl⟩:=List.mem_iff_getElem.mp ha
 have hs:i<σ.length:=by exact r.len.symm▸hi
 exact(r.obj i σ[i] α.ix[i] (by simp[hs]) (by simp[hi])).live
theorem ao.keeps{hb h h' σ α}(r:ao hb h σ α)(k:∀b o,h.get? b=some o->h'.get? b=some o):ao hb h' σ α:=
 ⟨fun b o e=>k b o (r.base b o e),r.fresh,r.nodup,r.len,fun a ha=>⟨(r.hidden a ha).1,let⟨o,e⟩:=(r.hidden a ha).2;⟨o,k a o e⟩⟩,fun i m a V ak=>(r.obj i m a V ak).ext (.keeps (F:=[]) k) (by
  refine aL (r.live (d2 ak)) fun o e=>?_
  rw[e,k a o e]),r.hfr,r.fe,fun a ha=>⟨(r.frs a ha).1,let⟨o,e,d⟩:=(r.frs a ha).2;⟨o,k a o e,d⟩⟩,r.frNot⟩
theorem ao.liveAll{hb h σ α}(r:ao hb h σ α)(ha:a∈α.all):∃o,h.get? a=some o:=by
 rcases dt.mp ha with q | q
 ·exact r.live q
 ·exact(r.hidden a q).2
theorem ao.upExt{hb h h' σ α}(r:ao hb h σ α)(u:hB hb.fr h h'):a4 [] α h α h':=by
 refine⟨rfl,⟨[],by simp,fun J hx=>(nomatch hx)⟩,fun b o hb e hs=>?_,fun b o hb J e=>?_,fun b o J e=>?_,rfl⟩
 ·rcases u b o e with u | ⟨m,_⟩
  ·exact u
  ·obtain⟨_,aP,aE,d⟩:=r.frs b m;rw[e]at aE;obtain rfl:=oi aE;exact absurd hs d.notSolid
 ·rcases u b o e with u | ⟨m,cu,u⟩
  ·exact .inl u
  ·obtain⟨_,aP,aE,d⟩:=r.frs b m;rw[e]at aE;obtain rfl:=oi aE;exact .inr ⟨r.fe▸m,d,cu,u⟩
 ·rcases u b o e with u | ⟨m,cu,u⟩
  ·exact⟨_,u⟩
  ·exact⟨_,u⟩
theorem ao.up{hb h h' σ α}(r:ao hb h σ α)(u:hB hb.fr h h'):ao hb h' σ α:=by
 have x:=r.upExt u;refine⟨fun b o e=>?_,r.fresh,r.nodup,r.len,fun a ha=>⟨(r.hidden a ha).1,?_⟩,fun i m a V ak=>?_,r.hfr,r.fe,fun a ha=>⟨(r.frs a ha).1,?_⟩,r.frNot⟩
 ·rcases u b o (r.base b o e)with u | ⟨m,_⟩
  ·exact u
  ·rw[(r.frs b m).1]at e;contradiction
 ·refine aL ((r.hidden a ha).2) fun o e=>?_;exact x.alive a o ((et)) e
 ·refine(r.obj i m a V ak).ext x ?_;refine aL (r.live (d2 ak)) fun o e=>?_
  rcases u a o e with u | ⟨m,_⟩
  ·rw[e,u]
  ·exact absurd (d2 ak) (r.frNot a m)
 ·obtain⟨_,o,e,d⟩:=r.frs a ha
  rcases u a o e with u | ⟨m,cu,u⟩
  ·exact⟨o,u,d⟩
  ·exact⟨_,u,d⟩
end
variable {K:a2}{hb:fO}
noncomputable def ax.add(α:ax)(D:Addr):ax:=⟨α.ix++[D],α.hid,α.fr⟩
theorem a4.add(k:∀b o,h.get? b=some o->h'.get? b=some o)(hD:h.get? D=none):a4 [] α h (α.add D) h':=
 ⟨rfl,⟨[D],rfl,fun y hy=>by simp at hy;exact hy.symm▸(⟨hD,(et)⟩)⟩,fun b o J e J=>k b o e,fun b o J J e=>.inl (k b o e),fun b o J e=>⟨o,k b o e⟩,rfl⟩
theorem ao.add{hb h h' σ α}(r:ao hb h σ α)(k:∀b o,h.get? b=some o->h'.get? b=some o)(hD:h.get? D=none)
  (o:d6 hb h' (α.add D) m D):ao hb h' (σ++[m]) (α.add D)/\a4 [] α h (α.add D) h':=by
 have x:a4 [] α h (α.add D) h':=.add k hD
 have uS:D∉α.all:=fun hm=>by refine aL (r.liveAll hm) fun o e=>?_;rw[hD]at e;contradiction
 refine⟨⟨fun b o e=>k b o (r.base b o e),fun a ha=>?_,?_,by simp[ax.add,r.len],fun a ha=>?_,fun i bw a V ak=>?_,r.hfr,r.fe,fun a ha=>⟨(r.frs a ha).1,let⟨o,e,d⟩:=(r.frs a ha).2;⟨o,k a o e,d⟩⟩,fun a ha=>?_⟩,x⟩
 ·rcases dt.mp ha with q | q
  ·exact r.fresh a q
  ·simp at q;subst q
   cases hq:hb.get? a with
   | none=>rfl
   | some o=>rw[r.base _ _ hq]at hD;contradiction
 ·show(α.ix++[D]).Nodup;rw[gC];exact⟨r.nodup,by simp,fun a ha b hb=>by simp at hb;subst hb;rintro rfl;exact ax.not_ix uS ha⟩
 ·have jQ:a∈α.hid:=ha;refine⟨fun q=>?_,let⟨o,e⟩:=(r.hidden a jQ).2;⟨o,k a o e⟩⟩
  rcases dt.mp q with q | q
  ·exact(r.hidden a jQ).1 q
  ·simp at q;subst q;exact uS (d7 _ jQ)
 ·have mS:(α.ix++[D])[i]?=some a:=ak;by_cases hi:i<σ.length
  ·rw[iA hi]at V;rw[iA (r.len▸hi)]at mS;have:=r.obj i bw a V mS
   have hk:h'.get? a=h.get? a:=by
    refine aL (r.live (d2 mS)) fun o e=>?_;rw[e,k a o e]
   exact this.ext x hk
  ·have bG:i=σ.length:=by
    have:=(dX V).1;simp at this;(grind)
   subst bG;rw[h4 (dA _)]at V;rw[h4 (r.len▸(dA _))]at mS;simp[r.len]at V mS;subst V mS;exact o
 ·intro q
  rcases dt.mp q with q | q
  ·exact r.frNot a ha q
  ·simp at q;subst q;obtain⟨_,o,e,_⟩:=r.frs a ha;rw[hD]at e;contradiction
theorem hP(h:n<=aI):n<=sizeLine:=aH h (by decide)
theorem Tc(r:ao K.hb s.heap σ α)(v:bh s.heap α xs vs) :
  av K ai A (newList vs) (eW a9 xs σ) s α:=by
 intro hc;unfold eW at hc ⊢;by_cases hl:xs.length<=aI
 ·rw[aD hl]
  have hD:s.heap.get? s.heap.objs.size=none:=by
   cases hq:s.heap.get? s.heap.objs.size with
   | none=>rfl
   | some o=>exact absurd (e0 hq) (Nat.lt_irrefl _)
  have k:∀b o,s.heap.get? b=some o->(s.heap.push { cls:=.type "list",data:=.seq vs.toArray }).get? b=some o:=fun b o e=>c3 _ e;refine wpAny_newObj_type ?_ (by show vs.toArray.size<=sizeLine;exact fc.symm▸v.1▸(hP hl))
  cases a9 with
  | true =>
   refine⟨_,_,_,rfl,.keeps k,r.keeps k,?_,⟨rfl,rfl⟩⟩;refine ai.flI (n:=0) (ef _ rfl) (fun hm=>?_) (v.ext (.keeps (F:=[]) k));refine aL (r.liveAll hm) fun o e=>?_;rw[hD]at e;contradiction
  | false =>
   refine aS (r.add (D:=s.heap.objs.size) (m:=.lst xs) k hD ⟨vs,0,ef _ rfl,v.ext (.add k hD)⟩) fun aF x=>?_;refine⟨_,_,_,rfl,x,aF,.ref ?_,⟨rfl,rfl⟩⟩;rw[r.len];simp[ax.add]
 ·rw[aY hl]at hc;exact absurd rfl hc
theorem Td(r:ao K.hb s.heap σ α)(v:bh s.heap α xs vs) :
  av K ai A (newTuple vs) (if xs.length<=aI then .ok (.tup xs) σ else .stuck) s α:=by
 intro hc;by_cases hl:xs.length<=aI
 ·rw[aD hl]
  have hD:s.heap.get? s.heap.objs.size=none:=by
   cases hq:s.heap.get? s.heap.objs.size with
   | none=>rfl
   | some o=>exact absurd (e0 hq) (Nat.lt_irrefl _)
  have k:∀b o,s.heap.get? b=some o->(s.heap.push { cls:=.type "tuple",data:=.seq vs.toArray }).get? b=some o:=fun b o e=>c3 _ e;refine wpAny_newObj_type ?_ (by show vs.toArray.size<=sizeLine;exact fc.symm▸v.1▸(hP hl));refine⟨_,_,_,rfl,.keeps k,r.keeps k,?_,⟨rfl,rfl⟩⟩;refine ai.tupI (n:=0) (ef _ rfl) (fun hm=>?_) (v.ext (.keeps (F:=[]) k));refine aL (r.liveAll hm) fun o e=>?_;rw[hD]at e;contradiction
 ·rw[aY hl]at hc;exact absurd rfl hc
theorem vF{f:H->Option PyData}:∀{xs:List H} {vs:List Value} {ds:List PyData},xs.mapM f=some ds->xs.length=vs.length ->
  (∀(i:Nat) (x:H) (v:Value) (d:PyData),xs[i]?=some x->vs[i]?=some v->f x=some d->∃as,Reads h v d as/\d.canLay0=true/\d.depth<=n) ->
  ∃as,ReadsAll h vs ds as/\PyData.canLayAll0 ds=true/\PyData.depthAll ds<=n:=by
 intro xs
 induction xs with
 | nil =>
  intro vs ds e hl _;obtain rfl:=hE hl.symm;obtain rfl:=oi e;exact⟨[],.nil,rfl,Nat.zero_le _⟩
 | cons x xs aj =>
  intro vs ds e hl aC
  cases vs with
  | nil=>exact nomatch hl
  | cons v vs =>
   rw[List.mapM_cons]at e
   cases hx:f x with
   | none=>rw[hx]at e;contradiction
   | some d =>
    rw[hx]at e
    cases hr:xs.mapM f with
    | none=>rw[hr]at e;contradiction
    | some Yg =>
     rw[hr]at e;obtain rfl:=oi e;refine bu (aC 0 x v d rfl rfl hx) fun as aV cE iS=>?_;refine bu (aj hr (Nat.succ.inj hl) fun i y w e2 V ak bG=>aC (i+1) y w e2 V ak bG) fun bs r2 e1 mR=>?_;exact⟨as++bs,.cons aV r2,Bool.and_eq_true_iff.mpr ⟨cE,e1⟩,Nat.max_le.mpr ⟨iS,mR⟩⟩
theorem qA(r:ao hb h σ α):∀(n:Nat) (p:H) (v:Value) (d:PyData),ai h α p v->toD n σ p=some d->∃as,Reads h v d as/\d.canLay0=true/\d.depth<=n:=by
 intro n
 induction n with
 | zero=>intro p v d _ e;exact nomatch e
 | succ n aj =>
  intro p v d hv e
  cases p with
  | exc c=>exact nomatch e
  | inst c i=>exact nomatch e
  | none=>obtain rfl:=hv.noneE;obtain rfl:=oi e;exact⟨[],.none,rfl,Nat.zero_le _⟩
  | bool b=>obtain rfl:=hv.boolE;obtain rfl:=oi e;exact⟨[],.bool _,rfl,Nat.zero_le _⟩
  | int i=>refine aL hv.intE fun J ag=>?_;obtain rfl:=ag;obtain rfl:=oi e;exact⟨[],.int _ _,rfl,Nat.zero_le _⟩
  | str x=>refine ay hv.strE fun J ag hs=>?_;obtain rfl:=ag;obtain rfl:=oi e;exact⟨[],.str _ _,hs,Nat.zero_le _⟩
  | tup xs =>
   obtain⟨a,items,k,rfl,V,_,vs⟩:=hv.tupE;change(xs.mapM (toD n σ)).map PyData.tuple=_ at e
   cases hm:xs.mapM (toD n σ)with
   | none=>rw[hm]at e;contradiction
   | some ds =>
    rw[hm]at e;obtain rfl:=oi e;refine bu (vF (n:=n) hm vs.1 fun i x v d V ak bG=>aj x v d (vs.2 i x v V ak) bG) fun as aV cE iS=>?_;exact⟨as,.tuple V rfl rfl (by simpa using aV),by simpa[PyData.canLay0]using cE,Nat.succ_le_succ iS⟩
  | fl xs =>
   obtain⟨a,items,k,rfl,V,_,vs⟩:=hv.flE;change(xs.mapM (toD n σ)).map PyData.list=_ at e
   cases hm:xs.mapM (toD n σ)with
   | none=>rw[hm]at e;contradiction
   | some ds =>
    rw[hm]at e;obtain rfl:=oi e;refine bu (vF (n:=n) hm vs.1 fun i x v d V ak bG=>aj x v d (vs.2 i x v V ak) bG) fun as aV cE iS=>?_;exact⟨a::as,.list V rfl rfl (by simpa using aV),by simpa[PyData.canLay0]using cE,Nat.succ_le_succ iS⟩
  | ref i =>
   refine ay hv.refE fun a ag bW=>?_;obtain rfl:=ag
   change(match σ[i]? with
    | some (.lst xs)=>(xs.mapM (toD n σ)).map PyData.list
    | _=>none)=_ at e
   cases hs:σ[i]? with
   | none=>rw[hs]at e;contradiction
   | some m =>
    rw[hs]at e
    cases m with
    | lst xs =>
     change(xs.mapM (toD n σ)).map PyData.list=_ at e
     cases hm:xs.mapM (toD n σ)with
     | none=>rw[hm]at e;contradiction
     | some ds =>
      rw[hm]at e;obtain rfl:=oi e;refine cJ (r.obj i _ a hs bW) fun items k V vs=>?_;refine bu (vF (n:=n) hm vs.1 fun i x v d V ak bG=>aj x v d (vs.2 i x v V ak) bG) fun as aV cE iS=>?_;exact⟨a::as,.list V rfl rfl (by simpa using aV),by simpa[PyData.canLay0]using cE,Nat.succ_le_succ iS⟩
    | _=>exact nomatch e
theorem v4{d:PyData}(c:d.canLay0=true)(h:d.depth<=16):SeqAt.shaped d=true:=by
 unfold SeqAt.shaped;rw[c];simp;(exact aH (by assumption) (by decide))
noncomputable def ep(Lp:Heap)(Lq:ax)(b:Bool)(y:Value):Prop:=y=.bool b
structure ec(A:Around):Prop where
 depth:A.depth+200<recursionLimit
 units:A.units+200<cLine
theorem ML{a b:H}{x:Value}(hA:ec A)(r:ao K.hb s.heap σ α)(va:ai s.heap α a x)(vb:ai s.heap α b y) :
  av K ep A (compareOp .Eq x y) (ah.ofOpt (eqv σ a b) σ) s α:=by
 intro hc;unfold eqv at hc ⊢
 cases L:toD 16 σ a with
 | none=>rw[L]at hc;exact absurd rfl hc
 | some iS =>
  cases O:toD 16 σ b with
  | none=>rw[L,O]at hc;exact absurd rfl hc
  | some mR =>
   refine bu (qA r 16 a x iS va L) fun as aV cE bE=>?_;refine bu (qA r 16 b y mR vb O) fun bs r2 e1 bS=>?_;exact eq_dataH aV r2 (v4 cE bE) (v4 e1 bS) (by have:=hA.units;(grind)) ⟨_,σ,α,rfl,.refl,r,rfl,.refl s⟩
theorem MM{a b:H}{x:Value}(hA:ec A)(r:ao K.hb s.heap σ α)(va:ai s.heap α a x)(vb:ai s.heap α b y) :
  av K ep A (compareOp .NotEq x y) (ah.ofOpt ((eqv σ a b).map (!·)) σ) s α:=by
 intro hc;unfold eqv at hc ⊢
 cases L:toD 16 σ a with
 | none=>rw[L]at hc;exact absurd rfl hc
 | some iS =>
  cases O:toD 16 σ b with
  | none=>rw[L,O]at hc;exact absurd rfl hc
  | some mR =>
   refine bu (qA r 16 a x iS va L) fun as aV cE bE=>?_;refine bu (qA r 16 b y mR vb O) fun bs r2 e1 bS=>?_;exact ne_dataH aV r2 (v4 cE bE) (v4 e1 bS) (by have:=hA.units;(grind)) ⟨_,σ,α,rfl,.refl,r,rfl,.refl s⟩
section
variable {dx my:Type}[DecidableEq dx][DecidableEq my]{g:dx->my}
theorem Lx{e:dx×H}{es:List (dx×H)}{k:dx}:aG k (e::es)=if e.1=k then some e.2 else aG k es:=by
 unfold aG;rw[jL];by_cases q:e.1=k
 ·simp[q]
 ·simp[q]
theorem KU{e:my×Value}{es:List (my×Value)}{k:my}:valueAt (e::es) k=if e.1=k then some e.2 else valueAt es k:=by
 unfold valueAt;rw[jL];by_cases q:e.1=k
 ·simp[q]
 ·simp[q]
theorem pJ(hg:∀a b,g a=g b->a=b):∀{es:List (dx×H)} {ys:List (my×Value)},ys.map (·.1)=es.map (fun e=>g e.1)->bh h α (es.map (·.2)) (ys.map (·.2))->∀k,
  (∀v,aG k es=some v->∃u,valueAt ys (g k)=some u/\ai h α v u)/\(aG k es=none->valueAt ys (g k)=none):=by
 intro es
 induction es with
 | nil =>
  intro ys L _ k;obtain rfl:=List.map_eq_nil_iff.mp L;exact⟨fun v e=>(by contradiction),fun J=>rfl⟩
 | cons e es aj =>
  intro ys L O k
  cases ys with
  | nil=>exact nomatch L
  | cons y ys =>
  refine aS (List.cons.inj L) fun pX zn=>?_;refine jn O.inv_cons fun u us q aX bz=>?_;cases q;rw[Lx,KU,show y.1=g e.1 from pX];by_cases q:e.1=k
  ·rw[aD q,aD (by rw[q])];exact⟨fun v aE=>(by obtain rfl:=oi aE;exact⟨_,rfl,aX⟩),fun aE=>(by contradiction)⟩
  ·rw[aY q,aY (fun z=>q (hg _ _ z))];exact aj zn bz k
theorem Cw(hg:∀a b,g a=g b->a=b):∀{es:List (dx×H)} {ys:List (my×Value)},ys.map (·.1)=es.map (fun e=>g e.1)->∀k,(ys.any fun y=>decide (y.1=g k))=es.any fun e=>decide (e.1=k)
 | [],ys,L,k=>by
  have:ys=[]:=by simpa using L
  subst this;rfl
 | e::es,[],L,k=>(nomatch L)
 | e::es,y::ys,L,k=>by
  simp only[dD,List.cons.injEq]at L;rw[List.any_cons,List.any_cons,Cw hg L.2 k,L.1];congr 1;by_cases q:e.1=k
  ·simp[q]
  ·rw[fx q,fx (fun z=>q (hg _ _ z))]
theorem Ue(hg:∀a b,g a=g b->a=b){k:dx}{v:H}(di:ai h α v u):∀{es:List (dx×H)} {ys:List (my×Value)},ys.map (·.1)=es.map (fun e=>g e.1)->bh h α (es.map (·.2)) (ys.map (·.2)) ->
  (ys.map fun y=>if y.1=g k then(y.1,u)else y).map (·.1)=(es.map fun e=>if e.1=k then(e.1,v)else e).map (fun e=>g e.1) ∧
  bh h α ((es.map fun e=>if e.1=k then(e.1,v)else e).map (·.2)) ((ys.map fun y=>if y.1=g k then(y.1,u)else y).map (·.2)):=by
 intro es
 induction es with
 | nil =>
  intro ys L O;obtain rfl:=List.map_eq_nil_iff.mp L;exact⟨rfl,.nil⟩
 | cons e es aj =>
  intro ys L O
  cases ys with
  | nil=>exact nomatch L
  | cons y ys =>
  refine aS (List.cons.inj L) fun pX zn=>?_;refine jn O.inv_cons fun w ws q aX bz=>?_;cases q;refine aS (aj zn bz) fun bL ck=>?_;rw[dD,dD,dD,dD,dD,dD,bL];by_cases q:e.1=k
  ·rw[aD q,aD (by rw[show y.1=g e.1 from pX,q])];exact⟨by rw[show y.1=g e.1 from pX],.cons di ck⟩
  ·rw[aY q,aY (fun z=>q (hg _ _ ((show y.1=g e.1 from pX).symm.trans z)))];exact⟨by rw[show y.1=g e.1 from pX],.cons aX ck⟩
theorem CB(hg:∀a b,g a=g b->a=b){k:dx}{v:H}{es:List (dx×H)}{ys:List (my×Value)}(L:ys.map (·.1)=es.map (fun e=>g e.1))(O:bh h α (es.map (·.2)) (ys.map (·.2)))(di:ai h α v u) :
  (stored ys (g k) u).map (·.1)=(eg k v es).map (fun e=>g e.1)/\bh h α ((eg k v es).map (·.2)) ((stored ys (g k) u).map (·.2)):=by
 unfold stored eg;rw[Cw hg L k]
 split
 ·exact Ue hg di L O
 ·rw[eu,eu,eu,eu,L];exact⟨rfl,O.append #v[di]⟩
end
noncomputable def lj(k:Str×Int):List (Str ⊕ Int):=[.inl k.1,.inr k.2]
theorem vx(a b:Str×Int)(h:lj a=lj b):a=b:=by
 unfold lj at h;simp only[List.cons.injEq,Sum.inl.injEq,Sum.inr.injEq,and_true]at h;exact Prod.ext h.1 h.2
theorem Rq{p:H}{k:Str×Int}(h:g8 p=some k):p=.tup [.str k.1,.int k.2]:=qk (o:=IN p) h
theorem vy{p:H}{k:Str×Int}{x:Value}(h:g8 p=some k)(v:ai s.heap α p x):∃a,x=.ref a/\IsTupleKey (qm K.prog K.w) s.heap (lj k) a/\a∉α.all:=by
 rw[Rq h]at v;obtain⟨a,items,n,rfl,e,hn,w⟩:=v.tupE;refine cJ w.inv_cons fun wk us ag bp=>?_;obtain rfl:=ag;obtain⟨lw,lx⟩:=bp;refine cJ lx.inv_cons fun KR us ag bp=>?_;obtain rfl:=ag;obtain⟨Xh,qN⟩:=bp;have:us=[]:=hE qN.1.symm;subst this
 cases lw with | str _ t1 _ =>
 cases Xh with | int _ cO =>
 refine⟨a,rfl,⟨_,_,n,e,rfl,rfl,?_⟩,hn⟩;refine .cons ?_ #v[?_]
 ·show Value.isStrOf k.1 (.str k.1 t1)=true;simp[Value.isStrOf]
 ·show Value.isInt k.2 (.int k.2 cO)=true;simp[Value.isInt]
theorem vP(hK:K.Ok)(r:ao K.hb s.heap σ α)(ha:a∈α.ix):(a == sysModules)=false:=by
 refine aL hK.mods fun o e=>?_;rw[kR]
 rintro rfl
 rw[r.fresh _ ha]at e;contradiction
theorem sI(hA:ec A):(tupleKind (qm K.prog K.w)).room A.in1:=by
 have:=hA.units;show A.units+1<cLine
 (grind)
theorem pO(r:ao K.hb s.heap σ α)(hs:σ[i]?=some (.dp es))(bW:α.ix[i]?=some a) :
  ∃xs,s.heap.DictOfH (tupleKind (qm K.prog K.w)) a xs/\(kvsOf xs).map (·.1)=es.map (fun e=>lj e.1)/\(∀x∈xs,x.2.1∉α.all)/\bh s.heap α (es.map (·.2)) ((kvsOf xs).map (·.2)):=by
 refine om (r.obj i _ a hs bW) fun xs L O aw aQ=>?_;refine⟨xs,L,?_,aw,?_⟩
 ·rw[kvsOf,fV];exact O
 ·rw[kvsOf,fV];exact aQ
theorem pP{es:List (Str×H)}(r:ao K.hb s.heap σ α)(hs:σ[i]?=some (.ds es))(bW:α.ix[i]?=some a) :
  ∃d5,s.heap.DictOf (strKind K.prog K.w) a d5/\d5.map (·.1)=es.map (fun e=>id e.1)/\bh s.heap α (es.map (·.2)) (d5.map (·.2)):=r.obj i _ a hs bW
theorem sR{k:Str}{t:Tok}:(strKind K.prog K.w).is k (.str k t)=true:=by
 show Value.isStrOf k (.str k t)=true;simp[Value.isStrOf]
theorem QF{p:H}{k:Str×Int}{x:Value}(hK:K.Ok)(hA:ec A)(r:ao K.hb s.heap σ α)(hs:σ[i]?=some (.dp es))(bW:α.ix[i]?=some a)(hk:g8 p=some k)(lv:ai s.heap α p x) :
  av K ep A (compareOp .In x (.ref a)) (.ok (aG k es).isSome σ) s α/\av K ep A (compareOp .NotIn x (.ref a)) (.ok (!(aG k es).isSome) σ) s α:=by
 refine om (pO r hs bW) fun xs L O J aQ=>?_;refine ay (vy (K:=K) hk lv) fun b ag bp=>?_;obtain rfl:=ag;refine aS bp fun hb J=>?_
 have e:(atKey xs (lj k)).isSome=(aG k es).isSome:=by
  have:=pJ vx O aQ k;rw[valueAt_kvsOf]at this
  cases hq:aG k es with
  | none=>have:=this.2 hq;cases a7:atKey xs (lj k)with | none=>rfl | some z=>rw[a7]at this;contradiction
  | some v=>refine ay (this.1 v hq) fun u z J=>?_;cases a7:atKey xs (lj k)with | none=>rw[a7]at z;cases z | some z=>rfl
 have hm:=vP hK r (d2 bW);exact⟨fun J=>wpAny_in_heap (sI hA) hb hm L (by rw[e];exact⟨_,σ,α,rfl,.refl,r,rfl,⟨rfl,rfl⟩⟩),fun J=>wpAny_notIn_heap (sI hA) hb hm L (by rw[e];exact⟨_,σ,α,rfl,.refl,r,rfl,⟨rfl,rfl⟩⟩)⟩
theorem QG{es:List (Str×H)}{k:Str}{t:Tok}(hK:K.Ok)(r:ao K.hb s.heap σ α)(hs:σ[i]?=some (.ds es))(bW:α.ix[i]?=some a) :
  av K ep A (compareOp .In (.str k t) (.ref a)) (.ok (aG k es).isSome σ) s α/\av K ep A (compareOp .NotIn (.str k t) (.ref a)) (.ok (!(aG k es).isSome) σ) s α:=by
 refine bu (pP r hs bW) fun d5 L O aQ=>?_
 have e:(valueAt d5 k).isSome=(aG k es).isSome:=by
  have:=pJ (g:=id) (fun J J h=>h) O aQ k
  cases hq:aG k es with
  | none=>have:=this.2 hq;simp only[id]at this;rw[this];rfl
  | some v=>refine ay (this.1 v hq) fun u z J=>?_;simp only[id]at z;rw[z];rfl
 have hm:=vP hK r (d2 bW);exact⟨fun J=>wpAny_in_of sR hm L.mapOf (by rw[e];exact⟨_,σ,α,rfl,.refl,r,rfl,⟨rfl,rfl⟩⟩),fun J=>wpAny_notIn_of sR hm L.mapOf (by rw[e];exact⟨_,σ,α,rfl,.refl,r,rfl,⟨rfl,rfl⟩⟩)⟩
theorem Rf{p v:H}{k:Str×Int}{x:Value}(hA:ec A)(r:ao K.hb s.heap σ α)(hs:σ[i]?=some (.dp es))(bW:α.ix[i]?=some a)(hk:g8 p=some k)(lv:ai s.heap α p x)(hv:aG k es=some v) :
  wpAny (model K.prog K.w) A (getItem (.ref a) x) (cp K ai (.ok v σ) s α) E s:=by
 refine om (pO r hs bW) fun xs L O J aQ=>?_;refine ay (vy (K:=K) hk lv) fun b ag bp=>?_;obtain rfl:=ag;refine aS bp fun hb J=>?_;refine ay ((pJ vx O aQ k).1 v hv) fun u z di=>?_;rw[valueAt_kvsOf]at z;refine ay (Option.map_eq_some_iff.mp z) fun q hq ag=>?_;obtain rfl:=ag;exact wpAny_getItem_heap (sI hA) hb L hq ⟨_,σ,α,rfl,.refl,r,di,⟨rfl,rfl⟩⟩
theorem Rg{es:List (Str×H)}{v:H}{k:Str}{t:Tok}(r:ao K.hb s.heap σ α)(hs:σ[i]?=some (.ds es))(bW:α.ix[i]?=some a)(hv:aG k es=some v) :
  wpAny (model K.prog K.w) A (getItem (.ref a) (.str k t)) (cp K ai (.ok v σ) s α) E s:=by
 refine bu (pP r hs bW) fun d5 L O aQ=>?_;refine ay ((pJ (g:=id) (fun J J h=>h) O aQ k).1 v hv) fun u z di=>?_;exact wpAny_getItem_of sR L.mapOf z ⟨_,σ,α,rfl,.refl,r,di,⟨rfl,rfl⟩⟩
theorem Op{p:H}{k:Str×Int}{x:Value}(hK:K.Ok)(hA:ec A)(r:ao K.hb s.heap σ α)(hs:σ[i]?=some (.dp es))(bW:α.ix[i]?=some a)(hk:g8 p=some k)(lv:ai s.heap α p x) :
  wpAny (model K.prog K.w) A (call (.builtin "dict.get") [.ref a,x]) (cp K ai (.ok ((aG k es).getD .none) σ) s α) E s:=by
 refine om (pO r hs bW) fun xs L O J aQ=>?_;refine ay (vy (K:=K) hk lv) fun b ag bp=>?_;obtain rfl:=ag;refine aS bp fun hb J=>?_;refine call_meetsIn F.slot_dict_get L.typeIs F.entry_dict_get (F.args_dict_get_2 _ _) (meetsH_dict_get (tupleKind (qm K.prog K.w)) a b (vP hK r (d2 bW))) ⟨sI hA,lj k,xs,hb,L,?_⟩;rw[<- valueAt_kvsOf];have:=pJ vx O aQ k
 cases hq:aG k es with
 | none=>exact(this.2 hq).symm▸(⟨_,σ,α,rfl,.refl,r,.none,⟨rfl,rfl⟩⟩)
 | some v=>refine ay (this.1 v hq) fun u z di=>?_;exact z.symm▸(⟨_,σ,α,rfl,.refl,r,di,⟨rfl,rfl⟩⟩)
theorem Oq{es:List (Str×H)}{k:Str}{t:Tok}(hK:K.Ok)(r:ao K.hb s.heap σ α)(hs:σ[i]?=some (.ds es))(bW:α.ix[i]?=some a) :
  wpAny (model K.prog K.w) A (call (.builtin "dict.get") [.ref a,.str k t]) (cp K ai (.ok ((aG k es).getD .none) σ) s α) E s:=by
 refine bu (pP r hs bW) fun d5 L O aQ=>?_;refine call_meetsIn F.slot_dict_get L.typeIs F.entry_dict_get (F.args_dict_get_2 _ _) (meets_dict_get (strKind K.prog K.w) a sR (vP hK r (d2 bW))) ⟨_,L.mapOf,?_⟩;have:=pJ (g:=id) (fun J J h=>h) O aQ k
 cases hq:aG k es with
 | none=>have z:=this.2 hq;simp only[id]at z;rw[z];exact⟨_,σ,α,rfl,.refl,r,.none,⟨rfl,rfl⟩⟩
 | some v=>refine ay (this.1 v hq) fun u z di=>?_;simp only[id]at z;exact z.symm▸(⟨_,σ,α,rfl,.refl,r,di,⟨rfl,rfl⟩⟩)
noncomputable def JM:mD->Operator
 | .add=>.Add | .sub=>.Sub | .mul=>.Mult | .mod=>.Mod | .fdiv=>.FloorDiv | .pow=>.Pow
noncomputable def ia:iq->CmpOp
 | .eq=>.Eq | .ne=>.NotEq | .lt=>.Lt | .le=>.LtE | .gt=>.Gt | .ge=>.GtE | .is=>.Is | .isNot=>.IsNot | .isin=>.In | .notin=>.NotIn
theorem Km{y:Str}(a:PyData.strOk x=true)(b:PyData.strOk y=true):PyData.strOk (x++y)=true:=by
 unfold PyData.strOk at *;rw[Str.cps_append];simp only[Array.all_eq_true',Array.mem_append]at *
 rintro c (h | h)
 ·exact a c h
 ·exact b c h
theorem VG{n:Int}(h:PyData.strOk x=true):PyData.strOk (Txt.mul x n)=true:=by
 unfold Txt.mul
 split
 ·simp[PyData.strOk,Str.empty]
 ·split
  ·exact h
  ·have key:∀(k:Nat) (acc:Array Nat),PyData.strOk ⟨acc⟩=true->PyData.strOk ⟨(List.replicate k x.cps).foldl (·++·) acc⟩=true:=by
    intro k
    induction k with
    | zero=>intro acc O;exact O
    | succ k aj =>
     intro acc O;exact List.replicate_succ▸iO▸(aj _ (Km (x:=⟨acc⟩) (y:=x) O h))
   exact key _ _ (by simp[PyData.strOk])
theorem SJ{n:Int}(h:x.length<=100/\0<=n/\n<=100):MulOk x n:=
 mulOk_of 100 100 h.1 h.2.2 (by grind) (by decide) (by decide)
theorem CP{a:Int}(h:a.natAbs<2 ^ 60):Builtin.Int.intBits a<=64:=by
 unfold Builtin.Int.intBits;by_cases h0:a.natAbs=0
 ·have:a=0:=by grind
  subst this;decide
 ·have:=(Nat.log2_lt h0).mpr h
  split <;> (grind)
inductive Cb(h:Heap)(α:ax)(xs:List H)(v:Value):Prop
 | mk (a:Addr) (items:List Value) (n:Nat) (e:v=.ref a) (a3:h.get? a=some { cls:=.type "list",data:=.seq (List.toArray items) n }) (vs:bh h α xs items):Cb h α xs v
theorem lG{a:H}{x:Value}(r:ao hb h σ α)(v:ai h α a x)(e:b2 σ a=some xs) :
  Cb h α xs x:=by
 cases a with
 | fl ys=>obtain rfl:=oi e;obtain⟨l,items,n,rfl,V,_,vs⟩:=v.flE;exact⟨l,items,n,rfl,V,vs⟩
 | ref i =>
  refine ay v.refE fun l ag dJ=>?_;obtain rfl:=ag;simp only[b2]at e
  cases hs:σ[i]? with
  | none=>rw[hs]at e;contradiction
  | some m =>
   rw[hs]at e
   cases m with
   | lst ys=>obtain rfl:=oi e;refine cJ (r.obj i _ l hs dJ) fun items n V vs=>?_;exact⟨l,items,n,rfl,V,vs⟩
   | _=>contradiction
 | _=>contradiction
theorem lq(s:Shared):s.heap.get? s.heap.objs.size=none:=by
 cases hq:s.heap.get? s.heap.objs.size with
 | none=>rfl
 | some o=>exact absurd (e0 hq) (Nat.lt_irrefl _)
theorem cp.fl(r:ao K.hb s.heap σ α)(v:bh s.heap α xs vs) :
  cp K ai (.ok (.fl xs) σ) s α (.ref s.heap.objs.size) { s with heap:=s.heap.push { cls:=.type "list",data:=.seq vs.toArray } }:=by
 have k:∀b o,s.heap.get? b=some o->(s.heap.push { cls:=.type "list",data:=.seq vs.toArray }).get? b=some o:=fun b o e=>c3 _ e;refine⟨_,_,_,rfl,.keeps k,r.keeps k,?_,⟨rfl,rfl⟩⟩;refine ai.flI (n:=0) (ef _ rfl) (fun hm=>?_) (v.ext (.keeps (F:=[]) k));refine aL (r.liveAll hm) fun o e=>?_;rw[lq]at e;contradiction
theorem cp.tup(r:ao K.hb s.heap σ α)(v:bh s.heap α xs vs) :
  cp K ai (.ok (.tup xs) σ) s α (.ref s.heap.objs.size) { s with heap:=s.heap.push { cls:=.type "tuple",data:=.seq vs.toArray } }:=by
 have k:∀b o,s.heap.get? b=some o->(s.heap.push { cls:=.type "tuple",data:=.seq vs.toArray }).get? b=some o:=fun b o e=>c3 _ e;refine⟨_,_,_,rfl,.keeps k,r.keeps k,?_,⟨rfl,rfl⟩⟩;refine ai.tupI (n:=0) (ef _ rfl) (fun hm=>?_) (v.ext (.keeps (F:=[]) k));refine aL (r.liveAll hm) fun o e=>?_;rw[lq]at e;contradiction
theorem cp.here{β γ:Type}{dG:Heap->ax->β->γ->Prop}{b:β}{y:γ}(r:ao K.hb s.heap σ α)(v:dG s.heap α b y):cp K dG (.ok b σ) s α y { s with toks:=tk }:=
 ⟨_,_,_,rfl,.refl,r,v,⟨rfl,rfl⟩⟩
theorem Lr{l:Addr}{ws:List Value}(ho:s.heap.get? l=some { cls:=.type "list",data:=.seq vs.toArray n })
  (kr:s.heap.get? b=some { cls:=.type "list",data:=.seq ws.toArray n2 }) (hsz:vs.length+ws.length<=sizeLine)
  (h:Q (.ref s.heap.objs.size) { s with heap:=s.heap.push { cls:=.type "list",data:=.seq (vs++ws).toArray } }):wpAny (model K.prog K.w) A (binaryOp .Add (.ref l) (.ref b)) Q E s:=by
 have e:vs.toArray++ws.toArray=(vs++ws).toArray:=by simp
 refine concat_meets ⟨_,ho,rfl⟩ ⟨_,kr,rfl⟩ noFill_list_add seq_list_add PySem.F.slot_list_add PySem.F.entry_list_add (PySem.F.args_list_add_2 _ _) (list_addW l b vs.toArray ws.toArray n n2 none none #[] #[] (by simpa using hsz)) ⟨ho,kr,?_⟩;exact e.symm▸h
theorem Ls{t:Addr}{ws:List Value}(ho:s.heap.get? t=some { cls:=.type "tuple",data:=.seq vs.toArray n })
  (kr:s.heap.get? b=some { cls:=.type "tuple",data:=.seq ws.toArray n2 }) (hsz:vs.length+ws.length<=sizeLine)
  (h0:vs=[]->Q (.ref b) s) (L:vs≠[]->ws=[]->Q (.ref t) s)
  (O:Q (.ref s.heap.objs.size) { s with heap:=s.heap.push { cls:=.type "tuple",data:=.seq (vs++ws).toArray } }):wpAny (model K.prog K.w) A (binaryOp .Add (.ref t) (.ref b)) Q E s:=by
 have e:vs.toArray++ws.toArray=(vs++ws).toArray:=by simp
 by_cases hv:vs=[]
 ·exact concat_meets ⟨_,ho,rfl⟩ ⟨_,kr,rfl⟩ noFill_tuple_add seq_tuple_add PySem.F.slot_tuple_add PySem.F.entry_tuple_add (PySem.F.args_tuple_add_2 _ _)
   (tuple_addW0 t b vs.toArray ws.toArray n n2 none none #[] #[] (by simp[hv])) ⟨ho,kr,h0 hv⟩
 ·by_cases hw:ws=[]
  ·exact concat_meets ⟨_,ho,rfl⟩ ⟨_,kr,rfl⟩ noFill_tuple_add seq_tuple_add PySem.F.slot_tuple_add PySem.F.entry_tuple_add (PySem.F.args_tuple_add_2 _ _)
    (tuple_addW1 t b vs.toArray ws.toArray n n2 none none #[] #[] (by simpa using hv) (by simp[hw])) ⟨ho,kr,L hv hw⟩
  ·refine concat_meets ⟨_,ho,rfl⟩ ⟨_,kr,rfl⟩ noFill_tuple_add seq_tuple_add PySem.F.slot_tuple_add PySem.F.entry_tuple_add (PySem.F.args_tuple_add_2 _ _)
    (tuple_addW2 t b vs.toArray ws.toArray n n2 none none #[] #[] (by simpa using hv) (by simpa using hw) (fc▸fc▸hsz)) ⟨ho,kr,?_⟩
   exact e.symm▸O
theorem tx{f:Int->Int->ah H}{o:Operator}{a b:H}{x:Value}(va:ai s.heap α a x)(vb:ai s.heap α b y)
  (aC:∀i j t u,f i j≠.stuck->wpAny (model K.prog K.w) A (binaryOp o (.int i t) (.int j u)) (cp K ai (f i j) s α) (da K A (f i j) s α) s):av K ai A (binaryOp o x y) (rh f a b) s α:=by
 intro hc
 cases a with
 | int i =>
  cases b with
  | int j=>refine aL va.intE fun J ag=>?_;obtain rfl:=ag;refine aL vb.intE fun J ag=>?_;obtain rfl:=ag;exact aC i j _ _ hc
  | _=>exact absurd rfl hc
 | _=>exact absurd rfl hc
theorem Lu{P:H->H->ah H->Prop}(h0:∀a b,P a b .stuck)(L:∀i j,P (.int i) (.int j) (.ok (.int (i+j)) σ))(O:∀p q,p.length+q.length<=aI->P (.str p) (.str q) (.ok (.str (p++q)) σ))(aw:∀p q,p.length+q.length<=aI->P (.tup p) (.tup q) (.ok (.tup (p++q)) σ))(aQ:∀a b xs ys,b2 σ a=some xs->b2 σ b=some ys->xs.length+ys.length<=aI->P a b (.ok (.fl (xs++ys)) σ)):∀a b,P a b (wZ a b σ):=by
 intro a b
 have oY:P a b (match b2 σ a with
  | some x=>match b2 σ b with
   | some y=>if x.length+y.length<=aI then .ok (.fl (x++y)) σ else .stuck
   | none=>.stuck
  | none=>.stuck):=by
  cases V:b2 σ a with
  | none=>exact h0 _ _
  | some xs =>
   cases ak:b2 σ b with
   | none=>exact h0 _ _
   | some ys =>
    dsimp only;by_cases hl:xs.length+ys.length<=aI
    ·rw[aD hl];exact aQ a b xs ys V ak hl
    ·rw[aY hl];exact h0 _ _
 cases a with
 | int i =>
  cases b with
  | int j=>exact L i j
  | _=>exact h0 _ _
 | str p =>
  cases b with
  | str q =>
   show P _ _ (if p.length+q.length<=aI then ah.ok (H.str (p++q)) σ else .stuck);by_cases hl:p.length+q.length<=aI
   ·rw[aD hl];exact O p q hl
   ·rw[aY hl];exact h0 _ _
  | _=>exact h0 _ _
 | tup p =>
  cases b with
  | tup q =>
   show P _ _ (if p.length+q.length<=aI then ah.ok (H.tup (p++q)) σ else .stuck);by_cases hl:p.length+q.length<=aI
   ·rw[aD hl];exact aw p q hl
   ·rw[aY hl];exact h0 _ _
  | _=>exact h0 _ _
 | _=>exact oY
theorem Lv{a b:H}{x:Value}(r:ao K.hb s.heap σ α)(va:ai s.heap α a x)(vb:ai s.heap α b y):av K ai A (binaryOp .Add x y) (wZ a b σ) s α:=by
 refine Lu (P:=fun a b c=>ai s.heap α a x->ai s.heap α b y->av K ai A (binaryOp .Add x y) c s α) (fun J J J J hc=>absurd rfl hc) (fun i j va vb J=>?_) (fun p q hl va vb J=>?_) (fun p q hl va vb J=>?_) (fun a b xs ys L O hl va vb J=>?_) a b va vb
 ·refine aL va.intE fun J ag=>?_;obtain rfl:=ag;refine aL vb.intE fun J ag=>?_;obtain rfl:=ag;exact P.add_int (.here r (.int _ _))
 ·refine ay va.strE fun J ag L=>?_;obtain rfl:=ag;refine ay vb.strE fun J ag O=>?_;obtain rfl:=ag;exact PyProof.Rows.add_str (fun bx tk=>.here r (.str _ _ (Km L O))) (hP hl)
 ·obtain⟨t,vs,n,rfl,V,n1,aX⟩:=va.tupE;obtain⟨u,ws,m,rfl,ak,n2,bz⟩:=vb.tupE;refine Ls V ak (aX.1▸bz.1▸(hP hl)) (fun h=>?_) (fun J h=>?_) (.tup r (aX.append bz))
  ·refine⟨_,_,_,rfl,.refl,r,?_,.refl _⟩;have:_=0:=aX.1.trans (by rw[h];rfl);exact(hE this).symm▸vb
  ·refine⟨_,_,_,rfl,.refl,r,?_,.refl _⟩;have:_=0:=bz.1.trans (by rw[h];rfl);rw[hE this,List.append_nil];exact va
 ·obtain⟨l,vs,n,rfl,V,aX⟩:=lG r va L;obtain⟨l4,ws,m,rfl,ak,bz⟩:=lG r vb O;exact Lr V ak (aX.1▸bz.1▸(hP hl)) (.fl r (aX.append bz))
theorem bh.rep(v:bh h α xs vs):∀k:Nat,bh h α (List.replicate k xs).flatten (List.replicate k vs).flatten
 | 0=>by simpa using bh.nil
 | k+1=>by simpa[List.replicate_succ]using v.append (v.rep k)
theorem SI{l:Addr}{x:Int}{u:Tok}(hl:s.heap.get? l=some { cls:=.type "list",data:=.seq vs.toArray n })(h0:0<=x)(L:x<=100)(O:vs.length<=100)
  (h:Q (.ref s.heap.objs.size) { s with heap:=s.heap.push { cls:=.type "list",data:=.seq (List.replicate x.toNat vs).flatten.toArray } }):wpAny (model K.prog K.w) A (binaryOp .Mult (.ref l) (.int x u)) Q E s:=by
 have hsz:vs.toArray.size*x.toNat<=2 ^ 24:=by
  rw[fc];exact aH (Nat.mul_le_mul O (show x.toNat<=100 by omega)) (by decide)
 refine wpAny_binaryOp_repeat_ref (T := "list") (U := "int") (by decide) ⟨_,hl,rfl⟩ (fun s'=>typeIs_int s' x u) noFill_list_mul F.fills_int_mul F.slot_int_rmul repeat_list F.slot_int_index.lookup
  (call_meets F.slot_int_rmul (typeIs_int s x u) F.entry_int_rmul (F.args_int_rmul_2 _ _) (int___rmul___int_list x u l vs.toArray n)
   ⟨hl,rfl,⟨_,hl,rfl⟩,call_meets F.slot_list_mul ⟨_,hl,rfl⟩ F.entry_list_mul (F.args_list_mul_2 _ _)
    (AutoListH.list___mul___list_int_3 l vs.toArray n x u (by simp[Builtin.List.listFitsIndex];omega) (by omega) (by simp[Builtin.List.listTooLong,sizeLine];simpa using hsz)) ⟨hl,?_⟩⟩)
 rw[listMul_foldl]
 have e:(if vs.toArray.isEmpty=true then 0 else x.toNat)=x.toNat\/vs=[]:=by
  cases vs with
  | nil=>exact .inr rfl
  | cons=>exact .inl rfl
 rcases e with e | rfl
 ·rw[e];simpa using h
 ·simpa using h
theorem SK{a b:H}{x:Value}(r:ao K.hb s.heap σ α)(va:ai s.heap α a x)(vb:ai s.heap α b y):av K ai A (binaryOp .Mult x y) (Jm a b σ) s α:=by
 intro hc
 cases b with
 | int j =>
  refine aL vb.intE fun J ag=>?_;obtain rfl:=ag
  cases a with
  | int i =>
   refine aL va.intE fun J ag=>?_;obtain rfl:=ag;change(if qo i j=true then ah.ok (H.int (i*j)) σ else .stuck)≠.stuck at hc;show wpAny _ _ _ (cp K ai (if qo i j=true then ah.ok (H.int (i*j)) σ else .stuck) s α) (da K A (if qo i j=true then ah.ok (H.int (i*j)) σ else .stuck) s α) s;by_cases hm:qo i j=true
   ·rw[aD hm];refine P.mul_int (.here r (.int _ _)) ?_;exact(hG hm).elim (fun h=>.of_left (CP h)) fun h=>.of_right (CP h)
   ·rw[aY hm]at hc;exact absurd rfl hc
  | str p =>
   refine ay va.strE fun J ag hx=>?_;obtain rfl:=ag;change(if p.length<=100/\0<=j/\j<=100 then ah.ok (H.str (Txt.mul p j)) σ else .stuck)≠.stuck at hc;show wpAny _ _ _ (cp K ai (if p.length<=100/\0<=j/\j<=100 then ah.ok (H.str (Txt.mul p j)) σ else .stuck) s α) (da K A (if p.length<=100/\0<=j/\j<=100 then ah.ok (H.str (Txt.mul p j)) σ else .stuck) s α) s;by_cases h0:p.length<=100/\0<=j/\j<=100
   ·rw[aD h0];exact SB.mul (SJ h0) fun bx tk=>.here r (.str _ _ (VG hx))
   ·rw[aY h0]at hc;exact absurd rfl hc
  | fl xs =>
   obtain⟨l,vs,n,rfl,V,_,v⟩:=va.flE;change(if xs.length<=100/\0<=j/\j<=100 then ah.ok (H.fl (List.replicate j.toNat xs).flatten) σ else .stuck)≠.stuck at hc;show wpAny _ _ _ (cp K ai (if xs.length<=100/\0<=j/\j<=100 then ah.ok (H.fl (List.replicate j.toNat xs).flatten) σ else .stuck) s α) (da K A (if xs.length<=100/\0<=j/\j<=100 then ah.ok (H.fl (List.replicate j.toNat xs).flatten) σ else .stuck) s α) s;by_cases h0:xs.length<=100/\0<=j/\j<=100
   ·rw[aD h0];exact SI V h0.2.1 h0.2.2 (by rw[<- v.1];exact h0.1) (cp.fl r (v.rep _))
   ·rw[aY h0]at hc;exact absurd rfl hc
  | _=>exact absurd rfl hc
 | _=>exact absurd rfl hc
theorem Mc{o:mD}{a b:H}{x:Value}(hA:ec A)(r:ao K.hb s.heap σ α)(va:ai s.heap α a x)(vb:ai s.heap α b y) :
  av K ai A (binaryOp (JM o) x y) (jM o a b σ) s α:=by
 cases o with
 | add=>exact Lv r va vb
 | mul=>exact SK r va vb
 | sub=>exact tx va vb fun i j t u J=>P.sub_int (.here r (.int _ _))
 | mod =>
  refine tx va vb fun i j t u hc=>?_;by_cases h0:0<j
  ·rw[aD h0,<- Int.fmod_eq_emod_of_nonneg _ (Int.le_of_lt h0)];exact mod_int' (Int.ne_of_gt h0) (.here r (.int _ _))
  ·rw[aY h0]at hc;exact absurd rfl hc
 | fdiv =>
  refine tx va vb fun i j t u hc=>?_;by_cases h0:0<j/\j<1073741824
  ·rw[aD h0,<- Int.fdiv_eq_ediv_of_nonneg _ (Int.le_of_lt h0.1)];exact floordiv_int (Int.ne_of_gt h0.1) (.here r (.int _ _)) (.inl (PyProof.noPylong_small (by grind)))
  ·rw[aY h0]at hc;exact absurd rfl hc
 | pow =>
  refine tx va vb fun i j t u hc=>?_;by_cases h0:0<=j/\j<=100/\i=10
  ·rw[aD h0];refine dN h0 fun L O ag=>?_;obtain rfl:=ag;refine pow_int L ?_ (.here r (.int _ _))
   have:Builtin.Int.intBits 10=4:=by decide +kernel
   rw[this];(grind)
  ·rw[aY h0]at hc;exact absurd rfl hc
theorem ai.ne_none{a:H}{x:Value}(v:ai h α a x)(hn:a≠.none):x≠.none:=by
 cases v <;> first | exact absurd rfl hn | (intro e;contradiction)
theorem Ay{a:H}{x:Value}{l:Addr}{items:List Value}{T:String}(dK:T = "list" \/ T = "tuple")(hA:ec A)(r:ao K.hb s.heap σ α)(va:ai s.heap α a x)
  (V:s.heap.get? l=some { cls:=.type T,data:=.seq items.toArray n }) (vs:bh s.heap α xs items) :
  av K ep A (compareOp .In x (.ref l)) (ah.ofOpt (hQ σ a xs) σ) s α ∧
  av K ep A (compareOp .NotIn x (.ref l)) (ah.ofOpt ((hQ σ a xs).map (!·)) σ) s α:=by
 unfold hQ
 cases L:toD 16 σ a with
 | none=>exact⟨fun hc=>absurd rfl hc,fun hc=>absurd rfl hc⟩
 | some d =>
  cases O:xs.mapM (toD 16 σ)with
  | none=>exact⟨fun hc=>absurd rfl hc,fun hc=>absurd rfl hc⟩
  | some ds =>
   refine bu (qA r 16 a x d va L) fun as aV cE bE=>?_;refine bu (vF (n:=16) O vs.1 fun i x v d V ak bG=>qA r 16 x v d (vs.2 i x v V ak) bG) fun bs r2 e1 bS=>?_
   have hu:A.units+1+min (PyData.depthAll ds) d.depth<cLine:=by have:=hA.units;(grind)
   rcases dK with rfl | rfl
   ·have sG:Reads s.heap (.ref l) (.list ds) (l::bs):=.list V rfl rfl (by simpa using r2)
    exact⟨fun J=>SeqAt.in_list_reads sG aV (by simpa[PyData.canLay0]using e1) cE hu ⟨_,σ,α,rfl,.refl,r,rfl,.refl s⟩,
     fun J=>SeqAt.notIn_list_reads sG aV (by simpa[PyData.canLay0]using e1) cE hu ⟨_,σ,α,rfl,.refl,r,rfl,.refl s⟩⟩
   ·have sG:Reads s.heap (.ref l) (.tuple ds) bs:=.tuple V rfl rfl (by simpa using r2)
    exact⟨fun J=>SeqAt.in_tuple_reads sG aV (by simpa[PyData.canLay0]using e1) cE hu ⟨_,σ,α,rfl,.refl,r,rfl,.refl s⟩,
     fun J=>SeqAt.notIn_tuple_reads sG aV (by simpa[PyData.canLay0]using e1) cE hu ⟨_,σ,α,rfl,.refl,r,rfl,.refl s⟩⟩
theorem JJ(x:Str)(c:Nat):(!(Builtin.Str.occurrences x ⟨#[c]⟩ 0 x.length 1).isEmpty)=x.cps.toList.contains c:=by
 rw[StrLaws.found_one];simp
theorem vU{f:Int->Int->Bool}{o:CmpOp}{a b:H}{x:Value}(r:ao K.hb s.heap σ α)(va:ai s.heap α a x)(vb:ai s.heap α b y)
  (aC:∀i j t u (Q:Value->Shared->Prop) (E:Value->Shared->Prop),Q (.bool (f i j)) s->wpAny (model K.prog K.w) A (compareOp o (.int i t) (.int j u)) Q E s):av K ep A (compareOp o x y) (sx f a b σ) s α:=by
 intro hc
 cases a with
 | int i =>
  cases b with
  | int j=>refine aL va.intE fun J ag=>?_;obtain rfl:=ag;refine aL vb.intE fun J ag=>?_;obtain rfl:=ag;exact aC i j _ _ _ _ ⟨_,σ,α,rfl,.refl,r,rfl,.refl s⟩
  | _=>exact absurd rfl hc
 | _=>exact absurd rfl hc
theorem IJ{f:Bool->Bool}{o:CmpOp}{a b:H}{x:Value}(r:ao K.hb s.heap σ α)(va:ai s.heap α a x)(vb:ai s.heap α b y)
  (jG:∀(Q:Value->Shared->Prop) (E:Value->Shared->Prop),Q (.bool (f true)) s->wpAny (model K.prog K.w) A (compareOp o .none .none) Q E s)
  (d0:∀(x:Value) (Q:Value->Shared->Prop) (E:Value->Shared->Prop),x≠.none->Q (.bool (f false)) s->wpAny (model K.prog K.w) A (compareOp o x .none) Q E s)
  (px:∀(p q:Bool) (Q:Value->Shared->Prop) (E:Value->Shared->Prop),Q (.bool (f (decide (p=q)))) s->wpAny (model K.prog K.w) A (compareOp o (.bool p) (.bool q)) Q E s):av K ep A (compareOp o x y) (Ah f a b σ) s α:=by
 intro hc
 cases b with
 | none =>
  obtain rfl:=vb.noneE;show wpAny _ _ _ (cp K ep (.ok (f (g7 a)) σ) s α) _ _;by_cases hn:a=.none
  ·subst hn;obtain rfl:=va.noneE;exact jG _ _ ⟨_,σ,α,rfl,.refl,r,rfl,.refl s⟩
  ·have:g7 a=false:=by cases a <;> first | rfl | exact absurd rfl hn
   exact this.symm▸(d0 _ _ _ (va.ne_none hn) ⟨_,σ,α,rfl,.refl,r,rfl,.refl s⟩)
 | bool q =>
  cases a with
  | bool p=>obtain rfl:=va.boolE;obtain rfl:=vb.boolE;exact px _ _ _ _ ⟨_,σ,α,rfl,.refl,r,rfl,.refl s⟩
  | _=>exact absurd rfl hc
 | _=>exact absurd rfl hc
theorem Q5{a:H}:dP a (.ref i) σ=match σ[i]? with
   | some (.lst xs)=>hQ σ a xs
   | some (.ds es)=>(match a with
    | .str k=>some (aG k es).isSome
    | _=>none)
   | some (.dp es)=>(g8 a).map fun k=>(aG k es).isSome
   | _=>none:=rfl
theorem Q4{P:H->H->Option Bool->Prop}(h0:∀a b,P a b none)(L:∀a xs,P a (.tup xs) (hQ σ a xs))(O:∀a xs,P a (.fl xs) (hQ σ a xs))(aw:∀a i xs,σ[i]?=some (.lst xs)->P a (.ref i) (hQ σ a xs))(aQ:∀c z,P (.str ⟨#[c]⟩) (.str z) (some (z.cps.toList.contains c)))
  (c5:∀k i es,σ[i]?=some (.ds es)->P (.str k) (.ref i) (some (aG k es).isSome)) (gh:∀a i es k,σ[i]?=some (.dp es)->g8 a=some k->P a (.ref i) (some (aG k es).isSome))
  : ∀a b,P a b (dP a b σ):=by
 intro a b
 cases b with
 | tup xs=>exact L a xs
 | fl xs=>exact O a xs
 | str z =>
  cases a with
  | str w =>
   unfold dP;dsimp only
   cases rQ:w.cps.toList with
   | nil=>exact h0 _ _
   | cons c bp =>
    cases bp with
    | cons _ _=>exact h0 _ _
    | nil =>
     obtain rfl:w=⟨#[c]⟩:=by cases w;simp at rQ;simp[<- rQ]
     exact aQ c z
  | _=>exact h0 _ _
 | ref i =>
  rw[Q5]
  cases hs:σ[i]? with
  | none=>exact h0 _ _
  | some m =>
   cases m with
   | lst xs=>exact aw a i xs hs
   | ds es =>
    cases a with
    | str k=>exact c5 k i es hs
    | _=>exact h0 _ _
   | dp es =>
    dsimp only
    cases hk:g8 a with
    | none=>exact h0 _ _
    | some k=>exact gh a i es k hs hk
   | _=>exact h0 _ _
 | _=>exact h0 _ _
theorem II{a b:H}{x:Value}(hK:K.Ok)(hA:ec A)(r:ao K.hb s.heap σ α)(va:ai s.heap α a x)(vb:ai s.heap α b y):av K ep A (compareOp .In x y) (ah.ofOpt (dP a b σ) σ) s α/\av K ep A (compareOp .NotIn x y) (ah.ofOpt ((dP a b σ).map (!·)) σ) s α:=by
 refine Q4 (P:=fun a b o=>ai s.heap α a x->ai s.heap α b y->av K ep A (compareOp .In x y) (ah.ofOpt o σ) s α/\av K ep A (compareOp .NotIn x y) (ah.ofOpt (o.map (!·)) σ) s α) (fun J J J J=>⟨fun hc=>absurd rfl hc,fun hc=>absurd rfl hc⟩) (fun a xs va vb=>?_) (fun a xs va vb=>?_) (fun a i xs hs va vb=>?_) (fun c z va vb=>?_)
  (fun k i es hs va vb=>?_) (fun a i es k hs hk va vb=>?_)
  a b va vb
 ·obtain⟨l,items,n,rfl,V,_,vs⟩:=vb.tupE;exact Ay (.inr rfl) hA r va V vs
 ·obtain⟨l,items,n,rfl,V,_,vs⟩:=vb.flE;exact Ay (.inl rfl) hA r va V vs
 ·refine ay vb.refE fun l ag dJ=>?_;obtain rfl:=ag;refine cJ (r.obj i _ l hs dJ) fun items n V vs=>?_;exact Ay (.inl rfl) hA r va V vs
 ·refine ay vb.strE fun J ag J=>?_;obtain rfl:=ag;refine ay va.strE fun J ag J=>?_;obtain rfl:=ag;exact⟨fun J=>PyProof.Rows.in_str (by rw[JJ];exact⟨_,σ,α,rfl,.refl,r,rfl,.refl s⟩),fun J=>PyProof.Rows.notIn_str (by rw[JJ];exact⟨_,σ,α,rfl,.refl,r,rfl,.refl s⟩)⟩
 ·refine ay vb.refE fun l ag dJ=>?_;obtain rfl:=ag;refine ay va.strE fun J ag J=>?_;obtain rfl:=ag;exact QG hK r hs dJ
 ·refine ay vb.refE fun l ag dJ=>?_;obtain rfl:=ag;exact QF hK hA r hs dJ hk va
theorem pN{o:iq}{a b:H}{x:Value}(hK:K.Ok)(hA:ec A)(r:ao K.hb s.heap σ α)(va:ai s.heap α a x)(vb:ai s.heap α b y) :
  av K ep A (compareOp (ia o) x y) (cY o a b σ) s α:=by
 cases o with
 | eq=>exact ML hA r va vb
 | ne=>exact MM hA r va vb
 | lt=>exact vU r va vb fun i j t u Q E h=>P.lt_int h
 | le=>exact vU r va vb fun i j t u Q E h=>P.le_int h
 | gt=>exact vU r va vb fun i j t u Q E h=>P.gt_int h
 | ge=>exact vU r va vb fun i j t u Q E h=>P.ge_int h
 | is=>exact IJ (f:=id) r va vb (fun Q E h=>is_none_none h) (fun x Q E hn h=>is_none_ne hn h) fun p q Q E h=>is_bool h
 | isNot=>exact IJ (f:=(!·)) r va vb (fun Q E h=>isnot_none_none h) (fun x Q E hn h=>isnot_none_ne hn h) fun p q Q E h=>isnot_bool h
 | isin=>exact(II hK hA r va vb).1
 | notin=>exact(II hK hA r va vb).2
noncomputable def fL(ys:List Str)(i:Nat):List Str:=gK (ys.take i)
noncomputable def o5(a:List Str)(x:Str):List Str:=if a.any (· == x)then a else a++[x]
theorem Jd{ys:List Str}{y:Str}(h:ys[i]?=some y):fL ys (i+1)=o5 (fL ys i) y:=by
 unfold fL gK;rw[List.take_add_one,h,Option.toList_some,List.foldl_append];rfl
theorem Uc(a:List Str)(v k:Str):(o5 a v).any (· == k)=(a.any (· == k)||decide (k=v)):=by
 unfold o5;by_cases h:a.any (· == v)=true
 ·rw[aD h];by_cases e:k=v
  ·subst e;rw[h];rfl
  ·simp[e]
 ·rw[aY h,List.any_append];congr 1;by_cases e:k=v
  ·subst e;simp
  ·have:(v == k)=false:=by simpa using fun q:v=k=>e q.symm
   simp[e,this]
theorem JZ(a:List Str)(v:Str):(o5 a v).length=if a.any (· == v)then a.length else a.length+1:=by
 unfold o5;split <;> simp
theorem MX(l:List Str):(gK l).length<=l.length:=by
 unfold gK
 have:∀(l a:List Str),(l.foldl o5 a).length<=a.length+l.length:=by
  intro l
  induction l with
  | nil=>intro a;simp
  | cons x l aj =>
   intro a;have L:=aj (o5 a x);have O:=JZ a x;rw[iO,dy]
   split at O <;> (grind)
 have h:=this l [];rw[List.length_nil,gD]at h;exact h
theorem Sq(ys:List Str)(i:Nat):(fL ys i).length<=i:=aH (MX _) (List.length_take.symm▸(Nat.min_le_left _ _))
theorem Kn:∀{vs:List Value} {ys:List Str},StrsAre vs ys->∀(i:Nat) (v:Value),vs[i]?=some v->∃y t,ys[i]?=some y/\v=.str y t
 | _,_,.nil,i,v,h=>(nomatch h)
 | _,_,.cons y t r,0,v,h=>by simp at h;exact⟨y,t,rfl,h.symm⟩
 | _,_,.cons y t r,i+1,v,h=>by simpa using Kn r i v (by simpa using h)
theorem Bk:∀{vs:List Value} {ys:List Str},StrsAre vs ys->vs.length=ys.length
 | _,_,.nil=>rfl
 | _,_,.cons _ _ r=>by simp[Bk r]
section
variable {prog:Program}{w:World}{ao:Result->Shared->Prop}{fp ly:List Addr}{G:Array GenState->Array GenState->Prop}{P:Nat->Value->Prop}{St:Nat->Shared->Prop}
theorem J7(W:WalksS prog w A.in1 I fp ly G n P St)(S:Addr)(rK:S∉fp)(ys:List Str)(vc:∀i v,P i v->∃y t,ys[i]?=some y/\v=.str y t)(hb:n+1<scanBound) :
  ∀(k i:Nat) (s:Shared),n-i=k->i<=n->St i s->s.heap.SetOf (strKind prog w) S (fun z=>(fL ys i).any (· == z)) (fL ys i).length ->
   (∀s',Moved (S::ly) G s s'->s'.heap.SetOf (strKind prog w) S (fun z=>(fL ys n).any (· == z)) (fL ys n).length->ao (.ok (.ret .none)) s') ->
   codeAny (model prog w) A (.builtin "set.update.loop" ⟨[.ref S,.ref I],[]⟩) ao s:=by
 have O3:S∉ly:=fun h=>rK (W.sub _ h);have u8:∀b∈ly,b∈S::ly:=fun b hb=>bM _ hb
 have Kh:∀{s s':Shared} {i:Nat},Moved ly G s s'->s.heap.SetOf (strKind prog w) S (fun z=>(fL ys i).any (· == z)) (fL ys i).length->s'.heap.SetOf (strKind prog w) S (fun z=>(fL ys i).any (· == z)) (fL ys i).length:=by
  intro s s' i hm iV;refine xw iV fun o es d9 t ho rest=>?_;exact⟨o,es,d9,t,hm.heap S _ O3 ho,rest⟩
 intro k
 induction k with
 | zero =>
  intro i s hk hi hst iV hR
  have:i=n:=by grind
  subst this;refine codeAny_builtin F.entry_set_update_loop ?_;rw[Around.under_plainId F.plain_set_update_loop _];show wpAny _ A.in1 (pyNext (.ref I) >>= _) _ _ s;refine aM (W.done s _ _ hst fun s' hm=>?_);exact bJ (hR s' (hm.mono u8) (Kh hm iV))
 | succ k aj =>
  intro i s hk hi hst iV hR
  have ea:i<n:=by grind
  refine codeAny_builtin F.entry_set_update_loop ?_;rw[Around.under_plainId F.plain_set_update_loop _];show wpAny _ A.in1 (pyNext (.ref I) >>= _) _ _ s;refine aM (W.item i s _ _ ea hst fun v s' uU Ql hm=>?_);refine cJ (vc i v uU) fun y t hy ag=>?_;obtain rfl:=ag;show wpAny _ A.in1 (holding [Value.str y t] (setAdd S (.str y t)) >>= _) _ _ s';refine aM (hH ?_);unfold setAdd;refine hH (aM ((strKind prog w).pyHash (k:=y) (strKind_is _ _ _ _) ?_));have ko:s'.heap.SetOf (strKind prog w) S (fun z=>(fL ys i).any (· == z)) (fL ys i).length:=Kh hm iV;refine wpAny_setAddHashed_of (knd:=strKind prog w) (s:={ s' with toks:=s'.toks+1 }) (strKind_is _ _ _ _) rfl ko (by have:=Sq ys i;(grind)) fun h' u6 hS2=>?_
  have O2:h'.SetOf (strKind prog w) S (fun z=>(fL ys (i+1)).any (· == z)) (fL ys (i+1)).length:=
   SetOf_congr hS2 (fun z=>by rw[Jd hy,Uc]) (by rw[Jd hy,JZ])
  refine bJ ⟨plainId_quiet F.plain_set_update_loop _,aj (i+1) _ (by grind) ea (W.frame _ s' _ _ Ql (Nat.le_succ _) fun b hb o e=>?_) O2 fun kD PQ O1=>?_⟩
  ·rw[u6.2 b (fun h:b=S=>rK (h▸hb))];exact e
  ·refine hR kD (Moved.trans W.gtrans ((hm.mono u8).then_heap (Nat.le_succ _) fun b o hb e=>?_) PQ) O1;rw[u6.2 b (fun h:b=S=>hb (h▸bi))];exact e
end
theorem VT:isSubtype (.type "tuple") (.type "set")=pure false:=by rw[isSubtype_type];kernel_rfl
theorem VS:isSubtype (.type "tuple") (.type "frozenset")=pure false:=by rw[isSubtype_type];kernel_rfl
section
variable {prog:Program}{w:World}
set_option maxHeartbeats 1600000 in
theorem UX{l:Addr}{T:String}{items:Array Value}{ys:List Str}{led:Bool}(aN:A.handled=none)(dK:T = "list" \/ T = "tuple")
  (ho:s.heap.get? l=some { cls:=.type T,data:=.seq items n }) (hi:StrsAre items.toList ys) (hb:items.size+1<scanBound)
  (h:∀(h':Heap) (tk:Nat),h'.SetOf (strKind prog w) s.heap.objs.size (fun z=>(gK ys).any (· == z)) (gK ys).length->(∀b o,b<s.heap.objs.size->s.heap.get? b=some o->h'.get? b=some o)->Q .none { s with heap:=h',toks:=tk }) :
  codeAny (model prog w) A (.call (.builtin "set.__init__") ⟨[.ref s.heap.objs.size,.ref l],[]⟩) (wants Q E) { s with heap:=s.heap.push { cls:=.type "set",dict:=none,data:=.set #[] 0 (.fresh 0 0 led) } }:=by
 have iV:(s.heap.push { cls:=.type "set",dict:=none,data:=.set #[] 0 (.fresh 0 0 led) }).get? s.heap.objs.size=some { cls:=.type "set",dict:=none,data:=.set #[] 0 (.fresh 0 0 led) }:=ef _ rfl;have zy:Shared.TypeIs { s with heap:=s.heap.push { cls:=.type "set",dict:=none,data:=.set #[] 0 (.fresh 0 0 led) } } (.ref s.heap.objs.size) "set" := ⟨_,iV,rfl⟩;have HR:l<s.heap.objs.size:=e0 ho;have oN:(s.heap.push { cls:=.type "set",dict:=none,data:=.set #[] 0 (.fresh 0 0 led) }).get? l=some { cls:=.type T,data:=.seq items n }:=c3 _ ho;have c0:(ys.take items.size)=ys:=List.take_of_length_le (by rw[<- Bk hi];simp)
 have PU:fL ys items.size=gK ys:=by unfold fL;rw[c0]
 have HO:A.in1.in1.handled=none:=by simp[aN]
 have HX:l≠(s.heap.push { cls:=.type "set",dict:=none,data:=.set #[] 0 (.fresh 0 0 led) }).objs.size:=by
  rw[Heap.size_push];exact h5 (Nat.lt_succ_of_lt HR)
 have rK:s.heap.objs.size∉[(s.heap.push { cls:=.type "set",dict:=none,data:=.set #[] 0 (.fresh 0 0 led) }).objs.size,l]:=by
  rw[Heap.size_push];simp only[b5,et,or_false,not_or];exact⟨h5 (Nat.lt_succ_self _),c7 HR⟩
 have vc:∀(i:Nat) (v:Value),items[i]?=some v->∃y t,ys[i]?=some y/\v=.str y t:=fun i v hv=>Kn hi i v ((Array.getElem?_toList).symm▸hv)
 have fin:∀(s':Shared) (ly:List Addr),(∀b∈ly,b=s.heap.objs.size\/b=(s.heap.push { cls:=.type "set",dict:=none,data:=.set #[] 0 (.fresh 0 0 led) }).objs.size)->∀(L:Heap),(∀b o,s.heap.get? b=some o->L.get? b=some o) ->
   Moved ly (fun a b=>b=a) { s with heap:=L } s'->s'.heap.SetOf (strKind prog w) s.heap.objs.size (fun z=>(fL ys items.size).any (· == z)) (fL ys items.size).length->Q .none s':=by
  intro s' ly Qu L hk hm ko;obtain⟨h',Ol,e2,pf,vV⟩:=s';have xx:Ol=s.gens:=hm.gens;have Na:e2=s.drawn:=hm.drawn;have hL:vV=s.os:=hm.os;subst xx;subst Na;subst hL;refine h h' pf (PU▸ko) fun b o hb e=>hm.heap b o (fun q=>?_) (hk b o e)
  rcases Qu b q with q | q
  ·exact absurd q (h5 hb)
  ·rw[Heap.size_push]at q;exact absurd q (h5 (Nat.lt_succ_of_lt hb))
 have start:∀(c:String),Heap.SetOf (strKind prog w) ((s.heap.push { cls:=.type "set",dict:=none,data:=.set #[] 0 (.fresh 0 0 led) }).push { cls:=.type c,data:=.fields #[.ref l,.int 0 0] }) s.heap.objs.size (fun z=>(fL ys 0).any (· == z)) (fL ys 0).length:=fun c =>
  SetOf_congr ((setObjOf_fresh (knd:=strKind prog w) led).setOf (c3 _ iV) (by unfold scanBound;(decide))) (fun J=>rfl) rfl
 refine codeAny_call_builtin F.called_set.init.plain F.entry_set_init (check_set_init_1 zy ?_)
 rcases dK with rfl | rfl
 ·have Qj:=F.sub_list_set;have Qi:=F.sub_list_frozenset
  have dn:(Value.type "list" == Value.type "dict")=false:=by decide
  have lc:(s.heap.push { cls:=.type "set",dict:=none,data:=.set #[] 0 (.fresh 0 0 led) }).IsList l items:=⟨_,oN,rfl,n,rfl⟩;unfold Builtin.«set.__init__» noKeywords Builtin.Frozenset.updateFrom;generalize zt:pyIter=Lh
  wp_walk
  subst zt;refine wpAny_pyIter_list lc (aM (wpAny_runValue ?_));refine J7 ((Walks.list HO _ l HX items).toS) s.heap.objs.size rK ys vc hb (items.size-0) 0 _ ((Nat.add_zero _)) (Nat.zero_le _) ?hst ?hS0 ?hR
  case hst=>exact⟨⟨_,ef _ rfl,rfl,rfl⟩,lc.push _⟩
  case hS0=>exact start _
  case hR =>
  intro s' hm ko;show wpAny _ _ _ _ _ _;refine bJ ?_;show wpAny _ _ (ret Value.none) _ _ _;refine bJ ?_;refine fin s' _ ?_ _ (fun b o e=>c3 _ (c3 _ e)) hm ko;intro b hb
  rcases b5.mp hb with q | q
  ·exact .inl q
  ·exact .inr (de.mp q)
 ·have Qj:=VT;have Qi:=VS
  have dn:(Value.type "tuple" == Value.type "dict")=false:=by decide
  have lc:(s.heap.push { cls:=.type "set",dict:=none,data:=.set #[] 0 (.fresh 0 0 led) }).IsTuple l items:=⟨_,oN,rfl,n,rfl⟩;unfold Builtin.«set.__init__» noKeywords Builtin.Frozenset.updateFrom;generalize zt:pyIter=Lh
  wp_walk
  subst zt;refine wpAny_pyIter_tuple lc (aM (wpAny_runValue ?_));refine J7 ((Walks.tuple HO _ l HX items).toS) s.heap.objs.size rK ys vc hb (items.size-0) 0 _ ((Nat.add_zero _)) (Nat.zero_le _) ?hst2 ?hS2 ?hR2
  case hst2=>exact⟨⟨_,ef _ rfl,rfl,rfl⟩,⟨_,c3 _ oN,rfl,n,rfl⟩⟩
  case hS2=>exact start _
  case hR2 =>
  intro s' hm ko;show wpAny _ _ _ _ _ _;refine bJ ?_;show wpAny _ _ (ret Value.none) _ _ _;refine bJ ?_;refine fin s' _ ?_ _ (fun b o e=>c3 _ (c3 _ e)) hm ko;intro b hb
  rcases b5.mp hb with q | q
  ·exact .inl q
  ·exact .inr (de.mp q)
set_option maxRecDepth 100000 in
set_option maxHeartbeats 3200000 in
theorem Mu{l:Addr}{T:String}{items:Array Value}{ys:List Str}(aN:A.handled=none)(dK:T = "list" \/ T = "tuple")
  (ho:s.heap.get? l=some { cls:=.type T,data:=.seq items n }) (hi:StrsAre items.toList ys) (hb:items.size+1<scanBound)
  (h:∀(h':Heap) (tk:Nat),h'.SetOf (strKind prog w) s.heap.objs.size (fun z=>(gK ys).any (· == z)) (gK ys).length->(∀b o,b<s.heap.objs.size->s.heap.get? b=some o->h'.get? b=some o)->Q (.ref s.heap.objs.size) { s with heap:=h',toks:=tk }) :
  wpAny (model prog w) A (call (.type "set") [.ref l]) Q E s:=by
 refine jm F.called_set.mro fun c pg Yy=>?_;have Yw:=F.called_set.made;have u8:=F.called_set.sub;refine wpAny_call (codeAny_of_tree ?_);show wpAny _ _ (callAny (.type "set") _) _ _ _;refine bJ ⟨Code.quiet_builtin _ (by decide +kernel),codeAny_builtin F.entry_type_call ?_⟩;rw[Around.under_plain (weight_type_call_type "set" [.ref l] []) rfl];have L:=F.called_set.notType;have O:=F.called_set.canCreate;have Yp:=F.typeCall_set_1 (.ref l)
 repeat (any_goals (first | assumption | wp_step))
 refine codeAny_mono (code_set_new_1 (.ref l) (E:=E) (Q₁:=fun obj s₁=>∃led:Bool,obj=.ref s.heap.objs.size/\s₁={ s with heap:=s.heap.push { cls:=.type "set",dict:=none,data:=.set #[] 0 (.fresh 0 0 led) } }) fun led=>⟨led,rfl,rfl⟩) fun r s₁ hr=>?_
 cases r with
 | error e=>exact hr
 | ok fl =>
  cases fl with
  | ret obj =>
   refine ay hr fun led ag bp=>?_;obtain rfl:=ag;obtain rfl:=bp;have iV:(s.heap.push { cls:=.type "set",dict:=none,data:=.set #[] 0 (.fresh 0 0 led) }).get? s.heap.objs.size=some { cls:=.type "set",dict:=none,data:=.set #[] 0 (.fresh 0 0 led) }:=ef _ rfl;have Yn:Shared.TypeIs { s with heap:=s.heap.push { cls:=.type "set",dict:=none,data:=.set #[] 0 (.fresh 0 0 led) } } (.ref s.heap.objs.size) "set" := ⟨_,iV,rfl⟩;have Yt:=F.called_set.init.lookup;have m2:=F.called_set.init.bind (.ref s.heap.objs.size)
   repeat (any_goals (first | assumption | wp_step))
   refine codeAny_mono (UX (led:=led) (E:=E) (Q:=fun r ba=>r=.none/\∃h' tk,ba={ s with heap:=h',toks:=tk } ∧
     h'.SetOf (strKind prog w) s.heap.objs.size (fun z=>(gK ys).any (· == z)) (gK ys).length/\(∀b o,b<s.heap.objs.size->s.heap.get? b=some o->h'.get? b=some o)) (by simp[aN]) dK ho hi hb fun h' tk ko hk=>⟨rfl,h',tk,rfl,ko,hk⟩) fun gO ba zW=>?_
   cases gO with
   | error e=>exact zW
   | ok N5 =>
    cases N5 with
    | ret r =>
     obtain⟨rfl,h',tk,rfl,ko,rU⟩:=zW
     repeat (any_goals (first | assumption | wp_step))
     exact h _ _ ko rU
    | _=>exact zW.elim
  | _=>exact hr.elim
end
theorem Cv:∀{xs:List H} {l:List Int} {items:List Value},gd xs=some l->bh h α xs items->IntsAre items l:=by
 intro xs
 induction xs with
 | nil =>
  intro l items e v;obtain rfl:=oi e;have:items=[]:=hE v.1.symm;exact this.symm▸.nil
 | cons x xs aj =>
  intro l items e v;refine cJ v.inv_cons fun u us ag bp=>?_;obtain rfl:=ag;refine aS bp fun aX bz=>?_
  cases x with
  | int i =>
   refine aL aX.intE fun J ag=>?_;obtain rfl:=ag;change(gd xs).map (i::·)=_ at e
   cases hr:gd xs with
   | none=>rw[hr]at e;contradiction
   | some i1=>rw[hr]at e;obtain rfl:=oi e;exact .cons _ _ (aj hr bz)
  | _=>exact nomatch e
theorem LC:∀{xs:List H} {l:List Str} {items:List Value},ke xs=some l->bh h α xs items->StrsAre items l:=by
 intro xs
 induction xs with
 | nil =>
  intro l items e v;obtain rfl:=oi e;have:items=[]:=hE v.1.symm;exact this.symm▸.nil
 | cons x xs aj =>
  intro l items e v;refine cJ v.inv_cons fun u us ag bp=>?_;obtain rfl:=ag;refine aS bp fun aX bz=>?_
  cases x with
  | str i =>
   refine ay aX.strE fun J ag J=>?_;obtain rfl:=ag;change(ke xs).map (i::·)=_ at e
   cases hr:ke xs with
   | none=>rw[hr]at e;contradiction
   | some i1=>rw[hr]at e;obtain rfl:=oi e;exact .cons _ _ (aj hr bz)
  | _=>exact nomatch e
theorem VH(x:String):PyData.strOk (Str.ofString x)=true:=by
 rw[Str.ofString_eq_toList];unfold PyData.strOk;rw[Array.all_eq_true'];intro c hc;simp at hc;refine ay hc fun d J ag=>?_;obtain rfl:=ag;have:=d.valid;simp only[iN]
 rcases this with h | ⟨_,h⟩
 ·exact eD h (by decide)
 ·exact h
theorem Vj{i:Int}(h:0<=i/\i<1000000000):i.natAbs.log2<1920:=by
 by_cases h0:i.natAbs=0
 ·rw[h0];decide
 ·rw[Nat.log2_lt h0];exact hF (show i.natAbs<1000000000 by grind) (aH (show 1000000000<=2 ^ 30 by decide) (Nat.pow_le_pow_right (by decide) (by decide)))
theorem IE:∀{items:List Value} {l:List Int},IntsAre items l->∃xs:Array (Int×Tok),items.toArray=intItems xs/\xs.toList.map (·.1)=l
 | _,_,.nil=>⟨#[],by simp[intItems],rfl⟩
 | _,_,.cons n t r=>by
  refine ay (IE r) fun xs V ak=>?_;refine⟨⟨(n,t)::xs.toList⟩,?_,by simp[ak]⟩;have:intItems xs=⟨_⟩:=V.symm;simp only[intItems]at V ⊢;rw[<- Array.toList_inj]at V ⊢;simp at V ⊢;exact V
theorem gM{items:List Value}(e:s.heap.get? a=some { cls:=.type "list",data:=.seq items.toArray n }):s.heap.IsList a items.toArray:=⟨_,e,rfl,n,rfl⟩
theorem vq{items:List Value}(e:s.heap.get? a=some { cls:=.type "tuple",data:=.seq items.toArray n }):IsTup s.heap a items.toArray:=⟨_,e,rfl,n,rfl⟩
noncomputable def n6:eL->Value
 | .len=>.builtin "len" | .list _=>.type "list" | .tuple=>.type "tuple" | .all=>.builtin "all" | .int=>.type "int" | .str=>.type "str" | .lenset=>.none
 | .sum=>.builtin "sum"
 | .min=>.builtin "min" | .max=>.builtin "max"
 | .sorted=>.builtin "sorted"
 | .dict=>.none
theorem G6{f:Int->Int->Int}{ao:Int->Int->Prop}(UB:∀a,ao a a)(tr:∀{a b c},ao a b->ao b c->ao a c)(L:∀x y,ao (f x y) x)(O:∀x y,ao (f x y) y)(aw:∀x y,f x y=x\/f x y=y)(l:List Int):∀x,(∀a∈x::l,ao (l.foldl f x) a)/\l.foldl f x∈x::l:=by
 induction l with
 | nil=>exact fun x=>⟨fun a ha=>de.mp ha▸UB x,bi⟩
 | cons y l aj =>
  intro x;refine aS (aj (f x y)) fun q1 q2=>?_;have hj:=q1 _ bi;refine⟨fun a ha=>?_,?_⟩
  ·rcases b5.mp ha with e | ha
   ·exact e.symm▸(tr hj (L x y))
   ·rcases b5.mp ha with e | ha
    ·rw[e];exact tr hj (O x y)
    ·exact q1 a (bM _ ha)
  ·rcases b5.mp q2 with e | q
   ·rcases aw x y with z | z
    ·rw[iO,e.trans z];exact bi
    ·rw[iO,e.trans z];exact bM _ bi
   ·exact bM _ (bM _ q)
theorem N8(l:List Int)(x:Int):(∀a∈x::l,l.foldl min x<=a)/\l.foldl min x∈x::l:=
 G6 (ao:=(· <= ·)) Int.le_refl Int.le_trans Int.min_le_left Int.min_le_right (fun x y=>by rcases Int.le_total x y with h | h;exact .inl (Int.min_eq_left h);exact .inr (Int.min_eq_right h)) l x
theorem N7(l:List Int)(x:Int):(∀a∈x::l,a<=l.foldl max x)/\l.foldl max x∈x::l:=
 G6 (ao:=fun a b=>b<=a) Int.le_refl (fun p q=>Int.le_trans q p) Int.le_max_left Int.le_max_right (fun x y=>by rcases Int.le_total x y with h | h;exact .inr (Int.max_eq_right h);exact .inl (Int.max_eq_left h)) l x
theorem Iy{x:Int}(h:x.natAbs<=1000*2 ^ 40):InLong x:=by unfold InLong;omega
theorem VW(L:l.length<=1000)(O:l.all (fun x=>decide (x.natAbs<2 ^ 40))=true):∀j,j<l.length->InLong (l.getD j 0)/\InLong ((l.take (j+1)).sum):=by
 have key:∀(m:List Int),(∀x∈m,x.natAbs<2 ^ 40)->m.sum.natAbs<=m.length*2 ^ 40:=by
  intro m
  induction m with
  | nil=>intro _;exact Nat.zero_le _
  | cons x m aj =>
   intro h;rw[List.sum_cons,dy,Nat.succ_mul,Nat.add_comm];exact aH (Int.natAbs_add_le x m.sum) (Nat.add_le_add (h6 (h x bi)) (aj fun y hy=>h y (bM _ hy)))
 intro j a5;have HF:∀x∈l,x.natAbs<2 ^ 40:=fun x hx=>hG (fI.mp O x hx);refine⟨Iy (aH (h6 (HF _ (getD_mem a5))) (by decide)),Iy (aH (key (l.take (j+1)) fun x hx=>HF x (List.mem_of_mem_take hx)) (Nat.mul_le_mul_right _ (aH ?_ L)))⟩;rw[List.length_take];exact Nat.min_le_right _ _
inductive Ck(h:Heap)(α:ax)(a:H)(xs:List H)(x:Value):Prop
 | mk (l:Addr) (T:String) (vs:List Value) (n:Nat) (e:x=.ref l) (dK:T = "list" \/ T = "tuple") (a3:h.get? l=some { cls:=.type T,data:=.seq (List.toArray vs) n }) (v:bh h α xs vs) (ha:T = "tuple" -> a=.tup xs):Ck h α a xs x
theorem v3{a:H}{x:Value}(r:ao K.hb s.heap σ α)(va:ai s.heap α a x)(e:el σ a=some xs) :
  Ck s.heap α a xs x:=by
 cases a with
 | fl ys=>obtain rfl:=oi e;obtain⟨l,vs,n,rfl,V,_,v⟩:=va.flE;exact⟨l,_,vs,n,rfl,.inl rfl,V,v,fun h=>(nomatch h)⟩
 | tup ys=>obtain rfl:=oi e;obtain⟨l,vs,n,rfl,V,_,v⟩:=va.tupE;exact⟨l,_,vs,n,rfl,.inr rfl,V,v,fun J=>rfl⟩
 | ref i =>
  refine ay va.refE fun l ag dJ=>?_;obtain rfl:=ag;simp only[el]at e
  cases hs:σ[i]? with
  | none=>rw[hs]at e;contradiction
  | some m =>
   rw[hs]at e
   cases m with
   | lst ys=>obtain rfl:=oi e;refine cJ (r.obj i _ l hs dJ) fun vs n V v=>?_;exact⟨l,_,vs,n,rfl,.inl rfl,V,v,fun h=>(nomatch h)⟩
   | _=>contradiction
 | _=>contradiction
theorem cp.list(hl:xs.length<=aI)(r:ao K.hb s.heap σ α)(v:bh s.heap α xs vs)(k:∀b o,s.heap.get? b=some o->h'.get? b=some o)
  (hD:s.heap.get? D=none) (e:h'.get? D=some { cls:=.type "list",data:=.seq vs.toArray n }):cp K ai (eW a9 xs σ) s α (.ref D) { s with heap:=h',toks:=tk }:=by
 unfold eW;rw[aD hl]
 cases a9 with
 | true =>
  refine⟨_,_,_,rfl,.keeps k,r.keeps k,?_,⟨rfl,rfl⟩⟩;refine ai.flI e (fun hm=>?_) (v.ext (.keeps (F:=[]) k));refine aL (r.liveAll hm) fun o e=>?_;rw[hD]at e;contradiction
 | false =>
  refine aS (r.add (D:=D) (m:=.lst xs) k hD ⟨vs,n,e,v.ext (.add k hD)⟩) fun aF x=>?_;refine⟨_,_,_,rfl,x,aF,.ref ?_,⟨rfl,rfl⟩⟩;rw[r.len];simp[ax.add]
theorem SG(h:eW a9 xs σ≠.stuck):xs.length<=aI:=by
 unfold eW at h;by_cases hl:xs.length<=aI
 ·exact hl
 ·rw[aY hl]at h;exact absurd rfl h
theorem RT{a:H}{x:Value}(r:ao K.hb s.heap σ α)(va:ai s.heap α a x) :
  av K ai A (call (.type "list") [x]) (dk (.list a9) a σ) s α:=by
 intro hc
 cases he:el σ a with
 | none=>exact absurd (show(match el σ a with | some xs=>eW a9 xs σ | none=>.stuck)=.stuck by rw[he]) hc
 | some xs =>
  have bK:dk (.list a9) a σ=eW a9 xs σ:=show(match el σ a with | some xs=>eW a9 xs σ | none=>.stuck)=_ by rw[he]
  rw[bK]at hc ⊢;have hl:=SG hc;obtain⟨l,T,vs,n,rfl,dK,V,v,_⟩:=v3 r va he;refine call_list_seq l dK V rfl rfl (fun h' b3 k e=>?_) (by simpa[<- v.1]using hP hl);exact cp.list (tk:=s.toks) hl r v k (lq s) e
theorem Vp{m:List Int}(L:m.Perm l)(O:m.Pairwise (· <= ·)):m=eJ l:=by
 unfold eJ;refine List.Perm.eq_of_pairwise (le:=fun a b=>decide (a<=b)) (fun a b J J L O=>?_) (O.imp fun h=>by simpa using h) (List.pairwise_mergeSort (fun a b c L O=>?_) (fun a b=>?_) l) (L.trans (List.mergeSort_perm l _).symm)
 ·simp at L O;(grind)
 ·simp at L O ⊢;(exact Int.le_trans (by assumption) (by assumption))
 ·simp;(grind)
theorem IF{h:Heap}:∀{vs:List Value} {l:List Int},IntsAre vs l->bh h α (l.map .int) vs
 | _,_,.nil=>.nil
 | _,_,.cons n t r=>.cons (.int n t) (IF r)
theorem oX(h:n<=aI):((n:Nat):Int)<2 ^ 63:=by
 have:aI=1000000:=rfl
 (grind)
theorem LB:∀{xs:List H} {l:List Bool} {vs:List Value},lF xs=some l->bh h α xs vs->vs=l.map .bool:=by
 intro xs
 induction xs with
 | nil =>
  intro l vs e v;obtain rfl:=oi e;exact hE v.1.symm
 | cons x xs aj =>
  intro l vs e v;refine cJ v.inv_cons fun u us ag bp=>?_;obtain rfl:=ag;refine aS bp fun aX bz=>?_
  cases x with
  | bool b =>
   obtain rfl:=aX.boolE;change(lF xs).map (b::·)=_ at e
   cases hr:lF xs with
   | none=>rw[hr]at e;contradiction
   | some i1=>rw[hr]at e;obtain rfl:=oi e;rw[aj hr bz];rfl
  | _=>exact nomatch e
theorem Uq(l:List Bool):(List.range l.length).all (fun i=>l.getD i false)=l.all id:=by
 induction l with
 | nil=>rfl
 | cons b l aj=>rw[dy,List.range_succ_eq_map,List.all_cons,List.all_map,List.all_cons,<- aj];rfl
theorem Rp(hk:∀b aP,b∉[s.heap.objs.size]->(s.heap.push o).get? b=some aP->h'.get? b=some aP):∀b aP,s.heap.get? b=some aP->h'.get? b=some aP:=
 fun b aP e=>hk b aP (by simp;exact h5 (e0 e)) (c3 _ e)
theorem Mf(bs:List Bool):TruthOf K.prog K.w A.in1 (fun i v=>(bs.map Value.bool).toArray[i]?=some v) (fun i=>bs.getD i false):=fun i v s' nX cR uU a6=>by
 simp only[List.getElem?_toArray,fH]at uU;refine ay (Option.map_eq_some_iff.mp uU) fun b hb ag=>?_;obtain rfl:=ag;refine wpAny_truthy_bool ?_
 have:bs.getD i false=b:=by simp[List.getD,hb]
 exact this▸a6
theorem Me{l:Addr}{bs:List Bool}(V:s.heap.get? l=some { cls:=.type "list",data:=.seq (bs.map Value.bool).toArray n }) :
  (s.heap.push { cls:=.type "list_iterator",data:=.fields #[.ref l,.int 0 0] }).IsListIter s.heap.objs.size l 0/\(s.heap.push { cls:=.type "list_iterator",data:=.fields #[.ref l,.int 0 0] }).IsList l (bs.map Value.bool).toArray:=
 ⟨⟨_,ef _ rfl,rfl,rfl⟩,⟨_,c3 _ V,rfl,n,rfl⟩⟩
theorem LG{l:Addr}{bs:List Bool}(hA:ec A)(aN:A.handled=none)(V:s.heap.get? l=some { cls:=.type "list",data:=.seq (bs.map Value.bool).toArray n })
  (h:∀h' tk,(∀b aP,s.heap.get? b=some aP->h'.get? b=some aP)->Q (.bool (bs.all id)) { s with heap:=h',toks:=tk }):wpAny (model K.prog K.w) A (call (.builtin "all") [.ref l]) Q E s:=by
 refine call_all_walk (wpAny_pyIter_list (gM V) ⟨_,_,_,_,_,_,_,rfl,Walks.list (A:=A.in1) aN _ l (h5 (e0 V)) (bs.map Value.bool).toArray,Me V,Mf bs,fun h' tk hk=>?_⟩);have:=h h' tk (Rp hk);rw[show(bs.map Value.bool).toArray.size=bs.length by simp,Uq];exact this
theorem RN{a:H}{x:Value}{l:List Str}(hA:ec A)(aN:A.handled=none)(r:ao K.hb s.heap σ α)(va:ai s.heap α a x)(hl:(el σ a).bind ke=some l)(hn:l.length<=1000)
  (h:∀D h' tk,(∀b o,s.heap.get? b=some o->h'.get? b=some o)->(∀(nX:Value->Shared->Prop) (cR:Value->Shared->Prop),(∀t pf,nX (.int (gK l).length t) { s with heap:=h',toks:=pf })->wpAny (model K.prog K.w) A (call (.builtin "len") [.ref D]) nX cR { s with heap:=h',toks:=tk })->Q (.ref D) { s with heap:=h',toks:=tk }) :
  wpAny (model K.prog K.w) A (call (.type "set") [x]) Q E s:=by
 refine ay (Option.bind_eq_some_iff.mp hl) fun xs L O=>?_;obtain⟨ad,T,vs,n,rfl,dK,V,v,_⟩:=v3 r va L;have iV:=LC O v;have c0:vs.length=l.length:=Bk iV;refine Mu aN dK V (by simpa using iV) (by rw[fc,c0];unfold scanBound;(grind)) fun h' tk Qh hk=>?_;refine h _ h' tk (fun b o e=>hk b o (e0 e) e) fun nX cR hq=>?_;refine Nd Qh fun o es d9 t ho Ps hd Yr Yx hb bc oK=>?_;refine call_len_set (s:={ s with heap:=h',toks:=tk }) ho Ps hd bc (by unfold scanBound at hb;(grind)) ?_;exact oK.symm▸(hq _ _)
theorem ss{β:Type}{g:List H->Option β}{f:β->ah H}{a:H}(h:fZ g f a σ≠.stuck)(k:∀xs l,b2 σ a=some xs->g xs=some l->f l≠.stuck->fZ g f a σ=f l->P):P:=by
 cases he:(b2 σ a).bind g with
 | none=>exact absurd (by unfold fZ;rw[he]) h
 | some l =>
  have e:fZ g f a σ=f l:=by unfold fZ;rw[he]
  exact ct he fun xs L O=>k xs l L O (e▸h) e
theorem Af{a:H}{x:Value}(r:ao K.hb s.heap σ α)(va:ai s.heap α a x)(L:b2 σ a=some xs)(O:gd xs=some l):∃ad ys,x=.ref ad/\s.heap.IsList ad (intItems ys)/\ys.toList.map (·.1)=l:=by
 obtain⟨ad,vs,n,rfl,V,v⟩:=lG r va L;refine ay (IE (Cv O v)) fun ys aw aQ=>?_;exact⟨ad,ys,rfl,aw▸gM V,aQ⟩
theorem VX{a:H}{x:Value}(aN:A.handled=none)(r:ao K.hb s.heap σ α)(va:ai s.heap α a x):av K ai A (call (.builtin "sum") [x]) (dk .sum a σ) s α:=by
 show av K ai A _ (fZ gd _ a σ) s α;intro hc;refine ss hc fun xs l L O hc e=>?_;rw[e];refine cJ (Af r va L O) fun ad ys ag bp=>?_;obtain rfl:=ag;refine aS bp fun fB aQ=>?_;by_cases hl:l.length<=1000/\l.all (fun x=>decide (x.natAbs<2 ^ 40))
 ·rw[aD hl];refine sum_intList aN fB (fun j a5=>?_) fun h' tk bx k=>?_
  ·rw[numAt_eq,preSum_eq,aQ];exact VW hl.1 hl.2 j (by rw[<- aQ];simpa using a5)
  ·rw[preSum_eq,aQ,List.take_of_length_le (by rw[<- aQ];simp)];exact⟨_,_,_,rfl,.keeps k,r.keeps k,.int _ _,⟨rfl,rfl⟩⟩
 ·exact absurd (aY hl) hc
theorem SD{a:H}{x:Value}(aN:A.handled=none)(r:ao K.hb s.heap σ α)(va:ai s.heap α a x):av K ai A (call (.builtin "min") [x]) (dk .min a σ) s α:=by
 show av K ai A _ (fZ gd _ a σ) s α;intro hc;refine ss hc fun xs l L O hc e=>?_;rw[e];refine cJ (Af r va L O) fun ad ys ag bp=>?_;obtain rfl:=ag;refine aS bp fun fB aQ=>?_
 cases l with
 | nil=>exact absurd rfl hc
 | cons kI l =>
  have c0:ys.size=l.length+1:=by have:=congrArg List.length aQ;simpa using this
  refine min_intList aN fB (c0▸Nat.succ_pos _) fun u h' tk hv k=>?_;refine aL (intItems_at hv) fun t ag=>?_;obtain rfl:=ag;refine aS (argBest_lt (numAt ys) (ys.size-1)) fun q1 q2=>?_;rw[c0]at q1 q2 ⊢;refine aS (N8 l kI) fun a0 cx=>?_
  have hm:numAt ys (argBest (fun i j=>decide (numAt ys i<numAt ys j)) l.length)=l.foldl min kI:=by
   refine Int.le_antisymm ?_ (a0 _ ?_)
   ·refine ay (mem_getD cx) fun j a5 e=>?_;have:=q2 j (Nat.le_of_lt_succ a5);rw[numAt_eq ys j,aQ,e]at this;exact this
   ·rw[numAt_eq,aQ];exact getD_mem (Nat.lt_succ_of_le q1)
  refine⟨_,_,_,rfl,.keeps k,r.keeps k,?_,⟨rfl,rfl⟩⟩;exact(show l.length+1-1=l.length from rfl).symm▸hm.symm▸(.int _ _)
theorem Sh{a:H}{x:Value}(aN:A.handled=none)(r:ao K.hb s.heap σ α)(va:ai s.heap α a x):av K ai A (call (.builtin "max") [x]) (dk .max a σ) s α:=by
 show av K ai A _ (fZ gd _ a σ) s α;intro hc;refine ss hc fun xs l L O hc e=>?_;rw[e];refine cJ (Af r va L O) fun ad ys ag bp=>?_;obtain rfl:=ag;refine aS bp fun fB aQ=>?_
 cases l with
 | nil=>exact absurd rfl hc
 | cons kI l =>
  have c0:ys.size=l.length+1:=by have:=congrArg List.length aQ;simpa using this
  refine max_intList aN fB (c0▸Nat.succ_pos _) fun u h' tk hv k=>?_;refine aL (intItems_at hv) fun t ag=>?_;obtain rfl:=ag;refine aS (argBest_gt (numAt ys) (ys.size-1)) fun q1 q2=>?_;rw[c0]at q1 q2 ⊢;refine aS (N7 l kI) fun a0 cx=>?_
  have hm:numAt ys (argBest (fun i j=>decide (numAt ys i > numAt ys j)) l.length)=l.foldl max kI:=by
   refine Int.le_antisymm (a0 _ ?_) ?_
   ·rw[numAt_eq,aQ];exact getD_mem (Nat.lt_succ_of_le q1)
   ·refine ay (mem_getD cx) fun j a5 e=>?_;have:=q2 j (Nat.le_of_lt_succ a5);rw[numAt_eq ys j,aQ,e]at this;exact this
  refine⟨_,_,_,rfl,.keeps k,r.keeps k,?_,⟨rfl,rfl⟩⟩;exact(show l.length+1-1=l.length from rfl).symm▸hm.symm▸(.int _ _)
theorem Vq{a:H}{x:Value}(r:ao K.hb s.heap σ α)(va:ai s.heap α a x):av K ai A (call (.builtin "sorted") [x]) (dk .sorted a σ) s α:=by
 show av K ai A _ (fZ qD _ a σ) s α;intro hc;refine ss hc fun xs l L O hc e=>?_;rw[e];obtain⟨ad,vs,n,rfl,V,v⟩:=lG r va L;unfold qD at O
 cases c5:gd xs with
 | none=>rw[c5]at O;contradiction
 | some m =>
  rw[c5]at O;dsimp only at O;refine qa O fun ON O=>?_;obtain rfl:=oi O;have bd:=Cv c5 v;refine sorted_ints (gM V) bd (bd.length.symm▸ON) fun out YU aA aT a8=>?_;obtain⟨e,jr⟩:=sortedAll_at s.heap vs out;have k:∀b o,s.heap.get? b=some o->(sortedAll s.heap vs out).get? b=some o:=fun b o q=>sortedAll_old q;rw[Vp aT a8]at aA;refine⟨_,_,_,rfl,.keeps k,r.keeps k,?_,⟨rfl,rfl⟩⟩;refine ai.flI (items:=out.toList) (n:=e) (by simpa using jr) (fun hm=>?_) (IF aA);obtain⟨o,q⟩:=r.liveAll hm;exact absurd (e0 q) (Nat.not_lt.mpr (Nat.le_succ _))
theorem RK{P:H->ah H->Prop}(h0:∀a,P a .stuck)(L:∀z,z.length<=aI->P (.str z) (.ok (.int z.length) σ))(O:∀a xs,el σ a=some xs->xs.length<=aI->P a (.ok (.int xs.length) σ)):∀a,P a (dk .len a σ):=by
 intro a
 have oY:P a (jW (fun xs=>if xs.length<=aI then ah.ok (H.int xs.length) σ else .stuck) a σ):=by
  unfold jW
  cases e:el σ a with
  | none=>exact h0 _
  | some xs =>
   dsimp only;by_cases hl:xs.length<=aI
   ·rw[aD hl];exact O a xs e hl
   ·rw[aY hl];exact h0 _
 cases a with
 | str z =>
  show P _ (if z.length<=aI then ah.ok (H.int z.length) σ else .stuck);by_cases hl:z.length<=aI
  ·rw[aD hl];exact L z hl
  ·rw[aY hl];exact h0 _
 | _=>exact oY
theorem W2{P:H->ah H->Prop}(h0:∀a,P a .stuck)(O:∀a xs,el σ a=some xs->xs.length<=aI->P a (.ok (.tup xs) σ))(a:H):P a (dk .tuple a σ):=by
 show P a (jW (fun xs=>if xs.length<=aI then ah.ok (H.tup xs) σ else .stuck) a σ);unfold jW
 cases e:el σ a with
 | none=>exact h0 _
 | some xs =>
  dsimp only;by_cases hl:xs.length<=aI
  ·rw[aD hl];exact O a xs e hl
  ·rw[aY hl];exact h0 _
theorem L3{b:eL}{a:H}{x:Value}(hb:n6 b≠.none)(hA:ec A)(aN:u0 b=true->A.handled=none)(r:ao K.hb s.heap σ α)(va:ai s.heap α a x) :
  av K ai A (call (n6 b) [x]) (dk b a σ) s α:=by
 cases b with
 | len =>
  refine RK (P:=fun a c=>ai s.heap α a x->av K ai A (call (.builtin "len") [x]) c s α) (fun J J hc=>absurd rfl hc) (fun z hl va J=>?_) (fun a xs he hl va J=>?_) a va
  ·refine ay va.strE fun J ag J=>?_;obtain rfl:=ag;exact P.len_str (by have:=oX hl;(grind)) (.here r (.int _ _))
  ·obtain⟨l,T,vs,n,rfl,dK,V,v,_⟩:=v3 r va he
   have hs:(vs.toArray.size:Int)<2 ^ 63:=by rw[fc,<- v.1];exact oX hl
   rcases dK with rfl | rfl
   ·refine PyProof.Rows.len_list (gM V) hs ?_;simp only[fc,<- v.1];exact .here r (.int _ _)
   ·refine PyProof.Rows.len_tuple (vq V) hs ?_;simp only[fc,<- v.1];exact .here r (.int _ _)
 | list a9=>exact RT r va
 | tuple =>
  refine W2 (P:=fun a c=>ai s.heap α a x->av K ai A (call (.type "tuple") [x]) c s α) (fun J J hc=>absurd rfl hc) (fun a xs he hl va J=>?_) a va;obtain⟨l,T,vs,n,rfl,dK,V,v,a3⟩:=v3 r va he
  rcases dK with rfl | rfl
  ·refine call_tuple_list (gM V) (fun h' k=>?_) (by simpa[<- v.1]using hP hl);have br:∀b o,s.heap.get? b=some o->(h'.push { cls:=.type "tuple",data:=.seq vs.toArray }).get? b=some o:=fun b o e=>c3 _ (k b o e);refine⟨_,_,_,rfl,.keeps br,r.keeps br,?_,⟨rfl,rfl⟩⟩;refine ai.tupI (n:=0) (ef _ rfl) (fun hm=>?_) (v.ext (.keeps (F:=[]) br));refine aL (r.liveAll hm) fun o e=>?_;exact absurd (e0 (k _ _ e)) (Nat.lt_irrefl _)
  ·rw[a3 rfl]at va;exact call_tuple_tup (vq V) ⟨_,_,_,rfl,.refl,r,va,.refl s⟩
 | sum=>exact VX (aN rfl) r va
 | min=>exact SD (aN rfl) r va
 | max=>exact Sh (aN rfl) r va
 | sorted=>exact Vq r va
 | all =>
  show av K ai A _ (fZ lF _ a σ) s α;intro hc;refine ss hc fun xs l L O J e=>?_;rw[e];obtain⟨ad,vs,n,rfl,V,v⟩:=lG r va L;rw[LB O v]at V;exact LG hA (aN rfl) V fun h' tk k=>⟨_,_,_,rfl,.keeps k,r.keeps k,.bool _,⟨rfl,rfl⟩⟩
 | int =>
  intro hc
  cases a with
  | bool b=>obtain rfl:=va.boolE;exact call_int_bool (.here r (.int _ _))
  | _=>exact absurd rfl hc
 | str =>
  intro hc
  cases a with
  | str z=>refine ay va.strE fun J ag a7=>?_;obtain rfl:=ag;exact P.str_of_str ⟨_,_,_,rfl,.refl,r,.str _ _ a7,.refl s⟩
  | int i =>
   refine aL va.intE fun J ag=>?_;obtain rfl:=ag
   have bK:dk .str (.int i) σ=if 0<=i/\i<1000000000 then .ok (.str (Str.ofString (toString i))) σ else .stuck:=rfl
   rw[bK]at hc ⊢;by_cases hl:0<=i/\i<1000000000
   ·rw[aD hl];exact P.str_of_int (Vj hl) (.here r (.str _ _ (VH _)))
   ·rw[aY hl]at hc;exact absurd rfl hc
  | _=>exact absurd rfl hc
 | lenset=>exact absurd rfl hb
 | dict=>exact absurd rfl hb
theorem ao.set{hb h h' σ α}{AM:Obj}(r:ao hb h σ α)(bW:α.ix[i]?=some a)(k:∀b o,b≠a->h.get? b=some o->h'.get? b=some o)(al:h'.get? a=some AM)
  (o:a4 [] α h α h'->d6 hb h' α m a):ao hb h' (σ.set i m) α/\a4 [] α h α h':=by
 have ha:a∈α.ix:=d2 bW
 have x:a4 [] α h α h':=⟨rfl,⟨[],by simp,fun J hx=>(nomatch hx)⟩,fun b o hb e J=>k b o (fun q=>hb (q▸ha)) e,fun b o hb J e=>.inl (k b o (fun q=>hb (q▸ha)) e),
  fun b o J e=>by
   by_cases q:b=a
   ·subst q;exact⟨AM,al⟩
   ·exact⟨o,k b o q e⟩,rfl⟩
 refine⟨⟨fun b o e=>k b o (fun q=>?_) (r.base b o e),r.fresh,r.nodup,by simp[r.len],fun b hb=>⟨(r.hidden b hb).1,let⟨o,e⟩:=(r.hidden b hb).2;⟨o,k b o (fun q=>(r.hidden b hb).1 (q▸ha)) e⟩⟩,fun j bw ed V ak=>?_,r.hfr,r.fe,fun b hb=>⟨(r.frs b hb).1,let⟨o,e,d⟩:=(r.frs b hb).2;⟨o,k b o (fun q=>r.frNot b hb (q▸ha)) e,d⟩⟩,r.frNot⟩,x⟩
 ·rw[q,r.fresh a ha]at e;contradiction
 ·by_cases a5:j=i
  ·subst a5;rw[bW]at ak;obtain rfl:=oi ak;rw[List.getElem?_set_self (by rw[r.len];exact(dX bW).1)]at V;obtain rfl:=oi V;exact o x
  ·rw[List.getElem?_set_ne (Ne.symm a5)]at V
   have dn:ed≠a:=fun q=>by
    subst q;exact a5 ((List.getElem?_inj (dX ak).1 r.nodup).mp (ak.trans bW.symm))
   refine aL (r.live (d2 ak)) fun aP aE=>?_;exact(r.obj j bw ed V ak).ext x (by rw[aE,k ed aP dn aE])
theorem Tb{a:H}{x:Value}(r:ao K.hb s.heap σ α)(va:ai s.heap α a x):av K ai A (unaryOp .USub x) (Jy a σ) s α:=by
 intro hc
 cases a with
 | int i=>refine aL va.intE fun J ag=>?_;obtain rfl:=ag;exact P.neg_int (.here r (.int _ _))
 | _=>exact absurd rfl hc
theorem wi{a:H}{x:Value}(r:ao K.hb s.heap σ α)(va:ai s.heap α a x):av K gU A (truthy x) (iI a σ) s α:=by
 intro hc
 cases a with
 | bool b=>obtain rfl:=va.boolE;exact wpAny_truthy_bool ⟨_,_,_,rfl,.refl,r,rfl,.refl s⟩
 | _=>exact absurd rfl hc
noncomputable def BL:jK->Option Value
 | .int=>some (.type "int") | .str=>some (.type "str") | .bool=>some (.type "bool") | .tuple=>some (.type "tuple")
 | .list=>some (.type "list")
section
variable {P:H->ah Bool->Prop}
theorem QW(h0:∀a,P a .stuck)(L:∀i,P (.int i) (.ok true σ))(O:∀b,P (.bool b) (.ok true σ))(aw:P .none (.ok false σ))(aQ:∀z,P (.str z) (.ok false σ)):∀a,P a (ku a .int σ):=by
 intro a
 cases a with
 | int i=>exact L i
 | bool b=>exact O b
 | none=>exact aw
 | str z=>exact aQ z
 | _=>exact h0 _
theorem QV(h0:∀a,P a .stuck)(L:∀i,P (.int i) (.ok false σ))(O:∀b,P (.bool b) (.ok true σ))(aw:P .none (.ok false σ))(aQ:∀z,P (.str z) (.ok false σ)):∀a,P a (ku a .bool σ):=by
 intro a
 cases a with
 | int i=>exact L i
 | bool b=>exact O b
 | none=>exact aw
 | str z=>exact aQ z
 | _=>exact h0 _
theorem QY(h0:∀a,P a .stuck)(L:∀i,P (.int i) (.ok false σ))(O:∀b,P (.bool b) (.ok false σ))(aw:P .none (.ok false σ))(aQ:∀z,P (.str z) (.ok true σ))(c5:∀xs,P (.tup xs) (.ok false σ)):∀a,P a (ku a .str σ):=by
 intro a
 cases a with
 | int i=>exact L i
 | bool b=>exact O b
 | none=>exact aw
 | str z=>exact aQ z
 | tup xs=>exact c5 xs
 | _=>exact h0 _
theorem QZ(h0:∀a,P a .stuck)(L:∀i,P (.int i) (.ok false σ))(aQ:∀z,P (.str z) (.ok false σ))(c5:∀xs,P (.tup xs) (.ok true σ)):∀a,P a (ku a .tuple σ):=by
 intro a
 cases a with
 | int i=>exact L i
 | str z=>exact aQ z
 | tup xs=>exact c5 xs
 | _=>exact h0 _
theorem QX(h0:∀a,P a .stuck)(L:∀xs,P (.tup xs) (.ok false σ))(O:∀a xs,b2 σ a=some xs->P a (.ok true σ)):∀a,P a (ku a .list σ):=by
 intro a
 have oY:P a (match b2 σ a with | some _=>.ok true σ | none=>.stuck):=by
  cases e:b2 σ a with
  | none=>exact h0 _
  | some xs=>exact O a xs e
 cases a with
 | tup xs=>exact L xs
 | _=>exact oY
end
theorem Q3{t:jK}{tv:Value}{a:H}{x:Value}(a3:BL t=some tv)(r:ao K.hb s.heap σ α)(va:ai s.heap α a x) :
  av K ep A (call (.builtin "isinstance") [x,tv]) (ku a t σ) s α:=by
 have ok:∀{b:Bool} {tk:Nat},cp K ep (.ok b σ) s α (.bool b) { s with toks:=tk }:=⟨_,_,_,rfl,.refl,r,rfl,⟨rfl,rfl⟩⟩;have st:∀(tv:Value) (a:H),ai s.heap α a x->av K ep A (call (.builtin "isinstance") [x,tv]) .stuck s α:=fun J J J hc=>absurd rfl hc
 cases t with
 | int =>
  obtain rfl:=oi a3
  exact QW (P:=fun a c=>ai s.heap α a x->av K ep A (call (.builtin "isinstance") [x,.type "int"]) c s α) (st _)
   (fun i va J=>by refine aL va.intE fun J ag=>?_;obtain rfl:=ag;exact IsiPair.int_int (ok (tk:=s.toks))) (fun b va J=>by obtain rfl:=va.boolE;exact IsiPair.bool_int (ok (tk:=s.toks)))
   (fun va J=>by obtain rfl:=va.noneE;exact IsiPair.NoneType_int ok) (fun z va J=>by refine ay va.strE fun J ag J=>?_;obtain rfl:=ag;exact IsiPair.str_int ok) a va
 | bool =>
  obtain rfl:=oi a3
  exact QV (P:=fun a c=>ai s.heap α a x->av K ep A (call (.builtin "isinstance") [x,.type "bool"]) c s α) (st _)
   (fun i va J=>by refine aL va.intE fun J ag=>?_;obtain rfl:=ag;exact IsiPair.int_bool ok) (fun b va J=>by obtain rfl:=va.boolE;exact IsiPair.bool_bool (ok (tk:=s.toks)))
   (fun va J=>by obtain rfl:=va.noneE;exact IsiPair.NoneType_bool ok) (fun z va J=>by refine ay va.strE fun J ag J=>?_;obtain rfl:=ag;exact IsiPair.str_bool ok) a va
 | str =>
  obtain rfl:=oi a3
  exact QY (P:=fun a c=>ai s.heap α a x->av K ep A (call (.builtin "isinstance") [x,.type "str"]) c s α) (st _)
   (fun i va J=>by refine aL va.intE fun J ag=>?_;obtain rfl:=ag;exact IsiPair.int_str ok) (fun b va J=>by obtain rfl:=va.boolE;exact IsiPair.bool_str ok)
   (fun va J=>by obtain rfl:=va.noneE;exact IsiPair.NoneType_str ok) (fun z va J=>by refine ay va.strE fun J ag J=>?_;obtain rfl:=ag;exact IsiPair.str_str (ok (tk:=s.toks)))
   (fun xs va J=>by obtain⟨l,vs,n,rfl,V,_,v⟩:=va.tupE;exact IsiPair.tuple_str V rfl ok) a va
 | tuple =>
  obtain rfl:=oi a3
  exact QZ (P:=fun a c=>ai s.heap α a x->av K ep A (call (.builtin "isinstance") [x,.type "tuple"]) c s α) (st _)
   (fun i va J=>by refine aL va.intE fun J ag=>?_;obtain rfl:=ag;exact IsiPair.int_tuple ok) (fun z va J=>by refine ay va.strE fun J ag J=>?_;obtain rfl:=ag;exact IsiPair.str_tuple ok)
   (fun xs va J=>by obtain⟨l,vs,n,rfl,V,_,v⟩:=va.tupE;exact IsiPair.tuple_tuple V rfl (ok (tk:=s.toks))) a va
 | list =>
  obtain rfl:=oi a3
  exact QX (P:=fun a c=>ai s.heap α a x->av K ep A (call (.builtin "isinstance") [x,.type "list"]) c s α) (st _)
   (fun xs va J=>by obtain⟨l,vs,n,rfl,V,_,v⟩:=va.tupE;exact IsiPair.tuple_list V rfl ok)
   (fun a xs e va J=>by obtain⟨l,vs,n,rfl,V,v⟩:=lG r va e;exact IsiPair.list_list V rfl (ok (tk:=s.toks))) a va
theorem Bc(i:Int)(n:Nat):fj i n=seqIndex? i n:=by
 unfold fj seqIndex?;by_cases h:0<=i
 ·have h':¬i<0:=by grind
  rw[aD h,aY h'];by_cases O:i.toNat<n
  ·rw[aD O,aD (by simp;(grind))]
  ·rw[aY O,aY (by simp;(grind))]
 ·have h':i<0:=by grind
  rw[aY h,aD h'];by_cases O:0<=i+n
  ·rw[aD O,aD (by simp;(grind))]
  ·rw[aY O,aY (by simp;(grind))]
theorem J4{i:Int}(h:fj i n=some j):-(n:Int)<=i/\i<n:=by
 unfold fj at h
 split at h
 ·split at h
  ·(grind)
  ·contradiction
 ·split at h
  ·(grind)
  ·contradiction
theorem Oo{l:Addr}{i:Int}{t:Tok}(V:s.heap.get? l=some { cls:=.type "list",data:=.seq vs.toArray n })
  (hsz:vs.length<=aI) (a5:fj i vs.length=some j) (hu:vs[j]?=some u) (h:Q u s):wpAny (model K.prog K.w) A (getItem (.ref l) (.int i t)) Q E s:=by
 have hl:=oX hsz;unfold fj at a5;by_cases h0:0<=i
 ·rw[aD h0]at a5
  split at a5
  ·cases a5;exact wpAny_getItem_list (gM V) h0 (by grind) (by simpa using hu) h
  ·cases a5
 ·rw[aY h0]at a5
  split at a5
  ·cases a5;exact wpAny_getItem_list_neg (gM V) (by grind) (by simp;(grind)) (by grind) (by simpa using hu) h
  ·cases a5
theorem bh.get{p:H}(v:bh h α xs vs)(e:xs[j]?=some p):∃u,vs[j]?=some u/\ai h α p u:=by
 have a5:=(dX e).1
 have hv:j<vs.length:=by exact v.1▸a5
 exact⟨vs[j],by simp[hv],v.2 j p vs[j] e (by simp[hv])⟩
theorem IL{slice:Expr}{l:Addr}{i:Int}{t:Tok}{T:String}(dK:T = "list" \/ T = "tuple")(hs:∀o i:Value,subscripted slice false o i=operate [o,i] (getItem o i))
  (r:ao K.hb s.heap σ α) (V:s.heap.get? l=some { cls:=.type T,data:=.seq vs.toArray n }) (v:bh s.heap α xs vs):av K ai A (subscriptTail value slice (.ref l) (.int i t)) (li xs i σ) s α:=by
 intro hc;unfold li at hc ⊢;by_cases hl:xs.length<=aI
 ·rw[aD hl]at hc ⊢
  cases a5:(fj i xs.length).bind (xs[·]?)with
  | none=>rw[a5]at hc;exact absurd rfl hc
  | some p =>
   refine ay (Option.bind_eq_some_iff.mp a5) fun j L O=>?_;refine ay (v.get O) fun u hu hv=>?_
   have p1:vs.length<=aI:=by exact v.1▸hl
   rcases dK with rfl | rfl
   ·refine tail_any (gM V).typeIs slot_list_getitem.lookup ?_ (hs _ _);exact Oo V p1 (v.1▸L) hu ⟨_,_,_,rfl,.refl,r,hv,.refl s⟩
   ·have zL:=oX p1;have hr:=J4 L;have c0:=v.1;exact item_tupleT (vq V) (by grind) (by grind) (by rw[<- Bc,<- v.1];exact L) hu ⟨_,_,_,rfl,.refl,r,hv,.refl s⟩ (hs _ _)
 ·rw[aY hl]at hc;exact absurd rfl hc
theorem VN{P:H->H->ah H->Prop}(h0:∀a b,P a b .stuck)(L:∀i es k v,σ[i]?=some (.ds es)->aG k es=some v->P (.ref i) (.str k) (.ok v σ))(O:∀i b es k v,σ[i]?=some (.dp es)->g8 b=some k->aG k es=some v->P (.ref i) b (.ok v σ)):∀a b,P a b (mu a b σ):=by
 intro a b
 cases a with
 | ref i =>
  unfold mu;dsimp only
  cases hq:σ[i]? with
  | none=>exact h0 _ _
  | some m =>
   cases m with
   | ds es =>
    cases b with
    | str k =>
     dsimp only
     cases hv:aG k es with
     | none=>exact h0 _ _
     | some v=>exact L i es k v hq hv
    | _=>exact h0 _ _
   | dp es =>
    dsimp only
    cases hk:g8 b with
    | none=>exact h0 _ _
    | some k =>
     show P _ _ (ah.ofOpt (aG k es) σ)
     cases hv:aG k es with
     | none=>exact h0 _ _
     | some v=>exact O i b es k v hq hk hv
   | _=>exact h0 _ _
 | _=>exact h0 _ _
theorem VO{slice:Expr}{a b:H}{x:Value}(hA:ec A)(hs:∀o i:Value,subscripted slice false o i=operate [o,i] (getItem o i))(r:ao K.hb s.heap σ α)(va:ai s.heap α a x)(vb:ai s.heap α b y) :
  av K ai A (subscriptTail value slice x y) (mu a b σ) s α:=
 VN (P:=fun a b c=>ai s.heap α a x->ai s.heap α b y->av K ai A (subscriptTail value slice x y) c s α) (fun J J J J hc=>absurd rfl hc)
  (fun i es k v hq hv va vb J=>by
   refine ay va.refE fun l ag dJ=>?_;obtain rfl:=ag;refine ay vb.strE fun J ag J=>?_;obtain rfl:=ag;refine ay (pP r hq dJ) fun d5 L J=>?_
   exact tail_any L.typeIs slot_dict_getitem.lookup (Rg r hq dJ hv) (hs _ _))
  (fun i b es k v hq hk hv va vb J=>by
   refine ay va.refE fun l ag dJ=>?_;obtain rfl:=ag;refine ay (pO r hq dJ) fun xs L J=>?_
   exact tail_any L.typeIs slot_dict_getitem.lookup (Rf hA r hq dJ hk vb hv) (hs _ _)) a b va vb
theorem VU{P:H->H->ah H->Prop}(h0:∀a b,P a b .stuck)(L:∀z i c,z.cps.size<=aI->(fj i z.cps.size).bind (z.cps[·]?)=some c->P (.str z) (.int i) (.ok (.str ⟨#[c]⟩) σ))(O:∀xs i,P (.tup xs) (.int i) (li xs i σ))(aw:∀a xs i,b2 σ a=some xs->P a (.int i) (li xs i σ))
  (aQ:∀a b,P a b (mu a b σ))
  : ∀a b,P a b (f6 a b σ):=by
 intro a b
 cases b with
 | int i =>
  have oY:P a (.int i) (match b2 σ a with | some xs=>li xs i σ | none=>.stuck):=by
   cases e:b2 σ a with
   | none=>exact h0 _ _
   | some xs=>exact aw a xs i e
  cases a with
  | tup xs=>exact O xs i
  | str z =>
   show P _ _ (if z.cps.size<=aI then(match(fj i z.cps.size).bind (z.cps[·]?)with | some c=>ah.ok (.str ⟨#[c]⟩) σ | none=>.stuck)else .stuck);by_cases hl:z.cps.size<=aI
   ·rw[aD hl]
    cases a5:(fj i z.cps.size).bind (z.cps[·]?)with
    | none=>exact h0 _ _
    | some c=>exact L z i c hl a5
   ·rw[aY hl];exact h0 _ _
  | _=>exact oY
 | _=>exact aQ a _
set_option tactic.hygienic true in
theorem VV{slice:Expr}{a b:H}{x:Value}(hA:ec A)(rY:∀l u p,slice≠.Slice l u none p)(r:ao K.hb s.heap σ α)(va:ai s.heap α a x)(vb:ai s.heap α b y) :
  av K ai A (subscriptTail value slice x y) (f6 a b σ) s α:=by
 have hs:∀o i:Value,subscripted slice false o i=operate [o,i] (getItem o i):=fun o i=>by
  unfold subscripted
  split
  ·rename_i q;exact absurd rfl (rY _ _ _)
  ·rename_i q;contradiction
  ·rfl
 refine VU (P:=fun a b c=>ai s.heap α a x->ai s.heap α b y->av K ai A (subscriptTail value slice x y) c s α) (fun J J J J hc=>absurd rfl hc) (fun z i c hl a5 va vb hc=>?_) (fun xs i va vb=>?_) (fun a xs i L va vb=>?_)
  (fun a b va vb=>VO hA hs r va vb)
  a b va vb
 ·refine ay va.strE fun J ag a7=>?_;obtain rfl:=ag;refine aL vb.intE fun t ag=>?_;obtain rfl:=ag;have zL:=oX hl;refine ay (Option.bind_eq_some_iff.mp a5) fun j L O=>?_;have hr:=J4 L;refine tail_any (typeIs_str s z _) F.slot_str_getitem.lookup ?_ (hs _ _);refine P.getItem_str (c:=c) (by simp;(grind)) (by rw[<- Bc];exact a5) (.here r (.str _ _ ?_));unfold PyData.strOk at a7 ⊢;simp only[Array.all_eq_true']at a7 ⊢;intro d hd;simp at hd;subst hd;exact a7 _ (Array.mem_of_getElem? O)
 ·obtain⟨l,vs,n,rfl,V,_,v⟩:=va.tupE;refine aL vb.intE fun t ag=>?_;obtain rfl:=ag;exact IL (.inr rfl) hs r V v
 ·obtain⟨l,vs,n,rfl,V,v⟩:=lG r va L;refine aL vb.intE fun t ag=>?_;obtain rfl:=ag;exact IL (.inl rfl) hs r V v
structure s9(env:Env):Prop where
 kind:env.scope.kind=.function
 glob:env.globals=mainGlobals
 bins:env.builtins=builtinsNs
 ws:∀(i:Nat) (x:Str) (k:NameKind),env.scope.names[i]?=some (x,k)->env.kindOf x=some k
 nodbg:∀(i:Nat) (x:Str) (k:NameKind),env.scope.names[i]?=some (x,k)->(x == ("__debug__" : Str))=false
structure aZ(env:Env)(ρ:az)(h:Heap)(α:ax):Prop where
 ok:s9 env
 la:env.locals∉α.all
 ns:∃m,h.Ns env.locals m/\∀(i:Nat) (x:Str) (v:H),env.scope.names[i]?=some (x,.local)->ρ[i]?=some (some v)->∃u,m x=some u/\ai h α v u
 ca:∀x c,env.cells.lookup x=some c->c∉α.all/\c≠env.locals/\∃v,h.IsCell c v
 cd:∀x y c,env.cells.lookup x=some c->env.cells.lookup y=some c->x=y
 cv:∀(i:Nat) (x:Str),env.scope.names[i]?=some (x,.cell)->∃c,env.cells.lookup x=some c/\∀v,ρ[i]?=some (some v)->∃u,h.IsCell c (some u)/\ai h α v u
 inb:∀(i:Nat) (v:H),ρ[i]?=some (some v)->∃x k,env.scope.names[i]?=some (x,k)/\(k=.local\/k=.cell)
theorem MB{c:Addr}{v:Option Value}(Lo:h.get? c=some o)(wY:o.data=.cell v)(x:jg fr h' c o):h'.get? c=some o:=x.same (by rintro⟨es,n,q⟩;rw[wY]at q;cases q)
theorem p6{F α h α' h'}{c:Addr}{v:Option Value}(x:a4 F α h α' h')(hc:c∉α.ix)(bQ:c∉F)(i:h.IsCell c v):h'.IsCell c v:=by
 refine ay i fun o e d=>?_;exact⟨o,MB e d (x.rest c o hc bQ e),d⟩
theorem AL{F α h α' h'}{m:Str->Option Value}(x:a4 F α h α' h')(ha:a∉α.ix)(bQ:a∉F)(n:h.Ns a m):h'.Ns a m:=by
 refine jP (id n) fun o es d9 e r=>?_;exact(x.rest a o ha bQ e).ns n e
noncomputable def mz(env:Env)(F:List Addr):Prop:=env.locals∉F/\∀x c,env.cells.lookup x=some c->c∉F
theorem mz.nil:mz env []:=⟨(et),fun J J J=>(et)⟩
theorem aZ.ext{F α h α' h'}(x:a4 F α h α' h')(ap:mz env F)(E:aZ env ρ h α):aZ env ρ h' α':=by
 refine ay E.ns fun m n hm=>?_;refine jP (id n) fun Tt J J xo J=>?_;refine⟨E.ok,x.notAll E.la xo,⟨m,AL x (ax.not_ix E.la) ap.1 n,fun i y v V ak=>?_⟩,fun y c hc=>?_,E.cd,fun i y V=>?_,E.inb⟩
 ·refine ay (hm i y v V ak) fun u L O=>?_;exact⟨u,L,O.ext x⟩
 ·refine dN (E.ca y c hc) fun L O bp=>?_;refine aL bp fun v aw=>?_;refine ay (id aw) fun o e d=>?_;exact⟨x.notAll L e,O,v,p6 x (ax.not_ix L) (ap.2 y c hc) aw⟩
 ·refine ay (E.cv i y V) fun c hc hv=>?_;refine⟨c,hc,fun v ak=>?_⟩;refine ay (hv v ak) fun u L O=>?_;exact⟨u,p6 x (ax.not_ix (E.ca y c hc).1) (ap.2 y c hc) L,O.ext x⟩
set_option tactic.hygienic true in
theorem Js{k:NameKind}{p:Pos}(r:ao K.hb s.heap σ α)(E:aZ env ρ s.heap α)(hn:env.scope.names[i]?=some (x,k)) :
  av K ai A (eval (.Name x p) env) (ev C (.v i) ρ σ) s α:=by
 intro hc;simp only[NF,BR]at hc ⊢
 split at hc
 ·rename_i v hv;refine cJ (E.inb i v hv) fun aO br L O=>?_;rw[hn]at L;cases L;have hk:=E.ok.ws i x k hn;refine wpAny_Name ?_ (E.ok.nodbg i x k hn)
  rcases O with rfl | rfl
  ·refine ay E.ns fun m n hm=>?_;refine ay (hm i x v hn hv) fun u aw aQ=>?_;exact wpAny_loadName_local E.ok.kind hk n aw ⟨_,_,_,rfl,.refl,r,aQ,.refl s⟩
  ·refine ay (E.cv i x hn) fun c aw aQ=>?_;refine ay (aQ v hv) fun u c5 gh=>?_;exact wpAny_loadName_cell E.ok.kind hk aw c5 ⟨_,_,_,rfl,.refl,r,gh,.refl s⟩
 ·exact absurd rfl hc
theorem qp{p:Pos}{v:Value}{X:Value->Shared->Prop}(hK:K.Ok)(r:ao K.hb s.heap σ α)(E:s9 env)(hn:env.scope.names[i]?=some (x,.globalImplicit))
  (hv:K.mg x=some v) (h:Q v s):wpAny (model K.prog K.w) A (eval (.Name x p) env) Q X s:=
 Calls.Name_function_global E.kind (E.ws i x _ hn) (Calls.loadGlobal_global (E.glob.symm▸(hK.g.keeps r.base)) hv h) (E.nodbg i x _ hn)
theorem SS{p:Pos}{v:Value}{X:Value->Shared->Prop}(hK:K.Ok)(r:ao K.hb s.heap σ α)(E:s9 env)(hn:env.scope.names[i]?=some (x,.globalImplicit))
  (hm:K.mg x=none) (hv:K.mb x=some v) (h:Q v s):wpAny (model K.prog K.w) A (eval (.Name x p) env) Q X s:=
 Calls.Name_function_global E.kind (E.ws i x _ hn) (Calls.loadGlobal_builtin (by rw[E.glob];exact hK.g.keeps r.base) hm (by rw[E.bins];exact hK.b.keeps r.base) hv h) (E.nodbg i x _ hn)
theorem ai.re(L:∀(i:Nat) (a:Addr),α.ix[i]?=some a->α'.ix[i]?=some a)(O:∀a,a∈α'.all->a∈α.all){p:H}{v:Value}(r:ai h α p v):ai h α' p v:=by
 induction r with
 | none=>exact .none
 | bool b=>exact .bool b
 | int i t=>exact .int i t
 | str s t hs=>exact .str s t hs
 | tup e hn hl _ aj=>exact .tup e (fun q=>hn (O _ q)) hl aj
 | fl e hn hl _ aj=>exact .fl e (fun q=>hn (O _ q)) hl aj
 | exc e hc hd hn=>exact .exc e hc hd (fun q=>hn (O _ q))
 | inst e hn hi=>exact .inst e (fun q=>hn (O _ q)) (L _ _ hi)
 | ref e=>exact .ref (L _ _ e)
theorem ai.hide(hD:h.get? D=Option.none){p:H}{v:Value}(r:ai h α p v):ai h ⟨α.ix,D::α.hid,α.fr⟩ p v:=by
 have key:∀{a:Addr} {o:Obj},h.get? a=some o->a∉α.all->a∉(⟨α.ix,D::α.hid,α.fr⟩:ax).all:=fun{a o} e hn q=>by
  rcases dt.mp q with q | q
  ·exact hn (gW _ q)
  ·rcases b5.mp q with q | q
   ·subst q;rw[hD]at e;contradiction
   ·exact hn (d7 _ q)
 induction r with
 | none=>exact .none
 | bool b=>exact .bool b
 | int i t=>exact .int i t
 | str s t hs=>exact .str s t hs
 | tup e hn hl _ aj=>exact .tup e (key e hn) hl aj
 | fl e hn hl _ aj=>exact .fl e (key e hn) hl aj
 | exc e hc hd hn=>exact .exc e hc hd (key e hn)
 | inst e hn hi=>exact .inst e (key e hn) hi
 | ref e=>exact .ref e
theorem bh.re(L:∀(i:Nat) (a:Addr),α.ix[i]?=some a->α'.ix[i]?=some a)(O:∀a,a∈α'.all->a∈α.all){p:List H}{v:List Value}(r:bh h α p v):bh h α' p v:=
 ⟨r.1,fun i x y V ak=>(r.2 i x y V ak).re L O⟩
theorem bh.hide(hD:h.get? D=none){p:List H}{v:List Value}(r:bh h α p v):bh h ⟨α.ix,D::α.hid,α.fr⟩ p v:=
 ⟨r.1,fun i x y V ak=>(r.2 i x y V ak).hide hD⟩
theorem ax.not_hide(hD:h.get? D=none)(e:h.get? a=some o)(hn:a∉α.all):a∉(⟨α.ix,D::α.hid,α.fr⟩:ax).all:=fun q=>by
 rcases dt.mp q with q | q
 ·exact hn (gW _ q)
 ·rcases b5.mp q with q | q
  ·subst q;rw[hD]at e;contradiction
  ·exact hn (d7 _ q)
theorem ai.sameBut(hD:D∈α.all)(k:∀b,b≠D->h'.get? b=h.get? b){p:H}{v:Value}(r:ai h α p v):ai h' α p v:=by
 induction r with
 | none=>exact .none
 | bool b=>exact .bool b
 | int i t=>exact .int i t
 | str s t hs=>exact .str s t hs
 | tup e hn hl _ aj=>exact .tup ((k _ (by rintro rfl;exact hn hD)).trans e) hn hl aj
 | fl e hn hl _ aj=>exact .fl ((k _ (by rintro rfl;exact hn hD)).trans e) hn hl aj
 | exc e hc hd hn=>exact .exc ((k _ (by rintro rfl;exact hn hD)).trans e) hc hd hn
 | inst e hn hi=>exact .inst ((k _ (by rintro rfl;exact hn hD)).trans e) hn hi
 | ref e=>exact .ref e
theorem bh.sameBut(hD:D∈α.all)(k:∀b,b≠D->h'.get? b=h.get? b){p:List H}{v:List Value}(r:bh h α p v):bh h' α p v:=
 ⟨r.1,fun i x y V ak=>(r.2 i x y V ak).sameBut hD k⟩
noncomputable def wQ(K:a2)(A:Around)(it v:Value)(P:Shared->Prop)(s:Shared):Prop:=
 ∀(mT:List Expr) (k:Nat) (pos:Pos) (Q:Unit->Shared->Prop) (E:Value->Shared->Prop),(∀s',P s'->Q () s')->wpAny (model K.prog K.w) A (letOwnedTupleGo (.Tuple mT k pos) it v) Q E s
noncomputable def AR:List String:=["enumerate", "zip", "dict_itemiterator", "dict_reverseitemiterator", "odict_iterator", "itertools.zip_longest", "itertools.pairwise"]
theorem sA{n:String}{v:Value}{P:Shared->Prop}(e:s.heap.get? I=some o)(hc:o.cls=.type n)(hn:AR.contains n=false)(h:P s):wQ K A (.ref I) v P s:=by
 intro mT k pos Q E a6;have hq:=a6 s h;unfold letOwnedTupleGo
 cases v with
 | ref a =>
  refine aM (wpAny_load e ?_);obtain⟨c,d,Db,cu⟩:=o;dsimp only at hc;subst hc
  cases Db with
  | fields vs =>
   show wpAny _ A (if(AR.contains n&&vs[0]? == some (rawInt a))=true then _ else _) Q E s;exact hn.symm▸(bJ hq)
  | _=>exact bJ hq
 | _=>exact bJ hq
structure gA(K:a2)(A:Around)(en:Bool)(own:List Addr)(it:Value)(xs:List H)(wt:Option (Nat×aW))(St:Nat->Heap->ax->Prop):Prop where
 live:∀i h α,St i h α->∀b∈own,∃o,h.get? b=some o
 apart:∀i h α,St i h α->∀b∈own,b∉α.all
 frame:∀i F α h α' h',St i h α->a4 F α h α' h'->(∀b∈own,b∉F)->St i h' α'
 but:∀i D α h h',St i h α->D∈α.all->(∀b,b≠D->h'.get? b=h.get? b)->St i h' α
 hide:∀i D α h,St i h α->h.get? D=none->St i h ⟨α.ix,D::α.hid,α.fr⟩
 item:∀(i:Nat) (s:Shared) (σ:aa) (α:ax) (p:H),xs[i]?=some p->St i s.heap α->ao K.hb s.heap σ α->hY wt σ->∀(Q:Option Value->Shared->Prop) (E:Value->Shared->Prop),
  (∀v s',ai s'.heap α p v->(en=false->St (i+1) s'.heap α)->wQ K A it v (fun ba=>ai ba.heap α p v/\St (i+1) ba.heap α/\a4 own α s'.heap α ba.heap/\ao K.hb ba.heap σ α/\cq s' ba) s'->a4 own α s.heap α s'.heap->ao K.hb s'.heap σ α->cq s s'->Q (some v) s')->wpAny (model K.prog K.w) A (pyNext it) Q E s
 done:∀(s:Shared) (σ:aa) (α:ax),St xs.length s.heap α->ao K.hb s.heap σ α->hY wt σ->∀(Q:Option Value->Shared->Prop) (E:Value->Shared->Prop),
  (∀s',a4 own α s.heap α s'.heap->ao K.hb s'.heap σ α->cq s s'->Q none s')->wpAny (model K.prog K.w) A (pyNext it) Q E s
 self:∀(i:Nat) (s:Shared) (α:ax),St i s.heap α->∀(Q:Value->Shared->Prop) (E:Value->Shared->Prop),Q it s->wpAny (model K.prog K.w) A (pyIter it) Q E s
theorem ao.but{hb h h' σ α}(r:ao hb h σ α)(Hx:I∉α.all)(gm:hb.get? I=none)(k:∀b o,b≠I->h.get? b=some o->h'.get? b=some o)
  (hs:∀o,h.get? I=some o->¬kb o) (hd:I∈hb.fr->∀o,h.get? I=some o->gL o->∃aP,h'.get? I=some aP/\gL aP):ao hb h' σ α/\a4 [I] α h α h':=by
 have bd:I∉α.ix:=ax.not_ix Hx;have OS:I∉α.hid:=fun q=>Hx (d7 _ q);have x:a4 [I] α h α h':=⟨rfl,⟨[],by simp,fun J hx=>(nomatch hx)⟩,fun b o hb e q=>k b o (fun z=>by subst z;exact hs o e q) e,fun b o hb bQ e=>.inl (k b o (by simpa using bQ) e),fun b o bQ e=>⟨o,k b o (by simpa using bQ) e⟩,rfl⟩;refine⟨⟨fun b o e=>k b o (fun q=>by rw[q,gm]at e;contradiction) (r.base b o e),r.fresh,r.nodup,r.len,fun b hb=>⟨(r.hidden b hb).1,?_⟩,fun j m a V ak=>?_,r.hfr,r.fe,fun b hb=>⟨(r.frs b hb).1,?_⟩,r.frNot⟩,x⟩
 ·refine aL ((r.hidden b hb).2) fun o e=>?_;exact⟨o,k b o (fun q=>OS (q▸hb)) e⟩
 ·refine aL (r.live (d2 ak)) fun aP aE=>?_;exact(r.obj j m a V ak).ext x (by rw[aE,k a aP (fun q=>bd (q▸d2 ak)) aE])
 ·obtain⟨_,o,e,d⟩:=r.frs b hb;by_cases q:b=I
  ·subst q;exact hd hb o e d
  ·exact⟨o,k b o q e,d⟩
theorem k7{c:Addr}{v:Array Value}(Lo:h.get? c=some o)(wY:o.data=.fields v)(x:jg fr h' c o):h'.get? c=some o:=x.same (by rintro⟨es,n,q⟩;rw[wY]at q;contradiction)
theorem iC{v:Array Value}{T:String}(d:o.data=.fields v)(hc:o.cls=.type T):¬kb o:=by
 rintro(⟨xs,n,e⟩ | ⟨C,vs,e,_⟩ | ⟨C,e,_⟩)
 ·rw[d]at e;contradiction
 ·rw[hc]at e;contradiction
 ·rw[hc]at e;contradiction
theorem iB{v:Array Value}(d:o.data=.fields v):¬gL o:=by
 rintro⟨xs,n,e⟩;rw[d]at e;contradiction
theorem gA.list(hA:ec A)(aN:A.handled=none){l:Addr}(gm:K.hb.get? I=none) :
  gA K A en [I] (.ref I) xs none (fun i h α=>h.IsListIter I l i/\I∉α.all/\ai h α (.fl xs) (.ref l)) where
 live:=fun i h α st b hb=>by simp at hb;subst hb;obtain⟨⟨o,e,_⟩,_⟩:=st;exact⟨o,e⟩
 apart:=fun i h α st b hb=>by simp at hb;subst hb;exact st.2.1
 frame:=fun i F α h α' h' st x bQ=>by
  obtain⟨⟨o,e,hc,hd⟩,bd,v⟩:=st;exact⟨⟨o,k7 e hd (x.rest I o (ax.not_ix bd) (bQ I ((bi))) e),hc,hd⟩,x.notAll bd e,v.ext x⟩
 but:=fun i D α h h' st hD k=>by
  obtain⟨⟨o,e,hc,hd⟩,bd,v⟩:=st;exact⟨⟨o,(k I (fun q=>bd (q▸hD))).trans e,hc,hd⟩,bd,v.sameBut hD k⟩
 hide:=fun i D α h st hD=>by
  obtain⟨⟨o,e,hc,hd⟩,bd,v⟩:=st;exact⟨⟨o,e,hc,hd⟩,ax.not_hide hD e bd,v.hide hD⟩
 item:=fun i s σ α p hp st r J Q E a6=>by
  refine dN st fun bF bd v=>?_;obtain⟨i1,vs,n,hl,V,hn,w⟩:=v.flE;cases hl;refine ay (w.get hp) fun u hu hv=>?_;refine bu (id bF) fun o e hc hd=>?_;refine wpAny_pyNext_list_item bF (gM V) (by simpa using hu) fun h' e4 eU=>?_
  obtain⟨aF,x⟩:=r.but bd gm (fun b o hb e=>(eU.2 b hb).trans e) (fun aP aE=>by rw[e]at aE;obtain rfl:=oi aE;exact iC hd hc) fun J aP aE e2=>by rw[e]at aE;obtain rfl:=oi aE;exact absurd e2 (iB hd)
  refine bu (id e4) fun aP aE cg J=>?_;exact a6 u _ (hv.ext x) (fun J=>⟨e4,bd,v.ext x⟩) (sA (s:={ s with heap:=h' }) aE cg (by decide) ⟨hv.ext x,⟨e4,bd,v.ext x⟩,.refl,aF,.refl _⟩) x aF ⟨rfl,rfl⟩
 done:=fun s σ α st r J Q E a6=>by
  refine dN st fun bF bd v=>?_;obtain⟨i1,vs,n,hl,V,hn,w⟩:=v.flE;cases hl;refine bu (id bF) fun o e hc hd=>?_;refine wpAny_pyNext_list_end aN bF (gM V) (by simp[w.1]) fun h' jr=>?_
  obtain⟨aF,x⟩:=r.but bd gm (fun b o hb e=>jr b o hb e) (fun aP aE=>by rw[e]at aE;obtain rfl:=oi aE;exact iC hd hc) fun J aP aE e2=>by rw[e]at aE;obtain rfl:=oi aE;exact absurd e2 (iB hd)
  exact a6 _ x aF ⟨rfl,rfl⟩
 self:=fun i s α st Q E a6=>wpAny_pyIter_listiter st.1 a6
theorem gA.mlist(hA:ec A)(aN:A.handled=none){l:Addr}(gm:K.hb.get? I=none) :
  gA K A en [I] (.ref I) xs (some (j,.lst xs)) (fun i h α=>h.IsListIter I l i/\I∉α.all/\α.ix[j]?=some l) where
 live:=fun i h α st b hb=>by simp at hb;subst hb;obtain⟨⟨o,e,_⟩,_⟩:=st;exact⟨o,e⟩
 apart:=fun i h α st b hb=>by simp at hb;subst hb;exact st.2.1
 frame:=fun i F α h α' h' st x bQ=>by
  obtain⟨⟨o,e,hc,hd⟩,bd,v⟩:=st;exact⟨⟨o,k7 e hd (x.rest I o (ax.not_ix bd) (bQ I ((bi))) e),hc,hd⟩,x.notAll bd e,x.get v⟩
 but:=fun i D α h h' st hD k=>by
  obtain⟨⟨o,e,hc,hd⟩,bd,v⟩:=st;exact⟨⟨o,(k I (fun q=>bd (q▸hD))).trans e,hc,hd⟩,bd,v⟩
 hide:=fun i D α h st hD=>by
  obtain⟨⟨o,e,hc,hd⟩,bd,v⟩:=st;exact⟨⟨o,e,hc,hd⟩,ax.not_hide hD e bd,v⟩
 item:=fun i s σ α p hp st r wt Q E a6=>by
  refine dN st fun bF bd v=>?_;refine cJ (r.obj j _ l wt v) fun vs n V w=>?_;refine ay (w.get hp) fun u hu hv=>?_;refine bu (id bF) fun o e hc hd=>?_;refine wpAny_pyNext_list_item bF (gM V) (by simpa using hu) fun h' e4 eU=>?_
  obtain⟨aF,x⟩:=r.but bd gm (fun b o hb e=>(eU.2 b hb).trans e) (fun aP aE=>by rw[e]at aE;obtain rfl:=oi aE;exact iC hd hc) fun J aP aE e2=>by rw[e]at aE;obtain rfl:=oi aE;exact absurd e2 (iB hd)
  refine bu (id e4) fun aP aE cg J=>?_;exact a6 u _ (hv.ext x) (fun J=>⟨e4,bd,v⟩) (sA (s:={ s with heap:=h' }) aE cg (by decide) ⟨hv.ext x,⟨e4,bd,v⟩,.refl,aF,.refl _⟩) x aF ⟨rfl,rfl⟩
 done:=fun s σ α st r wt Q E a6=>by
  refine dN st fun bF bd v=>?_;refine cJ (r.obj j _ l wt v) fun vs n V w=>?_;refine bu (id bF) fun o e hc hd=>?_;refine wpAny_pyNext_list_end aN bF (gM V) (by simp[w.1]) fun h' jr=>?_
  obtain⟨aF,x⟩:=r.but bd gm (fun b o hb e=>jr b o hb e) (fun aP aE=>by rw[e]at aE;obtain rfl:=oi aE;exact iC hd hc) fun J aP aE e2=>by rw[e]at aE;obtain rfl:=oi aE;exact absurd e2 (iB hd)
  exact a6 _ x aF ⟨rfl,rfl⟩
 self:=fun i s α st Q E a6=>wpAny_pyIter_listiter st.1 a6
theorem gA.signs{t:Tok}{ty:String}(gm:K.hb.get? I=none)(hx:PyData.strOk x=true)(lY:AR.contains ty=false)
  (Q6:∀(s:Shared) (i c:Nat) (Q:Option Value->Shared->Prop) (E:Value->Shared->Prop),s.heap.IsStrIter I ty x t i->x.cps[i]?=some c ->
   (∀h',h'.IsStrIter I ty x t (i+1)->Heap.SameBut I s.heap h'->Q (some (.str ⟨#[c]⟩ s.toks)) { s with heap:=h',toks:=s.toks+1 })->wpAny (model K.prog K.w) A (pyNext (.ref I)) Q E s)
  (Q7:∀(s:Shared) (i:Nat) (Q:Option Value->Shared->Prop) (E:Value->Shared->Prop),s.heap.IsStrIter I ty x t i->x.cps[i]?=none->(∀h',Heap.ExtBut I s.heap h'->Q none { s with heap:=h' })->wpAny (model K.prog K.w) A (pyNext (.ref I)) Q E s)
  (Q8:∀(s:Shared) (i:Nat) (Q:Value->Shared->Prop) (E:Value->Shared->Prop),s.heap.IsStrIter I ty x t i->Q (.ref I) s->wpAny (model K.prog K.w) A (pyIter (.ref I)) Q E s) :
  gA K A en [I] (.ref I) (v5 x) none (fun i h α=>h.IsStrIter I ty x t i/\I∉α.all) where
 live:=fun i h α st b hb=>by simp at hb;subst hb;obtain⟨⟨o,e,_⟩,_⟩:=st;exact⟨o,e⟩
 apart:=fun i h α st b hb=>by simp at hb;subst hb;exact st.2
 frame:=fun i F α h α' h' st x bQ=>by
  obtain⟨⟨o,e,hc,hd⟩,bd⟩:=st;exact⟨⟨o,k7 e hd (x.rest I o (ax.not_ix bd) (bQ I ((bi))) e),hc,hd⟩,x.notAll bd e⟩
 but:=fun i D α h h' st hD k=>by
  obtain⟨⟨o,e,hc,hd⟩,bd⟩:=st;exact⟨⟨o,(k I (fun q=>bd (q▸hD))).trans e,hc,hd⟩,bd⟩
 hide:=fun i D α h st hD=>by
  obtain⟨⟨o,e,hc,hd⟩,bd⟩:=st;exact⟨⟨o,e,hc,hd⟩,ax.not_hide hD e bd⟩
 item:=fun i s σ α p hp st r J Q E a6=>by
  refine aS st fun bF bd=>?_;refine bu (id bF) fun o e hc hd=>?_;simp only[v5,fH]at hp;refine ay (Option.map_eq_some_iff.mp hp) fun c p0 ag=>?_;obtain rfl:=ag
  have HI:x.cps[i]?=some c:=by exact(Array.getElem?_toList)▸p0
  refine Q6 s i c Q E bF HI fun h' e4 eU=>?_
  obtain⟨aF,aO⟩:=r.but bd gm (fun b o hb e=>(eU.2 b hb).trans e) (fun aP aE=>by rw[e]at aE;obtain rfl:=oi aE;exact iC hd hc) fun J aP aE e2=>by rw[e]at aE;obtain rfl:=oi aE;exact absurd e2 (iB hd)
  refine bu (id e4) fun aP aE cg J=>?_
  have cM:PyData.strOk ⟨#[c]⟩=true:=by
   unfold PyData.strOk at hx ⊢;simp only[Array.all_eq_true']at hx ⊢;intro d e3;simp at e3;subst e3;exact hx _ (Array.mem_of_getElem? HI)
  exact a6 _ _ (.str _ _ cM) (fun J=>⟨e4,bd⟩) (sA (s:={ s with heap:=h',toks:=s.toks+1 }) aE cg lY ⟨.str _ _ cM,⟨e4,bd⟩,.refl,aF,.refl _⟩) aO aF ⟨rfl,rfl⟩
 done:=fun s σ α st r J Q E a6=>by
  refine aS st fun bF bd=>?_;refine bu (id bF) fun o e hc hd=>?_;refine Q7 s _ Q E bF (by simp[v5]) fun h' jr=>?_
  obtain⟨aF,aO⟩:=r.but bd gm (fun b o hb e=>jr b o hb e) (fun aP aE=>by rw[e]at aE;obtain rfl:=oi aE;exact iC hd hc) fun J aP aE e2=>by rw[e]at aE;obtain rfl:=oi aE;exact absurd e2 (iB hd)
  exact a6 _ aO aF ⟨rfl,rfl⟩
 self:=fun i s α st Q E a6=>Q8 s i Q E st.1 a6
theorem p8{items:List Value}(e:s.heap.get? a=some { cls:=.type "tuple",data:=.seq items.toArray n }):s.heap.IsTuple a items.toArray:=⟨_,e,rfl,n,rfl⟩
theorem gA.tuple(hA:ec A)(aN:A.handled=none){l:Addr}(gm:K.hb.get? I=none) :
  gA K A en [I] (.ref I) xs none (fun i h α=>h.IsTupleIter I l i/\I∉α.all/\ai h α (.tup xs) (.ref l)) where
 live:=fun i h α st b hb=>by simp at hb;subst hb;obtain⟨⟨o,e,_⟩,_⟩:=st;exact⟨o,e⟩
 apart:=fun i h α st b hb=>by simp at hb;subst hb;exact st.2.1
 frame:=fun i F α h α' h' st x bQ=>by
  obtain⟨⟨o,e,hc,hd⟩,bd,v⟩:=st;exact⟨⟨o,k7 e hd (x.rest I o (ax.not_ix bd) (bQ I ((bi))) e),hc,hd⟩,x.notAll bd e,v.ext x⟩
 but:=fun i D α h h' st hD k=>by
  obtain⟨⟨o,e,hc,hd⟩,bd,v⟩:=st;exact⟨⟨o,(k I (fun q=>bd (q▸hD))).trans e,hc,hd⟩,bd,v.sameBut hD k⟩
 hide:=fun i D α h st hD=>by
  obtain⟨⟨o,e,hc,hd⟩,bd,v⟩:=st;exact⟨⟨o,e,hc,hd⟩,ax.not_hide hD e bd,v.hide hD⟩
 item:=fun i s σ α p hp st r J Q E a6=>by
  refine dN st fun bF bd v=>?_;obtain⟨i1,vs,n,hl,V,hn,w⟩:=v.tupE;cases hl;refine ay (w.get hp) fun u hu hv=>?_;refine bu (id bF) fun o e hc hd=>?_;refine wpAny_pyNext_tuple_item bF (p8 V) (by simpa using hu) fun h' e4 eU=>?_
  obtain⟨aF,x⟩:=r.but bd gm (fun b o hb e=>(eU.2 b hb).trans e) (fun aP aE=>by rw[e]at aE;obtain rfl:=oi aE;exact iC hd hc) fun J aP aE e2=>by rw[e]at aE;obtain rfl:=oi aE;exact absurd e2 (iB hd)
  refine bu (id e4) fun aP aE cg J=>?_;exact a6 u _ (hv.ext x) (fun J=>⟨e4,bd,v.ext x⟩) (sA (s:={ s with heap:=h' }) aE cg (by decide) ⟨hv.ext x,⟨e4,bd,v.ext x⟩,.refl,aF,.refl _⟩) x aF ⟨rfl,rfl⟩
 done:=fun s σ α st r J Q E a6=>by
  refine dN st fun bF bd v=>?_;obtain⟨i1,vs,n,hl,V,hn,w⟩:=v.tupE;cases hl;refine bu (id bF) fun o e hc hd=>?_;refine wpAny_pyNext_tuple_end aN bF (p8 V) (by simp[w.1]) fun h' jr=>?_
  obtain⟨aF,x⟩:=r.but bd gm (fun b o hb e=>jr b o hb e) (fun aP aE=>by rw[e]at aE;obtain rfl:=oi aE;exact iC hd hc) fun J aP aE e2=>by rw[e]at aE;obtain rfl:=oi aE;exact absurd e2 (iB hd)
  exact a6 _ x aF ⟨rfl,rfl⟩
 self:=fun i s α st Q E a6=>wpAny_pyIter_tupleiter st.1 a6
theorem gA.range(hA:ec A)(aN:A.handled=none){a c:Int}(gm:K.hb.get? I=none) :
  gA K A en [I] (.ref I) (dh a c n) none (fun i h α=>IsRangeIter h I (a+(i:Nat)*c) ((n:Int)-(i:Nat)) c/\I∉α.all) where
 live:=fun i h α st b hb=>by simp at hb;subst hb;exact⟨_,st.1⟩
 apart:=fun i h α st b hb=>by simp at hb;subst hb;exact st.2
 frame:=fun i F α h α' h' st x bQ=>by
  refine aS st fun e bd=>?_;exact⟨k7 e rfl (x.rest I _ (ax.not_ix bd) (bQ I ((bi))) e),x.notAll bd e⟩
 but:=fun i D α h h' st hD k=>by
  refine aS st fun e bd=>?_;exact⟨(k I (fun q=>bd (q▸hD))).trans e,bd⟩
 hide:=fun i D α h st hD=>by
  refine aS st fun e bd=>?_;exact⟨e,ax.not_hide hD e bd⟩
 item:=fun i s σ α p hp st r J Q E a6=>by
  refine aS st fun bF bd=>?_
  have hi:i<n:=by have:=(dX hp).1;simpa[dh]using this
  have zR:p=.int (a+(i:Int)*c):=by
   simp only[dh,fH,List.getElem?_range hi,Option.map_some,Option.some.injEq]at hp;exact hp.symm
  subst zR;refine wpAny_pyNext_range_item bF (by grind) fun h' e4 eU=>?_
  obtain⟨aF,x⟩:=r.but bd gm (fun b o hb e=>(eU.2 b hb).trans e) (fun aP aE=>by rw[show s.heap.get? I=_ from bF]at aE;obtain rfl:=oi aE;exact iC rfl rfl) fun J aP aE e2=>by rw[show s.heap.get? I=_ from bF]at aE;obtain rfl:=oi aE;exact absurd e2 (iB rfl)
  have V:a+((i+1:Nat):Int)*c=a+(i:Int)*c+c:=by push_cast;rw[Int.add_mul,Int.one_mul,Int.add_assoc]
  have ak:(n:Int)-((i+1:Nat):Int)=(n:Int)-(i:Int)-1:=by push_cast;(grind)
  have c9:IsRangeIter h' I (a+((i+1:Nat):Int)*c) ((n:Int)-((i+1:Nat):Int)) c:=by exact V.symm▸ak.symm▸e4
  exact a6 _ _ (.int _ _) (fun J=>⟨c9,bd⟩) (sA (s:={ s with heap:=h',toks:=s.toks+1 }) e4 rfl (by decide) ⟨.int _ _,⟨c9,bd⟩,.refl,aF,.refl _⟩) x aF ⟨rfl,rfl⟩
 done:=fun s σ α st r J Q E a6=>by
  refine aS st fun bF bd=>?_;refine wpAny_pyNext_range_end aN bF (by simp[dh]) fun h' jr=>?_
  obtain⟨aF,x⟩:=r.but bd gm (fun b o hb e=>jr b o hb e) (fun aP aE=>by rw[show s.heap.get? I=_ from bF]at aE;obtain rfl:=oi aE;exact iC rfl rfl) fun J aP aE e2=>by rw[show s.heap.get? I=_ from bF]at aE;obtain rfl:=oi aE;exact absurd e2 (iB rfl)
  exact a6 _ x aF ⟨rfl,rfl⟩
 self:=fun i s α st Q E a6=>wpAny_pyIter_rangeiter st.1 a6
theorem d6.hide{B:fO}(hD:h.get? D=none)(r:d6 B h α m a):d6 B h ⟨α.ix,D::α.hid,α.fr⟩ m a:=
 r.map (fun J J v=>v.hide hD) rfl fun b o hb e J=>⟨e,ax.not_hide hD e hb⟩
theorem d6.re{B:fO}(L:∀(i:Nat) (a:Addr),α.ix[i]?=some a->α'.ix[i]?=some a)(O:∀a,a∈α'.all->a∈α.all)(r:d6 B h α m a):d6 B h α' m a:=
 r.map (fun J J v=>v.re L O) rfl fun b o hb e J=>⟨e,fun q=>hb (O b q)⟩
theorem aZ.hide(hD:h.get? D=none)(E:aZ env ρ h α):aZ env ρ h ⟨α.ix,D::α.hid,α.fr⟩:=by
 refine ay E.ns fun m n hm=>?_;refine jP (id n) fun Tt J J xo J=>?_;refine⟨E.ok,ax.not_hide hD xo E.la,⟨m,n,fun i x v V ak=>let⟨u,a,b⟩:=hm i x v V ak;⟨u,a,b.hide hD⟩⟩,fun x c hc=>?_,E.cd,fun i x V=>?_,E.inb⟩
 ·refine dN (E.ca x c hc) fun L O bp=>?_;refine aL bp fun v aw=>?_;refine ay (id aw) fun o e d=>?_;exact⟨ax.not_hide hD e L,O,v,aw⟩
 ·refine ay (E.cv i x V) fun c hc hv=>?_;exact⟨c,hc,fun v ak=>let⟨u,a,b⟩:=hv v ak;⟨u,a,b.hide hD⟩⟩
theorem ao.hide{hb h h' σ α}(r:ao hb h σ α)(hD:h.get? D=none)(k:∀b o,h.get? b=some o->h'.get? b=some o)(e:h'.get? D=some o):ao hb h' σ ⟨α.ix,D::α.hid,α.fr⟩:=by
 have aF:=r.keeps k
 have m1:D∉α.ix:=fun q=>by refine aL (r.live q) fun o e=>?_;rw[hD]at e;cases e
 refine⟨aF.base,aF.fresh,aF.nodup,aF.len,fun a ha=>?_,fun i m a V ak=>?_,fun a ha=>?_,aF.fe,aF.frs,aF.frNot⟩
 ·rcases b5.mp ha with q | q
  ·subst q;exact⟨m1,_,e⟩
  ·exact aF.hidden a q
 ·have x:a4 [] (⟨α.ix,D::α.hid,α.fr⟩:ax) h ⟨α.ix,D::α.hid,α.fr⟩ h':=.keeps k;refine aL (r.live (d2 ak)) fun aP aE=>?_;exact((r.obj i m a V ak).hide hD).ext x (by rw[aE,k a aP aE])
 ·rcases b5.mp ha with q | q
  ·subst q
   cases hq:hb.get? a with
   | none=>rfl
   | some o=>rw[r.base _ _ hq]at hD;cases hD
  ·exact r.hfr a q
inductive f8(K:a2)(A:Around)(en:Bool)(c:ah (List H×Option (Nat×aW)))(s:Shared)(α:ax)(it:Value)(s':Shared):Prop where
 | mk (xs:List H) (wt:Option (Nat×aW)) (σ':aa) (α':ax) (own:List Addr) (St:Nat->Heap->ax->Prop) (h:c=.ok (xs,wt) σ') (x:a4 [] α s.heap α' s'.heap) (r:ao K.hb s'.heap σ' α') (m:cq s s') (I:gA K A en own it xs wt St) (st:St 0 s'.heap α') (ho:∀b∈own,s.heap.get? b=none/\K.hb.get? b=none):f8 K A en c s α it s'
theorem f8.lift{c:ah (List H×Option (Nat×aW))}{it:Value}(x:a4 [] α s.heap bb s₁.heap)(m:cq s s₁)(p:f8 K A en c s₁ bb it s'):f8 K A en c s α it s':=by
 obtain⟨xs,wt,σ',α',own,St,e,aO,r,bw,I,st,ho⟩:=p;refine⟨xs,wt,σ',α',own,St,e,x.trans aO,r,m.trans bw,I,st,fun b hb=>⟨?_,(ho b hb).2⟩⟩
 cases hq:s.heap.get? b with
 | none=>rfl
 | some o=>obtain⟨aP,aE⟩:=x.alive b o ((et)) hq;rw[(ho b hb).1]at aE;cases aE
noncomputable def jf(K:a2)(A:Around)(en:Bool)(t:Sem Value)(c:ah (List H×Option (Nat×aW)))(s:Shared)(α:ax):Prop:=
 c≠.stuck->wpAny (model K.prog K.w) A t (fun x s₁=>wpAny (model K.prog K.w) A (pyIter x) (f8 K A en c s α) (da K A c s α) s₁) (da K A c s α) s
theorem oH(r:ao K.hb s.heap σ α):K.hb.get? s.heap.objs.size=none:=by
 cases hq:K.hb.get? s.heap.objs.size with
 | none=>rfl
 | some o=>exact absurd (e0 (r.base _ _ hq)) (Nat.lt_irrefl _)
theorem f8.new(bd:I=s.heap.objs.size)(r:ao K.hb s.heap σ α)(it:gA K A en [I] (.ref I) xs wt St)
  (st:∀h',h'=s.heap.push o->(∀b aP,s.heap.get? b=some aP->h'.get? b=some aP)->I∉α.all->St 0 h' α):f8 K A en (.ok (xs,wt) σ) s α (.ref I) { s with heap:=s.heap.push o,toks:=tk }:=by
 subst bd;have k:∀b aP,s.heap.get? b=some aP->(s.heap.push o).get? b=some aP:=fun b aP e=>c3 _ e;refine⟨xs,wt,σ,α,_,St,rfl,.keeps k,r.keeps k,⟨rfl,rfl⟩,it,st _ rfl k (fun hm=>?_),fun b hb=>?_⟩
 ·refine aL (r.liveAll hm) fun o e=>?_;rw[lq]at e;cases e
 ·simp at hb;subst hb;exact⟨lq s,oH r⟩
theorem Rj{a:H}{x:Value}(hA:ec A)(aN:A.handled=none)(r:ao K.hb s.heap σ α)(va:ai s.heap α a x)
  (hc:d4 a σ≠.stuck) :
  wpAny (model K.prog K.w) A (pyIter x) (f8 K A en (d4 a σ) s α) E s:=by
 unfold d4 at hc ⊢
 cases a with
 | fl xs =>
  obtain⟨l,vs,n,rfl,V,hn,v⟩:=va.flE;refine wpAny_pyIter_list (gM V) (f8.new (tk:=s.toks) rfl r (.list hA aN (l:=l) (oH r)) fun h' aN k bd=>?_);exact⟨⟨_,by rw[aN];exact ef _ rfl,rfl,rfl⟩,bd,va.ext (.keeps (F:=[]) k)⟩
 | tup xs =>
  obtain⟨l,vs,n,rfl,V,hn,v⟩:=va.tupE;refine wpAny_pyIter_tuple (p8 V) (f8.new (tk:=s.toks) rfl r (.tuple hA aN (l:=l) (oH r)) fun h' aN k bd=>?_);exact⟨⟨_,by rw[aN];exact ef _ rfl,rfl,rfl⟩,bd,va.ext (.keeps (F:=[]) k)⟩
 | ref i =>
  refine ay va.refE fun l ag dJ=>?_;obtain rfl:=ag;simp only[items,nK]at hc ⊢
  cases hs:σ[i]? with
  | none=>rw[hs]at hc;exact absurd rfl hc
  | some m =>
   cases m with
   | lst xs =>
    refine cJ (r.obj i _ l hs dJ) fun vs n V v=>?_;refine wpAny_pyIter_list (gM V) (f8.new (tk:=s.toks) rfl r (.mlist hA aN (l:=l) (j:=i) (oH r)) fun h' aN k bd=>?_);exact⟨⟨_,by rw[aN];exact ef _ rfl,rfl,rfl⟩,bd,dJ⟩
   | _=>rw[hs]at hc;exact absurd rfl hc
 | str z =>
  refine ay va.strE fun t ag a7=>?_;obtain rfl:=ag;cases ha:z.cps.all (· < 128)
  ·refine wpAny_pyIter_wide ha (f8.new (tk:=s.toks) rfl r (.signs (t:=t) (ty := "str_iterator") (oH r) a7 (by decide) (fun s i c Q E L O aw=>wpAny_pyNext_wide_item L O aw) (fun s i Q E L O aw=>wpAny_pyNext_wide_end aN L O aw) fun s i Q E L O=>wpAny_pyIter_striter_wide L O) fun h' aN k bd=>?_);exact⟨⟨_,by rw[aN];exact ef _ rfl,rfl,rfl⟩,bd⟩
  ·refine wpAny_pyIter_ascii ha (f8.new (tk:=s.toks) rfl r (.signs (t:=t) (ty := "str_ascii_iterator") (oH r) a7 (by decide) (fun s i c Q E L O aw=>wpAny_pyNext_ascii_item L O aw) (fun s i Q E L O aw=>wpAny_pyNext_ascii_end aN L O aw) fun s i Q E L O=>wpAny_pyIter_striter_ascii L O) fun h' aN k bd=>?_);exact⟨⟨_,by rw[aN];exact ef _ rfl,rfl,rfl⟩,bd⟩
 | _=>exact absurd rfl hc
theorem U4{n:Int}(h0:0<=n):Builtin.Range.rangeSize 0 n 1=n:=by
 unfold Builtin.Range.rangeSize;simp;(grind)
theorem Vi{n:Int}(h0:0<=n)(L:n<=(aI:Int)):Builtin.Range.small 0 n 1=true:=
 small_one (by decide) (by decide) (Int.le_trans (by decide) h0) (Int.lt_of_le_of_lt L (by decide))
noncomputable def nL(s:Shared)(a b c:Int)(t u v tk:Nat):Shared:={ s with heap:=s.heap.push { cls:=.type "range",data:=.fields #[.int a t,.int b u,.int c v] },toks:=tk }
theorem K1{a b c:Int}{t u v:Nat}{x:Addr}(e:s.heap.get? x=some o):(nL s a b c t u v tk).heap.get? x=some o:=c3 _ e
inductive mG(K:a2)(c:ah (List H×Option (Nat×aW)))(s:Shared)(α:ax)(y:Value)(s':Shared):Prop
 | mk (s₁:Shared) (ac:aa) (bb:ax) (a b d:Int) (t u v tk n:Nat) (hy:y=.ref s₁.heap.objs.size) (hs:s'=nL s₁ a b d t u v tk) (hc:c=.ok (dh a d n,none) ac) (x:a4 [] α s.heap bb s₁.heap) (r:ao K.hb s₁.heap ac bb) (m:cq s s₁) (mm:Builtin.Range.small a b d=true) (hn:Builtin.Range.rangeSize a b d=n) (hl:n<=2000000):mG K c s α y s'
theorem mG.lift{c:ah (List H×Option (Nat×aW))}(x:a4 [] jc s₀.heap α s.heap)(m:cq s₀ s)(p:mG K c s α y s'):mG K c s₀ jc y s':=by
 obtain⟨s₁,ac,bb,a,b,d,t,u,v,tk,n,hy,hs,hc,aO,r,bw,mm,hn,hl⟩:=p;exact⟨s₁,ac,bb,a,b,d,t,u,v,tk,n,hy,hs,hc,x.trans aO,r,m.trans bw,mm,hn,hl⟩
theorem Ri{a b c:Int}{t u v:Nat}(hA:ec A)(aN:A.handled=none)(r:ao K.hb s.heap σ α)(hs:Builtin.Range.small a b c=true)(hn:Builtin.Range.rangeSize a b c=n) :
  wpAny (model K.prog K.w) A (pyIter (.ref s.heap.objs.size)) (f8 K A en (.ok (dh a c n,none) σ) s α) E (nL s a b c t u v tk):=by
 have aF:ao K.hb (nL s a b c t u v tk).heap σ α:=r.keeps fun J J=>K1;refine wpAny_pyIter_range (s:=nL s a b c t u v tk) (IsRange.new _ _ _ _ _ _ _) hs (f8.lift (s₁:=nL s a b c t u v tk) (.keeps fun J J=>K1) ⟨rfl,rfl⟩ ?_);refine f8.new (s:=nL s a b c t u v tk) (tk:=tk) rfl aF (.range hA aN (a:=a) (c:=c) (n:=n) (oH (s:=nL s a b c t u v tk) aF)) fun h' aN br bd=>⟨?_,bd⟩;rw[aN,hn];unfold IsRangeIter;simp only[Int.ofNat_zero,Int.zero_mul,Int.add_zero,Int.sub_zero];exact ef _ rfl
theorem Up{a:H}(h:nr a σ≠.stuck)(k:∀n:Nat,a=.int n->n<=aI->nr a σ=.ok (dh 0 1 n,none) σ->P):P:=by
 cases a with
 | int i =>
  have bK:nr (.int i) σ=if 0<=i/\i<=aI then .ok (dh 0 1 i.toNat,none) σ else .stuck:=rfl
  by_cases hl:0<=i/\i<=aI
  ·refine aL (kc hl.1) fun n ag=>?_;obtain rfl:=ag;exact k n rfl (Int.ofNat_le.mp hl.2) (bK.trans (aD hl))
  ·exact absurd (bK.trans (aY hl)) h
 | _=>exact absurd rfl h
theorem mG.iter{c:ah (List H×Option (Nat×aW))}(hA:ec A)(aN:A.handled=none)(p:mG K c s α y s'):wpAny (model K.prog K.w) A (pyIter y) (f8 K A en c s α) E s':=by
 obtain⟨s₁,ac,bb,a,b,d,t,u,v,tk,n,rfl,rfl,rfl,x,r,m,mm,hn,hl⟩:=p;exact cr (Ri hA aN r mm hn) (fun it ba hp=>hp.lift x m) fun J J e=>e
theorem Mt{a:H}{x:Value}(r:ao K.hb s.heap σ α)(va:ai s.heap α a x)(hc:nr a σ≠.stuck):wpAny (model K.prog K.w) A (call (.type "range") [x]) (mG K (nr a σ) s α) E s:=by
 refine Up hc fun n ha hl e=>?_;subst ha;refine aL va.intE fun t ag=>?_;obtain rfl:=ag;exact e.symm▸(call_range_1 ⟨s,σ,α,0,n,1,_,_,_,s.toks+1+1,n,rfl,rfl,rfl,.refl,r,.refl s,Vi (d3 n) (Int.ofNat_le.mpr hl),U4 (d3 n),aH hl (by decide)⟩)
section
variable {prog:Program}{w:World}
theorem Tg{it t:Addr}{items:Array Value}{x:Value}(bF:s.heap.IsTupleIter it t i)(a3:s.heap.IsTuple t items)(hx:items[i]?=some x)
  (a6:∀h',h'.IsTupleIter it t (i+1)->Heap.SameBut it s.heap h'->Q x { s with heap:=h' }):wpAny (model prog w) A (Builtin.SmallTypes.nextOf (.ref it)) Q E s:=by
 refine bu (id bF) fun o ho hc hd=>?_;refine bu a3 fun i4 oN J bp=>?_;refine aL bp fun gq zG=>?_;unfold Builtin.SmallTypes.nextOf
 refine aM (wpAny_callSpecial?_slot (name:=Str.ofString "__next__") bF.typeIs F.slot_tuple_iterator_next
  (wpAny_call_entry F.slot_tuple_iterator_next bF.typeIs F.entry_tuple_iterator_next ?_ (F.args_tuple_iterator_next_1 _)))
 show wpAny _ _ (field (.ref it) 0 >>= _) _ _ s;refine aM (gE ho hd (x:=.ref t) rfl ?_);show wpAny _ _ (if(Value.ref t == Value.none)=true then _ else _) _ _ s;rw[aY (show ¬((Value.ref t == Value.none)=true)from Bool.false_ne_true)];show wpAny _ _ (field (.ref it) 1 >>= _) _ _ s;refine aM (gE ho hd (x:=.int i 0) rfl ?_);show wpAny _ _ (seqItems? (.ref t) >>= _) _ _ s;refine aM (wpAny_seqItems oN zG ?_);simp only[kT,hx];refine aM (wpAny_setField ho hd (by simp) (bJ ⟨x,rfl,bJ (a6 _ ?_ (Heap.SameBut.update ..))⟩))
 exact⟨_,Heap.get?_update_self _ ho (Obj.isFreed_of_fields (Obj.data_mapFields hd _)),(Obj.cls_mapFields ..).trans hc,by
  rw[Obj.data_mapFields hd];simp[rawInt]⟩
theorem Tf{it t:Addr}{items:Array Value}(aN:A.handled=none)(bF:s.heap.IsTupleIter it t i)(a3:s.heap.IsTuple t items)(hx:items[i]?=none)
  (fK:∀h' e,Heap.ExtBut it s.heap h'->(∃o,h'.get? e=some o/\o.cls=.type "StopIteration")->E (.ref e) { s with heap:=h' }):wpAny (model prog w) A (Builtin.SmallTypes.nextOf (.ref it)) Q E s:=by
 refine bu (id bF) fun o ho hc hd=>?_;refine bu a3 fun i4 oN J bp=>?_;refine aL bp fun gq zG=>?_;unfold Builtin.SmallTypes.nextOf
 refine aM (wpAny_callSpecial?_slot (name:=Str.ofString "__next__") bF.typeIs F.slot_tuple_iterator_next
  (wpAny_call_entry F.slot_tuple_iterator_next bF.typeIs F.entry_tuple_iterator_next ?_ (F.args_tuple_iterator_next_1 _)))
 show wpAny _ _ (field (.ref it) 0 >>= _) _ _ s;refine aM (gE ho hd (x:=.ref t) rfl ?_);show wpAny _ _ (if(Value.ref t == Value.none)=true then _ else _) _ _ s;rw[aY (show ¬((Value.ref t == Value.none)=true)from Bool.false_ne_true)];show wpAny _ _ (field (.ref it) 1 >>= _) _ _ s;refine aM (gE ho hd (x:=.int i 0) rfl ?_);show wpAny _ _ (seqItems? (.ref t) >>= _) _ _ s;refine aM (wpAny_seqItems oN zG ?_);simp only[kT,hx];refine aM (wpAny_rule (aM (wpAny_setField ho hd (by simp) ?_)));show wpAny _ _ (newExc (.type "StopIteration") [] >>= _) _ _ _;refine aM ?_;simp only[newExc,newTuple];refine aM (wpAny_newObj_type ?_ (by size_fits));refine aM (m:=firstArgMember _ _) (wpAny_of_eq (a:=Value.none) (by first | rfl | (simp only[firstArgMember];rfl)) ?_);refine wpAny_newObj_type ?_ (by size_fits);simp only[raiseNew];refine aM (wpAny_handled ?_)
 first | rw[show A.in1.handled=none from aN] | rw[aN]
 refine aM (bJ (wpAny_throw ?_));exact fK _ _ (((Heap.SameBut.update ..).extBut.push _).push _) ⟨_,ef _ rfl,rfl⟩
structure ji(h:Heap)(z TI bP bL ck t l:Addr)(k:Nat)(k6:Value):Prop where
 z:IsZip h z TI bP k6
 ti:IsPair h TI (.ref bL) (.ref ck)
 it:h.IsTupleIter bL t k
 il:h.IsListIter ck l k
structure pG(z TI bP bL ck:Addr):Prop where
 a:TI≠z
 b:bP≠z
 c:bL≠z
 d:ck≠z
 e:TI≠bP
 f:TI≠bL
 g:TI≠ck
 h:bP≠bL
 i:bP≠ck
 j:bL≠ck
theorem BI{t:Addr}{k:Nat}(x:h.IsTupleIter I t k)(g:∀o,h.get? I=some o->h'.get? I=some o):h'.IsTupleIter I t k:=by
 refine bu x fun o e c d=>?_;exact⟨o,g o e,c,d⟩
theorem Aq{t:Addr}{k:Nat}(x:h.IsListIter I t k)(g:∀o,h.get? I=some o->h'.get? I=some o):h'.IsListIter I t k:=by
 refine bu x fun o e c d=>?_;exact⟨o,g o e,c,d⟩
theorem ji.keep{t l:Addr}{k:Nat}{k6:Value}(Z:ji h z TI bP bL ck t l k k6)(g:∀b,b=z\/b=TI\/b=bL\/b=ck->∀o,h.get? b=some o->h'.get? b=some o):ji h' z TI bP bL ck t l k k6:=
 ⟨g z (.inl rfl) _ Z.z,g TI (.inr (.inl rfl)) _ Z.ti,BI Z.it (g bL (.inr (.inr (.inl rfl)))),Aq Z.il (g ck (.inr (.inr (.inr rfl))))⟩
theorem XR{t l:Addr}{k:Nat}{xs ys:Array Value}{x a b:Value}(D:pG z TI bP bL ck)(Z:ji s.heap z TI bP bL ck t l k .none)(zv:IsPair s.heap bP a b)
  (a3:∀h':Heap,(∀c o,c≠z->c≠bP->c≠bL->c≠ck->s.heap.get? c=some o->h'.get? c=some o)->h'.IsTuple t xs/\h'.IsList l ys) (hx:xs[k]?=some x) (hy:ys[k]?=some y)
  (a6:∀h',ji h' z TI bP bL ck t l (k+1) (rawInt s.heap.objs.size)->IsPair h' bP x y->IsPair h' s.heap.objs.size x y ->
   (∀c o,c≠z->c≠bP->c≠bL->c≠ck->s.heap.get? c=some o->h'.get? c=some o)->Q (.ref s.heap.objs.size) { s with heap:=h' }) :
  wpAny (model prog w) A (Builtin.«zip.__next__» ⟨[.ref z],[]⟩) (fun fin s'=>∃v,fin=.done (.ret v)/\Q v s') E s:=by
 obtain⟨a7,uV,L,O⟩:=Z;show wpAny _ _ (field (.ref z) 2 >>= _) _ _ _;refine aM (gE a7 rfl (x:=.bool false) rfl ?_);show wpAny _ _ (field (.ref z) 3 >>= _) _ _ _;refine aM (gE a7 rfl (x:=.ref TI) rfl ?_);refine aM (wpAny_seqItems uV rfl ?_);show wpAny _ _ (Builtin.SmallTypes.ownedTupleIsFree (.ref z) >>= _) _ _ _;refine aM ?_;unfold Builtin.SmallTypes.ownedTupleIsFree;refine aM (gE a7 rfl (x:=.none) rfl (bJ ?_));simp only[if_true];refine aM (wpAny_rule ?_);refine aM (gE a7 rfl (x:=.ref bP) rfl ?_);refine aM (wpAny_setField_rec a7 (by simp) fun cT oU g5=>?_)
 replace oU:IsZip cT z TI bP .ellipsis:=oU
 refine aM ?_;simp only[List.zipIdx_cons,List.zipIdx_nil,List.forIn_cons,List.forIn_nil];refine aM (aM (wpAny_onRaise ?_));show wpAny _ _ (Builtin.SmallTypes.nextOf (.ref bL) >>= _) _ _ _;have IT:∀c o,c≠z->s.heap.get? c=some o->cT.get? c=some o:=fun c o cE e=>g5.extBut _ _ cE e;refine aM (Tg (L.extBut g5.extBut D.c) (a3 cT fun c o cE J J J e=>IT c o cE e).1 hx fun h₂ OI m5=>bJ ?_);have HA:IsPair h₂ bP a b:=m5.extBut _ _ D.h (g5.extBut _ _ D.b zv);refine aM (wpAny_seqItems HA rfl ?_);refine aM (wpAny_updateSeq_pair HA fun kt zw m6=>?_)
 replace zw:IsPair kt bP x b:=zw
 refine aM (wpAny_letGo (bJ ?_));refine aM (aM (wpAny_onRaise ?_));show wpAny _ _ (Builtin.SmallTypes.nextOf (.ref ck) >>= _) _ _ _;have IU:∀c o,c≠z->c≠bP->c≠bL->s.heap.get? c=some o->kt.get? c=some o:=fun c o cE e1 lH e=>m6.extBut _ _ e1 (m5.extBut _ _ lH (IT c o cE e))
 refine aM (wpAny_nextOf_list_item (((O.extBut g5.extBut D.d).extBut m5.extBut D.j.symm).extBut m6.extBut D.i.symm)
  (a3 kt fun c o cE e1 lH J e=>IU c o cE e1 lH e).2 hy fun z3 OL r4=>bJ ?_)
 have HB:IsPair z3 bP x b:=r4.extBut _ _ D.i zw;refine aM (wpAny_seqItems HB rfl ?_);refine aM (wpAny_updateSeq_pair HB fun iY uW r5=>?_)
 replace uW:IsPair iY bP x y:=uW
 refine aM (wpAny_letGo (bJ (bJ ?_)));refine aM (wpAny_seqItems uW rfl ?_);refine aM (wpAny_newTuple ?_)
 have hsz:iY.objs.size=s.heap.objs.size:=by rw[r5.1,r4.1,m6.1,m5.1,g5.1]
 have Ia:IsZip iY z TI bP .ellipsis:=r5.extBut _ _ D.b.symm (r4.extBut _ _ D.d.symm (m6.extBut _ _ D.b.symm (m5.extBut _ _ D.c.symm oU)))
 have PK:∀c o,c≠z->c≠bP->c≠bL->c≠ck->s.heap.get? c=some o->iY.get? c=some o:=fun c o cE e1 lH n8 e =>
  r5.extBut _ _ e1 (r4.extBut _ _ n8 (IU c o cE e1 lH e))
 have OJ:iY.IsTupleIter bL t (k+1):=((OI.extBut m6.extBut D.h.symm).extBut r4.extBut D.j).extBut r5.extBut D.h.symm;have OM:iY.IsListIter ck l (k+1):=OL.extBut r5.extBut D.i.symm;have H8:z<iY.objs.size:=e0 Ia;show wpAny _ _ (Builtin.SmallTypes.ownedTupleHandOut (.ref z) (.ref iY.objs.size) >>= _) _ _ _;refine aM ?_;unfold Builtin.SmallTypes.ownedTupleHandOut;have Qz:IsZip (iY.push { cls:=.type "tuple",data:=.seq #[x,y] }) z TI bP .ellipsis:=c3 _ Ia;refine aM (wpAny_setField_rec Qz (by simp) fun Ib z2 H0=>?_)
 replace z2:IsZip Ib z TI bP (rawInt iY.objs.size):=z2
 refine wpAny_setField_rec z2 (by simp) fun r8 ve H1=>?_
 replace ve:IsZip r8 z TI bP (rawInt iY.objs.size):=ve
 have up:∀c o,c≠z->iY.get? c=some o->r8.get? c=some o:=fun c o cE e=>H1.extBut _ _ cE (H0.extBut _ _ cE (c3 _ e));have HD:IsPair r8 iY.objs.size x y:=H1.extBut _ _ (c7 H8) (H0.extBut _ _ (c7 H8) (ef _ rfl));rw[hsz]at ve HD;refine bJ ⟨_,rfl,?_⟩;show Q (.ref iY.objs.size) _;rw[hsz];have cb:∀c o,c≠z->c≠bP->c≠bL->c≠ck->s.heap.get? c=some o->r8.get? c=some o:=fun c o cE e1 lH n8 e=>up c o cE (PK c o cE e1 lH n8 e);exact a6 r8 ⟨ve,cb _ _ D.a D.e D.f D.g uV,BI OJ fun o e=>up _ o D.c e,Aq OM fun o e=>up _ o D.d e⟩ (up _ _ D.b uW) HD cb
theorem XQ{t l:Addr}{k:Nat}{xs:Array Value}{Q:Fin->Shared->Prop}(aN:A.handled=none)(D:pG z TI bP bL ck)(Z:ji s.heap z TI bP bL ck t l k .none)
  (a3:∀h':Heap,(∀c o,c≠z->c≠bL->s.heap.get? c=some o->h'.get? c=some o)->h'.IsTuple t xs) (hx:xs[k]?=none)
  (fK:∀(h':Heap) (e:Addr),(∀c o,c≠z->c≠bL->s.heap.get? c=some o->h'.get? c=some o)->(∃o,h'.get? e=some o/\o.cls=.type "StopIteration")->E (.ref e) { s with heap:=h' }) :
  wpAny (model prog w) A (Builtin.«zip.__next__» ⟨[.ref z],[]⟩) Q E s:=by
 obtain⟨a7,uV,L,O⟩:=Z;show wpAny _ _ (field (.ref z) 2 >>= _) _ _ _;refine aM (gE a7 rfl (x:=.bool false) rfl ?_);show wpAny _ _ (field (.ref z) 3 >>= _) _ _ _;refine aM (gE a7 rfl (x:=.ref TI) rfl ?_);refine aM (wpAny_seqItems uV rfl ?_);show wpAny _ _ (Builtin.SmallTypes.ownedTupleIsFree (.ref z) >>= _) _ _ _;refine aM ?_;unfold Builtin.SmallTypes.ownedTupleIsFree;refine aM (gE a7 rfl (x:=.none) rfl (bJ ?_));simp only[if_true];refine aM (wpAny_rule ?_);refine aM (gE a7 rfl (x:=.ref bP) rfl ?_);refine aM (wpAny_setField_rec a7 (by simp) fun cT oU g5=>?_)
 replace oU:IsZip cT z TI bP .ellipsis:=oU
 refine aM ?_;simp only[List.zipIdx_cons,List.zipIdx_nil,List.forIn_cons,List.forIn_nil];refine aM (aM (wpAny_onRaise ?_));show wpAny _ _ (Builtin.SmallTypes.nextOf (.ref bL) >>= _) _ _ _;refine aM (Tf aN (L.extBut g5.extBut D.c) (a3 cT fun c o cE J e=>g5.extBut _ _ cE e) hx fun h₂ e m5 he=>?_);refine ay he fun e6 zQ HG=>?_;have H9:IsZip h₂ z TI bP .ellipsis:=m5 _ _ D.c.symm oU
 have Pt:e≠z:=fun x=>by subst x;rw[H9]at zQ;cases zQ;simp at HG
 exact wpAny_setField_rec H9 (by simp) fun kt J m6=>fK kt e (fun c o cE lH x=>m6.extBut _ _ cE (m5 _ _ lH (g5.extBut _ _ cE x))) ⟨e6,m6.extBut _ _ Pt zQ,HG⟩
theorem XT{t l:Addr}{k:Nat}{xs ys:Array Value}{x a b:Value}{Q:Option Value->Shared->Prop}(D:pG z TI bP bL ck)(Z:ji s.heap z TI bP bL ck t l k .none)(zv:IsPair s.heap bP a b)
  (a3:∀h':Heap,(∀c o,c≠z->c≠bP->c≠bL->c≠ck->s.heap.get? c=some o->h'.get? c=some o)->h'.IsTuple t xs/\h'.IsList l ys) (hx:xs[k]?=some x) (hy:ys[k]?=some y)
  (a6:∀h',ji h' z TI bP bL ck t l (k+1) (rawInt s.heap.objs.size)->IsPair h' bP x y->IsPair h' s.heap.objs.size x y ->
   (∀c o,c≠z->c≠bP->c≠bL->c≠ck->s.heap.get? c=some o->h'.get? c=some o)->Q (some (.ref s.heap.objs.size)) { s with heap:=h' }) :
  wpAny (model prog w) A (pyNext (.ref z)) Q E s:=by
 have dK:s.TypeIs (.ref z) "zip" := ⟨_,Z.z,rfl⟩;unfold pyNext
 exact aM (wpAny_attempt (wpAny_callSpecial?_slot (name:=Str.ofString "__next__") dK F.slot_zip_next
  (wpAny_call_entry F.slot_zip_next dK F.entry_zip_next
   (XR D Z zv a3 hx hy fun h' aA aT a8 dH=>bJ (a6 h' aA aT a8 dH)) (F.args_zip_next_1 _))))
theorem XS{t l:Addr}{k:Nat}{xs:Array Value}{Q:Option Value->Shared->Prop}(aN:A.handled=none)(D:pG z TI bP bL ck)(Z:ji s.heap z TI bP bL ck t l k .none)
  (a3:∀h':Heap,(∀c o,c≠z->c≠bL->s.heap.get? c=some o->h'.get? c=some o)->h'.IsTuple t xs) (hx:xs[k]?=none)
  (a6:∀h':Heap,(∀c o,c≠z->c≠bL->s.heap.get? c=some o->h'.get? c=some o)->Q none { s with heap:=h' }):wpAny (model prog w) A (pyNext (.ref z)) Q E s:=by
 have dK:s.TypeIs (.ref z) "zip" := ⟨_,Z.z,rfl⟩;unfold pyNext
 refine aM (wpAny_attempt (wpAny_callSpecial?_slot (name:=Str.ofString "__next__") dK F.slot_zip_next
  (wpAny_call_entry F.slot_zip_next dK F.entry_zip_next (XQ aN D Z a3 hx fun h' e hk he=>?_) (F.args_zip_next_1 _))))
 refine ay he fun o ho hc=>?_;refine aM (wpAny_isInstance (T := "StopIteration") (b:=true) ⟨o,ho,hc⟩ isSubtype_stop ?_);exact bJ (a6 _ hk)
noncomputable abbrev wy(h:Heap)(t:Addr):Heap:=h.push { cls:=.type "tuple_iterator",data:=.fields #[.ref t,.int 0 0] }
noncomputable abbrev wz(h:Heap)(t l:Addr):Heap:=(wy h t).push { cls:=.type "list_iterator",data:=.fields #[.ref l,.int 0 0] }
noncomputable abbrev wA(h:Heap)(t l:Addr):Heap:=(wz h t l).push { cls:=.type "tuple",data:=.seq #[.ref h.objs.size,.ref (wy h t).objs.size] }
noncomputable abbrev wB(h:Heap)(t l:Addr):Heap:=(wA h t l).push { cls:=.type "tuple",data:=.seq #[.none,.none] }
noncomputable abbrev qR(h:Heap)(t l:Addr):Heap:=(wB h t l).push { cls:=.type "zip",data:=.fields #[.none,.bool false,.bool false,.ref (wz h t l).objs.size,.ref (wA h t l).objs.size] }
theorem So(t l:Addr)(xs ys:Array Value) :
  Meets (Builtin.«zip.__new__» ⟨[.type "zip",.ref t,.ref l],[]⟩) (fun J ao s=>s.heap.IsTuple t xs/\s.heap.IsList l ys ∧
   ao (.ok (.ret (.ref (wB s.heap t l).objs.size))) { s with heap:=qR s.heap t l }):=
 .of_wp fun prog w A ao s h=>by
  obtain⟨hp,g,d,tk,os⟩:=s;refine dN h fun lc lf h=>?_;have u8:=sub_zip;have OT:Heap.IsTuple (Shared.heap ⟨hp,g,d,tk,os⟩) t xs:=lc;have OU:Heap.IsList (Shared.heap ⟨hp.push { cls:=.type "tuple_iterator",data:=.fields #[.ref t,.int 0 0] },g,d,tk,os⟩) l ys:=Heap.IsList.push lf _
  wp_walk using wpAny_pyIter_tuple OT,wpAny_pyIter_list OU
  exact⟨_,rfl,h⟩
theorem Mw{t l:Addr}{xs ys:Array Value}(lc:s.heap.IsTuple t xs)(lf:s.heap.IsList l ys)
  (h:∀h',ji h' (s.heap.objs.size+4) (s.heap.objs.size+2) (s.heap.objs.size+3) s.heap.objs.size (s.heap.objs.size+1) t l 0 .none->IsPair h' (s.heap.objs.size+3) .none .none ->
   (∀c o,s.heap.get? c=some o->h'.get? c=some o)->Q (.ref (s.heap.objs.size+4)) { s with heap:=h' }) :
  wpAny (model prog w) A (call (.type "zip") [.ref t,.ref l]) Q E s:=by
 refine callType_new F.called_zip (by decide) (F.typeCall_zip_2 _ _) (F.newCall_zip_2 _ _) (fun obj=>F.args_object_init_3 obj _ _) F.entry_zip_new
  (So t l xs ys) ⟨lc,lf,?_⟩
 have dE:(wy s.heap t).objs.size=s.heap.objs.size+1:=Heap.size_push ..
 have dY:(wz s.heap t l).objs.size=s.heap.objs.size+2:=by rw[Heap.size_push,dE]
 have pj:(wA s.heap t l).objs.size=s.heap.objs.size+3:=by rw[Heap.size_push,dY]
 have qP:(wB s.heap t l).objs.size=s.heap.objs.size+4:=by rw[Heap.size_push,pj]
 have zg:(qR s.heap t l).get? (wB s.heap t l).objs.size=some _:=ef _ rfl;have Hd:(qR s.heap t l).get? (wA s.heap t l).objs.size=some _:=c3 _ (ef _ rfl);have g3:(qR s.heap t l).get? (wz s.heap t l).objs.size=some _:=c3 _ (c3 _ (ef _ rfl));have g2:(qR s.heap t l).get? (wy s.heap t).objs.size=some _:=c3 _ (c3 _ (c3 _ (ef _ rfl)));have g1:(qR s.heap t l).get? s.heap.objs.size=some _:=c3 _ (c3 _ (c3 _ (c3 _ (ef _ rfl))));show _/\_;rw[dY,pj,qP]at zg;rw[dE,dY]at g3;rw[pj]at Hd;rw[dE]at g2;rw[qP]
 exact⟨⟨_,zg,rfl⟩,h _ ⟨zg,g3,⟨_,g1,rfl,rfl⟩,⟨_,g2,rfl,rfl⟩⟩ Hd fun c o x =>
  c3 _ (c3 _ (c3 _ (c3 _ (c3 _ x))))⟩
end
theorem Bd{v xs:Array Value}{c:Value}(V:h.get? a=some { cls:=c,data:=.seq xs n })(ak:h.get? b=some o)(hd:o.data=.fields v):a≠b:=fun q=>by
 rw[q,ak]at V;rw[oi V]at hd;contradiction
theorem ao.but2{x:Value}(r:ao hb h σ α)(a5:σ[j]?=some .tp)(eT:α.ix[j]?=some bP)(aE:IsPair h' bP x y)(bd:∀b∈own,b∉α.all)(gm:∀b∈own,hb.get? b=none)
  (k:∀b o,b∉own->b≠bP->h.get? b=some o->h'.get? b=some o) (hs:∀b∈own,∀o,h.get? b=some o->¬kb o/\¬gL o):ao hb h' σ α/\a4 own α h α h':=by
 have oZ:bP∈α.ix:=d2 eT
 have al:∀b o,b∉own->h.get? b=some o->∃aP,h'.get? b=some aP:=fun b o bQ e=>by
  by_cases q:b=bP
  ·subst q;exact⟨_,aE⟩
  ·exact⟨o,k b o bQ q e⟩
 have z:a4 own α h α h':=⟨rfl,⟨[],by simp,fun J hx=>(nomatch hx)⟩,fun b o hb e q=>k b o (fun z=>(hs b z o e).1 q) (fun z=>hb (z▸oZ)) e,fun b o hb bQ e=>.inl (k b o bQ (fun z=>hb (z▸oZ)) e),al,rfl⟩;refine⟨⟨fun b o e=>k b o (fun q=>by rw[gm b q]at e;contradiction) (fun q=>by rw[q,r.fresh _ oZ]at e;contradiction) (r.base b o e),r.fresh,r.nodup,r.len,fun b hb=>⟨(r.hidden b hb).1,?_⟩,fun i m a V ak=>?_,r.hfr,r.fe,fun b hb=>⟨(r.frs b hb).1,?_⟩,r.frNot⟩,z⟩
 ·refine aL ((r.hidden b hb).2) fun o e=>?_;exact al b o (fun q=>bd b q (d7 _ hb)) e
 ·by_cases q:a=bP
  ·subst q;obtain rfl:=(List.getElem?_inj (dX ak).1 r.nodup).mp (ak.trans eT.symm);obtain rfl:=oi (a5.symm.trans V);exact⟨x,y,aE⟩
  ·refine aL (r.live (d2 ak)) fun aP np=>?_;exact(r.obj i m a V ak).ext z (by rw[np,k a aP (fun q=>ax.not_ix (bd a q) (d2 ak)) q np])
 ·obtain⟨_,o,e,d⟩:=r.frs b hb;exact⟨o,k b o (fun q=>(hs b q o e).2 d) (fun q=>r.frNot b hb (q▸oZ)) e,d⟩
theorem XK:∀{xs ys:List H} {i:Nat} {p:H},(mx xs ys)[i]?=some p->∃a b,xs[i]?=some a/\ys[i]?=some b/\p=.tup [a,b]:=by
 intro xs
 induction xs with
 | nil=>intro ys i p h;cases ys <;> contradiction
 | cons x xs aj =>
  intro ys i p h
  cases ys with
  | nil=>contradiction
  | cons y ys =>
   cases i with
   | zero=>obtain rfl:=oi h;exact⟨x,y,rfl,rfl,rfl⟩
   | succ i=>exact aj (i:=i) h
theorem XM:∀{xs ys:List H},xs.length=ys.length->(mx xs ys).length=xs.length:=by
 intro xs
 induction xs with
 | nil=>intro ys h;cases ys <;> rfl
 | cons x xs aj =>
  intro ys h
  cases ys with
  | nil=>contradiction
  | cons y ys=>exact congrArg Nat.succ (aj (Nat.succ.inj h))
structure Ln(z TI bP bL ck t l:Addr)(j:Nat)(xs ys:List H)(i:Nat)(h:Heap)(α:ax):Prop where
 Z:ji h z TI bP bL ck t l i .none
 eT:α.ix[j]?=some bP
 nT:TI∉α.all
 nz:z∉α.all
 n1:bL∉α.all
 n2:ck∉α.all
 vt:ai h α (.tup xs) (.ref t)
 vl:ai h α (.fl ys) (.ref l)
theorem gA.zip(aN:A.handled=none){t l:Addr}(D:pG z TI bP bL ck)(hl:xs.length=ys.length)(hb:∀b∈[z,bL,ck],K.hb.get? b=none) :
  gA K A true [z,bL,ck] (.ref z) (mx xs ys) (some (j,.tp)) (Ln z TI bP bL ck t l j xs ys):=by
 have pe:∀{P:Addr->Prop},P z->P bL->P ck->∀b∈[z,bL,ck],P b:=fun{P} L O aw b hb=>by
  rcases b5.mp hb with rfl | hb
  ·exact L
  ·rcases b5.mp hb with rfl | hb
   ·exact O
   ·exact(de.mp hb).symm▸aw
 have pc:∀{h:Heap} {n:Nat} {k6:Value},ji h z TI bP bL ck t l n k6->∀b∈[z,bL,ck],∀o,h.get? b=some o->¬kb o/\¬gL o:=fun{h n k6} Z=>pe
  (fun o q=>by rw[Z.z]at q;obtain rfl:=oi q;exact⟨iC rfl rfl,iB rfl⟩)
  (fun o q=>by refine bu Z.it fun aP aE cg e3=>?_;rw[aE]at q;obtain rfl:=oi q;exact⟨iC e3 cg,iB e3⟩)
  (fun o q=>by refine bu Z.il fun aP aE cg e3=>?_;rw[aE]at q;obtain rfl:=oi q;exact⟨iC e3 cg,iB e3⟩)
 have apart:∀{h:Heap} {n:Nat} {k6:Value} {a:Addr} {c:Value} {us:Array Value} {m:Nat},ji h z TI bP bL ck t l n k6->h.get? a=some { cls:=c,data:=.seq us m }->∀b∈[z,bL,ck],a≠b:=fun{h n k6 a c us m} Z e=>pe (Bd e Z.z rfl)
  (by refine bu Z.it fun aP aE cg e3=>?_;exact Bd e aE e3) (by refine bu Z.il fun aP aE cg e3=>?_;exact Bd e aE e3)
 refine⟨fun i h α st=>?_,fun i h α st=>pe st.nz st.n1 st.n2,fun i F α h α' h' st x bQ=>?_,fun i D α h h' st hD k=>?_,fun i D α h st hD=>?_,fun i s σ α p hp st r hw Q E a6=>?_,fun s σ α st r hw Q E a6=>?_,fun i s α st Q E a6=>?_⟩
 ·refine ay st.Z.it fun ju V J=>?_;refine ay st.Z.il fun bI ak J=>?_;exact pe ⟨_,st.Z.z⟩ ⟨ju,V⟩ ⟨bI,ak⟩
 ·obtain⟨Z,eT,nT,nz,n1,n2,vt,vl⟩:=st;obtain⟨wW,Co,⟨ju,V,cE,iS⟩,⟨bI,ak,e1,mR⟩⟩:=Z
  exact⟨⟨k7 wW rfl (x.rest z _ (ax.not_ix nz) (bQ z ((bi))) wW),x.seqs TI _ (ax.not_ix nT) Co (.inl ⟨_,_,rfl⟩),⟨ju,k7 V iS (x.rest bL ju (ax.not_ix n1) (bQ bL ((bM _ bi))) V),cE,iS⟩,⟨bI,k7 ak mR (x.rest ck bI (ax.not_ix n2) (bQ ck (by simp)) ak),e1,mR⟩⟩,
   x.get eT,x.notAll nT Co,x.notAll nz wW,x.notAll n1 V,x.notAll n2 ak,vt.ext x,vl.ext x⟩
 ·obtain⟨Z,eT,nT,nz,n1,n2,vt,vl⟩:=st;refine⟨Z.keep fun b hb o e=>(k b fun q=>?_).trans e,eT,nT,nz,n1,n2,vt.sameBut hD k,vl.sameBut hD k⟩;subst q
  rcases hb with rfl | rfl | rfl | rfl
  ·exact nz hD
  ·exact nT hD
  ·exact n1 hD
  ·exact n2 hD
 ·obtain⟨Z,eT,nT,nz,n1,n2,vt,vl⟩:=st;refine ay Z.it fun ju V J=>?_;refine ay Z.il fun bI ak J=>?_;exact⟨Z,eT,ax.not_hide hD Z.ti nT,ax.not_hide hD Z.z nz,ax.not_hide hD V n1,ax.not_hide hD ak n2,vt.hide hD,vl.hide hD⟩
 ·obtain⟨Z,eT,nT,nz,n1,n2,vt,vl⟩:=st;have hw:σ[j]?=some .tp:=hw;refine jn (XK hp) fun q1 q2 L O ag=>?_;obtain rfl:=ag;obtain⟨bx,us,n,a3,V,hn,w⟩:=vt.tupE;cases a3;obtain⟨i1,ws,m,p1,ak,hm,KZ⟩:=vl.flE;cases p1;refine ay (w.get L) fun u hu hv=>?_;refine ay (KZ.get O) fun gP Qo oR=>?_;refine jm (r.obj j _ bP hw eT) fun gy hZ xp=>?_;have oZ:bP∈α.all:=gW _ (d2 eT);have aA:=apart Z V;have aT:=apart Z ak;refine XT D Z xp (xs:=us.toArray) (ys:=ws.toArray) (fun h' k=>⟨p8 (s:={ s with heap:=h' }) (k t _ (aA z ((bi))) (fun q=>hn (q▸oZ)) (aA bL ((bM _ bi))) (aA ck (by simp)) V),gM (s:={ s with heap:=h' }) (k l _ (aT z ((bi))) (fun q=>hm (q▸oZ)) (aT bL ((bM _ bi))) (aT ck (by simp)) ak)⟩) (by simpa using hu) (by simpa using Qo) fun h' rc KA dK k=>?_;obtain⟨aF,x⟩:=r.but2 (h':=h') hw eT KA (pe nz n1 n2) hb (fun b o hb OZ=>k b o (fun z=>hb (by simp[z])) OZ (fun z=>hb (by simp[z])) (fun z=>hb (by simp[z]))) (pc Z)
  have fresh:s.heap.objs.size∉α.all:=fun z=>by
   refine aL (r.liveAll z) fun o e=>?_;exact absurd (e0 e) (Nat.lt_irrefl _)
  have lv:ai h' α (.tup [q1,q2]) (.ref s.heap.objs.size):=ai.tupI (items:=[u,gP]) dK fresh #v[(hv.ext x),(oR.ext x)];refine a6 _ _ lv (fun z=>by contradiction) ?_ x aF ⟨rfl,rfl⟩;intro mT cb pos nX cR zu;refine wpAny_letOwnedTupleGo_zip (s:={ s with heap:=h' }) rc.z fun h₂ ak fE=>?_;obtain⟨r2,bq⟩:=aF.but2 (h':=h₂) hw eT ((fE.2 bP D.b).trans KA) (pe nz n1 n2) hb (fun b o hb J q=>(fE.2 b (fun z=>hb (by simp[z]))).trans q) (pc rc);exact zu _ ⟨lv.ext bq,⟨⟨ak,(fE.2 TI D.a).trans rc.ti,BI rc.it fun o e=>(fE.2 bL D.c).trans e,Aq rc.il fun o e=>(fE.2 ck D.d).trans e⟩,eT,nT,nz,n1,n2,(vt.ext x).ext bq,(vl.ext x).ext bq⟩,bq,r2,⟨rfl,rfl⟩⟩
 ·obtain⟨Z,eT,nT,nz,n1,n2,vt,vl⟩:=st;have hw:σ[j]?=some .tp:=hw;obtain⟨bx,us,n,a3,V,hn,w⟩:=vt.tupE;cases a3;refine jm (r.obj j _ bP hw eT) fun gy hZ xp=>?_;have aA:=apart Z V;refine XS (xs:=us.toArray) aN D Z (fun h' k=>p8 (s:={ s with heap:=h' }) (k t _ (aA z ((bi))) (aA bL ((bM _ bi))) V)) (by simp[XM hl,w.1]) fun h' k=>?_;obtain⟨aF,x⟩:=r.but2 (h':=h') hw eT (k bP _ D.b D.h xp) (pe nz n1 n2) hb (fun b o hb J=>k b o (fun z=>hb (by simp[z])) (fun z=>hb (by simp[z]))) (pc Z);exact a6 _ x aF ⟨rfl,rfl⟩
 ·exact wpAny_pyIter_zip st.Z.z a6
theorem ax.not_add(h:b∉α.all)(hD:b≠D):b∉(α.add D).all:=fun q=>by
 rcases dt.mp q with q | q
 ·rcases dt.mp q with q | q
  ·exact h (gW _ q)
  ·exact hD (de.mp q)
 ·exact h (d7 _ q)
theorem XJ(n:Nat):pG (n+4) (n+2) (n+3) n (n+1):=
 have h:∀a b:Nat,a≠b->(n+a:Nat)≠n+b:=fun a b h q=>h (Nat.add_left_cancel q)
 ⟨h 2 4 (by decide),h 3 4 (by decide),h 0 4 (by decide),h 1 4 (by decide),h 2 3 (by decide),h 2 0 (by decide),h 2 1 (by decide),h 3 0 (by decide),h 3 1 (by decide),h 0 1 (by decide)⟩
theorem XH{a b:H}(h:qQ a b σ≠.stuck)(k:∀xs ys,a=.tup xs->b=.fl ys->xs.length=ys.length->qQ a b σ=.ok (mx xs ys,some (σ.length,.tp)) (σ++[.tp])->P):P:=by
 cases a with
 | tup xs =>
  cases b with
  | fl ys =>
   have bK:qQ (.tup xs) (.fl ys) σ=if xs.length=ys.length/\ys.length<=aI then .ok (mx xs ys,some (σ.length,.tp)) (σ++[.tp])else .stuck:=rfl
   by_cases hl:xs.length=ys.length/\ys.length<=aI
   ·exact k xs ys rfl rfl hl.1 (bK.trans (aD hl))
   ·exact absurd (bK.trans (aY hl)) h
  | _=>exact absurd rfl h
 | _=>exact absurd rfl h
theorem Rk{a b:H}{x:Value}(aN:A.handled=none)(r:ao K.hb s.heap σ α)(va:ai s.heap α a x)(vb:ai s.heap α b y)(hc:qQ a b σ≠.stuck) :
  wpAny (model K.prog K.w) A (call (.type "zip") [x,y]) (fun y s₁=>wpAny (model K.prog K.w) A (pyIter y) (f8 K A true (qQ a b σ) s α) E s₁) E s:=by
 refine XH hc fun xs ys ha hb hl e=>?_;subst ha hb;rw[e];obtain⟨t,us,n,rfl,V,hn,w⟩:=va.tupE;obtain⟨l,ws,m,rfl,ak,hm,KZ⟩:=vb.flE;refine Mw (p8 V) (gM ak) fun h' Z tp k=>wpAny_pyIter_zip (s:={ s with heap:=h' }) Z.z ?_
 have out:∀i,s.heap.get? (s.heap.objs.size+i)=none/\s.heap.objs.size+i∉α.all/\K.hb.get? (s.heap.objs.size+i)=none:=fun i=>by
  have hj:s.heap.get? (s.heap.objs.size+i)=none:=by
   cases q:s.heap.get? (s.heap.objs.size+i)with
   | none=>rfl
   | some o=>exact absurd (e0 q) (Nat.not_lt.mpr (gc _ _))
  refine⟨hj,fun z=>?_,?_⟩
  ·refine aL (r.liveAll z) fun o e=>?_;rw[hj]at e;contradiction
  ·cases q:K.hb.get? (s.heap.objs.size+i)with
   | none=>rfl
   | some o=>rw[r.base _ _ q]at hj;contradiction
 have D:=XJ s.heap.objs.size;refine aS (r.add (D:=s.heap.objs.size+3) (m:=.tp) k (out 3).1 ⟨_,_,tp⟩) fun aF x=>?_
 have own:∀b∈[s.heap.objs.size+4,s.heap.objs.size,s.heap.objs.size+1],s.heap.get? b=none/\K.hb.get? b=none:=fun b hb=>by
  rcases b5.mp hb with rfl | hb
  ·exact⟨(out 4).1,(out 4).2.2⟩
  ·rcases b5.mp hb with rfl | hb
   ·exact⟨(out 0).1,(out 0).2.2⟩
   ·exact(de.mp hb).symm▸(⟨(out 1).1,(out 1).2.2⟩)
 refine⟨_,_,_,_,_,_,rfl,x,aF,⟨rfl,rfl⟩,.zip (t:=t) (l:=l) aN D hl fun b hb=>(own b hb).2,⟨Z,?_,ax.not_add (out 2).2.1 D.e,ax.not_add (out 4).2.1 D.b.symm,ax.not_add (out 0).2.1 D.h.symm,ax.not_add (out 1).2.1 D.i.symm,va.ext x,vb.ext x⟩,own⟩;show(α.ix++[s.heap.objs.size+3])[σ.length]?=_;rw[r.len,h4 (dA _),Nat.sub_self];rfl
theorem ao.buts(r:ao hb h σ α)(bd:∀b∈own,b∉α.all)(gm:∀b∈own,hb.get? b=none)(k:∀b o,b∉own->h.get? b=some o->h'.get? b=some o)
  (hs:∀b∈own,∀o,h.get? b=some o->¬kb o/\¬gL o):ao hb h' σ α/\a4 own α h α h':=by
 have x:a4 own α h α h':=⟨rfl,⟨[],by simp,fun J hx=>(nomatch hx)⟩,fun b o hb e q=>k b o (fun z=>(hs b z o e).1 q) e,fun b o hb bQ e=>.inl (k b o bQ e),fun b o bQ e=>⟨o,k b o bQ e⟩,rfl⟩;refine⟨⟨fun b o e=>k b o (fun q=>by rw[gm b q]at e;contradiction) (r.base b o e),r.fresh,r.nodup,r.len,fun b hb=>⟨(r.hidden b hb).1,?_⟩,fun j m a V ak=>?_,r.hfr,r.fe,fun b hb=>⟨(r.frs b hb).1,?_⟩,r.frNot⟩,x⟩
 ·refine aL ((r.hidden b hb).2) fun o e=>?_;exact⟨o,k b o (fun q=>bd b q (d7 _ hb)) e⟩
 ·refine aL (r.live (d2 ak)) fun aP aE=>?_;exact(r.obj j m a V ak).ext x (by rw[aE,k a aP (fun q=>ax.not_ix (bd a q) (d2 ak)) aE])
 ·obtain⟨_,o,e,d⟩:=r.frs b hb;exact⟨o,k b o (fun q=>(hs b q o e).2 d) e,d⟩
structure mC(K:a2)(l:Addr)(xs:List H)(wt:Option (Nat×aW))(aB:Heap->ax->Prop):Prop where
 frame:∀{F:List Addr} {α α':ax} {h h':Heap},aB h α->a4 F α h α' h'->aB h' α'
 but:∀{D:Addr} {α:ax} {h h':Heap},aB h α->D∈α.all->(∀b,b≠D->h'.get? b=h.get? b)->aB h' α
 hide:∀{D:Addr} {α:ax} {h:Heap},aB h α->h.get? D=none->aB h ⟨α.ix,D::α.hid,α.fr⟩
 has:∀{s:Shared} {σ:aa} {α:ax},aB s.heap α->ao K.hb s.heap σ α->hY wt σ->∃(vs:List Value) (n:Nat),s.heap.get? l=some { cls:=.type "list",data:=.seq vs.toArray n }/\bh s.heap α xs vs
theorem mC.fl{l:Addr}:mC K l xs none (fun h α=>ai h α (.fl xs) (.ref l)) where
 frame v x:=v.ext x
 but v hD k:=v.sameBut hD k
 hide v hD:=v.hide hD
 has v r _:=by obtain⟨i1,vs,n,hl,V,hn,w⟩:=v.flE;cases hl;exact⟨vs,n,V,w⟩
theorem mC.ref{l:Addr}:mC K l xs (some (j,.lst xs)) (fun h α=>α.ix[j]?=some l) where
 frame v x:=x.get v
 but v _ _:=v
 hide v _:=v
 has v r wt:=by refine cJ (r.obj j _ l wt v) fun vs n V w=>?_;exact⟨vs,n,V,w⟩
theorem Tq:∀{xs:List H} {k i:Nat} {p:H},(ky k xs)[i]?=some p->∃q,xs[i]?=some q/\p=.tup [.int ((k+i:Nat):Int),q]:=by
 intro xs
 induction xs with
 | nil=>intro k i p h;contradiction
 | cons x xs aj =>
  intro k i p h
  cases i with
  | zero=>obtain rfl:=oi h;exact⟨x,rfl,rfl⟩
  | succ i =>
   refine ay (aj (k:=k+1) (i:=i) h) fun q L O=>?_;exact⟨q,L,by rw[O,show k+1+i=k+(i+1) by grind]⟩
theorem Tr:∀{xs:List H} {k:Nat},(ky k xs).length=xs.length:=by
 intro xs
 induction xs with
 | nil=>intro k;rfl
 | cons x xs aj=>intro k;exact congrArg Nat.succ aj
theorem gA.enum(aN:A.handled=none){e it l:Addr}{aB:Heap->ax->Prop}(kN:mC K l xs wt aB)(dn:e≠it)(zB:K.hb.get? e=none)(m2:K.hb.get? it=none) :
  gA K A true [e,it] (.ref e) (ky 0 xs) wt (fun i h α=>(∃hf,IsEnum h e it ((i:Nat):Int) hf)/\h.IsListIter it l i/\e∉α.all/\it∉α.all/\aB h α):=by
 have two:∀{P:Addr->Prop},P e->P it->∀b∈[e,it],P b:=fun{P} L O b hb=>by
  rcases b5.mp hb with rfl | hb
  ·exact L
  ·exact(de.mp hb).symm▸O
 have pc:∀{h:Heap} {i:Int} {n:Nat} {hf fm:Value},h.get? e=some { cls:=.type "enumerate",dict:=none,data:=.fields #[fm,.bool false,.ref it,rawInt i,.none,hf],slots:=#[] }->h.IsListIter it l n->∀b∈[e,it],∀o,h.get? b=some o->¬kb o/\¬gL o:=fun{h i n hf fm} he hi=>two
  (fun o q=>by rw[he]at q;obtain rfl:=oi q;exact⟨iC rfl rfl,iB rfl⟩)
  (fun o q=>by refine bu hi fun aP aE cg e3=>?_;rw[aE]at q;obtain rfl:=oi q;exact⟨iC e3 cg,iB e3⟩)
 refine⟨fun i h α st=>?_,fun i h α st=>two st.2.2.1 st.2.2.2.1,fun i F α h α' h' st x bQ=>?_,fun i D α h h' st hD k=>?_,fun i D α h st hD=>?_,fun i s σ α p hp st r hw Q E a6=>?_,fun s σ α st r hw Q E a6=>?_,fun i s α st Q E a6=>?_⟩
 ·obtain⟨⟨hf,en⟩,⟨o,hL,_⟩,_⟩:=st;exact two ⟨_,en⟩ ⟨o,hL⟩
 ·obtain⟨⟨hf,en⟩,⟨o,hL,hc,hd⟩,he,hi,jR⟩:=st;exact⟨⟨hf,k7 en rfl (x.rest e _ (ax.not_ix he) (bQ e ((bi))) en)⟩,⟨o,k7 hL hd (x.rest it o (ax.not_ix hi) (bQ it ((bM _ bi))) hL),hc,hd⟩,x.notAll he en,x.notAll hi hL,kN.frame jR x⟩
 ·obtain⟨⟨hf,en⟩,⟨o,hL,hc,hd⟩,he,hi,jR⟩:=st;exact⟨⟨hf,(k e (fun q=>he (q▸hD))).trans en⟩,⟨o,(k it (fun q=>hi (q▸hD))).trans hL,hc,hd⟩,he,hi,kN.but jR hD k⟩
 ·obtain⟨⟨hf,en⟩,⟨o,hL,hc,hd⟩,he,hi,jR⟩:=st;exact⟨⟨hf,en⟩,⟨o,hL,hc,hd⟩,ax.not_hide hD en he,ax.not_hide hD hL hi,kN.hide jR hD⟩
 ·obtain⟨⟨hf,en⟩,bF,he,hi,jR⟩:=st;refine ay (Tq hp) fun q hq ag=>?_;obtain rfl:=ag;refine cJ (kN.has jR r hw) fun vs n V w=>?_;refine ay (w.get hq) fun u hu hv=>?_;refine wpAny_pyNext_enum_item en bF (gM V) (by simpa using hu) dn fun h' hL e4 a3 a7 hk=>?_;obtain⟨aF,x⟩:=r.buts (h':=h') (two he hi) (two zB m2) (fun b o hb=>hk b o (fun z=>hb (by simp[z])) (fun z=>hb (by simp[z]))) (pc en bF)
  have fresh:s.heap.objs.size∉α.all:=fun z=>by
   refine aL (r.liveAll z) fun o e=>?_;exact absurd (e0 e) (Nat.lt_irrefl _)
  have vt:ai h' α (.tup [.int ((0+i:Nat):Int),q]) (.ref s.heap.objs.size):=by
   rw[gD];exact ai.tupI (items:=[.int i s.toks,u]) a3 fresh #v[(.int _ _),(hv.ext x)]
  refine a6 _ _ vt (fun z=>by contradiction) ?_ x aF ⟨rfl,rfl⟩;intro mT k pos nX cR zu;refine wpAny_letOwnedTupleGo_enum (s:={ s with heap:=h',toks:=s.toks+1 }) hL fun h₂ ak fE=>?_;obtain⟨r2,bq⟩:=aF.buts (h':=h₂) (two he hi) (two zB m2) (fun b o hb q=>(fE.2 b (fun z=>hb (by simp[z]))).trans q) (pc hL e4);refine zu _ ⟨vt.ext bq,⟨⟨u,?_⟩,e4.extBut fE.extBut (Ne.symm dn),he,hi,kN.frame (kN.frame jR x) bq⟩,bq,r2,⟨rfl,rfl⟩⟩;rw[show((i+1:Nat):Int)=(i:Int)+1 by grind];exact ak
 ·obtain⟨⟨hf,en⟩,bF,he,hi,jR⟩:=st;refine cJ (kN.has jR r hw) fun vs n V w=>?_;refine wpAny_pyNext_enum_end aN en bF (gM V) (by simp[Tr,w.1]) fun h' jr=>?_;obtain⟨aF,x⟩:=r.buts (h':=h') (two he hi) (two zB m2) (fun b o hb q=>jr b o (fun z=>hb (by simp[z])) q) (pc en bF);exact a6 _ x aF ⟨rfl,rfl⟩
 ·exact wpAny_pyIter_enum st.1.choose_spec a6
theorem IM{l:Addr}{aB:Heap->ax->Prop}(aN:A.handled=none)(kN:mC K l xs wt aB)(jR:aB s.heap α)(r:ao K.hb s.heap σ α)
  (V:s.heap.get? l=some { cls:=.type "list",data:=.seq vs.toArray n }) :
  wpAny (model K.prog K.w) A (call (.type "enumerate") [.ref l]) (fun y s₁=>wpAny (model K.prog K.w) A (pyIter y) (f8 K A true (.ok (ky 0 xs,wt) σ) s α) E s₁) E s:=by
 refine call_enumerate_list (gM V) fun h' en bF a7 k=>wpAny_pyIter_enum (s:={ s with heap:=h' }) en ?_
 have JC:s.heap.get? (s.heap.objs.size+1)=none:=by
  cases q:s.heap.get? (s.heap.objs.size+1)with
  | none=>rfl
  | some o=>exact absurd (e0 q) (Nat.not_lt.mpr (Nat.le_succ _))
 have out:∀b,s.heap.get? b=none->b∉α.all/\K.hb.get? b=none:=fun b hb=>⟨fun z=>by
  refine aL (r.liveAll z) fun o e=>?_
  rw[hb]at e;contradiction,by
  cases q:K.hb.get? b with
  | none=>rfl
  | some o=>rw[r.base _ _ q]at hb;contradiction⟩
 have hj:=out _ (lq s);have q1:=out _ JC;refine⟨ky 0 xs,wt,σ,α,[s.heap.objs.size+1,s.heap.objs.size],_,rfl,.keeps k,r.keeps k,⟨rfl,rfl⟩,.enum aN kN (Nat.succ_ne_self _) q1.2 hj.2,⟨⟨_,en⟩,bF,q1.1,hj.1,kN.frame jR (.keeps (F:=[]) k)⟩,fun b hb=>?_⟩
 rcases b5.mp hb with rfl | hb
 ·exact⟨JC,q1.2⟩
 ·exact(de.mp hb).symm▸(⟨lq s,hj.2⟩)
theorem Rh{a:H}{x:Value}(aN:A.handled=none)(r:ao K.hb s.heap σ α)(va:ai s.heap α a x)(hc:ou a σ≠.stuck) :
  wpAny (model K.prog K.w) A (call (.type "enumerate") [x]) (fun y s₁=>wpAny (model K.prog K.w) A (pyIter y) (f8 K A true (ou a σ) s α) E s₁) E s:=by
 unfold ou at hc ⊢
 cases a with
 | fl xs =>
  dsimp only[b2,nK]at hc ⊢;by_cases hl:xs.length<=aI
  ·rw[aD hl];obtain⟨l,vs,n,rfl,V,hn,v⟩:=va.flE;exact IM aN mC.fl va r V
  ·rw[aY hl]at hc;exact absurd rfl hc
 | ref i =>
  refine ay va.refE fun l ag dJ=>?_;obtain rfl:=ag
  cases hs:σ[i]? with
  | none=>simp only[b2,hs]at hc;exact absurd rfl hc
  | some m =>
   cases m with
   | lst xs =>
    simp only[b2,nK,hs]at hc ⊢;by_cases hl:xs.length<=aI
    ·rw[aD hl];refine cJ (r.obj i _ l hs dJ) fun vs n V v=>?_;exact IM aN (mC.ref (j:=i)) dJ r V
    ·rw[aY hl]at hc;exact absurd rfl hc
   | _=>simp only[b2,hs]at hc;exact absurd rfl hc
 | _=>exact absurd rfl hc
structure cD(hb:fO)(env:Env):Prop where
 l:hb.get? env.locals=none
 c:∀x c,env.cells.lookup x=some c->hb.get? c=none
 f:∃aB r,env.frame=some aB/\hb.fr=aB::r
theorem d6.sameBut{B:fO}(hD:D∈α.all)(dn:a≠D)(k:∀b,b≠D->h'.get? b=h.get? b)(r:d6 B h α m a):d6 B h' α m a:=
 r.map (fun J J v=>v.sameBut hD k) (k a dn) fun b o hb e J=>⟨(k b (by rintro rfl;exact hb hD)).trans e,hb⟩
theorem aZ.sameBut(hD:D∈α.all)(k:∀b,b≠D->h'.get? b=h.get? b)(E:aZ env ρ h α):aZ env ρ h' α:=by
 refine ay E.ns fun m n hm=>?_
 have fB:env.locals≠D:=by intro q;exact E.la (q▸hD)
 refine⟨E.ok,E.la,⟨m,?_,fun i x v V ak=>let⟨u,a,b⟩:=hm i x v V ak;⟨u,a,b.sameBut hD k⟩⟩,fun x c hc=>?_,E.cd,fun i x V=>?_,E.inb⟩
 ·refine jP n fun o es d9 e r=>?_;exact⟨o,es,d9,(k _ fB).trans e,r⟩
 ·refine dN (E.ca x c hc) fun L O bp=>?_;refine cJ bp fun v o e d=>?_;exact⟨L,O,v,o,(k _ (by intro q;exact L (q▸hD))).trans e,d⟩
 ·refine ay (E.cv i x V) fun c hc hv=>?_;refine⟨c,hc,fun v ak=>?_⟩;obtain⟨u,⟨o,e,d⟩,b⟩:=hv v ak;exact⟨u,⟨o,(k _ (by intro q;exact(E.ca x c hc).1 (q▸hD))).trans e,d⟩,b.sameBut hD k⟩
theorem ao.sameHid{hb h h' σ α}(r:ao hb h σ α)(hD:D∈α.hid)(hbD:hb.get? D=none)(k:∀b,b≠D->h'.get? b=h.get? b)(al:∃o,h'.get? D=some o)(nd:∀o,h.get? D=some o->¬gL o):ao hb h' σ α:=by
 have m1:=(r.hidden D hD).1;have uS:D∈α.all:=d7 _ hD;refine⟨fun b o e=>(k b (by rintro rfl;rw[hbD]at e;contradiction)).trans (r.base b o e),r.fresh,r.nodup,r.len,fun b gj=>⟨(r.hidden b gj).1,?_⟩,fun j m a V ak=>?_,r.hfr,r.fe,fun b gj=>⟨(r.frs b gj).1,?_⟩,r.frNot⟩
 ·by_cases q:b=D
  ·subst q;exact al
  ·exact(k b q).symm▸((r.hidden b gj).2)
 ·exact(r.obj j m a V ak).sameBut uS (by rintro rfl;exact m1 (d2 ak)) k
 ·obtain⟨_,o,e,d⟩:=r.frs b gj;exact⟨o,(k b (by rintro rfl;exact nd o e d)).trans e,d⟩
theorem a4.sameBut{F α h α' h' hM}(x:a4 F α h α' h')(hD:h.get? D=none)(k:∀b,b≠D->hM.get? b=h'.get? b):a4 F α h α' hM:=by
 have ne:∀b o,h.get? b=some o->b≠D:=fun b o e q=>by rw[q,hD]at e;contradiction
 refine⟨x.hid,x.pre,fun b o hb e hs=>(k b (ne b o e)).trans (x.seqs b o hb e hs),fun b o hb bQ e=>?_,fun b o bQ e=>?_,x.fre⟩
 ·rcases x.rest b o hb bQ e with q | ⟨f,d,cu,q⟩
  ·exact .inl ((k b (ne b o e)).trans q)
  ·exact .inr ⟨f,d,cu,(k b (ne b o e)).trans q⟩
 ·refine aL (x.alive b o bQ e) fun aP aE=>?_;exact⟨aP,(k b (ne b o e)).trans aE⟩
theorem a4.rehid{F α h α' h'}(x:a4 F α h α' h')(hid:List Addr):a4 F ⟨α.ix,hid,α.fr⟩ h ⟨α'.ix,hid,α'.fr⟩ h':=
 ⟨rfl,x.pre,x.seqs,x.rest,x.alive,x.fre⟩
noncomputable def mK(names:List (Str×NameKind)):Prop:=∀(i j:Nat) (x:Str) (k br:NameKind),names[i]?=some (x,k)->names[j]?=some (x,br)->i=j
theorem pW{v w:H}(e:(ρ.set i (some v))[j]?=some (some w)):(j=i/\w=v)\/(j≠i/\ρ[j]?=some (some w)):=by
 by_cases q:j=i
 ·subst q;rw[List.getElem?_set_self']at e
  cases hq:ρ[j]? with
  | none=>rw[hq]at e;contradiction
  | some o=>rw[hq]at e;simp at e;exact .inl ⟨rfl,e.symm⟩
 ·rw[List.getElem?_set_ne (Ne.symm q)]at e;exact .inr ⟨q,e⟩
theorem Kk{v:H}{Q:Unit->Shared->Prop}{X:Value->Shared->Prop}(jo:mK env.scope.names)(r:ao K.hb s.heap σ α)(E:aZ env ρ s.heap α)(fB:K.hb.get? env.locals=none)
  (hn:env.scope.names[i]?=some (x,.local)) (di:ai s.heap α v u)
  (a6:∀s',ao K.hb s'.heap σ α->aZ env (ρ.set i (some v)) s'.heap α->a4 [env.locals] α s.heap α s'.heap->(∀b,b≠env.locals->s'.heap.get? b=s.heap.get? b)->cq s s'->Q () s') :
  wpAny (model K.prog K.w) A (storeName env x u) Q X s:=by
 refine ay E.ns fun m n hm=>?_;refine wpAny_storeName_local (E.ok.ws i x _ hn) n (fun h' oK eU=>?_) (by rw[E.ok.kind];rfl)
 obtain⟨aF,aO⟩:=r.but E.la fB (fun b o hb e=>(eU.2 b hb).trans e) (fun o e=>by
  refine lM (id n) fun aP es d9 aE d J=>?_;rw[e]at aE;obtain rfl:=oi aE
  exact gL.notSolid ⟨_,_,d⟩) fun J o e J=>by
  refine lM (id oK) fun aP es d9 aE d J=>?_;exact⟨aP,aE,es,d9,d⟩
 refine a6 _ aF ⟨E.ok,E.la,⟨_,oK,fun j y w V ak=>?_⟩,fun y c hc=>?_,E.cd,fun j y V=>?_,fun j w e=>?_⟩ aO (fun b hb=>eU.2 b hb) ⟨rfl,rfl⟩
 ·rcases pW ak with⟨rfl,rfl⟩ | ⟨dn,ak⟩
  ·rw[hn]at V;cases V;exact⟨u,by simp,di.ext aO⟩
  ·refine ay (hm j y w V ak) fun gP L O=>?_
   have:y≠x:=by rintro rfl;exact dn (jo j i _ _ _ V hn)
   exact⟨gP,by simp[this,L],O.ext aO⟩
 ·refine dN (E.ca y c hc) fun L O bp=>?_;refine aL bp fun w aw=>?_;exact⟨L,O,w,p6 aO (ax.not_ix L) (by simpa using O) aw⟩
 ·refine ay (E.cv j y V) fun c hc hv=>?_;refine⟨c,hc,fun w ak=>?_⟩
  rcases pW ak with⟨rfl,rfl⟩ | ⟨dn,ak⟩
  ·rw[hn]at V;cases V
  ·refine ay (hv w ak) fun gP L O=>?_;refine dN (E.ca y c hc) fun q1 q2 J=>?_;exact⟨gP,p6 aO (ax.not_ix q1) (by simpa using q2) L,O.ext aO⟩
 ·rcases pW e with⟨rfl,rfl⟩ | ⟨dn,ak⟩
  ·exact⟨x,_,hn,.inl rfl⟩
  ·exact E.inb j w ak
theorem VD{v:H}{Q:Unit->Shared->Prop}{X:Value->Shared->Prop}(jo:mK env.scope.names)(r:ao K.hb s.heap σ α)(E:aZ env ρ s.heap α)(au:cD K.hb env)
  (hn:env.scope.names[i]?=some (x,.cell)) (di:ai s.heap α v u)
  (a6:∀c s',env.cells.lookup x=some c->ao K.hb s'.heap σ α->aZ env (ρ.set i (some v)) s'.heap α->a4 [c] α s.heap α s'.heap->cq s s'->Q () s') :
  wpAny (model K.prog K.w) A (storeName env x u) Q X s:=by
 refine ay E.ns fun m n hm=>?_;refine ay (E.cv i x hn) fun c hc hv=>?_;refine dN (E.ca x c hc) fun q1 q2 bp=>?_;refine aL bp fun fm q3=>?_;refine wpAny_storeName_cell E.ok.kind (E.ok.ws i x _ hn) hc q3 fun h' cg eU=>?_
 obtain⟨aF,aO⟩:=r.but q1 (au.c x c hc) (fun b o hb e=>(eU.2 b hb).trans e) (fun o e=>by
  refine ay q3 fun aP aE d=>?_;rw[e]at aE;obtain rfl:=oi aE
  rintro(⟨xs,n,q⟩ | ⟨C,vs,_,q⟩ | ⟨C,_,q⟩) <;> rw[d]at q <;> contradiction) fun J o e dd=>by
  refine ay q3 fun aP aE d=>?_;rw[e]at aE;obtain rfl:=oi aE;refine jm dd fun xs n q=>?_;rw[d]at q;contradiction
 have rY:h'.Ns env.locals m:=AL aO (ax.not_ix E.la) (by simpa using(Ne.symm q2)) n;refine a6 c _ hc aF ⟨E.ok,E.la,⟨m,rY,fun j y w V ak=>?_⟩,fun y b3 hy=>?_,E.cd,fun j y V=>?_,fun j w e=>?_⟩ aO ⟨rfl,rfl⟩
 ·rcases pW ak with⟨rfl,rfl⟩ | ⟨dn,ak⟩
  ·rw[hn]at V;cases V
  ·refine ay (hm j y w V ak) fun gP L O=>?_;exact⟨gP,L,O.ext aO⟩
 ·refine dN (E.ca y b3 hy) fun L O bp=>?_;refine aL bp fun w aw=>?_;by_cases q:b3=c
  ·subst q;exact⟨L,O,_,cg⟩
  ·exact⟨L,O,w,p6 aO (ax.not_ix L) (by simpa using q) aw⟩
 ·refine ay (E.cv j y V) fun b3 hy oR=>?_;refine⟨b3,hy,fun w ak=>?_⟩
  rcases pW ak with⟨rfl,rfl⟩ | ⟨dn,ak⟩
  ·rw[hn]at V;cases V;rw[hc]at hy;obtain rfl:=oi hy;exact⟨u,cg,di.ext aO⟩
  ·refine ay (oR w ak) fun gP L O=>?_
   have:b3≠c:=by
    rintro rfl
    have:=E.cd _ _ _ hy hc;subst this;exact dn (jo j i _ _ _ V hn)
   exact⟨gP,p6 aO (ax.not_ix (E.ca y b3 hy).1) (by simpa using this) L,O.ext aO⟩
 ·rcases pW e with⟨rfl,rfl⟩ | ⟨dn,ak⟩
  ·exact⟨x,_,hn,.inr rfl⟩
  ·exact E.inb j w ak
noncomputable def gH(cells:List (Str×Addr)):List (Str×NameKind)->List (Str×Addr)->List (Str×Addr)
 | [],acc=>acc
 | (n,k)::r,acc=>if k == .free then gH cells r ((n,(cells.lookup n).getD 0)::acc)else gH cells r acc
theorem xf{env:Env}(f:Str×NameKind->List (Str×Addr)->Sem (ForInStep (List (Str×Addr))))
  (bc:∀n k oe,f (n,k) oe=if k == .free then(do let c <- cellOf env n;pure (.yield ((n,c)::oe)))else pure (.yield oe)) :
  ∀(names:List (Str×NameKind)) (acc:List (Str×Addr)),(∀n,(n,NameKind.free)∈names->(env.cells.lookup n).isSome)->(forIn names acc f)=pure (gH env.cells names acc)
 | [],acc,_=>by rw[List.forIn_nil];rfl
 | (n,k)::r,acc,h=>by
  rw[List.forIn_cons,bc];unfold gH
  cases hk:k == .free with
  | true =>
   have rU:k=.free:=by simpa using hk
   subst rU;refine aL (Option.isSome_iff_exists.mp (h n bi)) fun c hc=>?_;simp only[if_true];unfold cellOf;rw[hc];simp only[Option.getD_some,pure_bind];exact xf f bc r _ fun n hn=>h n (bM _ hn)
  | false =>
   simp only[Bool.false_eq_true,if_false,pure_bind];exact xf f bc r _ fun n hn=>h n (bM _ hn)
theorem CW(h:∀n,(n,NameKind.free)∈scope.names->(env.cells.lookup n).isSome):closureFor scope env=pure (gH env.cells scope.names []):=by
 unfold closureFor;refine(congrArg (· >>= fun oe=>pure oe) (xf (env:=env) _ (fun n k oe=>?_) scope.names [] h)).trans (pure_bind _ _);cases hk:k == NameKind.free <;> simp[hk]
set_option tactic.hygienic true in
theorem MG:∀(names:List (Str×NameKind)) (acc:List (Str×Addr)),(∀n,(n,NameKind.free)∈names->(cells.lookup n).isSome)->(∀n c,(n,c)∈acc->cells.lookup n=some c) ->
  ∀n c,(n,c)∈gH cells names acc->cells.lookup n=some c:=by
 intro r
 induction r with
 | nil =>
  intro _ _ O n c h;exact O n c h
 | cons bK r aj =>
  obtain⟨n',k⟩:=bK;intro acc L O n c h;unfold gH at h
  split at h
  ·rename_i hk
   have rU:k=.free:=by simpa using hk
   subst rU;refine aj _ (fun n hn=>L n (bM _ hn)) (fun m d hm=>?_) n c h
   rcases b5.mp hm with e | hm
   ·cases e;refine aL (Option.isSome_iff_exists.mp (L n' bi)) fun b3 cg=>?_;rw[cg];rfl
   ·exact O m d hm
  ·exact aj _ (fun n hn=>L n (bM _ hn)) O n c h
theorem ME:∀(names:List (Str×NameKind)) (acc:List (Str×Addr)) (n:Str) (c:Addr),(n,c)∈acc->(n,c)∈gH cells names acc:=by
 intro r
 induction r with
 | nil =>
  intro _ _ _ h;exact h
 | cons bK r aj =>
  obtain⟨_,k⟩:=bK;intro acc n c h;unfold gH
  split
  ·exact aj _ n c (bM _ h)
  ·exact aj _ n c h
theorem xe{cells:List (Str×Addr)}:∀(names:List (Str×NameKind)) (acc:List (Str×Addr)) (n:Str),(n,NameKind.free)∈names->∃c,(n,c)∈gH cells names acc
 | (n',k)::r,acc,n,h=>by
  unfold gH
  rcases b5.mp h with e | h
  ·cases e;exact⟨_,ME r _ _ _ bi⟩
  ·split
   ·exact xe r _ n h
   ·exact xe r _ n h
theorem I4{l:List (Str×Addr)}{n:Str}{c:Addr}(h:(n,c)∈l):∃b3,l.lookup n=some b3:=by
 induction l with
 | nil=>(exact nomatch h)
 | cons p r aj =>
  obtain⟨k,v⟩:=p;rw[List.lookup_cons]
  cases hb:n == k with
  | true=>exact⟨v,rfl⟩
  | false =>
   rcases b5.mp h with e | h
   ·cases e;simp at hb
   ·exact aj h
theorem pL{names:List (Str×NameKind)}(h:∀n,(n,NameKind.free)∈names->(cells.lookup n).isSome){n:Str}{c:Addr}(e:(gH cells names []).lookup n=some c):cells.lookup n=some c:=
 MG names [] h (fun J J h=>(nomatch h)) n c (mem_of_lookup e)
theorem MF{names:List (Str×NameKind)}(h:∀n,(n,NameKind.free)∈names->(cells.lookup n).isSome){n:Str}(hn:(n,NameKind.free)∈names):(gH cells names []).lookup n=cells.lookup n:=by
 refine aL (xe (cells:=cells) names [] n hn) fun c hc=>?_;refine aL (I4 hc) fun b3 cg=>?_;rw[cg,pL h cg]
structure wU(names:List (Str×NameKind)):Prop where
 uniq:mK names
 nodbg:∀(i:Nat) (x:Str) (k:NameKind),names[i]?=some (x,k)->(x == ("__debug__" : Str))=false
 kinds:∀(i:Nat) (x:Str) (k:NameKind),names[i]?=some (x,k)->k=.local\/k=.cell\/k=.globalImplicit
theorem sk:∀{names:List (Str×NameKind)},mK names->∀{i:Nat} {x:Str} {k:NameKind},names[i]?=some (x,k)->names.lookup x=some k:=by
 intro r
 induction r with
 | nil =>
  intro _ i x k h
  (exact nomatch h)
 | cons bK r aj =>
  obtain⟨y,br⟩:=bK;intro jo i x k h;rw[List.lookup_cons]
  cases i with
  | zero=>simp at h;obtain⟨rfl,rfl⟩:=h;simp
  | succ i =>
   have h':r[i]?=some (x,k):=by simpa using h
   have dn:(x == y)=false:=by
    cases hb:x == y with
    | false=>rfl
    | true =>
     have:x=y:=by simpa using hb
     subst this;exact absurd (jo 0 (i+1) x br k (by rfl) h) (by omega)
   rw[dn];exact aj (fun i j x k br L O=>by have:=jo (i+1) (j+1) x k br (by simpa using L) (by simpa using O);omega) h'
theorem Ae:∀{names:List (Str×NameKind)} {x:Str} {k:NameKind},names.lookup x=some k->∃i,names.findIdx? (·.1 == x)=some i/\names[i]?=some (x,k):=by
 intro r
 induction r with
 | nil =>
  intro _ _ h
  (exact nomatch h)
 | cons bK r aj =>
  obtain⟨y,br⟩:=bK;intro x k h;rw[List.lookup_cons]at h;rw[List.findIdx?_cons]
  cases hb:x == y with
  | true =>
   rw[hb]at h;obtain rfl:=oi h
   have:x=y:=by simpa using hb
   subst this;exact⟨0,by simp,by rfl⟩
  | false =>
   rw[hb]at h;refine ay (aj h) fun i L O=>?_
   have:(y == x)=false:=by
    cases hq:y == x with
    | false=>rfl
    | true =>
     have:y=x:=by simpa using hq
     subst this;simp at hb
   exact⟨i+1,by simp[this,L],by simpa using O⟩
theorem A7(hk:env.scope.kind=.function):(relabel scope env).names=dv env.scope.names scope.names:=by
 unfold relabel dv Env.kindOf;simp[hk]
structure j6(N:List (Str×NameKind))(scope:Scope)(t:Nat)(x:Str):Prop where
 kind:scope.kind=.function
 sc:wU (dv N scope.names)
 nocell:∀y∈scope.names,y.2≠.cell
 tgt:(dv N scope.names)[t]?=some (x,.local)
section
variable {t:Nat}
theorem j6.free(c:j6 N scope t x){n:Str}(h:(n,NameKind.free)∈scope.names):N.lookup n=some .cell:=by
 refine aL (List.mem_iff_getElem?.mp h) fun i hi=>?_;by_cases hq:N.lookup n=some .cell
 ·exact hq
 ·have:(dv N scope.names)[i]?=some (n,.free):=by simp[dv,hi,hq]
  rcases c.sc.kinds i n _ this with q | q | q <;> contradiction
set_option tactic.hygienic true in
theorem j6.cell_(c:j6 N scope t x){y:Str}(h:(dv N scope.names)[i]?=some (y,.cell)):(y,NameKind.free)∈scope.names/\N.lookup y=some .cell:=by
 simp only[dv,fH]at h
 cases hq:scope.names[i]? with
 | none=>rw[hq]at h;contradiction
 | some p =>
  obtain⟨n,k⟩:=p;rw[hq]at h;simp only[Option.map_some,Option.some.injEq]at h
  split at h
  ·rename_i hc
   (first | contradiction | (obtain rfl:=oi h) | cases h)
   simp at hc;exact⟨hc.1▸d2 hq,hc.2⟩
  ·(first | contradiction | (obtain rfl:=oi h) | cases h)
   exact absurd rfl (c.nocell _ (d2 hq))
theorem j6.names(c:j6 N scope t x):∀y∈scope.names,y.2=.local->scope.names.lookup y.1=some .local:=by
 rintro⟨y,k⟩ hy rfl
 refine aL (List.mem_iff_getElem?.mp hy) fun i hi=>?_;refine sk (i:=i) (fun i j z k br L O=>?_) hi
 have V:∃q,(dv N scope.names)[i]?=some (z,q):=by
  simp only[dv,fH,L];simp only[Option.map_some,Option.some.injEq];split <;> exact⟨_,rfl⟩
 have ak:∃q,(dv N scope.names)[j]?=some (z,q):=by
  simp only[dv,fH,O];simp only[Option.map_some,Option.some.injEq];split <;> exact⟨_,rfl⟩
 refine aL V fun J V=>?_;refine aL ak fun J ak=>?_;exact c.sc.uniq i j z _ _ V ak
end
section
variable {t:Nat}
theorem tJ(c:j6 env.scope.names scope t x)(E:aZ env ρ h α):∀n,(n,NameKind.free)∈scope.names->(env.cells.lookup n).isSome:=fun n hn=>by
 refine ay (Ae (c.free hn)) fun i J hi=>?_;refine ay (E.cv i n hi) fun a ha J=>?_;rw[ha];rfl
theorem MR{C:Addr}{m:Str->Option Value}(c:j6 env.scope.names scope t x)(E:aZ env ρ h α)(hC:h.Ns C m)(zo:C∉α.all)(dn:∀y a,env.cells.lookup y=some a->a≠C) :
  aZ (compEnvC scope (gH env.cells scope.names []) C env) (c4 (h9 env.scope.names (dv env.scope.names scope.names)) ρ) h α:=by
 have jp:=tJ c E;have fh:(compEnvC scope (gH env.cells scope.names []) C env).scope.names=dv env.scope.names scope.names:=A7 E.ok.kind;refine⟨⟨?_,E.ok.glob,E.ok.bins,?_,?_⟩,zo,⟨m,hC,fun i y v V ak=>?_⟩,fun y a ha=>?_,fun y z a L O=>?_,fun i y V=>?_,fun i v e=>?_⟩
 ·exact c.kind
 ·intro i y k hi;rw[fh]at hi;show(compEnvC scope (gH env.cells scope.names []) C env).scope.names.lookup y=some k;exact fh.symm▸(sk c.sc.uniq hi)
 ·intro i y k hi;rw[fh]at hi;exact c.sc.nodbg i y k hi
 ·rw[fh]at V;exfalso;simp only[c4,h9,fH,V]at ak
  (exact nomatch ak)
 ·have jQ:=pL jp ha;refine dN (E.ca y a jQ) fun L O aw=>?_;exact⟨L,dn y a jQ,aw⟩
 ·exact E.cd y z a (pL jp L) (pL jp O)
 ·rw[fh]at V;refine aS (c.cell_ V) fun L O=>?_;refine ay (Ae O) fun j a5 rT=>?_;refine ay (E.cv j y rT) fun a ha hv=>?_;refine⟨a,(MF jp L).trans ha,fun v ak=>hv v ?_⟩;simp only[c4,h9,fH,V]at ak;simp[a5]at ak
  cases hq:ρ[j]? with
  | none=>rw[hq]at ak;contradiction
  | some o=>rw[hq]at ak;simp at ak;rw[ak]
 ·rw[fh];simp only[c4,h9,fH]at e
  cases hq:(dv env.scope.names scope.names)[i]? with
  | none=>rw[hq]at e;contradiction
  | some p =>
   obtain⟨y,k⟩:=p;rw[hq]at e;by_cases hk:k=.cell
   ·exact⟨y,k,rfl,.inr hk⟩
   ·simp[hk]at e
end
structure ft(K:a2)(A:Around):Prop where
 ex:∃l,A.frames=some l/\l.map (·.frame)=K.hb.fr.map some/\∀e∈l,e.scope.kind≠.module
theorem G9{h base:Heap}:∀{l:List Env} {fr:List Addr},l.map (·.frame)=fr.map some->(∀e∈l,e.scope.kind≠.module)->(∀a∈fr,base.get? a=none/\∃o,h.get? a=some o/\gL o)->h.FunFrames base l/\l.filterMap (·.frame)=fr
 | [],[],_,_,_=>⟨trivial,rfl⟩
 | [],_::_,h,_,_=>(nomatch h)
 | _::_,[],h,_,_=>(nomatch h)
 | e::l,a::fr,L,O,aw=>by
  simp only[dD,List.cons.injEq]at L;refine aS (G9 L.2 (fun e he=>O e (bM _ he)) fun a ha=>aw a (bM _ ha)) fun p q=>?_;obtain⟨b1,o,c8,es,n,kg⟩:=aw a bi;exact⟨⟨O e bi,⟨a,o,L.1,b1,c8,fun vs z=>by rw[kg]at z;cases z⟩,p⟩,by rw[List.filterMap_cons,L.1,q]⟩
theorem Od{mV:Env}{qu:List Env}{base:Heap}(hfr:A.frames=some (mV::qu))(hl:s.heap.FunFrames base (mV::qu))(u2:mV.frame=some aB)(bc:env.frame=some aB)
  (h:∀h',Heap.SlotsOnly ((mV::qu).filterMap (·.frame)) s.heap h'->Q (.ref aB) { s with heap:=h' }):wpAny (model K.prog K.w) A (frameOf env) Q E s:=by
 unfold PySem.frameOf;refine aM (wpAny_frameEnvs hfr ?_)
 have Pq:((mV::qu).dropWhile fun x=>x.frame != env.frame)=mV::qu:=by simp[List.dropWhile,u2,bc]
 rw[Pq];unfold frameObject;refine aM (aM (wpAny_readyFrames_fun hl fun cT g5=>bJ ?_));exact u2.symm▸(bJ (h cT g5))
theorem Dk{e6:Obj}{vs:Array Value}{head:Value}{O7:Bool}{Q:Unit->Shared->Prop}(hA:ft K A)(au:cD K.hb env)(fB:env.frame=some aB)(r:ao K.hb h₀ σ α)(u:hB K.hb.fr h₀ s.heap)
  (new:h₀.get? a=none) (he:s.heap.get? a=some e6) (hc:e6.cls=.ref i) (hd:e6.data=.fields vs) (hsz:1<vs.size) (jO:∃y,vs[2]?=some y/\(K.ph=false->y=.none))
  (a6:∀h',hB K.hb.fr h₀ h'->j7 K.ph h₀ h' i a true->Q () { s with heap:=h' }) :
  wpAny (model K.prog K.w) A (do let x <- frameOf env;let pl <- entryPlaceOf aB O7;let b <- EntryCells.newEntry head x .none (rawInt aB) .none pl;setField (.ref a) 1 b) Q E s:=by
 refine bu hA.ex fun l lc lf zL=>?_;have aF:=r.up u;refine aS (G9 lf zL aF.frs) fun hl Px=>?_;refine cJ au.f fun lC rest bc hfr=>?_;rw[fB]at bc;obtain rfl:=oi bc
 cases l with
 | nil=>rw[hfr]at lf;(exact nomatch lf)
 | cons mV qu =>
  have u2:mV.frame=some aB:=by rw[hfr]at lf;simp at lf;exact lf.1
  have O8:a∉K.hb.fr:=fun q=>by
   obtain⟨_,o,e,es,n,d⟩:=aF.frs a q;rw[he]at e;obtain rfl:=oi e;rw[hd]at d;contradiction
  refine aM (Od lc hl u2 fB fun cT g5=>?_);rw[Px]at g5;refine aM (wpAny_entryPlaceOf fun pl hpl=>?_);unfold EntryCells.newEntry newFields;refine aM (wpAny_newObj_type ?_ (hpl.sizeOk5 _ _ _ _ _));have HM:cT.get? a=some e6:=(g5.2.1 a O8).trans he;have HN:=c3 (h:=cT) { cls:=.type "traceback",dict:=none,data:=.fields ([head,.ref aB,.none,rawInt aB,.none]++(if pl.isEmpty then List.replicate 6 Value.none else pl)).toArray } HM;refine wpAny_setField HN hd hsz (a6 _ ?_ ?_)
  ·intro b o hb
   have pZ:a≠b:=fun q=>by rw[<- q,new]at hb;contradiction
   have keep:∀aP,cT.get? b=some aP->((cT.push { cls:=.type "traceback",dict:=none,data:=.fields ([head,.ref aB,.none,rawInt aB,.none]++(if pl.isEmpty then List.replicate 6 Value.none else pl)).toArray }).update a (Obj.mapFields (·.setIfInBounds 1 (Value.ref cT.objs.size)))).get? b=some aP:=fun aP q=>by
    rw[Heap.get?_update_other _ _ pZ];exact c3 _ q
   rcases u b o hb with q | ⟨m,cu,q⟩
   ·by_cases hm:b∈K.hb.fr
    ·refine aL (g5.2.2 b o q) fun cu z=>?_;exact .inr ⟨hm,cu,keep _ z⟩
    ·exact .inl (keep _ ((g5.2.1 b hm).trans q))
   ·refine aL (g5.2.2 b _ q) fun pb z=>?_;exact .inr ⟨m,pb,keep _ z⟩
  ·have HC:cT.objs.size≠a:=c7 (e0 HM);have HJ:=Obj.data_mapFields hd (·.setIfInBounds 1 (Value.ref cT.objs.size));have Pu:=Heap.get?_update_self (Obj.mapFields (·.setIfInBounds 1 (Value.ref cT.objs.size))) HN (Obj.isFreed_of_fields HJ)
   have O4:=(Heap.get?_update_other (cT.push { cls:=.type "traceback",dict:=none,data:=.fields ([head,.ref aB,.none,rawInt aB,.none]++(if pl.isEmpty then List.replicate 6 Value.none else pl)).toArray })
    (Obj.mapFields (·.setIfInBounds 1 (Value.ref cT.objs.size))) (Ne.symm HC)).trans (ef cT rfl)
   refine⟨new,_,_,.ref cT.objs.size,Pu,(Obj.cls_mapFields _ _).trans hc,HJ,by simp[hsz],.inr cT.objs.size _ _ rfl ?_ HC O4 rfl rfl ?_,?_⟩
   ·cases q:h₀.get? cT.objs.size with
    | none=>rfl
    | some o =>
     have:∃aP,s.heap.get? cT.objs.size=some aP:=by
      rcases u _ _ q with q | ⟨_,_,q⟩
      ·exact⟨_,q⟩
      ·exact⟨_,q⟩
     refine aL this fun aP z=>?_;refine aL (g5.2.2 _ _ z) fun cu bV=>?_;exact absurd (e0 bV) (Nat.lt_irrefl _)
   ·simp
   ·refine ay jO fun y gy hZ=>?_;exact⟨y,by rw[Array.getElem?_setIfInBounds_ne (by decide)];exact gy,hZ⟩
theorem JE{Q:Unit->Shared->Prop}(hA:ft K A)(au:cD K.hb env)(r:ao K.hb h₀ σ α)(u:hB K.hb.fr h₀ s.heap)(x:j7 K.ph h₀ s.heap i a eb)
  (a6:∀h',hB K.hb.fr h₀ h'->j7 K.ph h₀ h' i a true->Q () { s with heap:=h' }):wpAny (model K.prog K.w) A (noteFrame (.ref a) env) Q E s:=by
 obtain⟨new,e6,vs,nN,he,hc,hd,L,a3,jO⟩:=x;refine cJ (id au.f) fun aB rest bc hfr=>?_;have hsz:=(Array.getElem?_eq_some_iff.mp L).1;unfold noteFrame;simp only[bc];refine aM (gE he hd L ?_)
 rcases a3 with⟨_,rfl⟩ | ⟨T,nk,cB,rfl,oF,rL,dK,zx,oG,pY⟩
 ·rw[aY (by decide)];exact Dk hA au bc r u new he hc hd hsz jO a6
 ·rw[aD (show(Value.ref T != Value.none)=true from by rfl)];refine aM (gE dK oG (x:=cB[3]) (by simp[pY]) ?_);by_cases hq:(cB[3] == rawInt aB)=true
  ·rw[aD hq];exact bJ (a6 _ u ⟨new,e6,vs,_,he,hc,hd,L,.inr T nk cB rfl oF rL dK zx oG pY,jO⟩)
  ·rw[aY hq];refine aM (wpAny_setField dK oG pY ?_);have other:∀b,b≠T->(s.heap.update T (Obj.mapFields (·.setIfInBounds 3 Value.none))).get? b=s.heap.get? b:=fun b hb=>Heap.get?_update_other _ _ (Ne.symm hb);refine Dk (s:={ s with heap:=s.heap.update T (Obj.mapFields (·.setIfInBounds 3 Value.none)) }) hA au bc r (fun b o hb=>?_) new ((other a (Ne.symm rL)).trans he) hc hd hsz jO a6
   have rO:b≠T:=fun q=>by rw[q,oF]at hb;contradiction
   show(s.heap.update T _).get? b=_\/_
   rcases u b o hb with q | ⟨m,cu,q⟩
   ·exact .inl ((other b rO).trans q)
   ·exact .inr ⟨m,cu,(other b rO).trans q⟩
theorem zc{f:Option Addr}{Q:Unit->Shared->Prop}(r:ao K.hb h₀ σ α)(u:hB K.hb.fr h₀ s.heap)(x:j7 K.ph h₀ s.heap i a true)
  (a6:∀h',hB K.hb.fr h₀ h'->j7 K.ph h₀ h' i a true->Q () { s with heap:=h' }):wpAny (model K.prog K.w) A (setFlight (.ref a) f) Q E s:=by
 obtain⟨new,e6,vs,nN,he,hc,hd,L,a3,jO⟩:=x
 rcases a3 with⟨z,_⟩ | ⟨T,nk,cB,rfl,oF,rL,dK,zx,oG,pY⟩
 ·contradiction
 unfold setFlight;refine aM (gE he hd L ?_);rw[aD (show(Value.ref T != Value.none)=true from by rfl)];have other:∀(g:Obj->Obj) b,b≠T->(s.heap.update T g).get? b=s.heap.get? b:=fun g b hb=>Heap.get?_update_other _ _ (Ne.symm hb);refine wpAny_setField dK oG pY (a6 _ (fun b o hb=>?_) ⟨new,e6,vs,_,(other _ a (Ne.symm rL)).trans he,hc,hd,L,.inr T _ _ rfl oF rL (Heap.get?_update_self _ dK (Obj.isFreed_of_fields (Obj.data_mapFields oG _))) ((Obj.cls_mapFields _ _).trans zx) (Obj.data_mapFields oG _) (by simpa using pY),jO⟩)
 have rO:b≠T:=fun q=>by rw[q,oF]at hb;contradiction
 rcases u b o hb with q | ⟨m,cu,q⟩
 ·exact .inl ((other _ b rO).trans q)
 ·exact .inr ⟨m,cu,(other _ b rO).trans q⟩
theorem RC{Q:Unit->Shared->Prop}(hA:ft K A)(au:cD K.hb env)(r:ao K.hb h₀ σ α)(u:hB K.hb.fr h₀ s.heap)(x:j7 K.ph h₀ s.heap i a eb)
  (a6:∀h',hB K.hb.fr h₀ h'->j7 K.ph h₀ h' i a true->Q () { s with heap:=h' }):wpAny (model K.prog K.w) A (leaving env (.ref a)) Q E s:=by
 unfold leaving;refine aM (JE hA au r u x fun h' gP aO=>?_);exact zc (s:={ s with heap:=h' }) r gP aO fun hM BM s3=>a6 hM BM s3
noncomputable def jj(c1:H->aa->ah Bool)(eC:H->aa->ah H)(x:H)(σ:aa):ah (Option H):=
 (c1 x σ).bind fun b σ=>if b then(eC x σ).bind fun v σ=>.ok (some v) σ else .ok none σ
theorem bh.snoc{p:H}{v:Value}(a:bh h α xs vs)(b:ai h α p v):bh h α (xs++[p]) (vs++[v]):=
 a.append #v[b]
section
variable {t:Nat}
inductive s5(K:a2)(s:Shared)(α:ax)(c:ah H)(acc:Value)(C:Addr)(r:Result)(s':Shared):Prop
 | inl (e:r=.ok .next) (v:H) (σ':aa) (α':ax) (m:Str->Option Value) (hc:c=.ok v σ') (x:a4 [] α s.heap α' s'.heap) (bp:ao K.hb s'.heap σ' α') (vr:ai s'.heap α' v acc) (mm:cq s s') (ns:s'.heap.Ns C m) (L:C∉α'.all) (O:s.heap.get? C=none) (aw:K.hb.get? C=none) (aQ:C∉K.hb.fr):s5 K s α c acc C r s'
theorem PE{C:Addr}(hb:b≠C):(PySem.W.hideAll h [C]).get? b=h.get? b:=by
 cases e:h.get? b with
 | some o=>exact PySem.W.hideAll_get _ e (by simpa using hb)
 | none =>
  cases aE:(PySem.W.hideAll h [C]).get? b with
  | none=>rfl
  | some o=>rw[PySem.W.of_hideAll _ aE]at e;contradiction
theorem ao.unhide{hb h σ α}{hid:List Addr}(r:ao hb h σ α)(hs:∀a∈hid,a∈α.hid):ao hb h σ ⟨α.ix,hid,α.fr⟩:=
 ⟨r.base,r.fresh,r.nodup,r.len,fun a ha=>r.hidden a (hs a ha),fun j m a V ak=>(r.obj j m a V ak).re (α:=α) (α':=⟨α.ix,hid,α.fr⟩) (fun J J e=>e) (fun a ha=>by
  rcases dt.mp ha with q | q
  ·exact gW _ q
  ·exact d7 _ (hs a q)),fun a ha=>r.hfr a (hs a ha),r.fe,r.frs,r.frNot⟩
noncomputable def ic(n:Nat)(a9:Bool)(w:Option (Nat×aW))(c1:H->aa->ah Bool)(eC:H->aa->ah H)(ys xs:List H)(σ:aa):ah H:=
 ib n (dW w (jj c1 eC) xs σ) fun kK σ=>eW a9 (ys++kK) σ
theorem Hn{n a9 w c1 eC ys xs σ}(h:ic n a9 w c1 eC ys xs σ≠.stuck):hY w σ:=by
 by_cases hw:hY w σ
 ·exact hw
 ·refine absurd ?_ h;unfold ic
  cases xs with
  | nil=>rw[show dW w (jj c1 eC) [] σ=.stuck from aY hw];rfl
  | cons x xs=>rw[show dW w (jj c1 eC) (x::xs) σ=.stuck from aY hw];rfl
theorem Oz{n a9 w c1 eC ys p xs σ}(hw:hY w σ):ic n a9 w c1 eC ys (p::xs) σ=ib n ((jj c1 eC p σ).bind fun y σ=>(dW w (jj c1 eC) xs σ).bind fun kK σ=>.ok (xi y kK) σ) fun kK σ=>eW a9 (ys++kK) σ:=by
 unfold ic;rw[show dW w (jj c1 eC) (p::xs) σ=_ from aD hw]
noncomputable def Tw(f g:aa->ah H):ah Bool->ah H
 | .ok true σ=>g σ
 | .ok false σ=>f σ
 | _=>.stuck
noncomputable def AO(f:H->aa->ah H):ah H->ah H
 | .ok v σ=>f v σ
 | _=>.stuck
theorem Oy{n a9 w c1 eC ys p xs σ c}(h:ic n a9 w c1 eC ys (p::xs) σ=c)(hc:c≠.stuck):hY w σ/\Tw (ic n a9 w c1 eC ys xs) (fun σ=>AO (fun v=>ic n a9 w c1 eC (ys++[v]) xs) (eC p σ)) (c1 p σ)=c:=by
 have hw:=Hn (h▸hc);refine⟨hw,?_⟩;rw[<- h,Oz hw];unfold jj
 cases c1 p σ with
 | exc i σ=>rfl
 | stuck=>rfl
 | ok b σ =>
  cases b with
  | false =>
   show ib n _ _=ib n ((dW w (jj c1 eC) xs σ).bind fun kK σ=>.ok kK σ) _;cases dW w (jj c1 eC) xs σ <;> rfl
  | true =>
   show AO _ (eC p σ)=ib n (((eC p σ).bind fun v σ=>.ok (some v) σ).bind _) _
   cases eC p σ with
   | exc i σ=>rfl
   | stuck=>rfl
   | ok v σ =>
    show ib n _ _=ib n ((dW w (jj c1 eC) xs σ).bind fun kK σ=>.ok (v::kK) σ) _
    cases dW w (jj c1 eC) xs σ with
    | ok kK σ=>show eW _ _ _=eW _ _ _;rw[eY];rfl
    | exc i σ=>rfl
    | stuck=>rfl
set_option tactic.hygienic true in
theorem Hm{n a9 w c1 eC ys xs σ}(hn:ys.length<=n)(h:ic n a9 w c1 eC ys xs σ≠.stuck):ys.length<=aI:=by
 unfold ic at h
 cases hq:dW w (jj c1 eC) xs σ with
 | ok kK σ' =>
  rw[hq]at h;simp only[ib,eW]at h
  split at h
  ·rename_i hl;simp at hl;(grind)
  ·exact absurd rfl h
 | exc i σ'=>rw[hq]at h;exact absurd rfl h
 | stuck=>rw[hq]at h;exact absurd rfl h
end
structure s6 where
 K:a2
 s:Shared
 α:ax
 D:Addr
 cenv:Env
 t:Nat
 ρc:az
 own:List Addr
structure pq(P:s6):Prop where
 hown:∀b∈P.own,P.s.heap.get? b=none
 hD:P.s.heap.get? P.D=none
 hC:P.s.heap.get? P.cenv.locals=none
 hbD:P.K.hb.get? P.D=none
 hbC:P.K.hb.get? P.cenv.locals=none
 hDx:P.D∉P.α.hid
 ap:mz P.cenv P.own
 hCf:P.cenv.locals∉P.K.hb.fr
structure fP(P:s6)(ys:List H)(us:List Value)(n:Nat)(ρ:az)(σ:aa)(s:Shared)(α:ax):Prop where
 hid:α.hid=P.D::P.α.hid
 x:a4 [] P.α P.s.heap ⟨α.ix,P.α.hid,α.fr⟩ s.heap
 r:ao P.K.hb s.heap σ α
 E:aZ P.cenv ρ s.heap α
 hρ:∀v,ρ.set P.t (some v)=P.ρc.set P.t (some v)
 hl:s.heap.get? P.D=some { cls:=.type "list",data:=.seq us.toArray n }
 vs:bh s.heap α ys us
 m:cq P.s s
theorem ao.show{hid:List Addr}(r:ao hb h σ α)(e:α.hid=D::hid)(hDx:D∉hid)(hl:h.get? D=some { cls:=.type "list",data:=.seq us.toArray n })(vs:bh h α ys us):ao hb h (σ++[.lst ys]) ⟨α.ix++[D],hid,α.fr⟩:=by
 have aN:∀a∈hid,a∈α.hid:=fun a ha=>e.symm▸bM _ ha;have zq:D∈α.hid:=e.symm▸bi;have i5:∀{a:Addr} {p:Prop},a∈α.ix++[D]->(a∈α.ix->p)->(a=D->p)->p:=fun h L O=>(dt.mp h).elim L fun q=>O (de.mp q);have He:∀(j:Nat) (a:Addr),α.ix[j]?=some a->(α.ix++[D])[j]?=some a:=fun j a e=>(iA (dX e).1).trans e;have Kq:∀a,a∈(⟨α.ix++[D],hid,α.fr⟩:ax).all->a∈α.all:=fun a ha=>(dt.mp ha).elim (fun q=>i5 q (gW _) fun q=>d7 _ (q▸zq)) fun q=>d7 _ (aN a q);refine⟨r.base,fun a ha=>i5 ha (r.fresh a) fun q=>q▸r.hfr D zq,?_,?_,fun a ha=>⟨fun q=>i5 q (r.hidden a (aN a ha)).1 fun q=>hDx (q▸ha),(r.hidden a (aN a ha)).2⟩,fun j m a V ak=>?_,fun a ha=>r.hfr a (aN a ha),r.fe,r.frs,fun a ha q=>i5 q (r.frNot a ha) fun q=>?_⟩
 ·exact gC.mpr ⟨r.nodup,List.pairwise_singleton _ _,fun a ha b hb z=>(r.hidden D zq).1 (de.mp hb▸z▸ha)⟩
 ·show _=(α.ix++[D]).length;rw[cW,cW,r.len];rfl
 ·change(α.ix++[D])[j]?=some a at ak;by_cases a5:j<σ.length
  ·rw[iA a5]at V;rw[iA (r.len▸a5)]at ak;exact(r.obj j m a V ak).re He Kq
  ·have a5:=Nat.not_lt.mp a5;rw[h4 a5]at V;rw[h4 (r.len▸a5),<- r.len]at ak;generalize j-σ.length=k at V ak
   cases k with
   | zero =>
    obtain rfl:=oi V;obtain rfl:=oi ak;exact⟨us,n,hl,vs.re He Kq⟩
   | succ k=>exact nomatch V
 ·subst q;obtain⟨_,o,e,es,n',d⟩:=r.frs a ha;rw[hl]at e;obtain rfl:=oi e;contradiction
section
variable {P:s6}
theorem fP.hD(aB:fP P ys us n ρ σ s α):P.D∈α.hid:=aB.hid.symm▸bi
theorem fP.ha(aB:fP P ys us n ρ σ s α):P.D∈α.all:=d7 _ aB.hD
theorem fP.ext(aB:fP P ys us n ρ σ s α)(x:a4 [] α s.heap α' s'.heap)(r:ao P.K.hb s'.heap σ' α')(m:cq s s'):fP P ys us n ρ σ' s' α':=
 ⟨x.hid.trans aB.hid,aB.x.trans (x.rehid _),r,aB.E.ext x .nil,aB.hρ,x.seqs _ _ (aB.r.hidden _ aB.hD).1 aB.hl .seq,aB.vs.ext x,aB.m.trans m⟩
theorem fP.item(aB:fP P ys us n ρ σ s α)(c:pq P)(x:a4 P.own α s.heap α s'.heap)(r:ao P.K.hb s'.heap σ α)(m:cq s s'):fP P ys us n ρ σ s' α:=
 ⟨aB.hid,a4.drop aB.x c.hown (fun J q=>absurd q et) ((List.append_nil P.own).symm▸x.rehid P.α.hid),r,aB.E.ext x c.ap,aB.hρ,x.seqs _ _ (aB.r.hidden _ aB.hD).1 aB.hl .seq,aB.vs.ext x,aB.m.trans m⟩
theorem fP.store(aB:fP P ys us n ρ σ s α)(c:pq P){v:H}(x:a4 [P.cenv.locals] α s.heap α s'.heap)(fE:∀b,b≠P.cenv.locals->s'.heap.get? b=s.heap.get? b)(r:ao P.K.hb s'.heap σ α)(E:aZ P.cenv (ρ.set P.t (some v)) s'.heap α)(m:cq s s'):fP P ys us n (P.ρc.set P.t (some v)) σ s' α:=
 ⟨aB.hid,aB.x.sameBut c.hC fE,r,aB.hρ v▸E,fun v=>List.set_set ..,(fE _ fun q=>aB.E.la (q▸aB.ha)).trans aB.hl,aB.vs.ext x,aB.m.trans m⟩
theorem fP.app(aB:fP P ys us n ρ σ s α)(c:pq P){v:H}{n':Nat}(vw:∀b,b≠P.D->h'.get? b=s.heap.get? b)(hl:h'.get? P.D=some { cls:=.type "list",data:=.seq (us++[u]).toArray n' })(vr:ai s.heap α v u):fP P (ys++[v]) (us++[u]) n' ρ σ { s with heap:=h' } α:=
 ⟨aB.hid,aB.x.sameBut c.hD vw,aB.r.sameHid aB.hD c.hbD vw ⟨_,hl⟩ (fun o e=>by rw[aB.hl]at e;obtain rfl:=oi e;rintro⟨_,_,q⟩;contradiction),aB.E.sameBut aB.ha vw,aB.hρ,hl,(aB.vs.snoc vr).sameBut aB.ha vw,aB.m.trans ⟨rfl,rfl⟩⟩
theorem fP.done(aB:fP P ys us n ρ σ s α)(c:pq P)(a9:Bool):s5 P.K P.s P.α (.ok (if a9 then .fl ys else .ref σ.length) (if a9 then σ else σ++[.lst ys])) (.ref P.D) P.cenv.locals (.ok .next) s:=by
 refine ay aB.E.ns fun I8 Jo J=>?_;have m1:=(aB.r.hidden P.D aB.hD).1;have aN:∀a∈P.α.hid,a∈α.hid:=fun a ha=>aB.hid.symm▸bM _ ha
 cases a9 with
 | true =>
  have Kp:∀a,a∈(⟨α.ix,P.α.hid,α.fr⟩:ax).all->a∈α.all:=fun a ha=>(dt.mp ha).elim (gW _) fun q=>d7 _ (aN a q);exact .inl rfl _ _ ⟨α.ix,P.α.hid,α.fr⟩ I8 rfl aB.x (aB.r.unhide aN) (ai.flI aB.hl (fun q=>(dt.mp q).elim m1 c.hDx) (aB.vs.re (α:=α) (α':=⟨α.ix,P.α.hid,α.fr⟩) (fun J J e=>e) Kp)) aB.m Jo (fun q=>aB.E.la (Kp _ q)) c.hC c.hbC c.hCf
 | false =>
  refine .inl rfl _ _ ⟨α.ix++[P.D],P.α.hid,α.fr⟩ I8 rfl ?_ (aB.r.show aB.hid c.hDx aB.hl aB.vs) (.ref ?_) aB.m Jo (fun q=>?_) c.hC c.hbC c.hCf
  ·refine ay aB.x.pre fun β q1 q2=>?_;refine⟨rfl,⟨β++[P.D],?_,fun a ha=>(dt.mp ha).elim (q2 a) fun q=>de.mp q▸⟨c.hD,et⟩⟩,aB.x.seqs,aB.x.rest,aB.x.alive,aB.x.fre⟩;show α.ix++[P.D]=_;rw[show α.ix=P.α.ix++β from q1,eY]
  ·show(α.ix++[P.D])[σ.length]?=_;rw[aB.r.len,h4 (dA _),Nat.sub_self];rfl
  ·refine aB.E.la ((dt.mp q).elim (fun q=>(dt.mp q).elim (gW _) fun q=>?_) fun q=>d7 _ (aN _ q));rw[de.mp q];exact aB.ha
inductive wP(P:s6)(xs:List H)(St:Nat->Heap->ax->Prop)(go:List H->List H->aa->ah H)(c:ah H)(k:Nat)(s:Shared):Prop
 | mk (i:Nat) (σ:aa) (α:ax) (ys:List H) (us:List Value) (ρ:az) (n:Nat) (hk:k=xs.length-i) (hi:i<=xs.length) (aB:fP P ys us n ρ σ s α) (st:St i s.heap α) (bR:go ys (xs.drop i) σ=c) (oT:ys.length<=i):wP P xs St go c k s
theorem MT{cm:Sem Bool}{it:Value}{w:Option (Nat×aW)}
  {c1:H->aa->ah Bool} {eC:H->aa->ah H} {a9:Bool} {o:ah H} {Q:Option Value->Shared->Prop} {ra:Unit->Shared->Prop} {pA:Bool->Shared->Prop} {Cg:Value->Shared->Prop} {Ch:Value->Shared->Prop} {X:Value->Shared->Prop} (c:pq P) (I:gA P.K A false P.own it xs w St) (hx:P.cenv.scope.names[P.t]?=some (x,.local)) (jo:mK P.cenv.scope.names) (hc:o≠.stuck)
  (oQ:∀v s σ α,aZ P.cenv (P.ρc.set P.t (some v)) s.heap α->ao P.K.hb s.heap σ α->av P.K gU A cm (c1 v σ) s α)
  (oI:∀v s σ α,aZ P.cenv (P.ρc.set P.t (some v)) s.heap α->ao P.K.hb s.heap σ α->av P.K ai A (eval elt P.cenv) (eC v σ) s α)
  (ea:i<xs.length) (aB:fP P ys us n ρ σ s α) (st:St i s.heap α) (bR:ic xs.length a9 w c1 eC ys (xs.drop i) σ=o) (oT:ys.length<=i)
  (L:∀v s,wpAny (model P.K.prog P.K.w) A (assign (.Name x hU) P.cenv v) ra X s->Q (some v) s) (O:∀s,wpAny (model P.K.prog P.K.w) A cm pA X s->ra () s) (aw:∀s,wpAny (model P.K.prog P.K.w) A (eval elt P.cenv) Cg X s->pA true s)
  (aQ:∀v s,wpAny (model P.K.prog P.K.w) A (call (.builtin "list.append") [.ref P.D,v]) Ch X s->Cg v s) (hn:∀s,wP P xs St (ic xs.length a9 w c1 eC) o (xs.length-(i+1)) s->pA false s/\∀v,Ch v s):wpAny (model P.K.prog P.K.w) A (pyNext it) Q X s:=by
 rw[List.drop_eq_getElem_cons ea]at bR;have hO:=Hm (aH oT (h6 ea)) (bR.symm▸hc);refine aS (Oy bR hc) fun hw bR=>?_;refine I.item i s σ α xs[i] (dI ea) st aB.r hw _ _ fun v ba vr VM J nM gO g9=>L _ _ ?_;have mB:=aB.item c nM gO g9;refine wpAny_assign_Name (Kk jo gO mB.E c.hbC hx vr fun eK jv mA K3 fE lp=>O _ ?_);have Ca:=mB.store c K3 fE jv mA lp;have qG:=I.frame _ _ _ _ _ _ (VM rfl) K3 fun b hb q=>c.ap.1 (de.mp q▸hb);have a3:=oQ xs[i] eK σ α Ca.E jv;generalize c1 xs[i] σ=gJ at bR a3;refine cr (a3 fun q=>hc (by rw[<- bR,q];rfl)) (fun ok nC hp=>?_) fun e nC hx=>?_
 ·obtain⟨b,qT,wC,rfl,kJ,J1,kk,SO⟩:=hp;obtain rfl:ok=b:=kk;have pz:=Ca.ext kJ J1 SO;have Ko:=I.frame _ _ _ _ _ _ qG kJ fun J J=>et
  cases ok with
  | false=>exact(hn _ ⟨i+1,qT,wC,ys,us,_,n,rfl,ea,pz,Ko,bR,Nat.le_succ_of_le oT⟩).1
  | true =>
   have he:=oI xs[i] nC qT wC pz.E J1;change AO _ (eC xs[i] qT)=o at bR;generalize eC xs[i] qT=X8 at bR he;refine aw _ (cr (he fun q=>hc (by rw[<- bR,q];rfl)) (fun u sS hp=>aQ _ _ ?_) fun e sS hx=>?_)
   ·obtain⟨wl,BY,K6,rfl,mw,v2,Xe,SP⟩:=hp;have qY:=pz.ext mw v2 SP;refine wpAny_list_append_plain ⟨_,qY.hl⟩ (fun YD zN J3=>?_) (by rw[fc,<- aB.vs.1];exact hP hO);refine aL zN fun sq zN=>?_;have jH:=qY.app c (n':=sq) J3.2 (by rw[zN];simp) Xe;exact(hn _ ⟨i+1,BY,K6,ys++[wl],us++[u],_,sq,rfl,ea,jH,I.but _ _ _ _ _ (I.frame _ _ _ _ _ _ Ko mw fun J J=>et) qY.ha J3.2,bR,by rw[cW];exact Nat.succ_le_succ oT⟩).2 _
   ·obtain⟨j,BY,rfl,_⟩:=hx;exact absurd bR.symm hc
 ·obtain⟨j,BY,rfl,_⟩:=hx;exact absurd bR.symm hc
theorem MS{iter:Expr}{it:Value}{w:Option (Nat×aW)}
  {c1:H->aa->ah Bool} {eC:H->aa->ah H} {a9:Bool} {o:ah H} (c:pq P) (I:gA P.K A false P.own it xs w St) (hx:P.cenv.scope.names[P.t]?=some (x,.local)) (jo:mK P.cenv.scope.names) (hc:o≠.stuck)
  (oQ:∀v s σ α,aZ P.cenv (P.ρc.set P.t (some v)) s.heap α->ao P.K.hb s.heap σ α ->
   av P.K gU A (forIn ifs true fun c r=>if r=true then do let ok <- isTrue c P.cenv (eval c P.cenv);pure (ForInStep.yield ok)else pure (ForInStep.yield r)) (c1 v σ) s α)
  (oI:∀v s σ α,aZ P.cenv (P.ρc.set P.t (some v)) s.heap α->ao P.K.hb s.heap σ α->av P.K ai A (eval elt P.cenv) (eC v σ) s α)
  (aB:fP P [] [] n ρ σ s α) (st:St 0 s.heap α) (bR:ic xs.length a9 w c1 eC [] xs σ=o) :
  codeAny (model P.K.prog P.K.w) A (.compLoop (.ListComp elt [⟨.Name x hU,iter,ifs,0⟩] scope pos) 0 it (.ref P.D) P.cenv) (s5 P.K P.s P.α o (.ref P.D) P.cenv.locals) s:=by
 refine codeAny_compLoop_tests (wP P xs St (ic xs.length a9 w c1 eC) o) (fun n s₁ inv=>?_) _ ⟨0,σ,α,[],[],ρ,n,rfl,Nat.zero_le _,aB,st,bR,dA _⟩;clear bR st aB;obtain⟨i,ac,bb,ys,us,bU,AI,rfl,hi,aB,st,bR,oT⟩:=inv;by_cases ea:i<xs.length
 ·exact MT c I hx jo hc oQ oI ea aB st bR oT (fun J J h=>h) (fun J h=>h) (fun J h=>h) (fun J J h=>h) fun J h=>⟨⟨_,Nat.sub_succ_lt_self _ _ ea,h⟩,fun J=>⟨_,Nat.sub_succ_lt_self _ _ ea,h⟩⟩
 ·have e:=Nat.le_antisymm hi (Nat.not_lt.mp ea);rw[e,List.drop_length]at bR;have hw:=Hn (bR.symm▸hc);have hO:=Hm (e▸oT) (bR.symm▸hc);refine I.done s₁ ac bb (e▸st) aB.r hw _ _ fun ba nM gO g9=>?_
  have PB:ah.ok (if a9 then H.fl ys else .ref ac.length) (if a9 then ac else ac++[.lst ys])=o:=by
   rw[<- bR];unfold ic;rw[show dW w (jj c1 eC) [] ac=.ok [] ac from aD hw];show _=eW a9 (ys++[]) ac;rw[List.append_nil];unfold eW;rw[aD hO];cases a9 <;> rfl
  exact PB▸(aB.item c nM gO g9).done c a9
end
section
variable {t:Nat}
noncomputable abbrev gI(scope:Scope)(C:Addr)(env:Env):Env:=compEnvC scope (gH env.cells scope.names []) C env
noncomputable abbrev oc(scope:Scope)(env:Env)(ρ:az):az:=c4 (h9 env.scope.names (dv env.scope.names scope.names)) ρ
noncomputable def oa(a9:Bool)(c1:H->aa->ah Bool)(eC:H->aa->ah H)(kj:ah (List H×Option (Nat×aW))):ah H:=
 kj.bind fun p σ=>ic p.1.length a9 p.2 c1 eC [] p.1 σ
theorem C1{iter:Expr}{kj:ah (List H×Option (Nat×aW))}
  {c1:H->aa->ah Bool} {eC:H->aa->ah H} {a9:Bool} {RR:Value->Addr->Result->Shared->Prop} {E:Value->Shared->Prop}
  (c:j6 env.scope.names scope t x) (nR:aZ env ρ s.heap α) (bF:jf K A false (eval iter env) kj s α) (hc:oa a9 c1 eC kj≠.stuck)
  (oQ:∀C v s σ α,cD K.hb (gI scope C env)->aZ (gI scope C env) ((oc scope env ρ).set t (some v)) s.heap α->ao K.hb s.heap σ α ->
   av K gU A (forIn ifs true fun c r=>if r=true then do let ok <- isTrue c (gI scope C env) (eval c (gI scope C env));pure (ForInStep.yield ok)else pure (ForInStep.yield r)) (c1 v σ) s α)
  (oI:∀C v s σ α,cD K.hb (gI scope C env)->aZ (gI scope C env) ((oc scope env ρ).set t (some v)) s.heap α->ao K.hb s.heap σ α->av K ai A (eval elt (gI scope C env)) (eC v σ) s α)
  (bQ:ft K A) (au:cD K.hb env) (mh:∃σ,ao K.hb s.heap σ α)
  (fK:∀e s',da K A kj s α e s'->E e s') (O0:∀acc C r s',s5 K s α (oa a9 c1 eC kj) acc C r s'->RR acc C r s') :
  wpAny (model K.prog K.w) A (eval iter env) (fun nN s₁=>wpAny (model K.prog K.w) A (pyIter nN) (fun it ba=>wpAny (model K.prog K.w) A (newList []) (fun acc eK =>
   wpAny (model K.prog K.w) A (newFunctionEnv scope env.globals (gH env.cells scope.names []) [] env.qual none .none (some env)) (fun cenv nC =>
    codeAny (model K.prog K.w) A (.compStart (.ListComp elt [⟨.Name x hU,iter,ifs,0⟩] scope pos) 0 it acc { cenv with scope:=relabel scope env }) (RR acc cenv.locals) nC) E eK) E ba) E s₁) E s:=by
 have Pl:kj≠.stuck:=by rintro rfl;exact hc rfl
 refine cr (bF Pl) (fun nN s₁ cT=>cr cT (fun it ba h₂=>?_) fK) fK;obtain⟨xs,w,ar,α₂,own,St,Pm,ip,gO,g9,I,st,ho⟩:=h₂;have cell:∀y∈scope.names,y.2≠.cell:=c.nocell;refine wpAny_newObj_type (wpAny_newFunctionEnv cell (by intro y hy;(exact nomatch hy)) (fun cT zP u7=>?_) c.kind);dsimp only at zP u7 ⊢;generalize zr:ba.heap.push { cls:=.type "list",dict:=none,data:=.seq ([]:List Value).toArray }=d0 at zP u7 ⊢
 have zp:d0.objs.size=ba.heap.objs.size+1:=by rw[<- zr,Heap.size_push]
 have Hu:ba.heap.objs.size≠d0.objs.size:=by rw[zp];exact h5 (Nat.lt_succ_self _)
 have hf:∀b o,ba.heap.get? b=some o->cT.get? b=some o:=fun b o e=>u7.extBut b o (zp.symm▸(h5 (Nat.lt_succ_of_lt (e0 e)))) (c3 _ (zr▸c3 _ e));have zz:cT.get? ba.heap.objs.size=some { cls:=.type "list",data:=.seq ([]:List Value).toArray }:=u7.extBut _ _ Hu (c3 _ (zr▸ef _ rfl))
 have fresh:∀a,ba.heap.objs.size<=a->ba.heap.get? a=none:=fun a ha=>by
  cases e:ba.heap.get? a with
  | none=>rfl
  | some aP=>exact absurd (e0 e) (Nat.not_lt.mpr ha)
 have m0:=fresh ba.heap.objs.size (dA _);have mZ:ba.heap.get? d0.objs.size=none:=fresh _ (by rw[zp];exact Nat.le_succ _)
 have tB:∀a,ba.heap.get? a=none->s.heap.get? a=none:=fun a ha=>by
  cases e:s.heap.get? a with
  | none=>rfl
  | some o=>obtain⟨aP,aE⟩:=ip.alive a o ((et)) e;rw[ha]at aE;contradiction
 have base:∀a,ba.heap.get? a=none->K.hb.get? a=none:=fun a ha=>by
  cases e:K.hb.get? a with
  | none=>rfl
  | some o=>rw[gO.base a o e]at ha;contradiction
 have ps:=nR.ext ip .nil;have jv:ao K.hb cT ar ⟨α₂.ix,ba.heap.objs.size::α₂.hid,α₂.fr⟩:=gO.hide m0 hf zz;have mA:aZ env ρ cT ⟨α₂.ix,ba.heap.objs.size::α₂.hid,α₂.fr⟩:=(ps.hide m0).ext (.keeps (F:=[]) hf) .nil
 have cells:∀y a,env.cells.lookup y=some a->∃o,s.heap.get? a=some o:=fun y a ha=>by
  refine dN (nR.ca y a ha) fun J J bp=>?_;refine cJ bp fun v o e J=>?_;exact⟨o,e⟩
 have zo:d0.objs.size∉(⟨α₂.ix,ba.heap.objs.size::α₂.hid,α₂.fr⟩:ax).all:=fun q=>by
  rcases dt.mp q with q | q
  ·refine aL (gO.live q) fun o e=>?_;rw[mZ]at e;contradiction
  ·rcases b5.mp q with q | q
   ·exact Hu q.symm
   ·refine aL ((gO.hidden _ q).2) fun o e=>?_;rw[mZ]at e;contradiction
 have dn:∀y a,env.cells.lookup y=some a->a≠d0.objs.size:=fun y a ha q=>by
  refine aL (cells y a ha) fun o e=>?_;rw[q,tB _ mZ]at e;contradiction
 have La:=MR c mA zP zo dn;have jp:=tJ c nR
 have apart:mz (gI scope d0.objs.size env) own:=by
  refine⟨fun q=>?_,fun y a ha q=>?_⟩
  ·refine aL (I.live _ _ _ st _ q) fun o e=>?_;have aE:ba.heap.get? d0.objs.size=some o:=e;rw[mZ]at aE;contradiction
  ·refine aL (cells y a (pL jp ha)) fun o e=>?_;rw[(ho a q).1]at e;contradiction
 have Hy:cD K.hb (gI scope d0.objs.size env):=⟨base _ mZ,fun y a ha=>au.c y a (pL jp ha),au.f⟩
 have hCf:d0.objs.size∉K.hb.fr:=fun q=>by
  obtain⟨_,o,e,_⟩:=gO.frs _ q;rw[mZ]at e;contradiction
 have fh:(gI scope d0.objs.size env).scope.names=dv env.scope.names scope.names:=A7 nR.ok.kind;have qG:St 0 cT ⟨α₂.ix,ba.heap.objs.size::α₂.hid,α₂.fr⟩:=I.frame _ [] _ _ _ _ (I.hide _ _ _ _ st m0) (.keeps hf) (by simp)
 have I5:∀eK:Shared,eK={ ba with heap:=cT,toks:=ba.toks+([]:List (Str×Value)).length } ->
   codeAny (model K.prog K.w) A (.compLoop (.ListComp elt [⟨.Name x hU,iter,ifs,0⟩] scope pos) 0 it (.ref ba.heap.objs.size) (compEnvC scope (gH env.cells scope.names []) d0.objs.size env))
    (RR (.ref ba.heap.objs.size) d0.objs.size) eK:=by
  rintro eK rfl
  refine codeAny_mono (MS (P:=⟨K,s,α,ba.heap.objs.size,gI scope d0.objs.size env,t,oc scope env ρ,own⟩) (a9:=a9) (ρ:=oc scope env ρ) (α:=⟨α₂.ix,ba.heap.objs.size::α₂.hid,α₂.fr⟩) (n:=0)
   ⟨fun b hb=>(ho b hb).1,tB _ m0,tB _ mZ,base _ m0,base _ mZ,?_,apart,hCf⟩ I (fh.symm▸c.tgt) (fh.symm▸c.sc.uniq) hc
   (fun v s σ α=>oQ _ v s σ α Hy) (fun v s σ α=>oI _ v s σ α Hy) ⟨by show _::α₂.hid=_;rw[ip.hid],?_,jv,La,fun v=>rfl,zz,.nil,g9.gens,g9.os⟩ qG ?_) (fun r s'=>O0 _ _ r s')
  ·refine aL mh fun σ mh=>?_;intro q;refine aL ((mh.hidden _ q).2) fun o e=>?_;rw[tB _ m0]at e;contradiction
  ·have aw:a4 [] α s.heap ⟨α₂.ix,α.hid,α₂.fr⟩ ba.heap:=by
    have:=ip.rehid α.hid;exact this
   exact aw.trans (.keeps hf)
  ·rw[Pm];rfl
 exact codeAny_compStart_list (I5 _ rfl) (I.self 0 _ _ qG _ _ (I5 _ rfl))
theorem RQ{iter:Expr}{kj:ah (List H×Option (Nat×aW))}
  {c1:H->aa->ah Bool} {eC:H->aa->ah H} {a9:Bool}
  (c:j6 env.scope.names scope t x) (nR:aZ env ρ s.heap α) (bF:jf K A false (eval iter env) kj s α)
  (oQ:∀C v s σ α,cD K.hb (gI scope C env)->aZ (gI scope C env) ((oc scope env ρ).set t (some v)) s.heap α->ao K.hb s.heap σ α ->
   av K gU A (forIn ifs true fun c r=>if r=true then do let ok <- isTrue c (gI scope C env) (eval c (gI scope C env));pure (ForInStep.yield ok)else pure (ForInStep.yield r)) (c1 v σ) s α)
  (oI:∀C v s σ α,cD K.hb (gI scope C env)->aZ (gI scope C env) ((oc scope env ρ).set t (some v)) s.heap α->ao K.hb s.heap σ α->av K ai A (eval elt (gI scope C env)) (eC v σ) s α)
  (bQ:ft K A) (au:cD K.hb env) (mh:ao K.hb s.heap σ α) (hs:∀x,foldedSetIterable iter env x=pure x) :
  av K ai A (eval (.ListComp elt [⟨.Name x hU,iter,ifs,0⟩] scope pos) env) (oa a9 c1 eC kj) s α:=by
 intro hc;rw[eval_ListComp];refine wpAny_comprehension_free (use:=none) rfl hs (CW (tJ c nR)) c.kind c.names (C1 (a9:=a9) (RR:=fun acc C=>compPost (model K.prog K.w) A _ none _ acc C) c nR bF hc oQ oI bQ au ⟨_,mh⟩ (fun e s' hx=>?_) ?_)
 ·obtain⟨i,σ',V,ey⟩:=hx;exact⟨i,σ',by rw[V];rfl,ey⟩
 ·rintro acc C r s' ⟨rfl,v,σ',α',m,e,aO,aF,vr,mm,ns,ha,hC,hbC,hCf⟩
  ·refine⟨m,ns,fun h' eU=>?_⟩
   obtain⟨A1,s3⟩:=aF.but ha hbC (fun b o hb e=>(eU.2 b hb).trans e) (fun o e=>by
    refine lM (id ns) fun aP es d9 aE d J=>?_;rw[e]at aE;obtain rfl:=oi aE
    exact gL.notSolid ⟨_,_,d⟩) fun q=>absurd q hCf
   exact⟨v,σ',α',e,aO.sameBut hC (fun b hb=>eU.2 b hb),A1,vr.ext s3,mm.trans ⟨rfl,rfl⟩⟩
end
noncomputable def i7:Expr->Bool
 | .Set ..=>false
 | .Starred ..=>false
 | _=>true
theorem JW(h:i7 e=true):behindInMarks gu e=false:=by
 cases e <;> first | rfl | contradiction
theorem AV(h:i7 e=true)(x:Value):foldedSetIterable e env x=pure x:=by
 cases e <;> first | rfl | contradiction
theorem ii{rest:List Expr}(h:i7 e=true):starEach (e::rest) env=(false,eval e env)::starEach rest env:=by
 cases e <;> first | rfl | contradiction
inductive B5(h:Heap)(c:Nat)(up:List Nat):Prop
 | mk (nm q:Str) (N:Addr) (bs:List Value) (hdct:Bool) (sn:List Str) (sub:List Value) (ab:Bool) (col:Option Bool) (dd:Option Addr) (k0 k1 k2 k3 k5:Option Value)
   (ho:h.get? c=some (excClassObj nm q c N bs (up.map Value.ref++[.type "ValueError",.type "Exception",.type "BaseException",.type "object"]) hdct sn sub ab col dd k0 k1 k2 k3 k5 "ValueError.__new__"))
   (mN:Str->Option Value) (au:h.Ns N mN) (hi:mN "__init__" = none):B5 h c up
structure pr(K:a2)(x:Str)(c:Nat)(up:List Nat):Prop where
 mg:K.mg x=some (.ref c)
 ob:B5 K.hb.h c up
 tail:OwnTail K.hb.h [.type "ValueError",.type "Exception",.type "BaseException",.type "object"] (up.map Value.ref++[.type "ValueError",.type "Exception",.type "BaseException",.type "object"])
open PySem.W in
structure j5(K:a2)(F:Frag)(b:Str)(c:Addr):Prop where
 mg:K.mg b=some (.ref c)
 inn:F.In K.hb.h
 keep:keepIn F (.ref c)=true
 makes:makesIn F c=true
 plain:plainOver F c=true
 hasd:(clsIn F c).any (·.hasDict)=true
 seta:findIn F (.ref c) "__setattr__" = some (some (.builtin "object.__setattr__"))
 free:∀n∈kU,takerIn F c n=some none
 geta:findIn F (.ref c) "__getattribute__" = some (some (.builtin "object.__getattribute__"))
 getr:findIn F (.ref c) "__getattr__" = some none
 none:∀n∈kU,findIn F (.ref c) n=some none
noncomputable def wH(K:a2)(A:Around):Prop:=∃(a:Addr) (o:Obj) (vs:Array Value),A.handled=some (.ref a)/\K.hb.get? a=some o/\o.data=.fields vs/\vs[2]?=some .none
structure cf(K:a2)(A:Around)(T:bk)(C:bn):Prop where
 hK:K.Ok
 hA:ec A
 hd:C.hd=false->A.handled=none
 ph:K.ph=C.hd
 rz:C.rz=true->C.hd=true->wH K A
 fr:ft K A
 exc:∃F:PySem.W.Frag,F.In K.hb.h/\∀p∈T.excs,pr K p.1 p.2.1 p.2.2/\ow F T p.2.1=true
 cst:∀x v,T.cst.lookup x=some v->∃u,K.mg x=some u/\∀h σ α,ao K.hb h σ α->ai h α v u
 fn:∀f x,T.fns[f]?=some x->∃a o fd,K.mg x=some (.ref a)/\K.hb.get? a=some o/\o.data=.func fd/\∀vs us s σ α,ao K.hb s.heap σ α->bh s.heap α vs us->av K ai A (call (.ref a) us) (C.call f vs σ) s α
 bin:∀x,x∈T.bins->K.mg x=none/\∃v,kW x=some v/\K.mb x=some v
 brd:∀b c,T.brd=some (b,c)->∃F,j5 K F b c/\(∀j,T.meths[j]?=some ("__init__" : Str)->∀vs us s σ α,ao K.hb s.heap σ α->bh s.heap α vs us->av K ai A (call (.ref c) us) (l7 C c (T.fns.length+j) vs σ) s α)
  /\ ∀j n,T.meths[j]?=some n->∃a o fd,PySem.W.findIn F (.ref c) n=some (some (.ref a))/\PySem.W.typeIn F (.ref a)=some (.type "function")/\K.hb.get? a=some o/\o.data=.func fd/\∀vs us s σ α,ao K.hb s.heap σ α->bh s.heap α vs us->av K ai A (call (.ref a) us) (C.call (T.fns.length+j) vs σ) s α
noncomputable def jD(K:a2)(A:Around)(C:bn)(N:List (Str×NameKind))(e:Expr)(x:X):Prop:=
 ∀env ρ σ s α,env.scope.names=N->cD K.hb env->aZ env ρ s.heap α->ao K.hb s.heap σ α ->
  av K ai A (eval e env) (ev C x ρ σ) s α/\av K gU A (isTrue e env (eval e env)) (tst C x ρ σ) s α
noncomputable def b0(K:a2)(A:Around)(C:bn)(f:List (Str×NameKind)->Expr->Option X):Prop:=
 ∀N e x,f N e=some x->i7 e=true/\jD K A C N e x
section
variable {β γ lz qS:Type}{dG:Heap->ax->β->γ->Prop}{tj:Heap->ax->lz->qS->Prop}
theorem av.operate{t:Sem Value}{dG:Heap->ax->β->Value->Prop}{c:ah β}(aC:av K dG A t c s α):av K dG A (operate vs t) c s α:=
 fun h=>wpAny_operating (aC h)
theorem Om{t:Sem Value}{c:ah H}{p:Pos}(aC:av K ai A t c s α):av K gU A (do let v <- t;standAt p;holding [v] (truthy v)) (c.bind iI) s α:=
 av.bind aC fun b σ' α' y s' J x r v m=>av.standAt (av.holding (wi r v))
theorem ep.vr{b:Bool}(v:ep h α b y):ai h α (.bool b) y:=by
 have:y=.bool b:=v;subst this;exact .bool b
end
theorem C4{c:Const}{v:H}{k:Nat}{p:Pos}(h:we c=some v)(r:ao K.hb s.heap σ α):av K ai A (eval (.Constant c k p) env) (.ok v σ) s α:=by
 intro _
 cases c with
 | none=>obtain rfl:=oi h;exact wpAny_Constant_none (cp.here (tk:=s.toks) r .none)
 | bool b=>obtain rfl:=oi h;exact wpAny_Constant_bool (cp.here (tk:=s.toks) r (.bool b))
 | int i=>obtain rfl:=oi h;exact wpAny_Constant_int (cp.here r (.int i _))
 | str x =>
  change cc _ _=_ at h
  exact cN h fun hx h=>by obtain rfl:=oi h;exact wpAny_Constant_str (cp.here r (.str x _ hx))
 | _=>contradiction
theorem fg{y:X}(he:∀env s2,isTrue e env s2=(do let v <- s2;standAt e.pos;holding [v] (truthy v)))(a3:∀ρ σ,tst C y ρ σ=(ev C y ρ σ).bind iI)
  (aC:∀{env ρ σ s α},env.scope.names=N->cD K.hb env->aZ env ρ s.heap α->ao K.hb s.heap σ α->av K ai A (eval e env) (ev C y ρ σ) s α):jD K A C N e y:=fun env ρ σ s α au hn E r =>
 ⟨aC au hn E r,by rw[he,a3];exact Om (aC au hn E r)⟩
theorem Ix{q:Str×NameKind}(hi:N.findIdx? (·.1 == x)=some i)(hq:N[i]?=some q):q.1=x:=by
 refine ay (List.findIdx?_eq_some_iff_getElem.mp hi) fun L O J=>?_;obtain rfl:=oi ((dI L).symm.trans hq);exact eq_of_beq O
theorem WA{y:X}{p:Pos}(c:cf K A T C)(h:By T N x=some y):jD K A C N (.Name x p) y:=by
 unfold By at h;refine ct h fun i hi h=>ct h fun q hq h=>?_;have hx:=Ix hi hq;obtain⟨z,k⟩:=q;dsimp only at hx;subst hx
 cases k with
 | «local»=>obtain rfl:=oi h;exact fg (fun J J=>rfl) (fun J J=>rfl) fun au J E r=>Js r E (by rw[au];exact hq)
 | cell=>obtain rfl:=oi h;exact fg (fun J J=>rfl) (fun J J=>rfl) fun au J E r=>Js r E (by rw[au];exact hq)
 | globalImplicit =>
  change(T.cst.lookup z).map X.k=_ at h;refine fD h fun v hv=>?_;refine ay (c.cst z v hv) fun u L O=>?_;exact fg (fun J J=>rfl) (fun J J=>rfl) fun{env ρ σ s α} au _ E r _=>qp c.hK r E.ok (au.symm▸hq) L ⟨v,σ,α,rfl,.refl,r,O _ _ _ r,.refl s⟩
 | _=>contradiction
theorem nH{g:Expr->Option X}{es:List Expr}{xs:X}(h:fk g (e::es)=some xs):∃a b,g e=some a/\fk g es=some b/\xs=.cons a b:=by
 change bI _ _ _=_ at h;exact fM (M:=fun xs=>∃a b,g e=some a/\fk g es=some b/\xs=.cons a b) h fun a b L O=>⟨a,b,L,O,rfl⟩
theorem ov{es:List Expr}{xs:X}(S:b0 K A C f)(h:fk (f N) es=some xs)(au:env.scope.names=N)(hn:cD K.hb env) :
  ∀{σ s α},aZ env ρ s.heap α->ao K.hb s.heap σ α->av K bh A (spliced (backTo pos (starEach es env))) (evs C xs ρ σ) s α:=by
 induction es generalizing xs with
 | nil =>
  obtain rfl:=oi h;intro σ s α E r;simp only[km,k4];exact fun J=>wpAny_items_nil ⟨[],σ,α,rfl,.refl,r,.nil,.refl s⟩
 | cons e es aj =>
  obtain⟨a,b,ha,hb,rfl⟩:=nH h
  ·skip
   intro σ s α E r;obtain⟨hp,aC⟩:=S N e a ha;have aC:=(aC env ρ σ s α au hn E r).1;simp only[km,k4];intro hc;refine wpAny_items_cons ?_ (ii hp)
   have L:ev C a ρ σ≠.stuck:=by intro q;rw[q]at hc;exact hc rfl
   refine cr (aC L) (fun v s₁ hp=>?_) fun e s₁ hx=>?_
   ·obtain⟨pv,ac,bb,V,aU,aV,aX,a0⟩:=hp;rw[V]at hc ⊢
    have O:evs C b ρ ac≠.stuck:=by intro q;simp[ah.bind,q]at hc
    refine cr (aj hb (E.ext aU .nil) aV O) (fun vs ba hp=>?_) fun e ba hx=>?_
    ·obtain⟨Ug,ar,α₂,ak,bq,r2,bz,cx⟩:=hp;refine⟨pv::Ug,ar,α₂,by simp[ah.bind,ak],aU.trans bq,r2,.cons (aX.ext bq) bz,a0.trans cx⟩
    ·obtain⟨i,ar,ak,eb,ey⟩:=hx;exact⟨i,ar,by simp[ah.bind,ak],eb,ey.lift aU a0⟩
   ·obtain⟨i,ac,V,eb,ey⟩:=hx;exact⟨i,ac,by rw[V];rfl,eb,ey⟩
theorem LH{es:List Expr}{xs:X}(S:b0 K A C f)(h:fk (f N) es=some xs)(au:env.scope.names=N)(hn:cD K.hb env) :
  ∀{σ s α},aZ env ρ s.heap α->ao K.hb s.heap σ α->av K ai A (boolOp pos .And (evalEach es env)) (evAnd C xs ρ σ) s α/\av K gU A (allTrue .And es env) (tstAnd C xs ρ σ) s α:=by
 induction es generalizing xs with
 | nil =>
  obtain rfl:=oi h;intro σ s α E r;refine⟨fun hc=>absurd (by simp only[xA,xB,ru]) hc,?_⟩;simp only[KJ,qK];exact fun J=>wpAny_allTrue_And_nil ⟨true,σ,α,rfl,.refl,r,rfl,.refl s⟩
 | cons e es aj =>
  obtain⟨a,b,ha,hb,rfl⟩:=nH h
  ·skip
   intro σ s α E r;obtain⟨hp,aC⟩:=S N e a ha;have aC:=aC env ρ σ s α au hn E r;constructor
   ·cases es with
    | nil =>
     obtain rfl:=oi hb;simp only[xA,xB,ru];exact aC.1
    | cons ak Np =>
     have zA:∃b1 c8,b=.cons b1 c8:=by
      obtain⟨b1,c8,_,_,rfl⟩:=nH hb;exact⟨_,_,rfl⟩
     obtain⟨b1,c8,rfl⟩:=zA;simp only[xA,xB,ru];refine av.bind aC.1 fun v ac bb y s₁ V aU aV aX a0=>av.standAt ?_;refine av.bind (av.holding (wi aV aX)) fun t ar α₂ hZ ba ak bq r2 bz cx=>?_;have:hZ=t:=bz;subst this
     cases hZ with
     | false=>simp only[Bool.false_eq_true,if_false];exact av.pure r2 (aX.ext bq)
     | true=>simp only[if_true];exact(aj hb ((E.ext aU .nil).ext bq .nil) r2).1
   ·simp only[KJ,qK];refine av.bind aC.2 fun t ac bb y s₁ V aU aV aX a0=>?_;have:y=t:=aX;subst this
    cases y with
    | false=>simp only[Bool.false_eq_true,if_false];exact av.pure aV rfl
    | true=>simp only[if_true];exact(aj hb (E.ext aU .nil) aV).2
theorem TA{es:List Expr}{xs:X}(S:b0 K A C f)(h:fk (f N) es=some xs)(au:env.scope.names=N)(hn:cD K.hb env) :
  ∀{σ s α},aZ env ρ s.heap α->ao K.hb s.heap σ α->av K ai A (boolOp pos .Or (evalEach es env)) (evOr C xs ρ σ) s α/\av K gU A (allTrue .Or es env) (tstOr C xs ρ σ) s α:=by
 induction es generalizing xs with
 | nil =>
  obtain rfl:=oi h;intro σ s α E r;refine⟨fun hc=>absurd (by simp only[xD,xE,tS]) hc,?_⟩;simp only[KL,qL];exact fun J=>wpAny_allTrue_Or_nil ⟨false,σ,α,rfl,.refl,r,rfl,.refl s⟩
 | cons e es aj =>
  obtain⟨a,b,ha,hb,rfl⟩:=nH h
  ·skip
   intro σ s α E r;obtain⟨hp,aC⟩:=S N e a ha;have aC:=aC env ρ σ s α au hn E r;constructor
   ·cases es with
    | nil =>
     obtain rfl:=oi hb;simp only[xD,xE,tS];exact aC.1
    | cons ak Np =>
     have zA:∃b1 c8,b=.cons b1 c8:=by
      obtain⟨b1,c8,_,_,rfl⟩:=nH hb;exact⟨_,_,rfl⟩
     obtain⟨b1,c8,rfl⟩:=zA;simp only[xD,xE,tS];refine av.bind aC.1 fun v ac bb y s₁ V aU aV aX a0=>av.standAt ?_;refine av.bind (av.holding (wi aV aX)) fun t ar α₂ hZ ba ak bq r2 bz cx=>?_;have:hZ=t:=bz;subst this
     cases hZ with
     | true=>simp only[if_true];exact av.pure r2 (aX.ext bq)
     | false=>simp only[Bool.false_eq_true,if_false];exact(aj hb ((E.ext aU .nil).ext bq .nil) r2).1
   ·simp only[KL,qL];refine av.bind aC.2 fun t ac bb y s₁ V aU aV aX a0=>?_;have:y=t:=aX;subst this
    cases y with
    | true=>simp only[if_true];exact av.pure aV rfl
    | false=>simp only[Bool.false_eq_true,if_false];exact(aj hb (E.ext aU .nil) aV).2
set_option maxRecDepth 100000
section
open PySem.W
section
variable {prog:Program}{w:World}{g:Array GenState}{d:Drawn}{t:Nat}{os:OsState}{c:Addr}{b8:Frag}
theorem XB{ao:Result->Shared->Prop}(X:b8.In h)(hx:h.get? a=some o)(hc:o.cls=.ref c)(ho:subIn b8 (.ref c) (.type "object")=some true)(hq:ao (.ok (.ret (.ref c))) ⟨h,g,d,t,os⟩) :
  codeAny (model prog w) A (.call (.builtin "getset_descriptor.__get__") ⟨[.builtin "object.__class__",.ref a,.ref c],[]⟩) ao ⟨h,g,d,t,os⟩:=by
 have Hz:(⟨h,g,d,t,os⟩:Shared).TypeIs (.builtin "object.__class__") "getset_descriptor" := F.typeOf_object_class
 have rZ:subIn b8 (.ref c) (.type (".".intercalate ("object.__class__".cutAt '.').dropLast))=some true:=by exact F.owner_object_class.symm▸ho
 have aB:=looks_subIn (M:=model prog w) X rZ;refine codeAny_call_builtin F.slot_gs_get.plain F.entry_gs_get (F.slot_gs_get.check _ _ _ _ _ _ _ _ Hz (F.args_gs_get _ _ _) ?_)
 repeat (any_goals (first | assumption | (with_reducible refine wpAny_loadPart_at hx ?_;rw[hc]) | with_reducible refine aB.at ?_ | wp_step))
 refine⟨Code.quiet_builtin _ (by decide +kernel),codeAny_builtin F.entry_object_class ?_⟩
 repeat (any_goals (first | assumption | (with_reducible refine wpAny_loadPart_at hx ?_;rw[hc]) | wp_step))
theorem XA{tk:Tok}{Q:Fin->Shared->Prop}(X:b8.In h)(hx:h.get? a=some o)(hc:o.cls=.ref c)(ho:subIn b8 (.ref c) (.type "object")=some true)(hl:findIn b8 (.ref c) "__class__" = some (some (.builtin "object.__class__")))
  (hq:Q (.done (.ret (.ref c))) ⟨h,g,d,t,os⟩):wpAny (model prog w) A (Builtin.«object.__getattribute__» ⟨[.ref a,.str "__class__" tk],[]⟩) Q E ⟨h,g,d,t,os⟩:=by
 have Hz:(⟨h,g,d,t,os⟩:Shared).TypeIs (.builtin "object.__class__") "getset_descriptor" := F.typeOf_object_class;have oy:=F.typeOf_object_class;have DA:=F.slot_gs_get.lookup;have Yk:=F.slot_gs_set.lookup;have aB:=looks_findIn (M:=model prog w) X hl
 repeat (any_goals (first | assumption | (with_reducible refine wpAny_loadPart_at hx ?_;rw[hc]) | with_reducible refine aB.at ?_ | wp_step))
 refine XB X hx hc ho ?_
 repeat (any_goals (first | assumption | wp_step))
theorem Xx{M:Model}{Jr:Value}{Q:Unit->Shared->Prop}(X:b8.In h)(hx:h.get? a=some o)(hc:o.cls=.ref c)(hb:subIn b8 (.ref c) (.type "BaseException")=some true)(hq:Q () ⟨h,g,d,t,os⟩) :
  wpAny M A (checkBuiltinCall "BaseException.__getattribute__" ⟨[.ref a,Jr],[]⟩) Q E ⟨h,g,d,t,os⟩:=by
 have hk:builtinKind "BaseException.__getattribute__" = some .slot:=by decide +kernel
 have Qk:splitId "BaseException.__getattribute__" = some ("BaseException", "__getattribute__"):=by decide +kernel
 have aB:=looks_subIn (M:=M) X hb;have ha:=F.args_bexc_ga (.ref a) Jr;simp only[checkBuiltinCall,hk,Qk];refine aM ?_
 ·unfold isInstance
  repeat (first | (with_reducible refine wpAny_loadPart_at hx ?_;rw[hc]) | with_reducible refine aB.at ?_ | wp_step)
  exact hq
theorem Xz{tk:Tok}(X:b8.In h)(hx:h.get? a=some o)(hc:o.cls=.ref c)(hb:subIn b8 (.ref c) (.type "BaseException")=some true)(ho:subIn b8 (.ref c) (.type "object")=some true)
  (hl:findIn b8 (.ref c) "__class__" = some (some (.builtin "object.__class__"))) (zK:findIn b8 (.ref c) "__getattribute__" = some (some (.builtin "BaseException.__getattribute__"))) (oJ:findIn b8 (.ref c) "__getattr__" = some none)
  (hq:Q (.ref c) ⟨h,g,d,t,os⟩):wpAny (model prog w) A (getAttrBy (.ref a) (.str "__class__" tk) false) Q E ⟨h,g,d,t,os⟩:=by
 have rv:=F.attr_ValueError.ga.bind (.ref a)
 have Qw:(Value.builtin "BaseException.__getattribute__" == Value.builtin "object.__getattribute__")=false:=by decide +kernel
 have p2:(onTheHeap (Value.ref c)&&Value.builtin "BaseException.__getattribute__" == Value.builtin "object.__getattribute__")=false:=by rw[Qw];rfl
 have qX:=looks_findIn (M:=model prog w) X zK;have mB:=looks_findIn (M:=model prog w) X oJ
 repeat (any_goals (first | assumption | (with_reducible refine wpAny_loadPart_at hx ?_;rw[hc]) | with_reducible refine qX.at ?_ | with_reducible refine mB.at ?_ | wp_step))
 refine codeAny_call_builtin F.attr_ValueError.ga.plain F.entry_bexc_ga (Xx X hx hc hb (XA X hx hc ho hl ?_))
 repeat (any_goals (first | assumption | wp_step))
theorem Xy{Q:Option Value->Shared->Prop}(X:b8.In h)(hx:h.get? a=some o)(hc:o.cls=.ref c)(hb:subIn b8 (.ref c) (.type "BaseException")=some true)(ho:subIn b8 (.ref c) (.type "object")=some true)
  (hl:findIn b8 (.ref c) "__class__" = some (some (.builtin "object.__class__"))) (zK:findIn b8 (.ref c) "__getattribute__" = some (some (.builtin "BaseException.__getattribute__"))) (oJ:findIn b8 (.ref c) "__getattr__" = some none)
  (hq:Q (some (.ref c)) ⟨h,g,d,t+1,os⟩):wpAny (model prog w) A (getAttr? (.ref a) "__class__") Q E ⟨h,g,d,t,os⟩:=by
 unfold getAttr? getAttrBy?
 repeat (any_goals (first | assumption | with_reducible apply Xz X hx hc hb ho hl zK oJ | wp_step))
end
theorem tV{b8:Frag}(e:ow b8 T c=true):findIn b8 (.ref c) "__getattribute__" = some (some (.builtin "BaseException.__getattribute__"))/\findIn b8 (.ref c) "__getattr__" = some none/\findIn b8 (.ref c) "__class__" = some (some (.builtin "object.__class__")) ∧
  subIn b8 (.ref c) (.type "BaseException")=some true/\subIn b8 (.ref c) (.type "object")=some true/\(clsIn b8 c).isSome=true/\(∀q∈T.excs,kitOne b8 (.ref c) (.ref q.2.1)=some ((kE T q.2.1).contains c))/\kitOne b8 (.ref c) (.type "ValueError")=some true:=by
 unfold ow at e;simp only[eB,ff,fI]at e;obtain⟨⟨⟨⟨⟨⟨⟨L,O⟩,aw⟩,aQ⟩,c5⟩,gh⟩,rH⟩,rI⟩:=e;exact⟨L,O,aw,aQ,c5,gh,fun q hq=>by have:=rH q hq;exact this,rI⟩
set_option tactic.hygienic true in
theorem Rs{b8:Frag}{c:Addr}(e:ow b8 T c=true):KitX b8 (.ref a) (.ref c) (fun h=>∃o,h.get? a=some o/\o.cls=.ref c) where
 ty:=fun M h J p=>by
  refine ay p fun o L O=>?_;exact O▸(Looks.ld L).andThen .now
 it:=fun J J X J=>by
  have hc:=(tV e).2.2.2.2.2.1;unfold clsIn at hc
  split at hc
  ·rename_i b3 e2 MA pb ho;intro B0 nX cR s' k q;unfold isType loadHead;exact aM (wpAny_loadPart (k _ _ (X _ _ ho)) (bJ q))
  ·contradiction
 ne:=fun h tp dd YE n cu X Qn=>by
  have hc:=(tV e).2.2.2.2.2.1;refine Bool.eq_false_iff.mpr fun q=>?_;have e:c=tp:=Value.ref.inj (ff.mp q);subst e;unfold clsIn at hc
  split at hc
  ·rename_i b3 e2 MA pb ho;have z:=(X _ _ ho).symm.trans Qn;cases z
  ·contradiction
 ca:=fun{_ _ _ _ _ s} X p k=>by
  refine ay p fun o L O=>?_;refine tR (tV e) fun q1 q2 q3 q4 q5 J=>?_;obtain⟨h,g,d,t,os⟩:=s;exact Xy X L O q4 q5 q3 q1 q2 k
set_option tactic.hygienic true in
theorem QU{a:H}{x cv:Value}(gJ:cf K A T C)(zE:(∃q∈T.excs,cv=.ref q.2.1/\eo=kE T q.2.1)\/(cv=.type "ValueError" /\ eo=T.excs.map (·.2.1)))
  (r:ao K.hb s.heap σ α) (va:ai s.heap α a x):av K ep A (call (.builtin "isinstance") [x,cv]) (vu a eo (T.excs.map (·.2.1)) σ) s α:=by
 intro hc
 cases a with
 | exc c =>
  have bK:vu (.exc c) eo (T.excs.map (·.2.1)) σ=if(T.excs.map (·.2.1)).contains c then .ok (eo.contains c) σ else .stuck:=rfl
  rw[bK]at hc ⊢
  split at hc
  ·rename_i hd;rw[aD hd]
   cases va with
   | exc e jp _ _ =>
    refine ay (ci.mp (mM.mp hd)) fun p hp P4=>?_;refine ay gJ.exc fun b8 X aC=>?_;have he:=(aC p hp).2;rw[P4]at he;refine Nb (tV he) fun J J J J J J q7 q8=>?_
    have hk:kitOne b8 (.ref c) cv=some (eo.contains c):=by
     rcases zE with⟨q,hq,rfl,rfl⟩ | ⟨rfl,rfl⟩
     ·exact q7 q hq
     ·exact hd.symm▸q8
    exact kia_one (Rs he) (X.keeps r.base) ⟨_,e,jp⟩ hk (by(intro q;exact nomatch q)) fun tk=>⟨_,σ,α,rfl,.refl,r,rfl,⟨rfl,rfl⟩⟩
  ·exact absurd rfl hc
 | _=>exact absurd rfl hc
end
section
variable {β γ lz qS:Type}{dG:Heap->ax->β->γ->Prop}{tj:Heap->ax->lz->qS->Prop}
theorem CO{a:β}{f:β->aa->ah lz}:(ah.ok a σ).bind f=f a σ:=rfl
theorem cp.lift{c:ah β}{y:γ}(x:a4 [] α s.heap bb s₁.heap)(m:cq s s₁)(p:cp K dG c s₁ bb y s'):cp K dG c s α y s':=by
 obtain⟨b,σ',α',e,aO,r,v,bw⟩:=p;exact⟨b,σ',α',e,x.trans aO,r,v,m.trans bw⟩
theorem da.bind{c:ah β}{f:β->aa->ah lz}(p:da K A c s α y s'):da K A (c.bind f) s α y s':=by
 obtain⟨i,σ',e,ey⟩:=p;exact⟨i,σ',by rw[e];rfl,ey⟩
theorem av.useL{t:Sem γ}{c:ah β}{f:β->aa->ah lz}{W:γ->Shared->Prop}(wv:a4 [] jc s₀.heap α s.heap)(vJ:cq s₀ s)(aC:av K dG A t c s α)(hc:c.bind f≠.stuck)
  (N:∀b σ' α' y s',c=.ok b σ'->f b σ'≠.stuck->a4 [] α s.heap α' s'.heap->ao K.hb s'.heap σ' α'->dG s'.heap α' b y->cq s s'->W y s'):wpAny (model K.prog K.w) A t W (da K A (c.bind f) s₀ jc) s:=by
 have L:c≠.stuck:=by rintro rfl;exact hc rfl
 refine cr (aC L) (fun y s' hp=>?_) fun e s' hx=>(hx.lift wv vJ).bind;obtain⟨b,σ',α',rfl,x,r,v,m⟩:=hp;exact N b σ' α' y s' rfl hc x r v m
theorem av.endL{t:Sem γ}{c:ah β}(wv:a4 [] jc s₀.heap α s.heap)(vJ:cq s₀ s)(aC:av K dG A t c s α)(hc:c≠.stuck):wpAny (model K.prog K.w) A t (cp K dG c s₀ jc) (da K A c s₀ jc) s:=
 cr (aC hc) (fun J J h=>h.lift wv vJ) fun J J h=>h.lift wv vJ
theorem av.use{t:Sem γ}{c:ah β}{f:β->aa->ah lz}{W:γ->Shared->Prop}(aC:av K dG A t c s α)(hc:c.bind f≠.stuck)
  (N:∀b σ' α' y s',c=.ok b σ'->f b σ'≠.stuck->a4 [] α s.heap α' s'.heap->ao K.hb s'.heap σ' α'->dG s'.heap α' b y->cq s s'->W y s'):wpAny (model K.prog K.w) A t W (da K A (c.bind f) s α) s:=aC.useL .refl (.refl s) hc N
theorem av.boolV{t:Sem Value}{c:ah Bool}(aC:av K ep A t c s α):av K ai A t (c.bind fun b σ=>.ok (.bool b) σ) s α:=by
 intro hc
 have L:c≠.stuck:=by rintro rfl;exact hc rfl
 refine cr (aC L) (fun y s' hp=>?_) fun e s' hx=>hx.bind;obtain⟨b,σ',α',rfl,x,r,v,m⟩:=hp;exact⟨_,_,_,rfl,x,r,v.vr,m⟩
end
theorem p7(h:fC N g=true):∃i:Nat,N[i]?=some (g,NameKind.globalImplicit):=by
 unfold fC at h;obtain⟨i,_,hi⟩:=Ae (by simpa using h);exact⟨i,hi⟩
theorem kh{mP:Value}{p:Pos}{X:Value->Shared->Prop}(c:cf K A T C)(hg:fC N g=true)(hN:g∈T.bins)(hv:kW g=some mP)(au:env.scope.names=N)(E:s9 env)(r:ao K.hb s.heap σ α)(h:Q mP s):wpAny (model K.prog K.w) A (eval (.Name g p) env) Q X s:=by
 obtain⟨hm,v,z0,PT⟩:=c.bin _ hN;refine aL (p7 hg) fun j a5=>?_;obtain rfl:=oi (hv.symm.trans z0);exact SS c.hK r E (au▸a5) hm PT h
theorem Mn{p:Pos}{xs:X}(c:cf K A T C)(S:b0 K A C f)(hi:T.fns[i]?=some g)(hg:fC N g=true)(dn:args≠[])(h:fk (f N) args=some xs)
  (au:env.scope.names=N) (hn:cD K.hb env) (E:aZ env ρ s.heap α) (r:ao K.hb s.heap σ α) :
  av K ai A (eval (.Call (.Name g p) args [] pos) env) ((evs C xs ρ σ).bind fun vs σ=>C.call i vs σ) s α:=by
 intro hc;refine op (c.fn i g hi) fun a o fd hm ho hd iX=>?_;refine aL (p7 hg) fun j a5=>?_;refine kd (qp c.hK r E.ok (au.symm▸a5) hm ?_)
 cases args with
 | nil=>exact absurd rfl dn
 | cons e es =>
  have aC:=ov (pos:=pos) S h au hn E r;refine jn (nH h) fun ed cX jQ gj J=>?_;rw[ii (S N e ed jQ).1]at aC ⊢;refine Calls.callWith_function (o:=o) (fd:=fd) (Calls.evalArgs_plain (av.use aC hc fun vs σ' α' us s' V cg aO aF c6 bw=>?_));refine⟨⟨aF.base _ _ ho,hd⟩,?_⟩;exact V.symm▸((iX vs us s' σ' α' aF c6).endL aO bw cg)
theorem L6{b:eL}(h:tA a9 g=some b):kW g=some (n6 b):=
 (show ∀p∈w8 a9,kW p.1=some (n6 p.2)from(by repeat (first | refine List.forall_mem_cons.mpr ⟨rfl,?_⟩ | exact fun J h=>nomatch h))) _ (na h)
theorem L7{t:jK}(h:BK g=some t):kW g=BL t:=
 (show ∀p∈KQ,kW p.1=BL p.2 from(by repeat (first | refine List.forall_mem_cons.mpr ⟨rfl,?_⟩ | exact fun J h=>nomatch h))) _ (na h)
noncomputable def IH(b:eL):Bool:=
 match n6 b with
 | .none=>true
 | _=>false
theorem w7{b:eL}(h:tA a9 g=some b):n6 b≠.none:=by
 have h:=(show ∀p∈w8 a9,IH p.2=false from(by repeat (first | refine List.forall_mem_cons.mpr ⟨rfl,?_⟩ | exact fun J h=>nomatch h))) _ (na h);intro e;unfold IH at h;rw[e]at h;contradiction
theorem CH{hd:Bool}{b:eL}{a:H}(h:iP hd b a σ≠.stuck):(u0 b=true->hd=false)/\iP hd b a σ=dk b a σ:=by
 unfold iP at h ⊢
 cases hd with
 | false=>exact⟨fun J=>rfl,rfl⟩
 | true =>
  cases hb:u0 b with
  | false=>exact⟨fun q=>(by contradiction),rfl⟩
  | true=>rw[hb]at h;exact absurd rfl h
theorem L1{a:Expr}{p:Pos}{b:eL}{x:X}(c:cf K A T C)(S:b0 K A C f)(hb:tA a9 g=some b)(hg:fC N g=true)(hN:g∈T.bins)(h:f N a=some x)
  (au:env.scope.names=N) (hn:cD K.hb env) (E:aZ env ρ s.heap α) (r:ao K.hb s.heap σ α) :
  av K ai A (eval (.Call (.Name g p) [a] [] pos) env) ((ev C x ρ σ).bind fun v σ=>iP C.hd b v σ) s α:=by
 intro hc;refine aS (S N a x h) fun hp aC=>?_;have aC:=(aC env ρ σ s α au hn E r).1;refine kd (kh c hg hN (L6 hb) au E.ok r ?_);rw[ii hp]
 have fin:wpAny (model K.prog K.w) A (eval a env) (fun y s'=>wpAny (model K.prog K.w) A (call (n6 b) [y]) (cp K ai ((ev C x ρ σ).bind fun v σ=>iP C.hd b v σ) s α) (da K A ((ev C x ρ σ).bind fun v σ=>iP C.hd b v σ) s α) s') (da K A ((ev C x ρ σ).bind fun v σ=>iP C.hd b v σ) s α) s:=by
  refine av.use aC hc fun v σ' α' y s' V cg aO aF c6 bw=>?_;rw[V];refine aS (CH cg) fun dE dY=>?_;show wpAny _ _ _ (cp K ai (iP C.hd b v σ') s α) (da K A (iP C.hd b v σ') s α) _;rw[dY]at cg ⊢;exact(L3 (w7 hb) c.hA (fun q=>c.hd (dE q)) aF c6).endL aO bw cg
 cases b with
 | lenset=>exact absurd rfl (w7 hb)
 | dict=>exact absurd rfl (w7 hb)
 | len=>exact PySem.callWith_builtin1 fin
 | sum=>exact PySem.callWith_builtin1 fin
 | min=>exact PySem.callWith_builtin1 fin
 | max=>exact PySem.callWith_builtin1 fin
 | sorted=>exact PySem.callWith_builtin1 fin
 | all=>exact PySem.callWith_builtin1 fin
 | list _=>exact PySem.callWith_type1 fin
 | tuple=>exact PySem.callWith_type1 fin
 | int=>exact PySem.callWith_type1 fin
 | str=>exact PySem.callWith_type1 fin
theorem Q2{t:Str}{ty:jK}{a:Expr}{p bS:Pos}{x:X}(c:cf K A T C)(S:b0 K A C f)(hb:BK t=some ty)(hg:fC N "isinstance" = true)(hN:("isinstance" : Str)∈T.bins)
  (oJ:fC N t=true) (uX:t∈T.bins) (h:f N a=some x)
  (au:env.scope.names=N) (hn:cD K.hb env) (E:aZ env ρ s.heap α) (r:ao K.hb s.heap σ α) :
  av K ai A (eval (.Call (.Name "isinstance" p) [a,.Name t bS] [] pos) env) ((ev C x ρ σ).bind fun v σ=>(ku v ty σ).bind fun b σ=>.ok (.bool b) σ) s α:=by
 intro hc;obtain⟨_,bz,H3,_⟩:=c.bin _ uX;have lY:=(L7 hb).symm.trans H3;refine aS (S N a x h) fun hp aC=>?_;have aC:=(aC env ρ σ s α au hn E r).1;refine kd (kh c hg hN rfl au E.ok r ?_);rw[ii hp];refine Calls.callWith_builtin rfl (Calls.evalArgs_plain (Calls.spliced_cons ?_));refine av.use aC hc fun v σ' α' y s' V cg aO aF c6 bw=>?_;exact V.symm▸(Calls.spliced_cons (kh c oJ uX H3 au E.ok aF (Calls.spliced_nil ((Q3 lY aF c6).boolV.endL aO bw cg))))
theorem xH(h:mU T N x=some c):fC N x=true/\∃q∈T.excs,q.1=x/\q.2.1=c:=by
 unfold mU at h;refine cN h fun hg h=>⟨hg,?_⟩;exact fD (M:=fun c=>∃q∈T.excs,q.1=x/\q.2.1=c) h fun q hq=>⟨(x,q),na hq,rfl,rfl⟩
theorem QT{t:Str}{a:Expr}{p bS:Pos}{x:X}(c:cf K A T C)(S:b0 K A C f)(lg:xI T N t=some eo)(hg:fC N "isinstance" = true)(hN:("isinstance" : Str)∈T.bins)
  (h:f N a=some x) (au:env.scope.names=N) (hn:cD K.hb env) (E:aZ env ρ s.heap α) (r:ao K.hb s.heap σ α) :
  av K ai A (eval (.Call (.Name "isinstance" p) [a,.Name t bS] [] pos) env) ((ev C x ρ σ).bind fun v σ=>(vu v eo (T.excs.map (·.2.1)) σ).bind fun b σ=>.ok (.bool b) σ) s α:=by
 intro hc
 have nm:∃cv,((∃q∈T.excs,cv=.ref q.2.1/\eo=kE T q.2.1)\/(cv=.type "ValueError" /\ eo=T.excs.map (·.2.1))) ∧
   ∀{s':Shared} {σ':aa} {α':ax} {Q X:Value->Shared->Prop},ao K.hb s'.heap σ' α'->Q cv s'->wpAny (model K.prog K.w) A (eval (.Name t bS) env) Q X s':=by
  unfold xI at lg;refine jX lg (fun b3 cg lg=>?_) fun J lg=>cN lg fun hb lg=>?_
  ·obtain rfl:=oi lg;obtain⟨hg',q,hq,rfl,rfl⟩:=xH cg;refine aL (p7 hg') fun YF PG=>?_;refine ay c.exc fun b8 X aC=>?_;exact⟨_,.inl ⟨q,hq,rfl,rfl⟩,fun aF k=>qp c.hK aF E.ok (au.symm▸PG) (aC q hq).1.mg k⟩
  ··obtain rfl:=oi lg;simp only[l1,eB,ff]at hb;obtain⟨rfl,hg',gj⟩:=hb;exact⟨_,.inr ⟨rfl,rfl⟩,fun aF k=>kh c hg' (by simpa using gj) rfl au E.ok aF k⟩
 refine ay nm fun cv zE nm=>?_;refine aS (S N a x h) fun hp aC=>?_;have aC:=(aC env ρ σ s α au hn E r).1;refine kd (kh c hg hN rfl au E.ok r ?_);rw[ii hp];refine Calls.callWith_builtin rfl (Calls.evalArgs_plain (Calls.spliced_cons ?_));refine av.use aC hc fun v σ' α' y s' V cg aO aF c6 bw=>?_;exact V.symm▸(Calls.spliced_cons (nm aF (Calls.spliced_nil ((QU c zE aF c6).boolV.endL aO bw cg))))
theorem L8{o:mD}{l:Expr}{gu:Operator}{a b:X}(c:cf K A T C)(S:b0 K A C f)(ho:KH gu=some o)(L:f N l=some a)(O:f N aF=some b)
  (au:env.scope.names=N) (hn:cD K.hb env) (E:aZ env ρ s.heap α) (r:ao K.hb s.heap σ α) :
  av K ai A (eval (.BinOp l gu aF pos) env) (ev C (.bin o a b) ρ σ) s α:=by
 have r0:gu=JM o:=by cases gu <;> cases ho <;> rfl
 subst r0;rw[arm_eval_BinOp];refine av.bind ((S N l a L).2 env ρ σ s α au hn E r).1 fun va ac bb y s₁ V aU aV aX a0=>?_;refine av.bind (av.holding ((S N aF b O).2 env ρ ac s₁ bb au hn (E.ext aU .nil) aV).1) fun vb ar α₂ hZ ba ak bq r2 bz cx=>?_;exact av.standAt (av.operate (Mc c.hA r2 (aX.ext bq) bz))
theorem MK{o:iq}{l:Expr}{a b:X}(c:cf K A T C)(S:b0 K A C f)(ho:qI gu=some o)(L:f N l=some a)(O:f N aF=some b)
  (au:env.scope.names=N) (hn:cD K.hb env) (E:aZ env ρ s.heap α) (r:ao K.hb s.heap σ α) :
  av K ai A (eval (.Compare l [gu] [aF] pos) env) (ev C (.cmp a o b) ρ σ) s α/\av K gU A (isTrue (.Compare l [gu] [aF] pos) env (eval (.Compare l [gu] [aF] pos) env)) (tst C (.cmp a o b) ρ σ) s α:=by
 have r0:gu=ia o:=by cases gu <;> cases ho <;> rfl
 subst r0;refine aS (S N aF b O) fun m3 d0=>?_
 have rW:markedBehindIn (ia o) aF (eval aF env)=eval aF env:=by unfold markedBehindIn;rw[JW m3]
 constructor
 ·rw[arm_eval_Compare];refine av.bind ((S N l a L).2 env ρ σ s α au hn E r).1 fun va ac bb y s₁ V aU aV aX a0=>?_;show av K ai A (do let f3 <- holding [y] (markedBehindIn (ia o) aF (eval aF env));standAt pos;operate [y,f3] (compareOp (ia o) y f3)) _ _ _;rw[rW];refine av.bind (av.holding (d0 env ρ ac s₁ bb au hn (E.ext aU .nil) aV).1) fun vb ar α₂ hZ ba ak bq r2 bz cx=>av.standAt (av.operate ?_);exact(pN c.hK c.hA r2 (aX.ext bq) bz).boolV
 ·rw[arm_isTrue_Compare];refine av.bind ((S N l a L).2 env ρ σ s α au hn E r).1 fun va ac bb y s₁ V aU aV aX a0=>?_;show av K gU A (do let f3 <- holding [y] (markedBehindIn (ia o) aF (eval aF env));standAt pos;let c <- operate [y,f3] (compareOp (ia o) y f3);holding [c] (truthy c)) _ _ _;rw[rW];refine av.bind (av.holding (d0 env ρ ac s₁ bb au hn (E.ext aU .nil) aV).1) fun vb ar α₂ hZ ba ak bq r2 bz cx=>av.standAt ?_;intro hc;refine aM (wpAny_operating (cr (pN c.hK c.hA r2 (aX.ext bq) bz hc) (fun y kD hp=>?_) fun e kD hx=>hx));obtain⟨h8,po,jA,bG,e7,hV,io,jt⟩:=hp;have:y=.bool h8:=io;subst this;exact hH (wpAny_truthy_bool ⟨h8,po,jA,bG,e7,hV,rfl,jt⟩)
theorem av.release{ks:List Value}{β γ:Type}{dG:Heap->ax->β->γ->Prop}{t:Sem γ}{c:ah β}
  (aC:av K dG A t c s α):av K dG A (do PySem.release vs ks;t) c s α:=
 fun h=>aM (wpAny_release' (aC h))
theorem MJ{o bI:iq}{l jY:Expr}{qs:CmpOp}{a b c8:X}(c:cf K A T C)(S:b0 K A C f)(ho:qI gu=some o)(kr:qI qs=some bI)(L:f N l=some a)(O:f N aF=some b)(aw:f N jY=some c8)
  (au:env.scope.names=N) (hn:cD K.hb env) (E:aZ env ρ s.heap α) (r:ao K.hb s.heap σ α) :
  av K ai A (eval (.Compare l [gu,qs] [aF,jY] pos) env) (ev C (.cmp2 a o b bI c8) ρ σ) s α/\av K gU A (isTrue (.Compare l [gu,qs] [aF,jY] pos) env (eval (.Compare l [gu,qs] [aF,jY] pos) env)) (tst C (.cmp2 a o b bI c8) ρ σ) s α:=by
 have r0:gu=ia o:=by cases gu <;> cases ho <;> rfl
 subst r0
 have P1:qs=ia bI:=by cases qs <;> cases kr <;> rfl
 subst P1;refine aS (S N aF b O) fun m3 d0=>?_;refine aS (S N jY c8 aw) fun P2 px=>?_
 have rW:markedBehindIn (ia bI) jY (eval jY env)=eval jY env:=by unfold markedBehindIn;rw[JW P2]
 constructor
 ·rw[arm_eval_Compare];refine av.bind ((S N l a L).2 env ρ σ s α au hn E r).1 fun va ac bb y s₁ V aU aV aX a0=>?_;show av K ai A (do let f3 <- holding [y] (eval aF env);standAt pos;let c <- holding [y,f3] (compareOp (ia o) y f3);release [y,f3] [c];if <- holding [c,f3] (truthy c)then(do let sJ <- holding [f3] (markedBehindIn (ia bI) jY (eval jY env));standAt pos;operate [f3,sJ] (compareOp (ia bI) f3 sJ))else pure c) _ _ _;rw[rW];refine av.bind (av.holding (d0 env ρ ac s₁ bb au hn (E.ext aU .nil) aV).1) fun vb ar α₂ hZ ba ak bq r2 bz cx=>av.standAt ?_;refine av.bind (av.holding (pN c.hK c.hA r2 (aX.ext bq) bz)) fun h8 e8 pn BW eK bG e7 hV io jt=>av.release ?_;have:BW=.bool h8:=io;subst this;intro hc;refine aM (hH (wpAny_truthy_bool ?_))
  cases h8 with
  | false=>exact bJ ⟨_,_,_,rfl,.refl,hV,.bool _,.refl _⟩
  | true =>
   refine(av.bind (av.holding (px env ρ e8 eK pn au hn (((E.ext aU .nil).ext bq .nil).ext e7 .nil) hV).1) fun wm qT wC XD nC kk kJ nq BQ nb=>av.standAt (av.operate ?_)) hc;exact(pN c.hK c.hA nq ((bz.ext e7).ext kJ) BQ).boolV
 ·rw[arm_isTrue_Compare];refine av.bind ((S N l a L).2 env ρ σ s α au hn E r).1 fun va ac bb y s₁ V aU aV aX a0=>?_;show av K gU A (do let f3 <- holding [y] (eval aF env);standAt pos;let c <- holding [y,f3] (compareOp (ia o) y f3);release [y,f3] [c];if <- holding [c,f3] (truthy c)then(do let sJ <- holding [f3] (markedBehindIn (ia bI) jY (eval jY env));standAt pos;let c <- operate [f3,sJ] (compareOp (ia bI) f3 sJ);holding [c] (truthy c))else pure false) _ _ _;rw[rW];refine av.bind (av.holding (d0 env ρ ac s₁ bb au hn (E.ext aU .nil) aV).1) fun vb ar α₂ hZ ba ak bq r2 bz cx=>av.standAt ?_;refine av.bind (av.holding (pN c.hK c.hA r2 (aX.ext bq) bz)) fun h8 e8 pn BW eK bG e7 hV io jt=>av.release ?_;have:BW=.bool h8:=io;subst this;intro hc;refine aM (hH (wpAny_truthy_bool ?_))
  cases h8 with
  | false=>exact bJ ⟨_,_,_,rfl,.refl,hV,rfl,.refl _⟩
  | true =>
   refine(av.bind (av.holding (px env ρ e8 eK pn au hn (((E.ext aU .nil).ext bq .nil).ext e7 .nil) hV).1) fun wm qT wC XD nC kk kJ nq BQ nb=>av.standAt ?_) hc;intro hc;refine aM (wpAny_operating (cr (pN c.hK c.hA nq ((bz.ext e7).ext kJ) BQ hc) (fun y kD hp=>?_) fun e kD hx=>hx));obtain⟨h8,po,jA,bG,e7,hV,io,jt⟩:=hp;have:y=.bool h8:=io;subst this;exact hH (wpAny_truthy_bool ⟨h8,po,jA,bG,e7,hV,rfl,jt⟩)
theorem Tk{x:X}(S:b0 K A C f)(L:f N e=some x)
  (au:env.scope.names=N) (hn:cD K.hb env) (E:aZ env ρ s.heap α) (r:ao K.hb s.heap σ α) :
  av K ai A (eval (.UnaryOp .Not e pos) env) (ev C (.not x) ρ σ) s α/\av K gU A (isTrue (.UnaryOp .Not e pos) env (eval (.UnaryOp .Not e pos) env)) (tst C (.not x) ρ σ) s α:=by
 have aC:=(S N e x L).2 env ρ σ s α au hn E r;constructor
 ·rw[arm_eval_UnaryOp];refine av.bind aC.1 fun v ac bb y s₁ V aU aV aX a0=>av.standAt (av.holding ?_);intro hc
  have aw:iI v ac≠.stuck:=by intro q;rw[q]at hc;exact hc rfl
  refine not_value (cr (wi aV aX aw) (fun b kD hp=>?_) fun e kD hx=>hx.bind);obtain⟨h8,po,jA,bG,e7,hV,io,jt⟩:=hp;have:b=h8:=io;subst this;exact⟨.bool (!b),po,jA,by simp[ah.bind,bG],e7,hV,.bool _,jt⟩
 ·rw[arm_isTrue_UnaryOp];refine av.bind aC.2 fun b ac bb y s₁ V aU aV aX a0=>?_;have:y=b:=aX;subst this;exact av.pure aV rfl
theorem Ta{x:X}(S:b0 K A C f)(L:f N e=some x)
  (au:env.scope.names=N) (hn:cD K.hb env) (E:aZ env ρ s.heap α) (r:ao K.hb s.heap σ α) :
  av K ai A (eval (.UnaryOp .USub e pos) env) (ev C (.neg x) ρ σ) s α:=by
 rw[arm_eval_UnaryOp];exact av.bind ((S N e x L).2 env ρ σ s α au hn E r).1 fun v ac bb y s₁ V aU aV aX a0=>av.standAt (av.holding (Tb aV aX))
theorem RS{es:List Expr}{xs:X}(S:b0 K A C f)(h:fk (f N) es=some xs)
  (au:env.scope.names=N) (hn:cD K.hb env) (E:aZ env ρ s.heap α) (r:ao K.hb s.heap σ α) :
  av K ai A (eval (.List es pos) env) (ev C (.lst a9 xs) ρ σ) s α:=by
 rw[arm_eval_List];exact av.standAt (av.bind (ov S h au hn E r) fun vs ac bb us s₁ V aU aV aX a0=>Tc aV aX)
theorem WZ{es:List Expr}{k:Nat}{xs:X}(S:b0 K A C f)(h:fk (f N) es=some xs)
  (au:env.scope.names=N) (hn:cD K.hb env) (E:aZ env ρ s.heap α) (r:ao K.hb s.heap σ α) :
  av K ai A (eval (.Tuple es k pos) env) (ev C (.tup xs) ρ σ) s α:=by
 rw[arm_eval_Tuple];exact av.standAt (av.bind (ov S h au hn E r) fun vs ac bb us s₁ V aU aV aX a0=>Td aV aX)
theorem VP{o i:Expr}{x y:X}(c:cf K A T C)(S:b0 K A C f)(rY:∀l u st p,i≠.Slice l u st p)(L:f N o=some x)(O:f N i=some y)
  (au:env.scope.names=N) (hn:cD K.hb env) (E:aZ env ρ s.heap α) (r:ao K.hb s.heap σ α) :
  av K ai A (eval (.Subscript o i pos) env) (ev C (.sub x y) ρ σ) s α:=by
 rw[arm_eval_Subscript];refine av.bind ((S N o x L).2 env ρ σ s α au hn E r).1 fun va ac bb gy s₁ V aU aV aX a0=>?_;refine av.bind (av.holding ((S N i y O).2 env ρ ac s₁ bb au hn (E.ext aU .nil) aV).1) fun vb ar α₂ hZ ba ak bq r2 bz cx=>av.standAt ?_;exact VV c.hA (fun l u p=>rY l u none p) r2 (aX.ext bq) bz
theorem tC{o:Expr}{m:Str}{s2:Sem Value}(h:nj o=true):attributeBase o m env s2=s2:=by
 cases o with
 | Call f a k p =>
  cases a with
  | nil=>contradiction
  | cons x r=>cases f <;> rfl
 | _=>rfl
theorem LJ{v:H}(mH:ao K.hb s.heap σ α)(bW:α.ix[r]?=some a)(hs:σ[r]?=some (.lst xs))(hl:xs.length<aI)(di:ai s.heap α v u){X:Value->Shared->Prop} :
  wpAny (model K.prog K.w) A (call (.builtin "list.append") [.ref a,u]) (cp K ai (.ok .none (σ.set r (.lst (xs++[v])))) s α) X s:=by
 refine cJ (mH.obj r _ a hs bW) fun items n V w=>?_;refine wpAny_list_append_plain ⟨n,V⟩ (fun h' p1 fE=>?_) (by simp;exact w.1▸(hP (h6 hl)));refine aL p1 fun n' aE=>?_;obtain⟨aF,aO⟩:=mH.set (m:=.lst (xs++[v])) bW (fun b o hb e=>(fE.2 b hb).trans e) aE fun aO=>⟨items++[u],n',by rw[aE];simp,(w.snoc di).ext aO⟩;exact⟨.none,_,α,rfl,aO,aF,.none,⟨rfl,rfl⟩⟩
noncomputable def vH:h2->String
 | .get => "dict"
 | _ => "list"
noncomputable def vG:h2->String
 | .append => "list.append" | .extend => "list.extend"
 | .pop => "list.pop"
 | .get => "dict.get"
noncomputable def Av:h2->Str
 | .append => "append" | .extend => "extend"
 | .pop => "pop"
 | .get => "get"
theorem Sm{m:h2}(h:Aw x=some m):x=Av m:=
 (show ∀p∈Jb,p.1=Av p.2 from(by repeat (first | refine List.forall_mem_cons.mpr ⟨rfl,?_⟩ | exact fun J h=>nomatch h))) _ (na h)
theorem VJ{c:Nat}(h:PyData.strOk x=true){a:Str}(ha:∀d∈a.cps.toList,d∈x.cps.toList):PyData.strOk a=true:=by
 unfold PyData.strOk at h ⊢;simp only[Array.all_eq_true']at h ⊢;intro d hd;exact h d (by simpa using ha d (by simpa using hd))
theorem bh.eraseIdx:∀{xs:List H} {vs:List Value} (k:Nat),bh h α xs vs->bh h α (xs.eraseIdx k) (vs.eraseIdx k)
 | [],vs,k,v=>by
  have:vs=[]:=hE v.1.symm;subst this;simpa using v
 | x::xs,vs,0,v=>by
  refine cJ v.inv_cons fun u us ag bp=>?_;obtain rfl:=ag;refine aS bp fun aX bz=>?_;exact bz
 | x::xs,vs,k+1,v=>by
  refine cJ v.inv_cons fun u us ag bp=>?_;obtain rfl:=ag;refine aS bp fun aX bz=>?_;exact .cons aX (bz.eraseIdx k)
theorem BO{items:Array Value}{g:Array Value->Array Value}(e:h.get? a=some { cls:=.type "list",data:=.seq items n }) :
  ∃n',(h.update a (Obj.mapSeq g)).get? a=some { cls:=.type "list",data:=.seq (g items) n' }:=by
 exact⟨_,Heap.get?_update_self (Obj.mapSeq g) e rfl⟩
theorem BP{g:Obj->Obj}(hb:b≠a):(h.update a g).get? b=h.get? b:=Heap.get?_update_ne h b a g hb
theorem T2{i:Int}{t:Tok}{v:H}(mH:ao K.hb s.heap σ α)(bW:α.ix[r]?=some a)(hs:σ[r]?=some (.lst xs))(h0:0<=i)(hl:xs.length<=aI)(hv:xs[i.toNat]?=some v){X:Value->Shared->Prop} :
  wpAny (model K.prog K.w) A (call (.builtin "list.pop") [.ref a,.int i t]) (cp K ai (.ok v (σ.set r (.lst (xs.eraseIdx i.toNat)))) s α) X s:=by
 refine cJ (mH.obj r _ a hs bW) fun items n V w=>?_;refine ay (w.get hv) fun u hu di=>?_;have hi:=(dX hv).1;have Ys:=oX hl;have c0:=w.1;refine call_meets F.slot_list_pop ⟨_,V,rfl⟩ F.entry_list_pop (F.args_list_pop_2 _ _) (MeetsSeq.list_pop_at a items.toArray n i t i.toNat u ?_ ?_ (by simpa using hu) (fc.symm▸w.1▸(hP hl))) ⟨V,?_⟩
 ·unfold Builtin.List.listFitsIndex;simp;(grind)
 ·rw[<- Bc];unfold fj;rw[aD h0,aD (by simp;(grind))]
 ·refine aL (BO (g:=fun xs=>xs.eraseIdxIfInBounds i.toNat) V) fun n' aE=>?_
  have ak:(items.toArray.eraseIdxIfInBounds i.toNat)=(items.eraseIdx i.toNat).toArray:=by
   simp
  rw[ak]at aE;refine aS (mH.set (m:=.lst (xs.eraseIdx i.toNat)) bW (fun b o hb e=>(BP hb).trans e) aE fun aO=>⟨_,n',aE,(w.eraseIdx _).ext aO⟩) fun aF aO=>?_;exact⟨v,_,α,rfl,aO,aF,di.ext aO,⟨rfl,rfl⟩⟩
theorem Dz{m:Nat}{T:String}(dK:T = "tuple" \/ T = "list")(mH:ao K.hb s.heap σ α)(bW:α.ix[r]?=some a)(hs:σ[r]?=some (.lst xs))(hl:xs.length+ys.length<=aI)
  (ak:s.heap.get? b=some { cls:=.type T,data:=.seq vs.toArray m }) (lx:bh s.heap α ys vs) {X:Value->Shared->Prop} :
  wpAny (model K.prog K.w) A (call (.builtin "list.extend") [.ref a,.ref b]) (cp K ai (.ok .none (σ.set r (.lst (xs++ys)))) s α) X s:=by
 refine cJ (mH.obj r _ a hs bW) fun items n V w=>?_;have c0:=w.1;have PM:=lx.1;have PN:=hP hl;have Yu:=oX hl
 have C8:¬(!items.toArray.isEmpty&&Builtin.List.listTooLong (items.toArray.size+vs.toArray.size))=true:=by
  rw[fc,fc,<- c0,<- PM]
  have:Builtin.List.listTooLong (xs.length+ys.length)=false:=by unfold Builtin.List.listTooLong;simpa using PN
  rw[this];simp
 have fin:cp K ai (.ok .none (σ.set r (.lst (xs++ys)))) s α .none { s with heap:=s.heap.update a (Obj.mapSeq fun x=>x++vs.toArray) }:=by
  refine aL (BO (g:=fun x=>x++vs.toArray) V) fun n' aE=>?_
  have bG:items.toArray++vs.toArray=(items++vs).toArray:=by simp
  simp only[bG]at aE;refine aS (mH.set (m:=.lst (xs++ys)) bW (fun b o hb e=>(BP hb).trans e) aE fun aO=>⟨_,n',aE,(w.append lx).ext aO⟩) fun aF aO=>?_;exact⟨.none,_,α,rfl,aO,aF,.none,⟨rfl,rfl⟩⟩
 rcases dK with rfl | rfl
 ·exact call_meets F.slot_list_extend ⟨_,V,rfl⟩ F.entry_list_extend (F.args_list_extend_2 _ _) (AutoSeq1.list_extend_list_tuple_0 a items.toArray n b vs.toArray m C8 (by rw[fc];(grind)) (by rw[fc,fc];(grind))) ⟨V,ak,fin⟩
 ·exact call_meets F.slot_list_extend ⟨_,V,rfl⟩ F.entry_list_extend (F.args_list_extend_2 _ _) (AutoSeq1.list_extend_list_list_0 a items.toArray n b vs.toArray m C8 (by rw[fc];(grind)) (by rw[fc,fc];(grind))) ⟨V,ak,fin⟩
section
variable {v:H}{P:H->ah H->Prop}
theorem LI(h0:∀o,P o .stuck)(L:∀r xs,σ[r]?=some (.lst xs)->xs.length<aI->P (.ref r) (.ok .none (σ.set r (.lst (xs++[v]))))):∀o,P o (kf o v σ):=by
 intro o
 cases o with
 | ref r =>
  unfold kf;dsimp only
  cases hs:σ[r]? with
  | none=>exact h0 _
  | some m =>
   cases m with
   | lst xs =>
    dsimp only;by_cases hl:xs.length<aI
    ·rw[aD hl];exact L r xs hs hl
    ·rw[aY hl];exact h0 _
   | _=>exact h0 _
 | _=>exact h0 _
theorem NO{Q:H->H->ah H->Prop}(h0:∀o v,Q o v .stuck)(L:∀r xs ys,σ[r]?=some (.lst xs)->xs.length+ys.length<=aI->Q (.ref r) (.tup ys) (.ok .none (σ.set r (.lst (xs++ys)))))(O:∀r xs ys,σ[r]?=some (.lst xs)->xs.length+ys.length<=aI->Q (.ref r) (.fl ys) (.ok .none (σ.set r (.lst (xs++ys))))):∀o v,Q o v (lO o v σ):=by
 intro o v
 cases o with
 | ref r =>
  unfold lO;dsimp only
  cases hs:σ[r]? with
  | none=>exact h0 _ _
  | some m =>
   cases m with
   | lst xs =>
    cases v with
    | tup ys =>
     dsimp only;by_cases hl:xs.length+ys.length<=aI
     ·rw[aD hl];exact L r xs ys hs hl
     ·rw[aY hl];exact h0 _ _
    | fl ys =>
     dsimp only;by_cases hl:xs.length+ys.length<=aI
     ·rw[aD hl];exact O r xs ys hs hl
     ·rw[aY hl];exact h0 _ _
    | _=>exact h0 _ _
   | _=>exact h0 _ _
 | _=>exact h0 _ _
theorem T0{Q:H->H->ah H->Prop}(h0:∀o v,Q o v .stuck)(L:∀r xs i w,σ[r]?=some (.lst xs)->0<=i->xs.length<=aI->xs[i.toNat]?=some w->Q (.ref r) (.int i) (.ok w (σ.set r (.lst (xs.eraseIdx i.toNat))))):∀o v,Q o v (sF o v σ):=by
 intro o v
 cases o with
 | ref r =>
  unfold sF;dsimp only
  cases hs:σ[r]? with
  | none=>exact h0 _ _
  | some m =>
   cases m with
   | lst xs =>
    cases v with
    | int i =>
     dsimp only;by_cases hl:0<=i/\xs.length<=aI
     ·rw[aD hl]
      cases hw:xs[i.toNat]? with
      | none=>exact h0 _ _
      | some w=>exact L r xs i w hs hl.1 hl.2 hw
     ·rw[aY hl];exact h0 _ _
    | _=>exact h0 _ _
   | _=>exact h0 _ _
 | _=>exact h0 _ _
theorem Ot{Q:H->H->ah H->Prop}(h0:∀o v,Q o v .stuck)(L:∀r es k,σ[r]?=some (.ds es)->Q (.ref r) (.str k) (.ok ((aG k es).getD .none) σ))(O:∀r es v k,σ[r]?=some (.dp es)->g8 v=some k->Q (.ref r) v (.ok ((aG k es).getD .none) σ)):∀o v,Q o v (rF o v σ):=by
 intro o v
 cases o with
 | ref r =>
  unfold rF;dsimp only
  cases hs:σ[r]? with
  | none=>exact h0 _ _
  | some m =>
   cases m with
   | ds es =>
    cases v with
    | str k=>exact L r es k hs
    | _=>exact h0 _ _
   | dp es =>
    dsimp only
    cases hk:g8 v with
    | none=>exact h0 _ _
    | some k=>exact O r es v k hs hk
   | _=>exact h0 _ _
 | _=>exact h0 _ _
end
theorem Sw{m:h2}{o v:H}{x:Value}(hK:K.Ok)(hA:ec A)(r:ao K.hb s.heap σ α)(va:ai s.heap α o x)(cy:ai s.heap α v u):av K ai A (call (.builtin (vG m)) [x,u]) (i2 m o [v] σ) s α:=by
 cases m with
 | append =>
  exact LI (P:=fun o c=>ai s.heap α o x->av K ai A (call (.builtin "list.append") [x,u]) c s α) (fun J J hc=>absurd rfl hc) (fun q xs hs hl va J=>by
   refine ay va.refE fun a ag bW=>?_;obtain rfl:=ag;exact LJ r bW hs hl cy) o va
 | extend =>
  exact NO (Q:=fun o v c=>ai s.heap α o x->ai s.heap α v u->av K ai A (call (.builtin "list.extend") [x,u]) c s α) (fun J J J J hc=>absurd rfl hc)
   (fun q xs ys hs hl va cy J=>by
    refine ay va.refE fun a ag bW=>?_;obtain rfl:=ag;obtain⟨b,vs,n,rfl,V,_,w⟩:=cy.tupE
    exact Dz (.inl rfl) r bW hs hl V w)
   (fun q xs ys hs hl va cy J=>by
    refine ay va.refE fun a ag bW=>?_;obtain rfl:=ag;obtain⟨b,vs,n,rfl,V,_,w⟩:=cy.flE
    exact Dz (.inr rfl) r bW hs hl V w) o v va cy
 | pop =>
  exact T0 (Q:=fun o v c=>ai s.heap α o x->ai s.heap α v u->av K ai A (call (.builtin "list.pop") [x,u]) c s α) (fun J J J J hc=>absurd rfl hc) (fun q xs i w hs h0 hl hw va cy J=>by
   refine ay va.refE fun a ag bW=>?_;obtain rfl:=ag;refine aL cy.intE fun J ag=>?_;obtain rfl:=ag
   exact T2 r bW hs h0 hl hw) o v va cy
 | get =>
  exact Ot (Q:=fun o v c=>ai s.heap α o x->ai s.heap α v u->av K ai A (call (.builtin "dict.get") [x,u]) c s α) (fun J J J J hc=>absurd rfl hc)
   (fun q es k hs va cy J=>by
    refine ay va.refE fun a ag bW=>?_;obtain rfl:=ag
    refine ay cy.strE fun J ag J=>?_;obtain rfl:=ag;exact Oq hK r hs bW)
   (fun q es w k hs hk va cy J=>by
    refine ay va.refE fun a ag bW=>?_;obtain rfl:=ag
    exact Op hK hA r hs bW hk cy) o v va cy
theorem Sn(m:h2):PlainAttrs (vH m)/\Slot (vH m) (Av m) (vG m)/\typeOf (.builtin (vG m))=pure (.type "method_descriptor"):=by
 cases m
 ·exact⟨F.plainAttrs_list,F.slot_list_append,F.type_list_append⟩
 ·exact⟨F.plainAttrs_list,F.slot_list_extend,F.type_list_extend⟩
 ·exact⟨F.plainAttrs_list,F.slot_list_pop,F.type_list_pop⟩
 ·exact⟨F.plainAttrs_dict,F.slot_dict_get,F.type_dict_get⟩
set_option tactic.hygienic true in
theorem Ja{m:h2}{o:H}{x:Value}(r:ao K.hb s.heap σ α)(va:ai s.heap α o x)(h:o0 m o σ=true):s.TypeIs x (vH m)/\∀a,x=.ref a->∃ob,s.heap.get? a=some ob/\ob.dict=none:=by
 have lst:∀xs,b2 σ o=some xs->s.TypeIs x "list" /\ ∀a,x=.ref a->∃ob,s.heap.get? a=some ob/\ob.dict=none:=fun xs e=>by
  obtain⟨l,vs,n,rfl,V,_⟩:=lG r va e;exact⟨⟨_,V,rfl⟩,fun a ha=>by cases ha;exact⟨_,V,rfl⟩⟩
 have AD:iZ o σ=true->∃xs,b2 σ o=some xs:=fun h=>by
  unfold iZ at h
  split at h
  ·split at h
   ·rename_i xs hs;exact⟨xs,by simp[b2,hs]⟩
   ·contradiction
  ·contradiction
 have Y6:QS o=true->s.TypeIs x "str" /\ ∀a,x=.ref a->∃ob,s.heap.get? a=some ob/\ob.dict=none:=fun h=>by
  cases o with
  | str z=>refine ay va.strE fun J ag J=>?_;obtain rfl:=ag;exact⟨typeIs_str _ _ _,fun a ha=>by cases ha⟩
  | _=>contradiction
 cases m with
 | append=>refine aL (AD h) fun xs e=>?_;exact lst xs e
 | extend=>refine aL (AD h) fun xs e=>?_;exact lst xs e
 | pop=>refine aL (AD h) fun xs e=>?_;exact lst xs e
 | get =>
  change sg o σ=true at h;unfold sg at h
  split at h
  ·refine ay va.refE fun a ag bW=>?_;obtain rfl:=ag
   split at h
   ·rename_i hs;refine ay (pP r hs bW) fun d5 L J=>?_;exact⟨L.typeIs,L.mapOf.noDict⟩
   ·rename_i hs;refine ay (pO r hs bW) fun xs L J=>?_;exact⟨L.typeIs,dictOfH_noDict L⟩
   ·contradiction
  ·contradiction
set_option tactic.hygienic true in
theorem Sl{m:h2}{o a:Expr}{x y:X}(c:cf K A T C)(S:b0 K A C f)(hm:Aw mn=some m)(kq:(apos.endLine == pos.line)=true)(lW:nj o=true)(L:f N o=some x)(O:f N a=some y)
  (au:env.scope.names=N) (hn:cD K.hb env) (E:aZ env ρ s.heap α) (r:ao K.hb s.heap σ α) :
  av K ai A (eval (.Call (.Attribute o mn apos) [a] [] pos) env) (ev C (.me m x #v[y]) ρ σ) s α:=by
 rw[Sm hm,Dr];intro hc;refine aS (S N a y O) fun hp d0=>?_;refine Call_method1 (tC lW) (ii hp) kq ?_;refine av.use ((S N o x L).2 env ρ σ s α au hn E r).1 hc fun va ac bb gy s₁ V cK aU aV aX a0=>?_;rw[V]
 split at cK
 ·rename_i cM;refine dN (Sn m) fun q1 q2 q3=>?_;refine aS (Ja aV aX cM) fun q4 q5=>?_;refine⟨vH m,vG m,q1,q2,q3,q4,q5,?_⟩;refine Calls.callWith_builtin (by cases m <;> rfl) (Calls.evalArgs_plain (Calls.spliced_cons ?_))
  have tQ:∀{σ:aa},((evs C #v[y] ρ σ).bind fun vs σ=>i2 m va vs σ)=(ev C y ρ σ).bind fun v σ=>i2 m va [v] σ:=fun{σ}=>by
   show((ev C y ρ σ).bind fun v σ=>.ok [v] σ).bind _=_;cases ev C y ρ σ <;> rfl
  rw[CO,aD cM,tQ];rw[tQ]at cK;refine av.useL aU a0 (f:=fun v σ=>i2 m va [v] σ) (d0 env ρ ac s₁ bb au hn (E.ext aU .nil) aV).1 cK fun pv ar α₂ u ba ak ei bq r2 bz cx=>Calls.spliced_nil ?_;show wpAny _ _ _ (cp K ai ((ev C y ρ ac).bind fun v σ=>i2 m va [v] σ) _ _) (da K A ((ev C y ρ ac).bind fun v σ=>i2 m va [v] σ) _ _) _;exact ak.symm▸((Sw c.hK c.hA r2 (aX.ext bq) bz).endL (aU.trans bq) (a0.trans cx) ei)
 ·exact absurd rfl cK
theorem bh.drop:∀{xs:List H} {vs:List Value} (k:Nat),bh h α xs vs->bh h α (xs.drop k) (vs.drop k)
 | _,_,0,v=>v
 | [],vs,k+1,v=>by
  have:vs=[]:=hE v.1.symm;subst this;exact .nil
 | x::xs,vs,k+1,v=>by
  refine cJ v.inv_cons fun u us ag bp=>?_;obtain rfl:=ag;refine aS bp fun aX bz=>?_;exact bz.drop k
theorem bh.take:∀{xs:List H} {vs:List Value} (k:Nat),bh h α xs vs->bh h α (xs.take k) (vs.take k)
 | _,_,0,v=>.nil
 | [],vs,k+1,v=>by
  have:vs=[]:=hE v.1.symm;subst this;exact .nil
 | x::xs,vs,k+1,v=>by
  refine cJ v.inv_cons fun u us ag bp=>?_;obtain rfl:=ag;refine aS bp fun aX bz=>?_;exact .cons aX (bz.take k)
theorem JR{p:H}{v:Value}{k:Option Int}(h:o3 p=some k)(r:ai s.heap α p v):IsPart v k:=by
 cases p with
 | none=>obtain rfl:=oi h;obtain rfl:=r.noneE;exact .none
 | int i=>obtain rfl:=oi h;refine aL r.intE fun J ag=>?_;obtain rfl:=ag;exact .int _ _
 | _=>contradiction
theorem bh.slice(v:bh h α xs vs)(lo hi:Option Int):bh h α (dR xs lo hi) (dR vs lo hi):=by
 unfold dR;exact v.1▸((v.drop _).take _)
theorem TR{hi:Option Int}:slicePick vs.toArray lo hi none=(dR vs lo hi).toArray:=by
 rw[slicePick_plain];simp[dR]
theorem Kb{v:Value}{k:Option Int}{Q:Option Int->Shared->Prop}(p:IsPart v k)(h:Q k s):wpAny (model K.prog K.w) A (Builtin.Slice.slicePartIndex v) Q E s:=by
 cases p with
 | none=>exact slicePart_none h
 | int i t=>exact slicePart_int h
noncomputable def e5(lo:Option Int)(n:Nat):Nat:=lo.elim 0 (clipAt n)
noncomputable def iE(hi:Option Int)(n:Nat):Nat:=hi.elim n (clipAt n)
theorem MI{i:Int}:clipAt n i<=n:=Int.toNat_le.mpr (Int.max_le.mpr ⟨d3 n,Int.min_le_right _ _⟩)
theorem MH(n:Nat)(i:Int):(if i<0 then max (i+n) 0 else min i n)=((clipAt n i:Nat):Int):=by
 rw[clipAt_cast];by_cases h:i<0
 ·rw[aD h,aD h];(grind)
 ·rw[aY h,aY h];(grind)
theorem Lw(lo hi:Option Int)(n:Nat):Builtin.Slice.sliceAdjust lo hi 1 (n:Int)=(((e5 lo n:Nat):Int),((iE hi n:Nat):Int)):=by
 unfold Builtin.Slice.sliceAdjust e5 iE
 have L:¬((1:Int)<0):=by decide
 simp only[L,if_false];cases lo <;> cases hi <;> simp only[Option.elim,MH] <;> rfl
theorem TS(a b:Nat):Builtin.Slice.slicePlaces (a:Int) (b:Int) 1=b-a:=by
 unfold Builtin.Slice.slicePlaces
 have L:(1:Int) > 0:=by decide
 simp only[L,if_true,Int.ediv_one]
 split <;> (grind)
theorem Vb{cu:Addr}{vl di:Value}{hi:Option Int}{Q:Int×Int×Nat->Shared->Prop}(hs:s.heap.IsSliceOf cu vl di .none)(pl:IsPart vl lo)(AY:IsPart di hi)
  (h:Q (((e5 lo n:Nat):Int),1,iE hi n-e5 lo n) s):wpAny (model K.prog K.w) A (Builtin.Slice.sliceApplied (.ref cu) (pure (n:Int))) Q E s:=by
 refine bu (id hs) fun os r1 rQ uZ=>?_;unfold Builtin.Slice.sliceApplied Builtin.Slice.sliceFields;refine aM (aM (gE r1 uZ (x:=vl) rfl (aM (gE r1 uZ (x:=di) rfl (aM (gE r1 uZ (x:=.none) rfl (bJ ?_)))))));refine aM (slicePart_none ?_);show wpAny _ _ (if((1:Int) == 0)=true then _ else _) _ _ s;rw[aY (by decide)];refine aM (Kb pl (aM (Kb AY (aM (bJ ?_)))));show wpAny _ _ (match Builtin.Slice.sliceAdjust lo hi 1 (n:Int)with | (lo,hi)=>pure (lo,(1:Int),Builtin.Slice.slicePlaces lo hi 1)) _ _ s;rw[Lw];show wpAny _ _ (pure (((e5 lo n:Nat):Int),(1:Int),Builtin.Slice.slicePlaces ((e5 lo n:Nat):Int) ((iE hi n:Nat):Int) 1)) _ _ s;rw[TS];exact bJ h
theorem TQ(xs:List Value)(a k:Nat):((List.range k).filterMap fun(j:Nat)=>xs.toArray[((a:Int)+(j:Int)*1).toNat]?).toArray=((xs.drop a).take k).toArray:=by
 have e:(fun(j:Nat)=>xs.toArray[((a:Int)+(j:Int)*1).toNat]?)=fun j=>xs.toArray[a+j]?:=by
  funext j
  have:((a:Int)+(j:Int)*1).toNat=a+j:=((Nat.add_assoc _ _ _).symm);rw[this]
 rw[e];have:=pick_run xs.toArray a k;rw[List.filterMap_map]at this;have ak:((fun x=>xs.toArray[x]?)∘fun x=>a+x)=fun j=>xs.toArray[a+j]?:=rfl;rw[ak]at this;rw[this]
theorem Kd{β:Type}(xs:List β)(lo hi:Option Int):(dR xs lo hi).length<=xs.length:=by
 unfold dR;exact aH (List.length_take_le' _ _) (by rw[List.length_drop];exact Nat.sub_le _ _)
theorem W1{t cu:Addr}{vl di:Value}{hi:Option Int}(a3:s.heap.get? t=some { cls:=.type "tuple",data:=.seq vs.toArray n })
  (hs:s.heap.IsSliceOf cu vl di .none) (pl:IsPart vl lo) (AY:IsPart di hi) (hsz:vs.length<=sizeLine)
  (L:dR vs lo hi=vs->Q (.ref t) s) (O:Q (.ref s.heap.objs.size) { s with heap:=s.heap.push { cls:=.type "tuple",data:=.seq (dR vs lo hi).toArray } }) :
  wpAny (model K.prog K.w) A (getItem (.ref t) (.ref cu)) Q E s:=by
 have r6:=vq a3;refine bu (id hs) fun os r1 rQ uZ=>?_;have zy:s.TypeIs (.ref cu) "slice" := ⟨os,r1,rQ⟩
 have cM:sizeOk (.seq (dR vs lo hi).toArray):=by
  show(dR vs lo hi).toArray.size<=sizeLine;rw[fc];exact aH (Kd vs lo hi) hsz
 unfold getItem
 try with_reducible refine hH ?_
 first | refine aM (bJ ?_) | skip
 refine aM (wpAny_sequenceKey r6.typeIs (by decide) ?_)
 refine aM (wpAny_callSpecial?_slot (name:=Str.ofString "__getitem__") r6.typeIs slot_tuple_getitem
  (wpAny_call_entry slot_tuple_getitem r6.typeIs entry_tuple_getitem ?_ (args_tuple_getitem _ _)))
 show wpAny _ _ (Builtin.Tuple.tupleItemsOf (.ref t) >>= _) _ _ s;refine aM (tupleItemsOf_ r6 ?_);refine aM (wpAny_typeOf zy ?_);rw[aD (by decide)];refine aM (Vb (n:=vs.toArray.size) hs pl AY ?_);rw[fc]
 have fin:∀(B:Around),wpAny (model K.prog K.w) B (Builtin.Tuple.tupleExact ((List.range (iE hi vs.length-e5 lo vs.length)).filterMap fun(k:Nat)=>vs.toArray[(((e5 lo vs.length:Nat):Int)+(k:Int)*1).toNat]?).toArray) (fun v s'=>v=.ref s.heap.objs.size/\s'={ s with heap:=s.heap.push { cls:=.type "tuple",data:=.seq (dR vs lo hi).toArray } }) (fun J J=>False) s:=fun B=>by
  rw[TQ];exact wpAny_newObj_type ⟨rfl,rfl⟩ cM
 show wpAny _ _ (if(((e5 lo vs.length:Nat):Int) == 0&&(1:Int) == 1&&(iE hi vs.length-e5 lo vs.length) == vs.length)=true then _ else _) _ _ s;by_cases hc:(((e5 lo vs.length:Nat):Int) == 0&&(1:Int) == 1&&(iE hi vs.length-e5 lo vs.length) == vs.length)=true
 ·rw[aD hc];simp only[eB,ff]at hc
  have hw:dR vs lo hi=vs:=by
   have dE:e5 lo vs.length=0:=by have:=hc.1.1;(grind)
   have dY:iE hi vs.length=vs.length:=by have:=hc.2;rw[dE]at this;(assumption)
   show(vs.drop (e5 lo vs.length)).take (iE hi vs.length-e5 lo vs.length)=vs;rw[dE,dY];simp
  unfold Builtin.Tuple.tupleIsExact;refine aM (aM (wpAny_typeOf r6.typeIs (bJ ?_)));rw[aD (by decide)]
  first
   | exact aM (wpAny_rule (bJ ⟨_,rfl,bJ (L hw)⟩))
   | exact aM (aM (wpAny_rule (bJ (bJ ⟨_,rfl,bJ (L hw)⟩))))
   | exact aM (wpAny_rule (aM (bJ (bJ ⟨_,rfl,bJ (L hw)⟩))))
 ·rw[aY hc]
  first
   | exact aM (cr (fin _) (fun v s' e=>by obtain⟨rfl,rfl⟩:=e;exact bJ ⟨_,rfl,bJ O⟩) fun J J e=>e.elim)
   | exact aM (cr (fin _) (fun v s' e=>by obtain⟨rfl,rfl⟩:=e;exact aM (bJ (bJ ⟨_,rfl,bJ O⟩))) fun J J e=>e.elim)
   | exact aM (aM (cr (fin _) (fun v s' e=>by obtain⟨rfl,rfl⟩:=e;exact bJ (bJ ⟨_,rfl,bJ O⟩)) fun J J e=>e.elim))
theorem VK(x:Str)(lo hi:Option Int):Builtin.Str.strSliceIndices lo hi 1 x.length=(List.range (iE hi x.length-e5 lo x.length)).map (e5 lo x.length+·):=by
 rw[<- sliceRange_one];unfold Builtin.Str.strSliceIndices e5 iE
 have L:(1:Int) > 0:=by decide
 simp only[L,if_true];cases lo <;> cases hi <;> simp only[Option.elim,clipAt_cast] <;> rfl
set_option tactic.hygienic true in
theorem Vd{t:Tok}{l u:Option (Int×Tok)}(hx:x.length<=aI)(a6:∀bx k,Q (.str (nx x (l.map (·.1)) (u.map (·.1))) bx) { s with toks:=k }):(sliceMade x t l u none).post Q s:=by
 have V:slicePicked x l u none=(List.range (iE (u.map (·.1)) x.length-e5 (l.map (·.1)) x.length)).map (e5 (l.map (·.1)) x.length+·):=VK x _ _
 have ak:(slicePicked x l u none).filterMap (x.cps[·]?)=dR x.cps.toList (l.map (·.1)) (u.map (·.1)):=by
  rw[V,pick_run];show(x.cps.toList.drop (e5 _ x.length)).take _=(x.cps.toList.drop (e5 _ x.cps.toList.length)).take _;rw[show x.cps.toList.length=x.length from by simp[Str.length]];rfl
 unfold sliceMade;refine post_val_or_str ?_
 have bG:(if((Option.map (fun(q:Int×Tok)=>q.1) none).getD 1 == 1&&(slicePicked x l u none).length == x.length)=true then x else⟨((slicePicked x l u none).filterMap (x.cps[·]?)).toArray⟩)=nx x (l.map (·.1)) (u.map (·.1)):=by
  split
  ·rename_i hc;simp only[eB,ff]at hc;have hl:=hc.2;rw[V,be,List.length_range]at hl
   have a7:dR x.cps.toList (l.map (·.1)) (u.map (·.1))=x.cps.toList:=by
    have hn:x.cps.toList.length=x.length:=by simp[Str.length]
    have HS:iE (u.map (·.1)) x.length<=x.length:=by
     unfold iE
     cases u with
     | none=>exact dA _
     | some q=>exact MI
    show(x.cps.toList.drop (e5 _ x.cps.toList.length)).take (iE _ x.cps.toList.length-e5 _ x.cps.toList.length)=_;rw[hn,hl];by_cases h0:x.length=0
    ·have:x.cps.toList=[]:=hE (hn.trans h0);rw[this];simp
    ·have z:e5 (l.map (·.1)) x.length=0:=by
      have aw:=h6 (Nat.lt_of_sub_ne_zero (hl▸h0));rw[(Nat.sub_eq_iff_eq_add aw).mp hl]at HS;exact Nat.le_zero.mp (Nat.le_of_add_le_add_left HS)
     rw[z,List.drop_zero,<- hn,List.take_length]
   unfold nx;rw[a7]
  ·unfold nx;rw[ak]
 rw[bG];refine⟨?_,a6⟩;show(dR x.cps.toList _ _).toArray.size<=sizeLine;exact fc.symm▸(aH (Kd _ _ _) (hP (by simpa[Str.length]using hx)))
theorem VI{hi:Option Int}(h:PyData.strOk x=true):PyData.strOk (nx x lo hi)=true:=by
 refine VJ (c:=0) h fun d hd=>?_
 have:d∈dR x.cps.toList lo hi:=by simpa[nx]using hd
 unfold dR at this;exact List.mem_of_mem_drop (List.mem_of_mem_take this)
theorem JT{v:Value}{k:Option Int}(p:IsPart v k):∃q:Option (Int×Tok),v=partValue q/\q.map (·.1)=k:=by
 cases p with
 | none=>exact⟨none,rfl,rfl⟩
 | int i t=>exact⟨some (i,t),rfl,rfl⟩
noncomputable def iJ(s:Shared)(y z:Value):Shared:={ s with heap:=s.heap.push { cls:=.type "slice",data:=.fields #[y,z,.none] } }
section
variable {a v:H}{hi:Option Int}{x z:Value}{l u:Option Expr}{p:Pos}
theorem wq(e:s.heap.get? b=some o):(iJ s y z).heap.get? b=some o:=c3 _ e
theorem U6(r:ao K.hb s.heap σ α)(va:ai s.heap α a x)(l8:IsPart y lo)(l9:IsPart z hi)(e:b2 σ a=some xs)(hl:xs.length<=aI) :
  wpAny (model K.prog K.w) A (subscriptTail value (.Slice l u none p) x (.ref s.heap.objs.size)) (cp K ai (.ok (.fl (dR xs lo hi)) σ) (iJ s y z) α) E (iJ s y z):=by
 obtain⟨ad,vs,n,rfl,V,w⟩:=lG r va e;have k:∀b o,s.heap.get? b=some o->(iJ s y z).heap.get? b=some o:=fun J J=>wq;have fB:(iJ s y z).heap.IsList ad vs.toArray:=⟨_,k _ _ V,rfl,n,rfl⟩;refine tail_any fB.typeIs slot_list_getitem.lookup (wpAny_getItem_list_slice fB (Heap.IsSliceOf.new ..) l8 l9 .none (by trivial) ?_ (fc.symm▸w.1▸(hP hl))) rfl;exact TR.symm▸(cp.fl (r.keeps k) ((w.ext (.keeps (F:=[]) k)).slice lo hi))
theorem U8(r:ao K.hb s.heap σ α)(va:ai s.heap α (.tup xs) x)(l8:IsPart y lo)(l9:IsPart z hi)(hl:xs.length<=aI) :
  wpAny (model K.prog K.w) A (subscriptTail value (.Slice l u none p) x (.ref s.heap.objs.size)) (cp K ai (.ok (.tup (dR xs lo hi)) σ) (iJ s y z) α) E (iJ s y z):=by
 obtain⟨t,vs,n,rfl,V,hn,w⟩:=va.tupE;have k:∀b o,s.heap.get? b=some o->(iJ s y z).heap.get? b=some o:=fun J J=>wq;have xm:=k _ _ V;have c6:=w.ext (.keeps (F:=[]) k);refine tail_any ⟨_,xm,rfl⟩ slot_tuple_getitem.lookup (W1 xm (Heap.IsSliceOf.new ..) l8 l9 (w.1▸(hP hl)) (fun hw=>?_) ?_) rfl
 ·refine⟨_,σ,α,rfl,.refl,r.keeps k,?_,.refl _⟩;have Qr:dR xs lo hi=xs:=((List.take_sublist _ _).trans (List.drop_sublist _ _)).eq_of_length (((c6.slice lo hi).1.trans (congrArg List.length hw)).trans w.1.symm);exact Qr.symm▸(ai.tupI xm hn c6)
 ·exact cp.tup (r.keeps k) (c6.slice lo hi)
theorem U7{w:Str}(r:ao K.hb s.heap σ α)(va:ai s.heap α (.str w) x)(l8:IsPart y lo)(l9:IsPart z hi)(hl:w.length<=aI) :
  wpAny (model K.prog K.w) A (subscriptTail value (.Slice l u none p) x (.ref s.heap.objs.size)) (cp K ai (.ok (.str (nx w lo hi)) σ) (iJ s y z) α) E (iJ s y z):=by
 refine ay va.strE fun t ag hw=>?_;obtain rfl:=ag;refine ay (JT l8) fun q1 ag dE=>?_;obtain rfl:=ag;refine ay (JT l9) fun q2 ag dY=>?_;obtain rfl:=ag;refine tail_any (typeIs_str _ w _) F.slot_str_getitem.lookup (wpAny_getItem_str_slice (l:=q1) (u:=q2) (st:=none) ⟨_,ef _ rfl,rfl,rfl⟩ rfl (Vd hl fun bx pf=>?_)) rfl;exact dE.symm▸dY.symm▸(⟨_,σ,α,rfl,.refl,r.keeps fun J J=>wq,.str _ _ (VI hw),⟨rfl,rfl⟩⟩)
theorem U9(h:sM σ a lo hi=some v)(r:ao K.hb s.heap σ α)(va:ai s.heap α a x)(l8:IsPart y lo)(l9:IsPart z hi) :
  wpAny (model K.prog K.w) A (subscriptTail value (.Slice l u none p) x (.ref s.heap.objs.size)) (cp K ai (.ok v σ) (iJ s y z) α) E (iJ s y z):=by
 have gen:((b2 σ a).bind fun xs=>if xs.length<=aI then some (H.fl (dR xs lo hi))else none)=some v->wpAny (model K.prog K.w) A (subscriptTail value (.Slice l u none p) x (.ref s.heap.objs.size)) (cp K ai (.ok v σ) (iJ s y z) α) E (iJ s y z):=fun h =>
  ct h fun xs e h=>qa h fun hl h=>oi h▸U6 r va l8 l9 e hl
 cases a with
 | tup xs=>exact qa h fun hl h=>oi h▸U8 r va l8 l9 hl
 | str w=>exact qa h fun hl h=>oi h▸U7 r va l8 l9 hl
 | _=>exact gen h
end
theorem Ve{l u:Option Expr}{p:Pos}{a b c:H}{x z:Value}(r:ao K.hb s.heap σ α)(va:ai s.heap α a x)(vb:ai s.heap α b y)(wm:ai s.heap α c z) :
  av K ai A (subscriptTail value (.Slice l u none p) x (.ref s.heap.objs.size)) (j0 a b c σ) (iJ s y z) α:=by
 intro hc
 cases h:(o3 b).bind fun lo=>(o3 c).bind fun hi=>sM σ a lo hi with
 | none=>unfold j0 at hc;rw[h]at hc;exact absurd rfl hc
 | some v =>
  unfold j0;rw[h];exact ct h fun lo L h=>ct h fun hi O h=>U9 h r va (JR L vb) (JR O wm)
set_option tactic.hygienic true in
theorem Sz{a b:H}{x:Value}(hA:ec A)(aN:A.handled=none)(r:ao K.hb s.heap σ α)(va:ai s.heap α a x)(vb:ai s.heap α b y):av K ai A (call (.builtin "min") [x,y]) (ql a b σ) s α:=by
 intro hc
 cases a with
 | int i =>
  cases b with
  | int j =>
   refine aL va.intE fun J ag=>?_;obtain rfl:=ag;refine aL vb.intE fun J ag=>?_;obtain rfl:=ag;refine min_two_ints aN fun h' tk k=>?_;have:∀{q:H} {w:Value},q=.int (min i j)->ai h' α q w->cp K ai (ql (.int i) (.int j) σ) s α w { s with heap:=h',toks:=tk }:=fun{q w} e v=>⟨q,σ,α,by rw[e];rfl,.keeps k,r.keeps k,v,⟨rfl,rfl⟩⟩
   split
   ·rename_i h;exact this (by congr 1;(grind)) (.int j _)
   ·rename_i h;exact this (by congr 1;(grind)) (.int i _)
  | _=>exact absurd rfl hc
 | _=>exact absurd rfl hc
theorem JS{o:Option Expr}{x:X}(S:b0 K A C f)(h:sW (f N) o=some x)(au:env.scope.names=N)(hn:cD K.hb env)(E:aZ env ρ s.heap α)(r:ao K.hb s.heap σ α) :
  av K ai A (valueOrNone (evalOpt o env)) (ev C x ρ σ) s α:=by
 cases o with
 | none=>obtain rfl:=oi h;exact av.pure r .none
 | some e=>exact((S N e x h).2 env ρ σ s α au hn E r).1
theorem Vc{o:Expr}{lo hi:Option Expr}{p:Pos}{x y z:X}(S:b0 K A C f)(L:f N o=some x)(O:sW (f N) lo=some y)(aw:sW (f N) hi=some z)
  (au:env.scope.names=N) (hn:cD K.hb env) (E:aZ env ρ s.heap α) (r:ao K.hb s.heap σ α) :
  av K ai A (eval (.Subscript o (.Slice lo hi none p) pos) env) (ev C (.slice x y z) ρ σ) s α:=by
 rw[Dv,arm_eval_Subscript];refine av.bind ((S N o x L).2 env ρ σ s α au hn E r).1 fun va ac bb wk s₁ V aU aV aX a0=>?_;rw[arm_eval_Slice];intro hc;refine aM (hH (aM ?_));refine av.use (JS S O au hn (E.ext aU .nil) aV) hc fun vb ar α₂ KR ba ak ei bq r2 bz cx=>?_;refine aM (hH ?_);rw[ak];show wpAny _ _ _ _ (da K A ((ev C z ρ ar).bind fun b σ=>j0 va vb b σ) _ _) _;refine av.useL bq cx (JS S aw au hn ((E.ext aU .nil).ext bq .nil) r2) ei fun wm e8 pn Y8 eK bG zC e7 hV io jt=>?_;refine aM (hH (bJ ?_));refine wpAny_newObj_type ?_ (by size_fits);refine aM (wpAny_standAt ?_);show wpAny _ _ _ (cp K ai ((ev C z ρ ar).bind _) _ _) (da K A ((ev C z ρ ar).bind _) _ _) _;rw[bG];have nf:=cx.trans jt;exact(Ve (value:=o) (l:=lo) (u:=hi) (p:=p) hV ((aX.ext bq).ext e7) (bz.ext e7) io).endL ((bq.trans e7).trans (.keeps fun J J=>wq)) ⟨nf.gens,nf.os⟩ zC
theorem Sy{a b:Expr}{p:Pos}{x y:X}(c:cf K A T C)(S:b0 K A C f)(hg:fC N "min" = true)(hN:("min" : Str)∈T.bins)(L:f N a=some x)(O:f N b=some y)
  (au:env.scope.names=N) (hn:cD K.hb env) (E:aZ env ρ s.heap α) (r:ao K.hb s.heap σ α) :
  av K ai A (eval (.Call (.Name "min" p) [a,b] [] pos) env) (ev C (.min2 x y) ρ σ) s α:=by
 rw[Dt]
 cases dg:C.hd with
 | true=>exact fun hc=>absurd rfl hc
 | false =>
 simp only[cond_false];intro hc;refine aS (S N a x L) fun zS jG=>?_;refine aS (S N b y O) fun m3 d0=>?_;refine kd (kh c hg hN rfl au E.ok r ?_);rw[ii zS,ii m3];refine Calls.callWith_builtin rfl (Calls.evalArgs_plain (Calls.spliced_cons ?_));refine av.use (jG env ρ σ s α au hn E r).1 hc fun aX ac bb wk s₁ V cK aU aV lw a0=>?_;rw[V];refine Calls.spliced_cons ?_;show wpAny _ _ _ _ (da K A ((ev C y ρ ac).bind fun y σ=>ql aX y σ) _ _) _;refine av.useL aU a0 (d0 env ρ ac s₁ bb au hn (E.ext aU .nil) aV).1 cK fun bz ar α₂ KR ba ak ei bq r2 lx cx=>Calls.spliced_nil ?_;show wpAny _ _ _ (cp K ai ((ev C y ρ ac).bind _) _ _) (da K A ((ev C y ρ ac).bind _) _ _) _;exact ak.symm▸((Sz c.hA (c.hd dg) r2 (lw.ext bq) lx).endL (aU.trans bq) (a0.trans cx) ei)
set_option tactic.hygienic true in
theorem RL{a:Expr}{p bS AX:Pos}{x:X}(c:cf K A T C)(S:b0 K A C f)(hg:fC N "len" = true)(hN:("len" : Str)∈T.bins)(zJ:fC N "set" = true)(Pe:("set" : Str)∈T.bins)(h:f N a=some x)
  (au:env.scope.names=N) (hn:cD K.hb env) (E:aZ env ρ s.heap α) (r:ao K.hb s.heap σ α) :
  av K ai A (eval (.Call (.Name "len" p) [.Call (.Name "set" bS) [a] [] AX] [] pos) env) (ev C (.b1 .lenset x) ρ σ) s α:=by
 rw[Dq];intro hc;refine aS (S N a x h) fun hp aC=>?_;refine kd (kh c hg hN rfl au E.ok r ?_);rw[ii (e:=.Call (.Name "set" bS) [a] [] AX) rfl];refine PySem.callWith_builtin1 ?_;refine kd (kh c zJ Pe rfl au E.ok r ?_);rw[ii hp];refine PySem.callWith_type1 ?_;refine av.use (aC env ρ σ s α au hn E r).1 hc fun aX ac bb wk s₁ V cK aU aV lw a0=>?_;rw[V]
 have q:dk .lenset aX ac=match(el ac aX).bind ke with
   | some l=>if l.length<=1000 then .ok (.int (gK l).length) ac else .stuck
   | none=>.stuck:=by cases aX <;> rfl
 refine aS (CH cK) fun dE dY=>?_;have dg:=dE rfl;show wpAny _ _ _ (fun v s₁=>wpAny _ _ _ (cp K ai (iP C.hd .lenset aX ac) s α) (da K A (iP C.hd .lenset aX ac) s α) s₁) _ _;rw[dY,q]at cK ⊢
 split at cK
 ·rename_i l hl
  split at cK
  ·rename_i HW;rw[aD HW];refine RN c.hA (c.hd dg) aV lw hl HW fun D h' tk k c0=>c0 _ _ fun t pf=>?_;exact⟨_,ac,bb,rfl,aU.trans (.keeps k),aV.keeps k,.int _ _,⟨a0.gens,a0.os⟩⟩
  ·exact absurd rfl cK
 ·exact absurd rfl cK
theorem vY{es:List Expr}{xs:X}(S:b0 K A C f)(h:fk (f N) es=some xs):(backTo pos (starEach es env)).all (fun x=>!x.1)=true/\(backTo pos (starEach es env)).any (·.1)=false:=by
 have:∀{es:List Expr} {xs:X},fk (f N) es=some xs->∀x∈starEach es env,x.1=false:=by
  intro es
  induction es with
  | nil=>intro xs h x hx;contradiction
  | cons e es aj =>
   intro xs h x hx;refine jn (nH h) fun a b ha hb J=>?_;rw[ii (S N e a ha).1]at hx
   rcases b5.mp hx with q | q
   ·rw[q]
   ·exact aj hb x q
 have key:∀x∈backTo pos (starEach es env),x.1=false:=by
  intro x hx;unfold backTo at hx
  first
   | (refine ay (ci.mp hx) fun y hy ag=>?_;obtain rfl:=ag;exact this h y hy)
   | (split at hx <;> first | (obtain⟨y,hy,rfl⟩:=ci.mp hx;exact this h y hy) | exact this h x hx)
 exact⟨fI.mpr fun x hx=>by rw[key x hx];rfl,List.any_eq_false.mpr fun x hx=>by rw[key x hx];(trivial)⟩
theorem w5{F:Value}{es:List Expr}{Q:Args->Shared->Prop}(h:wpAny (model K.prog K.w) A (spliced (backTo pos (starEach es env))) (fun vs s₁=>Q ⟨vs,[]⟩ s₁) E s)
  (pl:(backTo pos (starEach es env)).any (·.1)=false):wpAny (model K.prog K.w) A (evalArgs F true (backTo pos (starEach es env)) []) Q E s:=by
 cases hq:backTo pos (starEach es env)with
 | nil =>
  rw[hq]at h;unfold evalArgs;show wpAny _ A (spliced [] >>= _) Q E s;refine aM (cr h (fun vs s' h'=>?_) fun J J x=>x);refine aM (bJ (hH ?_));exact aM (bJ (aM (bJ (bJ h'))))
 | cons p r =>
  rw[hq]at h pl;obtain⟨b,t⟩:=p;rw[List.any_cons,Bool.or_eq_false_iff]at pl;obtain rfl:b=false:=pl.1;exact Calls.evalArgs_plain h
theorem L9{mP:Value}{es:List Expr}{xs:X}{p:Pos}{β:Type}{F:List H->aa->ah β}{W:Value->Shared->Prop}(c:cf K A T C)(S:b0 K A C f)(hg:fC N g=true)(hN:g∈T.bins)(hv:kW g=some mP)(a3:(∃t,mP=.type t)\/∃b,mP=.builtin b)
  (h:fk (f N) es=some xs) (au:env.scope.names=N) (hn:cD K.hb env) (E:aZ env ρ s.heap α) (r:ao K.hb s.heap σ α) (hc:(evs C xs ρ σ).bind F≠.stuck)
  (k:∀vs σ' α' us s',evs C xs ρ σ=.ok vs σ'->F vs σ'≠.stuck->a4 [] α s.heap α' s'.heap->ao K.hb s'.heap σ' α'->bh s'.heap α' vs us->cq s s'->wpAny (model K.prog K.w) A (call mP us) W (da K A ((evs C xs ρ σ).bind F) s α) s') :
  wpAny (model K.prog K.w) A (eval (.Call (.Name g p) es [] pos) env) W (da K A ((evs C xs ρ σ).bind F) s α) s:=by
 refine aS (vY (env:=env) (pos:=pos) S h) fun J nn=>?_;refine kd (kh c hg hN hv au E.ok r ?_);have aC:=ov (pos:=pos) S h au hn E r
 have B8:∀{Oj:Value},wpAny (model K.prog K.w) A (evalArgs Oj true (backTo pos (starEach es env)) []) (fun a s₁=>wpAny (model K.prog K.w) A (call mP ([]++a.pos) a.kw) W (da K A ((evs C xs ρ σ).bind F) s α) s₁) (da K A ((evs C xs ρ σ).bind F) s α) s:=
  w5 (av.use aC hc fun vs σ' α' us s' V cg aO aF c6 bw=>k vs σ' α' us s' V cg aO aF c6 bw) nn
 rcases a3 with⟨t,rfl⟩ | ⟨b,rfl⟩
 ·exact PySem.callWith_type nn B8
 ·exact Calls.callWith_builtin nn B8
set_option tactic.hygienic true in
theorem Sr{o:Expr}{es:List Expr}{x xs:X}{TT id:String}{fo:H->List H->aa->ah H}{ok:H->aa->Bool}(S:b0 K A C f)(lW:nj o=true)(kq:(apos.endLine == pos.line)=true)(c0:es.length<20)
  (TO:PlainAttrs TT) (cu:Slot TT mn id) (ty:typeOf (.builtin id)=pure (.type "method_descriptor"))
  (cM:∀{v σ} {s:Shared} {α:ax} {u:Value},ok v σ=true->ao K.hb s.heap σ α->ai s.heap α v u->s.TypeIs u TT/\∀a,u=.ref a->∃ob,s.heap.get? a=some ob/\ob.dict=none)
  (iX:∀{v vs σ} {s:Shared} {α:ax} {u us},ao K.hb s.heap σ α->ai s.heap α v u->bh s.heap α vs us->av K ai A (call (.builtin id) (u::us)) (fo v vs σ) s α)
  (L:f N o=some x) (O:fk (f N) es=some xs) (au:env.scope.names=N) (hn:cD K.hb env) (E:aZ env ρ s.heap α) (r:ao K.hb s.heap σ α) :
  av K ai A (eval (.Call (.Attribute o mn apos) es [] pos) env) ((ev C x ρ σ).bind fun v σ=>if ok v σ then(evs C xs ρ σ).bind fun vs σ=>fo v vs σ else .stuck) s α:=by
 intro hc;refine aS (vY (env:=env) (pos:=pos) S O) fun AU nn=>?_;refine wpAny_Call_method_lateS (tC lW) (by rw[AU];simp[backToKw,show keywordEach [] env=[]from rfl];(exact aH (by assumption) (by decide))) kq ?_;refine av.use ((S N o x L).2 env ρ σ s α au hn E r).1 hc fun va ac bb gy s₁ V cK aU aV aX a0=>?_;rw[V]
 split at cK
 ·rename_i hk;refine aS (cM hk aV aX) fun q4 q5=>?_;refine⟨TT,id,TO,cu,ty,q4,q5,?_⟩;have aC:=ov (pos:=pos) S O au hn (E.ext aU .nil) aV;refine Calls.callWith_builtin nn (w5 ?_ nn);rw[CO,aD hk];refine av.useL aU a0 aC cK fun vs ar α₂ us ba ak ei bq r2 bz cx=>?_;exact ak.symm▸((iX r2 (aX.ext bq) bz).endL (aU.trans bq) (a0.trans cx) ei)
 ·exact absurd rfl cK
noncomputable def Au:iu->String
 | .clear => "list"
noncomputable def Ar:iu->String
 | .clear => "list.clear"
noncomputable def As:iu->Str
 | .clear => "clear"
theorem R9{m:iu}(h:At x=some m):x=As m:=
 (show ∀p∈I7,p.1=As p.2 from fun p hp=>by
  repeat (rcases b5.mp hp with rfl | hp;exact rfl)
  contradiction) _ (na h)
theorem Sb(m:iu):PlainAttrs (Au m)/\Slot (Au m) (As m) (Ar m)/\typeOf (.builtin (Ar m))=pure (.type "method_descriptor"):=by
 cases m
 ·exact⟨F.plainAttrs_list,F.slot_list_clear,F.type_list_clear⟩
noncomputable def qi(m:iu)(o:H)(σ:aa):Bool:=
 match m with
 | .clear=>iZ o σ
theorem Sa{m:iu}{o:H}(h:qi m o σ=true)(r:ao K.hb s.heap σ α)(v:ai s.heap α o u):s.TypeIs u (Au m)/\∀a,u=.ref a->∃ob,s.heap.get? a=some ob/\ob.dict=none:=by
 cases m with
 | clear=>exact Ja (m:=.append) r v h
set_option tactic.hygienic true in
theorem Sj{m:iu}{o:H}(h:jS m o σ≠.stuck):qi m o σ=true:=by
 cases m with
 | clear =>
  unfold jS at h;dsimp only at h
  split at h
  ·split at h
   ·rename_i hs;simp only[qi,iZ,hs]
   ·exact absurd rfl h
  ·exact absurd rfl h
set_option tactic.hygienic true in
theorem Sk{m:iu}{o:H}(r:ao K.hb s.heap σ α)(v:ai s.heap α o u):av K ai A (call (.builtin (Ar m)) [u]) (jS m o σ) s α:=by
 intro hc
 cases m with
 | clear =>
  unfold jS at hc ⊢;dsimp only at hc ⊢
  split at hc
  ·rename_i i;refine ay v.refE fun a ag bW=>?_;obtain rfl:=ag
   split at hc
   ·rename_i xs hs
    split at hc
    ·rename_i hl;rw[aD hl];refine cJ (r.obj i _ a hs bW) fun items n V w=>?_;refine call_meets F.slot_list_clear ⟨_,V,rfl⟩ F.entry_list_clear (F.args_list_clear_1 _) (AutoSeq1.list_clear_list_0 a items.toArray n (by rw[fc,<- w.1];exact hP hl)) ⟨V,?_⟩;refine aL (BO (g:=fun J=>#[]) V) fun n' aE=>?_;refine aS (r.set (m:=.lst []) bW (fun b o hb e=>(BP hb).trans e) aE fun aO=>⟨[],n',aE,.nil⟩) fun aF aO=>?_;exact⟨.none,_,α,rfl,aO,aF,.none,⟨rfl,rfl⟩⟩
    ·exact absurd rfl hc
   ·exact absurd rfl hc
  ·exact absurd rfl hc
theorem Si{m:iu}{o:Expr}{x:X}(S:b0 K A C f)(hm:At mn=some m)(kq:(apos.endLine == pos.line)=true)(lW:nj o=true)(L:f N o=some x)
  (au:env.scope.names=N) (hn:cD K.hb env) (E:aZ env ρ s.heap α) (r:ao K.hb s.heap σ α) :
  av K ai A (eval (.Call (.Attribute o mn apos) [] [] pos) env) (ev C (.me0 m x) ρ σ) s α:=by
 rw[R9 hm,Ds];refine dN (Sb m) fun q1 q2 q3=>?_
 have aC:=Sr (K:=K) (A:=A) (ρ:=ρ) (σ:=σ) (s:=s) (α:=α) (env:=env) (apos:=apos) (pos:=pos) (es:=[]) (xs:=.nil) (fo:=fun v vs σ=>match vs with | []=>jS m v σ | _=>.stuck) (ok:=qi m) S lW kq (by trivial) q1 q2 q3
  (fun h r v=>Sa h r v) (fun{v vs σ s α u us} r v w=>by
   cases vs with
   | nil =>
    have:us=[]:=hE w.1.symm;subst this;exact Sk r v
   | cons _ _=>exact fun hc=>absurd rfl hc) L rfl au hn E r
 intro hc
 have e:((ev C x ρ σ).bind fun v σ=>if qi m v σ then(evs C .nil ρ σ).bind fun vs σ=>(match vs with | []=>jS m v σ | _=>.stuck)else .stuck)=(ev C x ρ σ).bind fun x σ=>jS m x σ:=by
  cases hx:ev C x ρ σ with
  | ok v ac =>
   rw[hx]at hc;have cg:jS m v ac≠.stuck:=hc;show(if qi m v ac=true then _ else _)=_;rw[aD (Sj cg)];rfl
  | exc i ac=>rfl
  | stuck=>rfl
 rw[e]at aC;exact aC hc
noncomputable def tc(cb:List Str)(cy:List H)(us:List (Value×Value)):Prop:=
 us.length=cb.length/\∀(i:Nat) k v,cb[i]?=some k->cy[i]?=some v->∃t u,us[i]?=some (Value.str k t,u)/\∀h α,ai h α v u
theorem tc.cons{us:List (Value×Value)}{k:Str}{v:H}{t:Tok}(hu:∀h α,ai h α v u)(aC:tc cb cy us):tc (k::cb) (v::cy) ((.str k t,u)::us):=by
 refine⟨congrArg Nat.succ aC.1,fun i br c6 V ak=>?_⟩
 cases i with
 | zero=>obtain rfl:=oi V;obtain rfl:=oi ak;exact⟨t,u,rfl,hu⟩
 | succ i=>exact aC.2 i br c6 V ak
theorem RX{v:H}(h:I1 e=some v){X:Value->Shared->Prop}(a6:∀u tk,(∀h α,ai h α v u)->Q u { s with toks:=tk }):wpAny (model K.prog K.w) A (eval e env) Q X s:=by
 cases e with
 | Constant c mQ C5 =>
  change we c=_ at h
  cases c with
  | none=>obtain rfl:=oi h;exact wpAny_Constant_none (a6 _ s.toks fun h α=>.none)
  | bool b=>obtain rfl:=oi h;exact wpAny_Constant_bool (a6 _ s.toks fun h α=>.bool b)
  | int i=>obtain rfl:=oi h;exact wpAny_Constant_int (a6 _ _ fun h α=>.int i _)
  | str z =>
   change cc _ _=_ at h
   exact cN h fun a7 h=>by obtain rfl:=oi h;exact wpAny_Constant_str (a6 _ _ fun h α=>.str z _ a7)
  | _=>contradiction
 | _=>contradiction
theorem I2(h:Ao e=some x):∃k p,e=.Constant (.str x) k p/\PyData.strOk x=true:=by
 cases e with
 | Constant c k p =>
  cases c with
  | str z =>
   change cc _ _=_ at h
   exact cN h fun a7 h=>by obtain rfl:=oi h;exact⟨_,_,rfl,a7⟩
  | _=>contradiction
 | _=>contradiction
noncomputable def Cd(K:a2)(A:Around)(env:Env)(pos:Pos)(ks:List (Option Expr))(vs:List Expr)(cb:List Str)(cy:List H):Prop:=
 ∃qv:List (Sem Value×Sem Value),(evalEachOpt ks env).zip ((evalEach vs env).map fun v=>do let x <- v;standAt pos;pure x)=qv.map (fun p=>(some p.1,p.2))/\qv.length=cb.length/\cy.length=cb.length ∧
   ∀{s:Shared} {Q:List (Value×Value)->Shared->Prop} {X:Value->Shared->Prop},(∀us tk,tc cb cy us->Q us { s with toks:=tk })->wpAny (model K.prog K.w) A (evalPairs qv) Q X s
theorem TP:∀{vs:List Expr} {cb:List Str} {cy:List H},rp ks=some cb->An vs=some cy->vs.length=ks.length->Cd K A env pos ks vs cb cy:=by
 induction ks with
 | nil =>
  intro vs cb cy L O hl;obtain rfl:=oi L;obtain rfl:=hE hl;obtain rfl:=oi O;exact⟨[],rfl,rfl,rfl,fun a6=>evalPairs_nil (a6 [] _ ⟨rfl,fun i k v e=>nomatch e⟩)⟩
 | cons k ks aj =>
  intro vs cb cy L O hl
  cases vs with
  | nil=>contradiction
  | cons e es =>
   change bI _ _ _=_ at L O;refine fM (M:=fun cb=>Cd K A env pos (k::ks) (e::es) cb cy) L fun ek IQ hs hr=>?_;refine fM O fun v Zf hc hv=>?_;refine ct hs fun YL hk hs=>?_;obtain⟨ll,p,rfl,cM⟩:=I2 hs;subst hk;obtain⟨qv,V,ak,bG,aC⟩:=aj hr hv (Nat.succ.inj hl);refine⟨(eval (.Constant (.str ek) ll p) env,do let x <- eval e env;standAt pos;pure x)::qv,?_,congrArg Nat.succ ak,congrArg Nat.succ bG,fun a6=>?_⟩
   ·rw[dD,<- V];rfl
   ·exact evalPairs_cons (wpAny_Constant_str (aM (RX hc fun u tk hu=>aM (wpAny_standAt (bJ (aC fun us pf hk=>a6 _ pf (hk.cons hu)))))))
theorem UZ:∀{ks:List Str} {vals:List H} {us:List (Value×Value)} {d5:List (Str×Value)} {k:Str},ks.length=us.length->vals.length=ks.length->d5=(ks.zip us).map (fun p=>(p.1,p.2.2)) ->
  (∀(i:Nat) k v,ks[i]?=some k->vals[i]?=some v->∃t u,us[i]?=some (Value.str k t,u)/\∀h α,ai h α v u) ->
  (∀v,i8 k (ks.zip vals)=some v->∃u,valueAt d5 k=some u/\∀h α,ai h α v u)/\(i8 k (ks.zip vals)=none->valueAt d5 k=none):=by
 intro ks
 induction ks with
 | nil =>
  intro vals us d5 k L O aw aQ;subst aw;exact⟨fun v e=>(by contradiction),fun J=>rfl⟩
 | cons a ks aj =>
  intro vals us d5 k L O aw aQ
  cases vals with
  | nil=>contradiction
  | cons v vals =>
   cases us with
   | nil=>contradiction
   | cons u us =>
    subst aw;obtain⟨t,gP,q1,q2⟩:=aQ 0 a v rfl rfl;obtain rfl:=oi q1;have aj:=aj (vals:=vals) (us:=us) (k:=k) (Nat.succ.inj L) (Nat.succ.inj O) rfl (fun i k v V ak=>aQ (i+1) k v V ak);rw[List.zip_cons_cons,List.zip_cons_cons,dD,KU];show(∀w,(if a=k then some v else i8 k (ks.zip vals))=some w->_)/\((if a=k then some v else i8 k (ks.zip vals))=none->_);by_cases hk:a=k
    ·rw[aD hk,aD hk];exact⟨fun w hw=>by obtain rfl:=oi hw;exact⟨gP,rfl,q2⟩,fun hw=>nomatch hw⟩
    ·rw[aY hk,aY hk];exact aj
theorem My:∀{ks:List Str} {vals:List H} {us:List (Value×Value)},ks.length=us.length->vals.length=ks.length ->
  (∀(i:Nat) k v,ks[i]?=some k->vals[i]?=some v->∃t u,us[i]?=some (Value.str k t,u)/\∀h α,ai h α v u)->Carries (strKind K.prog K.w) us ((ks.zip us).map fun p=>(p.1,p.2.2)):=by
 intro ks
 induction ks with
 | nil =>
  intro vals us L O aQ
  cases us with
  | nil=>trivial
  | cons u us=>contradiction
 | cons a ks aj =>
  intro vals us L O aQ
  cases vals with
  | nil=>contradiction
  | cons v vals =>
   cases us with
   | nil=>contradiction
   | cons u us =>
    obtain⟨t,gP,q1,q2⟩:=aQ 0 a v (by rfl) (by rfl);simp at q1;subst q1;refine⟨?_,rfl,aj (vals:=vals) (by simpa using L) (by simpa using O) fun i k v V ak=>by have:=aQ (i+1) k v (by simpa using V) (by simpa using ak);simpa using this⟩;show Value.isStrOf a (.str a t)=true;simp[Value.isStrOf]
theorem Tl(hK:K.Ok)(r:ao K.hb s.heap σ α):(s.heap.objs.size == sysModules)=false:=by
 refine jP hK.g fun o es d9 e J=>?_;have L:=e0 (r.base _ _ e);have O:mainGlobals<s.heap.objs.size:=L
 have aw:sysModules<=mainGlobals:=by decide
 have:s.heap.objs.size≠sysModules:=c7 (gX aw O);simpa using this
theorem Vs{a b:Expr}(L:i7 a=true)(O:i7 b=true):starEach [a,b] env=[(false,eval a env),(false,eval b env)]:=by
 rw[ii L,ii O];rfl
theorem NS{vs:List Expr}{X:Value->Shared->Prop}(hk:rp ks=some cb)(hv:xk ks.length vs=some cy)(oM:cb.Nodup)(c0:cb.length<=15)(dn:cb≠[])
  (a6:∀s₀ d5,(∀b o,s.heap.get? b=some o->s₀.heap.get? b=some o)->cq s s₀->s₀.heap.DictOf (strKind K.prog K.w) s.heap.objs.size d5->(∀k,(∀v,i8 k (cb.zip cy)=some v->∃u,valueAt d5 k=some u/\∀h α,ai h α v u)/\(i8 k (cb.zip cy)=none->valueAt d5 k=none))->Q (.ref s.heap.objs.size) s₀) :
  wpAny (model K.prog K.w) A (eval (.Dict ks vs pos) env) Q X s:=by
 refine cN hv fun Qq hv=>?_;refine om (TP (K:=K) (A:=A) (env:=env) (pos:=pos) hk hv (eq_of_beq Qq)) fun qv sL pl vl aC=>?_;refine wpAny_Dict_pairs (knd:=strKind K.prog K.w) sL (fun q=>dn (hE (pl.symm.trans (congrArg List.length q)))) (pl.symm▸c0) (aC fun us tk sh=>⟨_,My (K:=K) sh.1.symm vl sh.2,Heap.DictOf.new _,fun h' e3 fE=>?_⟩)
 have PI:((cb.zip us).map fun p=>(p.1,p.2.2)).map (·.1)=cb:=by
  rw[fV];exact List.map_fst_zip (Nat.le_of_eq sh.1.symm)
 exact a6 _ _ (fun b o e=>(fE.2 b (h5 (e0 e))).trans (c3 _ e)) ⟨rfl,rfl⟩ (merged_nil_of_nodup _ (PI.symm▸oM)▸e3) fun k=>UZ sh.1.symm vl rfl sh.2
theorem NU{k d:H}(h:rD cb cy k d σ≠.stuck)(g:∀q,k=.str q->P):P:=by
 cases k with
 | str q=>exact g q rfl
 | _=>exact absurd rfl h
theorem NT{vs:List Expr}{xl:Pos}{k d:Expr}{x y:X}(c:cf K A T C)(S:b0 K A C f)(kq:(apos.endLine == pos.line)=true)
  (hk:rp ks=some cb) (hv:xk ks.length vs=some cy) (oM:cb.Nodup) (c0:cb.length<=15) (dn:cb≠[]) (L:f N k=some x) (O:f N d=some y)
  (au:env.scope.names=N) (hn:cD K.hb env) (E:aZ env ρ s.heap α) (r:ao K.hb s.heap σ α) :
  av K ai A (eval (.Call (.Attribute (.Dict ks vs xl) "get" apos) [k,d] [] pos) env) ((ev C x ρ σ).bind fun k σ=>(ev C y ρ σ).bind fun d σ=>rD cb cy k d σ) s α:=by
 intro hc;refine aS (S N k x L) fun zS jG=>?_;refine aS (S N d y O) fun m3 d0=>?_;refine Call_method2 rfl (Vs zS m3) kq (NS hk hv oM c0 dn fun s₀ d5 ll qh hd g=>?_);have hm:=Tl c.hK r;have hD:=lq s;generalize s.heap.objs.size=D at hd hm hD;have kI:a4 [] α s.heap α s₀.heap:=.keeps ll;refine⟨"dict", "dict.get",F.plainAttrs_dict,F.slot_dict_get,F.type_dict_get,hd.typeIs,hd.mapOf.noDict,?_⟩;refine wpAny_dict_get2 (knd:=strKind K.prog K.w) hm (av.useL kI qh (jG env ρ σ s₀ α au hn (E.ext kI .nil) (r.keeps ll)).1 hc fun pk ac bb Za s₁ V cK aU aV aX a0=>?_);rw[V];refine av.useL (f:=fun d σ=>rD cb cy pk d σ) (kI.trans aU) (qh.trans a0) (d0 env ρ ac s₁ bb au hn ((E.ext kI .nil).ext aU .nil) aV).1 cK fun YY ar α₂ Y9 ba ak ei bq r2 bz cx=>?_;refine NU ei fun qd P6=>?_;subst P6;refine ay aX.strE fun Wf ag hq=>?_;obtain rfl:=ag;refine jP hd fun lr es d9 pR tL=>?_;have m1:D∉α.ix:=fun q=>aL (r.live q) fun o e=>nomatch hD.symm.trans e
 have Hv:D∉α.fr:=fun q=>by
  obtain⟨_,o,e,_⟩:=r.frs _ (r.fe▸q);exact nomatch hD.symm.trans e
 have M4:=(aU.rest _ _ m1 et pR).not Hv;have M5:=(bq.rest _ _ (aU.notMem m1 pR) et M4).not (aU.fre▸Hv);refine⟨qd,_,by show Value.isStrOf qd (.str qd Wf)=true;simp[Value.isStrOf],Heap.DictOf.mapOf ⟨_,es,d9,M5,tL⟩,?_⟩;show cp K ai ((ev C y ρ ac).bind _) _ _ _ _;rw[ak];refine⟨_,ar,α₂,rfl,(kI.trans aU).trans bq,r2,?_,(qh.trans a0).trans ⟨cx.gens,cx.os⟩⟩
 cases u5:i8 qd (cb.zip cy)with
 | none=>exact((g qd).2 u5).symm▸bz
 | some w=>exact ay ((g qd).1 w u5) fun u q1 q2=>q1.symm▸(q2 _ _)
theorem QQ{x:X}(h:Ag x=false):evIt C x ρ σ=(ev C x ρ σ).bind d4:=by
 cases x <;> first | (contradiction;done) | (rfl)
theorem Rb{x:X}(c:cf K A T C)(dg:C.hd=false)(S:b0 K A C f)(h:f N e=some x)(hi:Ag x=false)(au:env.scope.names=N)(hn:cD K.hb env)(E:aZ env ρ s.heap α)(r:ao K.hb s.heap σ α) :
  jf K A en (eval e env) (evIt C x ρ σ) s α:=by
 rw[QQ hi];intro hc;refine av.use ((S N e x h).2 env ρ σ s α au hn E r).1 hc fun v ac bb y s₁ V cK aU aV aX a0=>?_;exact V.symm▸(cr (Rj c.hA (c.hd dg) aV aX cK) (fun it ba hp=>hp.lift aU a0) fun J J e=>e)
noncomputable def pE(K:a2)(A:Around)(t:Sem Value)(c:ah (List H×Option (Nat×aW)))(s:Shared)(α:ax):Prop:=c≠.stuck->wpAny (model K.prog K.w) A t (mG K c s α) (da K A c s α) s
theorem Rc{a:Expr}{p:Pos}{x:X}(c:cf K A T C)(S:b0 K A C f)(h:f N a=some x)(hg:fC N "range" = true)(hN:("range" : Str)∈T.bins)(au:env.scope.names=N)(hn:cD K.hb env)(E:aZ env ρ s.heap α)(r:ao K.hb s.heap σ α) :
  pE K A (eval (.Call (.Name "range" p) [a] [] pos) env) (evIt C (.range1 x) ρ σ) s α:=by
 show pE K A _ ((ev C x ρ σ).bind nr) s α;intro hc;refine aS (S N a x h) fun hp aC=>?_;refine kd (kh c hg hN rfl au E.ok r ?_);rw[ii hp];refine PySem.callWith_type1 (av.use (aC env ρ σ s α au hn E r).1 hc fun v ac bb y s₁ V cK aU aV aX a0=>?_);exact V.symm▸(cr (Mt aV aX cK) (fun it ba hp=>hp.lift aU a0) fun J J e=>e)
theorem Ra{a:Expr}{p:Pos}{x:X}(c:cf K A T C)(dg:C.hd=false)(S:b0 K A C f)(h:f N a=some x)(hg:fC N "enumerate" = true)(hN:("enumerate" : Str)∈T.bins)(au:env.scope.names=N)(hn:cD K.hb env)(E:aZ env ρ s.heap α)(r:ao K.hb s.heap σ α) :
  jf K A true (eval (.Call (.Name "enumerate" p) [a] [] pos) env) (evIt C (.enum x) ρ σ) s α:=by
 show jf K A true _ ((ev C x ρ σ).bind ou) s α;intro hc;refine aS (S N a x h) fun hp aC=>?_;refine kd (kh c hg hN rfl au E.ok r ?_);rw[ii hp];refine PySem.callWith_type1 (av.use (aC env ρ σ s α au hn E r).1 hc fun v ac bb y s₁ V cK aU aV aX a0=>?_);exact V.symm▸(cr (Rh (c.hd dg) aV aX cK) (fun it ba hp=>cr hp (fun y eK hp=>hp.lift aU a0) fun J J e=>e) fun J J e=>e)
theorem m9{q:Str×Pos}(h:m8 e=some q):e=.Name q.1 q.2:=qk (o:=Jq e) h
theorem CT{α:Type}{g:{ q:B1 // e=.Call q.f q.as q.ks q.pos }->Option α}{a:α}{M:Prop}(h:(tF e).bind g=some a)(k:∀c,g c=some a->M):M:=by
 cases hc:tF e with
 | none=>rw[hc]at h;exact nomatch h
 | some c=>rw[hc]at h;exact k c h
theorem tE{q:wF}(h:rn e=some q):e=.Call (.Name q.g q.p) [q.a] [] q.pos:=by
 refine CT h fun c h=>?_;refine cN h fun h0 h=>fM (M:=fun q:wF=>e=.Call (.Name q.g q.p) [q.a] [] q.pos) h fun n a L O=>?_;refine c.2.trans ?_;rw[m9 L,sw O,gY.mp h0]
theorem Mq{q:wG}(h:callN? e=some q):e=.Call (.Name q.g q.p) q.as [] q.pos:=by
 refine CT h fun c h=>?_;refine cN h fun h0 h=>fD (M:=fun q:wG=>e=.Call (.Name q.g q.p) q.as [] q.pos) h fun n L=>?_;refine c.2.trans ?_;rw[m9 L,gY.mp h0]
theorem Wj{k:Nat}{xs:X}(h:Bs T N (f N) g k e=some xs)(cb:∀p as pos,e=.Call (.Name g p) as [] pos->fC N g=true->g∈T.bins->as.length=k->fk (f N) as=some xs->P):P:=by
 refine ct h fun q hq h'=>cN h' fun hc gh=>?_;refine aS (df hc) fun hc aw=>?_;refine aS (df hc) fun L O=>?_;refine aS (df O) fun aQ c5=>?_;obtain rfl:=eq_of_beq L;exact cb q.p q.as q.pos (Mq hq) aQ (by simpa using c5) (eq_of_beq aw) gh
theorem XF{vs:List H}(h:ww vs σ≠.stuck)(k:∀a b,vs=[a,b]->P):P:=by
 cases vs with
 | nil=>exact absurd rfl h
 | cons a l =>
  cases l with
  | nil=>exact absurd rfl h
  | cons b l =>
   cases l with
   | nil=>exact k a b rfl
   | cons c l=>exact absurd rfl h
theorem Re{xs:X}(c:cf K A T C)(dg:C.hd=false)(S:b0 K A C f)(h:Bs T N (f N) "zip" 2 e=some xs)(au:env.scope.names=N)(hn:cD K.hb env)(E:aZ env ρ s.heap α)(r:ao K.hb s.heap σ α) :
  jf K A true (eval e env) (evIt C (.zip xs) ρ σ) s α/\i7 e=true:=by
 refine Wj h fun p as pos he hg hb hl gh=>?_;subst he;refine⟨?_,rfl⟩;show jf K A true _ ((evs C xs ρ σ).bind ww) s α;intro hc;refine L9 c S hg hb rfl (.inl ⟨_,rfl⟩) gh au hn E r hc fun vs ac bb us s₁ V cK aU aV aX a0=>?_;rw[V];refine XF cK fun a b hv=>?_;subst hv;refine cJ aX.inv_cons fun x Zc ag bp=>?_;obtain rfl:=ag;obtain⟨va,aX⟩:=bp;refine cJ aX.inv_cons fun y Zd ag bp=>?_;obtain rfl:=ag;obtain⟨vb,aX⟩:=bp;obtain rfl:=hE aX.1.symm;exact cr (Rk (c.hd dg) aV va vb cK) (fun it ba hp=>cr hp (fun y eK hp=>hp.lift aU a0) fun J J e=>e) fun J J e=>e
theorem WE{x:X}{P:X->Prop}(h:BC T N (f N) e=some x)(k:∀p a pos y,e=.Call (.Name "range" p) [a] [] pos->fC N "range" = true->("range" : Str)∈T.bins->f N a=some y->P (.range1 y)):P x:=by
 unfold BC at h;refine ct h fun q hq h=>cN h fun hc h=>?_;refine aS (df hc) fun L O=>?_;refine aS (df O) fun aQ c5=>?_;have he:=tE hq;rw[eq_of_beq L]at he aQ c5;exact fD h fun y hy=>k q.p q.a q.pos y he aQ (by simpa using c5) hy
theorem WF{x:X}(c:cf K A T C)(S:b0 K A C f)(h:BD T N (f N) e=some x)(au:env.scope.names=N)(hn:cD K.hb env)(E:aZ env ρ s.heap α)(r:ao K.hb s.heap σ α) :
  pE K A (eval e env) (evIt C x ρ σ) s α/\i7 e=true:=by
 unfold BD at h
 exact WE (P:=fun x=>pE K A (eval e env) (evIt C x ρ σ) s α/\i7 e=true) h fun p a pos y he hg hb gh=>by subst he;exact⟨Rc c S gh hg hb au hn E r,rfl⟩
theorem pE.it{iR:ah (List H×Option (Nat×aW))}(c:cf K A T C)(dg:C.hd=false)(aC:pE K A (eval e env) iR s α):jf K A en (eval e env) iR s α:=fun hc =>
 cr (aC hc) (fun J J p=>p.iter c.hA (c.hd dg)) fun J J e=>e
theorem wh{x:X}(c:cf K A T C)(dg:C.hd=false)(S:b0 K A C f)(h:pi T N (f N) e=some x)(au:env.scope.names=N)(hn:cD K.hb env)(E:aZ env ρ s.heap α)(r:ao K.hb s.heap σ α) :
  jf K A en (eval e env) (evIt C x ρ σ) s α/\i7 e=true:=by
 unfold pi at h;refine jX h (fun y hy h=>?_) fun J h=>?_
 ·obtain rfl:=oi h;refine aS (WF c S hy au hn E r) fun q1 q2=>?_;exact⟨q1.it c dg,q2⟩
 ·unfold KG at h;refine ct h fun y hq h=>cN h fun hi h=>?_;obtain rfl:=oi h;exact⟨Rb c dg S hq (by simpa using hi) au hn E r,(S N e _ hq).1⟩
theorem Wu{x:X}(c:cf K A T C)(dg:C.hd=false)(S:b0 K A C f)(h:wg T N (f N) e=some x)(au:env.scope.names=N)(hn:cD K.hb env)(E:aZ env ρ s.heap α)(r:ao K.hb s.heap σ α) :
  ∃en,jf K A en (eval e env) (evIt C x ρ σ) s α/\i7 e=true:=by
 unfold wg at h;refine jX h (fun y hy h=>?_) fun J h=>?_
 ·obtain rfl:=oi h;unfold KE at hy;refine ct hy fun q hq vd=>cN vd fun hg Qy=>?_;clear vd hy;simp only[eB,l1,ff]at hg;have hq:=tE hq;obtain⟨g,p,a,pos⟩:=q;refine dN hg fun L hg hb=>?_;dsimp only at L;subst L hq;refine fD (M:=fun y=>∃en,jf K A en (eval (.Call (.Name "enumerate" p) [a] [] pos) env) (evIt C y ρ σ) s α/\i7 (.Call (.Name "enumerate" p) [a] [] pos)=true) Qy fun z a7=>⟨true,Ra c dg S a7 hg (by simpa using hb) au hn E r,rfl⟩
 refine jX h (fun y hy h=>?_) fun J h=>?_
 ·obtain rfl:=oi h;exact fD (M:=fun y=>∃en,jf K A en (eval e env) (evIt C y ρ σ) s α/\i7 e=true) hy fun xs hx=>⟨true,Re c dg S hx au hn E r⟩
 exact⟨false,wh c dg S h au hn E r⟩
theorem M2{pk:Bool}(r:ao K.hb s.heap σ α):av K ai A (eval (.Dict [] [] pos) env) (ev C (.dnew pk) ρ σ) s α:=by
 intro hc;refine wpAny_Dict_empty ?_;have k:∀b o,s.heap.get? b=some o->(s.heap.push { cls:=.type "dict",data:=.dict #[] }).get? b=some o:=fun b o e=>c3 _ e
 cases pk with
 | true =>
  refine aS (r.add (D:=s.heap.objs.size) (m:=.dp []) k (lq s) ⟨[],Heap.DictOfH.new _,rfl,(fun x hx=>nomatch hx),.nil⟩) fun aF x=>?_;refine⟨_,_,_,rfl,x,aF,.ref ?_,⟨rfl,rfl⟩⟩;rw[r.len];simp[ax.add]
 | false =>
  refine aS (r.add (D:=s.heap.objs.size) (m:=.ds []) k (lq s) ⟨[],Heap.DictOf.new _,rfl,.nil⟩) fun aF x=>?_;refine⟨_,_,_,rfl,x,aF,.ref ?_,⟨rfl,rfl⟩⟩;rw[r.len];simp[ax.add]
theorem WB{p:Pos}{x:X}(c:cf K A T C)(S:b0 K A C f)(hg:fC N g=true)(h:Bz T (f N) g args=some x):jD K A C N (.Call (.Name g p) args [] pos) x:=by
 unfold Bz at h;refine ct h fun q hb h=>cN h fun hc h=>ct h fun j a5 h=>fD h fun xs H7=>fg (fun J J=>rfl) (fun J J=>rfl) fun{env ρ σ s α} au hn E r cg=>?_;obtain⟨b,cl⟩:=q;rw[Du]at cg ⊢;refine aS (df hc) fun L O=>?_;obtain rfl:=eq_of_beq L
 have rT:T.meths[j]?=some ("__init__" : Str):=by
  refine ay (List.findIdx?_eq_some_iff_getElem.mp a5) fun L O J=>?_;rw[dI L,eq_of_beq O]
 refine bu (c.brd _ cl hb) fun F B iX J=>?_;have iX:=iX j rT;refine aL (p7 hg) fun i hi=>?_;refine kd (qp c.hK r E.ok (by rw[au];exact hi) B.mg ?_)
 cases args with
 | nil=>contradiction
 | cons e es =>
  have aC:=ov (pos:=pos) S H7 au hn E r;refine jn (nH H7) fun ed cX jQ gj J=>?_;refine PySem.W.callWith_K B.inn B.keep ?_ (ii (S N e ed jQ).1) (vY S gj).2;refine av.use aC cg fun vs σ' α' us s' V cK aO aF c6 bw=>⟨fun a o e=>aF.base a o (B.inn a o e),?_⟩;show wpAny (model K.prog K.w) A (call (.ref cl) us) (cp K ai ((evs C xs ρ σ).bind fun vs σ=>l7 C cl (T.fns.length+j) vs σ) s α) (da K A ((evs C xs ρ σ).bind fun vs σ=>l7 C cl (T.fns.length+j) vs σ) s α) s';rw[V];exact cr (iX vs us s' σ' α' aF c6 cK) (fun y kD hp=>hp.lift aO bw) fun e kD hx=>hx.lift aO bw
section
open PySem.W
theorem ao.frag{F:Frag}(x:F.In K.hb.h)(r:ao K.hb h σ α):F.In h:=fun a o e=>r.base a o (x a o e)
theorem IC{x:Value}(v:ai s.heap α (.inst c i) x):∃a D,x=.ref a/\s.heap.get? a=some (instObj c D)/\a∉α.all/\α.ix[i]?=some D:=by
 cases v with | inst e hn hi=>exact⟨_,_,rfl,e,hn,hi⟩
theorem R1{es:Array DictEntry}{d9:Nat}{n:Str}(hd:o.data=.dict es d9)(hk:StrKeys es):lookIn n o=some (nsFind es n):=by
 unfold lookIn;rw[hd];dsimp only;unfold nsFind findBy
 have h0:(es.toList.any fun x=>x.refKey)=false:=by
  rw[List.any_eq_false];intro e he;obtain⟨m,t,h⟩:=hk e (by simpa using he);simp[DictEntry.refKey,h]
 rw[h0,<- Array.find?_toList];cases es.toList.find? (fun e=>e.key.isStr n) <;> rfl
theorem IB{x:Value}(r:ao K.hb s.heap σ α)(nJ:ai s.heap α (.inst c i) x)(hs:σ[i]?=some (.ns fs)) :
  ∃a D lr,x=.ref a/\InstAt s.heap a (instObj c D) c (some lr)/\∀n,∃q,lookIn n lr=some q/\(∀v,aG n fs=some v->∃u,q=some u/\ai s.heap α v u)/\(aG n fs=none->q=none):=by
 refine cJ (IC nJ) fun a D ag bp=>?_;obtain rfl:=ag;refine dN bp fun bW ha hi=>?_;refine bu (r.obj i _ D hs hi) fun m vR ju bI=>?_;refine rt vR fun lr Nq Nm pR tL Ro J NP=>?_;refine⟨a,D,lr,rfl,⟨bW,rfl,rfl,pR⟩,fun n=>⟨m n,?_,ju n,bI n⟩⟩;rw[R1 tL Ro,NP]
theorem O9{v:H}(h:ai s.heap α v u):handedIn u=true:=by cases h <;> rfl
theorem L0{F:Frag}{b n:Str}{o:H}{x:Value}(B:j5 K F b c)(hn:n∈kU)(r:ao K.hb s.heap σ α)(nJ:ai s.heap α o x):av K ai A (getAttr x n true) (rj c o n σ) s α:=by
 intro hc;unfold rj at hc ⊢
 cases o with
 | inst b3 i =>
  dsimp only at hc ⊢;by_cases q:b3=c
  ·subst q;rw[aD rfl]at hc ⊢
   cases hs:σ[i]? with
   | none=>rw[hs]at hc;exact absurd rfl hc
   | some o2 =>
    rw[hs]at hc
    cases o2 with
    | ns fs =>
     dsimp only at hc ⊢
     cases hv:aG n fs with
     | none=>rw[hv]at hc;exact absurd rfl hc
     | some v =>
      refine jP (IB r nJ hs) fun a D lr ag bp=>?_;obtain rfl:=ag;refine aS bp fun I aC=>?_;refine bu (aC n) fun q L O J=>?_;refine ay (O v hv) fun u ag di=>?_;obtain rfl:=ag;exact get_value (r.frag B.inn) I B.geta (findObj_own B.hasd (B.none n hn) rfl L) (O9 di) (.here r di)
    | _=>exact absurd rfl hc
  ·rw[aY q]at hc;exact absurd rfl hc
 | _=>exact absurd rfl hc
theorem LZ{o:Expr}{n:Str}{x:X}{b:Str}{cl:Nat}(c:cf K A T C)(S:b0 K A C f)(hb:T.brd=some (b,cl))(lW:nj o=true)(hm:n∈kU)(L:f N o=some x)
  (au:env.scope.names=N) (hn:cD K.hb env) (E:aZ env ρ s.heap α) (r:ao K.hb s.heap σ α):av K ai A (eval (.Attribute o n pos) env) (ev C (.attr cl x n) ρ σ) s α:=by
 refine ay (c.brd b cl hb) fun F B J=>?_;rw[Dp,arm_eval_Attribute,tC lW];refine av.bind ((S N o x L).2 env ρ σ s α au hn E r).1 fun va ac bb wk s₁ V aU aV aX a0=>av.standAt ?_;intro hc;exact aM (hH (cr (L0 B hm aV aX hc) (fun u s' hp=>aM (wpAny_letTemporaryGo (bJ hp))) fun J J e=>e))
theorem Ms{prog:Program}{w:World}{o:Expr}{name:Str}
  (rP:attributeBase o name env (eval o env)=eval o env)
  (Pw:methodCallForm (args.length+([]:List Keyword).length) (backTo pos (starEach args env)) (backToKw pos (keywordEach [] env))=true) (kq:(apos.endLine == pos.line)=true)
  (h:wpAny (model prog w) A (eval o env) (fun kB s₁=>∀pl,wpAny (model prog w) A (getMethod kB name pl) (fun q ba=>wpAny (model prog w) A (callWith pos q.1 q.2 (backTo pos (starEach args env)) []) Q E ba) E s₁) E s) :
  wpAny (model prog w) A (eval (.Call (.Attribute o name apos) args [] pos) env) Q E s:=by
 rw[arm_eval_Call,rP];refine aM (cr h (fun kB s₁ cT=>aM (wpAny_standAt ?_)) fun J J e=>e)
 have u4:methodCallPos true o env apos pos=pure pos:=by unfold methodCallPos;simp[kq]
 unfold methodCall;rw[Pw];refine aM (hH ?_);exact cr (cT _) (fun q ba h₂=>aM (wpAny_of_eq u4 h₂)) fun J J e=>e
theorem Su{es:List Expr}(h:(backTo pos (starEach es env)).all (fun x=>!x.1)=true)(hl:es.length<20):methodCallForm (es.length+([]:List Keyword).length) (backTo pos (starEach es env)) (backToKw pos (keywordEach [] env))=true:=by
 show((backTo pos (starEach es env)).all (fun x=>!x.1)&&true&&decide (es.length<30))=true;rw[h];exact dz (hF hl (by decide))
theorem Sv{n:Str}{x:H}{g:aa->ah (List H)}{M:ah H->Prop}(h:o1 C c j n x g σ≠.stuck)
  (k:∀i fs,x=.inst c i->σ[i]?=some (.ns fs)->aG n fs=none->((g σ).bind fun vs σ=>C.call j (.inst c i::vs) σ)≠.stuck->M ((g σ).bind fun vs σ=>C.call j (.inst c i::vs) σ)):M (o1 C c j n x g σ):=by
 unfold o1 at h ⊢
 cases x with
 | inst b3 i =>
  dsimp only at h ⊢;by_cases q:b3=c
  ·subst q;rw[aD rfl]at h ⊢
   cases hs:σ[i]? with
   | none=>rw[hs]at h;exact absurd rfl h
   | some o2 =>
    rw[hs]at h
    cases o2 with
    | ns fs =>
     dsimp only at h ⊢
     cases hv:aG n fs with
     | some v=>rw[hv]at h;exact absurd rfl h
     | none=>rw[hv]at h;exact k i fs rfl hs hv h
    | _=>exact absurd rfl h
  ·rw[aY q]at h;exact absurd rfl h
 | _=>exact absurd rfl h
theorem Ss{o:Expr}{es:List Expr}{x xs:X}{b:Str}{cl:Nat}(c:cf K A T C)(S:b0 K A C f)(hb:T.brd=some (b,cl))(a5:T.meths[j]?=some mn)(lW:nj o=true)(kq:(apos.endLine == pos.line)=true)(c0:es.length<20)
  (L:f N o=some x) (O:fk (f N) es=some xs) (au:env.scope.names=N) (hn:cD K.hb env) (E:aZ env ρ s.heap α) (r:ao K.hb s.heap σ α) :
  av K ai A (eval (.Call (.Attribute o mn apos) es [] pos) env) ((ev C x ρ σ).bind fun v σ=>o1 C cl (T.fns.length+j) mn v (fun σ=>evs C xs ρ σ) σ) s α:=by
 refine bu (c.brd b cl hb) fun F B J Lc=>?_;refine rt (Lc j mn a5) fun YS o2 fd q1 q2 q3 q4 iX=>?_;intro hc;refine aS (vY (env:=env) (pos:=pos) S O) fun AU nn=>?_;refine Ms (tC lW) (Su AU c0) kq (av.use ((S N o x L).2 env ρ σ s α au hn E r).1 hc fun va ac bb gy s₁ V cK aU aV aX a0 pl=>?_);rw[V];refine Sv (M:=fun o=>wpAny (model K.prog K.w) A (getMethod gy mn pl) (fun q ba=>wpAny (model K.prog K.w) A (callWith pos q.1 q.2 (backTo pos (starEach es env)) []) (cp K ai o s α) (da K A o s α) ba) (da K A o s α) s₁) cK fun i fs Qp hs hv dn=>?_;subst Qp;refine jP (IB aV aX hs) fun a D lr ag bp=>?_;obtain rfl:=ag;refine aS bp fun I aC=>bu (aC mn) fun q g1 J g2=>?_;obtain rfl:=g2 hv;refine method_fn (aV.frag B.inn) I B.geta B.getr q1 q2 (by show(lookIn mn lr).map (·.isSome)=_;rw[g1];rfl) (Calls.callWith_function (o:=o2) (fd:=fd) (w5 ?_ nn));refine av.useL aU a0 (ov (pos:=pos) S O au hn (E.ext aU .nil) aV) dn fun vs ar α₂ us ba ak ei bq r2 bz cx=>⟨⟨r2.base _ _ q3,q4⟩,?_⟩;exact ak.symm▸((iX (.inst cl i::vs) _ ba ar α₂ r2 (.cons (aX.ext bq) bz)).endL (aU.trans bq) (a0.trans cx) ei)
end
theorem sK:∀{names:List (Str×NameKind)},o9 names=true->wU names:=by
 intro r
 induction r with
 | nil =>
  intro _;exact⟨fun i j x k br h=>(nomatch h),fun i x k h=>(nomatch h),fun i x k h=>(nomatch h)⟩
 | cons bK r aj =>
  obtain⟨y,k0⟩:=bK;intro h;simp only[o9,eB,Bool.not_eq_true',Bool.or_eq_true,ff]at h;obtain⟨⟨⟨L,O⟩,aw⟩,aQ⟩:=h;have aj:=aj aQ
  have no:∀(i:Nat) (k:NameKind),r[i]?≠some (y,k):=fun i k e=>by
   have hm:=d2 e;rw[List.any_eq_false]at L;exact L _ hm (by simp)
  refine⟨fun i j x k br V ak=>?_,fun i x k e=>?_,fun i x k e=>?_⟩
  ·cases i with
   | zero =>
    cases j with
    | zero=>rfl
    | succ j =>
     simp at V ak;obtain⟨rfl,rfl⟩:=V;exact absurd ak (no j br)
   | succ i =>
    cases j with
    | zero =>
     simp at V ak;obtain⟨rfl,rfl⟩:=ak;exact absurd V (no i k)
    | succ j =>
     simp at V ak;rw[aj.uniq i j x k br V ak]
  ·cases i with
   | zero=>simp at e;obtain⟨rfl,rfl⟩:=e;exact O
   | succ i=>simp at e;exact aj.nodbg i x k e
  ·cases i with
   | zero =>
    simp at e;obtain⟨rfl,rfl⟩:=e
    rcases aw with(aw | aw) | aw
    ·exact .inl aw
    ·exact .inr (.inl aw)
    ·exact .inr (.inr aw)
   | succ i=>simp at e;exact aj.kinds i x k e
theorem CZ{t:Nat}{elt it:X}(dg:C.hd=false):ev C (.comp a9 t cF elt cond it) ρ σ =
  oa a9 (fun v σ=>tst C cond ((c4 cF ρ).set t (some v)) σ) (fun v σ=>ev C elt ((c4 cF ρ).set t (some v)) σ) (evIt C it ρ σ):=by
 rw[kZ,dg];unfold oa ic;rw[cond_false];congr 1
structure qV(T:bk)(N:List (Str×NameKind))(f:List (Str×NameKind)->Expr->Option X)(elt:Expr)(x:Str)(iter:Expr)(ifs:List Expr)(scope:Scope)(a9:Bool)(t:Nat)(e c i:X):Prop where
 kind:scope.kind=.function
 sc:o9 (dv N scope.names)=true
 cells:∀p∈scope.names,p.2≠.cell
 tgt:(dv N scope.names)[t]?=some (x,NameKind.local)
 it:pi T N (f N) iter=some i
 elt:f (dv N scope.names) elt=some e
 cond:Bw (f (dv N scope.names)) ifs=some c
theorem KD{iter:Expr}{y:X}{P:X->Prop}(h:wd T N f elt x iter ifs scope pos=some y)
  (k:∀t e c i,qV T N f elt x iter ifs scope (!(T.muts.contains (pos.line,pos.col))) t e c i->P (.comp (!(T.muts.contains (pos.line,pos.col))) t (h9 N (dv N scope.names)) e c i)):P y:=by
 unfold wd at h;refine cN h fun hk h=>ct h fun t J h=>cN h fun a3 h=>kA h fun i e c L O aw=>k t e c i ?_;refine aS (df hk) fun hk PH=>?_;refine aS (df hk) fun k9 lb=>?_;exact⟨eq_of_beq k9,lb,fun p hp=>bne_iff_ne.mp (fI.mp PH p hp),eq_of_beq a3,L,O,aw⟩
theorem qV.ok{iter:Expr}{t:Nat}{e c i:X}(q:qV T N f elt x iter ifs scope a9 t e c i)(au:env.scope.names=N):j6 env.scope.names scope t x:=by
 subst au;exact⟨q.kind,sK q.sc,q.cells,q.tgt⟩
theorem tK{jE:Addr}(au:env.scope.names=N)(E:aZ env ρ s.heap α):(gI scope jE env).scope.names=dv N scope.names:=by exact au▸(A7 E.ok.kind)
theorem tI(au:env.scope.names=N):oc scope env ρ=c4 (h9 N (dv N scope.names)) ρ:=by rw[<- au]
theorem C3{M:List (Str×NameKind)}{cenv:Env}(S:b0 K A C f)(h:Bw (f M) ifs=some cond)(OY:cenv.scope.names=M)(n':cD K.hb cenv)(cR:aZ cenv ρ s.heap α)(aF:ao K.hb s.heap σ α) :
  av K gU A (forIn ifs true fun c r=>if r=true then do let ok <- isTrue c cenv (eval c cenv);pure (ForInStep.yield ok)else pure (ForInStep.yield r)) (tst C cond ρ σ) s α:=by
 cases ifs with
 | nil =>
  obtain rfl:=oi h;exact fun J=>wpAny_tests_nil ⟨true,σ,α,rfl,.refl,aF,rfl,.refl _⟩
 | cons cE oe =>
  change cc _ _=_ at h;refine cN h fun h0 h=>?_;exact(gY.mp h0).symm▸(fun hc=>wpAny_tests_one (((S _ cE cond h).2 _ _ σ s α OY n' cR aF).2 hc))
theorem CX{iter:Expr}{t:Nat}{e iR i:X}(c:cf K A T C)(S:b0 K A C f)(q:qV T N f elt x iter ifs scope a9 t e iR i)
  (au:env.scope.names=N) (hn:cD K.hb env) (E:aZ env ρ s.heap α) (r:ao K.hb s.heap σ α) :
  av K ai A (eval (.ListComp elt [⟨.Name x hU,iter,ifs,0⟩] scope pos) env) (ev C (.comp a9 t (h9 N (dv N scope.names)) e iR i) ρ σ) s α:=by
 cases dg:C.hd with
 | true=>rw[kZ,dg];exact fun hc=>absurd rfl hc
 | false =>
 rw[CZ dg];obtain⟨e4,hpl⟩:=wh c dg S q.it au hn E r;refine RQ (q.ok au) E e4 (fun jE v s' σ' α' n' cR aF=>?_) (fun jE v s' σ' α' n' cR aF=>?_) c.fr hn r (AV hpl)
 ·rw[tI au]at cR;exact C3 S q.cond (tK au E) n' cR aF
 ·rw[tI au]at cR;exact((S _ elt e q.elt).2 _ _ σ' s' α' (tK au E) n' cR aF).1
theorem Wm{l:Expr}{os:List CmpOp}{ij:List Expr}{x:X}(c:cf K A T C)(S:b0 K A C f)(h:Bu (f N) l os ij=some x):jD K A C N (.Compare l os ij pos) x:=by
 unfold Bu at h
 cases os with
 | nil=>contradiction
 | cons o os =>
  cases ij with
  | nil=>contradiction
  | cons aV ij =>
   cases os with
   | nil =>
    change cc _ _=_ at h;refine cN h fun h0 h=>?_;exact(gY.mp h0).symm▸(kA h fun aP a b L O aw env ρ σ s α au hn E r=>MK c S L O aw au hn E r)
   | cons bI os =>
    cases ij with
    | nil=>contradiction
    | cons r2 ij =>
     change cc _ _=_ at h;refine cN h fun h0 h=>ct h fun aP L h=>?_;refine aS (df h0) fun h0 OE=>?_;exact(gY.mp h0).symm▸(gY.mp OE).symm▸(Ts h fun a b YV c8 O aw aQ c5 env ρ σ s α au hn E r=>MJ c S L aQ O aw c5 au hn E r)
theorem WC{a:Expr}{p:Pos}{x:X}(c:cf K A T C)(S:b0 K A C f)(hg:fC N g=true)(gj:g∈T.bins)(h:BA T N (f N) pos g a=some x):jD K A C N (.Call (.Name g p) [a] [] pos) x:=by
 unfold BA at h;refine jX h (fun y zM h'=>?_) fun J h=>?_
 rotate_left
 ·exact fM h fun b1 aU kp p2=>fg (fun J J=>rfl) (fun J J=>rfl) fun au hn E r=>L1 c S kp hg gj p2 au hn E r
 unfold IY at zM;clear h;refine ct zM fun q hq HU=>cN HU fun ie PO=>?_;clear HU zM;have hq:=tE hq;obtain⟨g2,bS,aT,AX⟩:=q;obtain rfl:=oi PO;simp only[eB,ff,l1]at ie;obtain⟨⟨L,O⟩,zJ,hb2⟩:=ie;subst L O hq;exact fD h' fun z a7=>fg (fun J J=>rfl) (fun J J=>rfl) fun au hn E r=>RL c S hg gj zJ (by simpa using hb2) a7 au hn E r
theorem WM{a b:Expr}{p:Pos}{x:X}(c:cf K A T C)(S:b0 K A C f)(hg:fC N g=true)(gj:g∈T.bins)(h:BH T N (f N) g a b=some x):jD K A C N (.Call (.Name g p) [a,b] [] pos) x:=by
 unfold BH at h;refine C2 h (fun ie h=>?_) fun h=>cN h fun ie h=>?_
 ·obtain rfl:=eq_of_beq ie;refine ct h fun q hq h=>?_;rw[m9 hq];refine jX h (fun eo lg h=>fD h fun z a7=>fg (fun J J=>rfl) (fun J J=>rfl) fun au hn E r=>QT c S lg hg gj a7 au hn E r) fun J h=>?_;refine cN h fun ie h=>?_;refine aS (df ie) fun oJ uX=>?_;exact fM h fun aU ty p2 lY=>fg (fun J J=>rfl) (fun J J=>rfl) fun au hn E r=>Q2 c S lY hg gj oJ (by simpa using uX) p2 au hn E r
 ·obtain rfl:=eq_of_beq ie;exact fM h fun aU gy p2 vd=>fg (fun J J=>rfl) (fun J J=>rfl) fun au hn E r=>Sy c S hg gj p2 vd au hn E r
theorem Wl{p:Pos}{x:X}(c:cf K A T C)(S:b0 K A C f)(h:Bt T N (f N) pos g args=some x):jD K A C N (.Call (.Name g p) args [] pos) x:=by
 unfold Bt at h;refine cN h fun hg h=>jX h (fun i hi h=>cN h fun dn h=>fD h fun xs hq=>fg (fun J J=>rfl) (fun J J=>rfl) fun au hn E r=>?_) fun J h=>jX h (fun y hy h=>by obtain rfl:=oi h;exact WB c S hg hy) fun J h=>cN h fun hb h=>?_
 ·have PD:T.fns[i]?=some g:=by
   refine ay (List.findIdx?_eq_some_iff_getElem.mp hi) fun L O J=>?_;rw[dI L,eq_of_beq O]
  exact Mn c S PD hg (fun q=>by subst q;contradiction) hq au hn E r
 ·have gj:g∈T.bins:=by simpa using hb
  cases args with
  | nil=>contradiction
  | cons a r =>
   cases r with
   | nil=>exact WC c S hg gj h
   | cons b r =>
    change cc _ _=_ at h;refine cN h fun h0 h=>?_;rw[gY.mp h0];exact WM c S hg gj h
theorem QP{q:List (Option Expr)×List Expr×Pos}(h:IG e=some q):e=.Dict q.1 q.2.1 q.2.2:=qk (o:=C6 e) h
theorem Wr{vs:List Expr}{m:Str}{xl:Pos}{x:X}(c:cf K A T C)(S:b0 K A C f)(hl:(apos.endLine == pos.line)=true)(h:Bv (f N) ks vs m args=some x):jD K A C N (.Call (.Attribute (.Dict ks vs xl) m apos) args [] pos) x:=by
 unfold Bv at h
 cases args with
 | nil=>contradiction
 | cons k aV =>
  dsimp only at h;refine ct h fun d h0 h=>cN h fun hm h=>ct h fun l L h=>cN h fun hc h'=>?_;obtain rfl:=eq_of_beq hm;obtain rfl:=sw h0;simp only[eB,iN,Bool.not_eq_true',List.isEmpty_eq_false_iff]at hc;obtain⟨⟨q1,q2⟩,q3⟩:=hc;exact kA h' fun cy YO Yh O aw aQ=>fg (fun J J=>rfl) (fun J J=>rfl) fun au hn E r=>NT c S hl L O q1 q2 q3 aw aQ au hn E r
theorem Wy{o:Expr}{m:Str}{x:X}(c:cf K A T C)(S:b0 K A C f)(hl:(apos.endLine == pos.line)=true)(h:Bx T (f N) o m args=some x):jD K A C N (.Call (.Attribute o m apos) args [] pos) x:=by
 unfold Bx at h;refine jX h (fun q hd h=>?_) fun J h=>cN h fun zO h=>?_
 ·rw[QP hd];exact Wr c S hl h
 ·refine C2 h (fun hm h=>ct h fun q hb h=>ct h fun j a5 h=>cN h fun c0 h=>fM h fun vW xs L O=>fg (fun J J=>rfl) (fun J J=>rfl) fun au hn E r=>?_) fun h=>?_
  ·have rT:T.meths[j]?=some m:=by
    refine ay (List.findIdx?_eq_some_iff_getElem.mp a5) fun g1 g2 J=>?_;rw[dI g1,eq_of_beq g2]
   exact Ss (b:=q.1) c S hb rT zO hl (hG c0) L O au hn E r
  cases args with
  | nil=>exact fM h fun nf vW h0 L=>fg (fun J J=>rfl) (fun J J=>rfl) fun au hn E r=>Si S h0 hl zO L au hn E r
  | cons a r =>
   cases r with
   | nil=>exact kA h fun nf vW X6 h0 L O=>fg (fun J J=>rfl) (fun J J=>rfl) fun au hn E r=>Sl c S h0 hl zO L O au hn E r
   | cons b r =>
    contradiction
theorem LL{q:Option Expr×Option Expr×Option Expr×Pos}(h:CE e=some q):e=.Slice q.1 q.2.1 q.2.2.1 q.2.2.2:=qk (o:=Kc e) h
theorem WK{o i:Expr}{x:X}(c:cf K A T C)(S:b0 K A C f)(h:BF (f N) o i=some x):jD K A C N (.Subscript o i pos) x:=by
 unfold BF at h;refine jX h (fun q hi h=>?_) fun hi h=>fM h fun a b L O=>fg (fun J J=>rfl) (fun J J=>rfl) fun au hn E r=>VP c S (fun l u st p q=>by subst q;contradiction) L O au hn E r;have hi:=LL hi;obtain⟨lo,hi,st,p⟩:=q;subst hi
 cases st with
 | none=>exact kA h fun vW vE hx L O aw=>fg (fun J J=>rfl) (fun J J=>rfl) fun au hn E r=>Vc S L O aw au hn E r
 | some st=>contradiction
theorem KC{gens:List Comprehension}{x:X}(h:sV T N f elt gens scope pos=some x):∃z p iter ifs,gens=[⟨.Name z p,iter,ifs,0⟩]/\wd T N f elt z iter ifs scope pos=some x:=by
 unfold sV at h;refine ct h fun g hg h=>cN h fun ha h=>ct h fun q hq h=>?_;obtain⟨j2,iter,ifs,X5⟩:=g;obtain rfl:=m9 hq;obtain rfl:=eq_of_beq ha;exact⟨q.1,q.2,iter,ifs,sw hg,h⟩
theorem Wn{gens:List Comprehension}{x:X}(c:cf K A T C)(S:b0 K A C f)(h:sV T N f elt gens scope pos=some x):jD K A C N (.ListComp elt gens scope pos) x:=by
 refine xw (KC h) fun z p iter ifs ag h=>?_;obtain rfl:=ag;exact KD h fun t e iR i q=>fg (fun J J=>rfl) (fun J J=>rfl) fun au hn E r=>CX c S q au hn E r
theorem WJ(c:cf K A T C)(S:b0 K A C f):b0 K A C (KI T f):=by
 intro N e x h
 cases e with
 | Constant iR _ _=>exact⟨rfl,fD h fun v hq=>fg (fun J J=>rfl) (fun J J=>rfl) fun J J J r=>C4 hq r⟩
 | Name z p=>exact⟨rfl,WA c h⟩
 | BoolOp o es pos =>
  cases o with
  | And=>exact⟨rfl,fD h fun v hq env ρ σ s α au hn E r=>LH S hq au hn E r⟩
  | Or=>exact⟨rfl,fD h fun v hq env ρ σ s α au hn E r=>TA S hq au hn E r⟩
 | UnaryOp o a pos =>
  cases o with
  | Not=>exact⟨rfl,fD h fun v hq env ρ σ s α au hn E r=>Tk S hq au hn E r⟩
  | USub=>exact⟨rfl,fD h fun v hq=>fg (fun J J=>rfl) (fun J J=>rfl) fun au hn E r=>Ta S hq au hn E r⟩
  | _=>contradiction
 | BinOp l o aF pos=>exact⟨rfl,kA h fun J J J ho ha hb=>fg (fun J J=>rfl) (fun J J=>rfl) fun au hn E r=>L8 c S ho ha hb au hn E r⟩
 | Compare l os ij pos=>exact⟨rfl,Wm c S h⟩
 | List es pos=>exact⟨rfl,fD h fun v hq=>fg (fun J J=>rfl) (fun J J=>rfl) fun au hn E r=>RS S hq au hn E r⟩
 | Tuple es k pos=>exact⟨rfl,fD h fun v hq=>fg (fun J J=>rfl) (fun J J=>rfl) fun au hn E r=>WZ S hq au hn E r⟩
 | Call fn args IS pos =>
  refine⟨rfl,?_⟩;change cc _ _=_ at h;refine cN h fun hk h=>?_;rw[gY.mp hk]
  cases fn with
  | Name g p=>exact Wl c S h
  | Attribute o m apos =>
   change cc _ _=_ at h;exact cN h fun hl h=>Wy c S hl h
  | _=>contradiction
 | Attribute o n pos =>
  refine⟨rfl,ct h fun q hb h=>cN h fun hc h=>fD h fun vW L=>?_⟩;refine aS (df hc) fun cK ei=>?_;exact fg (fun J J=>rfl) (fun J J=>rfl) fun au hn E r=>LZ (b:=q.1) c S hb cK (mM.mp ei) L au hn E r
 | Subscript o i pos=>exact⟨rfl,WK c S h⟩
 | Dict ks vs pos =>
  change cc _ _=_ at h;refine⟨rfl,cN h fun hc h=>?_⟩;refine aS (df hc) fun L O=>?_;rw[gY.mp L,gY.mp O];obtain rfl:=oi h;exact fg (fun J J=>rfl) (fun J J=>rfl) fun J J J r=>M2 r
 | ListComp elt gens scope pos=>exact⟨rfl,Wn c S h⟩
 | _=>contradiction
theorem Wo(c:cf K A T C):∀n,b0 K A C (qJ T n):=by
 intro n
 induction n with
 | zero =>
  exact fun N e x h=>by contradiction
 | succ n aj =>
  exact WJ c (aj)
noncomputable def eQ(env:Env):List Addr:=env.locals::env.cells.map (·.2)
theorem lT(E:aZ env ρ h α)(hd:∀p∈env.cells,env.cells.lookup p.1=some p.2):∀b∈eQ env,∃o,h.get? b=some o:=by
 intro b hb
 rcases b5.mp hb with q | q
 ·subst q;obtain⟨m,⟨o,_,_,e,_⟩,_⟩:=E.ns;exact⟨o,e⟩
 ·refine ay (ci.mp q) fun p hp ag=>?_;obtain rfl:=ag;refine dN (E.ca p.1 p.2 (hd p hp)) fun J J bp=>?_;refine cJ bp fun v o e J=>?_;exact⟨o,e⟩
structure dm(hb:fO)(env:Env):Prop where
 sc:wU env.scope.names
 new:cD hb env
 cl:∀p∈env.cells,env.cells.lookup p.1=some p.2
 inter:interactive env=false
inductive pt(h:Heap)(α:ax)(ρ:az)(σ:aa):bO->Flow->Prop
 | next:pt h α ρ σ (.next ρ σ) .next
 | brk:pt h α ρ σ (.brk ρ σ) .brk
 | cont:pt h α ρ σ (.cont ρ σ) .cont
 | ret {v:H} {u:Value} (r:ai h α v u):pt h α ρ σ (.ret v ρ σ) (.ret u)
inductive gS(K:a2)(env:Env)(c:bO)(s:Shared)(α:ax)(fl:Flow)(s':Shared):Prop where
 | mk (ρ':az) (σ':aa) (α':ax) (x:a4 (eQ env) α s.heap α' s'.heap) (r:ao K.hb s'.heap σ' α') (No:aZ env ρ' s'.heap α') (m:cq s s') (fo:pt s'.heap α' ρ' σ' c fl):gS K env c s α fl s'
inductive iv(K:a2)(wX:Around)(env:Env)(c:bO)(s:Shared)(α:ax)(e:Value)(s':Shared):Prop where
 | mk (i:Nat) (ρ:az) (σ':aa) (s₁:Shared) (bb:ax) (eb:Bool) (h:c=.exc i ρ σ') (x:a4 (eQ env) α s.heap bb s₁.heap) (No:aZ env ρ s₁.heap bb) (m:cq s s₁) (ey:gz K s₁ bb i σ' eb e s'):iv K wX env c s α e s'
noncomputable def eN(K:a2)(env:Env)(A:Around)(t:Sem Flow)(c:bO)(s:Shared)(α:ax):Prop:=
 c≠.stuck->wpAny (model K.prog K.w) A t (gS K env c s α) (iv K A env c s α) s
theorem gS.lift{c:bO}{fl:Flow}(x:a4 (eQ env) α s.heap bb s₁.heap)(m:cq s s₁)(p:gS K env c s₁ bb fl s'):gS K env c s α fl s':=by
 obtain⟨ρ',σ',α',aO,r,E,bw,fo⟩:=p;exact⟨ρ',σ',α',x.trans aO,r,E,m.trans bw,fo⟩
theorem iv.lift{c:bO}{e:Value}(x:a4 (eQ env) α s.heap bb s₁.heap)(m:cq s s₁)(p:iv K A env c s₁ bb e s'):iv K A env c s α e s':=by
 obtain⟨i,ρ,σ',ba,α₂,eb,h,aO,E,bw,ey⟩:=p;exact⟨i,ρ,σ',ba,α₂,eb,h,x.trans aO,E,m.trans bw,ey⟩
theorem da.toS{β:Type}{c:ah β}{f:β->aa->bO}{e:Value}(E:aZ env ρ s.heap α)(p:da K A c s α e s'):iv K A env (c.toS ρ f) s α e s':=by
 obtain⟨i,σ',h,eb,ey⟩:=p;exact⟨i,ρ,σ',s,α,eb,by rw[h];rfl,.refl,E,.refl s,ey⟩
theorem g4(F:dm K.hb env)(E:aZ env ρ s.heap α)(x:a4 [] α s.heap α' h'):a4 (eQ env) α s.heap α' h':=
 x.mono ((fun J q=>absurd q et)) (lT E F.cl)
theorem av.useS{β γ:Type}{dG:Heap->ax->β->γ->Prop}{t:Sem γ}{c:ah β}{f:β->aa->bO}{W:γ->Shared->Prop}(E:aZ env ρ s.heap α)(aC:av K dG A t c s α)(hc:c.toS ρ f≠.stuck)
  (N:∀b σ' α' y s',c=.ok b σ'->f b σ'≠.stuck->a4 [] α s.heap α' s'.heap->ao K.hb s'.heap σ' α'->dG s'.heap α' b y->cq s s'->W y s'):wpAny (model K.prog K.w) A t W (iv K A env (c.toS ρ f) s α) s:=by
 have L:c≠.stuck:=by rintro rfl;exact hc rfl
 refine cr (aC L) (fun y s' hp=>?_) fun e s' hx=>hx.toS E;obtain⟨b,σ',α',rfl,x,r,v,m⟩:=hp;exact N b σ' α' y s' rfl hc x r v m
theorem qF{k:NameKind}{v:H}{Q:Unit->Shared->Prop}{X:Value->Shared->Prop}(F:dm K.hb env)(r:ao K.hb s.heap σ α)(E:aZ env ρ s.heap α)
  (hn:env.scope.names[i]?=some (x,k)) (hk:k=.local\/k=.cell) (di:ai s.heap α v u)
  (a6:∀s',ao K.hb s'.heap σ α->aZ env (ρ.set i (some v)) s'.heap α->a4 (eQ env) α s.heap α s'.heap->cq s s'->Q () s') :
  wpAny (model K.prog K.w) A (storeName env x u) Q X s:=by
 rcases hk with rfl | rfl
 ·refine Kk F.sc.uniq r E F.new.l hn di fun s' aF cR aO J bw=>a6 s' aF cR (aO.mono (by simp[eQ]) (lT E F.cl)) bw
 ·refine VD F.sc.uniq r E F.new hn di fun c s' hc aF cR aO bw=>a6 s' aF cR (aO.mono ?_ (lT E F.cl)) bw;intro b hb;simp at hb;subst hb;exact bM _ (ci.mpr ⟨_,mem_of_lookup hc,rfl⟩)
theorem v9{t:Option Expr}{line:Nat}(h:l2 e=false):swapsWith e t line env=pure false:=by
 cases e <;> first | rfl | contradiction
theorem LS{p:Pos}{k:NameKind}{y:X}(F:dm K.hb env)(jq:l2 e=false)(hn:env.scope.names[i]?=some (x,k))(hk:k=.local\/k=.cell)
  (aC:av K ai A (eval e env) (ev C y ρ σ) s α) (E:aZ env ρ s.heap α) {n:Nat} :
  eN K env A (exec (.Assign [.Name x p] e pos) env) (ex C n (.asg i y) ρ σ) s α:=by
 change eN K env A _ ((ev C y ρ σ).toS ρ fun v σ=>.next (ρ.set i (some v)) σ) s α;intro hc;refine wpAny_Assign_Name (av.useS E aC hc fun v ac bb u s₁ V cK aU aV aX a0=>?_) (v9 jq);refine qF F aV (E.ext aU .nil) hn hk aX fun ba r2 kM bq cx=>?_;exact V.symm▸(⟨_,_,_,(g4 F E aU).trans bq,r2,kM,a0.trans cx,.next⟩)
theorem NN{y:X}(F:dm K.hb env)(jq:l2 e=false)
  (aC:av K ai A (eval e env) (ev C y ρ σ) s α) (E:aZ env ρ s.heap α) {n:Nat} :
  eN K env A (exec (.Expr e pos) env) (ex C n (.expr y) ρ σ) s α:=by
 change eN K env A _ ((ev C y ρ σ).toS ρ fun J σ=>.next ρ σ) s α;intro hc;refine wpAny_Expr_any (av.useS E aC hc fun v ac bb u s₁ V cK aU aV aX a0=>?_) F.inter (v9 jq);exact V.symm▸(⟨ρ,ac,bb,g4 F E aU,aV,E.ext aU .nil,a0,.next⟩)
theorem UA{y:X}(F:dm K.hb env)
  (aC:av K ai A (eval e env) (ev C y ρ σ) s α) (E:aZ env ρ s.heap α) {n:Nat} :
  eN K env A (exec (.Return (some e) pos) env) (ex C n (.ret y) ρ σ) s α:=by
 change eN K env A _ ((ev C y ρ σ).toS ρ fun v σ=>.ret v ρ σ) s α;intro hc;refine wpAny_Return_some (av.useS E aC hc fun v ac bb u s₁ V cK aU aV aX a0=>?_);exact V.symm▸(⟨ρ,ac,bb,g4 F E aU,aV,E.ext aU .nil,a0,.ret aX⟩)
theorem VA{q:Nat}{l:Addr}{p v:H}{k:Str×Int}{x:Value}{Q:Unit->Shared->Prop}{X:Value->Shared->Prop}(hA:ec A)(r:ao K.hb s.heap σ α)(hs:σ[q]?=some (.dp es))(dJ:α.ix[q]?=some l)
  (hk:g8 p=some k) (lv:ai s.heap α p x) (cy:ai s.heap α v u) (hl:es.length<aI)
  (a6:∀s',ao K.hb s'.heap (σ.set q (.dp (eg k v es))) α->a4 [] α s.heap α s'.heap->cq s s'->Q () s'):wpAny (model K.prog K.w) A (setItem (.ref l) x u) Q X s:=by
 refine om (pO r hs dJ) fun xs L O aw aQ=>?_;refine ay (vy (K:=K) hk lv) fun b ag bp=>?_;obtain rfl:=ag;refine aS bp fun hb Pf=>?_
 have c0:xs.length<=sizeLine:=by
  have e:=congrArg List.length O;simp only[be,kvsOf]at e;exact e.symm▸(hP (h6 hl))
 refine wpAny_setItem_heap (hsz:=c0) (sI hA) hb L fun h' e3 fE=>?_;refine jP (id e3) fun aP es' Nl aE J=>?_;have rV:=CB vx (k:=k) O aQ cy
 obtain⟨aF,aO⟩:=r.set (m:=.dp (eg k v es)) dJ (fun b o hb e=>(fE.2 b hb).trans e) aE fun aO=>⟨storedH xs (lj k) b u,e3,by
   have:=rV.1;rw[<- kvsOf_storedH,kvsOf,fV]at this
   exact this,fun y hy=>by
   rcases mem_storedH hy with⟨z,a7,_,ak⟩ | ⟨_,ak⟩
   ·exact ak.symm▸(aw z a7)
   ·exact ak.symm▸Pf,by
   have:=rV.2;rw[<- kvsOf_storedH,kvsOf,fV]at this
   exact this.ext aO⟩
 exact a6 _ aF aO ⟨rfl,rfl⟩
theorem VB{q:Nat}{l:Addr}{es:List (Str×H)}{v:H}{k:Str}{t:Tok}{Q:Unit->Shared->Prop}{X:Value->Shared->Prop}(r:ao K.hb s.heap σ α)(hs:σ[q]?=some (.ds es))(dJ:α.ix[q]?=some l)
  (cy:ai s.heap α v u) (hl:es.length<aI)
  (a6:∀s',ao K.hb s'.heap (σ.set q (.ds (eg k v es))) α->a4 [] α s.heap α s'.heap->cq s s'->Q () s'):wpAny (model K.prog K.w) A (setItem (.ref l) (.str k t) u) Q X s:=by
 refine bu (pP r hs dJ) fun d5 L O aQ=>?_
 have c0:d5.length<=sizeLine:=by
  have e:=congrArg List.length O;simp only[be]at e;exact e.symm▸(hP (h6 hl))
 refine wpAny_setItem_pairs (hsz:=c0) sR L fun h' e3 fE=>?_;refine jP (id e3) fun aP es' Nl aE J=>?_;have rV:=CB (g:=id) (fun J J h=>h) (k:=k) O aQ cy;refine aS (r.set (m:=.ds (eg k v es)) dJ (fun b o hb e=>(fE.2 b hb).trans e) aE fun aO=>⟨stored d5 k u,e3,rV.1,rV.2.ext aO⟩) fun aF aO=>?_;exact a6 _ aF aO ⟨rfl,rfl⟩
theorem Vz{q:Nat}{l:Addr}{i v:H}{x:Value}{Q:Unit->Shared->Prop}{X:Value->Shared->Prop}(hA:ec A)(r:ao K.hb s.heap σ α)(hs:σ[q]?=some m)(dJ:α.ix[q]?=some l)
  (h:qE m i v=some bw) (wn:ai s.heap α i x) (cy:ai s.heap α v u)
  (a6:∀s',ao K.hb s'.heap (σ.set q bw) α->a4 [] α s.heap α s'.heap->cq s s'->Q () s'):wpAny (model K.prog K.w) A (setItem (.ref l) x u) Q X s:=by
 cases m with
 | ds es =>
  cases i with
  | str k =>
   refine qa h fun hl h=>?_;obtain rfl:=oi h;refine ay wn.strE fun J ag J=>?_;obtain rfl:=ag;exact VB r hs dJ cy hl a6
  | _=>contradiction
 | dp es =>
  refine ct h fun k hk h=>qa h fun hl h=>?_;obtain rfl:=oi h;exact VA hA r hs dJ hk wn cy hl a6
 | _=>contradiction
theorem VC{o i v:H}(h:hW o i v ρ σ≠.stuck)(k:∀q m bw,o=.ref q->σ[q]?=some m->qE m i v=some bw->hW o i v ρ σ=.next ρ (σ.set q bw)->P):P:=by
 cases o with
 | ref q =>
  cases hm:(σ[q]?).bind fun m=>qE m i v with
  | none=>exact absurd (by unfold hW;dsimp only;rw[hm]) h
  | some bw=>exact ct hm fun m L O=>k q m bw rfl L O (by unfold hW;dsimp only;rw[hm])
 | _=>exact absurd rfl h
theorem LQ{o i v:Expr}{p:Pos}{x y z:X}(hA:ec A)(F:dm K.hb env)(jq:l2 v=false)
  (jG:∀{σ s α},aZ env ρ s.heap α->ao K.hb s.heap σ α->av K ai A (eval v env) (ev C z ρ σ) s α)
  (d0:∀{σ s α},aZ env ρ s.heap α->ao K.hb s.heap σ α->av K ai A (eval o env) (ev C x ρ σ) s α)
  (px:∀{σ s α},aZ env ρ s.heap α->ao K.hb s.heap σ α->av K ai A (eval i env) (ev C y ρ σ) s α) (E:aZ env ρ s.heap α) (r:ao K.hb s.heap σ α) :
  eN K env A (exec (.Assign [.Subscript o i p] v pos) env) (ex C n (.asgSub x y z) ρ σ) s α:=by
 change eN K env A _ ((ev C z ρ σ).toS ρ fun v σ=>(ev C x ρ σ).toS ρ fun o σ=>(ev C y ρ σ).toS ρ fun i σ=>hW o i v ρ σ) s α;intro hc;refine wpAny_Assign_Subscript (av.useS E (jG E r) hc fun cy ac bb u s₁ V cK aU aV aX a0=>?_) (v9 jq);rw[V];have e9:=E.ext aU .nil;refine cr (av.useS (env:=env) (s:=s₁) (α:=bb) e9 (d0 e9 aV) cK fun KY ar α₂ BN ba ak ei bq r2 bz cx=>?_) (fun J J q=>q) (fun J J q=>iv.lift (g4 F E aU) a0 q);have kM:=e9.ext bq .nil
 refine cr (av.useS (env:=env) (s:=ba) (α:=α₂) kM (px kM r2) ei fun wn e8 pn W7 eK bG zC e7 hV io jt=>?_) (fun J J q=>q) (fun J J q=>by
  show iv K A env ((ev C x ρ ac).toS ρ _) s α _ _
  exact ak.symm▸(iv.lift (g4 F E (aU.trans bq)) (a0.trans cx) q))
 show wpAny (model K.prog K.w) A (setItem BN W7 u) _ _ eK;refine VC zC fun q m bw ho hs hm he=>?_;subst ho;refine ay bz.refE fun l ag dJ=>?_;obtain rfl:=ag;refine Vz hA hV hs (e7.get dJ) hm io ((aX.ext bq).ext e7) fun s' aF aO bw=>?_;show gS K env ((ev C x ρ ac).toS ρ _) _ _ _ _;rw[ak];show gS K env ((ev C y ρ ar).toS ρ _) _ _ _ _;rw[bG];show gS K env (hW (.ref q) wn cy ρ e8) _ _ _ _;exact he.symm▸(⟨ρ,_,pn,g4 F E (((aU.trans bq).trans e7).trans aO),aF,(kM.ext e7 .nil).ext aO .nil,((a0.trans cx).trans jt).trans bw,.next⟩)
theorem IK{q:Prop}{_:Decidable q}{a b:bO}(h:(if q then a else .stuck)=b)(hb:b≠.stuck):q/\a=b:=by
 by_cases hq:q
 ·rw[aD hq]at h;exact⟨hq,h⟩
 ·rw[aY hq]at h;exact absurd h.symm hb
theorem Og(E:aZ env ρ h α)(F:dm K.hb env)(ho:∀b∈own,h.get? b=none):mz env own/\∀b∈own,b∉eQ env:=by
 have al:=lT E F.cl;refine⟨⟨fun q=>?_,fun x c hc q=>?_⟩,fun b hb q=>?_⟩
 ·refine aL (al env.locals bi) fun o e=>?_;rw[ho _ q]at e;contradiction
 ·refine dN (E.ca x c hc) fun J J bp=>?_;refine cJ bp fun v o e J=>?_;rw[ho _ q]at e;contradiction
 ·refine aL (al b q) fun o e=>?_;rw[ho _ hb]at e;contradiction
noncomputable def pF(K:a2)(A:Around)(en:Bool)(env:Env)(target:Expr)(bind:H->az->Option az):Prop:=
 ((en=false/\∀it v,letOwnedTupleGo target it v=pure ())\/∃mT k pos,target=.Tuple mT k pos)/\∀(s:Shared) (σ:aa) (α:ax) (ρ ρ':az) (p:H) (u:Value),bind p ρ=some ρ'->aZ env ρ s.heap α->ao K.hb s.heap σ α->ai s.heap α p u ->
  ∀(Q:Unit->Shared->Prop) (X:Value->Shared->Prop),(∀s',ao K.hb s'.heap σ α->aZ env ρ' s'.heap α->a4 (eQ env) α s.heap α s'.heap->cq s s'->Q () s')->wpAny (model K.prog K.w) A (assign target env u) Q X s
theorem V6{k:NameKind}{p:Pos}(F:dm K.hb env)(hn:env.scope.names[i]?=some (x,k))(hk:k=.local\/k=.cell):pF K A false env (.Name x p) (dM i):=
 ⟨.inl ⟨rfl,fun J J=>rfl⟩,fun s σ α ρ ρ' pv u hb E r v Q X a6=>by
  obtain rfl:=oi hb
  exact wpAny_assign_Name (qF F r E hn hk v a6)⟩
theorem V7{bind:H->az->Option az}{d4 v:Value}{P:Shared->Prop}{Q:Unit->Shared->Prop}{X:Value->Shared->Prop}(j2:pF K A en env target bind)(L:en=false->P s)(O:wQ K A d4 v P s)(a6:∀s',P s'->Q () s'):wpAny (model K.prog K.w) A (letOwnedTupleGo target d4 v) Q X s:=by
 rcases j2.1 with⟨he,bR⟩ | ⟨mT,k,pos,rfl⟩
 ·exact wpAny_of_eq (bR d4 v) (a6 s (L he))
 ·exact O mT k pos _ _ a6
set_option tactic.hygienic true in
structure Cc(B:Flow->Shared->Prop)(I:Shared->Prop)(P:Flow->Shared->Prop):Prop where
 next:∀s,I s->B .next s
 cont:∀s,I s->B .cont s
 brk:∀s,P .next s->B .brk s
 ret:∀u s,P (.ret u) s->B (.ret u) s
structure te where
 K:a2
 env:Env
 own:List Addr
 St:Nat->Heap->ax->Prop
 s:Shared
 α:ax
 h₂:Heap
 α₂:ax
structure nU(P:te)(A:Around)(en:Bool)(d4:Value)(xs:List H)(w:Option (Nat×aW)):Prop where
 I:gA P.K A en P.own d4 xs w P.St
 F:dm P.K.hb P.env
 ap:mz P.env P.own
 apF:∀b∈P.own,b∉eQ P.env
 x:a4 [] P.α P.s.heap P.α₂ P.h₂
 new:∀b∈P.own,P.s.heap.get? b=none
 al:∀b∈eQ P.env,∃o,P.s.heap.get? b=some o
structure j9(P:te)(i:Nat)(ρ:az)(σ:aa)(s:Shared)(α:ax):Prop where
 x:a4 (P.own++eQ P.env) P.α₂ P.h₂ α s.heap
 r:ao P.K.hb s.heap σ α
 st:P.St i s.heap α
 E:aZ P.env ρ s.heap α
 m:cq P.s s
inductive wN(P:te)(xs:List H)(go:List H->az->aa->bO)(c:bO)(k:Nat)(s:Shared):Prop
 | mk (i:Nat) (σ:aa) (α:ax) (ρ:az) (hk:k=xs.length-i) (hi:i<=xs.length) (aB:j9 P i ρ σ s α) (bR:go (xs.drop i) ρ σ=c):wN P xs go c k s
section
variable {P:te}{d4:Value}{w:Option (Nat×aW)}
theorem j9.more(aB:j9 P i ρ σ s α)(c:nU P A en d4 xs w){F:List Addr}(bQ:∀b∈F,b∈P.own++eQ P.env)(x:a4 F α s.heap α' h'):a4 (P.own++eQ P.env) P.α₂ P.h₂ α' h':=
 aB.x.trans (x.mono bQ fun b hb=>(dt.mp hb).elim (c.I.live _ _ _ aB.st b) (lT aB.E c.F.cl b))
theorem j9.step(aB:j9 P i ρ σ s α)(c:nU P A en d4 xs w)(x:a4 P.own α s.heap α s'.heap)(r:ao P.K.hb s'.heap σ α)(st:P.St (i+1) s'.heap α)(m:cq s s'):j9 P (i+1) ρ σ s' α:=
 ⟨aB.more c (fun J=>gW _) x,r,st,aB.E.ext x c.ap,aB.m.trans m⟩
theorem j9.go(aB:j9 P i ρ σ s α)(c:nU P A en d4 xs w)(x:a4 (eQ P.env) α s.heap α' s'.heap)(r:ao P.K.hb s'.heap σ' α')(E:aZ P.env ρ' s'.heap α')(m:cq s s'):j9 P i ρ' σ' s' α':=
 ⟨aB.more c (fun J=>d7 _) x,r,c.I.frame _ _ _ _ _ _ aB.st x c.apF,E,aB.m.trans m⟩
theorem nU.post(c:nU P A en d4 xs w){o:bO}{fl:Flow}(x:a4 (P.own++eQ P.env) P.α₂ P.h₂ α s.heap)(r:ao P.K.hb s.heap σ α)(E:aZ P.env ρ s.heap α)(m:cq P.s s)(fo:pt s.heap α ρ σ o fl):gS P.K P.env o P.s P.α fl s:=
 ⟨ρ,σ,α,a4.drop c.x c.new c.al x,r,E,m,fo⟩
theorem R8{bind:H->az->Option az}{f:az->aa->bO}{o:bO}{Q:Option Value->Shared->Prop}{ra:Value->Unit->Shared->Prop}{pA:Unit->Shared->Prop}{B:Flow->Shared->Prop}{X:Value->Shared->Prop}(c:nU P A en d4 xs w)(j2:pF P.K A en P.env target bind)
  (hb:∀{ρ σ s α},aZ P.env ρ s.heap α->ao P.K.hb s.heap σ α->eN P.K P.env A (execs body P.env) (f ρ σ) s α) (hc:o≠.stuck) (ea:i<xs.length) (aB:j9 P i ρ σ s α) (bR:cj w bind f (xs.drop i) ρ σ=o)
  (L:∀v s,wpAny (model P.K.prog P.K.w) A (letOwnedTupleGo target d4 v) (ra v) X s->Q (some v) s) (O:∀v s,wpAny (model P.K.prog P.K.w) A (assign target P.env v) pA X s->ra v () s) (aw:∀s,wpAny (model P.K.prog P.K.w) A (execs body P.env) B X s->pA () s)
  (bc:Cc B (wN P xs (cj w bind f) o (xs.length-(i+1))) (gS P.K P.env o P.s P.α)):wpAny (model P.K.prog P.K.w) A (pyNext d4) Q X s:=by
 rw[List.drop_eq_getElem_cons ea]at bR;refine aS (IK bR hc) fun hw bR=>?_
 cases m2:bind xs[i] ρ with
 | none=>rw[m2]at bR;exact absurd bR.symm hc
 | some BX =>
 rw[m2]at bR;change iG _ (f BX σ)=o at bR;refine c.I.item i s σ α xs[i] (dI ea) aB.st aB.r hw _ _ fun v eK vr qG TM nM jv lp=>L _ _ (V7 j2 (fun he=>⟨vr,qG he,.refl,jv,.refl _⟩) TM fun nC q=>?_);refine xu q fun vr st kJ nq nb=>?_;have pz:=aB.step c (nM.trans kJ) nq st (lp.trans nb);refine O _ _ (j2.2 nC σ α ρ BX xs[i] v m2 pz.E nq vr _ _ fun sS v2 B6 mw qj=>?_);have qY:=pz.go c mw v2 B6 qj;have kp:=hb B6 v2;generalize f BX σ=CV at bR kp;refine aw _ (cr (kp fun q=>hc (by rw[<- bR,q];rfl)) (fun fl Bm hp=>?_) fun e Bm hx=>?_)
 ·obtain⟨XY,XZ,XX,BU,UO,Lb,SQ,fo⟩:=hp;have jH:=qY.go c BU UO Lb SQ
  cases fo with
  | next=>exact bc.next _ ⟨i+1,_,_,_,rfl,ea,jH,bR⟩
  | cont=>exact bc.cont _ ⟨i+1,_,_,_,rfl,ea,jH,bR⟩
  | brk=>exact bc.brk _ (bR▸c.post jH.x jH.r jH.E jH.m .next)
  | ret di=>exact bc.ret _ _ (bR▸c.post jH.x jH.r jH.E jH.m (.ret di))
 ·obtain⟨j,ρ',σ',_,_,_,rfl,_⟩:=hx;exact absurd bR.symm hc
theorem R7{bind:H->az->Option az}{f:az->aa->bO}{o:bO}{pD:Result->Shared->Prop}(c:nU P A en d4 xs w)(j2:pF P.K A en P.env target bind)
  (hb:∀{ρ σ s α},aZ P.env ρ s.heap α->ao P.K.hb s.heap σ α->eN P.K P.env A (execs body P.env) (f ρ σ) s α) (aB:j9 P 0 ρ σ s α) (bR:cj w bind f xs ρ σ=o) (hc:o≠.stuck) (hr:∀fl s',gS P.K P.env o P.s P.α fl s'->pD (.ok fl) s') :
  codeAny (model P.K.prog P.K.w) A (.forLoop target d4 body [] P.env) pD s:=by
 refine codeAny_forLoop_any (wN P xs (cj w bind f) o) (fun k s₁ inv=>?_) _ ⟨0,σ,α,ρ,rfl,Nat.zero_le _,aB,bR⟩;clear aB bR;obtain⟨i,ac,bb,bU,rfl,hi,aB,bR⟩:=inv;by_cases ea:i<xs.length
 ·exact R8 c j2 hb hc ea aB bR (fun J J h=>h) (fun J J h=>h) (fun J h=>h) ⟨fun J h=>⟨_,Nat.sub_succ_lt_self _ _ ea,h⟩,fun J h=>⟨_,Nat.sub_succ_lt_self _ _ ea,h⟩,fun J h=>hr _ _ h,fun J J h=>hr _ _ h⟩
 ·have e:=Nat.le_antisymm hi (Nat.not_lt.mp ea);rw[e,List.drop_length]at bR;refine aS (IK bR hc) fun hw bR=>?_;exact c.I.done s₁ ac bb (e▸aB.st) aB.r hw _ _ fun eK nM jv lp=>wpAny_execs_nil (hr _ _ (bR▸c.post (aB.more c (fun J=>gW _) nM) jv (aB.E.ext nM c.ap) (aB.m.trans lp) .next))
end
theorem G8{it:Expr}{bind:H->az->Option az}{ix:X}{b:S}{c:bO}(F:dm K.hb env)(j2:pF K A en env target bind)(hpl:i7 it=true)
  (bF:jf K A en (eval it env) (evIt C ix ρ σ) s α) (hb:∀{ρ σ s α},aZ env ρ s.heap α->ao K.hb s.heap σ α->eN K env A (execs body env) (ex C n b ρ σ) s α) (E:aZ env ρ s.heap α)
  (k8:c=(evIt C ix ρ σ).toS ρ fun p σ=>cj p.2 bind (fun ρ σ=>ex C n b ρ σ) p.1 ρ σ) :
  eN K env A (exec (.For target it body [] pos) env) c s α:=by
 subst k8;intro hc;generalize evIt C ix ρ σ=kj at bF hc ⊢;refine wpAny_For (cr (bF fun q=>hc (q▸rfl)) (fun nN s₁ cT=>cr cT (fun d4 ba h₂=>?_) fun J J q=>q.toS E) fun J J q=>q.toS E) (AV hpl);obtain⟨xs,w,ar,α₂,own,St,rfl,ip,gO,g9,I,st,ho⟩:=h₂;refine aS (Og E F fun b hb=>(ho b hb).1) fun ap apF=>?_;exact R7 (P:=⟨K,env,own,St,s,α,ba.heap,α₂⟩) ⟨I,F,ap,apF,ip,fun b hb=>(ho b hb).1,lT E F.cl⟩ j2 hb ⟨.refl,gO,st,E.ext ip .nil,g9⟩ rfl hc fun J J h=>h
inductive tq(K:a2)(env:Env)(s:Shared)(α:ax)(go:Nat->az->aa->bO)(c:bO)(k:Nat)(s₁:Shared):Prop
 | mk (ac:aa) (bb:ax) (bU:az) (x:a4 (eQ env) α s.heap bb s₁.heap) (r:ao K.hb s₁.heap ac bb) (E:aZ env bU s₁.heap bb) (m:cq s s₁) (bR:go k bU ac=c):tq K env s α go c k s₁
set_option tactic.hygienic true in
theorem Xl{nF:Expr}{ls:X}{f:az->aa->bO}{c:bO}{k:Nat}{Q:Bool->Shared->Prop}{B:Flow->Shared->Prop}{X:Value->Shared->Prop}(F:dm K.hb env)
  (a3:∀{ρ σ s α},aZ env ρ s.heap α->ao K.hb s.heap σ α->av K gU A (isTrue nF env (eval nF env)) (tst C ls ρ σ) s α) (hb:∀{ρ σ s α},aZ env ρ s.heap α->ao K.hb s.heap σ α->eN K env A (execs body env) (f ρ σ) s α)
  (hc:c≠.stuck) (inv:tq K env s α (hz (fun ρ σ=>tst C ls ρ σ) f) c (k+1) s₁) (L:∀s',wpAny (model K.prog K.w) A (execs body env) B X s'->Q true s') (h0:∀s',gS K env c s α .next s'->Q false s')
  (bc:Cc B (tq K env s α (hz (fun ρ σ=>tst C ls ρ σ) f) c k) (gS K env c s α)):wpAny (model K.prog K.w) A (isTrue nF env (eval nF env)) Q X s₁:=by
 obtain⟨ac,bb,bU,XC,UN,wM,SN,bR⟩:=inv;have u9:=a3 wM UN;change wp bU (fun σ=>iG (hz (fun ρ σ=>tst C ls ρ σ) f k) (f bU σ)) (tst C ls bU ac)=c at bR;generalize tst C ls bU ac=iR at bR u9;refine cr (u9 fun q=>hc (by rw[<- bR,q];rfl)) (fun y ba hp=>?_) fun e ba hx=>?_
 ·obtain⟨t,ar,α₂,rfl,bq,gO,bz,g9⟩:=hp;obtain rfl:y=t:=bz;have ps:=wM.ext bq .nil;have ip:=XC.trans (g4 F wM bq);have g9:=SN.trans g9
  cases y with
  | false=>exact h0 _ (bR▸⟨_,_,_,ip,gO,ps,g9,.next⟩)
  | true =>
   have kp:=hb ps gO;change iG _ (f bU ar)=c at bR;generalize f bU ar=CV at bR kp;refine L _ (cr (kp fun q=>hc (by rw[<- bR,q];rfl)) (fun fl eK hp=>?_) fun e eK hx=>?_)
   ·obtain⟨Zi,e8,pn,e7,jv,mA,lp,fo⟩:=hp
    cases fo with
    | next=>exact bc.next _ ⟨_,_,_,ip.trans e7,jv,mA,g9.trans lp,bR⟩
    | cont=>exact bc.cont _ ⟨_,_,_,ip.trans e7,jv,mA,g9.trans lp,bR⟩
    | brk=>exact bc.brk _ (bR▸⟨_,_,_,ip.trans e7,jv,mA,g9.trans lp,.next⟩)
    | ret di=>exact bc.ret _ _ (bR▸⟨_,_,_,ip.trans e7,jv,mA,g9.trans lp,.ret di⟩)
   ·obtain⟨j,ρ',σ',_,_,_,rfl,_⟩:=hx;exact absurd bR.symm hc
 ·obtain⟨j,σ',rfl,_⟩:=hx;exact absurd bR.symm hc
theorem Xk{nF:Expr}{ls:X}{b:S}(F:dm K.hb env)
  (a3:∀{ρ σ s α},aZ env ρ s.heap α->ao K.hb s.heap σ α->av K gU A (isTrue nF env (eval nF env)) (tst C ls ρ σ) s α) (hb:∀{ρ σ s α},aZ env ρ s.heap α->ao K.hb s.heap σ α->eN K env A (execs body env) (ex C n b ρ σ) s α)
  (E:aZ env ρ s.heap α) (r:ao K.hb s.heap σ α) :
  eN K env A (exec (.While nF body [] pos) env) (hz (fun ρ σ=>tst C ls ρ σ) (fun ρ σ=>ex C n b ρ σ) n ρ σ) s α:=fun hc =>
 wpAny_While (codeAny_whileLoop (tq K env s α (hz (fun ρ σ=>tst C ls ρ σ) fun ρ σ=>ex C n b ρ σ) _) (fun k s₁ inv=>by
  cases k with
  | zero=>obtain⟨_,_,_,_,_,_,_,bR⟩:=inv;exact absurd bR.symm hc
  | succ k=>exact Xl F a3 hb hc inv (fun J h=>h) (fun J h=>wpAny_execs_nil h) ⟨fun J h=>⟨k,Nat.lt_succ_self k,h⟩,fun J h=>⟨k,Nat.lt_succ_self k,h⟩,fun J h=>h,fun J J h=>h⟩) n ⟨σ,α,ρ,.refl,r,E,.refl s,rfl⟩)
noncomputable def a2.wx(K:a2)(h:Heap):a2:={ K with hb:={ K.hb with h:=h },ph:=true }
noncomputable def q0(K:a2)(h:Heap)(a:Addr)(C:bn):Prop:=
 (∀b o,K.hb.h.get? b=some o->h.get? b=some o)/\(C.hd=false->∃(o:Obj) (vs:Array Value),h.get? a=some o/\o.data=.fields vs/\vs[2]?=some .none)
theorem Xv{hb:Heap}(base:∀b o,hb.get? b=some o->h.get? b=some o)(e:h.get? a=some o) :
  ∃h':Heap,(∀b o,hb.get? b=some o->h'.get? b=some o)/\h'.get? a=some o/\∀b aP,h'.get? b=some aP->b=a\/hb.get? b=some aP:=by
 refine⟨PySem.W.hideAll h ((List.range h.objs.size).filter fun b=>b != a&&(hb.get? b).isNone),fun b aP q=>PySem.W.hideAll_get _ (base b aP q) fun z=>?_,PySem.W.hideAll_get _ e fun z=>?_,fun b aP q=>?_⟩
 ·have:=(List.mem_filter.mp z).2;rw[q]at this;simp at this
 ·have:=(List.mem_filter.mp z).2;simp at this
 ·have np:=PySem.W.of_hideAll _ q;by_cases pZ:b=a
  ·exact .inl pZ
  ·right
   cases hq:hb.get? b with
   | some bI=>rw[base b bI hq]at np;exact np
   | none =>
    have:b∈(List.range h.objs.size).filter fun b=>b != a&&(hb.get? b).isNone:=List.mem_filter.mpr ⟨List.mem_range.mpr (e0 np),by simp[pZ,hq]⟩;rw[PySem.W.hideAll_none _ this]at q;contradiction
theorem d6.wx(o:d6 K.hb h α m a):d6 (K.wx h').hb h α m a:=by cases m <;> exact o
theorem d6.unwx(o:d6 (K.wx h').hb h α m a):d6 K.hb h α m a:=by cases m <;> exact o
theorem ao.wx{vs:Array Value}(r:ao K.hb h σ α)(e:h.get? a=some o)(hd:o.data=.fields vs)(ha:a∉α.all)(aE:h'.get? a=some o)(only:∀b aP,h'.get? b=some aP->b=a\/K.hb.h.get? b=some aP):ao (K.wx h').hb h σ α:=by
 have no:∀{b:Addr},b≠a->K.hb.get? b=none->(K.wx h').hb.get? b=none:=fun{b} hb hn=>by
  cases q:(K.wx h').hb.get? b with
  | none=>rfl
  | some aP =>
   rcases only b aP q with z | z
   ·exact absurd z hb
   ·rw[show K.hb.get? b=some aP from z]at hn;contradiction
 refine⟨fun b aP q=>?_,fun b hb=>no (fun z=>ha (z▸gW _ hb)) (r.fresh b hb),r.nodup,r.len,r.hidden,fun i m b V ak=>(r.obj i m b V ak).wx,fun b hb=>no (fun z=>ha (z▸d7 _ hb)) (r.hfr b hb),r.fe,fun b hb=>?_,r.frNot⟩
 ·rcases only b aP q with z | z
  ·subst z;rw[show(K.wx h').hb.get? b=some o from aE]at q;obtain rfl:=oi q;exact e
  ·exact r.base b aP z
 ·obtain⟨q1,aP,q2,q3⟩:=r.frs b hb;refine⟨no (fun z=>?_) q1,aP,q2,q3⟩;rw[z,e]at q2;obtain rfl:=oi q2;refine jm q3 fun es n d=>?_;rw[hd]at d;contradiction
theorem ao.unwx(k:∀b o,K.hb.h.get? b=some o->h'.get? b=some o)(r:ao (K.wx h').hb h σ α):ao K.hb h σ α:=by
 have no:∀{b:Addr},(K.wx h').hb.get? b=none->K.hb.get? b=none:=fun{b} hn=>by
  cases q:K.hb.get? b with
  | none=>rfl
  | some aP=>rw[show(K.wx h').hb.get? b=some aP from k b aP q]at hn;contradiction
 exact⟨fun b o q=>r.base b o (k b o q),fun b hb=>no (r.fresh b hb),r.nodup,r.len,r.hidden,fun i m b V ak=>(r.obj i m b V ak).unwx,fun b hb=>no (r.hfr b hb),r.fe,fun b hb=>let⟨q1,q2⟩:=r.frs b hb;⟨no q1,q2⟩,r.frNot⟩
theorem dm.wx{vs:Array Value}(F:dm K.hb env)(E:aZ env ρ s.heap α)(e:s.heap.get? a=some o)(hd:o.data=.fields vs)(only:∀b aP,h'.get? b=some aP->b=a\/K.hb.h.get? b=some aP):dm (K.wx h').hb env:=by
 have no:∀{b:Addr},b≠a->K.hb.get? b=none->(K.wx h').hb.get? b=none:=fun{b} hb hn=>by
  cases q:(K.wx h').hb.get? b with
  | none=>rfl
  | some aP =>
   rcases only b aP q with z | z
   ·exact absurd z hb
   ·rw[show K.hb.get? b=some aP from z]at hn;contradiction
 refine⟨F.sc,⟨no (fun z=>?_) F.new.l,fun x c hc=>no (fun z=>?_) (F.new.c x c hc),F.new.f⟩,F.cl,F.inter⟩
 ·obtain⟨m,⟨aP,es,d9,aE,d,_⟩,_⟩:=E.ns;rw[z,e]at aE;obtain rfl:=oi aE;rw[hd]at d;contradiction
 ·refine dN (E.ca x c hc) fun J J bp=>?_;refine cJ bp fun v aP aE d=>?_;rw[z,e]at aE;obtain rfl:=oi aE;rw[hd]at d;contradiction
theorem Nk:entryFor table "proto.unchain" = some Builtin.«proto.unchain»:=entryFor_of_fast (by kernel_rfl)
theorem Ul{prog:Program}{w:World}{β:Type}{e h:Addr}{e6 oh:Obj}{KV KW:Array Value}{Q:β->Shared->Prop}(aN:A.handled=some (.ref h))(dn:h≠e)(L:s.heap.get? h=some oh)(O:oh.data=.fields KW)(aw:KW[2]?=some .none)
  (V:s.heap.get? e=some e6) (ak:e6.data=.fields KV) (bG:2<KV.size) (fK:E (.ref e) { s with heap:=s.heap.update e (Obj.mapFields (·.setIfInBounds 2 (.ref h))) }):wpAny (model prog w) A (raiseNew (.ref e):Sem β) Q E s:=by
 unfold raiseNew;refine aM (wpAny_handled ?_);rw[aN];dsimp only;rw[aD (show(Value.ref h != Value.ref e)=true by simpa using dn)];refine aM (hH (wpAny_runValue (codeAny_builtin Nk ?_)));show wpAny _ _ (field (.ref h) 2 >>= _) _ _ s;refine aM (gE L O aw ?_);rw[aD (by decide)];refine aM (bJ (bJ ?_));show wpAny _ A (setField (.ref e) 2 (.ref h) >>= fun J=>throw (.ref e)) Q E s;exact aM (wpAny_setField V ak bG (wpAny_throw fK))
section
variable {prog:Program}{w:World}
variable {nm q:Str}{C N:Addr}{bs bm bmB:List Value}{hdct:Bool}{sn:List Str}{sub:List Value}{ab:Bool}{col:Option Bool}{dd:Option Addr}{k0 k1 k2 k3 k5:Option Value}{B newId QH:String}
theorem Un{x:Sem Value}{Q:Flow->Shared->Prop}(rP:bm.contains (.type "BaseException")=true)
  (h:wpAny (model prog w) A x (fun v s₁=>∃e t,v=.ref e/\s₁.heap.get? C=some (excClassObj nm q C N bs bm hdct sn sub ab col dd k0 k1 k2 k3 k5 newId) ∧
   s₁.heap.get? e=some { cls:=.ref C,data:=.fields #[.ref t,.none,.none,.none,.bool false,.none] }/\wpAny (model prog w) A (raiseNew (.ref e):Sem Flow) Q E s₁) E s):wpAny (model prog w) A (raiseStmt env (some x) none) Q E s:=by
 have zD:(Value.ref C::bm).contains (.type "BaseException")=true:=by rw[List.contains_cons,rP,Bool.or_true]
 unfold raiseStmt;refine aM (cr h (fun v s₁ cT=>?_) fun J J x=>x);refine cJ cT fun e t ag bp=>?_;obtain rfl:=ag;refine dN bp fun hC he fK=>?_;obtain⟨hp,g,d,tk,os⟩:=s₁
 repeat (first | with_reducible refine wpAny_loadPart_at he ?_ | with_reducible refine wpAny_loadPart_at hC ?_ | (with_reducible refine wpAny_isSubtype_exc hC ?_;rw[zD]) | wp_step)
 exact fK
theorem Um(F:ExcBaseFacts B newId QH bmB){mN:Str->Option Value}{vQ xj:Pos}{Q:Flow->Shared->Prop}
  (rP:bm.contains (.type "BaseException")=true) (P7:(backTo xj (starEach args env)).any (·.1)=false) (rX:mN "__init__" = none)
  (h:wpAny (model prog w) A (eval (.Name x vQ) env) (fun f s₁=>f=.ref C/\wpAny (model prog w) A (evalArgs (.ref C) true (backTo xj (starEach args env)) [])
   (fun a ba=>a.kw=[]/\a.pos.length<=sizeLine/\ba.heap.get? C=some (excClassObj nm q C N bs bm hdct sn sub ab col dd k0 k1 k2 k3 k5 newId)/\ba.heap.Ns N mN/\OwnTail ba.heap bmB bm ∧
    ∀h' e,Heap.MadeExcOf ba.heap h' e (.ref C) a.pos->wpAny (model prog w) A (raiseNew (.ref e):Sem Flow) Q E { ba with heap:=h' }) E s₁) E s) :
  wpAny (model prog w) A (exec (.Raise (some (.Call (.Name x vQ) args [] xj)) none pos) env) Q E s:=by
 rw[arm_exec_Raise];refine aM (wpAny_standAt (Un (C:=C) (nm:=nm) (q:=q) (N:=N) (bs:=bs) (bm:=bm) (hdct:=hdct) (sn:=sn) (sub:=sub) (ab:=ab) (col:=col) (dd:=dd) (k0:=k0) (k1:=k1) (k2:=k2) (k3:=k3) (k5:=k5) (newId:=newId) rP (aM (cr (wpAny_Call_ofName (cr h (fun f s₁ cT=>?_) fun J J x=>x)) (fun v eK kt=>aM (wpAny_standAt (bJ kt))) fun J J x=>x))));obtain⟨rfl,cT⟩:=cT;unfold callWith;refine aM (hH (cr cT (fun a ba h₂=>aM (wpAny_standAt ?_)) fun J J x=>x));obtain⟨apos,LA⟩:=a;refine tR h₂ fun PJ c0 hC hn T h₂=>?_;obtain rfl:LA=[]:=PJ;obtain⟨hp,g,d,tk,os⟩:=ba;simp only[P7];refine aM (wpAny_keeperOf_exc hC ?_);refine aM (wpAny_call_exc_subT (hrest:=c0) F T hC hn rX fun h' e hm=>aM (hH (wpAny_point (bJ ?_))));refine bu hm.there fun t a3 J J=>?_;exact⟨e,t,rfl,hm.keeps _ _ hC,a3,h₂ h' e hm⟩
end
theorem aZ.wipe{m:Str->Option Value}(E:aZ env ρ h α)(n:h'.Ns env.locals m)(fE:∀b,b≠env.locals->h'.get? b=h.get? b):aZ env (ρ.map fun J=>none) h' α:=by
 have no:∀(i:Nat) (v:H),(ρ.map fun J=>(none:Option H))[i]?≠some (some v):=fun i v e=>by
  rw[fH]at e;cases hq:ρ[i]? <;> rw[hq]at e <;> (first | contradiction | (obtain rfl:=oi e) | cases e)
 refine⟨E.ok,E.la,⟨m,n,fun i x v J e=>absurd e (no i v)⟩,fun x c hc=>?_,E.cd,fun i x V=>?_,fun i v e=>absurd e (no i v)⟩
 ·refine dN (E.ca x c hc) fun L O bp=>?_;refine cJ bp fun v o e d=>?_;exact⟨L,O,v,o,(fE c O).trans e,d⟩
 ·refine ay (E.cv i x V) fun c hc J=>?_;exact⟨c,hc,fun v e=>absurd e (no i v)⟩
theorem gz.made{args:List Value}(r:ao K.hb s.heap σ α)(m:Heap.MadeExcOf s.heap h' a (.ref c) args):gz K s α c σ false (.ref a) { s with heap:=h' }:=by
 refine bu m.there fun t V ak bG=>?_;exact⟨a,s.heap,α,rfl,.refl,r,.keeps m.keeps,⟨m.new,_,_,.none,V,rfl,rfl,rfl,.inl rfl rfl,.none,rfl,fun J=>rfl⟩,⟨rfl,rfl⟩⟩
theorem gz.made2{x:Addr}{args:List Value}(hp:K.ph=true)(r:ao K.hb s.heap σ α)(m:Heap.MadeExcOf s.heap h' a (.ref c) args):gz K s α c σ false (.ref a) { s with heap:=h'.update a (Obj.mapFields (·.setIfInBounds 2 (.ref x))) }:=by
 refine bu m.there fun t V ak bG=>?_;refine⟨a,s.heap,α,rfl,.refl,r,.keeps fun b o e=>?_,⟨m.new,_,_,.none,Heap.get?_update_self _ V rfl,rfl,rfl,rfl,.inl rfl rfl,.ref x,rfl,fun z=>?_⟩,⟨rfl,rfl⟩⟩
 ·have pZ:a≠b:=fun z=>by rw[<- z,m.new]at e;contradiction
  exact(Heap.get?_update_other _ _ pZ).trans (m.keeps b o e)
 ·rw[hp]at z;contradiction
theorem Uo{vQ C5:Pos}{z:Str}{k:Nat}{K5:Pos}(gJ:cf K A T C)(hx:mU T N x=some c)(a7:PyData.strOk z=true)(au:env.scope.names=N)(E:aZ env ρ s.heap α)(r:ao K.hb s.heap σ α) :
  eN K env A (exec (.Raise (some (.Call (.Name x vQ) [.Constant (.str z) k K5] [] C5)) none pos) env) (ex C n (.raise c) ρ σ) s α:=by
 have bK:ex C n (.raise c) ρ σ=bif C.rz then .exc c ρ σ else .stuck:=rfl
 rw[bK]
 cases oP:C.rz with
 | false=>exact fun hc=>absurd rfl hc
 | true =>
 intro _;obtain⟨hg,q,hq,rfl,rfl⟩:=xH hx;refine aL (p7 hg) fun j a5=>?_;refine ay gJ.exc fun b8 X aC=>?_;obtain⟨⟨hmg,PZ,H2⟩,_⟩:=aC q hq;obtain⟨nm,vZ,tg,bs,hdct,sn,sub,ab,col,dd,k0,k1,k2,k3,k5,hC,mN,zs,rX⟩:=PZ;refine Um (mN:=mN) (C:=q.2.1) (nm:=nm) (q:=vZ) (N:=tg) (bs:=bs) (hdct:=hdct) (sn:=sn) (sub:=sub) (ab:=ab) (col:=col) (dd:=dd) (k0:=k0) (k1:=k1) (k2:=k2) (k3:=k3) (k5:=k5) F.excBase_ValueError (H2.hasType rfl) rfl rX ?_;refine qp gJ.hK r E.ok (au.symm▸a5) hmg ⟨rfl,?_⟩;refine Calls.evalArgs_plain (Calls.spliced_cons (cr (C4 (c:=.str z) (v:=.str z) (k:=k) (p:=K5) (env:=env) (by show cc (PyData.strOk z) (some (H.str z))=_;rw[a7];rfl) r (by(intro q;exact nomatch q))) (fun v s₁ hp=>Calls.spliced_nil ?_) fun e s₁ hx=>?_))
 ·obtain⟨b,ac,bb,V,aU,aV,_,a0⟩:=hp
  (first | contradiction | (obtain rfl:=oi V) | cases V)
  refine⟨rfl,by show 1<=sizeLine;decide,aV.base _ _ hC,zs.keeps aV.base,H2.keeps aV.base,fun h' e hm=>?_⟩
  cases dg:C.hd with
  | false=>exact wpAny_raiseNew_none (gJ.hd dg) ⟨_,_,_,s,α,_,rfl,.refl,E,.refl s,gz.lift aU a0 (gz.made aV hm)⟩
  | true =>
   refine op (gJ.rz oP dg) fun ha AM va P9 u5 Qa Qb=>?_;refine bu hm.there fun t V ak bG=>?_;have hb:=aV.base _ _ u5;refine Ul (s:={ s₁ with heap:=h' }) P9 (fun z=>?_) (hm.keeps _ _ hb) Qa Qb V rfl (show 2<6 by decide) ⟨_,_,_,s,α,_,rfl,.refl,E,.refl s,gz.lift aU a0 (gz.made2 (gJ.ph.trans dg) aV hm)⟩;rw[z,hm.new]at hb;contradiction
 ·obtain⟨i,ac,V,_⟩:=hx
  (first | contradiction | (obtain rfl:=oi V) | cases V)
theorem VY(h:(kE T d).contains c=true):∃p∈T.excs,p.2.1=c/\(c=d\/d∈p.2.2):=by
 refine ay (ci.mp (mM.mp h)) fun p hp ag=>?_;obtain rfl:=ag;refine aS (List.mem_filter.mp hp) fun L O=>?_;refine⟨p,L,rfl,?_⟩;simp only[Bool.or_eq_true,ff,mM]at O;exact O
theorem Sf{Q:Bool->Shared->Prop}{X:Value->Shared->Prop}(gJ:cf K A T C)(r:ao K.hb s.heap σ α)(he:s.heap.get? a=some o)(jp:o.cls=.ref c)(hd:∃q∈T.excs,q.2.1=d)
  (hs:(kE T d).contains c=true) (a6:Q true s) {B0:Around}:wpAny (model K.prog K.w) B0 (excMatches (.ref a) (.ref d)) Q X s:=by
 refine ay gJ.exc fun b8 Lm aC=>?_;refine bu (VY hs) fun p hp ag P5=>?_;obtain rfl:=ag;refine ay hd fun q hq ag=>?_;obtain rfl:=ag;obtain⟨⟨_,⟨nm,vZ,tg,bs,hdct,sn,sub,ab,col,dd,k0,k1,k2,k3,k5,hC,_⟩,t1⟩,_⟩:=aC p hp;obtain⟨⟨_,⟨YT,Y1,X2,X7,Yq,Y2,Y3,X4,Yb,Yc,YG,YH,YI,YJ,YK,hD,_⟩,cO⟩,_⟩:=aC q hq;have OP:=r.base _ _ hC;have Ht:=r.base _ _ hD
 have zD:(Value.ref q.2.1::(q.2.2.map Value.ref++[.type "ValueError",.type "Exception",.type "BaseException",.type "object"])).contains (.type "BaseException")=true:=by
  rw[List.contains_cons,cO.hasType (X := "BaseException") (b:=true) (by decide),Bool.or_true]
 have Pj:(Value.ref p.2.1::(p.2.2.map Value.ref++[.type "ValueError",.type "Exception",.type "BaseException",.type "object"])).contains (.ref q.2.1)=true:=by
  rw[mM]
  rcases P5 with e | e
  ·exact e▸bi
  ·exact bM _ (gW _ (ci.mpr ⟨_,e,rfl⟩))
 have f:=tc_notTuple;obtain⟨h,g,tO,t,os⟩:=s;unfold excMatches
 repeat (first | (with_reducible refine wpAny_loadPart_at he ?_;rw[jp]) | with_reducible refine wpAny_loadPart_at Ht ?_ | (with_reducible refine wpAny_isSubtype_exc Ht ?_;rw[zD]) | (with_reducible refine wpAny_isSubtype_exc OP ?_;rw[Pj]) | wp_step)
 exact a6
theorem Mz{y:Str}{BV:Pos}{dU:Stmt}{bs:List Stmt}{b3:Nat}{e:Value}{Q:Flow->Shared->Prop}{X:Value->Shared->Prop}(gJ:cf K A T C)(F:dm K.hb env)(hx:mU T N x=some c)(au:env.scope.names=N)(hi:N[i]?=some (y,.local))(hs:(kE T c).contains b3=true)
  (E:aZ env ρ s.heap α) (ey:gz K s α b3 σ eb e s')
  (k:∀(a:Addr) (s₁:Shared) (bb:ax) (e6:Obj) (vs:Array Value),a4 (eQ env) α s.heap bb s₁.heap->ao K.hb s₁.heap σ bb->aZ env (ρ.set i (some (.exc b3))) s₁.heap bb->cq s s₁->s₁.heap.get? a=some e6->e6.data=.fields vs->a∉bb.all->(∃v,vs[2]?=some v/\(K.ph=false->v=.none)) ->
   wpAny (model K.prog K.w) (A.mark (some (.ref a))) (execs (dU::bs) env) (fun f ba=>wpAny (model K.prog K.w) A (do bindName env y .none;unbindBehindTheSuite env y pos) (fun J eK=>Q f eK) X ba) (fun J J=>False) s₁) :
  wpAny (model K.prog K.w) A (noteFrame e env) (fun J ba=>wpAny (model K.prog K.w) A (setFlight e none) (fun J eK=>wpAny (model K.prog K.w) A (handleBy e env [.ExceptHandler (some (.Name x BV)) (some y) (dU::bs) pos]) Q X eK) X ba) X s':=by
 obtain⟨a,h₀,α',rfl,aO,aF,u,bW,bw⟩:=ey;obtain⟨hg,q,hq,rfl,rfl⟩:=xH hx;refine aL (p7 hg) fun j a5=>?_;refine ay gJ.exc fun b8 Lm Ld=>?_;refine JE gJ.fr F.new aF u bW fun h₂ ja M8=>zc (s:={ s' with heap:=h₂ }) aF ja M8 fun kt j4 De=>?_;obtain⟨_,e6,vs,nN,he,jp,hd,_,_,_⟩:=id De;refine wpAny_handleBy_cons (codeAny_handlers_test (qp (s:={ s' with heap:=kt }) gJ.hK (aF.up j4) E.ok (au.symm▸a5) (Ld q hq).1.mg (Sf (s:={ s' with heap:=kt }) gJ (aF.up j4) he jp ⟨q,hq,rfl⟩ hs ?_))) (fun z=>nomatch z);refine codeAny_handlers_suite_as (zc (s:={ s' with heap:=kt }) aF j4 De fun z3 qM Df=>?_);obtain⟨_,JK,Xf,Zg,HK,HH,zF,_,_,MW⟩:=id Df;have ha:a∉α'.all:=fun z=>aL (aF.liveAll z) fun o e=>nomatch Df.new.symm.trans e;have kJ:=aO.trans (aF.upExt qM);refine qF (s:={ s' with heap:=z3 }) F (aF.up qM) (E.ext kJ .nil) (au.symm▸hi) (.inl rfl) (.exc HK HH zF ha) fun sS qy s7 mw qj=>?_;exact cr (k a sS α' JK Xf ((g4 F E kJ).trans mw) qy s7 ⟨qj.gens.trans bw.gens,qj.os.trans bw.os⟩ (mw.seqs a JK (ax.not_ix ha) HK (.inr (.inl ⟨_,_,HH,zF⟩))) zF ha MW) (fun J J q=>q) fun J J q=>q.elim
theorem Xs{y:Str}{Q:Shared->Prop}{X:Value->Shared->Prop}(F:dm K.hb env)(rS:env.scope.names[i]?=some (y,.local))(r:ao K.hb s.heap σ α)(E:aZ env ρ s.heap α)
  (a6:∀s',ao K.hb s'.heap σ α->aZ env (ρ.map fun J=>none) s'.heap α->a4 (eQ env) α s.heap α s'.heap->cq s s'->Q s'):wpAny (model K.prog K.w) A (do bindName env y .none;unbindBehindTheSuite env y pos) (fun J s'=>Q s') X s:=by
 refine ay (id E.ns) fun m ns J=>?_;refine wpAny_nameGoes (E.ok.ws i y _ rS) ns (by rw[E.ok.kind];rfl) fun Ib nf JG J2=>?_
 refine aS (r.but E.la F.new.l (fun b o hb e=>(J2.2 b hb).trans e) (fun o e=>by
  refine lM (id ns) fun aP es d9 aE d J=>?_;rw[e]at aE;obtain rfl:=oi aE
  exact gL.notSolid ⟨_,_,d⟩) fun J o e J=>by
  refine lM (id JG) fun aP es d9 aE d J=>?_
  exact⟨aP,aE,es,d9,d⟩) fun v0 wu=>?_
 exact a6 _ v0 (E.wipe JG fun b hb=>J2.2 b hb) (wu.mono (by simp[eQ]) (lT E F.cl)) ⟨rfl,rfl⟩
theorem WR{b:Bool}{q:Prop}{_:Decidable q}{x:bO}{M:bO->Prop}(h:(bif b then(if q then x else .stuck)else .stuck)≠.stuck)(k:b=true->q->x≠.stuck->M x):M (bif b then(if q then x else .stuck)else .stuck):=by
 cases b with
 | false=>exact absurd rfl h
 | true =>
  change M (if q then x else .stuck);change(if q then x else .stuck)≠_ at h;by_cases hq:q
  ·rw[aD hq]at h ⊢;exact k rfl hq h
  ·rw[aY hq]at h;exact absurd rfl h
theorem WS{y:Str}{BV u4:Pos}{b hb:List Stmt}{h':S}(gJ:cf K A T C)(F:dm K.hb env)(hx:mU T N x=some c)(au:env.scope.names=N)(hi:N[i]?=some (y,.local))(dn:hb≠[])
  (aC:eN K env A (execs b env) (ex C n cX ρ σ) s α)
  (qW:C.rz=true->∀(hx:Heap) (a:Addr),q0 K hx a C->dm (K.wx hx).hb env->∀{ρ σ s α},aZ env ρ s.heap α->ao (K.wx hx).hb s.heap σ α->eN (K.wx hx) env (A.mark (some (.ref a))) (execs hb env) (ex C.inH n h' ρ σ) s α) :
  eN K env A (exec (.Try b [.ExceptHandler (some (.Name x BV)) (some y) hb u4] [] [] pos) env) (ex C n (.tryE cX (kE T c) i h') ρ σ) s α:=by
 change eN K env A _ (wj (fun b3 ρ σ=>bif C.rz then(if(kE T c).contains b3/\i<ρ.length then pM (ex C.inH n h' (ρ.set i (some (.exc b3))) σ)else .stuck)else .stuck) (ex C n cX ρ σ)) s α;intro hc;generalize ex C n cX ρ σ=CV at hc aC ⊢
 cases hb with
 | nil=>exact absurd rfl dn
 | cons dU bs =>
 refine wpAny_Try_except (cr (aC fun q=>hc (by rw[q];rfl)) (fun fl s₁ hp=>?_) fun e s₁ z1=>?_)
 ·obtain⟨bU,ac,bb,aU,aV,e9,a0,fo⟩:=hp
  cases fo with
  | next=>exact wpAny_execs_nil ⟨_,_,_,aU,aV,e9,a0,.next⟩
  | brk=>exact⟨_,_,_,aU,aV,e9,a0,.brk⟩
  | cont=>exact⟨_,_,_,aU,aV,e9,a0,.cont⟩
  | ret v=>exact⟨_,_,_,aU,aV,e9,a0,.ret v⟩
 ·obtain⟨b3,bU,ac,s₀,bb,eb,rfl,aU,e9,a0,ey⟩:=z1;refine WR (M:=fun o=>wpAny _ A _ (fun J ba=>wpAny _ A _ (fun J eK=>wpAny _ A _ (gS K env o s α) (iv K A env o s α) eK) (iv K A env o s α) ba) (iv K A env o s α) s₁) hc fun oP ie hc=>?_;refine Mz gJ F hx au hi ie.1 e9 ey fun a sS K6 e6 vs mw qy s7 qj he hd ha jO=>?_;refine bu (Xv (hb:=K.hb.h) (fun b o e=>qy.base b o e) he) fun hx H5 H4 H6=>?_;have aN:=qW oP hx a ⟨H5,fun dg=>ay jO fun y gy hZ=>⟨e6,vs,H4,hd,hZ (gJ.ph.trans dg)▸gy⟩⟩ (F.wx s7 he hd H6) s7 (qy.wx he hd ha H4 H6);generalize ex C.inH n h' (bU.set i (some (.exc b3))) ac=X9 at aN hc ⊢;refine cr (aN fun q=>hc (by rw[q];rfl)) (fun fl Bm hp=>?_) fun e Bm z1=>?_
  ·obtain⟨XY,XZ,XX,BU,Uk,K9,Sc,fo⟩:=hp;refine Xs F (au.symm▸hi) (Uk.unwx H5) K9 fun Y4 v0 B4 wu Sd=>?_;have s4:=(aU.trans mw).trans (BU.trans wu);have nf:=(a0.trans qj).trans (Sc.trans Sd)
   cases fo with
   | next=>exact⟨_,_,_,s4,v0,B4,nf,.next⟩
   | ret di=>exact⟨_,_,_,s4,v0,B4,nf,.ret (di.ext wu)⟩
   | brk=>exact absurd rfl hc
   | cont=>exact absurd rfl hc
  ·obtain⟨_,_,_,_,_,_,rfl,_⟩:=z1;exact hc rfl
theorem Vg(h:ml N x=some i):∃k,N[i]?=some (x,k)/\(k=NameKind.local\/k=.cell):=by
 unfold ml at h;refine ct h fun j a5 L=>ct L fun q hq O=>cN O fun hk aw=>?_;clear h L O;have hx:=Ix a5 hq;obtain⟨z,k⟩:=q;dsimp only at hx;subst hx;obtain rfl:=oi aw;refine⟨k,hq,?_⟩
 cases k with
 | «local»=>exact .inl rfl
 | cell=>exact .inr rfl
 | _=>contradiction
theorem v6(au:env.scope.names=N)(h:ml N x=some i):∃k,env.scope.names[i]?=some (x,k)/\(k=NameKind.local\/k=.cell):=by
 subst au;exact Vg h
section
open PySem.W
theorem UW{F:Frag}{b n:Str}{x:Value}{v:H}{Q:Unit->Shared->Prop}(B:j5 K F b c)(hn:n∈kU)(r:ao K.hb s.heap σ α)(nJ:ai s.heap α (.inst c i) x)(cy:ai s.heap α v u)
  (hs:σ[i]?=some (.ns fs)) (hl:fs.length<100) (a6:∀s',ao K.hb s'.heap (σ.set i (.ns (eg n v fs))) α->a4 [] α s.heap α s'.heap->cq s s'->Q () s'):wpAny (model K.prog K.w) A (setAttr x n u) Q E s:=by
 refine cJ (IC nJ) fun a D ag bp=>?_;obtain rfl:=ag;refine dN bp fun bW ha hi=>?_;refine bu (r.obj i _ D hs hi) fun m vR ju bI=>?_;refine lM (id vR) fun lr Nq Nm pR tL J=>?_;have X:F.In s.heap:=r.frag B.inn;have I:InstAt s.heap a (instObj c D) c (some lr):=⟨bW,rfl,rfl,pR⟩;refine ay (any_some B.hasd) fun cd hc e3=>?_;refine set_plain X I B.seta (osa_open (s:={ s with toks:=s.toks+1 }) X I B.plain (B.free n hn) fun h8=>?_);refine aM (bJ (aM (aM (wpAny_loadPart bW (aM (Looks.here (s:={ s with toks:=s.toks+1 }) (looks_clsIn X hc) ?_))))));rw[e3];refine bJ (a:=some D) (aM (bJ (aM (wpAny_nsSet1 (s:={ s with toks:=s.toks+1 }) vR fun h' oK u6=>?_))))
 have hw:Within m (fs.map (·.1)):=fun y hy=>by
  cases hg:aG y fs with
  | none=>exact absurd (bI y hg) hy
  | some w =>
   refine ay (Option.map_eq_some_iff.mp hg) fun e he J=>?_;exact ci.mpr ⟨e,List.mem_of_find?_eq_some he,by simpa using List.find?_some he⟩
 refine lM (oK.count (Within.cons n u hw)) fun YW Yj Yi HY Po Pk=>?_;refine aM (wpAny_lookBehind HY (by rw[Po];exact pastItsLine_dict (aH Pk (by rw[dy,be,sizeLine_eq];(exact aH (by assumption) (by decide))))) ?_);refine bJ ?_
 have key:∀aO:a4 [] α s.heap α h',d6 K.hb h' α (.ns (eg n v fs)) D:=fun aO=>by
  refine⟨_,oK,fun n' c6 e=>?_,fun n' e=>?_⟩
  ·rw[w0]at e;by_cases q:n'=n
   ·rw[aD q]at e ⊢;obtain rfl:=oi e;exact⟨u,rfl,cy.ext aO⟩
   ·rw[aY q]at e ⊢;refine ay (ju n' c6 e) fun w lw lx=>?_;exact⟨w,lw,lx.ext aO⟩
  ·rw[w0]at e;by_cases q:n'=n
   ·rw[aD q]at e;contradiction
   ·rw[aY q]at e ⊢;exact bI n' e
 refine aS (r.set (m:=.ns (eg n v fs)) hi (fun b o hb e=>(u6.2 b hb).trans e) HY key) fun aF aO=>?_;exact a6 _ aF aO ⟨rfl,rfl⟩
theorem LN{o v:Expr}{n b:Str}{p:Pos}{x z:X}{k:Nat}{b8:Frag}(B:j5 K b8 b c)(hn:n∈kU)(F:dm K.hb env)(jq:l2 v=false)
  (jG:∀{σ s α},aZ env ρ s.heap α->ao K.hb s.heap σ α->av K ai A (eval v env) (ev C z ρ σ) s α)
  (d0:∀{σ s α},aZ env ρ s.heap α->ao K.hb s.heap σ α->av K ai A (eval o env) (ev C x ρ σ) s α) (E:aZ env ρ s.heap α) (r:ao K.hb s.heap σ α) :
  eN K env A (exec (.Assign [.Attribute o n p] v pos) env) (ex C k (.asgAttr c x n z) ρ σ) s α:=by
 change eN K env A _ ((ev C z ρ σ).toS ρ fun v σ=>(ev C x ρ σ).toS ρ fun o σ=>sP c o n v ρ σ) s α;intro hc;refine plainObj_wpAny_Assign_Attribute (av.useS E (jG E r) hc fun cy ac bb u s₁ V cK aU aV aX a0=>?_) (v9 jq);rw[V]at hc ⊢;have e9:=E.ext aU .nil;refine cr (av.useS (env:=env) (s:=s₁) (α:=bb) e9 (d0 e9 aV) cK fun KY ar α₂ BN ba ak ei bq r2 bz cx=>?_) (fun J J q=>q) (fun J J q=>iv.lift (g4 F E aU) a0 q);have kM:=e9.ext bq .nil;show wpAny (model K.prog K.w) A (setAttr BN n u) _ _ ba;simp only[ah.toS,ak]at hc ⊢
 cases KY with
 | inst b3 i =>
  unfold sP at ei ⊢;dsimp only at ei ⊢;by_cases k8:b3=c
  ·subst k8;rw[aD rfl]at ei ⊢
   cases hs:ar[i]? with
   | none=>rw[hs]at ei;exact absurd rfl ei
   | some o2 =>
    rw[hs]at ei
    cases o2 with
    | ns fs =>
     dsimp only at ei ⊢;by_cases hl:fs.length<100
     ·rw[aD hl];exact UW B hn r2 bz (aX.ext bq) hs hl fun s' aF aO bw=>⟨ρ,_,α₂,g4 F E ((aU.trans bq).trans aO),aF,kM.ext aO .nil,(a0.trans cx).trans bw,.next⟩
     ·rw[aY hl]at ei;exact absurd rfl ei
    | _=>exact absurd rfl ei
  ·rw[aY k8]at ei;exact absurd rfl ei
 | _=>exact absurd rfl ei
end
theorem LY(F:dm K.hb env)(au:env.scope.names=N):∀{is:List Nat} {xs:List H} {us:List Value} {ρ ρ':az} {s:Shared} {Q:Unit->Shared->Prop} {X:Value->Shared->Prop},ny N cB=some is->qC is xs ρ=some ρ'->bh s.heap α xs us->aZ env ρ s.heap α->ao K.hb s.heap σ α ->
  (∀s',ao K.hb s'.heap σ α->aZ env ρ' s'.heap α->a4 (eQ env) α s.heap α s'.heap->cq s s'->Q () s')->wpAny (model K.prog K.w) A (assignInOrder ((assignEach cB env).map (·.2)) us) Q X s:=by
 induction cB with
 | nil =>
  intro is xs us ρ ρ' s Q X L O v E r a6;obtain rfl:=oi L
  cases xs with
  | nil=>obtain rfl:=oi O;exact assignInOrder_nil (a6 s r E .refl (.refl s))
  | cons _ _=>contradiction
 | cons t cB aj =>
  intro is xs us ρ ρ' s Q X L O v E r a6;change bI _ _ _=_ at L;refine fM (M:=fun is=>qC is xs ρ=some ρ'->wpAny (model K.prog K.w) A (assignInOrder ((assignEach (t::cB) env).map (·.2)) us) Q X s) L (fun i l hi hl O=>?_) O;refine ct hi fun q hq hi=>?_;obtain rfl:=m9 hq
  cases xs with
  | nil=>contradiction
  | cons p bj =>
   refine cJ v.inv_cons fun u Zb ag bp=>?_;obtain rfl:=ag;refine aS bp fun aX bz=>?_;refine ay (v6 au hi) fun k k9 lb=>?_;refine assignInOrder_cons (wpAny_assign_Name (qF F r E k9 lb aX fun s₁ aV e9 aU a0=>?_));exact aj hl O (bz.ext aU) e9 aV fun s' aF cR aO bw=>a6 s' aF cR (aU.trans aO) (a0.trans bw)
theorem S2:∀{is:List Nat},ny N cB=some is->(assignEach cB env).length=is.length/\(assignEach cB env).findIdx? (·.1)=none:=by
 induction cB with
 | nil=>intro is h;obtain rfl:=oi h;exact⟨rfl,rfl⟩
 | cons t cB aj =>
  intro is h;change bI _ _ _=_ at h;refine fM (M:=fun is=>(assignEach (t::cB) env).length=List.length is/\(assignEach (t::cB) env).findIdx? (·.1)=none) h fun i l hi hl=>?_;refine ct hi fun q hq hi=>?_;obtain rfl:=m9 hq;refine aS (aj hl) fun L O=>?_;refine⟨congrArg Nat.succ L,?_⟩;show((false,assign (.Name q.1 q.2) env)::assignEach cB env).findIdx? (·.1)=none;rw[List.findIdx?_cons,O];rfl
theorem J6:∀{is:List Nat} {xs:List H} {ρ ρ':az},qC is xs ρ=some ρ'->is.length=xs.length
 | [],[],_,_,_=>rfl
 | i::is,x::xs,_,_,h=>congrArg Nat.succ (J6 (is:=is) (xs:=xs) h)
 | [],_::_,_,_,h=>nomatch h
 | _::_,[],_,_,h=>nomatch h
theorem Ky{cb:Nat}{is:List Nat}(aN:A.handled=none)(F:dm K.hb env)(au:env.scope.names=N)(L:ny N cB=some is):pF K A en env (.Tuple cB cb pp) (gF is):=
 ⟨.inr ⟨_,_,_,rfl⟩,fun s σ α ρ ρ' pv u hb E r v Q X a6=>by
  cases pv with
  | tup xs =>
   obtain⟨t,us,k,rfl,a3,Yz,vs⟩:=v.tupE
   have M9:gF is (.tup xs) ρ=if xs.length<=100 then qC is xs ρ else none:=rfl
   rw[M9]at hb;by_cases hl:xs.length<=100
   ·rw[aD hl]at hb;refine aS (S2 (env:=env) L) fun g1 g2=>?_;refine wpAny_assign_Tuple aN ⟨_,a3,rfl,k,rfl⟩ (by rw[g1,J6 hb,vs.1];rfl) g2 fun h' hx=>?_;have ll:∀b o,s.heap.get? b=some o->h'.get? b=some o:=fun b o e=>hx b o (h5 (e0 e)) e;have bq:a4 [] α s.heap α h':=.keeps ll;exact LY (s:={ s with heap:=h' }) F au L hb (vs.ext bq) (E.ext bq .nil) (r.keeps ll) fun s' aF cR aO bw=>a6 s' aF cR ((g4 F E bq).trans aO) ⟨bw.gens,bw.os⟩
   ·rw[aY hl]at hb;contradiction
  | _=>contradiction⟩
set_option tactic.hygienic true in
theorem LR{fm:Expr}{cb:Nat}{is:List Nat}{x:X}(c:cf K A T C)(F:dm K.hb env)(au:env.scope.names=N)(L:ny N cB=some is)(hv:JV fm=true)
  (aC:av K ai A (eval fm env) (ev C x ρ σ) s α) (E:aZ env ρ s.heap α) :
  eN K env A (exec (.Assign [.Tuple cB cb pp] fm pos) env) (ex C n (.asgT is x) ρ σ) s α:=by
 have bK:ex C n (.asgT is x) ρ σ=bif C.hd then .stuck else(ev C x ρ σ).toS ρ fun v σ=>match gF is v ρ with
  | some ρ=>.next ρ σ
  | none=>.stuck:=rfl
 rw[bK]
 cases dg:C.hd with
 | true=>exact fun hc=>absurd rfl hc
 | false =>
 rw[cond_false];intro hc;refine Assign_Tuple (av.useS E aC hc fun v ac bb u s₁ V cK aU aV aX a0=>?_) (by cases fm <;> first | rfl | contradiction) (by cases fm <;> first | rfl | contradiction);rw[V]
 cases hb:gF is v ρ with
 | none=>rw[hb]at cK;exact absurd rfl cK
 | some ρ' =>
  refine(Ky (en:=true) (c.hd dg) F au L).2 s₁ ac bb ρ ρ' v u hb (E.ext aU .nil) aV aX _ _ fun s' aF cR aO bw=>?_
  show gS K env (match gF is v ρ with | some ρ=>.next ρ ac | none=>.stuck) s α .next s'
  exact hb.symm▸(⟨ρ',ac,bb,(g4 F E aU).trans aO,aF,cR,a0.trans bw,.next⟩)
set_option tactic.hygienic true in
theorem LO{iter:Expr}{z:Str}{kC:Pos}{t:Nat}{oq it:X}{k:NameKind}(c:cf K A T C)(S:b0 K A C f)(F:dm K.hb env)(h:qV T N f elt x iter ifs scope a9 t oq cond it)
  (hn:env.scope.names[i]?=some (z,k)) (hk:k=.local\/k=.cell)
  (au:env.scope.names=N) (E:aZ env ρ s.heap α) (r:ao K.hb s.heap σ α) (Qm:swapsWith (.ListComp elt [⟨.Name x hU,iter,ifs,0⟩] scope pos) (some (.Name z kC)) nA.line env=pure true) :
  eN K env A (exec (.Assign [.Name z kC] (.ListComp elt [⟨.Name x hU,iter,ifs,0⟩] scope pos) nA) env) (ex C n (.asg i (.comp a9 t (h9 N (dv N scope.names)) oq cond it)) ρ σ) s α:=by
 have bK:ex C n (.asg i (.comp a9 t (h9 N (dv N scope.names)) oq cond it)) ρ σ=(ev C (.comp a9 t (h9 N (dv N scope.names)) oq cond it) ρ σ).toS ρ fun v σ=>.next (ρ.set i (some v)) σ:=rfl
 rw[bK];intro hc
 cases dg:C.hd with
 | true=>rw[kZ,dg]at hc;exact absurd rfl hc
 | false =>
 rw[CZ dg]at hc ⊢;have co:=h.ok au;refine aS (wh (en:=false) c dg S h.it au F.new E r) fun e4 hpl=>?_;rw[exec_Assign_Name_used _ _ _ _ Qm];refine aM (wpAny_standAt (aM ?_));show wpAny _ A (do let _ <- comprehension (.ListComp elt [⟨.Name x hU,iter,ifs,0⟩] scope pos) scope env _ (newList []) false (eval iter env) (some (assign (.Name z kC) env))) _ _ s;generalize p0:oa a9 (fun v σ=>tst C cond ((c4 (h9 N (dv N scope.names)) ρ).set t (some v)) σ) (fun v σ=>ev C oq ((c4 (h9 N (dv N scope.names)) ρ).set t (some v)) σ) (evIt C it ρ σ)=iR at hc ⊢
 have k8:iR≠.stuck:=by intro q;rw[q]at hc;exact hc rfl
 refine aM (cr (wpAny_comprehension_free (use:=some (assign (.Name z kC) env)) (Q:=fun J s'=>gS K env (iR.toS ρ fun v σ=>.next (ρ.set i (some v)) σ) s α .next s')
  rfl (AV hpl) (CW (tJ co E)) co.kind co.names
  (C1 (a9:=a9) (t:=t) (ρ:=ρ) (c1:=fun v σ=>tst C cond ((c4 (h9 N (dv N scope.names)) ρ).set t (some v)) σ) (eC:=fun v σ=>ev C oq ((c4 (h9 N (dv N scope.names)) ρ).set t (some v)) σ) (RR:=fun acc jE=>compPost (model K.prog K.w) A _ (some (assign (.Name z kC) env)) _ acc jE)
   co E e4 (by rw[p0];exact k8) (fun jE v s' σ' α' n' cR aF=>?_) (fun jE v s' σ' α' n' cR aF=>?_) c.fr F.new ⟨_,r⟩ (fun e s' hx=>?_) ?_)) (fun J s' hq=>bJ (bJ hq)) fun J J e=>e)
 ·rw[tI au]at cR;exact C3 S h.cond (tK au E) n' cR aF
 ·rw[tI au]at cR;exact((S _ elt oq h.elt).2 _ _ σ' s' α' (tK au E) n' cR aF).1
 ·obtain⟨m7,σ',V,eb,ey⟩:=hx;refine⟨m7,ρ,σ',s,α,eb,?_,.refl,E,.refl s,ey⟩;rw[<- p0];show(oa _ _ _ _).toS ρ _=_;rw[V];rfl
 ·rw[p0]
  rintro acc jE bp s' ⟨rfl,v,σ',α',m,e,aO,aF,vr,mm,ns,ha,hC,hbC,OQ⟩
  subst e;have cR:=E.ext aO .nil;show wpAny _ A (assign (.Name z kC) env acc) _ _ _;refine wpAny_assign_Name (qF F aF cR hn hk vr fun ba gO ps ip g9=>?_)
  have hCf:jE∉eQ env:=fun q=>by
   refine aL (lT E F.cl jE q) fun o hL=>?_;rw[hC]at hL;contradiction
  have JH:ba.heap.Ns jE m:=AL ip (ax.not_ix ha) hCf ns;refine⟨m,JH,fun h' eU=>?_⟩
  obtain⟨A1,s3⟩:=gO.but ha hbC (fun b o hb e=>(eU.2 b hb).trans e) (fun o e=>by
   refine lM (id JH) fun aP es d9 aE d J=>?_;rw[e]at aE;obtain rfl:=oi aE
   exact gL.notSolid ⟨_,_,d⟩) fun q=>absurd q OQ
  have ap:mz env [jE]:=⟨fun q=>by simp at q;exact hCf (q▸bi),fun y b3 cg q=>by
   simp at q;subst q
   exact hCf (bM _ (ci.mpr ⟨_,mem_of_lookup cg,rfl⟩))⟩
  exact⟨_,_,_,((g4 F E aO).trans ip).sameBut hC (fun b hb=>eU.2 b hb),A1,ps.ext s3 ap,(mm.trans g9).trans ⟨rfl,rfl⟩,.next⟩
theorem LK{q:Expr×List Comprehension×Scope×Pos}(h:CD e=some q):e=.ListComp q.1 q.2.1 q.2.2.1 q.2.2.2:=qk (o:=C0 e) h
noncomputable def gQ(K:a2)(A:Around)(C:bn)(n:Nat)(env:Env)(t:Sem Flow)(b:S):Prop:=
 ∀ρ σ s α,aZ env ρ s.heap α->ao K.hb s.heap σ α->eN K env A t (ex C n b ρ σ) s α
noncomputable def n0(K:a2)(A:Around)(C:bn)(n:Nat)(env:Env)(g:Stmt->Option S):Prop:=
 ∀st b,g st=some b->gQ K A C n env (exec st env) b
theorem nI{g:Stmt->Option S}(aC:n0 K A C n env g){v8:List Stmt}:∀{b:S},j3 g v8=some b->gQ K A C n env (execs v8 env) b:=by
 induction v8 with
 | nil =>
  intro b h ρ σ s α E r;obtain rfl:=oi h;exact fun J=>wpAny_execs_nil ⟨ρ,σ,α,.refl,r,E,.refl s,.next⟩
 | cons st v8 aj =>
  intro b h;change bI _ _ _=_ at h;refine fM h fun a cX ha hb ρ σ s α E r hc=>?_;change mi (fun ρ σ=>ex C n cX ρ σ) (ex C n a ρ σ)≠_ at hc;show wpAny _ A _ (gS K env (mi (fun ρ σ=>ex C n cX ρ σ) (ex C n a ρ σ)) s α) (iv K A env (mi (fun ρ σ=>ex C n cX ρ σ) (ex C n a ρ σ)) s α) s;have jG:=aC st a ha _ _ _ _ E r;generalize ex C n a ρ σ=c at hc jG ⊢;refine wpAny_execs_cons (cr (jG fun q=>hc (by rw[q];rfl)) (fun fl s₁ hp=>?_) fun e s₁ hx=>?_)
  ·obtain⟨bU,ac,bb,aU,aV,e9,a0,fo⟩:=hp
   cases fo with
   | next=>exact cr (aj hb _ _ _ _ e9 aV hc) (fun J J q=>q.lift aU a0) fun J J q=>q.lift aU a0
   | brk=>exact⟨bU,ac,bb,aU,aV,e9,a0,.brk⟩
   | cont=>exact⟨bU,ac,bb,aU,aV,e9,a0,.cont⟩
   | ret v=>exact⟨bU,ac,bb,aU,aV,e9,a0,.ret v⟩
  ·obtain⟨i,ρ',σ',ba,α₂,eb,rfl,q1,q2,q3,q4⟩:=hx;exact⟨i,ρ',σ',ba,α₂,eb,rfl,q1,q2,q3,q4⟩
section
variable {g:Stmt->Option S}
theorem b0.val(d1:b0 K A C f)(F:dm K.hb env)(au:env.scope.names=N){x:X}(h:f N e=some x){ρ σ s α}(E:aZ env ρ s.heap α)(r:ao K.hb s.heap σ α):av K ai A (eval e env) (ev C x ρ σ) s α:=
 ((d1 N _ _ h).2 env ρ σ s α au F.new E r).1
theorem b0.tst(d1:b0 K A C f)(F:dm K.hb env)(au:env.scope.names=N){x:X}(h:f N e=some x){ρ σ s α}(E:aZ env ρ s.heap α)(r:ao K.hb s.heap σ α):av K gU A (isTrue e env (eval e env)) (tst C x ρ σ) s α:=
 ((d1 N _ _ h).2 env ρ σ s α au F.new E r).2
theorem LP{z:Str}{kC:Pos}{v:Expr}{b:S}(c:cf K A T C)(d1:b0 K A C f)(F:dm K.hb env)(au:env.scope.names=N)(h:wc T N f (f N) (.Name z kC) v=some b):gQ K A C n env (exec (.Assign [.Name z kC] v nA) env) b:=by
 change i6 _ _ _=_ at h;refine jX h (fun q O6 h=>?_) fun J h=>cN h fun jq h=>fM h fun i y hi hy=>?_
 ·rw[LK O6];refine fM h fun i y hi hy=>?_;refine xw (KC hy) fun x hU iter ifs hg hy=>?_;rw[hg];refine ay (v6 au hi) fun k k9 lb=>?_;refine KD (P:=fun y=>gQ K A C n env _ (.asg i y)) hy fun t e iR it ag ρ σ s α E r=>?_
  cases hq:(env.blockKind == .function&&env.kindOf z == some .local&&kC.line == q.2.2.2.line&&!(q.2.2.1.names.any fun(n,k)=>n == z&&(k == .local||k == .cell)))with
  | true=>exact LO c d1 F ag k9 lb au E r (congrArg pure hq)
  | false =>
   intro hc;refine wpAny_Assign_Name (av.useS E (CX c d1 ag au F.new E r) hc fun v ac bb u s₁ V cK aU aV aX a0=>?_) (congrArg pure hq);refine qF F aV (E.ext aU .nil) k9 lb aX fun ba r2 kM bq cx=>?_;show gS K env (ah.toS _ _ _) _ _ _ _;exact V.symm▸(⟨_,_,_,(g4 F E aU).trans bq,r2,kM,a0.trans cx,.next⟩)
 ·refine ay (v6 au hi) fun k k9 lb=>?_;exact fun J J J J E r=>LS F (by simpa using jq) k9 lb (d1.val F au hy E r) E
theorem Wt{t:Expr}{kz:List Stmt}{bx:X}{aP:S}(d1:b0 K A C f)(F:dm K.hb env)(au:env.scope.names=N)(L:f N t=some bx)(O:gQ K A C n env (execs dU env) cX)(aw:gQ K A C n env (execs kz env) aP) :
  gQ K A C n env (exec (.If t dU kz pos) env) (.ife bx cX aP):=fun ρ σ s α E r hc=>by
 have bK:ex C n (.ife bx cX aP) ρ σ=(tst C bx ρ σ).toS ρ fun t σ=>if t then ex C n cX ρ σ else ex C n aP ρ σ:=rfl
 rw[bK]at hc ⊢;refine wpAny_If (av.useS E (d1.tst F au L E r) hc fun t ac bb y s₁ V cK aU aV aX a0=>?_);have:y=t:=aX;subst this;rw[V];have e9:=E.ext aU .nil
 cases y with
 | true=>exact cr (O _ _ _ _ e9 aV cK) (fun J J q=>q.lift (g4 F E aU) a0) fun J J q=>q.lift (g4 F E aU) a0
 | false=>exact cr (aw _ _ _ _ e9 aV cK) (fun J J q=>q.lift (g4 F E aU) a0) fun J J q=>q.lift (g4 F E aU) a0
theorem Wq{it:Expr}{m7:Nat}{kv:X}(c:cf K A T C)(d1:b0 K A C f)(F:dm K.hb env)(au:env.scope.names=N)(L:ml N x=some m7)(O:pi T N (f N) it=some kv)(aw:gQ K A C n env (execs dU env) cX) :
  gQ K A C n env (exec (.For (.Name x hU) it dU [] pos) env) (.for1 m7 kv cX):=fun ρ σ s α E r=>by
 refine ay (v6 au L) fun k k9 lb=>?_
 have bK:ex C n (.for1 m7 kv cX) ρ σ=bif C.hd then .stuck else(evIt C kv ρ σ).toS ρ fun p σ=>cj p.2 (dM m7) (fun ρ σ=>ex C n cX ρ σ) p.1 ρ σ:=rfl
 rw[bK]
 cases dg:C.hd with
 | true=>exact fun hc=>absurd rfl hc
 | false =>
 obtain⟨q1,q2⟩:=wh c dg d1 O au F.new E r;exact G8 F (V6 F k9 lb) q2 q1 (aw _ _ _ _) E rfl
theorem Wp{cb:Nat}{it:Expr}{is:List Nat}{kv:X}(c:cf K A T C)(d1:b0 K A C f)(F:dm K.hb env)(au:env.scope.names=N)(L:ny N cB=some is)(O:wg T N (f N) it=some kv)(aw:gQ K A C n env (execs dU env) cX) :
  gQ K A C n env (exec (.For (.Tuple cB cb pp) it dU [] pos) env) (.forT is kv cX):=fun ρ σ s α E r=>by
 have bK:ex C n (.forT is kv cX) ρ σ=bif C.hd then .stuck else(evIt C kv ρ σ).toS ρ fun p σ=>cj p.2 (gF is) (fun ρ σ=>ex C n cX ρ σ) p.1 ρ σ:=rfl
 rw[bK]
 cases dg:C.hd with
 | true=>exact fun hc=>absurd rfl hc
 | false =>
 refine ay (Wu c dg d1 O au F.new E r) fun en q1 q2=>?_;exact G8 F (Ky (c.hd dg) F au L) q2 q1 (aw _ _ _ _) E rfl
theorem WD{e:Option Expr}{b:S}(c:cf K A T C)(au:env.scope.names=N)(h:BB T N e=some b):gQ K A C n env (exec (.Raise e none pos) env) b:=by
 unfold BB at h;refine ct h fun q hq h=>ct h fun z a7 h=>fD h fun b3 hc=>?_;refine ct hq fun V he hq=>?_;subst he;rw[tE hq];refine cJ (I2 a7) fun k p a7 cM=>?_;exact a7.symm▸(fun J J J J E r=>Uo c hc cM au E r)
theorem WL{hs:List ExceptHandler}{b:S}(c:cf K A T C)(F:dm K.hb env)(au:env.scope.names=N)(aC:n0 K A C n env g)(qW:C.rz=true->∀(hx:Heap) (a:Addr),q0 K hx a C->dm (K.wx hx).hb env->n0 (K.wx hx) (A.mark (some (.ref a))) C.inH n env g)(h:BG T N g dU hs=some b) :
  gQ K A C n env (exec (.Try dU hs [] [] pos) env) b:=by
 unfold BG at h;refine ct h fun hd h0 h=>?_;rw[sw h0];obtain⟨t,y,hb,u4⟩:=hd;change Option.bind _ _=_ at h;refine ct h fun q hq h=>ct h fun b9 hy h=>ct h fun b3 hc h=>ct h fun i hi h=>cN h fun ie h=>fM h fun b1 L kp PC=>?_;refine ct hq fun bx a3 hq=>?_;subst a3 hy;rw[m9 hq];simp only[eB,ff,Bool.not_eq_true',List.isEmpty_eq_false_iff]at ie;exact fun J J J J E r=>WS c F hc au ie.1 ie.2 (nI aC kp _ _ _ _ E r) fun oP hx a kB nS {_ _ _ _} cR aF=>nI (qW oP hx a kB nS) PC _ _ _ _ cR aF
end
theorem Wh{t v:Expr}{b:S}(c:cf K A T C)(d1:b0 K A C f)(F:dm K.hb env)(au:env.scope.names=N):wc T N f (f N) t v=some b->gQ K A C n env (exec (.Assign [t] v nA) env) b:=by
 apply @PySem.Expr.casesOn (fun t=>wc T N f (f N) t v=some b->gQ K A C n env (exec (.Assign [t] v nA) env) b) t
 case Name=>exact fun z kC h=>LP c d1 F au h
 case Subscript=>exact fun o i pp h=>cN h fun jq h=>kA h fun aP m7 c6 L O aw J J J J E r=>LQ c.hA F (by simpa using jq) (d1.val F au aw) (d1.val F au L) (d1.val F au O) E r
 case Attribute=>exact fun o nm pp h=>ct h fun q hb h=>cN h fun hc h=>fM h fun aP c6 L aw=>ay (c.brd q.1 q.2 hb) fun b8 B J J J J J E r=>LN B (mM.mp (df hc).2) F (by simpa using(df hc).1) (d1.val F au aw) (d1.val F au L) E r
 case Tuple=>exact fun cB cb pp h=>cN h fun hc h=>fM h fun is c6 L aw J J J J E r=>LR c F au L hc (d1.val F au aw E r) E
 all_goals (intros;exact Jz ‹_›)
theorem WN{t:Expr}{bx:X}(d1:b0 K A C f)(F:dm K.hb env)(au:env.scope.names=N)(L:f N t=some bx)(aw:gQ K A C n env (execs dU env) cX):gQ K A C n env (exec (.While t dU [] pos) env) (.whl bx cX):=by
 intro ρ σ s α E r;change eN K env A _ (bif C.hd then .stuck else hz (fun ρ σ=>tst C bx ρ σ) (fun ρ σ=>ex C n cX ρ σ) n ρ σ) s α
 cases C.hd with
 | true=>exact fun hc=>absurd rfl hc
 | false=>exact Xk F (fun cR aF=>d1.tst F au L cR aF) (aw _ _ _ _) E r
theorem WG{g:Stmt->Option S}(c:cf K A T C)(d1:b0 K A C f)(F:dm K.hb env)(au:env.scope.names=N)(aC:n0 K A C n env g)
  (qW:C.rz=true->∀(hx:Heap) (a:Addr),q0 K hx a C->dm (K.wx hx).hb env->n0 (K.wx hx) (A.mark (some (.ref a))) C.inH n env g)
  : n0 K A C n env (BE T N f (f N) g):=by
 intro st b;apply @PySem.Stmt.casesOn (fun st=>BE T N f (f N) g st=some b->gQ K A C n env (exec st env) b) st
 case Assign=>exact fun cB v nA h=>ct h fun t h0 h=>(sw h0).symm▸Wh c d1 F au h
 case Expr=>exact fun e pos h=>cN h fun jq h=>fD h fun y hq J J J J E r=>NN F (by simpa using jq) (d1.val F au hq E r) E
 case Return =>
  intro v pos h
  cases v with
  | some e=>exact fD h fun y hq J J J J E r=>UA F (d1.val F au hq E r) E
  | none=>exact oi h▸fun ρ σ s α E r J=>wpAny_Return_none ⟨ρ,σ,α,.refl,r,E,.refl s,.ret .none⟩
 case If=>exact fun t dU kz pos h=>kA h fun bx cX aP L O aw=>Wt d1 F au L (nI aC O) (nI aC aw)
 case For=>exact fun t it dU o pos h=>cN h fun ho h=>(gY.mp ho).symm▸jX h (fun q hq h=>kA h fun m7 kv cX L O aw=>(m9 hq).symm▸Wq c d1 F au L O (nI aC aw)) fun J h=>ct h fun cB a3 h=>kA h fun is kv cX L O aw=>(qk (o:=KO t) a3).symm▸Wp c d1 F au L O (nI aC aw)
 case While=>exact fun t dU o pos h=>cN h fun ho h=>(gY.mp ho).symm▸fM h fun bx cX L aw=>WN d1 F au L (nI aC aw)
 case Break=>exact fun pos h=>oi h▸fun ρ σ s α E r J=>wpAny_Break ⟨ρ,σ,α,.refl,r,E,.refl s,.brk⟩
 case Continue=>exact fun pos h=>oi h▸fun ρ σ s α E r J=>wpAny_Continue ⟨ρ,σ,α,.refl,r,E,.refl s,.cont⟩
 case Raise=>exact fun V ak pos h=>cN h fun he h=>(n3.mp he).symm▸WD c au h
 case Try =>
  intro rk hs o G1 pos h;refine cN h fun ie h=>?_;refine aS (df ie) fun L O=>?_;rw[gY.mp L,gY.mp O];exact WL c F au aC qW h
 all_goals (intros;exact Jz ‹_›)
theorem WH{Good:a2->Around->bn->Prop}(au:env.scope.names=N)
  (G:∀K A C,Good K A C->cf K A T C/\b0 K A C f/\(C.rz=true->∀(hx:Heap) (a:Addr),q0 K hx a C->Good (K.wx hx) (A.mark (some (.ref a))) C.inH)):∀m {K:a2} {A:Around} {C:bn},dm K.hb env->Good K A C->n0 K A C n env (sX T N f m):=by
 intro m
 induction m with
 | zero =>
  intro _ _ _ _ _
  exact fun st b h=>by contradiction
 | succ m aj =>
  intro K A C F g;exact WG (G K A C g).1 (G K A C g).2.1 F au (aj F g) fun oP hx a kB nS=>aj nS ((G K A C g).2.2 oP hx a kB)
structure fN(d:Nat)(A:Around):Prop where
 depth:A.depth+2*d+200<recursionLimit
 units:A.units+20*d+200<cLine
theorem fN.ok(h:fN d A):ec A:=⟨by have:=h.depth;(grind),by have:=h.units;(grind)⟩
theorem fN.deeper(h:fN (d+1) A):fN d (A.deeper env):=by
 refine⟨?_,?_⟩
 ·have:=h.depth;show A.depth+1+2*d+200<recursionLimit
  (grind)
 ·have:=h.units;show A.units+3+20*d+200<cLine
  (grind)
theorem fN.mark{e:Option Value}(h:fN d A):fN d (A.mark e):=⟨h.depth,h.units⟩
theorem ai.refr{p:H}{v:Value}(r:ai h α p v):ai h ⟨α.ix,α.hid,fr⟩ p v:=ai.re (α:=α) (α':=⟨α.ix,α.hid,fr⟩) (fun J J e=>e) (fun J h=>h) r
noncomputable def a2.wf(K:a2)(fr:List Addr):a2:={ K with hb:=⟨K.hb.h,fr,K.hb.prog,K.hb.w⟩ }
theorem ft.push(h:ft (K.wf fr) A)(bc:env.frame=some aB)(hk:env.scope.kind=.function):ft (K.wf (aB::fr)) (A.deeper env):=by
 refine bu h.ex fun l L O aw=>?_;refine⟨env::l,?_,?_,fun e he=>?_⟩
 ·show A.frames.map (env::·)=_;rw[L];rfl
 ·show(env::l).map (·.frame)=(aB::fr).map some;rw[dD,dD,bc,O];rfl
 ·rcases b5.mp he with q | q
  ·rw[q,hk];decide
  ·exact aw e q
theorem ft.mark{e:Option Value}(h:ft K A):ft K (A.mark e):=⟨h.ex⟩
theorem d6.wf{lS:List Addr}(o:d6 (K.wf fr).hb h α m a):d6 (K.wf lS).hb h α m a:=by
 cases m <;> exact o
theorem ao.pushFr(r:ao (K.wf fr).hb h σ α)(fB:K.hb.get? aB=none)(e:h.get? aB=some o)(d:gL o)(OW:aB∉α.ix):ao (K.wf (aB::fr)).hb h σ ⟨α.ix,α.hid,aB::fr⟩:=
 ⟨r.base,r.fresh,r.nodup,r.len,r.hidden,fun j m a V ak=>((r.obj j m a V ak).wf (lS:=aB::fr)).re (α:=α) (α':=⟨α.ix,α.hid,aB::fr⟩) (fun J J e=>e) (fun J h=>h),r.hfr,rfl,fun a ha=>by
  rcases b5.mp ha with q | q
  ·subst q;exact⟨fB,o,e,d⟩
  ·exact r.frs a q,fun a ha=>by
  rcases b5.mp ha with q | q
  ·subst q;exact OW
  ·exact r.frNot a q⟩
theorem ao.popFr(r:ao (K.wf (aB::fr)).hb h σ α):ao (K.wf fr).hb h σ ⟨α.ix,α.hid,fr⟩:=
 ⟨r.base,r.fresh,r.nodup,r.len,r.hidden,fun j m a V ak=>((r.obj j m a V ak).wf (lS:=fr)).re (α:=α) (α':=⟨α.ix,α.hid,fr⟩) (fun J J e=>e) (fun J h=>h),r.hfr,rfl,fun a ha=>r.frs a (bM _ ha),fun a ha=>r.frNot a (bM _ ha)⟩
theorem a4.ofCall{α₂:ax}{cT h₂:Heap}(hfr:α.fr=fr)(k:∀b o,h.get? b=some o->cT.get? b=some o)(hown:∀b∈own,h.get? b=none)(fB:h.get? aB=none)
  (y:a4 own ⟨α.ix,α.hid,aB::fr⟩ cT α₂ h₂):a4 [] α h ⟨α₂.ix,α₂.hid,fr⟩ h₂:=by
 have no:∀b o,h.get? b=some o->b∉own:=fun b o e q=>by rw[hown b q]at e;contradiction
 refine ay y.pre fun β q1 q2=>?_;refine⟨y.hid,⟨β,q1,fun x hx=>⟨?_,(et)⟩⟩,fun b o hb e hs=>y.seqs b o hb (k b o e) hs,fun b o hb J e=>?_,fun b o J e=>y.alive b o (no b o e) (k b o e),hfr.symm⟩
 ·cases e:h.get? x with
  | none=>rfl
  | some o=>have:=k x o e;rw[(q2 x hx).1]at this;contradiction
 ·rcases y.rest b o hb (no b o e) (k b o e)with q | ⟨f,d,cu,q⟩
  ·exact .inl q
  ·refine .inr ⟨?_,d,cu,q⟩
   rcases b5.mp f with z | z
   ·rw[z,fB]at e;contradiction
   ·exact hfr.symm▸z
theorem gz.leave{ba:Shared}{e:Value}{Q:Unit->Shared->Prop}(hA:ft (K.wf (aB::fr)) A)(bQ:dm (K.wf (aB::fr)).hb env)
  (hfr:α.fr=fr) (k:∀b o,s.heap.get? b=some o->s₁.heap.get? b=some o) (hown:∀b∈eQ env,s.heap.get? b=none) (hl:env.locals=aB) (mh:∃σ,ao (K.wf fr).hb s.heap σ α) (m:cq s s₀)
  (y:a4 (eQ env) ⟨α.ix,α.hid,aB::fr⟩ s₁.heap jc s₀.heap) (s8:aZ env ρ s₀.heap jc) (f:gz (K.wf (aB::fr)) s₀ jc i σ eb e ba)
  (a6:∀s',gz (K.wf fr) s α i σ true e s'->Q () s'):wpAny (model K.prog K.w) A (leaving env e) Q E ba:=by
 obtain⟨a,h₀,α',rfl,aO,aF,u,bW,bw⟩:=f;subst hl;have fB:s.heap.get? env.locals=none:=hown _ bi
 have OV:env.locals∉fr:=fun q=>by
  refine aL mh fun σ' Uj=>?_;obtain⟨_,o,e,_⟩:=Uj.frs _ q;rw[fB]at e;contradiction
 have PL:=(s8.ext aO .nil).la;have keep:∀b,b≠env.locals->(PySem.W.hideAll h₀ [env.locals]).get? b=h₀.get? b:=fun b hb=>PE hb
 have JB:∀b,h₀.get? b=none->(PySem.W.hideAll h₀ [env.locals]).get? b=none:=fun b hb=>by
  cases q:(PySem.W.hideAll h₀ [env.locals]).get? b with
  | none=>rfl
  | some o=>rw[PySem.W.of_hideAll _ q]at hb;contradiction
 have aV:=aF.popFr
 obtain⟨r2,_⟩:=aV.but (h':=PySem.W.hideAll h₀ [env.locals]) (I:=env.locals) PL bQ.new.l (fun b o hb e=>(keep b hb).trans e) (fun o e=>by
  obtain⟨_,aP,aE,d⟩:=aF.frs env.locals bi
  rw[e]at aE;obtain rfl:=oi aE;exact d.notSolid) fun q=>absurd q OV
 have aU:a4 [] α s.heap ⟨α'.ix,α'.hid,fr⟩ h₀:=a4.ofCall hfr k hown fB (y.trans (aO.mono ((fun J q=>absurd q et)) (lT s8 bQ.cl)));have bq:=aU.sameBut fB keep;refine RC (K:=K.wf (env.locals::fr)) hA bQ.new aF u bW fun hM BM M7=>a6 _ ⟨a,_,_,rfl,bq,r2,fun b o hb=>?_,?_,⟨(m.trans bw).gens,(m.trans bw).os⟩⟩
 ·have Pc:b≠env.locals:=fun q=>by rw[q,PySem.W.hideAll_none _ ((bi))]at hb;contradiction
  rcases BM b o (PySem.W.of_hideAll _ hb)with q | ⟨f,cu,q⟩
  ·exact .inl q
  ·rcases b5.mp f with z | z
   ·exact absurd z Pc
   ·exact .inr ⟨z,cu,q⟩
 ·obtain⟨new,e6,vs,nN,he,hc,hd,L,a3,jO⟩:=M7;refine⟨JB a new,e6,vs,nN,he,hc,hd,L,?_,jO⟩
  rcases a3 with⟨q,np⟩ | ⟨T,nk,cB,q,oF,dE,dY,pj,qP,XE⟩
  ·exact .inl q np
  ·exact .inr T nk cB q (JB T oF) dE dY pj qP XE
theorem tG:∀{names:List (Str×NameKind)} {n:Nat} {acc:List (Str×Addr)} {x:Str},(x,NameKind.cell)∈names->∃c,(x,c)∈cellsFrom n names acc
 | (y,k)::r,n,acc,x,h=>by
  have keep:∀{r:List (Str×NameKind)} {n:Nat} {acc:List (Str×Addr)} {p:Str×Addr},p∈acc->p∈cellsFrom n r acc:=by
   intro r
   induction r with
   | nil=>intro n acc p hp;exact hp
   | cons q r aj =>
    intro n acc p hp;obtain⟨y,k⟩:=q;unfold cellsFrom
    split
    ·exact aj (bM _ hp)
    ·exact aj hp
  unfold cellsFrom
  rcases b5.mp h with e | h
  ·cases e;rw[aD (by rfl)];exact⟨n,keep bi⟩
  ·split
   ·exact tG h
   ·exact tG h
theorem MC:∀{names:List (Str×NameKind)} {n:Nat} {acc:List (Str×Addr)},mK names->(acc.map (·.1)).Nodup->(∀p∈acc,∀k,(p.1,k)∉names)->((cellsFrom n names acc).map (·.1)).Nodup:=by
 intro r
 induction r with
 | nil =>
  intro _ _ _ h _;exact h
 | cons bK r aj =>
  obtain⟨y,k⟩:=bK;intro n acc jo h hd
  have HE:mK r:=fun i j x k br L O=>by have:=jo (i+1) (j+1) x k br (by simpa using L) (by simpa using O);(exact Nat.succ.inj (by assumption))
  have hy:∀br,(y,br)∉r:=fun br hm=>by
   refine aL (List.mem_iff_getElem?.mp hm) fun i hi=>?_;have:=jo 0 (i+1) y k br (by rfl) (by simpa using hi)
   (grind)
  unfold cellsFrom
  split
  ·refine aj HE ?_ fun p hp br hm=>?_
   ·simp only[dD,gZ];refine⟨fun q=>?_,h⟩;refine ay (ci.mp q) fun p hp ag=>?_;obtain rfl:=ag;exact hd p hp k bi
   ·rcases b5.mp hp with e | hp
    ·subst e;exact hy br hm
    ·exact hd p hp br (bM _ hm)
  ·exact aj HE h fun p hp br hm=>hd p hp br (bM _ hm)
theorem R3:∀{l:List (Str×Addr)},(l.map (·.1)).Nodup->∀p∈l,l.lookup p.1=some p.2:=by
 intro r
 induction r with
 | nil =>
  intro _ p hp
  (exact nomatch hp)
 | cons bK r aj =>
  obtain⟨k,v⟩:=bK;intro h p hp;simp only[dD,gZ]at h;rw[List.lookup_cons]
  rcases b5.mp hp with e | hp
  ·subst e;simp
  ·have:(p.1 == k)=false:=by
    cases hb:p.1 == k with
    | false=>rfl
    | true =>
     have:p.1=k:=by simpa using hb
     exact absurd (ci.mpr ⟨p,hp,this⟩) h.1
   exact this.symm▸(aj h.2 p hp)
theorem CN{i0:Str->Option NameKind}:∀{bj:List Str} {vals:List Value} {m:Str->Option Value} {y:Str},y∉bj->bindL i0 (bj.zip vals) m y=m y
 | [],vals,m,y,h=>by simp[bindL]
 | p::bj,[],m,y,h=>by simp[bindL]
 | p::bj,v::vals,m,y,h=>by
  simp only[b5,not_or]at h;simp only[List.zip_cons_cons,bindL];rw[CN h.2]
  split
  ·simp[h.1]
  ·rfl
theorem CL{i0:Str->Option NameKind}:∀{bj:List Str} {vals:List Value} {m:Str->Option Value} {y:Str},y∉bj->bindC i0 (bj.zip vals) m y=m y
 | [],vals,m,y,h=>by simp[bindC]
 | p::bj,[],m,y,h=>by simp[bindC]
 | p::bj,v::vals,m,y,h=>by
  simp only[b5,not_or]at h;simp only[List.zip_cons_cons,bindC];rw[CL h.2]
  split
  ·rfl
  ·simp[h.1]
theorem CM{i0:Str->Option NameKind}:∀{bj:List Str} {vals:List Value} {m:Str->Option Value} {i:Nat} {y:Str} {v:Value},bj.Nodup->bj[i]?=some y->vals[i]?=some v->i0 y=some .local->bindL i0 (bj.zip vals) m y=some v
 | [],vals,m,i,y,v,_,h,_,_=>(nomatch h)
 | p::bj,[],m,i,y,v,_,_,h,_=>(nomatch h)
 | p::bj,w::vals,m,i,y,v,hn,L,O,hk=>by
  rw[gZ]at hn;simp only[List.zip_cons_cons,bindL]
  cases i with
  | zero =>
   simp at L O;subst L O;rw[CN hn.1,aD hk];simp
  | succ i=>exact CM hn.2 (by simpa using L) (by simpa using O) hk
theorem CK{i0:Str->Option NameKind}:∀{bj:List Str} {vals:List Value} {m:Str->Option Value} {i:Nat} {y:Str} {v:Value},bj.Nodup->bj[i]?=some y->vals[i]?=some v->i0 y=some .cell->bindC i0 (bj.zip vals) m y=some v
 | [],vals,m,i,y,v,_,h,_,_=>(nomatch h)
 | p::bj,[],m,i,y,v,_,_,h,_=>(nomatch h)
 | p::bj,w::vals,m,i,y,v,hn,L,O,hk=>by
  rw[gZ]at hn;simp only[List.zip_cons_cons,bindC]
  cases i with
  | zero =>
   simp at L O;subst L O;rw[CL hn.1,aY (by rw[hk];decide)];simp
  | succ i=>exact CK hn.2 (by simpa using L) (by simpa using O) hk
structure j8(K:a2)(T:bk)(fn:bA)(a:Addr)(o:Obj)(fd:FuncData)(body:List Stmt)(bj:List Str)(n1 n2:Nat):Prop where
 ho:K.hb.get? a=some o
 hd:o.data=.func fd
 code:K.hb.h.CodeRec fd.code fd.qualname
 hbody:fd.body=.stmts body
 glob:fd.globals=mainGlobals
 bins:fd.builtins=builtinsNs
 clo:fd.closure=[]
 kind:fd.scope.kind=.function
 co:fd.scope.isCoroutine=false
 gen:fd.scope.isGenerator=false
 sc:o9 fd.scope.names=true
 tr:j3 (sX T fd.scope.names (qJ T n1) n2) body=some fn.body
 params:fn.params=bj.length
 slots:fn.slots=fd.scope.names.length
 pk:∀(i:Nat) (p:Str),bj[i]?=some p->∃k,fd.scope.names[i]?=some (p,k)/\(k=NameKind.local\/k=.cell)
 bind:∀vals:List Value,vals.length=bj.length->bindArgs fd ⟨vals,[]⟩=pure (bj.zip vals)
theorem j8.nodup{K T fn a o fd body bj n1 n2}(f:j8 K T fn a o fd body bj n1 n2):bj.Nodup:=by
 rw[List.Nodup,List.pairwise_iff_getElem];intro i j hi a5 HQ e;obtain⟨k,L,_⟩:=f.pk i bj[i] (by simp[hi]);obtain⟨br,O,_⟩:=f.pk j bj[j] (by simp[a5]);rw[e]at L;have:=(sK f.sc).uniq i j _ _ _ L O
 (grind)
theorem Mr(f:j8 K T fn a o fd body bj n1 n2){vs:List H}
  (hl:vs.length=bj.length) (r:ao (K.wf fr).hb s.heap σ α) (v:bh s.heap α vs us)
  (I:InCallC s (callEnvC fd s.heap.objs.size a).locals (bindL (callEnvC fd s.heap.objs.size a).kindOf (bj.zip us) fun J=>none) (callEnvC fd s.heap.objs.size a).cells (bindC (callEnvC fd s.heap.objs.size a).kindOf (bj.zip us) fun J=>none) s₁) :
  aZ (callEnvC fd s.heap.objs.size a) (vs.map some++List.replicate (fn.slots-fn.params) none) s₁.heap ⟨α.ix,α.hid,s.heap.objs.size::fr⟩/\dm (K.wf (s.heap.objs.size::fr)).hb (callEnvC fd s.heap.objs.size a)/\ao (K.wf (s.heap.objs.size::fr)).hb s₁.heap σ ⟨α.ix,α.hid,s.heap.objs.size::fr⟩/\cq s s₁/\(∀b o,s.heap.get? b=some o->s₁.heap.get? b=some o)/\∀b∈eQ (callEnvC fd s.heap.objs.size a),s.heap.get? b=none:=by
 have sc:=sK f.sc;have keep:=I.toInCall.keep;have fh:(callEnvC fd s.heap.objs.size a).scope=fd.scope:=rfl;have Yo:(callEnvC fd s.heap.objs.size a).cells=cellsFrom (s.heap.objs.size+1) fd.scope.names []:=rfl;have Yv:(callEnvC fd s.heap.objs.size a).locals=s.heap.objs.size:=rfl
 have fresh:∀b,s.heap.objs.size<=b->s.heap.get? b=none:=fun b hb=>by
  cases e:s.heap.get? b with
  | none=>rfl
  | some aP=>exact absurd (e0 e) (Nat.not_lt.mpr hb)
 have notAll:∀b,s.heap.get? b=none->b∉α.all:=fun b hb q=>by refine aL (r.liveAll q) fun o e=>?_;rw[hb]at e;contradiction
 have base:∀b,s.heap.get? b=none->K.hb.get? b=none:=fun b hb=>by
  cases e:K.hb.get? b with
  | none=>rfl
  | some o=>rw[r.base b o e]at hb;contradiction
 have xd:∀n c,(n,c)∈(callEnvC fd s.heap.objs.size a).cells->s.heap.get? c=none:=fun n c h=>fresh c (h6 (I.above n c h));have i0:∀(i:Nat) (y:Str) (k:NameKind),fd.scope.names[i]?=some (y,k)->(callEnvC fd s.heap.objs.size a).kindOf y=some k:=fun i y k h=>sk sc.uniq h;have oM:=MC (n:=s.heap.objs.size+1) (acc:=[]) sc.uniq (by trivial) ((fun J q=>absurd q et));have cl:∀p∈(callEnvC fd s.heap.objs.size a).cells,(callEnvC fd s.heap.objs.size a).cells.lookup p.1=some p.2:=R3 oM;have K4:a4 [] α s.heap α s₁.heap:=.keeps keep
 have zU:∀(i:Nat) (w:H),(vs.map some++List.replicate (fn.slots-fn.params) (none:Option H))[i]?=some (some w)->vs[i]?=some w:=fun i w e=>by
  by_cases hi:i<vs.length
  ·rw[iA (by simpa using hi)]at e;simpa using e
  ·rw[h4 (by simpa using hi)]at e;rw[List.getElem?_replicate]at e
   split at e <;> cases e
 have arg:∀(i:Nat) (w:H),vs[i]?=some w->∃p k u,bj[i]?=some p/\fd.scope.names[i]?=some (p,k)/\(k=.local\/k=.cell)/\us[i]?=some u/\ai s.heap α w u:=fun i w e=>by
  have hi:i<vs.length:=(dX e).1;have hp:i<bj.length:=(Nat.lt_of_lt_of_eq (by assumption) (by assumption));obtain⟨k,L,O⟩:=f.pk i bj[i] (by simp[hp])
  have hu:i<us.length:=by exact v.1▸hi
  exact⟨bj[i],k,us[i],by simp[hp],L,O,by simp[hu],v.2 i w us[i] e (by simp[hu])⟩
 refine⟨⟨⟨f.kind,f.glob,f.bins,i0,sc.nodbg⟩,notAll _ (fresh _ (dA _)),⟨_,I.toInCall.ns,fun i y w V ak=>?_⟩,fun y c hc=>?_,fun y z c L O=>?_,fun i y V=>?_,fun i w e=>?_⟩,
  ⟨sc,⟨base _ (fresh _ (dA _)),fun y c hc=>base _ (xd y c (mem_of_lookup hc)),⟨_,_,rfl,rfl⟩⟩,cl,?_⟩,?_,?_,keep,fun b hb=>?_⟩
 ·refine rt (arg i w (zU i w ak)) fun p k u q1 q2 q3 q4 q5=>?_;rw[fh]at V;rw[q2]at V;cases V;exact⟨u,CM f.nodup q1 q4 (i0 i _ _ q2),(q5.ext K4).refr⟩
 ·have hm:=mem_of_lookup hc;exact⟨notAll _ (xd y c hm),c7 (I.above y c hm),_,I.cell y c hc⟩
 ·exact name_of_addr I.apart (mem_of_lookup L) (mem_of_lookup O)
 ·rw[fh]at V;refine aL (tG (n:=s.heap.objs.size+1) (acc:=[]) (d2 V)) fun c hc=>?_;have cg:=cl (y,c) hc;refine⟨c,cg,fun w ak=>?_⟩;refine rt (arg i w (zU i w ak)) fun p k u q1 q2 q3 q4 q5=>?_;rw[q2]at V;cases V;refine⟨u,?_,(q5.ext K4).refr⟩;have:=I.cell _ c cg;rw[CK f.nodup q1 q4 (i0 i _ _ q2)]at this;exact this
 ·refine rt (arg i w (zU i w e)) fun p k u q1 q2 q3 q4 q5=>?_;exact⟨p,k,q2,q3⟩
 ·show(fd.scope.kind == .module&&_)=false;rw[f.kind];rfl
 ·refine lM I.toInCall.ns fun aP es d9 aE d J=>?_;exact(r.keeps keep).pushFr (base _ (fresh _ (dA _))) aE ⟨es,d9,d⟩ (ax.not_ix (notAll _ (fresh _ (dA _))))
 ·refine jm I.toInCall.same fun h' tk ag=>?_;obtain rfl:=ag;exact⟨rfl,rfl⟩
 ·rcases b5.mp hb with q | q
  ·exact q.symm▸(fresh _ (dA _))
  ·refine ay (ci.mp q) fun p hp ag=>?_;obtain rfl:=ag;exact xd p.1 p.2 hp
inductive pu(K:a2)(T:bk)(P:gB)(f:Nat)(aB:Addr->Prop):Prop
 | mk (fn:bA) (a:Addr) (o:Obj) (fd:FuncData) (body:List Stmt) (bj:List Str) (n1 n2:Nat) (bc:P.fns[f]?=some fn) (hl:aB a) (F:j8 K T fn a o fd body bj n1 n2):pu K T P f aB
structure PrgOk(K:a2)(T:bk)(P:gB):Prop where
 hK:K.Ok
 cst:∀x v,T.cst.lookup x=some v->∃u,K.mg x=some u/\∀fr h σ α,ao (K.wf fr).hb h σ α->ai h α v u
 bin:∀x,x∈T.bins->K.mg x=none/\∃v,kW x=some v/\K.mb x=some v
 exc:∃F:PySem.W.Frag,F.In K.hb.h/\∀p∈T.excs,pr K p.1 p.2.1 p.2.2/\ow F T p.2.1=true
 fns:∀(f:Nat) (x:Str),T.fns[f]?=some x->pu K T P f fun a=>K.mg x=some (.ref a)
 brd:∀b c,T.brd=some (b,c)->∃F:PySem.W.Frag,j5 K F b c/\∀(j:Nat) (n:Str),T.meths[j]?=some n->pu K T P (T.fns.length+j) fun a=>PySem.W.findIn F (.ref c) n=some (some (.ref a))/\PySem.W.typeIn F (.ref a)=some (.type "function")
theorem pu.wx{P:gB}{f:Nat}{aB:Addr->Prop}(k:∀b o,K.hb.h.get? b=some o->h'.get? b=some o)(q:pu K T P f aB):pu (K.wx h') T P f aB:=by
 obtain⟨fn,a,o,fd,body,bj,n1,n2,bc,hl,F⟩:=q;exact⟨fn,a,o,fd,body,bj,n1,n2,bc,hl,⟨k _ _ F.ho,F.hd,F.code.keeps k,F.hbody,F.glob,F.bins,F.clo,F.kind,F.co,F.gen,F.sc,F.tr,F.params,F.slots,F.pk,F.bind⟩⟩
theorem PrgOk.wx{P:gB}(k:∀b o,K.hb.h.get? b=some o->h'.get? b=some o)(p:PrgOk K T P):PrgOk (K.wx h') T P:=by
 refine⟨⟨p.hK.g.keeps k,p.hK.b.keeps k,p.hK.nolimit.keeps k,let⟨o,e⟩:=p.hK.mods;⟨o,k _ _ e⟩⟩,
  fun x v h=>let⟨u,L,O⟩:=p.cst x v h;⟨u,L,fun fr h σ α r=>O fr h σ α (ao.unwx (K:=K.wf fr) k r)⟩,p.bin,?_,fun f x hx=>(p.fns f x hx).wx k
  ,fun b c hb=>?_
  ⟩
 ·refine ay p.exc fun b8 X aC=>?_;refine⟨b8,fun a o e=>k a o (X a o e),fun q hq=>⟨⟨(aC q hq).1.mg,?_,(aC q hq).1.tail.keeps k⟩,(aC q hq).2⟩⟩;obtain⟨nm,vZ,tg,bs,hdct,sn,sub,ab,col,dd,k0,k1,k2,k3,k5,hC,mN,zs,rX⟩:=(aC q hq).1.ob;exact⟨nm,vZ,tg,bs,hdct,sn,sub,ab,col,dd,k0,k1,k2,k3,k5,k _ _ hC,mN,zs.keeps k,rX⟩
 ·refine ay (p.brd b c hb) fun b8 B aC=>?_
  exact⟨b8,⟨B.mg,fun a o e=>k a o (B.inn a o e),B.keep,B.makes,B.plain,B.hasd,B.seta,B.free
   ,B.geta,B.getr,B.none
   ⟩,fun j n a5=>(aC j n a5).wx k⟩
structure ir(K:a2)(A:Around)(m:Nat):Prop where
 hd:m=0->A.handled=none
 ph:K.ph=(m != 0)
 rz:m=1->wH K A
theorem ir.ctx{m N:Nat}{P:gB}(h:ir K A m):((fz P N m d).hd=false->A.handled=none)/\K.ph=(fz P N m d).hd/\((fz P N m d).rz=true->(fz P N m d).hd=true->wH K A):=
 ⟨fun q=>h.hd (by simpa[bn.hd,fz]using q),h.ph,fun q1 q2=>h.rz (by
  have dE:m<=1:=Nat.le_of_ble_eq_true q1
  have dY:m≠0:=by simpa[bn.hd,fz]using q2
  omega)⟩
theorem ir.mark{m N:Nat}{P:gB}{hx:Heap}(kB:q0 K hx a (fz P N m d)):ir (K.wx hx) (A.mark (some (.ref a))) (m+1):=
 ⟨fun q=>by contradiction,by show true=_;(rfl),fun q=>by
  obtain⟨o,vs,L,O,aw⟩:=kB.2 (by show(m != 0)=false;rw[Nat.succ.inj q];rfl)
  exact⟨a,o,vs,rfl,L,O,aw⟩⟩
theorem pr.wf{up fr:List Nat}(e:pr K x c up):pr (K.wf fr) x c up:=⟨e.mg,e.ob,e.tail⟩
theorem Mo{P:gB}{N m f:Nat}{vs:List H}(bc:P.fns[f]?=some fn):g0 P N m (d+1) f vs σ=if vs.length=fn.params then(match ex (fz P N m d) N fn.body (vs.map some++List.replicate (fn.slots-fn.params) none) σ with
  | .next _ σ=>.ok .none σ
  | .ret v _ σ=>.ok v σ
  | .exc i _ σ=>.exc i σ
  | _=>.stuck)else .stuck:=by
 show(match P.fns[f]? with
  | some fn=>if vs.length=fn.params then(match ex (fz P N m d) N fn.body (vs.map some++List.replicate (fn.slots-fn.params) none) σ with
   | .next _ σ=>ah.ok H.none σ
   | .ret v _ σ=>.ok v σ
   | .exc i _ σ=>.exc i σ
   | _=>.stuck)else .stuck
  | none=>.stuck)=_
 rw[bc]
theorem CU{P:gB}(p:PrgOk K T P){N:Nat}{hd:Nat}(Qc:A.depth<recursionLimit)(hA:∀env,fN d (A.deeper env))(aN:ir K A hd)(bQ:ft (K.wf fr) A)
  (n9:∀{K:a2} (p:PrgOk K T P) (m:Nat) (A:Around) (fr:List Addr),fN d A->ir K A m->ft (K.wf fr) A->cf (K.wf fr) A T (fz P N m d))
  {f:Nat} {fn:bA} {a:Addr} {o:Obj} {fd:FuncData} {body:List Stmt} {bj:List Str} {n1 n2:Nat} (bc:P.fns[f]?=some fn) (F:j8 K T fn a o fd body bj n1 n2)
  {vs:List H} {us:List Value} {s:Shared} {σ:aa} {α:ax} (r:ao (K.wf fr).hb s.heap σ α) (v:bh s.heap α vs us) (hc:g0 P N hd (d+1) f vs σ≠.stuck)
  {pD:Result->Shared->Prop} (cM:∀v s',cp (K.wf fr) ai (g0 P N hd (d+1) f vs σ) s α v s'->pD (.ok (.ret v)) s') (u1:∀e s',da (K.wf fr) A (g0 P N hd (d+1) f vs σ) s α e s'->pD (.error e) s') :
  codeAny (model K.prog K.w) A (.call (.ref a) ⟨us,[]⟩) pD s:=by
 rw[Mo bc]at hc cM u1;by_cases hl:vs.length=fn.params
 ·rw[aD hl]at hc cM u1;rw[F.params]at hl;have sc:=sK F.sc;refine codeAny_call_cells Qc (r.base _ _ F.ho) F.hd (p.hK.nolimit.keeps r.base) (F.code.keeps r.base) F.hbody (F.bind us (by rw[<- v.1];exact hl)) F.clo (fun q hq=>?_) (fun s₁ I=>?_) F.co F.gen F.kind
  ·refine aL (List.mem_iff_getElem?.mp hq) fun i hi=>?_;refine aS (List.getElem?_zip_eq_some.mp hi) fun L O=>?_;refine ay (F.pk i q.1 L) fun k aw aQ=>?_
   rcases aQ with rfl | rfl
   ·exact .inl (sk sc.uniq aw)
   ·refine .inr ⟨sk sc.uniq aw,?_⟩;refine aL (tG (n:=s.heap.objs.size+1) (acc:=[]) (d2 aw)) fun c cg=>?_;refine aL (I4 cg) fun b3 Pg=>?_;rw[Pg];rfl
  ·refine tR (Mr F hl r v I) fun E Fr aV a0 ll own=>?_;have OO:fN d (A.deeper (callEnvC fd s.heap.objs.size a)):=hA _;have Hw:ft (K.wf (s.heap.objs.size::fr)) (A.deeper (callEnvC fd s.heap.objs.size a)):=bQ.push rfl F.kind
   have CQ:=nI (n:=N) (WH (T:=T) (f:=qJ T n1) (Good:=fun B9 qU B2=>∃fu lS m,B9=a2.wf fu lS/\B2=fz P N m d/\PrgOk fu T P/\fN d qU/\ir fu qU m/\ft (a2.wf fu lS) qU) rfl (fun B9 qU B2 g=>by
    refine jP g fun fu lS m ag bp=>?_;obtain rfl:=ag;obtain⟨rfl,sB,ed,h',ox⟩:=bp;have ctx:=n9 sB m qU lS ed h' ox
    exact⟨ctx,Wo ctx n1,fun J hx a kB=>⟨fu.wx hx,lS,m+1,rfl,rfl,sB.wx kB.1,ed.mark,ir.mark (K:=fu) kB,⟨ox.ex⟩⟩⟩) n2 Fr ⟨K,_,hd,rfl,rfl,p,OO,⟨aN.hd,aN.ph,aN.rz⟩,Hw⟩) F.tr _ _ _ _ E aV
   generalize p0:ex (fz P N hd d) N fn.body (vs.map some++List.replicate (fn.slots-fn.params) none) σ=iR at hc CQ cM u1
   have k8:iR≠.stuck:=by rintro rfl;exact hc rfl
   have hfr:α.fr=fr:=r.fe;have OX:s.heap.get? s.heap.objs.size=none:=own _ bi;refine cr (CQ k8) (fun fl ba hp=>?_) fun e ba hx=>?_
   ·obtain⟨eA,ar,α₂,bq,r2,kM,cx,fo⟩:=hp;have s4:a4 [] α s.heap ⟨α₂.ix,α₂.hid,fr⟩ ba.heap:=a4.ofCall hfr ll own OX bq
    cases fo with
    | next=>exact cM _ _ ⟨.none,_,_,rfl,s4,r2.popFr,.none,a0.trans cx⟩
    | ret di=>exact cM _ _ ⟨_,_,_,rfl,s4,r2.popFr,di.refr,a0.trans cx⟩
    | brk=>exact absurd rfl hc
    | cont=>exact absurd rfl hc
   ·obtain⟨i,ρ',σ',s₀,jc,eb,V,y,s8,qh,ey⟩:=hx;subst V;exact gz.leave Hw Fr hfr ll own rfl ⟨_,r⟩ (a0.trans qh) y s8 ey fun s' f=>u1 _ _ ⟨i,σ',rfl,_,f⟩
 ·rw[aY hl]at hc;exact absurd rfl hc
theorem Mv{P:gB}(p:PrgOk K T P){N:Nat}{hd:Nat}(hA:fN (d+1) A)(aN:ir K A hd)(bQ:ft (K.wf fr) A)
  (n9:∀{K:a2} (p:PrgOk K T P) (m:Nat) (A:Around) (fr:List Addr),fN d A->ir K A m->ft (K.wf fr) A->cf (K.wf fr) A T (fz P N m d))
  {f:Nat} {fn:bA} {a:Addr} {o:Obj} {fd:FuncData} {body:List Stmt} {bj:List Str} {n1 n2:Nat} (bc:P.fns[f]?=some fn) (F:j8 K T fn a o fd body bj n1 n2)
  {vs:List H} {us:List Value} {s:Shared} {σ:aa} {α:ax} (r:ao (K.wf fr).hb s.heap σ α) (v:bh s.heap α vs us) (hc:g0 P N hd (d+1) f vs σ≠.stuck) :
  wpAny (model K.prog K.w) A (call (.ref a) us) (cp (K.wf fr) ai (g0 P N hd (d+1) f vs σ) s α) (da (K.wf fr) A (g0 P N hd (d+1) f vs σ) s α) s:=
 wpAny_call (CU p (by have:=hA.depth;(grind)) (fun J=>hA.deeper) aN bQ n9 bc F r v hc (fun J J h=>h) fun J J h=>h)
open PySem.W in
theorem V4{c:Addr}(h:fN (d+1) A):(A.under (.builtin "type.__call__" ⟨.ref c::us,[]⟩)).depth<recursionLimit/\∀env,fN d ((A.under (.builtin "type.__call__" ⟨.ref c::us,[]⟩)).deeper env):=by
 have w:(Code.builtin "type.__call__" ⟨.ref c::us,[]⟩).weight<=1:=Nat.le_of_ble_eq_true (by kernel_rfl);have u:(Code.builtin "type.__call__" ⟨.ref c::us,[]⟩).cUnits<=4:=Nat.le_of_ble_eq_true rfl;have L:=h.depth;have O:=h.units;refine⟨?_,fun env=>⟨?_,?_⟩⟩
 ·show A.depth+(Code.builtin "type.__call__" ⟨.ref c::us,[]⟩).weight<recursionLimit;(grind)
 ·show A.depth+(Code.builtin "type.__call__" ⟨.ref c::us,[]⟩).weight+1+2*d+200<recursionLimit;(grind)
 ·show A.units+(Code.builtin "type.__call__" ⟨.ref c::us,[]⟩).cUnits+3+20*d+200<cLine;(grind)
theorem j5.wf{F:PySem.W.Frag}{b:Str}{c:Addr}(B:j5 K F b c):j5 (K.wf fr) F b c:=⟨B.mg,B.inn,B.keep,B.makes,B.plain,B.hasd,B.seta,B.free
  ,B.geta,B.getr,B.none
  ⟩
open PySem.W in
theorem Te{P:gB}(p:PrgOk K T P){N:Nat}{hd:Nat}(hA:fN (d+1) A)(aN:ir K A hd)(bQ:ft (K.wf fr) A)
  (n9:∀{K:a2} (p:PrgOk K T P) (m:Nat) (A:Around) (fr:List Addr),fN d A->ir K A m->ft (K.wf fr) A->cf (K.wf fr) A T (fz P N m d))
  {f:Nat} {fn:bA} {a:Addr} {o:Obj} {fd:FuncData} {body:List Stmt} {bj:List Str} {n1 n2:Nat} (bc:P.fns[f]?=some fn) (F:j8 K T fn a o fd body bj n1 n2)
  {b8:Frag} {b:Str} {c:Addr} (B:j5 K b8 b c) (hi:findIn b8 (.ref c) "__init__" = some (some (.ref a))) (lY:typeIn b8 (.ref a)=some (.type "function"))
  {vs:List H} {us:List Value} {s:Shared} {σ:aa} {α:ax} (r:ao (K.wf fr).hb s.heap σ α) (v:bh s.heap α vs us) :
  av (K.wf fr) ai A (call (.ref c) us) (l7 (fz P N hd (d+1)) c f vs σ) s α:=by
 intro hc;have X:b8.In s.heap:=fun x o e=>r.base x o (B.inn x o e);obtain⟨h,g,tO,t,os⟩:=s;refine wpAny_call (make_core (makes_of X B.makes) (looks_findIn X hi) (fun self=>bind_fn X self lY) (.inl rfl) ?_);have k:∀b o,h.get? b=some o->((h.push emptyDict).push (instObj c h.objs.size)).get? b=some o:=fun b o e=>c3 _ (c3 _ e)
 have hn:∀b,h.objs.size<=b->h.get? b=none:=fun b hb=>by
  cases e:h.get? b with
  | none=>rfl
  | some o=>exact absurd (e0 e) (Nat.not_lt.mpr hb)
 have hD:((h.push emptyDict).push (instObj c h.objs.size)).get? h.objs.size=some emptyDict:=c3 _ (ef _ rfl)
 have hx:((h.push emptyDict).push (instObj c h.objs.size)).get? (h.objs.size+1)=some (instObj c h.objs.size):=by
  have:=ef (h.push emptyDict) (o:=instObj c h.objs.size) rfl
  rwa [Heap.size_push]at this
 have Tp:((h.push emptyDict).push (instObj c h.objs.size)).Ns1 h.objs.size fun J=>none:=
  Heap.Ns1.of_empty ⟨_,#[],_,hD,rfl,fun e he=>absurd he (by(intro q;exact nomatch q)),fun J=>rfl⟩
 refine aS (r.add (D:=h.objs.size) (m:=.ns []) k (hn _ (dA _)) ⟨_,Tp,fun n v e=>(nomatch e),fun J J=>rfl⟩) fun aF aO=>?_
 have PF:(α.add h.objs.size).ix[σ.length]?=some h.objs.size:=by rw[r.len];simp[ax.add]
 have Qx:h.objs.size+1∉(α.add h.objs.size).all:=fun q=>by
  refine aL (aF.liveAll q) fun o e=>?_
  rcases dt.mp q with q | q
  ·rcases dt.mp q with q | q
   ·refine aL (r.liveAll (gW _ q)) fun o e=>?_;rw[hn _ (Nat.le_succ _)]at e;contradiction
   ·exact absurd (de.mp q) (Nat.succ_ne_self _)
  ·refine aL (r.liveAll (d7 _ q)) fun o e=>?_;rw[hn _ (Nat.le_succ _)]at e;contradiction
 have nJ:ai ((h.push emptyDict).push (instObj c h.objs.size)) (α.add h.objs.size) (.inst c σ.length) (.ref (h.objs.size+1)):=.inst hx Qx PF;refine aS (V4 (c:=c) (us:=us) hA) fun g1 g2=>?_;unfold l7 at hc ⊢
 have k8:g0 P N hd (d+1) f (.inst c σ.length::vs) (σ++[.ns []])≠.stuck:=fun q=>hc (by
  show(g0 P N hd (d+1) f (.inst c σ.length::vs) (σ++[.ns []])).bind _=_
  rw[q];rfl)
 refine CU p (s:=⟨(h.push emptyDict).push (instObj c h.objs.size),g,tO,t,os⟩) g1 g2 ⟨aN.hd,aN.ph,aN.rz⟩ ⟨bQ.ex⟩ n9 bc F (vs:=.inst c σ.length::vs) aF (.cons nJ (v.ext aO)) k8 (fun w s' hp=>?_) fun e s' hp=>?_
 ·obtain⟨h8,σ',α',e,bq,r2,bz,cx⟩:=hp;change(g0 P N hd (d+1) f (.inst c σ.length::vs) (σ++[.ns []])).bind _≠_ at hc;rw[e]at hc
  cases h8 with
  | none =>
   obtain rfl:=bz.noneE;refine⟨rfl,?_⟩;show cp (K.wf fr) ai ((g0 P N hd (d+1) f (.inst c σ.length::vs) (σ++[.ns []])).bind _) _ _ _ _;rw[e];exact⟨_,σ',α',rfl,aO.trans bq,r2,nJ.ext bq,⟨cx.gens,cx.os⟩⟩
  | _=>exact absurd rfl hc
 ·have m3:da (K.wf fr) (A.under (.builtin "type.__call__" ⟨.ref c::us,[]⟩)) (g0 P N hd (d+1) f (.inst c σ.length::vs) (σ++[.ns []])) ⟨h,g,tO,t,os⟩ α e s':=hp.lift (s₁:=⟨(h.push emptyDict).push (instObj c h.objs.size),g,tO,t,os⟩) aO ⟨rfl,rfl⟩;obtain⟨i,σ',V,ey⟩:=m3;show da (K.wf fr) A ((g0 P N hd (d+1) f (.inst c σ.length::vs) (σ++[.ns []])).bind _) _ _ _ _;rw[V];exact⟨i,σ',rfl,ey⟩
theorem Ji{P:gB}{N m:Nat}(p:PrgOk K T P)(hA:fN d A)(aN:ir K A m)(bQ:ft (K.wf fr) A)
  (iX:∀{f fn a o fd body bj n1 n2},P.fns[f]?=some fn->j8 K T fn a o fd body bj n1 n2->∀vs us s σ α,ao (K.wf fr).hb s.heap σ α->bh s.heap α vs us->av (K.wf fr) ai A (call (.ref a) us) (g0 P N m d f vs σ) s α)
  (PW:∀{f fn a o fd body bj n1 n2},P.fns[f]?=some fn->j8 K T fn a o fd body bj n1 n2->∀{b8 b c},j5 K b8 b c->PySem.W.findIn b8 (.ref c) "__init__" = some (some (.ref a))->PySem.W.typeIn b8 (.ref a)=some (.type "function") ->
   ∀vs us s σ α,ao (K.wf fr).hb s.heap σ α->bh s.heap α vs us->av (K.wf fr) ai A (call (.ref c) us) (l7 (fz P N m d) c f vs σ) s α)
  : cf (K.wf fr) A T (fz P N m d):=by
 refine⟨⟨p.hK.g,p.hK.b,p.hK.nolimit,p.hK.mods⟩,hA.ok,
  aN.ctx.1,aN.ctx.2.1,aN.ctx.2.2,bQ,?_,
  fun x v h=>?_,fun f x hx=>?_,p.bin
  ,fun b c hb=>?_
  ⟩
 ·refine ay p.exc fun b8 X aC=>?_;exact⟨b8,X,fun q hq=>⟨(aC q hq).1.wf,(aC q hq).2⟩⟩
 ·refine ay (p.cst x v h) fun u L O=>?_;exact⟨u,L,fun h σ α r=>O fr h σ α r⟩
 ·obtain⟨fn,a,o,fd,body,bj,n1,n2,bc,hmg,F⟩:=p.fns f x hx;exact⟨a,o,fd,hmg,F.ho,F.hd,iX bc F⟩
 ·refine ay (p.brd b c hb) fun b8 B aC=>?_
  refine⟨b8,B.wf,fun j a5=>?_
   ,fun j n a5=>?_
   ⟩
  ·obtain⟨fn,a,o,fd,body,bj,n1,n2,bc,⟨q1,q2⟩,F⟩:=aC j _ a5;exact PW bc F B q1 q2
  ·obtain⟨fn,a,o,fd,body,bj,n1,n2,bc,⟨q1,q2⟩,F⟩:=aC j n a5;exact⟨a,o,fd,q1,q2,F.ho,F.hd,iX bc F⟩
theorem n9{P:gB}{N:Nat}(d:Nat):∀{K:a2} (p:PrgOk K T P) (m:Nat) (A:Around) (fr:List Addr),fN d A->ir K A m->ft (K.wf fr) A->cf (K.wf fr) A T (fz P N m d):=by
 induction d with
 | zero =>
  exact fun p m A fr hA aN bQ=>Ji p hA aN bQ (fun J J J J J J J J J hc=>absurd rfl hc)
   (fun J J J J J J J J J J J J J J J hc=>absurd rfl hc)
 | succ d aj =>
  exact fun p m A fr hA aN bQ=>Ji p hA aN bQ (fun bc F vs us s σ α r v hc=>Mv p hA aN bQ aj bc F r v hc)
   (fun bc F J J J B q1 q2 vs us s σ α r v=>Te p hA aN bQ aj bc F B q1 q2 r v)
section
open PySem.W
theorem Ap:∀{bj:List Str} {vals:List Value} {i:Nat} {p:Str} {v:Value},bj.Nodup->bj[i]?=some p->vals[i]?=some v->(bj.zip vals).lookup p=some v
 | [],_,_,_,_,_,h,_=>(nomatch h)
 | _::_,[],_,_,_,_,_,h=>(nomatch h)
 | q::bj,w::vals,i,p,v,hn,L,O=>by
  rw[gZ]at hn;rw[List.zip_cons_cons,List.lookup_cons]
  cases i with
  | zero=>simp at L O;subst L O;simp
  | succ i =>
   have rG:bj[i]?=some p:=by simpa using L
   have:(p == q)=false:=by
    cases hb:p == q with
    | false=>rfl
    | true =>
     have:p=q:=by simpa using hb
     subst this;exact absurd (d2 rG) hn.1
   exact this.symm▸(Ap hn.2 rG (by simpa using O))
theorem NW{vals:List Value}(hn:bj.Nodup)(hl:vals.length=bj.length):(bj.filterMap fun n=>((bj.zip vals).lookup n).map (n,·))=bj.zip vals:=by
 have key:∀(o6:List Str) (ws:List Value),o6.length=ws.length->(∀(i:Nat) q w,o6[i]?=some q->ws[i]?=some w->(bj.zip vals).lookup q=some w)->(o6.filterMap fun n=>((bj.zip vals).lookup n).map (n,·))=o6.zip ws:=by
  intro o6
  induction o6 with
  | nil=>intro ws _ _;(rfl)
  | cons q o6 aj =>
   intro ws hl h
   cases ws with
   | nil=>contradiction
   | cons w ws =>
    have h0:=h 0 q w (by rfl) (by rfl);simp only[List.filterMap_cons,h0,Option.map_some,List.zip_cons_cons];rw[aj ws (by simpa using hl) fun i q w L O=>h (i+1) q w (by simpa using L) (by simpa using O)]
 exact key bj vals hl.symm fun i q w L O=>Ap hn L O
theorem Mb(hp:fd.params.posonlyargs=[])(ha:fd.params.args.map (·.arg)=bj)(hk:fd.params.kwonlyargs=[])(hv:fd.params.vararg=none)(hw:fd.params.kwarg=none)(uY:fd.defaults=.none)
  (hn:bj.Nodup) {vals:List Value} (hl:vals.length=bj.length):bindArgs fd ⟨vals,[]⟩=pure (bj.zip vals):=by
 obtain⟨nm,q,⟨YZ,n5,va,YM,i0,kw,Yd⟩,body,sc,g,cl,Ye,YN,doc,pm,an,code,gJ,xa⟩:=fd;dsimp only at hp ha hk hv hw uY;subst hp hk hv hw uY;refine(aY ?_).trans ((aY ?_).trans ?_)
 ·show ¬(decide (vals.length > (n5.map (·.arg)).length)&&true)=true;exact ha▸hl▸(fx (Nat.lt_irrefl _))▸nofun
 ·show ¬(!(((n5.map (·.arg)).take ((n5.map (·.arg)).length-(List.drop (0-(n5.map (·.arg)).length) ([]:List Value)).length)).filter fun n=>(((n5.map (·.arg)).zip vals).lookup n).isNone).isEmpty)=true;rw[ha,List.drop_nil,List.length_nil,Nat.sub_zero,List.take_length,List.filter_eq_nil_iff.mpr]
  ·exact nofun
  intro a jQ;obtain⟨i,hi,rfl⟩:=List.mem_iff_getElem.mp jQ;rw[Ap hn (i:=i) (v:=vals[i]) (dI hi) (dI _)];exact nofun
 ·have a7:∀(l:List Str),l.zip ([]:List Value)=[]:=fun l=>List.zip_nil_right;dsimp only;rw[show(none.getD #[]:Array Value).toList=[]from rfl,List.drop_nil,a7];show(pure:_->Sem _) ((List.map (fun x:Arg=>x.arg) n5++[]).filterMap fun n=>(((List.map (fun x:Arg=>x.arg) n5).zip vals).lookup n).map (n,·))=_;rw[ha,List.append_nil,NW hn hl]
theorem J0{v:Value}(h:A6 v=some a):v=.ref a:=by
 cases v with
 | ref b=>rw[oi h]
 | _=>contradiction
theorem QK{v:Value}{i:Int}(h:ID v=some i):∃t,v=.int i t:=by
 cases v with
 | int j t=>exact⟨t,by rw[oi h]⟩
 | _=>contradiction
theorem VF{v:Value}{s:Str}(h:Kl v=some s):∃t,v=.str s t:=by
 cases v with
 | str j t=>exact⟨t,by rw[oi h]⟩
 | _=>contradiction
theorem Oi{d:Data}(h:Hb d=some fd):d=.func fd:=by
 cases d with
 | func f=>rw[oi h]
 | _=>contradiction
theorem UV{d:Data}{q:Array Value×Nat}(h:J5 d=some q):d=.seq q.1 q.2:=by
 cases d with
 | seq f n=>rw[<- oi h]
 | _=>contradiction
theorem Vy{d:FuncBody}{b:List Stmt}(h:Kj d=some b):d=.stmts b:=by
 cases d with
 | stmts f=>rw[oi h]
 | _=>contradiction
theorem XG{α β:Type}{xs:List α}{ys:List β}{x:α}(hl:xs.length<=ys.length)(h:xs[i]?=some x):∃y,ys[i]?=some y/\(x,y)∈xs.zip ys:=by
 have hi:=(dX h).1;have a5:i<ys.length:=hF hi hl;exact⟨ys[i],dI a5,d2 (List.getElem?_zip_eq_some.mpr ⟨h,dI a5⟩)⟩
theorem Vf{k:NameKind}(h:Bf k=true):k=.local\/k=.cell:=by
 cases k with
 | «local»=>exact .inl rfl
 | cell=>exact .inr rfl
 | _=>contradiction
theorem AS{names:List (Str×NameKind)}(h:JQ bj names=true)(i:Nat)(p:Str)(O:bj[i]?=some p):∃k,names[i]?=some (p,k)/\(k=NameKind.local\/k=.cell):=by
 refine aS (df h) fun h0 L=>?_;refine ay (XG (hG h0) O) fun y aw aQ=>?_;refine aS (df (fI.mp L _ aQ)) fun c5 gh=>?_;obtain rfl:p=y.1:=eq_of_beq c5;exact⟨y.2,aw,Vf gh⟩
inductive B7(K:a2)(T:bk)(n1 n2:Nat)(q:Option (Option Value))(fn:bA):Prop
 | mk (a:Addr) (o:Obj) (fd:FuncData) (body:List Stmt) (bj:List Str) (h:q=some (some (.ref a))) (F:j8 K T fn a o fd body bj n1 n2):B7 K T n1 n2 q fn
theorem NR{fu:Frag}{b:S}(X:fu.In K.hb.h)(O:fu.lookup a=some o)(aw:o.data=.func fd)(hb:fd.body=.stmts body)(cM:y8 fu fd=true)
  (a3:j3 (sX T fd.scope.names (qJ T n1) n2) body=some b):j8 K T ⟨fd.params.args.length,fd.scope.names.length,b⟩ a o fd body (fd.params.args.map (·.arg)) n1 n2:=by
 unfold y8 at cM;refine aS (df cM) fun cM q14=>?_;refine aS (df cM) fun cM q13=>?_;refine aS (df cM) fun cM q12=>?_;refine aS (df cM) fun cM q11=>?_;refine aS (df cM) fun cM q10=>?_;refine aS (df cM) fun cM q9=>?_;refine aS (df cM) fun cM q8=>?_;refine aS (df cM) fun cM q7=>?_;refine aS (df cM) fun cM q6=>?_;refine aS (df cM) fun cM q5=>?_;refine aS (df cM) fun cM q4=>?_;refine aS (df cM) fun cM q3=>?_;refine aS (df cM) fun q1 q2=>?_
 have uY:fd.defaults=.none:=by
  cases hd:fd.defaults with
  | none=>rfl
  | _=>rw[hd]at q13;contradiction
 refine⟨X _ _ O,aw,codeRec_of X q1,hb,eq_of_beq q2,eq_of_beq q3,gY.mp q4,eq_of_beq q5,by simpa using q6,by simpa using q7,q8,a3,(be _).symm,rfl,AS q14,fun vals hl=>?_⟩;refine Mb (gY.mp q9) rfl (gY.mp q10) (n3.mp q11) (n3.mp q12) uY ?_ hl;rw[List.Nodup,List.pairwise_iff_getElem];intro i j hi a5 HQ e;refine ay (AS q14 i (fd.params.args.map (·.arg))[i] (dI hi)) fun k L J=>?_;refine ay (AS q14 j (fd.params.args.map (·.arg))[j] (dI a5)) fun br O J=>?_;rw[e]at L;exact absurd ((sK q8).uniq i j _ _ _ L O) (h5 HQ)
theorem Jg{fu:Frag}{q:Option (Option Value)}(X:fu.In K.hb.h)(h:qn T n1 n2 fu q=some fn):B7 K T n1 n2 q fn:=by
 unfold qn at h;refine ct h fun q1 h0 h=>ct h fun v L h=>ct h fun a O h=>ct h fun o aw h=>ct h fun fd aQ h=>ct h fun body c5 h=>cN h fun cM h=>fD h fun b a3=>?_;refine⟨a,o,fd,body,_,?_,NR X aw (Oi aQ) (Vy c5) cM a3⟩;rw[h0,L,J0 O]
theorem Jh{K:Frag}{xs:List (Option (Option Value))}:∀{fs:List bA},jT T n1 n2 K xs=some fs->∀(i:Nat) (x:Option (Option Value)),xs[i]?=some x->∃fn,fs[i]?=some fn/\qn T n1 n2 K x=some fn:=by
 induction xs with
 | nil=>intro fs _ i x h;exact nomatch h
 | cons y r aj =>
  intro fs h i x O;change bI _ _ _=_ at h;refine fM (M:=fun fs=>∃fn,fs[i]?=some fn/\qn T n1 n2 K x=some fn) h fun f Yl aw aQ=>?_
  cases i with
  | zero=>exact⟨f,rfl,oi O▸aw⟩
  | succ i=>exact aj aQ i x O
theorem JL{v:Value}{x:H}(e:AN (v,x)=true):ai h α x v:=by
 cases x with
 | str s =>
  refine aS (df e) fun L O=>?_;refine aL (VF (eq_of_beq L)) fun t ag=>?_;obtain rfl:=ag;exact .str _ _ O
 | _=>contradiction
theorem W0(e:KN o xs=true)(ho:hb.get? a=some o)(r:ao hb h σ α):ai h α (.tup xs) (.ref a):=by
 refine aS (df e) fun e kk=>?_;refine aS (df e) fun e bG=>?_;refine aS (df e) fun V ak=>?_;refine ay ((Option.any_eq_true _ _).mp kk) fun q kX xn=>?_;refine aS (df xn) fun rr ol=>?_;obtain⟨c,d,Db,cu⟩:=o;obtain rfl:=eq_of_beq V;obtain rfl:=n3.mp ak;obtain rfl:=Array.isEmpty_iff.mp bG;obtain rfl:=UV kX;have hl:=eq_of_beq rr;refine ai.tupI (items:=q.1.toList) (n:=q.2) (r.base _ _ ho) (fun q=>?_) ⟨hl.symm,fun i x v L O=>?_⟩
 ·rcases dt.mp q with q | q
  ·rw[r.fresh a q]at ho;contradiction
  ·rw[r.hfr a q]at ho;contradiction
 ·exact JL (fI.mp ol _ (d2 (List.getElem?_zip_eq_some.mpr ⟨O,L⟩)))
theorem Mm{K:Frag}(X:K.In hb.h){v:H}(e:CS K v u=true)(r:ao ⟨hb.h,fr,hb.prog,hb.w⟩ h σ α):ai h α v u:=by
 cases v with
 | int i=>refine aL (QK (eq_of_beq e)) fun t ag=>?_;obtain rfl:=ag;exact .int _ _
 | str s=>exact JL e
 | tup xs =>
  refine ay ((Option.any_eq_true _ _).mp e) fun o L O=>?_;refine ct L fun a aw aQ=>?_;exact(J0 aw).symm▸(W0 (hb:=⟨_,fr,_,_⟩) O (X _ _ aQ) r)
 | _=>contradiction
theorem MV{K:Frag}(X:K.In hb.h){l:List (Str×H)}(h:ro K l=true)(x:Str)(v:H)(hx:l.lookup x=some v):∃u,nsIn K mainGlobals x=some (some u)/\∀fr h σ α,ao ⟨hb.h,fr,hb.prog,hb.w⟩ h σ α->ai h α v u:=by
 refine ay ((Option.any_eq_true _ _).mp (fI.mp h _ (na hx))) fun u L O=>?_;exact ct L fun q aw aQ=>⟨u,aw.trans (congrArg some aQ),fun J J J J r=>Mm X O r⟩
theorem Mg{v:Value}(h:kW x=some v):bootBuiltins x=some v:=
 (show ∀p∈CJ,bootBuiltins p.1=some p.2 from(by repeat (first | refine List.forall_mem_cons.mpr ⟨(by dsimp only;boot_by_name),?_⟩ | exact fun J h=>nomatch h))) _ (na h)
theorem NM{F:Frag}(k:∀b o,h₀.get? b=some o->K.hb.h.get? b=some o)(X:F.In K.hb.h)(hg:K.hb.h.Ns mainGlobals K.mg)(e:tW h₀ F T=true) :
  ∃F:Frag,F.In K.hb.h/\∀p∈T.excs,pr K p.1 p.2.1 p.2.2/\ow F T p.2.1=true:=by
 unfold tW at e;have aC:=fI.mp e;refine⟨F,X,fun p hp=>?_⟩;have L:=aC p hp;simp only[eB]at L;refine aS L fun L O=>?_;unfold xG at L;simp only[eB,ff]at L;obtain⟨⟨⟨⟨q1,q2⟩,q3⟩,q4⟩,q5⟩:=L;refine Dg (Heap.ownExc_of_ok q1) fun C N nm q bs hdct sn bp=>?_;refine Dg bp fun sub ab col dd k0 k1 k2 bp=>?_;refine xv bp fun k3 k5 dE dY pj qP=>?_;rw[q3]at dE;cases dE;rw[q4]at dY;refine⟨⟨mg_of X hg q2,⟨nm,q,N,bs,hdct,sn,sub,ab,col,dd,k0,k1,k2,k3,k5,k _ _ dY,_,pj.keeps k,qP⟩,?_⟩,O⟩
 have:=OwnTail.of_chain (h:=h₀) (bmB:=[.type "ValueError",.type "Exception",.type "BaseException",.type "object"]) (tH T p.2.2) fun n hn=>by
  have hq:=fI.mp q5 n hn;refine ay (List.any_eq_true.mp hq) fun r hr zV=>?_
  have zV:r.1=n:=by simpa using zV
  have aw:=aC r hr;simp only[eB]at aw;have aw:=aw.1;unfold xG at aw;simp only[eB]at aw;rw[zV]at aw;exact⟨_,_,_,aw.1.1.1.1⟩
 rw[q4]at this;exact this.keeps k
theorem Wd{F:Frag}(e:sU h F T=true):tW h F T=true:=(df e).1
theorem Xc{F:Frag}{f:Nat}(h:T.fns[f]?=some x):(lR T F)[f]?=some (nsIn F mainGlobals x):=by
 unfold lR;rw[iA (by rw[be];exact(dX h).1),fH,h];rfl
theorem Xd{F:Frag}{n:Str}(h:T.meths[j]?=some n):(lR T F)[T.fns.length+j]?=some (T.brd.bind fun q=>findIn F (.ref q.2) n):=by
 unfold lR;rw[h4 (by rw[be];exact gc _ _),be,Nat.add_sub_cancel_left,fH,h];rfl
theorem Mi{F:Frag}{b:Str}(X:F.In K.hb.h)(hg:K.hb.h.Ns mainGlobals K.mg)(e:xb F T=true)(hb:T.brd=some (b,c)):j5 K F b c/\∀n∈T.meths,(findIn F (.ref c) n).join.bind (typeIn F)=some (.type "function"):=by
 unfold xb at e;rw[hb]at e;simp only[eB,ff]at e;obtain⟨⟨⟨⟨⟨⟨⟨⟨⟨⟨V,ak⟩,bG⟩,kk⟩,kX⟩,xn⟩,rr⟩,g1⟩,g2⟩,g3⟩,ol⟩:=e;exact⟨⟨mg_of X hg V,X,ak,bG,kk,kX,xn,fun n hn=>eq_of_beq (fI.mp rr n hn),g1,g2,fun n hn=>eq_of_beq (fI.mp g3 n hn)⟩,fun n hn=>eq_of_beq (fI.mp ol n hn)⟩
theorem prgOk{fu:Frag}{P:gB}{p:Program}{loose:List Str}(lE:TopRead p loose K.mg K.mb K.hb.h)(X:fu.In K.hb.h)(k₀:∀b o,h₀.get? b=some o->K.hb.h.get? b=some o)(a7:sU h₀ fu T=true)(L:ro fu T.cst=true)(O:rm fu T.bins=true)(aw:jT T n1 n2 fu (lR T fu)=some P.fns):PrgOk K T P:=by
 unfold rm at O;refine aS (df O) fun OK O=>?_;refine aL (Option.isSome_iff_exists.mp OK) fun Tv P0=>?_;have h0:=Wd a7;have hK:K.Ok:=⟨lE.g,lE.b,lE.nolimit,Tv,X _ _ P0⟩
 refine⟨hK,fun x v hx=>?_,fun x hx=>?_,
  NM k₀ X lE.g h0,
  fun f x hx=>?_
  ,fun b c hb=>?_
  ⟩
 ·refine ay (MV X L x v hx) fun u q1 q2=>?_;exact⟨u,mg_of X lE.g q1,q2⟩
 ·have:=fI.mp O x hx;simp only[eB,Bool.not_eq_true',kR]at this;obtain⟨⟨q1,q2⟩,q3⟩:=this;refine aL (Option.isSome_iff_exists.mp q2) fun v hv=>?_;refine⟨?_,v,hv,(lE.builtins x q3).trans (Mg hv)⟩;refine ay ((Option.any_eq_true _ _).mp q1) fun q aw aQ=>?_;exact mg_none_of X lE.g (aw.trans (congrArg some (n3.mp aQ)))
 ·refine ay (Jh aw f _ (Xc hx)) fun fn q1 q2=>?_;obtain⟨a,o,fd,body,bj,hq,F⟩:=Jg X q2;exact⟨fn,a,o,fd,body,bj,n1,n2,q1,mg_of X lE.g hq,F⟩
 ·refine aS (Mi X lE.g (df a7).2 hb) fun B lY=>?_;refine⟨fu,B,fun j n a5=>?_⟩;refine ay (Jh aw _ _ (Xd a5)) fun fn q1 q2=>?_;obtain⟨a,o,fd,body,bj,hq,F⟩:=Jg X q2
  have hq:findIn fu (.ref c) n=some (some (.ref a)):=by rw[hb]at hq;exact hq
  have:=lY n (d2 a5);rw[hq]at this;exact⟨fn,a,o,fd,body,bj,n1,n2,q1,⟨hq,this⟩,F⟩
theorem Xj{P:Params}:∀{l:List Int} {vs:List Value},WellAll P h vs (ofPys (l.map .int))->bh h ⟨[],[],[]⟩ (l.map .int) vs:=by
 intro l
 induction l with
 | nil =>
  intro vs W;cases(show WellAll P h vs []from W);exact .nil
 | cons i l aj =>
  intro vs W
  cases(show WellAll P h vs (ofPy (.int i)::ofPys (l.map .int))from W)with
  | cons a b =>
   cases a;exact .cons (.int i _) (aj b)
theorem US{P:Params}(W:Well P h (.ref a) (ofPy (.list (l.map .int)))):ai h ⟨[],[],[]⟩ (.fl (l.map .int)) (.ref a):=by
 simp only[ofPy]at W
 cases W with
 | list e w=>exact ai.flI e (by simp[ax.all]) (Xj w)
theorem Mx(h:d<=100):fN d callerA:=by
 have L:callerA.depth+2*100+200<recursionLimit:=by decide
 have O:callerA.units+20*100+200<cLine:=by decide
 exact⟨by omega,by omega⟩
theorem Pn{prog:Program}{w:World}{mg mb:Str->Option Value}:ir ⟨⟨h,fr,prog,w⟩,mg,mb,false⟩ callerA 0:=
 ⟨fun J=>rfl,rfl,fun z=>by contradiction⟩
theorem law_end{prog:Program}{w:World}{mg mb:Str->Option Value}{P:gB}{f N:Nat}{name:Str}{fa:Addr}(p:PrgOk ⟨⟨s₁.heap,[],prog,w⟩,mg,mb,false⟩ T P)(hx:T.fns[f]?=some name)
  (hmg:mg name=some (.ref fa)) (hd:d<=100) (W:Well w.params s₁.heap (.ref a) (ofPy (.list (l.map .int)))) (hrun:bB P N d f [.fl (l.map .int)] []=.ok (.bool true) σ)
  {Q:Value->Shared->Prop} {E:Value->Shared->Prop} (a6:∀s',(∀b o,s₁.heap.get? b=some o->s'.heap.get? b=some o)->s'.os=s₁.os->s'.gens=s₁.gens->Q (.bool true) s') :
  wpAny (model prog w) callerA (call (.ref fa) [.ref a]) Q E s₁:=by
 have ctx:=n9 (N:=N) d p 0 callerA [] (Mx hd) Pn ⟨[],rfl,rfl,fun e he=>(nomatch he)⟩;refine op (ctx.fn f name hx) fun ed o fd L O aw aC=>?_
 have e:ed=fa:=by
  have rG:mg name=some (.ref ed):=L;rw[hmg]at rG;cases rG;rfl
 subst e;have mh:ao ⟨s₁.heap,[],prog,w⟩ s₁.heap [] ⟨[],[],[]⟩:=⟨fun J J e=>e,fun J h=>(nomatch h),List.nodup_nil,rfl,fun J h=>(nomatch h),fun i m a e=>(nomatch e),fun J h=>(nomatch h),rfl,fun J h=>(nomatch h),fun J h=>(nomatch h)⟩;have aC:=aC [.fl (l.map .int)] [.ref a] s₁ [] ⟨[],[],[]⟩ mh #v[(US W)];have Qe:(fz P N 0 d).call f [.fl (l.map .int)] []=.ok (.bool true) σ:=hrun;rw[Qe]at aC;refine cr (aC (by(intro q;exact nomatch q))) (fun v s' hp=>?_) fun e s' hx=>?_
 ·obtain⟨b,σ',α',e,x,r,vr,m⟩:=hp;cases e;obtain rfl:=vr.boolE;exact a6 s' (fun b o e=>r.base b o e) m.os m.gens
 ·obtain⟨i,σ',e,ey⟩:=hx;contradiction
theorem R4{f:Nat->Option Obj}:∀{l:List Nat},(l.filterMap fun a=>(f a).map fun o=>(a,o)).lookup a=some o->f a=some o:=by
 intro l
 induction l with
 | nil =>
  intro h
  (exact nomatch h)
 | cons b l aj =>
  intro h;rw[List.filterMap_cons]at h
  cases hb:f b with
  | none=>rw[hb]at h;exact aj h
  | some p =>
   rw[hb]at h;simp only[Option.map_some,List.lookup_cons]at h
   cases hq:(a == b)with
   | true =>
    rw[hq]at h
    have:a=b:=by simpa using hq
    subst this;exact hb.symm▸h
   | false=>rw[hq]at h;exact aj h
theorem Oc(h:Heap):(iT h).In h:=fun a o e=>R4 (f:=h.get?) e
structure Says(T:bk)(n1 n2:Nat)(fns:List bA)(h:Heap):Prop where
 ex:∃(K:Frag) (h₀:Heap),K.In h/\(∀b o,h₀.get? b=some o->h.get? b=some o)/\sU h₀ K T=true/\ro K T.cst=true/\rm K T.bins=true/\jT T n1 n2 K (lR T K)=some fns
noncomputable def topHook(T:bk)(n1 n2:Nat)(fns:List bA):Hook where
 α:=Bool×Bool×Bool×Option (List bA)
 obs:=fun s=>(sU s.heap (iT s.heap) T,ro (iT s.heap) T.cst,rm (iT s.heap) T.bins,jT T n1 n2 (iT s.heap) (lR T (iT s.heap)))
 val:=fun J=>(true,true,true,some fns)
 says:=fun J h=>Says T n1 n2 fns h
 of:=fun J s e=>⟨⟨iT s.heap,s.heap,Oc _,fun J J e=>e,congrArg (·.1) e,congrArg (·.2.1) e,congrArg (·.2.2.1) e,congrArg (·.2.2.2) e⟩⟩
 keeps:=fun J h h' q k=>by
  refine jn q.ex fun K h₀ a ed b=>?_;exact⟨⟨K,h₀,fun x o e=>k x o (a x o e),fun x o e=>k x o (ed x o e),b⟩⟩
end
section
open PySem.W PySem.Calls
theorem Vu:stepT=PySem.W.Fast.tw10156331382660048174:=PySem.W.Fast.te10156331382660048174
theorem M0:denote=PySem.W.Fast.tw11892475500146522536:=PySem.W.Fast.te11892475500146522536
theorem V3:treeTable=PySem.W.Fast.tw14364793385576792824:=PySem.W.Fast.te14364793385576792824
theorem Vt:stepOk=PySem.W.Fast.tw6613529449190102663:=PySem.W.Fast.te6613529449190102663
theorem We{p:Program}{w:World}{qr:Nat}{pK:Option Value}:∀{n:Nat} {s s':SharedT} {t:Thread},wb p w qr pK n s t=some s'->topRun treeTable p w qr pK n s.abs t=some s'.abs:=by
 intro n
 induction n with
 | zero=>intro s s' t h;exact nomatch h
 | succ n aj =>
  intro s s' t h;unfold wb at h;unfold topRun;rw[<- Vt,<- Vu,<- M0,<- V3]at h
  cases he:through t with
  | true=>rw[he]at h;cases h;rfl
  | false =>
   rw[he]at h
   cases hk:stepOk qr pK t with
   | false=>rw[hk]at h;cases h
   | true =>
    rw[hk]at h
    cases hs:stepT (denote treeTable) p w s t with
    | none=>rw[hs]at h;cases h
    | some r=>obtain⟨ba,Y7⟩:=r;rw[hs]at h;exact(stepT_spec hs).symm▸(aj h)
theorem WP:∀{l:List Obj} {n:Nat} {t bx:BT},sY l n t=some bx->absHeap bx (n+l.length) life=l.foldl Heap.push (absHeap t n life):=by
 intro l
 induction l with
 | nil =>
  intro n t bx h;cases h;rfl
 | cons o l aj =>
  intro n t bx h;unfold sY at h
  cases hs:((t.ins n o).get n).isSome with
  | false=>rw[hs]at h;cases h
  | true =>
   rw[hs]at h;rw[dy,show n+(l.length+1)=n+1+l.length by grind,aj h,absHeap_ins hs];rfl
theorem N9:∀(l:List Obj) (a:Array Obj),l.foldl Heap.push ⟨a,life⟩=⟨a++l.toArray,life⟩:=by
 intro l
 induction l with
 | nil =>
  intro a
  (rfl)
 | cons o l aj =>
  intro a;show l.foldl Heap.push ⟨a.push o,life⟩=_;rw[aj (a.push o)];simp
theorem WQ{l:List Obj}{t:BT}(h:sY l 0 .nil=some t):absHeap t l.length life=⟨l.toArray,life⟩:=by
 have:=WP (life:=life) h;rw[gD]at this;rw[this];show l.foldl Heap.push ⟨#[],life⟩=_;rw[N9];simp
theorem RH{p:Program}{w:World}{os:OsState}{N:Nat}(h:si p w os N=some s₁):topFrom treeTable p w N ⟨boot_heap w.params,#[],boot_drawn,boot_toks,os⟩=some s₁:=by
 unfold si at h;refine ay (Option.bind_eq_some_iff.mp h) fun T dK h=>?_
 have aN:absHeap T (boot_heap w.params).objs.toList.length (boot_heap w.params).life=boot_heap w.params:=by
  rw[WQ dK]
 cases hn:(boot_heap w.params).isNs mainGlobals with
 | false=>rw[hn]at h;cases h
 | true =>
  rw[hn]at h;refine ay (Option.bind_eq_some_iff.mp h) fun s hs h=>?_;have hr:=We hs
  have ha:(SharedT.abs ⟨T,(boot_heap w.params).objs.toList.length,(boot_heap w.params).life,#[],boot_drawn,boot_toks,os⟩)=⟨boot_heap w.params,#[],boot_drawn,boot_toks,os⟩:=by
   show(⟨absHeap T _ _,#[],boot_drawn,boot_toks,os⟩:Shared)=_;rw[aN]
  rw[ha,Array.length_toList]at hr;unfold topFrom
  have hb:((boot_heap w.params).isNs mainGlobals&&(#[]:Array GenState).size == 0)=true:=by rw[hn];rfl
  show(match((boot_heap w.params).isNs mainGlobals&&(#[]:Array GenState).size == 0)with | true=>_ | false=>_)=_;rw[hb];dsimp only;rw[hr];exact h
theorem UT:openSeen=PySem.W.Fast.tw4187177175401517315:=PySem.W.Fast.te4187177175401517315
theorem RJ{p q:Program}{loose:List Str}{Xt:Shared->Bool}{α:Type}{Yf:Shared->α}{Ya:World->α}{N:Nat}(e:opening p=plainProg p.main.scope.names)(au:Nat.ble 600 N=true)(f:∀s,fenceModules? p s=some s)
  (h:∀w os,(si p w os N).map (fun s=>(PySem.W.Fast.tw4187177175401517315 q loose (importedModules p.main.body) Xt true s,Yf s))=some (openGood q loose,Ya w)):LeftO p q loose Xt Yf Ya N:=fun w=>by
 rw[<- UT]at h;refine ay (Option.map_eq_some_iff.mp (boot_open e au f w)) fun s hs hv=>?_;obtain⟨hp,g,d,t,os⟩:=s;simp only[Prod.mk.injEq]at hv;obtain⟨rfl,rfl,rfl,rfl⟩:=hv;unfold openEnds;rw[hs];refine ay (Option.map_eq_some_iff.mp (h w os)) fun s₁ L O=>?_;show(topFrom treeTable p w N _).map _=_;have:=RH L;rw[show(⟨boot_heap w.params,{ toList:=[] },boot_drawn,boot_toks,os⟩:Shared)=⟨boot_heap w.params,#[],boot_drawn,boot_toks,os⟩from rfl,this];exact congrArg some O
theorem SF{K:Frag}{ys:List (Option (Option Value))}{b:List bA}(O:jT T n1 n2 K ys=some b)(xs:List (Option (Option Value))):∀{a:List bA},jT T n1 n2 K xs=some a->jT T n1 n2 K (xs++ys)=some (a++b):=by
 induction xs with
 | nil=>intro a h;obtain rfl:=oi h;exact O
 | cons x r aj =>
  intro a h;change bI _ _ _=_ at h;refine fM (M:=fun a=>jT T n1 n2 K (x::r++ys)=some (a++b)) h fun f fs aw aQ=>?_;show bI (qn T n1 n2 K x) (jT T n1 n2 K (r++ys)) List.cons=_;rw[aw,aj aQ];rfl
theorem N6{o:Option Shared}{k:Nat}{a b:List bA}(L:o.map (uN T (List.take k))=some (some a))(O:o.map (uN T (List.drop k))=some (some b)):o.map (fun s=>jT T 40 30 (iT s.heap) (lR T (iT s.heap)))=some (some (a++b)):=by
 cases o with
 | none=>exact nomatch L
 | some s =>
  have h:=SF (oi O) _ (oi L);rw[List.take_append_drop]at h;exact congrArg some h
noncomputable def bg:bO->ah H
 | .next _ σ=>.ok .none σ
 | .ret v _ σ=>.ok v σ
 | .exc i _ σ=>.exc i σ
 | _=>.stuck
section
variable {α β:Type}
theorem cn{a:α}{f:α->aa->ah β}:(ah.ok a σ).bind f=f a σ:=rfl
theorem gx{a:α}{f:α->aa->bO}:(ah.ok a σ).toS ρ f=f a σ:=rfl
theorem pT{a b:Str}:cY .eq (.str a) (.str b) σ=.ok (a == b) σ:=rfl
theorem Jx{a b:Str}:cY .ne (.str a) (.str b) σ=.ok (!(a == b)) σ:=rfl
theorem lN{a b:Int}:cY .eq (.int a) (.int b) σ=.ok (a == b) σ:=rfl
theorem vL{a b:Int}:cY .ne (.int a) (.int b) σ=.ok (!(a == b)) σ:=rfl
theorem lt_int{a b:Int}:cY .lt (.int a) (.int b) σ=.ok (decide (a<b)) σ:=rfl
theorem le_int{a b:Int}:cY .le (.int a) (.int b) σ=.ok (decide (a<=b)) σ:=rfl
theorem gt_int{a b:Int}:cY .gt (.int a) (.int b) σ=.ok (decide (a > b)) σ:=rfl
theorem add_int{a b:Int}:jM .add (.int a) (.int b) σ=.ok (.int (a+b)) σ:=rfl
theorem sub_int{a b:Int}:jM .sub (.int a) (.int b) σ=.ok (.int (a-b)) σ:=rfl
theorem mul_int{a b:Int}(h:a.natAbs<2 ^ 60\/b.natAbs<2 ^ 60):jM .mul (.int a) (.int b) σ=.ok (.int (a*b)) σ:=by
 show(if qo a b=true then ah.ok (H.int (a*b)) σ else .stuck)=_;exact aD (dz h)
theorem ih{a b:Int}(h:0<b):jM .mod (.int a) (.int b) σ=.ok (.int (a%b)) σ:=aD h
theorem NV{a b:Int}(h:0<b)(O:b<1073741824):jM .fdiv (.int a) (.int b) σ=.ok (.int (a/b)) σ:=aD ⟨h,O⟩
theorem add_str{a b:Str}(h:a.length+b.length<=aI):jM .add (.str a) (.str b) σ=.ok (.str (a++b)) σ:=by
 show(if a.length+b.length<=aI then ah.ok (H.str (a++b)) σ else .stuck)=_;exact aD h
theorem Cq{a b:List H}(h:a.length+b.length<=aI):jM .add (.fl a) (.fl b) σ=.ok (.fl (a++b)) σ:=by
 show(if a.length+b.length<=aI then ah.ok (H.fl (a++b)) σ else .stuck)=_;exact aD h
theorem sv{f:List H->ah H}{a:H}(h:el σ a=some xs):jW f a σ=f xs:=by unfold jW;rw[h]
theorem su{γ:Type}{g:List H->Option γ}{f:γ->ah H}{a:H}{l:γ}(h:(b2 σ a).bind g=some l):fZ g f a σ=f l:=by unfold fZ;rw[h]
theorem len_str{s:Str}(h:s.length<=aI):dk .len (.str s) σ=.ok (.int s.length) σ:=by
 show(if s.length<=aI then ah.ok (H.int s.length) σ else .stuck)=_;exact aD h
theorem Am(h:xs.length<=aI):dk .len (.tup xs) σ=.ok (.int xs.length) σ:=by
 show(if xs.length<=aI then ah.ok (H.int xs.length) σ else .stuck)=_;exact aD h
theorem Al(h:xs.length<=aI):dk .len (.fl xs) σ=.ok (.int xs.length) σ:=by
 show(if xs.length<=aI then ah.ok (H.int xs.length) σ else .stuck)=_;exact aD h
theorem RW(h:xs.length<=aI):dk (.list true) (.tup xs) σ=.ok (.fl xs) σ:=by
 show(if xs.length<=aI then ah.ok (H.fl xs) σ else .stuck)=_;exact aD h
theorem KP(h:xs.length<=aI):dk .tuple (.fl xs) σ=.ok (.tup xs) σ:=by
 show(if xs.length<=aI then ah.ok (H.tup xs) σ else .stuck)=_;exact aD h
theorem int_bool{b:Bool}:dk .int (.bool b) σ=.ok (.int (if b then 1 else 0)) σ:=rfl
theorem nc(h:xs.length<=aI):eW true xs σ=.ok (.fl xs) σ:=aD h
theorem SH(h:xs.length<=aI):eW false xs σ=.ok (.ref σ.length) (σ++[.lst xs]):=aD h
theorem vn{i:Int}{m:Nat}(h0:0<=i)(h:i.toNat<m):fj i m=some i.toNat:=by
 unfold fj;rw[aD h0,aD h]
theorem j1{i:Int}{x:H}(hl:xs.length<=aI)(h0:0<=i)(h:xs[i.toNat]?=some x):f6 (.fl xs) (.int i) σ=.ok x σ:=by
 have hi:=(dX h).1;show(if xs.length<=aI then ah.ofOpt ((fj i xs.length).bind (xs[·]?)) σ else .stuck)=_;rw[aD hl,vn h0 hi];show ah.ofOpt xs[i.toNat]? σ=_;rw[h];rfl
theorem VR{i:Int}{x:H}(hl:xs.length<=aI)(h0:0<=i)(h:xs[i.toNat]?=some x):f6 (.tup xs) (.int i) σ=.ok x σ:=by
 have hi:=(dX h).1;show(if xs.length<=aI then ah.ofOpt ((fj i xs.length).bind (xs[·]?)) σ else .stuck)=_;rw[aD hl,vn h0 hi];show ah.ofOpt xs[i.toNat]? σ=_;rw[h];rfl
theorem Bl{i:Int}{x:H}(hr:σ[r]?=some (.lst xs))(hl:xs.length<=aI)(h0:0<=i)(h:xs[i.toNat]?=some x):f6 (.ref r) (.int i) σ=.ok x σ:=by
 have hi:=(dX h).1
 have e:b2 σ (.ref r)=some xs:=by unfold b2;dsimp only;rw[hr]
 show(match b2 σ (.ref r)with
  | some xs=>li xs i σ
  | none=>.stuck)=_
 rw[e];show(if xs.length<=aI then ah.ofOpt ((fj i xs.length).bind (xs[·]?)) σ else .stuck)=_;rw[aD hl,vn h0 hi];show ah.ofOpt xs[i.toNat]? σ=_;rw[h];rfl
theorem Kt{s:Str}{i:Int}(hl:s.cps.size<=aI)(h0:0<=i)(h:s.cps.toList[i.toNat]?=some c):f6 (.str s) (.int i) σ=.ok (.str ⟨#[c]⟩) σ:=by
 have hi:=(dX h).1
 have h':s.cps[i.toNat]?=some c:=by exact(Array.getElem?_toList)▸h
 show(if s.cps.size<=aI then(match(fj i s.cps.size).bind (s.cps[·]?)with
   | some c=>ah.ok (H.str ⟨#[c]⟩) σ
   | none=>.stuck)
  else .stuck)=_
 rw[aD hl,vn h0 (by simpa using hi)]
 show(match s.cps[i.toNat]? with
   | some c=>ah.ok (H.str ⟨#[c]⟩) σ
   | none=>.stuck)=_
 rw[h']
theorem tw{P:Nat->Prop}:∀k,k<0->P k:=fun J h=>absurd h (Nat.not_lt_zero _)
theorem fy{P:Nat->Prop}(h:∀k,k<n->P k)(q:P n):∀k,k<n+1->P k:=fun k hk=>(Nat.lt_succ_iff_lt_or_eq.mp hk).elim (h k) fun e=>e▸q
theorem vp{P:Int->Prop}(h:∀k:Nat,k<n->P k){w:Int}(h0:0<=w)(L:w<n):P w:=by
 refine aL (kc h0) fun k ag=>?_;obtain rfl:=ag;exact h k (ew.mp L)
theorem Br{w:Int}(h0:0<=w)(L:w<n):w.toNat<n:=vp (P:=fun w=>w.toNat<n) (fun J h=>h) h0 L
theorem Cr{a:Int}{k N:Nat}(au:N≠0):((a+k)%N).toNat=((a%N).toNat+k)%N:=by
 have a7:(N:Int)≠0:=Int.ofNat_ne_zero.mpr au;rw[<- Int.emod_add_emod];refine aL (kc (eZ a a7)) fun m hm=>?_;rw[hm,kT,<- Int.natCast_add,<- Int.natCast_emod,kT]
theorem eV:aI=1000000:=rfl
theorem CY{f:H->aa->ah (Option H)}{g:H->H}:∀(xs:List H),(∀x∈xs,f x σ=.ok (some (g x)) σ)->dW none f xs σ=.ok (xs.map g) σ:=by
 intro xs
 induction xs with
 | nil =>
  intro _;exact aD trivial
 | cons x xs aj =>
  intro h;refine(aD trivial).trans ?_;rw[h x bi];show(dW none f xs σ).bind _=_;rw[aj fun y hy=>h y (bM _ hy)];rfl
theorem lI{t:Nat}{elt it:X}(g:H->H)(bF:evIt C it ρ σ=.ok (xs,none) σ)(hl:xs.length<=aI)
  (h:∀x∈xs,ev C elt ((c4 cF ρ).set t (some x)) σ=.ok (g x) σ) (aN:C.hd=false:=by first | rfl | assumption):ev C (.comp true t cF elt (.k (.bool true)) it) ρ σ=.ok (.fl (xs.map g)) σ:=by
 rw[kZ,aN,bF];show ib xs.length (dW none (fun x σ=>((ah.ok true σ).bind fun b σ=>if b=true then(ev C elt ((c4 cF ρ).set t (some x)) σ).bind fun v σ=>.ok (some v) σ else .ok none σ)) xs σ) _=_
 rw[CY (g:=g) xs fun x hx=>by
  show(ev C elt ((c4 cF ρ).set t (some x)) σ).bind _=_
  rw[h x hx];rfl]
 exact nc (by simpa using hl)
section
variable {a b c r:X}{e8:aa}{x y z:H}
theorem cS{o:mD}{v:ah H}(ha:ev C a ρ σ=.ok x ac)(hb:ev C b ρ ac=.ok y ar)(h:jM o x y ar=v):ev C (.bin o a b) ρ σ=v:=by
 rw[Nu,ha,cn,hb,cn,h]
theorem cG{v:ah H}(ha:ev C a ρ σ=.ok x ac)(hb:ev C b ρ ac=.ok y ar)(h:f6 x y ar=v):ev C (.sub a b) ρ σ=v:=by
 rw[ND,ha,cn,hb,cn,h]
theorem sN{o lo hi v:H}{a b:Option Int}(L:o3 lo=some a)(O:o3 hi=some b)(h:sM σ o a b=some v):j0 o lo hi σ=.ok v σ:=by
 unfold j0;rw[L,O];show ah.ofOpt (sM σ o a b) σ=_;rw[h];rfl
theorem lK{v:ah H}(ha:ev C a ρ σ=.ok x ac)(hb:ev C b ρ ac=.ok y ar)(hc:ev C c ρ ar=.ok z e8)(h:j0 x y z e8=v):ev C (.slice a b c) ρ σ=v:=by
 rw[Dv,ha,cn,hb,cn,hc,cn,h]
theorem L2{k:eL}:iP false k x σ=dk k x σ:=rfl
theorem cZ{k:eL}{v:ah H}(ha:ev C a ρ σ=.ok x ac)(h:dk k x ac=v)(aN:C.hd=false:=by first | rfl | assumption):ev C (.b1 k a) ρ σ=v:=by
 rw[Dq,ha,cn,aN,L2,h]
theorem Dd{v:ah H}(ha:ev C a ρ σ=.ok x ac)(hb:ev C b ρ ac=.ok y ar)(h:ql x y ar=v)(aN:C.hd=false:=by first | rfl | assumption):ev C (.min2 a b) ρ σ=v:=by
 rw[Dt,aN];show(ev C a ρ σ).bind _=_;rw[ha,cn,hb,cn,h]
theorem d8{f:Nat}{v:ah H}(ha:ev C a ρ σ=.ok x ac)(h:C.call f [x] ac=v):ev C (.call f #v[a]) ρ σ=v:=by
 rw[tT,k4,ha,cn,km];exact h
theorem jl{f:Nat}{v:ah H}(ha:ev C a ρ σ=.ok x ac)(hb:ev C b ρ ac=.ok y ar)(h:C.call f [x,y] ar=v):ev C (.call f #v[a,b]) ρ σ=v:=by
 rw[tT,k4,ha,cn,k4,hb,cn,km];exact h
theorem pS{f:Nat}{v:ah H}(ha:ev C a ρ σ=.ok x ac)(hb:ev C b ρ ac=.ok y ar)(hc:ev C c ρ ar=.ok z e8)(h:C.call f [x,y,z] e8=v):ev C (.call f #v[a,b,c]) ρ σ=v:=by
 rw[tT,k4,ha,cn,k4,hb,cn,k4,hc,cn,km];exact h
theorem hJ{m:h2}{v:ah H}(ha:ev C a ρ σ=.ok x ac)(hm:o0 m x ac=true)(hb:ev C b ρ ac=.ok y ar)(h:i2 m x [y] ar=v):ev C (.me m a #v[b]) ρ σ=v:=by
 rw[Dr,ha,cn,aD hm,k4,hb,cn,km];exact h
theorem xr{t:jK}(ha:ev C a ρ σ=.ok x ac)(h:ku x t ac=.ok q ac):ev C (.isinst a t) ρ σ=.ok (.bool q) ac:=by
 rw[Ny,ha,cn,h];rfl
theorem eE{o:iq}(ha:ev C a ρ σ=.ok x ac)(hb:ev C b ρ ac=.ok y ar)(h:cY o x y ar=.ok q e8):ev C (.cmp a o b) ρ σ=.ok (.bool q) e8:=by
 rw[Nv,ha,cn,hb,cn,h];rfl
theorem kl{xs:X}{v:ah H}(h:evAnd C xs ρ σ=v):ev C (.and xs) ρ σ=v:=h
theorem lJ{v:ah H}(h:ev C a ρ σ=v):evAnd C #v[a] ρ σ=v:=h
theorem jw{xs:X}{v:ah Bool}(h:tstAnd C xs ρ σ=v):tst C (.and xs) ρ σ=v:=h
theorem ik{xs:X}{v:ah Bool}(h:tstOr C xs ρ σ=v):tst C (.or xs) ρ σ=v:=h
theorem kY{v:ah H}(ha:ev C a ρ σ=.ok (.bool true) ac)(hb:evAnd C (.cons b r) ρ ac=v):evAnd C (.cons a (.cons b r)) ρ σ=v:=by
 rw[ru,ha];exact hb
theorem b4{o:iq}{v:ah Bool}(ha:ev C a ρ σ=.ok x ac)(hb:ev C b ρ ac=.ok y ar)(h:cY o x y ar=v):tst C (.cmp a o b) ρ σ=v:=by
 rw[WV,ha,cn,hb,cn,h]
theorem ht(ha:tst C a ρ σ=.ok q ac):tst C (.not a) ρ σ=.ok (!q) ac:=by
 rw[WY,ha];rfl
theorem jx{f:Nat}{args:X}(h:ev C (.call f args) ρ σ=.ok (.bool q) ac):tst C (.call f args) ρ σ=.ok q ac:=by
 rw[WU,h];rfl
theorem V2{k:eL}(h:ev C (.b1 k a) ρ σ=.ok (.bool q) ac):tst C (.b1 k a) ρ σ=.ok q ac:=by
 rw[WT,h];rfl
theorem Bp{t:jK}(h:ev C (.isinst a t) ρ σ=.ok (.bool q) ac):tst C (.isinst a t) ρ σ=.ok q ac:=by
 rw[WX,h];rfl
theorem im{v:ah Bool}(ha:tst C a ρ σ=.ok false ac)(h:tstOr C r ρ ac=v):tstOr C (.cons a r) ρ σ=v:=by
 rw[qL,ha];exact h
theorem Kx(ha:tst C a ρ σ=.ok true ac):tstOr C (.cons a r) ρ σ=.ok true ac:=by
 rw[qL,ha];rfl
theorem Bo{v:ah Bool}(ha:tst C a ρ σ=.ok true ac)(h:tstAnd C r ρ ac=v):tstAnd C (.cons a r) ρ σ=v:=by
 rw[qK,ha];exact h
theorem Kv(ha:tst C a ρ σ=.ok false ac):tstAnd C (.cons a r) ρ σ=.ok false ac:=by
 rw[qK,ha];rfl
theorem sT{p:Bool}(ha:tst C a ρ σ=.ok q ac)(h:q=false->tstOr C r ρ ac=.ok p ac):tstOr C (.cons a r) ρ σ=.ok (q||p) ac:=by
 rw[qL,ha,cn];cases q
 ·exact h rfl
 ·rfl
theorem i9(ha:tst C a ρ σ=.ok q ac):tstOr C #v[a] ρ σ=.ok q ac:=by
 rw[qL,ha,cn];cases q <;> rfl
theorem nE{p:Bool}(ha:tst C a ρ σ=.ok q ac)(h:q=true->tstAnd C r ρ ac=.ok p ac):tstAnd C (.cons a r) ρ σ=.ok (q&&p) ac:=by
 rw[qK,ha,cn];cases q
 ·rfl
 ·exact h rfl
theorem kH(ha:tst C a ρ σ=.ok q ac):tstAnd C #v[a] ρ σ=.ok q ac:=by
 rw[qK,ha,cn];cases q <;> rfl
theorem tP{p:Bool}(ha:ev C a ρ σ=.ok (.bool q) ac)(h:q=true->evAnd C (.cons b r) ρ ac=.ok (.bool p) ac):evAnd C (.cons a (.cons b r)) ρ σ=.ok (.bool (q&&p)) ac:=by
 rw[ru,ha];cases q
 ·rfl
 ·exact h rfl
theorem xq{i j k:Int}(ha:ev C a ρ σ=.ok (.int i) σ)(hb:ev C b ρ σ=.ok (.int j) σ)(hc:ev C c ρ σ=.ok (.int k) σ):ev C (.cmp2 a .le b .le c) ρ σ=.ok (.bool (decide (i<=j)&&decide (j<=k))) σ:=by
 rw[Nw,ha,cn,hb,cn,le_int,cn];cases decide (i<=j)
 ·rfl
 ·rw[aD rfl,hc,cn,le_int];rfl
theorem Kw{i j k:Int}(ha:ev C a ρ σ=.ok (.int i) σ)(hb:ev C b ρ σ=.ok (.int j) σ)(hc:ev C c ρ σ=.ok (.int k) σ):tst C (.cmp2 a .le b .le c) ρ σ=.ok (decide (i<=j)&&decide (j<=k)) σ:=by
 rw[WW,ha,cn,hb,cn,le_int,cn];cases decide (i<=j)
 ·rfl
 ·rw[aD rfl,hc,cn,le_int];rfl
theorem eI{vs:List H}(ha:ev C a ρ σ=.ok x ac)(h:evs C r ρ ac=.ok vs ar):evs C (.cons a r) ρ σ=.ok (x::vs) ar:=by
 rw[k4,ha,cn,h];rfl
theorem lL{xs:X}{vs:List H}(h:evs C xs ρ σ=.ok vs ac)(hl:vs.length<=aI):ev C (.tup xs) ρ σ=.ok (.tup vs) ac:=by
 rw[NE,h,cn,aD hl]
theorem M6{xs:X}{vs:List H}(h:evs C xs ρ σ=.ok vs ac)(hl:vs.length<=aI):ev C (.lst true xs) ρ σ=.ok (.fl vs) ac:=by
 rw[Nz,h,cn,nc hl]
theorem Dc{ks:List Str}{vals:List H}{k:Str}(ha:ev C a ρ σ=.ok (.str k) ac)(hb:ev C b ρ ac=.ok y ar):ev C (.fdget ks vals a b) ρ σ=.ok ((i8 k (ks.zip vals)).getD y) ar:=by
 rw[Nx,ha,cn,hb,cn];rfl
end
theorem am{a r:S}(h:ex C n a ρ σ=.next ρ' σ'):ex C n (.cons a r) ρ σ=ex C n r ρ' σ':=by
 show mi (fun ρ σ=>ex C n r ρ σ) (ex C n a ρ σ)=_;rw[h];rfl
theorem bf{a r:S}{v:H}(h:ex C n a ρ σ=.ret v ρ' σ'):ex C n (.cons a r) ρ σ=.ret v ρ' σ':=by
 show mi (fun ρ σ=>ex C n r ρ σ) (ex C n a ρ σ)=_;rw[h];rfl
theorem NG{a r:S}(h:ex C n a ρ σ=.brk ρ' σ'):ex C n (.cons a r) ρ σ=.brk ρ' σ':=by
 show mi (fun ρ σ=>ex C n r ρ σ) (ex C n a ρ σ)=_;rw[h];rfl
theorem bH{x:X}{v:H}(h:ev C x ρ σ=.ok v σ'):ex C n (.asg i x) ρ σ=.next (ρ.set i (some v)) σ':=by
 show(ev C x ρ σ).toS ρ _=_;rw[h];rfl
theorem cH{x:X}{v:H}(h:ev C x ρ σ=.ok v σ'):ex C n (.ret x) ρ σ=.ret v ρ σ':=by
 show(ev C x ρ σ).toS ρ _=_;rw[h];rfl
theorem NH{x:X}{v:H}(h:ev C x ρ σ=.ok v σ'):ex C n (.expr x) ρ σ=.next ρ σ':=by
 show(ev C x ρ σ).toS ρ _=_;rw[h];rfl
theorem fJ{x:X}(h:ev C x ρ σ=.ok .none σ'):ex C n (.expr x) ρ σ=.next ρ σ':=by
 show(ev C x ρ σ).toS ρ _=_;rw[h];rfl
theorem cz{c:X}{a b:S}(h:tst C c ρ σ=.ok true σ'):ex C n (.ife c a b) ρ σ=ex C n a ρ σ':=by
 show(tst C c ρ σ).toS ρ _=_;rw[h];rfl
theorem Dy{c:X}{a b:S}(h:tst C c ρ σ=.ok false σ'):ex C n (.ife c a b) ρ σ=ex C n b ρ σ':=by
 show(tst C c ρ σ).toS ρ _=_;rw[h];rfl
theorem bX:ex C n .nil ρ σ=.next ρ σ:=rfl
theorem bC{c:X}{a:S}(h:tst C c ρ σ=.ok false σ'):ex C n (.ife c a .nil) ρ σ=.next ρ σ':=(Dy h).trans bX
theorem NK{b h:S}{o:bO}(e:ex C n b ρ σ=o)(ho:∀c ρ σ,o≠.exc c ρ σ):ex C n (.tryE b eo i h) ρ σ=o:=by
 show wj (fun c ρ σ=>bif C.rz then(if eo.contains c/\i<ρ.length then pM (ex C.inH n h (ρ.set i (some (.exc c))) σ)else bO.stuck)else .stuck) (ex C n b ρ σ)=_;rw[e]
 cases o <;> first | rfl | exact absurd rfl (ho _ _ _)
theorem NL{b h:S}(e:ex C n b ρ σ=.exc c ρ' σ')(hc:eo.contains c=true)(hi:i<ρ'.length)(aN:C.rz=true:=by first | rfl | assumption) :
  ex C n (.tryE b eo i h) ρ σ=pM (ex C.inH n h (ρ'.set i (some (.exc c))) σ'):=by
 show wj (fun c ρ σ=>bif C.rz then(if eo.contains c/\i<ρ.length then pM (ex C.inH n h (ρ.set i (some (.exc c))) σ)else bO.stuck)else .stuck) (ex C n b ρ σ)=_;rw[e];show(bif C.rz then _ else _)=_;rw[aN];exact aD ⟨hc,hi⟩
theorem Dx{a r:S}(h:ex C n a ρ σ=.exc c ρ' σ'):ex C n (.cons a r) ρ σ=.exc c ρ' σ':=by
 show mi (fun ρ σ=>ex C n r ρ σ) (ex C n a ρ σ)=_;rw[h];rfl
theorem NJ{x:X}(h:ev C x ρ σ=.exc c σ'):ex C n (.ret x) ρ σ=.exc c ρ σ':=by
 show(ev C x ρ σ).toS ρ _=_;rw[h];rfl
section
variable {f:az->aa->bO}{x:H}
theorem eP:cj none gG f [] ρ σ=.next ρ σ:=aD trivial
theorem eh(hb:gG x ρ=some bU)(h:f bU σ=.next eA ar):cj none gG f (x::xs) ρ σ=cj none gG f xs eA ar:=by
 refine(aD trivial).trans ?_;rw[hb];show iG _ (f bU σ)=_;rw[h];rfl
theorem Oa(hb:gG x ρ=some bU)(h:f bU σ=.brk eA ar):cj none gG f (x::xs) ρ σ=.next eA ar:=by
 refine(aD trivial).trans ?_;rw[hb];show iG _ (f bU σ)=_;rw[h];rfl
theorem eO{it:X}{body:S}{o:bO}(bF:evIt C it ρ σ=.ok (ys,none) ac)(h:cj none (dM i) (fun ρ σ=>ex C n body ρ σ) ys ρ ac=o)(aN:C.hd=false:=by first | rfl | assumption):ex C n (.for1 i it body) ρ σ=o:=by
 show(bif C.hd then bO.stuck else(evIt C it ρ σ).toS ρ _)=_;exact aN.symm▸bF.symm▸h
end
theorem Mp{P:gB}{f:Nat}{vs:List H}(bc:P.fns[f]?=some fn)(hl:vs.length=fn.params) :
  bB P n (d+1) f vs σ=bg (ex (fz P n 0 d) n fn.body (vs.map some++List.replicate (fn.slots-fn.params) none) σ):=by
 show(match P.fns[f]? with
  | some fn=>if vs.length=fn.params then
    match ex (fz P n 0 d) n fn.body (vs.map some++List.replicate (fn.slots-fn.params) none) σ with
    | .next _ σ=>ah.ok H.none σ
    | .ret v _ σ=>.ok v σ
    | .exc i _ σ=>.exc i σ
    | _=>.stuck
   else .stuck
  | none=>.stuck)=_
 rw[bc];dsimp only;rw[aD hl];cases ex (fz P n 0 d) n fn.body (vs.map some++List.replicate (fn.slots-fn.params) none) σ <;> rfl
end
noncomputable def CC(d:Nat):bn:=fz PP topN 0 d
theorem cC{f:Nat}{vs:List H}(bc:PP.fns[f]?=some fn)(hl:vs.length=fn.params) :
  bB PP topN (d+1) f vs σ=bg (ex (CC d) topN fn.body (vs.map some++List.replicate (fn.slots-fn.params) none) σ):=Mp bc hl
noncomputable def iF:List Nat:=("abcdefghijklmnopqrstuvwxyz" : Str).cps.toList
noncomputable def zb:List Nat:=("0123456789" : Str).cps.toList
structure gR(s:Str):Prop where
 pos:1<=s.length
 len:s.length<=8
 fst:∀c,s.cps.toList[0]?=some c->c∈iF
 all:∀c∈s.cps.toList,c∈iF\/c∈zb
noncomputable def pa(c:Nat):Bool:=iF.contains c||zb.contains c
noncomputable def iH(s:Str):Bool:=decide (1<=s.length)&&decide (s.length<=8)&&(s.cps.toList.take 1).all (fun c=>iF.contains c)&&s.cps.toList.all pa
theorem AE{s:Str}(h:iH s=true):gR s:=by
 simp only[iH,pa,eB,iN,fI,Bool.or_eq_true,mM]at h;refine⟨h.1.1.1,h.1.1.2,fun c hc=>?_,h.2⟩;refine h.1.2 c ?_
 cases hq:s.cps.toList with
 | nil=>rw[hq]at hc;cases hc
 | cons x r=>rw[hq]at hc;simp at hc;subst hc;(exact bi)
theorem Jp{s:Str}(h:gR s):iH s=true:=by
 simp only[iH,pa,eB,iN,fI,Bool.or_eq_true,mM];refine⟨⟨⟨h.pos,h.len⟩,fun c hc=>h.fst c ?_⟩,h.all⟩
 cases hq:s.cps.toList with
 | nil=>rw[hq]at hc;(exact nomatch hc)
 | cons x r=>rw[hq]at hc;simp at hc;simp[hc]
theorem h0{i:Int}:bB PP topN (d+1) r9 [.int i] σ=.ok (.bool (decide (0<=i)&&decide (i<=999999))) σ:=by
 rw[cC (fn:=uq) rfl rfl]
 have:ex (CC d) topN uq.body [af i,none,none,none,none] σ=.ret (.bool (decide (0<=i)&&decide (i<=999999))) [af i,none,none,none,none] σ:=
  bf (cH (kl (kY (ac:=σ) rfl (kY (ac:=σ) rfl (lJ (xq rfl rfl rfl))))))
 show bg (ex (CC d) topN uq.body [af i,none,none,none,none] σ)=_;rw[this];rfl
theorem To{y:Str}:cY .notin (.str ⟨#[c]⟩) (.str y) σ=.ok (!(y.cps.toList.contains c)) σ:=rfl
theorem LF{α:Type}{xs:List α}{g:α->Bool}:dk .all (.fl (xs.map fun x=>.bool (g x))) σ=.ok (.bool (xs.all g)) σ:=by
 have e:∀xs:List α,lF (xs.map fun x=>.bool (g x))=some (xs.map g):=by
  intro xs
  induction xs with
  | nil=>rfl
  | cons x xs aj =>
   show(lF (xs.map fun x=>.bool (g x))).map (g x::·)=_;rw[aj];rfl
 refine(su (σ:=σ) (a:=.fl _) (l:=xs.map g) (g:=lF) (e xs)).trans ?_;rw[List.all_map];rfl
theorem w2{α:Type}{t:Nat}{elt it:X}{xs:List α}{w:α->H}{g:α->Bool}(bF:evIt C it ρ σ=.ok (xs.map w,none) σ)(hl:xs.length<=aI)
  (h:∀x∈xs,ev C elt ((c4 cF ρ).set t (some (w x))) σ=.ok (.bool (g x)) σ) (aN:C.hd=false:=by first | rfl | assumption):ev C (.b1 .all (.comp true t cF elt (.k (.bool true)) it)) ρ σ=.ok (.bool (xs.all g)) σ:=by
 refine cZ (x:=.fl (xs.map fun x=>.bool (g x))) (ac:=σ) ?_ LF aN;rw[kZ,aN,bF];show ib xs.length (dW none (fun x σ=>((ah.ok true σ).bind fun b σ=>if b=true then(ev C elt ((c4 cF ρ).set t (some x)) σ).bind fun v σ=>.ok (some v) σ else .ok none σ)) (xs.map w) σ) _=_
 have e:∀ys:List α,(∀x∈ys,ev C elt ((c4 cF ρ).set t (some (w x))) σ=.ok (.bool (g x)) σ)->dW none (fun x σ=>((ah.ok true σ).bind fun b σ=>if b=true then(ev C elt ((c4 cF ρ).set t (some x)) σ).bind fun v σ=>.ok (some v) σ else .ok none σ)) (ys.map w) σ=.ok (ys.map fun x=>.bool (g x)) σ:=by
  intro ys
  induction ys with
  | nil=>intro _;exact aD trivial
  | cons y ys aj =>
   intro hy;refine(aD trivial).trans ?_;dsimp only;rw[cn,aD rfl,hy y bi,cn,cn];rw[aj fun x hx=>hy x (bM _ hx)];rfl
 exact(e xs h).symm▸(nc (by simpa using hl))
theorem L{s:Str}(c0:s.length<=aI):bB PP topN (d+1) vj [.str s] σ=.ok (.bool (iH s)) σ:=by
 rw[cC (fn:=Er) rfl rfl];show bg (ex (CC d) topN #v[uh,x0] [a1 s,none,none,none,none,none,none] σ)=_
 have hsz:s.length=s.cps.toList.length:=by simp[Str.length]
 have bK:tst (CC d) (.or #v[(.not (.isinst (.v 0) .str)),(.not (.cmp2 (ae 1) .le (.b1 .len (.v 0)) .le (ae 8))),(.cmp (.sub (.v 0) (ae 0)) .notin (.k (.str "abcdefghijklmnopqrstuvwxyz")))]) [a1 s,none,none,none,none,none,none] σ =
   .ok (!(decide (1<=s.length)&&decide (s.length<=8))||!(s.cps.toList.take 1).all (fun c=>iF.contains c)) σ:=by
  refine ik (im (ac:=σ) rfl (sT ((ht (Kw rfl (cZ rfl (len_str c0)) rfl)).trans ?_) fun hq=>i9 ?_))
  ·rw[show decide ((1:Int)<=(s.length:Int))=decide (1<=s.length)from decide_eq_decide.mpr (by grind),show decide ((s.length:Int)<=8)=decide (s.length<=8)from decide_eq_decide.mpr (by grind)]
  ·simp only[Bool.not_eq_false',eB,iN]at hq
   cases hx:s.cps.toList with
   | nil=>rw[hsz,hx]at hq;(exact nomatch hq)
   | cons c r =>
    refine(b4 (cG rfl rfl (Kt (c:=c) (i:=0) c0 ((d3 _)) (by rw[hx];rfl))) rfl To).trans ?_;show ah.ok (!iF.contains c) σ=_;simp
 have V:ex (CC d) topN x0 [a1 s,none,none,none,none,none,none] σ=.ret (.bool (s.cps.toList.all pa)) [a1 s,none,none,none,none,none,none] σ:=by
  refine cH (w2 (xs:=s.cps.toList) (w:=fun c=>.str ⟨#[c]⟩) (g:=pa) rfl (hsz▸c0) fun c hc=>?_);rw[NC,tS];show(if iF.contains c=true then ah.ok (H.bool (iF.contains c)) σ else _)=_;unfold pa
  cases q:iF.contains c with
  | true=>rfl
  | false=>rfl
 cases hq:(!(decide (1<=s.length)&&decide (s.length<=8))||!(s.cps.toList.take 1).all (fun c=>iF.contains c))with
 | true =>
  rw[hq]at bK;rw[bf (a:=uh) ((cz bK).trans rfl)]
  have:iH s=false:=by
   unfold iH;revert hq;cases(decide (1<=s.length)&&decide (s.length<=8)) <;> cases((s.cps.toList.take 1).all fun c=>iF.contains c) <;> simp
  rw[this];rfl
 | false =>
  rw[hq]at bK;rw[am (a:=uh) (bC bK),bf V]
  have:iH s=s.cps.toList.all pa:=by
   unfold iH;revert hq;cases(decide (1<=s.length)&&decide (s.length<=8)) <;> cases((s.cps.toList.take 1).all fun c=>iF.contains c) <;> simp
  rw[this];rfl
noncomputable def nh(l:List Str)(m:Nat):Bool:=(decide (1<=l.length)&&decide (l.length<=m))&&l.all iH
theorem tM{a b:Nat}:decide ((a:Int)<=(b:Int))=decide (a<=b):=decide_eq_decide.mpr (by grind)
theorem O{l:List Str}{m:Nat}(h:∀n∈l,n.length<=aI)(hl:l.length<=aI):bB PP topN (d+2) l0 [.tup (l.map .str),.int m] σ=.ok (.bool (nh l m)) σ:=by
 have hO:(l.map H.str).length<=aI:=by rw[be];exact hl
 rw[cC (fn:=ub) rfl rfl]
 have:ex (CC (d+1)) topN ub.body [some (.tup (l.map .str)),af m,none,none,none,none] σ=.ret (.bool (nh l m)) [some (.tup (l.map .str)),af m,none,none,none,none] σ:=by
  refine bf (cH (kl (kY rfl (tP ?_ fun J=>lJ ?_))))
  ·refine(xq (i:=((1:Nat):Int)) (k:=(m:Int)) rfl (cZ rfl (Am hO)) rfl).trans ?_;rw[be,tM,tM]
  ·exact w2 (xs:=l) (w:=.str) (g:=iH) rfl hl fun n hn=>d8 rfl (L (h n hn))
 show bg (ex (CC (d+1)) topN ub.body [some (.tup (l.map .str)),af m,none,none,none,none] σ)=_;rw[this];rfl
theorem LD:∀l:List Str,ke (l.map .str)=some l:=by
 intro l
 induction l with
 | nil =>
  exact rfl
 | cons x l aj =>
  show(ke (l.map .str)).map (x::·)=_;rw[aj];rfl
theorem MY:∀(l a:List Str),a.Nodup->(l.foldl (fun a x=>if a.any (· == x)then a else a++[x]) a).length<=a.length+l.length ∧
  ((l.foldl (fun a x=>if a.any (· == x)then a else a++[x]) a).length=a.length+l.length ↔ (a++l).Nodup):=by
 intro l
 induction l with
 | nil =>
  intro a h;simpa using h
 | cons x l aj =>
  intro a h;rw[iO]
  cases hx:a.any (· == x)with
  | true =>
   rw[aD rfl];refine aS (aj a h) fun L O=>?_;rw[dy];refine⟨(Nat.le_succ_of_le (by assumption)),⟨fun q=>absurd q (by grind),fun q=>?_⟩⟩;refine ay (List.any_eq_true.mp hx) fun y hy e=>?_
   have e:y=x:=by simpa using e
   subst e;rw[gC]at q;exact absurd rfl (q.2.2 y hy y ((bi)))
  | false =>
   rw[aY (by trivial)]
   have hn:(a++[x]).Nodup:=by
    rw[gC];refine⟨h,by simp,fun y hy z a7 e=>?_⟩;rw[de]at a7;subst a7;subst e;rw[List.any_eq_false]at hx;exact hx y hy (by simp)
   refine aS (aj (a++[x]) hn) fun L O=>?_;rw[cW,List.length_singleton]at L O;rw[dy];refine⟨by grind,?_⟩;rw[eY,List.singleton_append]at O;rw[<- O]
   (grind)
theorem MZ{l:List Str}:(gK l).length=l.length ↔ l.Nodup:=by
 have:=(MY l [] (by trivial)).2;rw[List.length_nil,gD,List.nil_append]at this;exact this
noncomputable def jy(l:List Str):Bool:=(gK l).length == l.length
theorem KS{l:List Str}:jy l=true ↔ l.Nodup:=by
 unfold jy;rw[ff];exact MZ
theorem RM{v:H}{l:List Str}(hv:el σ v=some (l.map .str))(hl:l.length<=1000):dk .lenset v σ=.ok (.int (gK l).length) σ:=by
 have e:dk .lenset v σ=match(el σ v).bind ke with
  | some l=>if l.length<=1000 then .ok (.int (gK l).length) σ else .stuck
  | none=>.stuck:=by cases v <;> rfl
 rw[e,hv]
 show(match ke (l.map .str)with
  | some l=>if l.length<=1000 then ah.ok (H.int (gK l).length) σ else .stuck
  | none=>.stuck)=_
 rw[LD];dsimp only;rw[aD hl]
theorem I0{v:H}(hv:el σ v=some xs)(hn:∀s,v≠.str s)(hl:xs.length<=aI):dk .len v σ=.ok (.int xs.length) σ:=by
 have e:dk .len v σ=jW (fun xs=>if xs.length<=aI then .ok (.int xs.length) σ else .stuck) v σ:=by cases v <;> first | rfl | exact absurd rfl (hn _)
 rw[e,sv hv,aD hl]
theorem aw{v:H}{l:List Str}(hv:el σ v=some (l.map .str))(hn:∀s,v≠.str s)(hl:l.length<=1000):bB PP topN (d+1) oV [v] σ=.ok (.bool (jy l)) σ:=by
 rw[cC (fn:=uc) rfl rfl]
 have:ex (CC d) topN uc.body [some v,none,none] σ=.ret (.bool (jy l)) [some v,none,none] σ:=by
  refine bf (cH ?_);refine eE (q:=jy l) (cZ rfl (RM hv hl)) (cZ rfl (I0 hv hn (by rw[be];exact aH hl (by decide)))) ?_;rw[lN,be];unfold jy;congr 1;rw[Bool.eq_iff_iff];simp only[ff];(grind)
 show bg (ex (CC d) topN uc.body [some v,none,none] σ)=_;rw[this];rfl
inductive c2 where
 | word (w:Str)
 | fixed (v:Int)
noncomputable def c2.pv:c2->H
 | .word w=>.tup [.str w]
 | .fixed v=>.tup [.str "fixed",.int v]
inductive fv:c2->Nat->Nat->Prop where
 | sum (n g:Nat):fv (.word "sum") n g
 | times (n g:Nat):fv (.word "times") n g
 | least (n g:Nat):fv (.word "least") n g
 | most (n g:Nat):fv (.word "most") n g
 | later (g:Nat):fv (.word "later") 1 g
 | way:fv (.word "way") 2 2
 | choose (g:Nat):fv (.word "choose") 3 g
 | fixed (v:Int) (n g:Nat):0<=v->v<=999999->fv (.fixed v) n g
noncomputable def mf:c2->Nat->Nat->Bool
 | .fixed v,_,_=>decide (0<=v)&&decide (v<=999999)
 | .word w,n,g=>if w == ("fixed" : Str)then false else if w == ("later" : Str)then n == 1 else if w == ("way" : Str)then(n == 2&&g == 2)else if w == ("choose" : Str)then n == 3 else
   [("sum" : Str), "times", "least", "most"].any fun y=>y == w
set_option tactic.hygienic true in
theorem UJ{r:c2}{g:Nat}(h:mf r n g=true):fv r n g:=by
 cases r with
 | fixed v =>
  simp only[mf,eB,iN]at h;exact .fixed v n g h.1 h.2
 | word w =>
  simp only[mf]at h
  split at h
  ·cases h
  ·split at h
   ·rename_i q;rw[ff]at q h;subst q;subst h;exact .later g
   ·split at h
    ·rename_i q;rw[eB]at h;rw[ff]at q h;refine aS h fun L O=>?_;rw[ff]at O;subst q;subst L;subst O;exact .way
    ·split at h
     ·rename_i q;rw[ff]at q h;subst q;subst h;exact .choose g
     ·simp only[List.any_cons,List.any_nil,Bool.or_false,Bool.or_eq_true,ff]at h
      rcases h with q | q | q | q
      ·rw[<- q];exact .sum n g
      ·rw[<- q];exact .times n g
      ·rw[<- q];exact .least n g
      ·rw[<- q];exact .most n g
theorem UI{r:c2}{g:Nat}(h:fv r n g):mf r n g=true:=by
 cases h with
 | fixed v n g q1 q2=>simp[mf,q1,q2]
 | _=>rfl
theorem tD{k:Nat}:((n:Int) == ((k:Nat):Int))=(n == k):=by
 rw[Bool.eq_iff_iff];simp only[ff];(grind)
theorem Sp{w:Str}:cY .isin (.str w) (.tup [.str "sum",.str "times",.str "least",.str "most"]) σ=.ok ([("sum" : Str), "times", "least", "most"].any fun y=>y == w) σ:=rfl
theorem aQ{r:c2}{n g:Nat}:bB PP topN (d+2) Ii [r.pv,.int n,.int g] σ=.ok (.bool (mf r n g)) σ:=by
 rw[cC (fn:=uj) rfl rfl]
 cases r with
 | fixed v =>
  have:ex (CC (d+1)) topN uj.body [some (.tup [.str "fixed",.int v]),af n,af g,none,none,none,none,none,none] σ=.ret (.bool (mf (.fixed v) n g)) [some (.tup [.str "fixed",.int v]),af n,af g,none,none,none,none,none,none] σ:=by
   refine(am (a:=uk) (ρ':=[some (.tup [.str "fixed",.int v]),af n,af g,none,none,none,none,none,none]) (σ':=σ) rfl).trans (bf (a:=ry) ?_);refine(cz (σ':=σ) rfl).trans (bf (cH ?_));exact kl (kY rfl (lJ (d8 rfl h0)))
  show bg (ex (CC (d+1)) topN uj.body [some (.tup [.str "fixed",.int v]),af n,af g,none,none,none,none,none,none] σ)=_;rw[this];rfl
 | word w =>
  show bg (ex (CC (d+1)) topN #v[uk,ry,x4,ul,um,un,x5] [some (.tup [.str w]),af n,af g,none,none,none,none,none,none] σ)=_;have cB:∀k:Str,tst (CC (d+1)) (.cmp (.sub (.v 0) (ae 0)) .eq (.k (.str k))) [some (.tup [.str w]),af n,af g,none,none,none,none,none,none] σ=.ok (w == k) σ:=fun k=>rfl;rw[am (a:=uk) (ρ':=[some (.tup [.str w]),af n,af g,none,none,none,none,none,none]) (σ':=σ) rfl];simp only[mf]
  cases L:w == ("fixed" : Str)with
  | true =>
   rw[bf (a:=ry) ((cz (σ':=σ) (by rw[cB,L])).trans (bf (cH (kl (v:=.ok (.bool false) σ) rfl))))];rfl
  | false =>
   rw[am (a:=ry) (bC (σ':=σ) (by rw[cB,L]))];rw[am (a:=x4) (ρ':=[some (.tup [.str w]),af n,af g,none,none,none,none,none,none]) (σ':=σ) rfl]
   cases O:w == ("later" : Str)with
   | true =>
    rw[bf (a:=ul) ((cz (σ':=σ) (by rw[cB,O])).trans (bf (cH (eE (x:=.int n) (y:=.int ((1:Nat):Int)) (ac:=σ) (ar:=σ) rfl rfl (lN.trans (by rw[tD]))))))];rfl
   | false =>
    rw[am (a:=ul) (bC (σ':=σ) (by rw[cB,O]))]
    cases aw:w == ("way" : Str)with
    | true =>
     rw[bf (a:=um) ((cz (σ':=σ) (by rw[cB,aw])).trans (bf (cH (kl (tP (q:=n == 2) (p:=g == 2) (eE (x:=.int n) (y:=.int ((2:Nat):Int)) (ac:=σ) (ar:=σ) rfl rfl (lN.trans (by rw[tD]))) fun J=>lJ (eE (x:=.int g) (y:=.int ((2:Nat):Int)) (ac:=σ) (ar:=σ) rfl rfl (lN.trans (by rw[tD]))))))))];rfl
    | false =>
     rw[am (a:=um) (bC (σ':=σ) (by rw[cB,aw]))]
     cases aQ:w == ("choose" : Str)with
     | true =>
      rw[bf (a:=un) ((cz (σ':=σ) (by rw[cB,aQ])).trans (bf (cH (eE (x:=.int n) (y:=.int ((3:Nat):Int)) (ac:=σ) (ar:=σ) rfl rfl (lN.trans (by rw[tD]))))))];rfl
     | false =>
      rw[am (a:=un) (bC (σ':=σ) (by rw[cB,aQ]))];rw[bf (a:=x5) (cH (eE (x:=.str w) (y:=.tup [.str "sum",.str "times",.str "least",.str "most"]) (ac:=σ) (ar:=σ) rfl rfl Sp))];rfl
structure aq where
 name:Str
 rule:c2
 needs:List Str
 gives:List Str
noncomputable def aq.pv(s:aq):H:=.tup [.str s.name,s.rule.pv,.tup (s.needs.map .str),.tup (s.gives.map .str)]
structure gV(s:aq):Prop where
 name:gR s.name
 needs:∀n∈s.needs,gR n
 needs1:1<=s.needs.length
 needs4:s.needs.length<=4
 gives:∀n∈s.gives,gR n
 gives1:1<=s.gives.length
 gives3:s.gives.length<=3
 unlike:s.gives.Nodup
 rule:fv s.rule s.needs.length s.gives.length
structure cs(p:List aq):Prop where
 pos:1<=p.length
 most:p.length<=20
 steps:∀s∈p,gV s
 names:(p.map (·.name)).Nodup
 gives:(p.flatMap (·.gives)).Nodup
noncomputable def bv(p:List aq):H:=.tup (p.map aq.pv)
noncomputable def nB(s:aq):Bool:=iH s.name&&(nh s.needs 4&&(nh s.gives 3&&(jy s.gives&&mf s.rule s.needs.length s.gives.length)))
noncomputable def sE(p:List aq):Bool:=(decide (1<=p.length)&&decide (p.length<=20))&&(p.all nB&&(jy (p.map (·.name))&&jy (p.flatMap (·.gives))))
theorem Jt{l:List Str}{m:Nat}:nh l m=true ↔ (∀n∈l,gR n)/\1<=l.length/\l.length<=m:=by
 simp only[nh,eB,iN,fI];exact⟨fun h=>⟨fun n hn=>AE (h.2 n hn),h.1⟩,fun h=>⟨h.2,fun n hn=>Jp (h.1 n hn)⟩⟩
theorem Ki{s:aq}:nB s=true ↔ gV s:=by
 simp only[nB,eB,Jt,KS];constructor
 ·rintro⟨a,b,c,e,f⟩
  exact⟨AE a,b.1,b.2.1,b.2.2,c.1,c.2.1,c.2.2,e,UJ f⟩
 ·intro h;exact⟨Jp h.name,⟨h.needs,h.needs1,h.needs4⟩,⟨h.gives,h.gives1,h.gives3⟩,h.unlike,UI h.rule⟩
theorem TU{p:List aq}:sE p=true ↔ cs p:=by
 simp only[sE,eB,KS,iN,fI,Ki];constructor
 ·rintro⟨⟨a,b⟩,c,e,f⟩
  exact⟨a,b,c,e,f⟩
 ·intro h;exact⟨⟨h.pos,h.most⟩,h.steps,h.names,h.gives⟩
structure ta(s:aq):Prop where
 name:s.name.length<=aI
 needs:∀n∈s.needs,n.length<=aI
 needsl:s.needs.length<=aI
 gives:∀n∈s.gives,n.length<=aI
 givesl:s.gives.length<=aI
theorem vC{xs:List Str}(h:xs.length<=aI):dk .len (.tup (xs.map .str)) σ=.ok (.int xs.length) σ:=by
 rw[Am (by rw[be];exact h),be]
theorem Md{a b:Bool}:(!a||!b)=!(a&&b):=by cases a <;> cases b <;> rfl
theorem c5{s:aq}(h:ta s):bB PP topN (d+3) Ij [s.pv] σ=.ok (.bool (nB s)) σ:=by
 rw[cC (fn:=Ew) rfl rfl];show bg (ex (CC (d+2)) topN #v[uo,pV,x6] [some s.pv,none,none,none,none,none,none,none,none,none] σ)=_
 have bK:tst (CC (d+2)) (.or #v[(.not (.isinst (.v 0) .tuple)),(.cmp (.b1 .len (.v 0)) .ne (ae 4)),(.not (.call vj #v[(.sub (.v 0) (ae 0))]))]) [some s.pv,none,none,none,none,none,none,none,none,none] σ=.ok (!iH s.name) σ:=
  ik (im (ac:=σ) rfl (im (ac:=σ) rfl (i9 (ht (jx (d8 (x:=.str s.name) (ac:=σ) rfl (L h.name)))))))
 unfold nB
 cases hj:iH s.name with
 | false =>
  rw[hj]at bK;rw[bf (a:=uo) ((cz bK).trans rfl)];rfl
 | true =>
  rw[hj]at bK;rw[am (a:=uo) (bC bK)]
  cases q1:nh s.needs 4 with
  | false =>
   have V:tst (CC (d+2)) (.or #v[(.not (.call l0 #v[(.sub (.v 0) (ae 2)),(ae 4)])),(.not (.call l0 #v[(.sub (.v 0) (ae 3)),(ae 3)])),(.not (.call oV #v[(.sub (.v 0) (ae 3))]))]) [some s.pv,none,none,none,none,none,none,none,none,none] σ=.ok true σ:=
    ik (Kx (ht (q:=false) (jx (jl (x:=.tup (s.needs.map .str)) (y:=.int ((4:Nat):Int)) (ac:=σ) (ar:=σ) rfl rfl ((O h.needs h.needsl).trans (by rw[q1]))))))
   rw[bf (a:=pV) ((cz V).trans rfl)];rfl
  | true =>
   cases q2:nh s.gives 3 with
   | false =>
    have V:tst (CC (d+2)) (.or #v[(.not (.call l0 #v[(.sub (.v 0) (ae 2)),(ae 4)])),(.not (.call l0 #v[(.sub (.v 0) (ae 3)),(ae 3)])),(.not (.call oV #v[(.sub (.v 0) (ae 3))]))]) [some s.pv,none,none,none,none,none,none,none,none,none] σ=.ok true σ:=
     ik (im (ht (q:=true) (jx (jl (x:=.tup (s.needs.map .str)) (y:=.int ((4:Nat):Int)) (ac:=σ) (ar:=σ) rfl rfl ((O h.needs h.needsl).trans (by rw[q1]))))) (Kx (ht (q:=false) (jx (jl (x:=.tup (s.gives.map .str)) (y:=.int ((3:Nat):Int)) (ac:=σ) (ar:=σ) rfl rfl ((O h.gives h.givesl).trans (by rw[q2])))))))
    rw[bf (a:=pV) ((cz V).trans rfl)];rfl
   | true =>
    have g3:=(Jt.mp q2).2.2
    have V:tst (CC (d+2)) (.or #v[(.not (.call l0 #v[(.sub (.v 0) (ae 2)),(ae 4)])),(.not (.call l0 #v[(.sub (.v 0) (ae 3)),(ae 3)])),(.not (.call oV #v[(.sub (.v 0) (ae 3))]))]) [some s.pv,none,none,none,none,none,none,none,none,none] σ=.ok (!jy s.gives) σ:=
     ik (im (ht (q:=true) (jx (jl (x:=.tup (s.needs.map .str)) (y:=.int ((4:Nat):Int)) (ac:=σ) (ar:=σ) rfl rfl ((O h.needs h.needsl).trans (by rw[q1]))))) (im (ht (q:=true) (jx (jl (x:=.tup (s.gives.map .str)) (y:=.int ((3:Nat):Int)) (ac:=σ) (ar:=σ) rfl rfl ((O h.gives h.givesl).trans (by rw[q2])))))
      (i9 (ht (jx (d8 (x:=.tup (s.gives.map .str)) (ac:=σ) rfl (aw rfl (fun J q=>by cases q) (aH g3 (by decide)))))))))
    cases q3:jy s.gives with
    | false =>
     rw[q3]at V;rw[bf (a:=pV) ((cz V).trans rfl)];rfl
    | true =>
     rw[q3]at V;rw[am (a:=pV) (bC V)];rw[bf (a:=x6) (cH (pS (x:=s.rule.pv) (ac:=σ) rfl (cZ (x:=.tup (s.needs.map .str)) (ac:=σ) rfl (vC h.needsl)) (cZ (x:=.tup (s.gives.map .str)) (ac:=σ) rfl (vC h.givesl)) aQ))];rfl
theorem Hi{pl:H}{dZ:aa}{d:Nat}:∀(p:List aq) (y:Option H) (acc:List Str),acc.length+3*p.length<=1000->(∀s∈p,s.gives.length<=3) ->
  ∃b9,cj none (dM 1) (fun ρ σ=>ex (CC d) topN Ev ρ σ) (p.map aq.pv) [some pl,y,aR dZ.length,none,none,none,none,none,none] (dZ++[.lst (acc.map .str)]) =
   .next [some pl,b9,aR dZ.length,none,none,none,none,none,none] (dZ++[.lst ((acc++p.flatMap (·.gives)).map .str)])
 | [],y,acc,_,_=>⟨y,by simpa using eP⟩
 | s::p,y,acc,h,hs=>by
  have hg:=hs s ((bi));obtain⟨b9,aj⟩:=Hi (pl:=pl) (dZ:=dZ) (d:=d) p (some s.pv) (acc++s.gives) (by rw[cW];rw[dy]at h;(grind)) fun t a3=>hs t (bM _ a3);refine⟨b9,(eh (bU:=[some pl,some s.pv,aR dZ.length,none,none,none,none,none,none]) (eA:=[some pl,some s.pv,aR dZ.length,none,none,none,none,none,none]) (ar:=dZ++[.lst ((acc++s.gives).map .str)]) rfl ?_).trans (aj.trans (by simp[kS]))⟩
  have iW:(dZ++[aW.lst (acc.map .str)])[dZ.length]?=some (.lst (acc.map .str)):=by simp
  refine(am (fJ (hJ (m:=.extend) (x:=.ref dZ.length) (ac:=dZ++[.lst (acc.map .str)]) (ar:=dZ++[.lst (acc.map .str)]) rfl ?_ (y:=.tup (s.gives.map .str)) rfl ?_))).trans bX
  ·show iZ (.ref dZ.length) _=true;unfold iZ;dsimp only;rw[iW]
  ·show lO (.ref dZ.length) (.tup (s.gives.map .str)) _=_;unfold lO;dsimp only;rw[iW];dsimp only;rw[aD (by rw[be,be,eV];(grind))];simp
theorem N4:∀(q:List aq),(∀s∈q,s.gives.length<=3)->(q.flatMap (·.gives)).length<=3*q.length:=by
 intro q
 induction q with
 | nil =>
  intro _
  (trivial)
 | cons s q aj =>
  intro hs;have L:=aj fun t a3=>hs t (bM _ a3);have O:=hs s ((bi));rw[kS,cW,dy];(grind)
theorem Hr{p:List aq}(h:∀s∈p,ta s)(hl:p.length<=aI):∃τ,bB PP topN (d+4) vk [bv p] σ=.ok (.bool (sE p)) (σ++τ):=by
 have hO:(p.map aq.pv).length<=aI:=by rw[be];exact hl
 have c0:∀{σ:aa},dk .len (bv p) σ=.ok (.int p.length) σ:=fun{σ}=>by
  show dk .len (.tup (p.map aq.pv)) σ=_;rw[Am hO,be]
 rw[cC (fn:=Es) rfl rfl];show ∃τ,bg (ex (CC (d+3)) topN #v[ui,x1,x2,x3] [some (bv p),none,none,none,none,none,none,none,none] σ)=_
 have bK:tst (CC (d+3)) (.or #v[(.not (.isinst (.v 0) .tuple)),(.not (.cmp2 (ae 1) .le (.b1 .len (.v 0)) .le (ae 20))),(.not (.b1 .all Et))]) [some (bv p),none,none,none,none,none,none,none,none] σ=.ok (!(decide (1<=p.length)&&decide (p.length<=20))||!p.all nB) σ:=by
  refine ik (im (ac:=σ) rfl (sT ((ht (Kw (i:=((1:Nat):Int)) (k:=((20:Nat):Int)) rfl (cZ rfl c0) rfl)).trans (by rw[tM,tM])) fun J=>i9 (ht (V2 (w2 (xs:=p) (w:=aq.pv) (g:=nB) rfl hl fun s hs=>?_)))));exact d8 rfl (c5 (h s hs))
 rw[Md]at bK;unfold sE;rw[<- Bool.and_assoc]
 cases hj:((decide (1<=p.length)&&decide (p.length<=20))&&p.all nB)with
 | false =>
  rw[hj]at bK;exact⟨[],by rw[bf (a:=ui) ((cz bK).trans rfl),List.append_nil];rfl⟩
 | true =>
  rw[hj]at bK;simp only[eB,iN,fI,Ki]at hj;obtain⟨⟨bE,TN⟩,hs⟩:=hj
  have V:ex (CC (d+3)) topN x1 [some (bv p),none,none,none,none,none,none,none,none] σ=.next [some (bv p),none,aR σ.length,none,none,none,none,none,none] (σ++[.lst []]):=rfl
  obtain⟨b9,ak⟩:=Hi (pl:=bv p) (dZ:=σ) (d:=d+3) p none [] (by simp;(grind)) fun s hq=>(hs s hq).gives3
  have mS:ex (CC (d+3)) topN x2 [some (bv p),none,aR σ.length,none,none,none,none,none,none] (σ++[.lst []])=.next [some (bv p),b9,aR σ.length,none,none,none,none,none,none] (σ++[.lst ((p.flatMap (·.gives)).map .str)]):=
   eO (ys:=p.map aq.pv) (ac:=σ++[.lst []]) rfl ak
  have PA:(p.flatMap (·.gives)).length<=60:=by
   have L:=N4 p fun s hq=>(hs s hq).gives3
   (grind)
  have bG:ex (CC (d+3)) topN x3 [some (bv p),b9,aR σ.length,none,none,none,none,none,none] (σ++[.lst ((p.flatMap (·.gives)).map .str)])=.ret (.bool (jy (p.map (·.name))&&jy (p.flatMap (·.gives)))) [some (bv p),b9,aR σ.length,none,none,none,none,none,none] (σ++[.lst ((p.flatMap (·.gives)).map .str)]):=by
   have iW:(σ++[aW.lst ((p.flatMap (·.gives)).map .str)])[σ.length]?=some (.lst ((p.flatMap (·.gives)).map .str)):=by simp
   have cE:ev (CC (d+3)) Eu [some (bv p),b9,aR σ.length,none,none,none,none,none,none] (σ++[.lst ((p.flatMap (·.gives)).map .str)])=.ok (.fl ((p.map (·.name)).map .str)) (σ++[.lst ((p.flatMap (·.gives)).map .str)]):=by
    refine(lI (fun x=>match x with | .tup (.str n::_)=>.str n | _=>.none) (xs:=p.map aq.pv) rfl hO fun x hx=>?_).trans ?_
    ·refine ay (ci.mp hx) fun s hs ag=>?_;obtain rfl:=ag;rfl
    ·rw[fV,fV];rfl
   refine cH (kl (tP (d8 cE (aw rfl (fun J q=>by cases q) (by rw[be];exact aH TN (by decide)))) fun J=>(lJ (d8 rfl (aw ?_ (fun J q=>by cases q) (aH PA (by decide)))))));unfold el;dsimp only;rw[iW]
  refine⟨[.lst ((p.flatMap (·.gives)).map .str)],?_⟩;rw[am (a:=ui) (bC bK),am V,am mS,bf bG];rfl
theorem gh{p:List aq}(h:∀s∈p,ta s)(hl:p.length<=aI):∃σ',bB PP topN (d+4) vk [bv p] σ=.ok (.bool (sE p)) σ':=let⟨_,e⟩:=Hr h hl;⟨_,e⟩
theorem qz(h:n<=100){a:X}(ha:ev C a ρ σ=.ok (.int n) σ):evIt C (.range1 a) ρ σ=.ok (dh 0 1 n,none) σ:=by
 rw[xC,ha,cn];show(if 0<=(n:Int)/\(n:Int)<=aI then ah.ok (dh 0 1 (n:Int).toNat,none) σ else .stuck)=_;rw[aD ⟨(d3 _),by rw[eV];(exact Int.ofNat_le.mpr (aH (by assumption) (by decide)))⟩];rfl
theorem A3{x:H}(h:x∈dh 0 1 n):∃i:Nat,i<n/\x=.int i:=by
 refine ay (ci.mp h) fun i hi ag=>?_;obtain rfl:=ag;exact⟨i,List.mem_range.mp hi,by simp⟩
theorem mo{ws:List Str}(h:ws.length<=100):(ws.map H.str).length<=aI:=by rw[be];exact aH h (by decide)
theorem TV{p:List aq}(hl:p.length<=20):(p.map aq.pv).length<=aI:=by rw[be];exact aH hl (by decide)
theorem uR(hl:l.length<=63){k:Nat}:bB PP topN (d+1) g6 [.fl (l.map .int),.int k] σ=.ok (.int (l.getD k 0)) σ:=by
 rw[cC (fn:=rA) rfl rfl]
 have hO:(l.map H.int).length<=aI:=by rw[be];exact aH hl (by decide)
 have c0:dk .len (.fl (l.map .int)) σ=.ok (.int l.length) σ:=by rw[Al hO,be]
 show bg (ex (CC d) topN rA.body [some (.fl (l.map .int)),af k,none] σ)=_;by_cases h:k<l.length
 ·have:ex (CC d) topN rA.body [some (.fl (l.map .int)),af k,none] σ=.ret (.int (l.getD k 0)) [some (.fl (l.map .int)),af k,none] σ:=by
   refine bf ((cz (σ':=σ) (b4 (x:=.int k) (ac:=σ) rfl (cZ (x:=.fl (l.map .int)) (ac:=σ) rfl c0) ?_)).trans (bf (cH (cG (x:=.fl (l.map .int)) (y:=.int k) (ac:=σ) (ar:=σ) rfl rfl (j1 hO ((d3 _)) ?_)))))
   ·rw[lt_int,dz ((ew.mpr (by assumption)))]
   ·simp[h]
  rw[this];rfl
 ·have:ex (CC d) topN rA.body [some (.fl (l.map .int)),af k,none] σ=.ret (.int 0) [some (.fl (l.map .int)),af k,none] σ:=by
   refine(am (ρ':=[some (.fl (l.map .int)),af k,none]) (σ':=σ) (bC (σ':=σ) (b4 (x:=.int k) (ac:=σ) rfl (cZ (x:=.fl (l.map .int)) (ac:=σ) rfl c0) ?_))).trans rfl;rw[lt_int,fx ((fun q=>(by assumption:¬_) (ew.mp q)))]
  have e:l.getD k 0=0:=by simp[List.getD,Nat.not_lt.mp h]
  rw[this,e];rfl
noncomputable def ej(p:Int):Int:=(p*48271+11)%2147483647*((p*48271+11)%2147483647)%2147483629
theorem lV{p:Int}:bB PP topN (d+1) js [.int p] σ=.ok (.int (ej p)) σ:=by
 rw[cC (fn:=uA) rfl rfl]
 have:ex (CC d) topN uA.body [af p,none] σ=.ret (.int (ej p)) [af p,af ((p*48271+11)%2147483647)] σ:=by
  refine(am (ρ':=[af p,af ((p*48271+11)%2147483647)]) (σ':=σ) (bH (cS (cS (cS (x:=.int p) (y:=.int 48271) (ac:=σ) (ar:=σ) rfl rfl (mul_int (.inr (by decide)))) (y:=.int 11) (ar:=σ) rfl add_int) (y:=.int 2147483647) (ar:=σ) rfl (ih (by decide))))).trans (bf (cH (cS (cS (x:=.int ((p*48271+11)%2147483647)) (y:=.int ((p*48271+11)%2147483647)) (ac:=σ) (ar:=σ) rfl rfl (mul_int (.inl ?_))) (y:=.int 2147483629) (ar:=σ) rfl (ih (by decide)))));have L:=eZ (p*48271+11) (show(2147483647:Int)≠0 by decide);have O:=fU (p*48271+11) (show(0:Int)<2147483647 by decide);refine aL (kc L) fun w hw=>?_;rw[hw]at O ⊢;exact eD (ew.mp O) (by decide)
 show bg (ex (CC d) topN uA.body [af p,none] σ)=_;rw[this];rfl
theorem y9{p a b:Int}(ha:0<a)(ha2:a<1073741824)(hb:0<b){x:X}(hx:ev C x ρ σ=.ok (.int p) σ):ev C (.bin .mod (.bin .fdiv x (ae a)) (ae b)) ρ σ=.ok (.int (p/a%b)) σ:=
 cS (cS hx (y:=.int a) (ar:=σ) rfl (NV ha ha2)) (y:=.int b) (ar:=σ) rfl (ih hb)
theorem zm{p:Int}:∃v,0<=v/\v<=999999/\∀{d:Nat} {σ:aa},bB PP topN (d+1) se [.int p] σ=.ok (.int v) σ:=by
 have nb:∀{d:Nat} {σ:aa} (c:Int),tst (CC d) (.cmp (.bin .mod (.v 0) (ae 4)) .eq (ae c)) [af p] σ=.ok (p%4 == c) σ:=fun{d σ} c =>
  b4 rfl (y:=.int c) (ar:=σ) rfl lN
 have fY:=eZ (p/4) (show(4:Int)≠0 by decide);have n1:=fU (p/4) (show(0:Int)<4 by decide)
 have fin:∀{d:Nat} {σ:aa} {v:Int},ex (CC d) topN uI.body [af p] σ=.ret (.int v) [af p] σ->bB PP topN (d+1) se [.int p] σ=.ok (.int v) σ:=fun{d σ v} h=>by
  rw[cC (fn:=uI) rfl rfl];show bg (ex (CC d) topN uI.body [af p] σ)=_;rw[h];rfl
 by_cases h0:p%4=0
 ·have hx:∃v,0<=v/\v<=999999/\([H.int 0,.int 0,.int 1,.int 999999])[(p/4%4).toNat]?=af v:=by
   refine vp (n:=4) (P:=fun w=>∃v,0<=v/\v<=999999/\([H.int 0,.int 0,.int 1,.int 999999])[w.toNat]?=af v) (fy (fy (fy (fy tw ?_) ?_) ?_) ?_) fY n1
   ·exact⟨0,by decide,by decide,rfl⟩
   ·exact⟨0,by decide,by decide,rfl⟩
   ·exact⟨1,by decide,by decide,rfl⟩
   ·exact⟨999999,by decide,by decide,rfl⟩
  refine bu hx fun v fm aX hv=>?_;refine⟨v,fm,aX,fun{d σ}=>fin (bf ((cz (σ':=σ) ((nb 0).trans (by rw[h0];rfl))).trans (bf (cH (cG (x:=.fl [H.int 0,.int 0,.int 1,.int 999999]) (ac:=σ) rfl (y9 (by decide) (by decide) (by decide) rfl) (j1 (by decide) fY hv))))))⟩
 ·have k0:∀{d:Nat} {σ:aa},tst (CC d) (.cmp (.bin .mod (.v 0) (ae 4)) .eq (ae 0)) [af p] σ=.ok false σ:=fun{d σ}=>(nb 0).trans (by rw[show(p%4 == 0)=false from kR.mpr h0]);by_cases L:p%4=1
  ·have pH:=eZ (p/4) (show(1000000:Int)≠0 by decide);have aA:=fU (p/4) (show(0:Int)<1000000 by decide);refine⟨p/4%1000000,pH,by grind,fun{d σ}=>fin ((am (ρ':=[af p]) (σ':=σ) (bC (σ':=σ) k0)).trans (bf ((cz (σ':=σ) ((nb 1).trans (by rw[L];rfl))).trans rfl)))⟩
  ·have pH:=eZ (p/4) (show(5:Int)≠0 by decide);have aA:=fU (p/4) (show(0:Int)<5 by decide);refine⟨p/4%5,pH,by grind,fun{d σ}=>fin ((am (ρ':=[af p]) (σ':=σ) (bC (σ':=σ) k0)).trans ((am (ρ':=[af p]) (σ':=σ) (bC (σ':=σ) ((nb 1).trans (by rw[show(p%4 == 1)=false from kR.mpr L])))).trans rfl))⟩
inductive je:c2->Prop where
 | sum:je (.word "sum")
 | times:je (.word "times")
 | least:je (.word "least")
 | most:je (.word "most")
 | later:je (.word "later")
 | way:je (.word "way")
 | choose:je (.word "choose")
 | fixed (v:Int):0<=v->v<=999999->je (.fixed v)
theorem OG{p w:Int}(h0:0<=w)(L:w<12):∃r:c2,je r/\∀{d:Nat} {σ:aa},bB PP topN (d+2) Ab [.int p,.int w] σ=.ok r.pv σ:=by
 refine vp (n:=12) (P:=fun w=>∃r:c2,je r/\∀{d:Nat} {σ:aa},bB PP topN (d+2) Ab [.int p,.int w] σ=.ok r.pv σ) (fy (fy (fy (fy (fy (fy (fy (fy (fy (fy (fy (fy tw ?_) ?_) ?_) ?_) ?_) ?_) ?_) ?_) ?_) ?_) ?_) ?_) h0 L
 ·exact⟨_,.sum,rfl⟩
 ·exact⟨_,.times,rfl⟩
 ·exact⟨_,.least,rfl⟩
 ·exact⟨_,.most,rfl⟩
 ·obtain⟨v,fm,aX,hv⟩:=zm (p:=p);refine⟨_,.fixed v fm aX,fun{d σ}=>?_⟩;rw[cC (fn:=uE) rfl rfl]
  have:ex (CC (d+1)) topN uE.body [af p,af 4,none,none] σ=.ret (.tup [.str "fixed",.int v]) [af p,af 4,a1 "fixed",none] σ:=
   (am (ρ':=[af p,af 4,a1 "fixed",none]) (σ':=σ) rfl).trans (bf (rfl.trans (bf (cH (lL (vs:=[.str "fixed",.int v]) (eI (x:=.str "fixed") (ac:=σ) rfl (eI (x:=.int v) (ac:=σ) (d8 (x:=.int p) (ac:=σ) rfl hv) rfl)) (show(2:Nat)<=aI by decide))))))
  show bg (ex (CC (d+1)) topN uE.body [af p,af 4,none,none] σ)=_;rw[this];rfl
 ·exact⟨_,.later,rfl⟩
 ·exact⟨_,.later,rfl⟩
 ·exact⟨_,.way,rfl⟩
 ·exact⟨_,.choose,rfl⟩
 ·exact⟨_,.way,rfl⟩
 ·exact⟨_,.choose,rfl⟩
 ·exact⟨_,.sum,rfl⟩
noncomputable def mq:List Str:=["sum", "later", "way", "fixed", "a9", "b", "times", "choose", "least", "most", "z0", "put"]
noncomputable def vK(b k:Nat):Str:=(mq.getD ((b+k)%12) "")++(if k/12=0 then("" : Str)else "x")
noncomputable def qq(b:Nat):List Str:=(List.range 24).map (vK b)
noncomputable def vN:List Str->Bool
 | []=>true
 | x::r=>!(r.any (· == x))&&vN r
theorem Ti:∀{l:List Str},vN l=true->l.Nodup:=by
 intro r
 induction r with
 | nil =>
  intro _;exact .nil
 | cons x r aj =>
  intro h;simp only[vN,eB,Bool.not_eq_true',List.any_eq_false,ff]at h;exact gZ.mpr ⟨fun q=>h.1 x q rfl,aj h.2⟩
noncomputable def vX(s:Str):Bool:=!(s.cps.toList.take 2 == [122,122])&&!(s.cps.toList.take 2 == [121,121])
noncomputable def jI(s:Str):Prop:=vX s=true
theorem SW:∀b:Nat,b<12->(qq b).all vX=true:=by decide +kernel
theorem SV:∀b:Nat,b<12->(vN (qq b)&&(qq b).all iH)=true:=by decide +kernel
theorem Jk:(Txt.mul "m" (n:Int)).cps.toList=List.replicate n 109:=by
 have hm:("m" : Str)=⟨#[109]⟩:=by decide +kernel
 rw[hm];unfold Txt.mul;by_cases L:(n:Int)<1
 ·have:n=0:=by grind
  subst this;rw[aD L];rfl
 ·rw[aY L];by_cases O:n=1
  ·subst O;rfl
  ·rw[aY (by
    have:((n:Int) == 1)=false:=kR.mpr (by grind)
    rw[this];decide)]
   have key:∀(k:Nat) (acc:Array Nat),((List.replicate k (#[109]:Array Nat)).foldl (·++·) acc).toList=acc.toList++List.replicate k 109:=by
    intro k
    induction k with
    | zero=>intro acc;simp
    | succ k aj =>
     intro acc;rw[List.replicate_succ,iO,aj];simp[List.replicate_succ]
   have:=key n #[];simpa using this
noncomputable def f5:List Nat:=("abcdefghijklmnopqrstuvwxyz0123456789" : Str).cps.toList
noncomputable def jk(p q N b k:Nat):List Nat:=List.replicate p 109++f5.getD ((b+k)%N) 0::List.replicate q 109
noncomputable def jU(p q N b k:Nat):Str:=⟨(jk p q N b k).toArray⟩
noncomputable def ni(p q N b:Nat):List Str:=(List.range 24).map (jU p q N b)
theorem Bg:f5.length=36/\f5.Nodup/\(∀c∈f5,c∈iF\/c∈zb)/\(∀i,i<26->f5.getD i 0∈iF)/\109∈iF:=by decide +kernel
theorem Sx{p q:Nat}{x y:Nat}(h:List.replicate p 109++x::List.replicate q 109=List.replicate p 109++y::List.replicate q 109):x=y:=
 (List.cons.inj (List.append_cancel_left h)).1
theorem U2(hi:i<36)(a5:j<36)(h:f5.getD i 0=f5.getD j 0):i=j:=by
 refine dN Bg fun L O J=>?_
 have V:f5.getD i 0=f5[i]'((aH (by assumption) (by decide))):=by simp[List.getD,L,hi]
 have ak:f5.getD j 0=f5[j]'((aH (by assumption) (by decide))):=by simp[List.getD,L,a5]
 rw[V,ak]at h
 have bG:f5[i]?=f5[j]?:=by rw[dI ((aH (by assumption) (by decide))),dI ((aH (by assumption) (by decide))),h]
 exact(List.getElem?_inj (by assumption) O).mp bG
theorem SX{p q N b:Nat}(hs:p+1+q<=8)(au:(p=0/\N=26)\/(0<p/\N=36)):(ni p q N b).Nodup/\∀n∈ni p q N b,gR n:=by
 have uT:24<=N/\N<=36:=by
  rcases au with⟨_,rfl⟩ | ⟨_,rfl⟩
  ·decide
  ·decide
 have rJ:0<N:=hF (by decide) uT.1;refine xu Bg fun f1 f2 rv tX oy=>?_;constructor
 ·unfold ni;rw[List.Nodup,List.pairwise_map];refine List.Pairwise.imp_of_mem ?_ (List.nodup_range (n:=24));intro i j hi a5 dn e;have hi:=List.mem_range.mp hi;have a5:=List.mem_range.mp a5
  have V:jk p q N b i=jk p q N b j:=by
   have:=congrArg (fun s:Str=>s.cps.toList) e;simpa[jU]using this
  have ak:=Sx V;have I6:∀{k:Nat},(b+k)%N<36:=hF (Nat.mod_lt _ rJ) uT.2;have bG:=U2 I6 I6 ak
  have key:∀i j,j<24->(b+i)%N=(b+j)%N->j<=i:=fun i j a5 e=>by
   rcases Nat.le_total j i with h | h
   ·exact h
   ·have z:=Nat.sub_mod_eq_zero_of_mod_eq e.symm;rw[Nat.add_sub_add_left,Nat.mod_eq_of_lt (gX (Nat.sub_le _ _) (hF a5 uT.1))]at z;exact Nat.le_of_sub_eq_zero z
  exact dn (Nat.le_antisymm (key j i hi bG.symm) (key i j a5 bG))
 ·intro n hn;refine ay (ci.mp hn) fun k hk ag=>?_;obtain rfl:=ag;have a0:(b+k)%N<N:=Nat.mod_lt _ rJ
  have rS:f5.getD ((b+k)%N) 0∈f5:=by
   have ea:(b+k)%N<f5.length:=by rw[f1];exact hF a0 uT.2
   rw[kP,dI ea];exact List.getElem_mem ea
  have hl:(jU p q N b k).length=p+1+q:=by
   show(jk p q N b k).toArray.size=_;simp[jk];(grind)
  refine⟨by rw[hl];exact aH (Nat.le_add_left 1 p) (gc _ q),by rw[hl];exact hs,fun c hc=>?_,fun c hc=>?_⟩
  ·have cg:(jk p q N b k)[0]?=some c:=by simpa[jU]using hc
   rcases au with⟨rfl,rfl⟩ | ⟨hp,rfl⟩
   ·simp[jk]at cg;subst cg;have:=tX _ a0;simpa[List.getD]using this
   ·obtain⟨sB,rfl⟩:∃sB,p=sB+1:=⟨p-1,by grind⟩;simp[jk,List.replicate_succ]at cg;subst cg;exact oy
  ·have cg:c∈jk p q N b k:=by simpa[jU]using hc
   simp only[jk,dt,b5,List.mem_replicate]at cg
   rcases cg with⟨_,rfl⟩ | rfl | ⟨_,rfl⟩
   ·exact .inl oy
   ·exact rv _ rS
   ·exact .inl oy
theorem AW{x y:Nat}{r:List Nat}{s:Str}(h:s.cps.toList=x::y::r)(q:x=109\/y=109):jI s:=by
 unfold jI vX;rw[h]
 rcases q with rfl | rfl
 ·rfl
 ·show(!(x == 122&&(false&&true))&&!(x == 121&&(false&&true)))=true;rw[Bool.false_and,Bool.and_false,Bool.and_false];rfl
theorem SY{p q N b:Nat}:∀n∈ni p q N b,jI n:=by
 intro n hn;refine ay (ci.mp hn) fun k hk ag=>?_;obtain rfl:=ag;have e:(jU p q N b k).cps.toList=jk p q N b k:=rfl;generalize jU p q N b k=s at e;unfold jk at e
 cases p with
 | zero =>
  cases q with
  | zero=>unfold jI vX;rw[e];show(!(_&&false)&&!(_&&false))=true;rw[Bool.and_false,Bool.and_false];rfl
  | succ q=>exact AW e (.inr rfl)
 | succ p =>
  cases p with
  | zero=>exact AW e (.inl rfl)
  | succ p=>exact AW e (.inl rfl)
theorem A2{g:H->H}{f:Nat->Str}(h:∀k,k<n->g (.int k)=.str (f k)):(dh 0 1 n).map g=((List.range n).map f).map .str:=by
 unfold dh;rw[fV,fV];refine List.map_congr_left fun k hk=>?_;show g (.int (0+(k:Int)*1))=.str (f k);exact(show(0+(k:Int)*1)=k by grind).symm▸(h k (List.mem_range.mp hk))
theorem Vn:∀i,i<12->(mq.map H.str)[i]?=a1 (mq.getD i ""):=fun i hi=>by
 rw[fH];have:mq.length=12:=rfl;simp[List.getD,this,hi]
theorem Vo:∀i,i<12->(mq.getD i ("" : Str)).length<=8:=by decide +kernel
noncomputable abbrev fS(a b c e f g h:Option H):az:=[a,b,c,e,f,g,h,none,none]
theorem SU{c:Int}:ev (CC d) E2 (fS (af c) (some (.fl (mq.map .str))) none none none none none) σ=.ok (.fl ((qq (c/9%12).toNat).map .str)) σ:=by
 have fY:=eZ (c/9) (show(12:Int)≠0 by decide);have n1:=fU (c/9) (show(0:Int)<12 by decide);refine(lI (fun x=>match x with | .int i=>.str (vK (c/9%12).toNat i.toNat) | _=>.none) (qz (n:=24) (by decide) rfl) (by rw[show(dh 0 1 24).length=24 by simp[dh]];decide) fun x hx=>?_).trans (by rw[A2 (f:=vK (c/9%12).toNat) fun k hk=>by rfl];rfl);refine ay (A3 hx) fun k hk ag=>?_;obtain rfl:=ag;show _=ah.ok (H.str (vK (c/9%12).toNat ((k:Int).toNat))) σ;have hi:((c/9+k)%12).toNat=((c/9%12).toNat+k)%12:=Cr (N:=12) (by decide);have ea:((c/9%12).toNat+k)%12<12:=Nat.mod_lt _ (by decide)
 have O:([H.str "",.str "x"])[((k:Int)/12).toNat]?=a1 (if k/12=0 then("" : Str)else "x"):=by
  have e:((k:Int)/12).toNat=k/12:=rfl;exact e.symm▸(fy (P:=fun i=>([H.str "",.str "x"])[i]?=a1 (if i=0 then("" : Str)else "x")) (fy tw rfl) rfl _ (Nat.div_lt_of_lt_mul hk))
 refine cS (x:=.str (mq.getD (((c/9%12).toNat+k)%12) "")) (y:=.str (if k/12=0 then("" : Str)else "x")) (ac:=σ) (ar:=σ) ?_ ?_ ?_
 ·refine cG (x:=.fl (mq.map .str)) (ac:=σ) rfl rfl (j1 (show(12:Nat)<=aI by decide) (eZ _ (by decide)) ?_);exact hi.symm▸(Vn _ ea)
 ·exact cG (x:=.fl [.str "",.str "x"]) (ac:=σ) rfl rfl (j1 (show(2:Nat)<=aI by decide) ((d3 _)) O)
 ·have gN:=Vo _ ea
  have l4:(if k/12=0 then("" : Str)else "x").length<=1:=by split <;> decide +kernel
  rw[add_str (by rw[eV];(grind))];rfl
theorem Jl{n:Int}(h0:0<=n)(L:n<=100):jM .mul (.str "m") (.int n) σ=.ok (.str (Txt.mul "m" n)) σ:=by
 show(if("m" : Str).length<=100/\0<=n/\n<=100 then ah.ok (H.str (Txt.mul "m" n)) σ else .stuck)=_;exact aD ⟨by decide +kernel,h0,L⟩
theorem Cz{v:H}(h:xs.length<1000):i2 .append (.ref dZ.length) [v] (dZ++[.lst xs])=.ok .none (dZ++[.lst (xs++[v])]):=by
 have iW:(dZ++[aW.lst xs])[dZ.length]?=some (.lst xs):=by simp
 show kf (.ref dZ.length) v (dZ++[.lst xs])=_;unfold kf;dsimp only;rw[iW];dsimp only;rw[aD (by rw[eV];(exact aH (by assumption) (by decide)))];simp
theorem ng{m:h2}(hm:m=.append\/m=.extend\/m=.pop):o0 m (.ref dZ.length) (dZ++.lst xs::τ)=true:=by
 have iW:(dZ++aW.lst xs::τ)[dZ.length]?=some (.lst xs):=by simp
 have:iZ (.ref dZ.length) (dZ++.lst xs::τ)=true:=by unfold iZ;dsimp only;rw[iW]
 rcases hm with rfl | rfl | rfl <;> exact this
theorem W4{c:Int}{p q N k:Nat}(hs:p+1+q<=8)(au:(p=0/\N=26)\/(0<p/\N=36))(acc:List Str)(zz:acc.length<100){z:Option H} :
  ex (CC d) topN yl (fS (af c) (a1 "abcdefghijklmnopqrstuvwxyz0123456789") (af k) (af ((p+1+q:Nat):Int)) (af p) (aR σ.length) z) (σ++[.lst (acc.map .str)]) =
   .next (fS (af c) (a1 "abcdefghijklmnopqrstuvwxyz0123456789") (af k) (af ((p+1+q:Nat):Int)) (af p) (aR σ.length) (a1 ⟨#[f5.getD (((c/64%N).toNat+k)%N) 0]⟩)) (σ++[.lst ((acc++[jU p q N (c/64%N).toNat k]).map .str)]):=by
 refine xu Bg fun f1 f2 rv tX oy=>?_
 have rJ:0<N:=by grind
 have fY:=eZ (c/64) (show(N:Int)≠0 by(exact Int.ofNat_ne_zero.mpr (c7 (by assumption))));have n1:=fU (c/64) (show(0:Int)<N by(exact ew.mpr (by assumption)));have hi:((c/64+k)%N).toNat=((c/64%N).toNat+k)%N:=Cr (c7 rJ);have ea:((c/64%N).toNat+k)%N<N:=Nat.mod_lt _ rJ
 have Qf:([H.int 26,.int 36])[((if decide ((p:Int) > 0)=true then 1 else 0:Int)).toNat]?=af N:=by
  rcases au with⟨rfl,rfl⟩ | ⟨hp,rfl⟩
  ·rfl
  ·rw[dz (by grind)];rfl
 have Qg:(0:Int)<=(if decide ((p:Int) > 0)=true then 1 else 0:Int):=by split <;> decide
 have ek:ex (CC d) topN (.asg 6 (.sub (.v 1) (.bin .mod (.bin .add (.bin .fdiv (.v 0) (ae 64)) (.v 2)) (.sub (.lst true #v[(ae 26),(ae 36)]) (.b1 .int (.cmp (.v 4) .gt (ae 0))))))) (fS (af c) (a1 "abcdefghijklmnopqrstuvwxyz0123456789") (af k) (af ((p+1+q:Nat):Int)) (af p) (aR σ.length) z) (σ++[.lst (acc.map .str)]) =
   .next (fS (af c) (a1 "abcdefghijklmnopqrstuvwxyz0123456789") (af k) (af ((p+1+q:Nat):Int)) (af p) (aR σ.length) (a1 ⟨#[f5.getD (((c/64%N).toNat+k)%N) 0]⟩)) (σ++[.lst (acc.map .str)]):=by
  generalize iV:σ++[aW.lst (acc.map .str)]=S;refine bH (cG (x:=.str "abcdefghijklmnopqrstuvwxyz0123456789") (ac:=S) rfl (cS rfl (y:=.int N) (ar:=S) (cG (x:=.fl [.int 26,.int 36]) (ac:=S) rfl (cZ (eE (x:=.int p) (y:=.int 0) (ac:=S) (ar:=S) rfl rfl gt_int) int_bool) (j1 (show(2:Nat)<=aI by decide) Qg Qf)) (ih ((ew.mpr (by assumption))))) (Kt (by decide +kernel) (eZ _ ((Int.ofNat_ne_zero.mpr (c7 (by assumption))))) ?_));rw[hi];show f5[((c/64%N).toNat+k)%N]?=_;simp[List.getD,f1,show((c/64%N).toNat+k)%N<36 by grind]
 refine(am ek).trans ?_;refine(am (fJ (hJ (m:=.append) (x:=.ref σ.length) (ac:=σ++[.lst (acc.map .str)]) rfl (ng (.inl rfl)) (y:=.str (jU p q N (c/64%N).toNat k)) (ar:=σ++[.lst (acc.map .str)]) ?_ (Cz (by rw[be];(exact aH (by assumption) (by decide))))))).trans (by rw[bX,eu];rfl);generalize σ++[aW.lst (acc.map .str)]=S;have hp:Txt.mul "m" (p:Int)=⟨(List.replicate p 109).toArray⟩:=Str.ext' (Array.toList_inj.mp (by rw[Jk]))
 have hq:Txt.mul "m" (((p+1+q:Nat):Int)-1-p)=⟨(List.replicate q 109).toArray⟩:=by
  rw[show((p+1+q:Nat):Int)-1-p=(q:Int) by grind];exact Str.ext' (Array.toList_inj.mp (by rw[Jk]))
 refine cS (cS (cS (x:=.str "m") (y:=.int p) (ac:=S) (ar:=S) rfl rfl (Jl ((d3 _)) (by grind))) (y:=.str ⟨#[f5.getD (((c/64%N).toNat+k)%N) 0]⟩) (ar:=S) rfl (add_str ?_)) (cS (x:=.str "m") (ac:=S) rfl rfl (Jl (by grind) (by grind))) ?_
 ·rw[hp,eV];show(List.replicate p 109).toArray.size+1<=_;simp;(grind)
 ·rw[hp,hq,add_str]
  ·congr 1;refine congrArg H.str (Str.ext' ?_);simp[Str.cps_append,jU,jk]
  ·rw[Str.length_append,eV];show(List.replicate p 109).toArray.size+1+(List.replicate q 109).toArray.size<=_;simp;(exact aH (by assumption) (by decide))
theorem R6{c:Int}{p q N:Nat}(hs:p+1+q<=8)(au:(p=0/\N=26)\/(0<p/\N=36)):∀(n k:Nat) (acc:List Str) (y z:Option H),acc.length=k->k+n<=24->∃b9 bV,
  cj none (dM 2) (fun ρ σ=>ex (CC d) topN yl ρ σ) ((List.range' k n).map fun(i:Nat)=>H.int i) (fS (af c) (a1 "abcdefghijklmnopqrstuvwxyz0123456789") y (af ((p+1+q:Nat):Int)) (af p) (aR σ.length) z) (σ++[.lst (acc.map .str)]) =
   .next (fS (af c) (a1 "abcdefghijklmnopqrstuvwxyz0123456789") b9 (af ((p+1+q:Nat):Int)) (af p) (aR σ.length) bV) (σ++[.lst ((acc++(List.range' k n).map (jU p q N (c/64%N).toNat)).map .str)]):=by
 intro n
 induction n with
 | zero =>
  intro k acc y z _ _;exact⟨y,z,by simpa using eP⟩
 | succ n aj =>
  intro k acc y z L O;obtain⟨b9,bV,aj⟩:=aj (k+1) (acc++[jU p q N (c/64%N).toNat k]) (af k) (a1 ⟨#[f5.getD (((c/64%N).toNat+k)%N) 0]⟩) (by rw[cW,L];rfl) (by grind);refine⟨b9,bV,?_⟩;rw[List.range'_succ,dD];refine(eh (bU:=fS (af c) (a1 "abcdefghijklmnopqrstuvwxyz0123456789") (af k) (af ((p+1+q:Nat):Int)) (af p) (aR σ.length) z) rfl (W4 hs au acc (by grind))).trans (aj.trans ?_);simp[eY]
theorem OF(c:Int):∃names:List Str,names.length=24/\names.Nodup/\(∀n∈names,gR n)/\(∀n∈names,jI n) ∧
  ((∀d,bB PP topN (d+1) sb [.int c] []=.ok (.fl (names.map .str)) [])\/(∀d,bB PP topN (d+1) sb [.int c] []=.ok (.ref 0) [.lst (names.map .str)])):=by
 have t0:∀d,tst (CC d) (.cmp (.bin .mod (.v 0) (ae 9)) .eq (ae 8)) (fS (af c) none none none none none none) []=.ok (c%9 == 8) []:=fun d =>
  b4 rfl (y:=.int 8) (ar:=[]) rfl lN
 have fin:∀{d:Nat} {v:H} {ρ:az} {σ:aa},ex (CC d) topN uz.body (fS (af c) none none none none none none) []=.ret v ρ σ->bB PP topN (d+1) sb [.int c] []=.ok v σ:=fun{d v ρ σ} h=>by
  rw[cC (fn:=uz) rfl rfl];show bg (ex (CC d) topN uz.body (fS (af c) none none none none none none) [])=_;rw[h];rfl
 by_cases Hs:c%9=8
 ·have fY:=eZ (c/9) (show(12:Int)≠0 by decide);have n1:=fU (c/9) (show(0:Int)<12 by decide);have g:=SV (c/9%12).toNat (Br (n:=12) fY n1);rw[eB]at g;refine⟨qq (c/9%12).toNat,by simp[qq],Ti g.1,fun n hn=>AE (fI.mp g.2 n hn),fun n hn=>fI.mp (SW (c/9%12).toNat (Br (n:=12) fY n1)) n hn,.inl fun d=>fin (bf (a:=yk) ((cz (σ':=[]) ((t0 d).trans (by rw[Hs];rfl))).trans ((am (ρ':=fS (af c) (some (.fl (mq.map .str))) none none none none none) (σ':=[]) rfl).trans (bf (cH SU)))))⟩
 ·have pH:=eZ c (show(8:Int)≠0 by decide);have aA:=fU c (show(0:Int)<8 by decide);have c8:(0:Int)<1+c%8:=Int.lt_of_lt_of_le (by decide) (Int.le_add_of_nonneg_right pH);have dU:=eZ (c/8) (Int.ne_of_gt c8);have b1:=fU (c/8) c8;refine aL (kc dU) fun p hp=>?_;refine aL (kc pH) fun e he=>?_;rw[hp,he]at b1;rw[he]at aA;have HZ:p<1+e:=ew.mp b1;rw[Nat.add_comm]at HZ
  have hq:1+c%8=((p+1+(e-p):Nat):Int):=by
   rw[he,Nat.add_right_comm,Nat.add_sub_cancel' (Nat.le_of_lt_succ HZ),Nat.add_comm];rfl
  generalize e-p=q at hq
  have hs:p+1+q<=8:=by rw[he]at hq;exact(Int.ofNat.inj hq:1+e=p+1+q)▸Nat.add_le_add_left (Nat.le_of_lt_succ (ew.mp aA)) 1
  obtain⟨N,au⟩:∃N:Nat,(p=0/\N=26)\/(0<p/\N=36):=by
   rcases Nat.eq_zero_or_pos p with q | q
   ·exact⟨26,.inl ⟨q,rfl⟩⟩
   ·exact⟨36,.inr ⟨q,rfl⟩⟩
  have Ho:=SX (b:=(c/64%N).toNat) hs au;refine⟨ni p q N (c/64%N).toNat,by simp[ni],Ho.1,Ho.2,SY,.inr fun d=>?_⟩;obtain⟨b9,bV,hl⟩:=R6 (d:=d) (σ:=[]) (c:=c) hs au 24 0 [] none none rfl (by decide);refine fin (ρ:=fS (af c) (a1 "abcdefghijklmnopqrstuvwxyz0123456789") b9 (af ((p+1+q:Nat):Int)) (af p) (aR 0) bV) ?_
  have bK:ex (CC d) topN yk (fS (af c) none none none none none none) []=.next (fS (af c) none none none none none none) []:=(bC (σ':=[]) ((t0 d).trans (by rw[show(c%9 == 8)=false from kR.mpr Hs])))
  have V:ex (CC d) topN E3 (fS (af c) none none none none none none) []=.next (fS (af c) none none (af ((p+1+q:Nat):Int)) none none none) []:=by
   refine bH ((cS (x:=.int 1) (ac:=[]) rfl rfl add_int).trans ?_);rw[hq]
  have ak:ex (CC d) topN E4 (fS (af c) none none (af ((p+1+q:Nat):Int)) none none none) []=.next (fS (af c) none none (af ((p+1+q:Nat):Int)) (af p) none none) []:=by
   refine bH ((cS rfl (y:=.int ((p+1+q:Nat):Int)) (ar:=[]) rfl (ih (by grind))).trans ?_);rw[<- hq,hp]
  have kX:ex (CC d) topN E5 (fS (af c) (a1 "abcdefghijklmnopqrstuvwxyz0123456789") none (af ((p+1+q:Nat):Int)) (af p) (aR 0) none) [.lst []] =
    .next (fS (af c) (a1 "abcdefghijklmnopqrstuvwxyz0123456789") b9 (af ((p+1+q:Nat):Int)) (af p) (aR 0) bV) [.lst ((ni p q N (c/64%N).toNat).map .str)]:=by
   refine eO (ys:=(List.range' 0 24).map fun(i:Nat)=>H.int i) (ac:=[.lst []]) ((qz (n:=24) (by decide) rfl).trans ?_) (hl.trans ?_)
   ·have:dh 0 1 24=(List.range' 0 24).map fun(i:Nat)=>H.int i:=by
     unfold dh;rw[kQ];refine List.map_congr_left fun i J=>?_;congr 1;(grind)
    rw[this]
   ·simp[ni,kQ]
  exact(am bK).trans ((am V).trans ((am ak).trans (rfl.trans (rfl.trans ((am kX).trans rfl)))))
noncomputable abbrev wR(s nm many room pl k fr sp pick rule more nd gv wt md:Option H):az:=
 [s,af 0,nm,many,room,pl,k,fr,sp,pick,rule,more,nd,gv,wt,md,none,none,none,none,none,none,none,none,none,none]
structure nW where
 pk:Option H
 rl:Option H
 mr:Option H
 nd:Option H
 gv:Option H
 wt:Option H
 md:Option H
noncomputable def gb(aK:aa)(l:List Int)(b6:H)(many room:Option H)(cw:List Str)(k:Option H)(v:nW):az:=wR (some (.fl (l.map .int))) (some b6) many room (aR aK.length) k (aR (aK.length+1)) (some (.fl (cw.map .str))) v.pk v.rl v.mr v.nd v.gv v.wt v.md
noncomputable abbrev bt(aK:aa)(p:List H)(f:List Str):aa:=aK++[.lst p,.lst (f.map .str)]
theorem Dn:∀(f:List Str) (i:Nat),(f.map H.str).eraseIdx i=(f.eraseIdx i).map .str
 | [],_=>rfl
 | _::_,0=>rfl
 | x::f,i+1=>by
  show H.str x::(f.map H.str).eraseIdx i=H.str x::(f.eraseIdx i).map .str;rw[Dn f i]
theorem Do:∀(f:List Str) (i:Nat) (h:i<f.length),(f[i]::f.eraseIdx i).Perm f
 | [],_,h=>(nomatch h)
 | _::_,0,_=>.refl _
 | x::f,i+1,h=>by
  have hi:i<f.length:=by simpa using h
  have:=Do f i hi;show(f[i]'hi::x::f.eraseIdx i).Perm (x::f);exact(List.Perm.swap x _ _).trans (.cons x this)
theorem tz{p:List H}{f:List Str}:(bt aK p f)[aK.length+1]?=some (.lst (f.map .str)):=by simp[bt,h4]
theorem ri{p:List H}{f:List Str}:(bt aK p f)[aK.length]?=some (.lst p):=by simp[bt,h4]
theorem IZ{p:List H}{f:List Str}(h:f.length<=100):dk .len (.ref (aK.length+1)) (bt aK p f)=.ok (.int f.length) (bt aK p f):=by
 have hs:el (bt aK p f) (.ref (aK.length+1))=some (f.map .str):=by unfold el;dsimp only;rw[tz]
 rw[I0 hs (fun J q=>by cases q) (mo h),be]
theorem T1{p:List H}{f:List Str}{i:Int}(h:f.length<=100)(h0:0<=i)(hx:f[i.toNat]?=some x) :
  i2 .pop (.ref (aK.length+1)) [.int i] (bt aK p f)=.ok (.str x) (bt aK p (f.eraseIdx i.toNat)):=by
 show sF (.ref (aK.length+1)) (.int i) (bt aK p f)=_;unfold sF;dsimp only;rw[tz];dsimp only;rw[aD ⟨h0,mo h⟩,fH,hx];dsimp only[Option.map_some];congr 1
 have e:bt aK p f=(aK++[.lst p])++[.lst (f.map .str)]:=by simp[bt]
 rw[e,List.set_append_right _ _ (by simp)];simp[bt,Dn]
theorem MQ{f:H->aa->ah (Option H)}{x v:H}(L:f x σ=.ok (some v) ac)(O:dW none f xs ac=.ok ys ar):dW none f (x::xs) σ=.ok (v::ys) ar:=by
 refine(aD trivial).trans ?_;rw[L];show(dW none f xs ac).bind _=_;rw[O];rfl
theorem M3{p:List H}{more:Int}:∀(qb:List Nat) (f:List Str),qb.length<=f.length->f.length<=100->∃made ox,made.length=qb.length/\(made++ox).Perm f ∧
  dW none (fun x σ=>(tst (CC (d+1)) (.k (.bool true)) (([none,none,none,none,aR (aK.length+1),af more]:az).set 1 (some x)) σ).bind fun b σ=>if b then(ev (CC (d+1)) (.me .pop (.v 4) #v[(.bin .mod (.call js #v[(.bin .add (.bin .add (.v 5) (.bin .mul (ae 31) (.v 1))) (ae 5))]) (.b1 .len (.v 4)))]) (([none,none,none,none,aR (aK.length+1),af more]:az).set 1 (some x)) σ).bind fun v σ=>.ok (some v) σ else .ok none σ) (qb.map fun(j:Nat)=>H.int j) (bt aK p f) =
   .ok (made.map .str) (bt aK p ox):=by
 intro qb
 induction qb with
 | nil=>intro f _ _;exact⟨[],f,rfl,.refl _,aD trivial⟩
 | cons j qb aj =>
  intro f L O
  have bc:0<f.length:=by rw[dy]at L;(grind)
  have fY:=eZ (ej (more+31*j+5)) (show((f.length:Nat):Int)≠0 by(exact Int.ofNat_ne_zero.mpr (c7 (by assumption))));have n1:=fU (ej (more+31*j+5)) (show(0:Int)<((f.length:Nat):Int) by(exact ew.mpr (by assumption)))
  have hi:(ej (more+31*j+5)%((f.length:Nat):Int)).toNat<f.length:=by grind
  generalize bd:(ej (more+31*j+5)%((f.length:Nat):Int)).toNat=i at hi
  have hx:f[i]?=some f[i]:=by simp[hi]
  obtain⟨made,ox,a0,cx,jt⟩:=aj (f.eraseIdx i) (by rw[List.length_eraseIdx,aD hi];rw[dy]at L;(grind)) (aH (List.length_eraseIdx_le f i) O);refine⟨f[i]::made,ox,by rw[dy,a0,dy],?_,?_⟩
  ·rw[List.cons_append];exact(List.Perm.cons _ cx).trans (Do f i hi)
  ·have e:ev (CC (d+1)) (.me .pop (.v 4) #v[(.bin .mod (.call js #v[(.bin .add (.bin .add (.v 5) (.bin .mul (ae 31) (.v 1))) (ae 5))]) (.b1 .len (.v 4)))]) (([none,none,none,none,aR (aK.length+1),af more]:az).set 1 (af j)) (bt aK p f)=.ok (.str f[i]) (bt aK p (f.eraseIdx i)):=by
    refine hJ (m:=.pop) (x:=.ref (aK.length+1)) (ac:=bt aK p f) rfl ?_ (y:=.int (ej (more+31*j+5)%((f.length:Nat):Int))) (ar:=bt aK p f) ?_ ?_
    ·show iZ (.ref (aK.length+1)) (bt aK p f)=true;unfold iZ;dsimp only;rw[tz]
    ·exact cS (d8 rfl lV) (cZ (x:=.ref (aK.length+1)) (ac:=bt aK p f) rfl (IZ O)) (ih ((ew.mpr (by assumption))))
    ·rw[T1 O fY (by rw[bd];exact hx),bd]
   refine MQ (ac:=bt aK p (f.eraseIdx i)) ?_ jt;show((ev _ _ _ _).bind fun v σ=>ah.ok (some v) σ)=_;rw[e];rfl
theorem Xi{more:Int}{nd:Nat}(hs:1<=cw.length)(hl:cw.length<=100)(hn:nd<=4){s nm pl k fr pick rule gv wt md:Option H} :
  ∃jb:List Str,jb.length=nd/\(∀w∈jb,w∈cw)/\ev (CC (d+1)) Fe (wR s nm many room pl k fr (some (.fl (cw.map .str))) pick rule (af more) (af nd) gv wt md) σ=.ok (.fl (jb.map .str)) σ:=by
 have hO:=mo hl;refine⟨(List.range nd).map fun(j:Nat)=>cw.getD (ej (more+7*(j:Int))%((cw.length:Nat):Int)).toNat "",by simp,fun w hw=>?_,?_⟩
 ·refine ay (ci.mp hw) fun j a5 ag=>?_;obtain rfl:=ag;have fY:=eZ (ej (more+7*j)) (show((cw.length:Nat):Int)≠0 by(exact Int.ofNat_ne_zero.mpr (c7 (by assumption))));have n1:=fU (ej (more+7*j)) (show(0:Int)<((cw.length:Nat):Int) by(exact ew.mpr (by assumption)))
  have hi:(ej (more+7*j)%((cw.length:Nat):Int)).toNat<cw.length:=by grind
  have:cw.getD (ej (more+7*j)%((cw.length:Nat):Int)).toNat "" = cw[(ej (more+7*j)%((cw.length:Nat):Int)).toNat]:=by simp[List.getD,hi]
  rw[this];exact List.getElem_mem hi
 ·refine(lI (fun x=>match x with | .int i=>.str (cw.getD (ej (more+7*i)%((cw.length:Nat):Int)).toNat "") | _=>.none) (qz (n:=nd) ((aH (by assumption) (by decide))) rfl) (by rw[show(dh 0 1 nd).length=nd by simp[dh]];exact aH hn (by decide)) fun x hx=>?_).trans (by rw[A2 (f:=fun(j:Nat)=>cw.getD (ej (more+7*(j:Int))%((cw.length:Nat):Int)).toNat "") fun k hk=>rfl]);refine ay (A3 hx) fun j a5 ag=>?_;obtain rfl:=ag;have fY:=eZ (ej (more+7*j)) (show((cw.length:Nat):Int)≠0 by(exact Int.ofNat_ne_zero.mpr (c7 (by assumption))));have n1:=fU (ej (more+7*j)) (show(0:Int)<((cw.length:Nat):Int) by(exact ew.mpr (by assumption)))
  have hi:(ej (more+7*j)%((cw.length:Nat):Int)).toNat<cw.length:=by grind
  have c0:dk .len (.fl (cw.map .str)) σ=.ok (.int cw.length) σ:=by rw[Al hO,be]
  refine cG (x:=.fl (cw.map .str)) (ac:=σ) rfl (cS (d8 rfl lV) (cZ (x:=.fl (cw.map .str)) (ac:=σ) rfl c0) (ih ((ew.mpr (by assumption))))) (j1 hO fY ?_);rw[fH];simp[List.getD,hi]
noncomputable def c2.head:c2->Str
 | .word w=>w
 | .fixed _ => "fixed"
noncomputable def mY(more:Int):Nat:=[1,1,1,2,3].getD (more/4%5).toNat 1
theorem Hg(more:Int):([H.int 1,.int 1,.int 1,.int 2,.int 3])[(more/4%5).toNat]?=af (mY more)/\1<=mY more/\mY more<=3:=by
 have fY:=eZ (more/4) (show(5:Int)≠0 by decide);have n1:=fU (more/4) (show(0:Int)<5 by decide);unfold mY;generalize more/4%5=x at fY n1;refine vp (n:=5) (P:=fun x=>([H.int 1,.int 1,.int 1,.int 2,.int 3])[x.toNat]?=af ([1,1,1,2,3].getD x.toNat 1:Nat)/\1<=[1,1,1,2,3].getD x.toNat 1/\[1,1,1,2,3].getD x.toNat 1<=3) ?_ fY n1;refine fy (fy (fy (fy (fy tw ?_) ?_) ?_) ?_) ?_ <;> exact⟨rfl,by decide,by decide⟩
theorem HL{r:c2}(h:je r):f6 r.pv (.int 0) σ=.ok (.str r.head) σ:=by cases h <;> rfl
structure wO(r:c2)(more:Int)(nd gv:Nat):Prop where
 n1:1<=nd
 n4:nd<=4
 g1:1<=gv
 g3:gv<=3
 ok:∀g:Nat,((r.head == ("way" : Str))=true->g=2)->fv r nd g
 way:(r.head == ("way" : Str))=true->gv=2
 nd_eq:(i8 r.head ((["way", "choose"]:List Str).zip [.int 2,.int 3])).getD (.int (if(r.head == ("later" : Str))=true then 1 else 1+more%4))=.int nd
 gv_eq:(i8 r.head ((["way"]:List Str).zip [.int 2])).getD (.int (mY more))=.int gv
theorem Rr{r:c2}(h:je r)(more:Int):∃nd gv,wO r more nd gv:=by
 have qh:=eZ more (show(4:Int)≠0 by decide);have a0:=fU more (show(0:Int)<4 by decide);refine dN (Hg more) fun J g1 g3=>?_
 have hn:(1+more%4)=(((1+more%4).toNat:Nat):Int):=by grind
 have sy:∀(r:c2),(r.head == ("way" : Str))=false->(r.head == ("later" : Str))=false->(∀n g,fv r n g)->i8 r.head ((["way", "choose"]:List Str).zip [H.int 2,.int 3])=none->i8 r.head ((["way"]:List Str).zip [H.int 2])=none->∃nd gv,wO r more nd gv:=by
  intro r a b c e f;refine⟨(1+more%4).toNat,mY more,by grind,by grind,g1,g3,fun g J=>c _ _,fun q=>(by rw[a]at q;cases q),?_,?_⟩
  ·rw[e,b];show H.int (1+more%4)=_;rw[<- hn]
  ·rw[f];rfl
 cases h with
 | sum=>exact sy _ (by decide +kernel) (by decide +kernel) (fun n g=>.sum n g) rfl rfl
 | times=>exact sy _ (by decide +kernel) (by decide +kernel) (fun n g=>.times n g) rfl rfl
 | least=>exact sy _ (by decide +kernel) (by decide +kernel) (fun n g=>.least n g) rfl rfl
 | most=>exact sy _ (by decide +kernel) (by decide +kernel) (fun n g=>.most n g) rfl rfl
 | fixed v fm aX=>exact sy _ (show(("fixed" : Str) == "way")=false by decide +kernel) (show(("fixed" : Str) == "later")=false by decide +kernel) (fun n g=>.fixed v n g fm aX) rfl rfl
 | later =>
  refine⟨1,mY more,by decide,by decide,g1,g3,fun g J=>.later g,fun q=>(by rw[show(c2.head (.word "later") == ("way" : Str))=false by decide +kernel]at q;cases q),?_,rfl⟩;rw[show(c2.head (.word "later") == ("later" : Str))=true by decide +kernel];rfl
 | way=>exact⟨2,2,by decide,by decide,by decide,by decide,fun g hg=>by rw[hg (by decide +kernel)];exact .way,fun J=>rfl,rfl,rfl⟩
 | choose=>exact⟨3,mY more,by decide,by decide,g1,g3,fun g J=>.choose g,fun q=>(by rw[show(c2.head (.word "choose") == ("way" : Str))=false by decide +kernel]at q;cases q),rfl,rfl⟩
theorem Je(a b:Nat):min (a:Int) (b:Int)=((min a b:Nat):Int):=by
 rcases Nat.le_total a b with h | h
 ·rw[Int.min_eq_left (Int.ofNat_le.mpr h),Nat.min_eq_left h]
 ·rw[Int.min_eq_right (Int.ofNat_le.mpr h),Nat.min_eq_right h]
theorem Oh(hl:l.length<=63){k fl:Nat}{v:nW}{S:aa}(bc:dk .len (.ref (aK.length+1)) S=.ok (.int (fl:Nat)) S) :
  ∃(pick more:Int) (r:c2) (n g:Nat),je r/\wO r more n g/\∀rest,ex (CC (d+2)) topN (.cons yt (.cons yu (.cons yv (.cons yw (.cons yx (.cons yy (.cons yz rest)))))))
   (gb aK l b6 many room cw (af (k:Nat)) v) S=ex (CC (d+2)) topN rest (gb aK l b6 many room cw (af (k:Nat)) ⟨af pick,some r.pv,af more,af (n:Nat),af ((min g fl:Nat):Int),v.wt,v.md⟩) S:=by
 have bK:ev (CC (d+2)) (.call js #v[(.bin .add (.call g6 #v[(.v 0),(.bin .add (.bin .add (.v 1) (ae 3)) (.bin .mod (.v 6) (ae 8)))]) (.bin .mul (ae 977) (.v 6)))]) (gb aK l b6 many room cw (af (k:Nat)) v) S=_:=
  d8 (cS (jl (x:=.fl (l.map .int)) (y:=.int ((3+k%8:Nat):Int)) (ac:=S) (ar:=S) rfl (by rw[Int.natCast_add,Int.natCast_emod];rfl) (uR (d:=d+1) hl)) (y:=.int (977*(k:Int))) (ar:=S) rfl add_int) (lV (d:=d+1))
 generalize ej (l.getD (3+k%8) 0+977*(k:Int))=pick at bK;refine ay (OG (p:=ej pick) (eZ (pick/5) (show(12:Int)≠0 by decide)) (fU (pick/5) (show(0:Int)<12 by decide))) fun r r3 Qd=>?_;have ak:=fun{σ:aa}=>lV (d:=d+1) (σ:=σ) (p:=pick+1);generalize ej (pick+1)=more at ak;refine jm (Rr r3 more) fun n g K=>?_;have hd:∀{ρ:az},ev (CC (d+2)) (.v 10) ρ S=.ok r.pv S->ev (CC (d+2)) (.sub (.v 10) (ae 0)) ρ S=.ok (.str r.head) S:=fun h=>cG h (y:=.int 0) (ar:=S) rfl (HL r3)
 have QD:∀b:Bool,f6 (.fl [.int (1+more%4),.int 1]) (.int (if b then 1 else 0)) S=.ok (.int (if b=true then 1 else 1+more%4)) S:=fun b=>by cases b <;> rfl
 refine⟨pick,more,r,n,g,r3,K,fun rest=>?_⟩;refine dc (am (a:=yt) (bH bK)) ?_;refine dc (am (a:=yu) (bH (jl (d8 (x:=.int pick) (ac:=S) rfl lV) (y:=.int (pick/5%12)) (ar:=S) rfl Qd))) ?_;refine dc (am (a:=yv) (bH (d8 (x:=.int (pick+1)) (ac:=S) rfl ak))) ?_;refine dc (am (a:=yw) (bH (cG (x:=.fl [.int (1+more%4),.int 1]) (ac:=S) rfl (cZ (eE (hd rfl) (y:=.str "later") (ar:=S) rfl pT) int_bool) (QD _)))) ?_;refine dc (am (a:=yx) (bH ((Dc (hd rfl) (y:=.int (if(r.head == ("later" : Str))=true then 1 else 1+more%4)) (ar:=S) rfl).trans (congrArg (fun x=>ah.ok x S) K.nd_eq)))) ?_;refine dc (am (a:=yy) (bH ((Dc (hd rfl) (cG (x:=.fl [.int 1,.int 1,.int 1,.int 2,.int 3]) (ac:=S) rfl (y:=.int (more/4%5)) (ar:=S) rfl (j1 (show(5:Nat)<=aI by decide) (eZ (more/4) (show(5:Int)≠0 by decide)) (Hg more).1))).trans (congrArg (fun x=>ah.ok x S) K.gv_eq)))) ?_;exact dc (am (a:=yz) (bH (Dd (x:=.int (g:Nat)) (ac:=S) rfl (cZ (x:=.ref (aK.length+1)) (ac:=S) rfl bc) (congrArg (fun x=>ah.ok (H.int x) S) (Je g fl))))) rfl
theorem W3(hl:l.length<=63){names free:List Str}{steps:List aq}(hk:steps.length<20)
  (fh:∀τ (i:Nat),i<24->f6 b6 (.int i) (aK++τ)=.ok (.str (names.getD i "")) (aK++τ)) (lX:1<=cw.length) (zY:cw.length<=100) (zI:free.length<=100)
  (oL:∀i,i<24->gR (names.getD i "")) (zZ:∀n∈cw,gR n) (Pz:∀n∈free,gR n) (oM:free.Nodup) (v:nW) :
  ∃c6:nW,
   (ex (CC (d+2)) topN uD (gb aK l b6 many room cw (af steps.length) v) (bt aK (steps.map aq.pv) free) =
    .brk (gb aK l b6 many room cw (af steps.length) c6) (bt aK (steps.map aq.pv) free)) ∨
   ∃s fA,gV s/\s.name=names.getD (23-steps.length) "" /\ (s.gives++fA).Perm free ∧
    ex (CC (d+2)) topN uD (gb aK l b6 many room cw (af steps.length) v) (bt aK (steps.map aq.pv) free) =
    .next (gb aK l b6 many room cw (af steps.length) c6) (bt aK ((steps++[s]).map aq.pv) fA):=by
 obtain⟨pick,more,r,n,g,r3,K,zd⟩:=Oh (d:=d) (aK:=aK) hl (cw:=cw) (b6:=b6) (many:=many) (room:=room) (k:=steps.length) (v:=v) (IZ (p:=steps.map aq.pv) zI);have gl:min g free.length<=free.length:=Nat.min_le_right _ _;have zi:min g free.length<=g:=Nat.min_le_left _ _;generalize min g free.length=gg at zd gl zi;have Hc:gg<=100:=aH gl zI
 have cond:tst (CC (d+2)) (.or #v[(.cmp (.v 13) .eq (ae 0)),(.and #v[(.cmp (.sub (.v 10) (ae 0)) .eq (.k (.str "way"))),(.cmp (.v 13) .lt (ae 2))])]) (gb aK l b6 many room cw (af steps.length) ⟨af pick,some r.pv,af more,af (n:Nat),af (gg:Nat),v.wt,v.md⟩) (bt aK (steps.map aq.pv) free)=.ok (((gg:Int) == 0)||((r.head == ("way" : Str))&&decide ((gg:Int)<2))) (bt aK (steps.map aq.pv) free):=
  ik (sT (q:=(gg:Int) == 0) (ac:=bt aK (steps.map aq.pv) free) rfl fun J=>i9 (jw (nE (b4 (cG (x:=r.pv) (y:=.int 0) (ac:=bt aK (steps.map aq.pv) free) (ar:=bt aK (steps.map aq.pv) free) rfl rfl (HL r3)) (y:=.str "way") (ar:=bt aK (steps.map aq.pv) free) rfl pT) fun J=>kH rfl)))
 cases hb:(((gg:Int) == 0)||((r.head == ("way" : Str))&&decide ((gg:Int)<2)))with
 | true =>
  rw[hb]at cond;exact⟨_,.inl ((zd _).trans (NG (a:=yA) ((cz cond).trans rfl)))⟩
 | false =>
  rw[hb]at cond;refine aS (Bool.or_eq_false_iff.mp hb) fun kp hb2=>?_;have OB:1<=gg:=Nat.pos_of_ne_zero fun q=>kR.mp kp (by rw[q];rfl)
  have OD:(r.head == ("way" : Str))=true->gg=2:=fun q=>by
   rw[q,Bool.true_and]at hb2;exact Nat.le_antisymm (K.way q▸zi) (Int.ofNat_le.mp (Int.not_lt.mp (of_decide_eq_false hb2)))
  refine bu (Xi (d:=d+1) (σ:=bt aK (steps.map aq.pv) free) (more:=more) lX zY K.n4 (s:=some (.fl (l.map .int))) (nm:=some b6) (many:=many) (room:=room) (pl:=aR aK.length) (k:=af steps.length) (fr:=aR (aK.length+1)) (pick:=af pick) (rule:=some r.pv) (gv:=af (gg:Nat)) (wt:=v.wt) (md:=v.md)) fun jb wr Xr Qt=>?_;refine jn (M3 (d:=d+1) (aK:=aK) (p:=steps.map aq.pv) (more:=more) (List.range' 0 gg) free (by rw[List.length_range'];exact gl) zI) fun made fA dl dp Pp=>?_;rw[List.length_range']at dl
  have hr:dh 0 1 gg=(List.range' 0 gg).map fun(j:Nat)=>H.int j:=by
   unfold dh;rw[kQ];exact List.map_congr_left fun i J=>by rw[Int.mul_one,Int.zero_add]
  have pQ:ev (CC (d+2)) Ff (gb aK l b6 many room cw (af steps.length) ⟨af pick,some r.pv,af more,af (n:Nat),af (gg:Nat),some (.fl (jb.map .str)),v.md⟩) (bt aK (steps.map aq.pv) free)=.ok (.fl (made.map .str)) (bt aK (steps.map aq.pv) fA):=by
   show ev (CC (d+2)) (.comp true 1 _ _ _ _) _ _=_;rw[kZ,show(CC (d+2)).hd=false from rfl,qz (n:=gg) Hc rfl,cn,hr];exact(congrArg (fun o:ah (List H)=>ib ((List.range' 0 gg).map fun(j:Nat)=>H.int j).length o fun ys σ=>eW true ys σ) Pp).trans (nc (mo (by rw[dl];exact Hc)))
  have K2:jb.length<=4:=wr▸K.n4;have C7:made.length<=3:=dl▸aH zi K.g3;have Rm:23-((steps.length:Nat):Int)=((23-steps.length:Nat):Int):=(Int.ofNat_sub (aH (h6 hk) (by decide))).symm
  have rq:ex (CC (d+2)) topN Fk (gb aK l b6 many room cw (af steps.length) ⟨af pick,some r.pv,af more,af (n:Nat),af (gg:Nat),some (.fl (jb.map .str)),some (.fl (made.map .str))⟩) (bt aK (steps.map aq.pv) fA)=.next (gb aK l b6 many room cw (af steps.length) ⟨af pick,some r.pv,af more,af (n:Nat),af (gg:Nat),some (.fl (jb.map .str)),some (.fl (made.map .str))⟩) (bt aK ((steps++[aq.mk (names.getD (23-steps.length) "") r jb made]).map aq.pv) fA):=by
   refine fJ (hJ (m:=.append) (x:=.ref aK.length) (ac:=bt aK (steps.map aq.pv) fA) rfl (ng (.inl rfl)) (y:=aq.pv (aq.mk (names.getD (23-steps.length) "") r jb made)) (ar:=bt aK (steps.map aq.pv) fA) (lL (vs:=[.str (names.getD (23-steps.length) ""),r.pv,.tup (jb.map .str),.tup (made.map .str)]) (eI (cG (x:=b6) (y:=.int (23-((steps.length:Nat):Int))) (ac:=bt aK (steps.map aq.pv) fA) (ar:=bt aK (steps.map aq.pv) fA) rfl rfl (Rm▸fh _ _ (gX (Nat.sub_le _ _) (by decide)))) (eI (x:=r.pv) (ac:=bt aK (steps.map aq.pv) fA) rfl (eI (cZ (x:=.fl (jb.map .str)) (ac:=bt aK (steps.map aq.pv) fA) rfl (KP (mo (aH K2 (by decide))))) (eI (cZ (x:=.fl (made.map .str)) (ac:=bt aK (steps.map aq.pv) fA) rfl (KP (mo (aH C7 (by decide))))) rfl)))) (show(4:Nat)<=aI by decide)) ?_);show kf (.ref aK.length) _ _=_;have iW:(bt aK (steps.map aq.pv) fA)[aK.length]?=some (.lst (steps.map aq.pv)):=ri;unfold kf;dsimp only;rw[iW];dsimp only;rw[aD (by rw[be];exact aH (Nat.succ_le_of_lt hk) (by decide)),eu];show ah.ok H.none ((aK++[aW.lst (steps.map aq.pv),.lst (fA.map .str)]).set aK.length _)=_;rw[List.set_append_right _ _ (dA _),Nat.sub_self];rfl
  refine⟨_,.inr ⟨⟨names.getD (23-steps.length) "",r,jb,made⟩,fA,⟨oL _ (gX (Nat.sub_le _ _) (by decide)),fun w hw=>zZ w (Xr w hw),wr.symm▸K.n1,K2,fun w hw=>Pz w (dp.subset (gW _ hw)),dl.symm▸OB,C7,(gC.mp (dp.nodup_iff.mpr oM)).1,?_⟩,rfl,dp,(zd _).trans ((am (a:=yA) (bC cond)).trans ((am (a:=Fl) (bH Qt)).trans ((am (a:=Fm) (bH pQ)).trans ((am rq).trans bX))))⟩⟩;show fv r jb.length made.length;exact wr.symm▸dl.symm▸(K.ok gg OD)
structure py(names:List Str)(steps:List aq)(free:List Str):Prop where
 ok:∀s∈steps,gV s
 nm:steps.map (·.name)=(List.range steps.length).map fun j=>names.getD (23-j) ""
 nd:(steps.flatMap (·.gives)++free).Nodup
 fr:∀n∈free,gR n
 len:free.length<=100
 fp:∀n∈free,jI n
 gp:∀s∈steps,∀g∈s.gives,jI g
theorem R5(hl:l.length<=63){names:List Str}
  (fh:∀τ (i:Nat),i<24->f6 b6 (.int i) (aK++τ)=.ok (.str (names.getD i "")) (aK++τ)) (lX:1<=cw.length) (zY:cw.length<=100)
  (oL:∀i,i<24->gR (names.getD i "")) (zZ:∀n∈cw,gR n):∀(n:Nat) (steps:List aq) (free:List Str) (cb:Option H) (v:nW),steps.length+n<=20->py names steps free ->
  ∃(Bj:List aq) (fA:List Str) (IQ:Option H) (c6:nW),Bj.length<=20/\py names Bj fA ∧
   cj none (dM 6) (fun ρ σ=>ex (CC (d+2)) topN uD ρ σ) ((List.range' steps.length n).map fun(i:Nat)=>H.int i) (gb aK l b6 many room cw cb v) (bt aK (steps.map aq.pv) free) =
    .next (gb aK l b6 many room cw IQ c6) (bt aK (Bj.map aq.pv) fA):=by
 intro n
 induction n with
 | zero=>intro steps free cb v h I;exact⟨steps,free,cb,v,h,I,eP⟩
 | succ n aj =>
  intro steps free cb v h I;rw[List.range'_succ,dD];obtain⟨c6,T⟩:=W3 (d:=d) (aK:=aK) hl (many:=many) (room:=room) (steps:=steps) ((gX (gc _ _) (by assumption))) fh lX zY I.len oL zZ I.fr (gC.mp I.nd).2.1 v
  rcases T with T | ⟨s,fA,dS,sn,sp,T⟩
  ·exact⟨steps,free,af steps.length,c6,aH (gc _ _) h,I,Oa rfl T⟩
  ·have tb:py names (steps++[s]) fA:=by
    refine⟨fun x hx=>?_,?_,?_,fun x hx=>I.fr x (sp.subset (d7 _ hx)),?_,fun x hx=>I.fp x (sp.subset (d7 _ hx)),fun x hx g hg=>?_⟩
    ·rcases dt.mp hx with q | q
     ·exact I.ok x q
     ·rw[de.mp q];exact dS
    ·rw[eu,I.nm,cW,List.length_singleton,List.range_succ,eu,List.map_singleton,List.map_singleton,sn]
    ·have:((steps++[s]).flatMap (·.gives)++fA).Perm (steps.flatMap (·.gives)++free):=by
      rw[List.flatMap_append,eY];refine List.Perm.append_left _ ?_;simpa using sp
     exact this.nodup_iff.mpr I.nd
    ·have:=sp.length_eq;rw[cW]at this;have:=I.len
     (grind)
    ·rcases dt.mp hx with q | q
     ·exact I.gp x q g hg
     ·rw[de.mp q]at hg;exact I.fp g (sp.subset (gW _ hg))
   obtain⟨Vw,Oe,Rt,bz,q1,q2,q3⟩:=aj (steps++[s]) fA (af steps.length) c6 (by rw[cW,List.length_singleton];(grind)) tb;refine⟨Vw,Oe,Rt,bz,q1,q2,(eh rfl T).trans ?_⟩;rw[cW,List.length_singleton]at q3;exact q3
theorem sm{f:H->Option PyData}:∀{xs:List H},(∀x∈xs,∃d,f x=some d)->∃ds,xs.mapM f=some ds/\ds.length=xs.length
 | [],_=>⟨[],rfl,rfl⟩
 | x::xs,h=>by
  obtain⟨e,he⟩:=h x ((bi));refine ay (sm (xs:=xs) fun y hy=>h y (bM _ hy)) fun es Pr hl=>?_;exact⟨e::es,by rw[List.mapM_cons,he,Pr];rfl,by simp[hl]⟩
theorem Kz{m:Nat}(l:List Str):∃e,toD (m+2) σ (.tup (l.map .str))=some e:=by
 obtain⟨ds,h,_⟩:=sm (f:=toD (m+1) σ) (xs:=l.map .str) fun x hx=>by refine ay (ci.mp hx) fun w J ag=>?_;obtain rfl:=ag;exact⟨.str w,rfl⟩
 exact⟨.tuple ds,by show((l.map H.str).mapM (toD (m+1) σ)).map PyData.tuple=_;rw[h];rfl⟩
theorem Wb{m:Nat}(s:aq):∃e,toD (m+3) σ s.pv=some e:=by
 obtain⟨ds,h,_⟩:=sm (f:=toD (m+2) σ) (xs:=[.str s.name,s.rule.pv,.tup (s.needs.map .str),.tup (s.gives.map .str)]) fun x hx=>by
  simp only[b5,et,or_false]at hx
  rcases hx with q | q | q | q
  ·subst q;exact⟨.str s.name,rfl⟩
  ·subst q;cases s.rule with
   | word w=>exact⟨.tuple [.str w],rfl⟩
   | fixed v=>exact⟨.tuple [.str "fixed",.int v],rfl⟩
  ·subst q;exact Kz _
  ·subst q;exact Kz _
 exact⟨.tuple ds,by show(([H.str s.name,s.rule.pv,.tup (s.needs.map .str),.tup (s.gives.map .str)]).mapM (toD (m+2) σ)).map PyData.tuple=_;rw[h];rfl⟩
theorem Di{steps:List aq}(iW:σ[i]?=some (.lst (steps.map aq.pv))):cY .eq (.ref i) (.fl []) σ=.ok (decide (steps=[])) σ:=by
 obtain⟨ds,h,hl⟩:=sm (f:=toD 15 σ) (xs:=steps.map aq.pv) fun x hx=>by refine ay (ci.mp hx) fun s J ag=>?_;obtain rfl:=ag;exact Wb (m:=12) s
 have e:toD 16 σ (.ref i)=some (.list ds):=by
  show(match σ[i]? with | some (.lst xs)=>(xs.mapM (toD 15 σ)).map PyData.list | _=>none)=_;rw[iW];dsimp only;rw[h];rfl
 show ah.ofOpt (eqv σ (.ref i) (.fl [])) σ=_;unfold eqv;rw[e];show ah.ok (PyData.eqv (.list ds) (.list [])) σ=_;rw[be]at hl
 cases steps with
 | nil =>
  have:ds=[]:=hE hl;subst this;rfl
 | cons s steps =>
  cases ds with
  | nil=>(exact nomatch hl)
  | cons x ds=>rw[show decide (s::steps=[])=false from fx (by(intro q;exact nomatch q))];rfl
theorem uQ{names:List Str}(h:i<names.length):names.getD i "" = names[i]:=by rw[kP,dI h];rfl
theorem qg{names:List Str}(hl:names.length=24)(i:Nat):23-i<names.length:=hl▸gX (Nat.sub_le _ _) (by decide)
theorem QN{names:List Str}(hn:names.Nodup)(hl:names.length=24){steps:List aq}{free:List Str}(I:py names steps free)(L:1<=steps.length)(O:steps.length<=20):cs steps:=by
 refine⟨L,O,I.ok,?_,(gC.mp I.nd).1⟩;rw[I.nm,List.Nodup,List.pairwise_map];refine List.Pairwise.imp_of_mem ?_ (List.nodup_range (n:=steps.length));intro i j hi a5 dn e;have up:∀{i:Nat},i∈List.range steps.length->i<=23:=fun h=>aH (h6 (List.mem_range.mp h)) (aH O (by decide));rw[uQ (qg hl i),uQ (qg hl j)]at e;have e:=(List.getElem?_inj (qg hl i) hn).mp (show names[23-i]?=names[23-j]? by rw[dI (qg hl i),dI (qg hl j),e]);exact dn (by rw[<- Nat.sub_sub_self (up hi),e,Nat.sub_sub_self (up a5)])
theorem QM{names:List Str}(hl:names.length=24){steps:List aq}{free:List Str}(I:py names steps free){s:aq}(hs:s∈steps):s.name∈names:=by
 have h:s.name∈steps.map (·.name):=ci.mpr ⟨s,hs,rfl⟩;rw[I.nm]at h;refine ay (ci.mp h) fun j J e=>?_;exact e▸(uQ (qg hl j)).symm▸(List.getElem_mem _)
theorem S0{names:List Str}(hl:names.length=24){v:H}(h:(v=.fl (names.map .str)/\aK=[])\/(v=.ref 0/\aK=[.lst (names.map .str)])):∀τ (i:Nat),i<24->f6 v (.int i) (aK++τ)=.ok (.str (names.getD i "")) (aK++τ):=by
 intro τ i hi;have il:i<names.length:=hl▸hi
 have hg:(names.map H.str)[(i:Int).toNat]?=a1 (names.getD i ""):=by
  rw[fH,uQ il,kT,dI il];rfl
 have hO:(names.map H.str).length<=aI:=mo (hl▸(by decide))
 rcases h with⟨rfl,rfl⟩ | ⟨rfl,rfl⟩
 ·exact j1 hO ((d3 _)) hg
 ·exact Bl (by rfl) hO ((d3 _)) hg
theorem cell_call(hl:l.length<=63){a:X}(h0:ev (CC (d+2)) (.v 0) ρ σ=.ok (.fl (l.map .int)) σ)(ha:ev (CC (d+2)) a ρ σ=.ok (.int j) σ):ev (CC (d+2)) (.call g6 #v[(.v 0),a]) ρ σ=.ok (.int (l.getD j 0)) σ:=
 jl h0 ha (uR hl)
theorem On{xs:List Int}{lo hi:Nat}(h:xs.all (fun x=>decide ((lo:Int)<=x)&&decide (x<=(hi:Int)))=true)(HP:i<xs.length):∃q:Nat,lo<=q/\q<=hi/\xs.getD i 0=q:=by
 rw[kP,dI HP];have m:=fI.mp h _ (List.getElem_mem HP);refine aS (df m) fun a0 cx=>?_;have a0:=hG a0;refine aL (kc (Int.le_trans (d3 lo) a0)) fun q hq=>?_;rw[hq]at a0 cx;exact⟨q,Int.ofNat_le.mp a0,Int.ofNat_le.mp (hG cx),hq⟩
theorem JU{xs:List Int}{lo hi:Nat}{a b:X}{c:Int}(h:xs.all (fun x=>decide ((lo:Int)<=x)&&decide (x<=(hi:Int)))=true)(h0:0<xs.length)(hl:xs.length<=100)(ha:ev C a ρ σ=.ok (.fl (xs.map .int)) σ)(hb:ev C b ρ σ=.ok (.int (c%(xs.length:Nat))) σ):∃q:Nat,lo<=q/\q<=hi/\ev C (.sub a b) ρ σ=.ok (.int (q:Nat)) σ:=by
 have vf:=eZ c (Int.ofNat_ne_zero.mpr (c7 h0));have bL:=Br vf (fU c (ew.mpr h0));refine bu (On h bL) fun q q1 q2 hq=>?_;refine⟨q,q1,q2,cG ha hb (j1 (by rw[be];exact aH hl (by decide)) vf ?_)⟩;rw[fH,dI bL,<- hq,kP,dI bL];rfl
theorem Hf{xs:List Str}(h:i<xs.length):xs.getD i "" ∈ xs:=by
 rw[kP,dI h];exact List.getElem_mem h
noncomputable abbrev ka(l:List Int)(b6:H)(a b c e f:Option H):az:=wR (some (.fl (l.map .int))) (some b6) a b c none e f none none none none none none none
theorem Se(hl:l.length<=63):∃many:Nat,1<=many/\many<=20/\∀r,ex (CC (d+2)) topN (.cons uB (.cons uC r)) (ka l b6 none none none none none) σ=ex (CC (d+2)) topN r (ka l b6 (af (many:Nat)) none none none none) σ:=by
 have cell:∀{a:Option H},ev (CC (d+2)) (.call g6 #v[(.v 0),(.bin .add (.v 1) (ae 1))]) (ka l b6 a none none none none) σ=.ok (.int (l.getD 1 0)) σ:=fun{a}=>cell_call hl (j:=1) rfl rfl;refine bu (JU (lo:=1) (hi:=20) (xs:=[1,2,3,4,6,8]) (c:=l.getD 1 0) (ρ:=ka l b6 none none none none none) (a:=.lst true #v[(ae 1),(ae 2),(ae 3),(ae 4),(ae 6),(ae 8)]) rfl (by decide) (by decide) rfl (cS cell (b:=.k (.int 6)) (y:=.int 6) (ar:=σ) rfl (ih (by decide)))) fun q q1 q2 V=>?_
 have cO:tst (CC (d+2)) (.cmp (.bin .mod (.bin .fdiv (.call g6 #v[(.v 0),(.bin .add (.v 1) (ae 1))]) (ae 6)) (ae 10)) .eq (ae 1)) (ka l b6 (af (q:Nat)) none none none none) σ=.ok (l.getD 1 0/6%10 == 1) σ:=
  b4 (y9 (by decide) (by decide) (by decide) cell) (y:=.int 1) (ar:=σ) rfl lN
 cases Hq:(l.getD 1 0/6%10 == 1)with
 | true =>
  rw[Hq]at cO;have lw:=fU (l.getD 1 0/60) (show(0:Int)<12 by decide);refine aL (kc (eZ (l.getD 1 0/60) (show(12:Int)≠0 by decide))) fun w hw=>?_;have ak:=y9 (a:=60) (b:=12) (by decide) (by decide) (by decide) (cell (a:=af (q:Nat)));rw[hw]at lw ak;exact⟨9+w,aH (by decide) (gc 9 w),Nat.add_le_add_left (Nat.le_of_lt_succ (ew.mp lw)) 9,fun r=>(am (a:=uB) (bH V)).trans (am (a:=uC) ((cz cO).trans ((am (a:=Fh) (bH (cS (x:=.int 9) (ac:=σ) rfl ak add_int))).trans bX)))⟩
 | false =>
  rw[Hq]at cO;exact⟨q,q1,q2,fun r=>(am (a:=uB) (bH V)).trans (am (a:=uC) (bC cO))⟩
theorem UG{a:Option H}(hl:l.length<=63):∃room:Nat,2<=room/\room<=9/\∀r,ex (CC (d+2)) topN (.cons yp (.cons Fi r)) (ka l b6 a none none none none) σ=ex (CC (d+2)) topN r (ka l b6 a (af (room:Nat)) (aR σ.length) none none) (σ++[.lst []]):=by
 refine bu (JU (lo:=2) (hi:=9) (xs:=[2,4,6,9]) (c:=l.getD 2 0) (ρ:=ka l b6 a none none none none) (a:=.lst true #v[(ae 2),(ae 4),(ae 6),(ae 9)]) rfl (by decide) (by decide) rfl (cS (cell_call (d:=d) (a:=.bin .add (.v 1) (ae 2)) hl (j:=2) rfl rfl) (b:=.k (.int 4)) (y:=.int 4) (ar:=σ) rfl (ih (by decide)))) fun q q1 q2 V=>?_;exact⟨q,q1,q2,fun r=>(am (a:=yp) (bH V)).trans rfl⟩
section
variable {names:List Str}(fh:∀τ (i:Nat),i<24->f6 b6 (.int i) (aK++τ)=.ok (.str (names.getD i "")) (aK++τ))(gq:names.length=24)
include fh gq
theorem Of{many room t:Nat}(a3:min (24:Int) ((room:Int)+many)=t)(O:t<=24):∀r,ex (CC (d+2)) topN (.cons yq (.cons yr r)) (ka l b6 (af (many:Nat)) (af (room:Nat)) (aR aK.length) none none) (aK++[.lst []])=ex (CC (d+2)) topN r (gb aK l b6 (af (many:Nat)) (af (room:Nat)) (names.take t) none ⟨none,none,none,none,none,none,none⟩) (bt aK [] (names.take t)):=fun r=>by
 have pg:(names.take t).length<=100:=by rw[List.length_take,gq];exact aH (Nat.min_le_right _ _) (by decide)
 have PV:ev (CC (d+2)) (.min2 (ae 24) (.bin .add (.v 4) (.v 3))) (ka l b6 (af (many:Nat)) (af (room:Nat)) (aR aK.length) none none) (aK++[.lst []])=.ok (.int (t:Nat)) (aK++[.lst []]):=by
  refine Dd (x:=.int 24) (y:=.int ((room:Int)+many)) (ac:=aK++[.lst []]) (ar:=aK++[.lst []]) rfl rfl ?_;show ah.ok (H.int (min (24:Int) ((room:Int)+many))) _=_;rw[a3]
 have iQ:ev (CC (d+2)) Fd (ka l b6 (af (many:Nat)) (af (room:Nat)) (aR aK.length) none none) (aK++[.lst []])=.ok (.ref (aK.length+1)) (bt aK [] (names.take t)):=by
  show ev (CC (d+2)) (.comp false 1 _ _ _ _) _ _=_;rw[kZ,qz (n:=t) (aH O (by decide)) PV,cn];dsimp only;rw[CY (g:=fun x=>match x with | .int i=>.str (names.getD i.toNat "") | _=>.none) _ fun x hx=>?_]
  ·show eW false _ _=_
   have PS:(List.range t).map (fun k=>names.getD k "")=names.take t:=by
    refine List.ext_getElem (by rw[be,List.length_range,List.length_take,gq,Nat.min_eq_left O]) fun i L J=>?_;rw[be,List.length_range]at L;rw[List.getElem_map,List.getElem_range,List.getElem_take,kP,dI (gq▸hF L O)];rfl
   rw[A2 (f:=fun k=>names.getD k "") fun k hk=>by rfl,PS,SH (mo pg),cW,eY];rfl
  ·refine ay (A3 hx) fun k hk ag=>?_;obtain rfl:=ag;show((ev _ _ _ _).bind fun v σ=>ah.ok (some v) σ)=_;rw[cG (x:=b6) (y:=.int k) (ac:=aK++[.lst []]) (ar:=aK++[.lst []]) rfl rfl (fh [.lst []] k (hF hk O))];rfl
 have Bh:el (bt aK [] (names.take t)) (.ref (aK.length+1))=some ((names.take t).map .str):=by unfold el;dsimp only;rw[tz]
 exact(am (a:=yq) (bH iQ)).trans ((am (a:=yr) (bH (cZ (x:=.ref (aK.length+1)) (ac:=bt aK [] (names.take t)) rfl ((sv Bh).trans (nc (mo pg)))))).trans rfl)
theorem Tx{m o k:Option H}{sp free:List Str}{v:nW}:ex (CC (d+2)) topN yB (gb aK l b6 m o sp k v) (bt aK [] free)=.next (gb aK l b6 m o sp k v) (bt aK [aq.pv (aq.mk (names.getD 0 "") (.word "sum") [names.getD 0 ""] [names.getD 1 ""])] free):=by
 have fY:∀i:Nat,i<24->ev (CC (d+2)) (.sub (.v 2) (ae (i:Nat))) (gb aK l b6 m o sp k v) (bt aK [] free)=.ok (.str (names.getD i "")) (bt aK [] free):=fun i hi =>
  cG (x:=b6) (y:=.int (i:Nat)) (ac:=bt aK [] free) (ar:=bt aK [] free) rfl rfl (fh _ i hi)
 have n1:∀i:Nat,i<24->ev (CC (d+2)) (.tup #v[(.sub (.v 2) (ae (i:Nat)))]) (gb aK l b6 m o sp k v) (bt aK [] free)=.ok (.tup [.str (names.getD i "")]) (bt aK [] free):=fun i hi=>lL (vs:=[.str (names.getD i "")]) (eI (fY i hi) rfl) (show(1:Nat)<=aI by decide);refine(cz (σ':=bt aK [] free) (b4 (x:=.ref aK.length) (y:=.fl []) (ac:=bt aK [] free) (ar:=bt aK [] free) rfl rfl (Di (steps:=[]) ri))).trans ((am (a:=Fn) (fJ (hJ (m:=.append) (x:=.ref aK.length) (ac:=bt aK [] free) rfl (ng (.inl rfl)) (y:=aq.pv (aq.mk (names.getD 0 "") (.word "sum") [names.getD 0 ""] [names.getD 1 ""])) (ar:=bt aK [] free) (lL (vs:=[.str (names.getD 0 ""),.tup [.str "sum"],.tup [.str (names.getD 0 "")],.tup [.str (names.getD 1 "")]]) (eI (fY 0 (by decide)) (eI (x:=.tup [.str "sum"]) (ac:=bt aK [] free) rfl (eI (n1 0 (by decide)) (eI (n1 1 (by decide)) rfl)))) (show(4:Nat)<=aI by decide)) ?_))).trans bX);show kf (.ref aK.length) _ _=_;have iW:(bt aK [] free)[aK.length]?=some (.lst []):=ri;unfold kf;dsimp only;rw[iW];dsimp only;rw[aD (by decide)];show ah.ok H.none ((aK++[aW.lst [],.lst (free.map .str)]).set aK.length _)=_;rw[List.set_append_right _ _ (dA _),Nat.sub_self];rfl
end
theorem Tz{a b:Str}(ha:gR a)(hb:gR b):cs [aq.mk a (.word "sum") [a] [b]]:=by
 refine⟨dA 1,(by show(1:Nat)<=20;decide),fun s hs=>?_,by simp,by simp⟩;rw[de.mp hs];exact⟨ha,fun n hn=>by rw[de.mp hn];exact ha,dA 1,(by show(1:Nat)<=4;decide),fun n hn=>by rw[de.mp hn];exact hb,dA 1,(by show(1:Nat)<=3;decide),by simp,.sum _ _⟩
theorem OH(hl:l.length<=63):∃p σ',cs p/\(∀s∈p,jI s.name/\∀g∈s.gives,jI g)/\bB PP topN (d+3) Io [.fl (l.map .int),.int 0] []=.ok (bv p) σ':=by
 refine Nc (OF (l.getD 0 0)) fun names gq AI AJ AK iX=>?_
 obtain⟨b6,aK,Ph,Py⟩:∃b6 aK,(∀d,bB PP topN (d+1) sb [.int (l.getD 0 0)] []=.ok b6 aK)/\((b6=.fl (names.map .str)/\aK=[])\/(b6=.ref 0/\aK=[.lst (names.map .str)])):=by
  rcases iX with h | h
  ·exact⟨_,_,h,.inl ⟨rfl,rfl⟩⟩
  ·exact⟨_,_,h,.inr ⟨rfl,rfl⟩⟩
 have fh:=S0 (aK:=aK) gq Py;have oL:∀i,i<24->gR (names.getD i ""):=fun i hi=>AJ _ (Hf (gq▸hi));have hpl:∀i,i<24->jI (names.getD i ""):=fun i hi=>AK _ (Hf (gq▸hi));refine bu (Se (d:=d) (σ:=aK) (b6:=b6) hl) fun many PR HV V=>?_;refine bu (UG (d:=d) (σ:=aK) (b6:=b6) (a:=af (many:Nat)) hl) fun room YB YC bG=>?_;have t1:1<=min 24 (room+many):=Nat.le_min.mpr ⟨by decide,aH PR (Nat.le_add_left _ _)⟩;have cO:min 24 (room+many)<=24:=Nat.min_le_left _ _;have kX:=Of (d:=d) fh gq (l:=l) (many:=many) (room:=room) (Je 24 (room+many)) cO;generalize min 24 (room+many)=t at t1 cO kX
 have pg:(names.take t).length=t:=by rw[List.length_take,gq];exact Nat.min_eq_left cO
 have tk:∀n∈names.take t,n∈names:=fun n hn=>List.mem_of_mem_take hn;have Le:py names [] (names.take t):=⟨fun s hs=>(nomatch hs),rfl,AI.sublist (List.take_sublist _ _),fun n hn=>AJ n (tk n hn),aH (Nat.le_of_eq pg) (aH cO (by decide)),fun n hn=>AK n (tk n hn),fun s hs=>(nomatch hs)⟩;obtain⟨steps,free,cb,v,cu,I,HT⟩:=R5 (d:=d) (aK:=aK) hl (b6:=b6) (many:=af (many:Nat)) (room:=af (room:Nat)) (cw:=names.take t) fh (by rw[pg];exact t1) (by rw[pg];exact aH cO (by decide)) oL (fun n hn=>AJ n (tk n hn)) many [] (names.take t) none ⟨none,none,none,none,none,none,none⟩ (by rw[List.length_nil,gD];exact HV) Le
 have QO:dh 0 1 many=(List.range' 0 many).map fun(i:Nat)=>H.int i:=by
  unfold dh;rw[kQ];exact List.map_congr_left fun i J=>by rw[Int.mul_one,Int.zero_add]
 rw[List.length_nil,<- QO]at HT;have rr:=eO (C:=CC (d+2)) (n:=topN) (i:=6) (it:=.range1 (.v 3)) (qz (n:=many) (aH HV (by decide)) rfl) HT
 obtain⟨p,hp,P8,ol⟩:∃p,cs p/\(∀s∈p,jI s.name/\∀g∈s.gives,jI g)/\ex (CC (d+2)) topN yB (gb aK l b6 (af (many:Nat)) (af (room:Nat)) (names.take t) cb v) (bt aK (steps.map aq.pv) free)=.next (gb aK l b6 (af (many:Nat)) (af (room:Nat)) (names.take t) cb v) (bt aK (p.map aq.pv) free):=by
  cases steps with
  | nil=>exact⟨_,Tz (oL 0 (by decide)) (oL 1 (by decide)),fun s hs=>by
    rw[de.mp hs]
    exact⟨hpl 0 (by decide),fun g hg=>by rw[de.mp hg];exact hpl 1 (by decide)⟩,Tx fh gq⟩
  | cons f4 v7=>exact⟨f4::v7,QN AI gq I (Nat.succ_pos _) cu,fun s hs=>⟨AK _ (QM gq I hs),I.gp s hs⟩,bC (b4 (x:=.ref aK.length) (y:=.fl []) (ac:=bt aK ((f4::v7).map aq.pv) free) (ar:=bt aK ((f4::v7).map aq.pv) free) rfl rfl ((Di (steps:=f4::v7) ri).trans rfl))⟩
 have Bh:el (bt aK (p.map aq.pv) free) (.ref aK.length)=some (p.map aq.pv):=by unfold el;dsimp only;rw[ri]
 refine⟨p,bt aK (p.map aq.pv) free,hp,P8,?_⟩;rw[cC (fn:=Fc) rfl rfl];exact(congrArg bg ((am (a:=Fg) (bH (d8 (cell_call hl (j:=0) rfl rfl) (Ph (d+1))))).trans ((V _).trans ((bG _).trans ((kX _).trans ((am (a:=Fj) rr).trans ((am ol).trans (bf (a:=Fo) (cH (cZ (x:=.ref aK.length) (ac:=bt aK (p.map aq.pv) free) rfl ((sv Bh).trans (aD (TV hp.most))))))))))))).trans rfl
theorem CI{i a b:Int}:bB PP topN (d+1) oW [.int i,.int a,.int b] σ=.ok (.bool (decide (a<=i)&&decide (i<=b))) σ:=by
 rw[cC (fn:=xZ) rfl rfl]
 have:ex (CC d) topN xZ.body [af i,af a,af b,none,none,none] σ=.ret (.bool (decide (a<=i)&&decide (i<=b))) [af i,af a,af b,none,none,none] σ:=
  bf (cH (kl (kY (ac:=σ) rfl (kY (ac:=σ) rfl (lJ (xq rfl rfl rfl))))))
 exact(congrArg bg this).trans rfl
theorem h7:(τ++m::cL)[τ.length]?=some m:=by simp
theorem mj:(τ++m::cL).set τ.length bw=τ++bw::cL:=by simp
theorem Ly{es:List (Str×H)}{k:Str}:k∉es.map (·.1)->aG k es=none:=by
 intro h;unfold aG;rw[List.find?_eq_none.mpr]
 ·rfl
 ·intro e he q;exact h (ci.mpr ⟨e,he,hG q⟩)
theorem CA{es:List (Str×H)}{k:Str}{v:H}(h:k∉es.map (·.1)):eg k v es=es++[(k,v)]:=by
 unfold eg;rw[aY];intro q;refine ay (List.any_eq_true.mp q) fun e he q=>?_;exact h (ci.mpr ⟨e,he,hG q⟩)
theorem Lz{es:List (Str×H)}{k:Str}:(aG k es).isSome=decide (k∈es.map (·.1)):=by
 by_cases h:k∈es.map (·.1)
 ·rw[dz h];refine ay (ci.mp h) fun e he q=>?_;unfold aG;rw[Option.isSome_map,List.find?_isSome];exact⟨e,he,dz q⟩
 ·rw[fx h,Ly h];rfl
noncomputable def eS(p:List aq):List (Str×H):=p.flatMap fun s=>s.gives.map fun g=>(g,s.pv)
theorem Hk(p:List aq):(eS p).map (·.1)=p.flatMap (·.gives):=by
 unfold eS;rw[List.map_flatMap];congr 1
 funext s
 rw[fV];exact List.map_id _
theorem VE{es:List (Str×H)}{k:Str}{v:H}(hr:σ[r]?=some (.ds es))(hl:es.length<aI):hW (.ref r) (.str k) v ρ σ=.next ρ (σ.set r (.ds (eg k v es))):=by
 have e:((σ[r]?).bind fun m=>qE m (.str k) v)=some (.ds (eg k v es)):=by rw[hr];exact aD hl
 unfold hW;dsimp only;rw[e]
theorem sQ{j:Int}{v:H}(hr:σ[r]?=some (.dp es))(hl:es.length<aI):hW (.ref r) (.tup [.str x,.int j]) v ρ σ=.next ρ (σ.set r (.dp (eg (x,j) v es))):=by
 have e:((σ[r]?).bind fun m=>qE m (.tup [.str x,.int j]) v)=some (.dp (eg (x,j) v es)):=by rw[hr];exact aD hl
 unfold hW;dsimp only;rw[e]
theorem Ou{s:H}:∀(gs:List Str) (y:Option H) (es:List (Str×H)),es.length+gs.length<=1000->(es.map (·.1)++gs).Nodup ->
  ∃b9,cj none (dM 3) (fun ρ σ=>ex (CC d) topN Ep ρ σ) (gs.map .str) [some pl,aR τ.length,some s,y] (τ++[.ds es]) =
   .next [some pl,aR τ.length,some s,b9] (τ++[.ds (es++gs.map fun g=>(g,s))]):=by
 intro gs
 induction gs with
 | nil=>intro y es _ _;exact⟨y,by simpa using eP⟩
 | cons g gs aj =>
  intro y es hl hn;have hk:g∉es.map (·.1):=fun q=>(gC.mp hn).2.2 g q g ((bi)) rfl;rw[dy]at hl;obtain⟨b9,e⟩:=aj (a1 g) (es++[(g,s)]) (by rw[cW];show es.length+1+gs.length<=1000;(grind)) (by simpa using hn);refine⟨b9,(eh (bU:=[some pl,aR τ.length,some s,a1 g]) (eA:=[some pl,aR τ.length,some s,a1 g]) (ar:=τ++[.ds (es++[(g,s)])]) rfl ?_).trans (e.trans (by simp))⟩;refine(am ?_).trans bX;show hW (.ref τ.length) (.str g) s _ (τ++[.ds es])=_;rw[VE h7 (by rw[eV];(grind)),mj,CA hk]
theorem Ov:∀(p:List aq) (x y:Option H) (es:List (Str×H)),es.length+3*p.length<=1000->(∀s∈p,s.gives.length<=3)->(es.map (·.1)++p.flatMap (·.gives)).Nodup ->
  ∃aO b9,cj none (dM 2) (fun ρ σ=>ex (CC d) topN Eo ρ σ) (p.map aq.pv) [some pl,aR τ.length,x,y] (τ++[.ds es]) =
   .next [some pl,aR τ.length,aO,b9] (τ++[.ds (es++eS p)]):=by
 intro p
 induction p with
 | nil=>intro x y es _ _ _;exact⟨x,y,by simpa[eS]using eP⟩
 | cons s p aj =>
  intro x y es hl aw hn;have hs:=aw s ((bi));rw[dy]at hl;rw[kS,<- eY]at hn;obtain⟨gy,V⟩:=Ou (d:=d) (pl:=pl) (s:=s.pv) (τ:=τ) s.gives y es (by grind) (gC.mp hn).1
  have hk:(es++s.gives.map fun g=>(g,s.pv)).map (·.1)=es.map (·.1)++s.gives:=by
   rw[eu,fV];congr 1;exact List.map_id _
  obtain⟨aO,b9,ak⟩:=aj (some s.pv) gy (es++s.gives.map fun g=>(g,s.pv)) (by rw[cW,be];(grind)) (fun t a3=>aw t (bM _ a3)) (hk.symm▸hn);refine⟨aO,b9,(eh (bU:=[some pl,aR τ.length,some s.pv,y]) (eA:=[some pl,aR τ.length,some s.pv,gy]) (ar:=τ++[.ds (es++s.gives.map fun g=>(g,s.pv))]) rfl ?_).trans (ak.trans (by simp[eS]))⟩;exact(am (eO (ys:=s.gives.map .str) (ac:=τ++[.ds es]) rfl V)).trans bX
theorem Hl{p:List aq}(h:cs p):bB PP topN (d+1) vi [bv p] σ=.ok (.ref σ.length) (σ++[.ds (eS p)]):=by
 rw[cC (fn:=xY) rfl rfl];obtain⟨aO,b9,e⟩:=Ov (d:=d) (pl:=bv p) (τ:=σ) p none none [] (by show 0+3*p.length<=1000;have:=h.most;(grind)) (fun s hs=>(h.steps s hs).gives3) (by simpa using h.gives)
 have:ex (CC d) topN xY.body [some (bv p),none,none,none] σ=.ret (.ref σ.length) [some (bv p),aR σ.length,aO,b9] (σ++[.ds (eS p)]):=by
  refine rfl.trans ((am (eO (ys:=p.map aq.pv) (ac:=σ++[.ds []]) rfl e)).trans ?_);exact rfl
 exact(congrArg bg this).trans rfl
theorem Wc{ns:List Str}:(ns.map H.str).mapM (toD 16 σ)=some (ns.map PyData.str):=by
 induction ns with
 | nil=>rfl
 | cons n ns aj=>rw[dD,List.mapM_cons,aj];rfl
theorem Az{ns:List Str}:hQ σ (.str g) (ns.map .str)=some (decide (g∈ns)):=by
 unfold hQ;rw[Wc];show some ((ns.map PyData.str).any fun y=>PyData.eqv y (.str g))=_;congr 1;rw[List.any_map]
 induction ns with
 | nil=>rfl
 | cons n ns aj =>
  rw[List.any_cons,aj];show(n == g||decide (g∈ns))=_;by_cases q:n=g
  ·subst q;simp
  ·rw[kR.mpr q];by_cases q2:g∈ns
   ·simp[q2]
   ·rw[fx q2,fx (by simp[q2];exact fun z=>q z.symm)];rfl
theorem vO{ns:List Str}(h:σ[r]?=some (.lst (ns.map .str))):cY .notin (.str g) (.ref r) σ=.ok (!decide (g∈ns)) σ:=by
 show ah.ofOpt ((dP (.str g) (.ref r) σ).map (!·)) σ=_
 have:dP (.str g) (.ref r) σ=some (decide (g∈ns)):=by
  unfold dP;dsimp only;exact h.symm▸Az
 rw[this];rfl
theorem JD{es:List (Str×H)}(h:σ[r]?=some (.ds es)):cY .notin (.str g) (.ref r) σ=.ok (!decide (g∈es.map (·.1))) σ:=by
 show ah.ofOpt ((dP (.str g) (.ref r) σ).map (!·)) σ=_
 have:dP (.str g) (.ref r) σ=some (decide (g∈es.map (·.1))):=by
  unfold dP;dsimp only;exact h.symm▸(congrArg some Lz)
 rw[this];rfl
noncomputable def fi(G acc:List Str)(n:Str):List Str:=if(!decide (n∈G)&&!decide (n∈acc))=true then acc++[n]else acc
noncomputable def qt(G ns:List Str):List Str:=ns.foldl (fi G) []
theorem AP{acc:List Str}{n:Str}:(fi G acc n).length<=acc.length+1:=by
 unfold fi;split
 ·simp
 ·(exact gc _ _)
theorem AQ:∀(ns acc:List Str),(ns.foldl (fi G) acc).length<=acc.length+ns.length:=by
 intro ns
 induction ns with
 | nil=>intro acc;exact dA _
 | cons n ns aj =>
  intro acc;rw[iO,dy];have L:=aj (fi G acc n);have O:=AP (G:=G) (acc:=acc) (n:=n)
  (grind)
theorem Cx{v:H}(h:xs.length<1000):i2 .append (.ref τ.length) [v] (τ++[.lst xs])=.ok .none (τ++[.lst (xs++[v])]):=Cz h
theorem TD{s:H}{es:List (Str×H)}{w:Option H}(hr:τ[r]?=some (.ds es)):∀(ns:List Str) (y:Option H) (acc:List Str),acc.length+ns.length<=900 ->
  ∃b9,cj none (dM 4) (fun ρ σ=>ex (CC d) topN GA ρ σ) (ns.map .str) [some pl,aR r,aR τ.length,some s,y,w] (τ++[.lst (acc.map .str)]) =
   .next [some pl,aR r,aR τ.length,some s,b9,w] (τ++[.lst ((ns.foldl (fi (es.map (·.1))) acc).map .str)]):=by
 intro ns
 induction ns with
 | nil=>intro y acc _;exact⟨y,eP⟩
 | cons n ns aj =>
  intro y acc hl;rw[dy]at hl;obtain⟨b9,e⟩:=aj (a1 n) (fi (es.map (·.1)) acc n) (by have:=AP (G:=es.map (·.1)) (acc:=acc) (n:=n);(grind));refine⟨b9,(eh (bU:=[some pl,aR r,aR τ.length,some s,a1 n,w]) (eA:=[some pl,aR r,aR τ.length,some s,a1 n,w]) (ar:=τ++[.lst ((fi (es.map (·.1)) acc n).map .str)]) rfl ?_).trans e⟩
  have zT:(τ++[aW.lst (acc.map .str)])[r]?=some (.ds es):=by
   rw[iA (dX hr).1];exact hr
  have t:tst (CC d) (.and #v[(.cmp (.v 4) .notin (.v 1)),(.cmp (.v 4) .notin (.v 2))]) [some pl,aR r,aR τ.length,some s,a1 n,w] (τ++[.lst (acc.map .str)])=.ok (!decide (n∈es.map (·.1))&&!decide (n∈acc)) (τ++[.lst (acc.map .str)]):=
   jw (nE (b4 (x:=.str n) (y:=.ref r) (ac:=τ++[.lst (acc.map .str)]) (ar:=τ++[.lst (acc.map .str)]) rfl rfl (JD zT)) fun J=>kH (b4 (x:=.str n) (y:=.ref τ.length) (ac:=τ++[.lst (acc.map .str)]) (ar:=τ++[.lst (acc.map .str)]) rfl rfl (vO h7)))
  unfold fi
  cases hq:(!decide (n∈es.map (·.1))&&!decide (n∈acc))with
  | false =>
   rw[hq]at t;exact(am (bC t)).trans bX
  | true =>
   rw[hq]at t;rw[aD rfl];refine(am ((cz t).trans ((am (fJ (hJ (m:=.append) (x:=.ref τ.length) (ac:=τ++[.lst (acc.map .str)]) rfl ?_ (y:=.str n) (ar:=τ++[.lst (acc.map .str)]) rfl (Cx (by rw[be];(grind)))))).trans ?_))).trans bX
   ·exact ng (.inl rfl)
   ·rw[eu];exact rfl
theorem TH{es:List (Str×H)}{w:Option H}(hr:τ[r]?=some (.ds es)):∀(p:List aq) (x y:Option H) (acc:List Str),acc.length+4*p.length<=900->(∀s∈p,s.needs.length<=4) ->
  ∃aO b9,cj none (dM 3) (fun ρ σ=>ex (CC d) topN Gz ρ σ) (p.map aq.pv) [some pl,aR r,aR τ.length,x,y,w] (τ++[.lst (acc.map .str)]) =
   .next [some pl,aR r,aR τ.length,aO,b9,w] (τ++[.lst (((p.flatMap (·.needs)).foldl (fi (es.map (·.1))) acc).map .str)]):=by
 intro p
 induction p with
 | nil=>intro x y acc _ _;exact⟨x,y,eP⟩
 | cons s p aj =>
  intro x y acc hl aQ;have hs:=aQ s ((bi));rw[dy]at hl;obtain⟨gy,V⟩:=TD (d:=d) (pl:=pl) (s:=s.pv) (w:=w) hr s.needs y acc (by grind);obtain⟨aO,b9,ak⟩:=aj (some s.pv) gy (s.needs.foldl (fi (es.map (·.1))) acc) (by have:=AQ (G:=es.map (·.1)) s.needs acc;(grind)) fun t a3=>aQ t (bM _ a3);refine⟨aO,b9,(eh (bU:=[some pl,aR r,aR τ.length,some s.pv,y,w]) (eA:=[some pl,aR r,aR τ.length,some s.pv,gy,w]) (ar:=τ++[.lst ((s.needs.foldl (fi (es.map (·.1))) acc).map .str)]) rfl ?_).trans (ak.trans (by rw[kS,List.foldl_append]))⟩;exact(am (eO (ys:=s.needs.map .str) (ac:=τ++[.lst (acc.map .str)]) rfl V)).trans bX
theorem TL{p:List aq}(h:cs p):bB PP topN (d+2) Ad [bv p] σ=.ok (.ref (σ.length+1)) (σ++[.ds (eS p),.lst ((qt (p.flatMap (·.gives)) (p.flatMap (·.needs))).map .str)]):=by
 rw[cC (fn:=yS) rfl rfl]
 have hr:(σ++[aW.ds (eS p)])[σ.length]?=some (.ds (eS p)):=by simp
 obtain⟨aO,b9,e⟩:=TH (d:=d+1) (pl:=bv p) (w:=none) hr p none none [] (by show 0+4*p.length<=900;have:=h.most;(grind)) fun s hs=>(h.steps s hs).needs4;rw[Hk]at e
 have hl:(σ++[aW.ds (eS p)]).length=σ.length+1:=by simp
 rw[hl]at e
 have:ex (CC (d+1)) topN yS.body [some (bv p),none,none,none,none,none] σ=.ret (.ref (σ.length+1)) [some (bv p),aR σ.length,aR (σ.length+1),aO,b9,none] (σ++[.ds (eS p),.lst ((qt (p.flatMap (·.gives)) (p.flatMap (·.needs))).map .str)]):=by
  refine(am (a:=Gx) (ρ':=[some (bv p),aR σ.length,none,none,none,none]) (σ':=σ++[.ds (eS p)]) (bH (d8 (x:=bv p) (ac:=σ) rfl (Hl h)))).trans ?_;refine(am (a:=Gy) (ρ':=[some (bv p),aR σ.length,aR (σ++[aW.ds (eS p)]).length,none,none,none]) (σ':=σ++[.ds (eS p)]++[.lst []]) rfl).trans ?_;rw[hl];refine(am (eO (ys:=p.map aq.pv) (ac:=σ++[.ds (eS p)]++[.lst []]) rfl e)).trans (rfl.trans ?_);rw[eY];rfl
 exact(congrArg bg this).trans rfl
theorem RY{u w:Option H}:∀(p:List aq) (x:Option H) (acc:List Str),acc.length+3*p.length<=900->(∀s∈p,s.gives.length<=3) ->
  ∃aO,cj none (dM 2) (fun ρ σ=>ex (CC d) topN E8 ρ σ) (p.map aq.pv) [some pl,aR τ.length,x,u,w] (τ++[.lst (acc.map .str)]) =
   .next [some pl,aR τ.length,aO,u,w] (τ++[.lst ((acc++p.flatMap (·.gives)).map .str)]):=by
 intro p
 induction p with
 | nil=>intro x acc _ _;exact⟨x,by simpa using eP⟩
 | cons s p aj =>
  intro x acc hl aw;have hg:=aw s ((bi));rw[dy]at hl;obtain⟨aO,e⟩:=aj (some s.pv) (acc++s.gives) (by rw[cW];(grind)) fun t a3=>aw t (bM _ a3);refine⟨aO,(eh (bU:=[some pl,aR τ.length,some s.pv,u,w]) (eA:=[some pl,aR τ.length,some s.pv,u,w]) (ar:=τ++[.lst ((acc++s.gives).map .str)]) rfl ?_).trans (e.trans (by simp[kS]))⟩;refine(am (fJ (hJ (m:=.extend) (x:=.ref τ.length) (ac:=τ++[.lst (acc.map .str)]) (ar:=τ++[.lst (acc.map .str)]) rfl (ng (.inr (.inl rfl))) (y:=.tup (s.gives.map .str)) rfl ?_))).trans bX;show lO (.ref τ.length) (.tup (s.gives.map .str)) _=_;unfold lO;dsimp only;rw[h7];dsimp only;rw[aD (by rw[be,be,eV];(grind)),mj,eu]
theorem RZ{s:H}(hr:τ[r]?=some (.lst (G.map .str))):∀(ns:List Str) (y:Option H) (acc:List Str),acc.length+ns.length<=900 ->
  ∃b9,cj none (dM 4) (fun ρ σ=>ex (CC d) topN Fb ρ σ) (ns.map .str) [some pl,aR r,some s,aR τ.length,y] (τ++[.lst (acc.map .str)]) =
   .next [some pl,aR r,some s,aR τ.length,b9] (τ++[.lst ((ns.foldl (fi G) acc).map .str)]):=by
 intro ns
 induction ns with
 | nil=>intro y acc _;exact⟨y,eP⟩
 | cons n ns aj =>
  intro y acc hl;rw[dy]at hl;obtain⟨b9,e⟩:=aj (a1 n) (fi G acc n) (by have:=AP (G:=G) (acc:=acc) (n:=n);(grind));refine⟨b9,(eh (bU:=[some pl,aR r,some s,aR τ.length,a1 n]) (eA:=[some pl,aR r,some s,aR τ.length,a1 n]) (ar:=τ++[.lst ((fi G acc n).map .str)]) rfl ?_).trans e⟩
  have zT:(τ++[aW.lst (acc.map .str)])[r]?=some (.lst (G.map .str)):=by
   rw[iA (dX hr).1];exact hr
  have t:tst (CC d) (.and #v[(.cmp (.v 4) .notin (.v 1)),(.cmp (.v 4) .notin (.v 3))]) [some pl,aR r,some s,aR τ.length,a1 n] (τ++[.lst (acc.map .str)])=.ok (!decide (n∈G)&&!decide (n∈acc)) (τ++[.lst (acc.map .str)]):=
   jw (nE (b4 (x:=.str n) (y:=.ref r) (ac:=τ++[.lst (acc.map .str)]) (ar:=τ++[.lst (acc.map .str)]) rfl rfl (vO zT)) fun J=>kH (b4 (x:=.str n) (y:=.ref τ.length) (ac:=τ++[.lst (acc.map .str)]) (ar:=τ++[.lst (acc.map .str)]) rfl rfl (vO h7)))
  unfold fi
  cases hq:(!decide (n∈G)&&!decide (n∈acc))with
  | false =>
   rw[hq]at t;exact(am (bC t)).trans bX
  | true =>
   rw[hq]at t;rw[aD rfl];refine(am ((cz t).trans ((am (fJ (hJ (m:=.append) (x:=.ref τ.length) (ac:=τ++[.lst (acc.map .str)]) rfl ?_ (y:=.str n) (ar:=τ++[.lst (acc.map .str)]) rfl (Cx (by rw[be];(grind)))))).trans ?_))).trans bX
   ·exact ng (.inl rfl)
   ·rw[eu];exact rfl
theorem R0(hr:τ[r]?=some (.lst (G.map .str))):∀(p:List aq) (x y:Option H) (acc:List Str),acc.length+4*p.length<=900->(∀s∈p,s.needs.length<=4) ->
  ∃aO b9,cj none (dM 2) (fun ρ σ=>ex (CC d) topN Fa ρ σ) (p.map aq.pv) [some pl,aR r,x,aR τ.length,y] (τ++[.lst (acc.map .str)]) =
   .next [some pl,aR r,aO,aR τ.length,b9] (τ++[.lst (((p.flatMap (·.needs)).foldl (fi G) acc).map .str)]):=by
 intro p
 induction p with
 | nil=>intro x y acc _ _;exact⟨x,y,eP⟩
 | cons s p aj =>
  intro x y acc hl aQ;have hs:=aQ s ((bi));rw[dy]at hl;obtain⟨gy,V⟩:=RZ (d:=d) (pl:=pl) (s:=s.pv) hr s.needs y acc (by grind);obtain⟨aO,b9,ak⟩:=aj (some s.pv) gy (s.needs.foldl (fi G) acc) (by have:=AQ (G:=G) s.needs acc;(grind)) fun t a3=>aQ t (bM _ a3);refine⟨aO,b9,(eh (bU:=[some pl,aR r,some s.pv,aR τ.length,y]) (eA:=[some pl,aR r,some s.pv,aR τ.length,gy]) (ar:=τ++[.lst ((s.needs.foldl (fi G) acc).map .str)]) rfl ?_).trans (ak.trans (by rw[kS,List.foldl_append]))⟩;exact(am (eO (ys:=s.needs.map .str) (ac:=τ++[.lst (acc.map .str)]) rfl V)).trans bX
theorem Rz{p:List aq}(h:cs p):bB PP topN (d+1) vm [bv p] σ=.ok (.ref (σ.length+1)) (σ++[.lst ((p.flatMap (·.gives)).map .str),.lst ((qt (p.flatMap (·.gives)) (p.flatMap (·.needs))).map .str)]):=by
 rw[cC (fn:=yo) rfl rfl];obtain⟨aU,V⟩:=RY (d:=d) (pl:=bv p) (τ:=σ) (u:=none) (w:=none) p none [] (by show 0+3*p.length<=900;have:=h.most;(grind)) fun s hs=>(h.steps s hs).gives3;rw[List.nil_append]at V;generalize Ym:p.flatMap (·.gives)=G at V
 have hr:(σ++[aW.lst (G.map .str)])[σ.length]?=some (.lst (G.map .str)):=by simp
 obtain⟨aO,b9,e⟩:=R0 (d:=d) (pl:=bv p) hr p aU none [] (by show 0+4*p.length<=900;have:=h.most;(grind)) fun s hs=>(h.steps s hs).needs4
 have hl:(σ++[aW.lst (G.map .str)]).length=σ.length+1:=by simp
 rw[hl]at e
 have:ex (CC d) topN yo.body [some (bv p),none,none,none,none] σ=.ret (.ref (σ.length+1)) [some (bv p),aR σ.length,aO,aR (σ.length+1),b9] (σ++[.lst (G.map .str),.lst ((qt G (p.flatMap (·.needs))).map .str)]):=by
  refine rfl.trans ?_;refine(am (eO (ys:=p.map aq.pv) (ac:=σ++[.lst []]) rfl V)).trans ?_;refine(am (a:=E9) (ρ':=[some (bv p),aR σ.length,aU,aR (σ++[aW.lst (G.map .str)]).length,none]) (σ':=σ++[.lst (G.map .str)]++[.lst []]) rfl).trans ?_;rw[hl];refine(am (eO (ys:=p.map aq.pv) (ac:=σ++[.lst (G.map .str)]++[.lst []]) rfl e)).trans (rfl.trans ?_);rw[eY];rfl
 exact(congrArg bg this).trans rfl
theorem N3{s:aq}(h:gV s):ta s:=by
 have k:∀n,gR n->n.length<=aI:=fun n q=>aH q.len (by decide);exact⟨k _ h.name,fun n hn=>k n (h.needs n hn),aH h.needs4 (by decide),fun n hn=>k n (h.gives n hn),aH h.gives3 (by decide)⟩
theorem TX{p:List aq}(h:cs p):∃τ,bB PP topN (d+4) vk [bv p] σ=.ok (.bool true) (σ++τ):=by
 obtain⟨τ,e⟩:=Hr (d:=d) (σ:=σ) (fun s hs=>N3 (h.steps s hs)) (aH h.most (by decide));rw[TU.mpr h]at e;exact⟨τ,e⟩
noncomputable def za(p:List aq)(n:Nat)(g o h gn od:Nat):List (Str×H):=[("plan",bv p),("turns",.int n),("givers",.ref g),("outer",.ref o),("here",.ref h),("gone",.ref gn),("order",.ref od)]
noncomputable def f0(p:List aq):List Str:=qt (p.flatMap (·.gives)) (p.flatMap (·.needs))
structure kL(p:List aq)(n:Nat)(es:List ((Str×Int)×H))(i g o h gn od:Nat)(σ:aa):Prop where
 ns:σ[i]?=some (.ns (za p n g o h gn od))
 gv:σ[g]?=some (.ds (eS p))
 ot:σ[o]?=some (.lst ((f0 p).map .str))
 hr:σ[h]?=some (.dp es)
 ne:h≠i/\h≠g/\h≠o
theorem kL.more{p:List aq}{g o h:Nat}(b:kL p n es i g o h gn od σ):kL p n es i g o h gn od (σ++τ):=by
 have k:∀{j:Nat} {m:aW},σ[j]?=some m->(σ++τ)[j]?=some m:=fun{j m} e=>by exact(iA (dX e).1).symm▸e
 exact⟨k b.ns,k b.gv,k b.ot,k b.hr,b.ne⟩
theorem kL.other{p:List aq}{g o h:Nat}(b:kL p n es i g o h gn od σ)(a5:j≠i/\j≠g/\j≠o/\j≠h):kL p n es i g o h gn od (σ.set j m):=by
 have k:∀{a:Nat},j≠a->(σ.set j m)[a]?=σ[a]?:=fun{a} e=>List.getElem?_set_ne e;exact⟨(k a5.1).trans b.ns,(k a5.2.1).trans b.gv,(k a5.2.2.1).trans b.ot,(k a5.2.2.2).trans b.hr,b.ne⟩
theorem kL.put{p:List aq}{es':List ((Str×Int)×H)}{g o h:Nat}(b:kL p n es i g o h gn od σ):kL p n es' i g o h gn od (σ.set h (.dp es')):=by
 have k:∀{a:Nat},h≠a->(σ.set h (.dp es'))[a]?=σ[a]?:=fun{a} e=>List.getElem?_set_ne e;exact⟨(k b.ne.1).trans b.ns,(k b.ne.2.1).trans b.gv,(k b.ne.2.2).trans b.ot,List.getElem?_set_self (dX b.hr).1,b.ne⟩
theorem S1:(("turns" : Str)∉(["plan"]:List Str))/\(("givers" : Str)∉(["plan", "turns"]:List Str))/\(("outer" : Str)∉(["plan", "turns", "givers"]:List Str))/\(("here" : Str)∉(["plan", "turns", "givers", "outer"]:List Str)) ∧
  (("gone" : Str)∉(["plan", "turns", "givers", "outer", "here"]:List Str))/\(("order" : Str)∉(["plan", "turns", "givers", "outer", "here", "gone"]:List Str)):=by decide +kernel
noncomputable def dj(σ:aa)(i:Nat)(fs:List (Str×H))(cL:aa):aa:=σ.set i (.ns fs)++cL
theorem dj.len:(dj σ i fs cL).length=σ.length+cL.length:=by unfold dj;rw[cW,List.length_set]
section
variable {N:Nat}{w:aa}{k:Str}{o x:X}
theorem dj.at_(h:cL[j]?=some m):(dj σ i fs cL)[σ.length+j]?=some m:=by
 unfold dj;rw[h4 (by rw[List.length_set];exact gc _ _),List.length_set,Nat.add_sub_cancel_left];exact h
theorem dj.put{v:H}(hi:i<σ.length)(ho:∀{σ:aa},ev C o ρ σ=.ok (.inst c i) σ)(hx:ev C x ρ (dj σ i fs cL)=.ok v (dj σ i fs cL++w))(hk:k∉fs.map (·.1))(hl:Nat.ble fs.length 99=true):ex C N (.asgAttr c o k x) ρ (dj σ i fs cL)=.next ρ (dj σ i (fs++[(k,v)]) (cL++w)):=by
 have g:(dj σ i fs cL++w)[i]?=some (.ns fs):=by
  unfold dj;rw[eY,iA (by rw[List.length_set];exact hi)];exact List.getElem?_set_self hi
 show(ev C x ρ (dj σ i fs cL)).toS ρ (fun v σ=>(ev C o ρ σ).toS ρ fun o σ=>sP c o k v ρ σ)=_;rw[hx,gx,ho,gx];unfold sP;dsimp only;rw[aD rfl,g];dsimp only;rw[aD (Nat.lt_succ_of_le (Nat.le_of_ble_eq_true hl)),CA hk];unfold dj;rw[eY,List.set_append_left _ _ (by rw[List.length_set];exact hi),List.set_set]
theorem dj.ref(hi:i<σ.length)(ho:∀{σ:aa},ev C o ρ σ=.ok (.inst c i) σ)(hx:ev C x ρ (dj σ i fs cL)=.ok (.ref ((dj σ i fs cL).length+j)) (dj σ i fs cL++w))(hk:k∉fs.map (·.1))(hl:Nat.ble fs.length 99=true):ex C N (.asgAttr c o k x) ρ (dj σ i fs cL)=.next ρ (dj σ i (fs++[(k,.ref (σ.length+cL.length+j))]) (cL++w)):=
 dj.put hi ho (by rw[dj.len]at hx;exact hx) hk hl
end
theorem QI{p:List aq}(h:cs p)(hi:i<σ.length)(e:σ[i]?=some (.ns []))(kz:∀{σ:aa},ev (CC (d+4)) (.v 0) ρ σ=.ok (.inst bZ i) σ)(ju:∀{σ:aa},ev (CC (d+4)) (.v 1) ρ σ=.ok (bv p) σ)(bI:∀{σ:aa},ev (CC (d+4)) (.v 2) ρ σ=.ok (.int n) σ) :
  ex (CC (d+4)) topN #v[tY,tZ,t2,t3,t4,t5,t6] ρ σ=.next ρ (dj σ i (za p n σ.length (σ.length+2) (σ.length+3) (σ.length+4) (σ.length+5)) [.ds (eS p),.ds (eS p),.lst ((f0 p).map .str),.dp [],.dp [],.lst []]):=by
 have s:σ=dj σ i [] []:=by
  unfold dj;rw[List.append_nil,<- oi ((dI hi).symm.trans e)];exact(List.set_getElem_self hi).symm
 have nil:∀{x:X} {v:H} {fs:List (Str×H)},ev (CC (d+4)) x ρ (dj σ i fs [])=.ok v (dj σ i fs [])->ev (CC (d+4)) x ρ (dj σ i fs [])=.ok v (dj σ i fs []++[]):=fun h=>by rw[List.append_nil];exact h
 refine tR S1 fun f1 f2 rv tX oy DA=>?_;refine(congrArg _ s).trans ?_;refine dc (am (a:=tY) (dj.put hi kz (nil ju) et rfl)) ?_;refine dc (am (a:=tZ) (dj.put hi kz (nil bI) f1 rfl)) ?_;refine dc (am (a:=t2) (dj.ref (j:=0) (w:=[.ds (eS p)]) hi kz (d8 (f:=vi) ju (Hl (d:=d+3) h)) f2 rfl)) ?_;refine dc (am (a:=t3) (dj.ref (j:=1) (w:=[.ds (eS p),.lst ((f0 p).map .str)]) hi kz (d8 (f:=Ad) ju (TL (d:=d+2) h)) rv rfl)) ?_;refine dc (am (a:=t4) (dj.ref (j:=0) (w:=[.dp []]) hi kz rfl tX rfl)) ?_;refine dc (am (a:=t5) (dj.ref (j:=0) (w:=[.dp []]) hi kz rfl oy rfl)) ?_;exact dc (am (a:=t6) (dj.ref (j:=0) (w:=[.lst []]) hi kz rfl DA rfl)) rfl
theorem QJ{p:List aq}(h:cs p)(L:1<=n)(O:n<=200):∃(cL:aa) (g o hr gn od:Nat),bB PP topN (d+5) z4 [.inst bZ σ.length,bv p,.int n] (σ++[.ns []])=.ok .none (σ++cL)/\kL p n [] σ.length g o hr gn od (σ++cL)/\σ.length<g/\σ.length<o/\σ.length<hr/\(σ.length<g/\g<o/\o<hr/\hr<gn/\gn<od)/\(σ++cL)[gn]?=some (.dp [])/\(σ++cL)[od]?=some (.lst []):=by
 refine aL (TX (d:=d) (σ:=σ++[.ns []]) h) fun τ hp=>?_
 have V:(σ++[aW.ns []]++τ)[σ.length]?=some (.ns []):=by rw[eY];exact h7
 have eq:∀{fs:List (Str×H)} {cL:aa},dj (σ++[aW.ns []]++τ) σ.length fs cL=σ++(.ns fs::τ++cL):=fun{fs cL}=>by
  unfold dj;rw[eY σ,List.singleton_append,mj,eY]
 have f4:=am (n:=topN) (a:=DC) (r:=.cons xJ #v[tY,tZ,t2,t3,t4,t5,t6]) (ρ:=[bY σ.length,some (bv p),af n,none,none,none,none,none,none,none]) (bC (ht (q:=true) (jx (d8 (C:=CC (d+4)) (x:=bv p) rfl hp))));have il:σ.length<(σ++[aW.ns []]++τ).length:=(dX V).1
 have at_:=fun(fs:List (Str×H)) (cL:aa) {j:Nat} {m:aW}=>dj.at_ (σ:=σ++[aW.ns []]++τ) (i:=σ.length) (fs:=fs) (cL:=cL) (j:=j) (m:=m)
 generalize σ++[aW.ns []]++τ=bN at f4 V eq il at_
 have ek:ex (CC (d+4)) topN xJ [bY σ.length,some (bv p),af n,none,none,none,none,none,none,none] bN=.next [bY σ.length,some (bv p),af n,none,none,none,none,none,none,none] bN:=by
  refine bC (ht (q:=true) (jx (pS (f:=oW) (x:=.int n) (y:=.int 1) (z:=.int 200) (ac:=bN) (ar:=bN) (e8:=bN) rfl rfl rfl ?_)));show bB PP topN (d+4) oW [.int n,.int 1,.int 200] bN=_;rw[CI,dz (show(1:Int)<=n from Int.ofNat_le.mpr L),dz (show(n:Int)<=200 from Int.ofNat_le.mpr O)];rfl
 have body:=f4.trans ((am ek).trans (QI h il V rfl rfl rfl));rw[eq]at body;have lt:∀j,σ.length<bN.length+j:=fun j=>hF il (gc _ _);have up:∀{j k:Nat},j<k->bN.length+j<bN.length+k:=fun h=>Nat.add_lt_add_left h _;rw[cC (fn:=DB) rfl rfl];refine⟨_,bN.length+0,bN.length+2,bN.length+3,bN.length+4,bN.length+5,(congrArg bg body).trans rfl,?_⟩;rw[<- eq];refine⟨⟨?_,at_ _ _ rfl,at_ _ _ rfl,at_ _ _ rfl,c7 (lt 3),c7 (up (by decide)),c7 (up (by decide))⟩,lt 0,lt 2,lt 3,⟨lt 0,up (by decide),up (by decide),up (by decide),up (by decide)⟩,at_ _ _ rfl,at_ _ _ rfl⟩;rw[eq];exact h7
theorem TC{acc:List Str}{n:Str}:x∈fi G acc n ↔ x∈acc\/(x=n/\n∉G):=by
 unfold fi;by_cases L:n∈G
 ·rw[dz L];exact⟨.inl,fun h=>h.elim id fun z=>absurd L z.2⟩
 ·rw[fx L];by_cases O:n∈acc
  ·rw[dz O];exact⟨.inl,fun h=>h.elim id fun z=>z.1▸O⟩
  ·rw[fx O];show x∈acc++[n] ↔ _;rw[dt,de];exact⟨fun h=>h.imp id fun z=>⟨z,L⟩,fun h=>h.imp id fun z=>z.1⟩
theorem TF:∀(ns acc:List Str),x∈ns.foldl (fi G) acc ↔ x∈acc\/(x∈ns/\x∉G):=by
 intro ns
 induction ns with
 | nil=>intro acc;exact⟨.inl,fun h=>h.elim id fun z=>nomatch z.1⟩
 | cons n ns aj =>
  intro acc;rw[iO,aj,TC,b5];constructor
  ·rintro((h | ⟨rfl,h⟩) | h)
   ·exact .inl h
   ·exact .inr ⟨.inl rfl,h⟩
   ·exact .inr ⟨.inr h.1,h.2⟩
  ·rintro(h | ⟨rfl | h,h'⟩)
   ·exact .inl (.inl h)
   ·exact .inl (.inr ⟨rfl,h'⟩)
   ·exact .inr ⟨h,h'⟩
theorem JN{p:List aq}:x∈f0 p ↔ x∈p.flatMap (·.needs)/\x∉p.flatMap (·.gives):=by
 unfold f0 qt;rw[TF];exact⟨fun h=>h.elim (fun z=>nomatch z) id,.inr⟩
theorem Ak{α:Type}{l:List α}(h:l.length=2):∃a b,l=[a,b]:=by
 cases l with
 | nil=>contradiction
 | cons a l =>
  cases l with
  | nil=>exact nomatch Nat.succ.inj h
  | cons b l =>
   cases l with
   | nil=>exact⟨a,b,rfl⟩
   | cons c l=>exact nomatch Nat.succ.inj (Nat.succ.inj h)
theorem qe{α:Type}{l:List α}(h:l.length=3):∃a b c,l=[a,b,c]:=by
 cases l with
 | nil=>contradiction
 | cons a l =>
  refine jm (Ak (Nat.succ.inj h)) fun b c ag=>?_;obtain rfl:=ag;exact⟨a,b,c,rfl⟩
theorem hI{o:X}{n:Str}{v:H}(ho:ev C o ρ σ=.ok (.inst c i) ac)(hs:ac[i]?=some (.ns fs))(hv:aG n fs=some v):ev C (.attr c o n) ρ σ=.ok v ac:=by
 rw[Dp,ho,cn];unfold rj;dsimp only;rw[aD rfl,hs];dsimp only;rw[hv];rfl
theorem fW{f:Nat}{o args:X}{n:Str}{vs:List H}{r:ah H}(ho:ev C o ρ σ=.ok (.inst c i) ac)(hs:ac[i]?=some (.ns fs))(hn:aG n fs=none)(ha:evs C args ρ ac=.ok vs ar)(h:C.call f (.inst c i::vs) ar=r):ev C (.meth c f n o args) ρ σ=r:=by
 rw[NA,ho,cn];unfold o1;dsimp only;rw[aD rfl,hs];dsimp only;rw[hn];dsimp only;exact ha.symm▸h
section
variable {p:List aq}{g o h:Nat}
end
theorem MN{f:H->aa->ah (Option H)}{q:H->Option H}:∀(xs:List H),(∀x∈xs,f x σ=.ok (q x) σ)->dW none f xs σ=.ok (xs.filterMap q) σ:=by
 intro xs
 induction xs with
 | nil=>intro _;exact aD trivial
 | cons x xs aj =>
  intro h;refine(aD trivial).trans ?_;rw[h x bi];show(dW none f xs σ).bind _=_;rw[aj fun y hy=>h y (bM _ hy)];show ah.ok (xi (q x) (xs.filterMap q)) σ=_;rw[List.filterMap_cons];cases q x <;> rfl
theorem xg{t:Nat}{elt it:X}(q:H->Option H)(bF:evIt C it ρ σ=.ok (xs,none) σ)(hl:xs.length<=aI)
  (hc:∀x∈xs,tst C cond ((c4 cF ρ).set t (some x)) σ=.ok (q x).isSome σ) (he:∀x∈xs,∀v,q x=some v->ev C elt ((c4 cF ρ).set t (some x)) σ=.ok v σ) (aN:C.hd=false:=by first | rfl | assumption) :
  ev C (.comp true t cF elt cond it) ρ σ=.ok (.fl (xs.filterMap q)) σ:=by
 rw[kZ,aN,bF];show ib xs.length (dW none (fun x σ=>((tst C cond ((c4 cF ρ).set t (some x)) σ).bind fun b σ=>if b=true then(ev C elt ((c4 cF ρ).set t (some x)) σ).bind fun v σ=>.ok (some v) σ else .ok none σ)) xs σ) _=_
 rw[MN (q:=q) xs fun x hx=>by
  show(tst C cond ((c4 cF ρ).set t (some x)) σ).bind _=_;rw[hc x hx,cn]
  cases hq:q x with
  | none=>rfl
  | some v =>
   show(ev C elt ((c4 cF ρ).set t (some x)) σ).bind _=_
   rw[he x hx v hq];rfl]
 exact nc (aH (List.length_filterMap_le _ _) hl)
theorem zl{j:Int}(h:σ[r]?=some (.dp es)):i2 .get (.ref r) [.tup [.str x,.int j]] σ=.ok ((aG (x,j) es).getD .none) σ:=by
 show rF (.ref r) (.tup [.str x,.int j]) σ=_;unfold rF;dsimp only;rw[h];rfl
theorem zh(h:σ[r]?=some (.dp es)):o0 .get (.ref r) σ=true:=by
 show sg (.ref r) σ=true;unfold sg;dsimp only;rw[h]
theorem vv{j:Int}(h:σ[r]?=some (.dp es)):cY .isin (.tup [.str x,.int j]) (.ref r) σ=.ok (aG (x,j) es).isSome σ:=by
 show ah.ofOpt (dP (.tup [.str x,.int j]) (.ref r) σ) σ=_
 have:dP (.tup [.str x,.int j]) (.ref r) σ=some (aG (x,j) es).isSome:=by unfold dP;dsimp only;rw[h];rfl
 rw[this];rfl
theorem Kr{j:Int}{v:H}(h:σ[r]?=some (.dp es))(hv:aG (x,j) es=some v):f6 (.ref r) (.tup [.str x,.int j]) σ=.ok v σ:=by
 show mu (.ref r) (.tup [.str x,.int j]) σ=_;unfold mu;dsimp only;rw[h];show ah.ofOpt (aG (x,j) es) σ=_;rw[hv];rfl
theorem w4{k:Str×Int}{v:H}(h:aG k es=none):eg k v es=es++[(k,v)]:=by
 unfold eg;rw[aY];intro z;refine ay (List.any_eq_true.mp z) fun e he hk=>?_;unfold aG at h;rw[Option.map_eq_none_iff,List.find?_eq_none]at h;exact h e he hk
noncomputable def eR(p:List aq)(x:Str):Option aq:=p.find? fun s=>decide (x∈s.gives)
noncomputable def eG:c2->Bool
 | .word w=>w == "later"
 | _=>false
noncomputable def ki(p:List aq)(x:Str)(j:Int):Bool:=
 match eR p x with
 | some s=>!eG s.rule||decide (j > 0)
 | none=>false
theorem ts:∀{p:List aq},aG x (eS p)=(eR p x).map aq.pv:=by
 intro p
 induction p with
 | nil=>rfl
 | cons s p aj =>
  unfold eR;rw[jL];have e:eS (s::p)=(s.gives.map fun g=>(g,s.pv))++eS p:=rfl;unfold aG at aj ⊢;rw[e,List.find?_append];by_cases hx:x∈s.gives
  ·rw[dz hx]
   have:∀(l:List Str),x∈l->(l.map fun g=>(g,s.pv)).find? (fun e=>decide (e.1=x))=some (x,s.pv):=by
    intro l
    induction l with
    | nil=>intro h;contradiction
    | cons a l QE =>
     intro h;rw[dD,jL];by_cases ha:a=x
     ·subst ha;simp
     ·exact(fx ha).symm▸(QE ((b5.mp h).resolve_left fun z=>ha z.symm))
   rw[this _ hx];rfl
  ·rw[fx hx]
   have:(s.gives.map fun g=>(g,s.pv)).find? (fun e=>decide (e.1=x))=none:=by
    rw[List.find?_eq_none];intro e he;refine ay (ci.mp he) fun g hg ag=>?_;obtain rfl:=ag;simp;rintro rfl;exact hx hg
   rw[this];exact aj
theorem Q0{es:List (Str×H)}{k:Str}(h:σ[r]?=some (.ds es)):cY .isin (.str k) (.ref r) σ=.ok (aG k es).isSome σ:=by
 show ah.ofOpt (dP (.str k) (.ref r) σ) σ=_
 have:dP (.str k) (.ref r) σ=some (aG k es).isSome:=by unfold dP;dsimp only;rw[h]
 rw[this];rfl
theorem Ks{es:List (Str×H)}{k:Str}{v:H}(h:σ[r]?=some (.ds es))(hv:aG k es=some v):f6 (.ref r) (.str k) σ=.ok v σ:=by
 show mu (.ref r) (.str k) σ=_;unfold mu;dsimp only;rw[h];show ah.ofOpt (aG k es) σ=_;rw[hv];rfl
noncomputable abbrev cV:=List ((Str×Int)×H)
structure dC where
 i:Nat
 g:Nat
 o:Nat
 h:Nat
 gn:Nat
 od:Nat
structure dC.Lt(X:dC):Prop where
 a:X.i<X.g
 b:X.g<X.o
 c:X.o<X.h
 d:X.h<X.gn
 e:X.gn<X.od
structure dB(p:List aq)(n:Nat)(es gs:cV)(os:List H)(X:dC)(σ:aa):Prop where
 ns:σ[X.i]?=some (.ns (za p n X.g X.o X.h X.gn X.od))
 gv:σ[X.g]?=some (.ds (eS p))
 ot:σ[X.o]?=some (.lst ((f0 p).map .str))
 hr:σ[X.h]?=some (.dp es)
 go:σ[X.gn]?=some (.dp gs)
 od:σ[X.od]?=some (.lst os)
 lt:X.Lt
structure fR(X:dC)(σ σ':aa):Prop where
 len:σ.length<=σ'.length
 at_:∀(j:Nat) (m:aW),j≠X.h->j≠X.gn->j≠X.od->σ[j]?=some m->σ'[j]?=some m
theorem fR.refl{X:dC}:fR X σ σ:=⟨dA _,fun J J J J J h=>h⟩
theorem fR.trans{X:dC}{a b c:aa}(k:fR X a b)(l:fR X b c):fR X a c:=⟨aH k.len l.len,fun j m L O aw h=>l.at_ j m L O aw (k.at_ j m L O aw h)⟩
theorem iD(e:σ[j]?=some m):(σ++τ)[j]?=some m:=by exact(iA (dX e).1).symm▸e
theorem dw{k:Nat}(a5:k≠j)(e:σ[j]?=some m):(σ.set k bw)[j]?=some m:=(List.getElem?_set_ne a5).trans e
theorem oD(e:σ[j]?=some m):(σ.set j bw)[j]?=some bw:=List.getElem?_set_self (dX e).1
theorem fR.app{X:dC}:fR X σ (σ++τ):=⟨by exact cW.symm▸(gc _ _),fun J J J J J h=>iD h⟩
theorem fR.set{X:dC}(a5:j=X.h\/j=X.gn\/j=X.od):fR X σ (σ.set j m):=⟨by exact List.length_set.symm▸(dA _),fun k bw L O aw h=>dw (fun q=>by
 subst q
 rcases a5 with q | q | q
 ·exact L q
 ·exact O q
 ·exact aw q) h⟩
section
variable {p:List aq}{es gs:cV}{X:dC}
theorem dB.more(b:dB p n es gs os X σ):dB p n es gs os X (σ++τ):=⟨iD b.ns,iD b.gv,iD b.ot,iD b.hr,iD b.go,iD b.od,b.lt⟩
theorem dC.Lt.hi(l:X.Lt):X.h≠X.i:=c7 (eD l.a (eD l.b l.c))
theorem dC.Lt.hg(l:X.Lt):X.h≠X.g:=c7 (eD l.b l.c)
theorem dC.Lt.gi(l:X.Lt):X.gn≠X.i:=c7 (eD l.a (eD l.b (eD l.c l.d)))
theorem dC.Lt.gg(l:X.Lt):X.gn≠X.g:=c7 (eD l.b (eD l.c l.d))
theorem dC.Lt.go(l:X.Lt):X.gn≠X.o:=c7 (eD l.c l.d)
theorem dC.Lt.oh(l:X.Lt):X.od≠X.h:=c7 (eD l.d l.e)
theorem dC.Lt.oo(l:X.Lt):X.od≠X.o:=c7 (eD l.c (eD l.d l.e))
theorem dC.Lt.og(l:X.Lt):X.od≠X.g:=c7 (eD l.b (eD l.c (eD l.d l.e)))
theorem dC.Lt.oi(l:X.Lt):X.od≠X.i:=c7 (eD l.a (eD l.b (eD l.c (eD l.d l.e))))
theorem dB.here{es':cV}(b:dB p n es gs os X σ):dB p n es' gs os X (σ.set X.h (.dp es')):=
 ⟨dw b.lt.hi b.ns,dw b.lt.hg b.gv,dw (c7 b.lt.c) b.ot,oD b.hr,dw (h5 b.lt.d) b.go,dw b.lt.oh.symm b.od,b.lt⟩
theorem dB.gone{Hp:cV}(b:dB p n es gs os X σ):dB p n es Hp os X (σ.set X.gn (.dp Hp)):=
 ⟨dw b.lt.gi b.ns,dw b.lt.gg b.gv,dw b.lt.go b.ot,dw (c7 b.lt.d) b.hr,oD b.go,dw (h5 b.lt.e) b.od,b.lt⟩
theorem dB.order{vV:List H}(b:dB p n es gs os X σ):dB p n es gs vV X (σ.set X.od (.lst vV)):=
 ⟨dw b.lt.oi b.ns,dw b.lt.og b.gv,dw b.lt.oo b.ot,dw b.lt.oh b.hr,dw (c7 b.lt.e) b.go,oD b.od,b.lt⟩
end
noncomputable def jN:c2->Bool
 | .word w=>w == "choose"
 | _=>false
noncomputable def jz:H->Bool
 | .int i=>i == 0
 | _=>false
noncomputable def mO(es:cV)(s:aq)(t:Int):List Str:=
 if jN s.rule=true then(match s.needs with
  | [a,b,c]=>(match aG (a,t) es with
   | none=>[a]
   | some v=>if jz v=true then[b]else[c])
  | _=>[])
 else s.needs
noncomputable def eH(es:cV)(s:aq)(t:Int):Option Str:=(mO es s t).find? fun x=>(aG (x,t) es).isNone
noncomputable def o7(es gs:cV)(s:aq)(t:Int):Bool:=(aG (s.name,t) gs).isNone&&(eH es s t).isNone
noncomputable def o4:Option Str->H
 | some x=>.str x
 | none=>.none
noncomputable def fw(es:cV):Prop:=∀k v,aG k es=some v->∃i:Int,v=.int i/\0<=i/\i<=999999
section
variable {p:List aq}{es gs:cV}{X:dC}
theorem rM(b:dB p n es gs os X σ):bB PP topN (d+1) lZ [.inst bZ X.i,.str x,.int t] σ=.ok (.bool (aG (x,t) gs).isSome) σ:=by
 rw[cC (fn:=xN) rfl rfl]
 have:ex (CC d) topN xN.body [bY X.i,a1 x,af t] σ=.ret (.bool (aG (x,t) gs).isSome) [bY X.i,a1 x,af t] σ:=
  bf (cH (eE (x:=.tup [.str x,.int t]) (ac:=σ) rfl (hI (i:=X.i) (ac:=σ) (v:=.ref X.gn) rfl b.ns rfl) (vv b.go)))
 exact(congrArg bg this).trans rfl
theorem JF{j:Int}(h:σ[r]?=some (.dp es)):cY .notin (.tup [.str x,.int j]) (.ref r) σ=.ok (aG (x,j) es).isNone σ:=by
 show ah.ofOpt ((dP (.tup [.str x,.int j]) (.ref r) σ).map (!·)) σ=_
 have:dP (.tup [.str x,.int j]) (.ref r) σ=some (aG (x,j) es).isSome:=by unfold dP;dsimp only;rw[h];rfl
 rw[this];cases aG (x,j) es <;> rfl
theorem G7{f:az->aa->bO}{x v:H}(hb:gG x ρ=some bU)(h:f bU σ=.ret v eA ar):cj none gG f (x::xs) ρ σ=.ret v eA ar:=by
 refine(aD trivial).trans ?_;rw[hb];show iG _ (f bU σ)=_;rw[h];rfl
theorem SE{y:Option H}(b:dB p n es gs os X σ):∀(ns:List Str) (z:Option H),∃bV,
  cj none (dM 5) (fun ρ σ=>ex (CC d) topN xP ρ σ) (ns.map .str) [bY X.i,some sp,af t,some pl,y,z] σ =
   match ns.find? fun x=>(aG (x,t) es).isNone with
   | some x=>.ret (.str x) [bY X.i,some sp,af t,some pl,y,bV] σ
   | none=>.next [bY X.i,some sp,af t,some pl,y,bV] σ:=by
 intro ns
 induction ns with
 | nil=>intro z;exact⟨z,eP⟩
 | cons x ns aj =>
  intro z
  have cm:tst (CC d) (.cmp (.tup #v[(.v 5),(.v 2)]) .notin (.attr bZ (.v 0) "here")) [bY X.i,some sp,af t,some pl,y,a1 x] σ=.ok (aG (x,t) es).isNone σ:=
   b4 (x:=.tup [.str x,.int t]) (ac:=σ) rfl (hI (i:=X.i) (ac:=σ) (v:=.ref X.h) rfl b.ns rfl) (JF b.hr)
  rw[jL]
  cases hq:(aG (x,t) es).isNone with
  | true =>
   rw[hq]at cm;exact⟨a1 x,G7 (bU:=[bY X.i,some sp,af t,some pl,y,a1 x]) rfl (bf (a:=xQ) ((cz cm).trans (bf (cH rfl))))⟩
  | false =>
   rw[hq]at cm;refine aL (aj (a1 x)) fun bV e=>?_;exact⟨bV,(eh (bU:=[bY X.i,some sp,af t,some pl,y,a1 x]) (eA:=[bY X.i,some sp,af t,some pl,y,a1 x]) (ar:=σ) rfl ((am (a:=xQ) (bC cm)).trans bX)).trans e⟩
theorem AA{y z:Option H}{ns:List Str}(b:dB p n es gs os X σ)(hp:evIt (CC d) (.v 3) [bY X.i,some sp,af t,some pl,y,z] σ=.ok (ns.map .str,none) σ) :
  bg (ex (CC d) topN #v[pU,ua] [bY X.i,some sp,af t,some pl,y,z] σ)=.ok (o4 (ns.find? fun x=>(aG (x,t) es).isNone)) σ:=by
 refine aL (SE (d:=d) (t:=t) (sp:=sp) (pl:=pl) (y:=y) b ns z) fun bV e=>?_;have ak:=eO (C:=CC d) (n:=topN) (i:=5) (body:=xP) hp e
 cases hq:ns.find? fun x=>(aG (x,t) es).isNone with
 | none =>
  rw[hq]at ak;exact(congrArg bg ((am (a:=pU) ak).trans rfl)).trans rfl
 | some x =>
  rw[hq]at ak;exact(congrArg bg (bf (a:=pU) ak)).trans rfl
theorem v1{r:c2}{k g:Nat}(h:fv r k g):∃w,(∀σ,f6 r.pv (.int 0) σ=.ok (.str w) σ)/\(w == "choose")=jN r/\(jN r=true->k=3):=by
 cases h <;> first | exact⟨_,fun J=>rfl,rfl,fun z=>by contradiction⟩ | exact⟨_,fun J=>rfl,rfl,fun J=>rfl⟩ | exact⟨"fixed",fun J=>rfl,by decide +kernel,fun z=>by contradiction⟩ | skip
 all_goals refine⟨_,fun J=>rfl,rfl,fun z=>?_⟩
 all_goals (revert z;decide +kernel)
noncomputable def iM(_:aq):Prop:=True
theorem AB{s:aq}(b:dB p n es gs os X σ)(hs:gV s)(hr:iM s)(hv:fw es):bB PP topN (d+1) p4 [.inst bZ X.i,s.pv,.int t] σ=.ok (o4 (eH es s t)) σ:=by
 rw[cC (fn:=DQ) rfl rfl];show bg (ex (CC d) topN #v[xO,rx,pU,ua] [bY X.i,some s.pv,af t,none,none,none] σ)=_;refine bu (v1 hs.rule) fun w oS r7 Qs=>?_;rw[am (a:=xO) (ρ':=[bY X.i,some s.pv,af t,some (.tup (s.needs.map .str)),none,none]) (σ':=σ) rfl]
 have cm:tst (CC d) (.cmp (.sub (.sub (.v 1) (ae 1)) (ae 0)) .eq (.k (.str "choose"))) [bY X.i,some s.pv,af t,some (.tup (s.needs.map .str)),none,none] σ=.ok (jN s.rule) σ:=by
  rw[<- r7];exact b4 (x:=.str w) (ac:=σ) (cG (x:=s.rule.pv) (ac:=σ) rfl (y:=.int 0) (ar:=σ) rfl (oS σ)) (y:=.str "choose") (ar:=σ) rfl pT
 unfold eH mO
 cases hc:jN s.rule with
 | false =>
  rw[hc]at cm;rw[am (a:=rx) (bC cm),aY (by decide)];exact AA b rfl
 | true =>
  rw[hc]at cm;rw[aD rfl];have aw:=Qs hc;obtain⟨nm,rl,ns,gv⟩:=s;dsimp only at aw ⊢;obtain⟨x,y,z,rfl⟩:=qe (show ns.length=3 from aw);dsimp only
  have zf:ev (CC d) (.me .get (.attr bZ (.v 0) "here") #v[(.tup #v[(.sub (.v 3) (ae 0)),(.v 2)])]) [bY X.i,some (aq.pv ⟨nm,rl,[x,y,z],gv⟩),af t,some (.tup [.str x,.str y,.str z]),none,none] σ=.ok ((aG (x,t) es).getD .none) σ:=
   hJ (hI (i:=X.i) (ac:=σ) (v:=.ref X.h) rfl b.ns rfl) (zh b.hr) (y:=.tup [.str x,.int t]) (ar:=σ) rfl (zl b.hr)
  have ek:∀{o:bO},ex (CC d) topN #v[t8,t9] [bY X.i,some (aq.pv ⟨nm,rl,[x,y,z],gv⟩),af t,some (.tup [.str x,.str y,.str z]),some ((aG (x,t) es).getD .none),none] σ=o->ex (CC d) topN rx [bY X.i,some (aq.pv ⟨nm,rl,[x,y,z],gv⟩),af t,some (.tup [.str x,.str y,.str z]),none,none] σ=o:=fun{o} ho =>
   (cz cm).trans ((am (a:=DR) (bH zf)).trans ho)
  cases hx:aG (x,t) es with
  | none =>
   rw[hx]at ek;refine(congrArg bg (bf (ek (bf (a:=t8) ((cz (σ':=σ) rfl).trans (bf (a:=DS) (cH (v:=.str x) (σ':=σ) rfl))))))).trans ?_;show _=ah.ok (o4 ([x].find? fun x=>(aG (x,t) es).isNone)) σ;rw[jL,hx];rfl
  | some v =>
   rw[hx]at ek;obtain⟨i,rfl,_⟩:=hv _ _ hx
   have t1:ex (CC d) topN t8 [bY X.i,some (aq.pv ⟨nm,rl,[x,y,z],gv⟩),af t,some (.tup [.str x,.str y,.str z]),af i,none] σ=.next [bY X.i,some (aq.pv ⟨nm,rl,[x,y,z],gv⟩),af t,some (.tup [.str x,.str y,.str z]),af i,none] σ:=(bC (σ':=σ) rfl)
   have cO:tst (CC d) (.cmp (.v 4) .eq (ae 0)) [bY X.i,some (aq.pv ⟨nm,rl,[x,y,z],gv⟩),af t,some (.tup [.str x,.str y,.str z]),af i,none] σ=.ok (i == 0) σ:=rfl;show bg (ex (CC d) topN #v[rx,pU,ua] _ σ)=.ok (o4 ((if(i == 0)=true then[y]else[z]).find? _)) σ
   cases hi:(i == 0)with
   | true =>
    rw[hi]at cO;refine(congrArg bg (am (ek ((am t1).trans ((am (a:=t9) ((cz cO).trans ((am (a:=DU) (bH (v:=.tup [.str y]) (σ':=σ) rfl)).trans bX))).trans bX))))).trans ?_;exact AA (ns:=[y]) b rfl
   | false =>
    rw[hi]at cO;refine(congrArg bg (am (ek ((am t1).trans ((am (a:=t9) ((Dy cO).trans ((am (a:=DT) (bH (v:=.tup [.str z]) (σ':=σ) rfl)).trans bX))).trans bX))))).trans ?_;exact AA (ns:=[z]) b rfl
theorem A5{s:aq}(b:dB p n es gs os X σ)(hs:gV s)(hr:iM s)(hv:fw es):bB PP topN (d+2) p3 [.inst bZ X.i,s.pv,.int t] σ=.ok (.bool (o7 es gs s t)) σ:=by
 rw[cC (fn:=DO) rfl rfl]
 have V:ev (CC (d+1)) (.meth bZ lZ "has_fired" (.v 0) #v[(.sub (.v 1) (ae 0)),(.v 2)]) [bY X.i,some s.pv,af t] σ=.ok (.bool (aG (s.name,t) gs).isSome) σ:=
  fW (i:=X.i) (ac:=σ) (ar:=σ) (vs:=[.str s.name,.int t]) rfl b.ns rfl rfl (rM b)
 have ak:ev (CC (d+1)) (.meth bZ p4 "missed" (.v 0) #v[(.v 1),(.v 2)]) [bY X.i,some s.pv,af t] σ=.ok (o4 (eH es s t)) σ:=
  fW (i:=X.i) (ac:=σ) (ar:=σ) (vs:=[s.pv,.int t]) rfl b.ns rfl rfl (AB b hs hr hv)
 have bG:ev (CC (d+1)) (.not (.meth bZ lZ "has_fired" (.v 0) #v[(.sub (.v 1) (ae 0)),(.v 2)])) [bY X.i,some s.pv,af t] σ=.ok (.bool (aG (s.name,t) gs).isNone) σ:=by
  rw[NB,V];cases aG (s.name,t) gs <;> rfl
 have kk:ev (CC (d+1)) (.cmp (.meth bZ p4 "missed" (.v 0) #v[(.v 1),(.v 2)]) .is (.k .none)) [bY X.i,some s.pv,af t] σ=.ok (.bool (eH es s t).isNone) σ:=
  eE ak (y:=.none) (ar:=σ) rfl (by cases eH es s t <;> rfl)
 exact(congrArg bg (bf (a:=DP) (cH (kl (tP bG fun J=>lJ kk))))).trans rfl
end
noncomputable def ig(vs:List H):List Int:=(gd vs).getD []
noncomputable def qx(l:List Int):Int:=l.foldl (fun a x=>a*x%1000000) 1
noncomputable def lm:List Int->Int
 | []=>0
 | x::l=>l.foldl min x
noncomputable def ln:List Int->Int
 | []=>0
 | x::l=>l.foldl max x
theorem w1:∀l:List Int,gd (l.map .int)=some l:=by
 intro l
 induction l with
 | nil=>rfl
 | cons x l aj=>show(gd (l.map .int)).map (x::·)=_;rw[aj];rfl
theorem lh:ig (l.map .int)=l:=by unfold ig;rw[w1];rfl
theorem T3{w:Option H}:∀(l:List Int) (a:Int) (z:Option H),(0<=a/\a<=999999)->(∀x∈l,0<=x/\x<=999999)->∃bV,cj none (dM 2) (fun ρ σ=>ex (CC d) topN GD ρ σ) (l.map .int) [some pl,af a,z,w] σ=.next [some pl,af (l.foldl (fun a x=>a*x%1000000) a),bV,w] σ:=by
 intro l
 induction l with
 | nil=>intro a z _ _;exact⟨z,eP⟩
 | cons x l aj =>
  intro a z ha hl;have hb:0<=a*x%1000000/\a*x%1000000<=999999:=⟨eZ _ (by decide),Int.le_of_lt_add_one (fU _ (by decide))⟩;refine aL (aj (a*x%1000000) (af x) hb fun y hy=>hl y (bM _ hy)) fun bV e=>?_;refine⟨bV,(eh (bU:=[some pl,af a,af x,w]) (eA:=[some pl,af (a*x%1000000),af x,w]) (ar:=σ) rfl ?_).trans e⟩;refine(am (a:=GF) (bH (cS (cS (x:=.int a) (ac:=σ) rfl (y:=.int x) (ar:=σ) rfl (mul_int (.inl ?_))) (y:=.int 1000000) (ar:=σ) rfl (ih (by decide))))).trans bX
  (grind)
theorem T5(h:∀x∈l,0<=x/\x<=999999):bB PP topN (d+1) Iu [.fl (l.map .int)] σ=.ok (.int (qx l)) σ:=by
 rw[cC (fn:=GB) rfl rfl];obtain⟨z,e⟩:=T3 (d:=d) (σ:=σ) (pl:=.fl (l.map .int)) (w:=none) l 1 none (by decide) h;exact(congrArg bg (rfl.trans ((am (a:=GC) (eO (ys:=l.map .int) (ac:=σ) rfl e)).trans rfl))).trans rfl
theorem w3:(b2 σ (.fl (l.map .int))).bind gd=some l:=w1 l
theorem Ku(hl:l.length<=1000)(h:∀x∈l,0<=x/\x<=999999):dk .sum (.fl (l.map .int)) σ=.ok (.int l.sum) σ:=by
 show fZ gd (fun l=>if l.length<=1000/\l.all (fun x=>decide (x.natAbs<2 ^ 40))then ah.ok (H.int l.sum) σ else .stuck) (.fl (l.map .int)) σ=_;rw[su w3];refine aD ⟨hl,fI.mpr fun x hx=>dz ?_⟩;have:=h x hx
 (grind)
theorem SA{x:Int}:dk .min (.fl ((x::l).map .int)) σ=.ok (.int (lm (x::l))) σ:=by
 show fZ gd (fun l=>match l with
  | x::l=>ah.ok (H.int (l.foldl min x)) σ
  | []=>.stuck) (.fl ((x::l).map .int)) σ=_
 rw[su w3];rfl
theorem Sg{x:Int}:dk .max (.fl ((x::l).map .int)) σ=.ok (.int (ln (x::l))) σ:=by
 show fZ gd (fun l=>match l with
  | x::l=>ah.ok (H.int (l.foldl max x)) σ
  | []=>.stuck) (.fl ((x::l).map .int)) σ=_
 rw[su w3];rfl
noncomputable def nw:c2->List H->H
 | .fixed v,_=>.int v
 | .word w,vs =>
  if w == ("sum" : Str)then .int ((ig vs).sum%1000000)else
  if w == ("times" : Str)then .int (qx (ig vs))else
  if w == ("least" : Str)then .int (lm (ig vs))else
  if w == ("most" : Str)then .int (ln (ig vs))else
  if w == ("choose" : Str)then(if jz (vs.getD 0 .none)=true then vs.getD 1 .none else vs.getD 2 .none)else
  vs.getD 0 .none
noncomputable def qO:c2->Bool
 | .word w=>w == "way"
 | _=>false
noncomputable def hS(r:c2)(vs:List H)(k:Nat):List H:=
 if qO r=true then(if jz (vs.getD 1 .none)=true then[vs.getD 0 .none,.none]else[.none,vs.getD 0 .none])else List.replicate k (nw r vs)
noncomputable def dF(v:H):Prop:=∃i:Int,v=.int i/\0<=i/\i<=999999
noncomputable def nQ(r:c2)(vs:List H):Prop:=if jN r=true then dF (vs.getD 0 .none)/\dF (if jz (vs.getD 0 .none)=true then vs.getD 1 .none else vs.getD 2 .none)else ∀v∈vs,dF v
theorem lu:∀{vs:List H},(∀v∈vs,dF v)->∃l:List Int,vs=l.map .int/\∀x∈l,0<=x/\x<=999999:=by
 intro vs
 induction vs with
 | nil=>intro _;exact⟨[],rfl,fun x hx=>by contradiction⟩
 | cons v vs aj =>
  intro h;refine ay (aj fun w hw=>h w (bM _ hw)) fun l ag hl=>?_;obtain rfl:=ag;refine ay (h v bi) fun i ag hi=>?_;obtain rfl:=ag
  exact⟨i::l,rfl,fun x hx=>by
   rcases b5.mp hx with rfl | hx
   ·exact hi
   ·exact hl x hx⟩
theorem dF.get{vs:List H}(h:∀v∈vs,dF v)(hi:i<vs.length):∃x:Int,vs.getD i .none=.int x/\vs[i]?=af x:=by
 refine ay (h vs[i] (List.getElem_mem hi)) fun x hx J=>?_;exact⟨x,by rw[kP,dI hi];exact hx,by rw[dI hi,hx]⟩
theorem qH{vs:List H}{x:H}(hl:vs.length<=100)(h:vs[i]?=some x):f6 (.fl vs) (.int (i:Nat)) σ=.ok x σ:=
 j1 (aH hl (by decide)) (d3 i) (by rw[kT];exact h)
theorem MD{a b c:H}(ha:∃i:Int,a=.int i):bB PP topN (d+1) Ig [.fl [a,b,c]] σ=.ok (if jz a=true then b else c) σ:=by
 refine aL ha fun i ag=>?_;obtain rfl:=ag;rw[cC (fn:=D9) rfl rfl];have t:tst (CC d) (.cmp (.sub (.v 0) (ae 0)) .eq (ae 0)) [some (.fl [.int i,b,c])] σ=.ok (i == 0) σ:=rfl;show bg (ex (CC d) topN #v[ud,Ea] [some (.fl [.int i,b,c])] σ)=.ok (if(i == 0)=true then b else c) σ
 cases hi:(i == 0)with
 | true =>
  rw[hi]at t;exact(congrArg bg (bf (a:=ud) ((cz t).trans rfl))).trans rfl
 | false =>
  rw[hi]at t;exact(congrArg bg ((am (a:=ud) (bC t)).trans rfl)).trans rfl
theorem U3{r:c2}{vs:List H}{k:Nat}(h:fv r vs.length k)(hw:qO r=false)(hl:vs.length<=100)(L:1<=vs.length)(he:nQ r vs):bB PP topN (d+2) Iw [r.pv,.fl vs] σ=.ok (nw r vs) σ:=by
 rw[cC (fn:=GR) rfl rfl];show bg (ex (CC (d+1)) topN #v[mW,lP,mX,oC,rC,uJ,uK,yT] [some r.pv,some (.fl vs),none,none,none,none,none,none,none] σ)=_;generalize hk:vs.length=m at h
 cases h with
 | sum _ _ =>
  refine ay (lu (show ∀v∈vs,dF v from he)) fun l ag hv=>?_;obtain rfl:=ag
  have e:ev (CC (d+1)) (.bin .mod (.b1 .sum (.v 1)) (ae 1000000)) [some (c2.pv (.word "sum")),some (.fl (l.map .int)),a1 "sum",none,none,none,none,none,none] σ=.ok (.int (l.sum%1000000)) σ:=
   cS (cZ (x:=.fl (l.map .int)) (ac:=σ) rfl (Ku (by rw[be]at hl;(exact aH (by assumption) (by decide))) hv)) (y:=.int 1000000) (ar:=σ) rfl (ih (by decide))
  refine(congrArg bg (rfl.trans (bf (a:=lP) (rfl.trans (bf (a:=GS) (cH e)))))).trans ?_;show ah.ok (H.int (l.sum%1000000)) σ=ah.ok (.int ((ig (l.map .int)).sum%1000000)) σ;rw[lh]
 | times _ _ =>
  refine ay (lu (show ∀v∈vs,dF v from he)) fun l ag hv=>?_;obtain rfl:=ag;refine(congrArg bg ((am (a:=mW) rfl).trans ((am (a:=lP) rfl).trans (bf (a:=mX) (rfl.trans (bf (a:=GU) (cH (d8 (x:=.fl (l.map .int)) (ac:=σ) rfl (T5 hv))))))))).trans ?_;show ah.ok (H.int (qx l)) σ=ah.ok (.int (qx (ig (l.map .int)))) σ;rw[lh]
 | least _ _ =>
  refine ay (lu (show ∀v∈vs,dF v from he)) fun l ag hv=>?_;obtain rfl:=ag
  cases l with
  | nil=>exact absurd L (by decide)
  | cons x l =>
  refine(congrArg bg ((am (a:=mW) rfl).trans ((am (a:=lP) rfl).trans ((am (a:=mX) rfl).trans
   (bf (a:=oC) (rfl.trans (bf (a:=GV) (cH (cZ (x:=.fl ((x::l).map .int)) (ac:=σ) rfl SA))))))))).trans ?_
  show ah.ok (H.int (lm (x::l))) σ=ah.ok (.int (lm (ig ((x::l).map .int)))) σ;rw[lh]
 | most _ _ =>
  refine ay (lu (show ∀v∈vs,dF v from he)) fun l ag hv=>?_;obtain rfl:=ag
  cases l with
  | nil=>exact absurd L (by decide)
  | cons x l =>
  refine(congrArg bg ((am (a:=mW) rfl).trans ((am (a:=lP) rfl).trans ((am (a:=mX) rfl).trans ((am (a:=oC) rfl).trans
   (bf (a:=rC) (rfl.trans (bf (a:=GW) (cH (cZ (x:=.fl ((x::l).map .int)) (ac:=σ) rfl Sg)))))))))).trans ?_
  show ah.ok (H.int (ln (x::l))) σ=ah.ok (.int (ln (ig ((x::l).map .int)))) σ;rw[lh]
 | later _ =>
  have hx:vs[0]?=some (vs.getD 0 .none):=by rw[kP,dI (show 0<vs.length from L)];rfl
  exact(congrArg bg ((am (a:=mW) rfl).trans ((am (a:=lP) rfl).trans ((am (a:=mX) rfl).trans ((am (a:=oC) rfl).trans ((am (a:=rC) rfl).trans
   ((am (a:=uJ) rfl).trans ((am (a:=uK) rfl).trans (bf (a:=yT) (cH (cG (x:=.fl vs) (ac:=σ) rfl (y:=.int ((0:Nat):Int)) (ar:=σ) rfl (qH hl hx)))))))))))).trans rfl
 | way=>contradiction
 | choose _ =>
  refine ay ((show dF (vs.getD 0 .none)from And.left he)) fun i hi J=>?_;refine rs (qe hk) fun a b c ag=>?_;obtain rfl:=ag
  exact(congrArg bg ((am (a:=mW) rfl).trans ((am (a:=lP) rfl).trans ((am (a:=mX) rfl).trans ((am (a:=oC) rfl).trans ((am (a:=rC) rfl).trans
   ((am (a:=uJ) rfl).trans (bf (a:=uK) (rfl.trans (bf (a:=GX) (cH (d8 (x:=.fl [a,b,c]) (ac:=σ) rfl (MD ⟨i,hi⟩))))))))))))).trans rfl
 | fixed v _ _ _ _ =>
  exact(congrArg bg ((am (a:=mW) rfl).trans ((am (a:=lP) rfl).trans ((am (a:=mX) rfl).trans ((am (a:=oC) rfl).trans (rfl.trans
   rfl)))))).trans rfl
theorem TK{r:c2}{vs:List H}{k:Nat}(h:fv r vs.length k)(hl:vs.length<=100)(L:1<=vs.length)(hk:k<=100)(he:nQ r vs):bB PP topN (d+3) Ac [r.pv,.fl vs,.int (k:Nat)] σ=.ok (.fl (hS r vs k)) σ:=by
 rw[cC (fn:=Gv) rfl rfl];show bg (ex (CC (d+2)) topN #v[rB,yQ,yR] [some r.pv,some (.fl vs),af (k:Nat),none,none,none] σ)=_
 have cm:tst (CC (d+2)) (.cmp (.sub (.v 0) (ae 0)) .eq (.k (.str "way"))) [some r.pv,some (.fl vs),af (k:Nat),none,none,none] σ=.ok (qO r) σ:=by
  generalize vs.length=m at h;cases h <;> rfl
 unfold hS
 cases hw:qO r with
 | true =>
  rw[hw]at cm;rw[aD rfl];generalize hm:vs.length=m at h
  cases h with
  | way =>
   refine jm (Ak hm) fun a b ag=>?_;obtain rfl:=ag;obtain⟨j,rfl,_⟩:=(show ∀v∈[a,b],dF v from he) b ((bM _ bi));have cO:tst (CC (d+2)) (.cmp (.sub (.v 1) (ae 1)) .eq (ae 0)) [some (c2.pv (.word "way")),some (.fl [a,.int j]),af ((2:Nat):Int),none,none,none] σ=.ok (j == 0) σ:=rfl;show _=ah.ok (H.fl (if(j == 0)=true then[a,.none]else[.none,a])) σ
   cases a5:(j == 0)with
   | true =>
    rw[a5]at cO;exact(congrArg bg (bf (a:=rB) ((cz cm).trans (bf (a:=yP) ((cz cO).trans rfl))))).trans rfl
   | false =>
    rw[a5]at cO;exact(congrArg bg (bf (a:=rB) ((cz cm).trans ((am (a:=yP) (bC cO)).trans rfl)))).trans rfl
  | _=>contradiction
 | false =>
  rw[hw]at cm;rw[aY (by decide)]
  have ek:ex (CC (d+2)) topN yQ [some r.pv,some (.fl vs),af (k:Nat),none,none,none] σ=.next [some r.pv,some (.fl vs),af (k:Nat),some (nw r vs),none,none] σ:=
   bH (jl (x:=r.pv) (y:=.fl vs) (ac:=σ) (ar:=σ) rfl rfl (U3 h hw hl L he))
  have A9:evIt (CC (d+2)) (.range1 (.v 2)) [some r.pv,some (.fl vs),af (k:Nat),some (nw r vs),none,none] σ=.ok (dh 0 1 k,none) σ:=by
   show(if 0<=(k:Int)/\(k:Int)<=aI then ah.ok (dh 0 1 (k:Int).toNat,none) σ else .stuck)=_;rw[aD ⟨(d3 _),by rw[eV];(exact Int.ofNat_le.mpr (aH (by assumption) (by decide)))⟩];rfl
  have c:ev (CC (d+2)) Gw [some r.pv,some (.fl vs),af (k:Nat),some (nw r vs),none,none] σ=.ok (.fl ((dh 0 1 k).map fun J=>nw r vs)) σ:=
   lI (fun J=>nw r vs) A9 (by rw[eV];simp[dh];(exact aH (by assumption) (by decide))) fun x J=>rfl
  rw[List.map_const',show(dh 0 1 k).length=k by simp[dh]]at c;exact(congrArg bg ((am (a:=rB) (bC cm)).trans ((am ek).trans (bf (a:=yR) (cH c))))).trans rfl
section
variable {p:List aq}{es gs:cV}{X:dC}
theorem vM(b:dB p n es gs os X σ)(h0:0<=t)(L:t<n):bB PP topN (d+2) vg [.inst bZ X.i,.int t] σ=.ok .none σ:=by
 rw[cC (fn:=D1) rfl rfl]
 have c:bB PP topN (d+1) oW [.int t,.int 0,.int ((n:Int)-1)] σ=.ok (.bool true) σ:=by
  rw[CI,dz h0,dz (show t<=(n:Int)-1 by grind)];rfl
 have cm:tst (CC (d+1)) (.not (.call oW #v[(.v 1),(ae 0),(.bin .sub (.attr bZ (.v 0) "turns") (ae 1))])) [bY X.i,af t,none,none] σ=.ok (!true) σ:=
  ht (jx (pS (x:=.int t) (ac:=σ) rfl (y:=.int 0) (ar:=σ) rfl (cS (hI (i:=X.i) (ac:=σ) (v:=.int n) rfl b.ns rfl) (y:=.int 1) (ar:=σ) rfl sub_int) c))
 exact(congrArg bg ((am (a:=D2) (bC cm)).trans bX)).trans rfl
theorem Vv{s:aq}:∀(q:List aq) (z:Option H),s∈q->(q.map (·.name)).Nodup->∃bV,cj none (dM 2) (fun ρ σ=>ex (CC d) topN D0 ρ σ) (q.map aq.pv) [bY i,a1 s.name,z,none,none,none] σ=.ret s.pv [bY i,a1 s.name,bV,none,none,none] σ:=by
 intro q
 induction q with
 | nil=>intro z h _;contradiction
 | cons a q aj =>
  intro z h hn;rw[dD,gZ]at hn;have cm:tst (CC d) (.cmp (.sub (.v 2) (ae 0)) .eq (.v 1)) [bY i,a1 s.name,some a.pv,none,none,none] σ=.ok (a.name == s.name) σ:=rfl;by_cases ha:a.name=s.name
  ·have:a=s:=by
    rcases b5.mp h with rfl | h
    ·rfl
    ·exact absurd (ci.mpr ⟨s,h,ha.symm⟩) hn.1
   subst this;rw[beq_self_eq_true]at cm;exact⟨some a.pv,G7 (bU:=[bY i,a1 a.name,some a.pv,none,none,none]) rfl (bf (a:=xR) ((cz cm).trans rfl))⟩
  ·rw[kR.mpr ha]at cm;refine aL (aj (some a.pv) ((b5.mp h).resolve_left fun q=>ha (q▸rfl)) hn.2) fun bV e=>?_;exact⟨bV,(eh (bU:=[bY i,a1 s.name,some a.pv,none,none,none]) (eA:=[bY i,a1 s.name,some a.pv,none,none,none]) (ar:=σ) rfl ((am (a:=xR) (bC cm)).trans bX)).trans e⟩
theorem JX{o:Mine.X}(b:dB p n es gs os X σ)(ho:ev (CC d) o ρ σ=.ok (.inst bZ X.i) σ):evIt (CC d) (.attr bZ o "plan") ρ σ=.ok (p.map aq.pv,none) σ:=by
 show(ev (CC d) (.attr bZ o "plan") ρ σ).bind d4=_;rw[hI (v:=bv p) ho b.ns rfl];rfl
theorem AH{s:aq}(b:dB p n es gs os X σ)(hs:s∈p)(hn:(p.map (·.name)).Nodup):bB PP topN (d+1) z5 [.inst bZ X.i,.str s.name] σ=.ok s.pv σ:=by
 rw[cC (fn:=DX) rfl rfl];refine aL (Vv (d:=d) (σ:=σ) (i:=X.i) p none hs hn) fun z e=>?_
 have ak:ex (CC d) topN DZ [bY X.i,a1 s.name,none,none,none,none] σ=.ret s.pv [bY X.i,a1 s.name,z,none,none,none] σ:=
  eO (ys:=p.map aq.pv) (ac:=σ) (JX b rfl) e
 exact(congrArg bg (bf (a:=DY) (rfl.trans (bf ak)))).trans rfl
theorem pd{f:Nat}{m:Str}{o args:Mine.X}(h:ev C (.meth c f m o args) ρ σ=.ok (.bool q) ac):tst C (.meth c f m o args) ρ σ=.ok q ac:=by
 show(ev C (.meth c f m o args) ρ σ).bind iI=_;rw[h];rfl
noncomputable def dr(es:cV)(s:aq)(t:Int):List H:=s.needs.map fun x=>(aG (x,t) es).getD .none
noncomputable def fq(s:aq)(t:Int):Int:=t+(if eG s.rule=true then 1 else 0)
noncomputable def hh(w:Int)(es:cV)(e:Str×H):cV:=if g7 e.2=true then es else eg (e.1,w) e.2 es
noncomputable def iU(n:Nat)(es:cV)(s:aq)(t:Int):cV:=if fq s t=n then es else(s.gives.zip (hS s.rule (dr es s t) s.gives.length)).foldl (hh (fq s t)) es
theorem xz{s:aq}(hs:gV s)(hv:fw es)(hm:eH es s t=none):nQ s.rule (dr es s t):=by
 unfold nQ;unfold eH mO at hm;rw[List.find?_eq_none]at hm
 have zk:∀x,¬(aG (x,t) es).isNone=true->dF ((aG (x,t) es).getD .none):=fun x hx=>by
  cases ha:aG (x,t) es with
  | none=>rw[ha]at hx;exact absurd rfl hx
  | some v=>exact hv _ _ ha
 refine bu (v1 hs.rule) fun J J J aw=>?_
 cases hc:jN s.rule with
 | false =>
  rw[hc,aY (by decide)]at hm;rw[aY (by decide)];intro v oR;refine ay (ci.mp oR) fun x hx ag=>?_;obtain rfl:=ag;exact zk x (hm x hx)
 | true =>
  rw[hc,aD rfl]at hm;rw[aD rfl];have aw:=aw hc;obtain⟨nm,rl,ns,gv⟩:=s;dsimp only at aw hm;refine rs (qe (show ns.length=3 from aw)) fun x y z ag=>?_;obtain rfl:=ag;dsimp only at hm
  cases ha:aG (x,t) es with
  | none =>
   rw[ha]at hm;exact absurd (by rw[ha];rfl) (hm x ((bi)))
  | some v =>
   rw[ha]at hm;show dF ((aG (x,t) es).getD .none)/\dF (if jz ((aG (x,t) es).getD .none)=true then(aG (y,t) es).getD .none else(aG (z,t) es).getD .none);rw[ha];refine⟨hv _ _ ha,?_⟩;dsimp only at hm;show dF (if jz v=true then(aG (y,t) es).getD .none else(aG (z,t) es).getD .none)
   cases a7:jz v with
   | true=>rw[a7]at hm;exact zk y (hm y ((bi)))
   | false=>rw[a7]at hm;exact zk z (hm z ((bi)))
theorem AZ{w:Int}{e:Str×H}:(hh w es e).length<=es.length+1:=by
 unfold hh
 split
 ·exact Nat.le_succ _
 ·unfold eg
  split
  ·rw[be];exact Nat.le_succ _
  ·rw[cW];exact dA _
theorem Uf{w:Int}:∀(l:List (Str×H)) (es:cV),(l.foldl (hh w) es).length<=es.length+l.length:=by
 intro l
 induction l with
 | nil=>intro es;exact dA _
 | cons e l aj =>
  intro es;rw[iO,dy];have L:=aj (hh w es e);have O:=AZ (w:=w) (es:=es) (e:=e)
  (grind)
theorem uP{w:Option (Nat×aW)}{f:az->aa->bO}(hw:hY w σ):cj w gG f [] ρ σ=.next ρ σ:=aD hw
theorem uO{w:Option (Nat×aW)}{f:az->aa->bO}{x:H}(hw:hY w σ)(hb:gG x ρ=some bU)(h:f bU σ=.next eA ar):cj w gG f (x::xs) ρ σ=cj w gG f xs eA ar:=by
 refine(aD hw).trans ?_;rw[hb];show iG _ (f bU σ)=_;rw[h];rfl
noncomputable def db(i:Nat)(nm:Str)(t:Int)(sp:H)(pl vs:Option H)(w:Option H)(v:Option H):az:=[bY i,a1 nm,af t,some sp,pl,vs,w,v,none,none,none,none,none,none]
theorem Ox{nm:Str}{w:Int}{vs:Option H}(a5:j≠X.h):∀(l:List (Str×H)) (es:cV) (σ:aa) (y z:Option H),σ[j]?=some .tp->dB p n es gs os X σ->es.length+l.length<900000 ->
  ∃b9 bV σ',cj (some (j,.tp)) (gF [4,7]) (fun ρ σ=>ex (CC d) topN xM ρ σ) (l.map fun e=>.tup [.str e.1,e.2]) (db X.i nm t sp y vs (af w) z) σ=.next (db X.i nm t sp b9 vs (af w) bV) σ'/\dB p n (l.foldl (hh w) es) gs os X σ'/\fR X σ σ':=by
 intro l
 induction l with
 | nil=>intro es σ y z hw b _;exact⟨y,z,σ,uP hw,b,.refl⟩
 | cons e l aj =>
  intro es σ y z hw b hl;rw[dy]at hl;obtain⟨x,v⟩:=e;have cm:tst (CC d) (.cmp (.v 7) .isNot (.k .none)) (db X.i nm t sp (a1 x) vs (af w) (some v)) σ=.ok (!g7 v) σ:=rfl;have hb:gF [4,7] (.tup [.str x,v]) (db X.i nm t sp y vs (af w) z)=some (db X.i nm t sp (a1 x) vs (af w) (some v)):=rfl
  have fin:∀{es':cV} {ac:aa},es'=hh w es (x,v)->ex (CC d) topN DM (db X.i nm t sp (a1 x) vs (af w) (some v)) σ=.next (db X.i nm t sp (a1 x) vs (af w) (some v)) ac->dB p n es' gs os X ac->fR X σ ac->ac[j]?=some .tp ->
    ∃b9 bV σ',cj (some (j,.tp)) (gF [4,7]) (fun ρ σ=>ex (CC d) topN xM ρ σ) (((x,v)::l).map fun e=>.tup [.str e.1,e.2]) (db X.i nm t sp y vs (af w) z) σ=.next (db X.i nm t sp b9 vs (af w) bV) σ'/\dB p n (((x,v)::l).foldl (hh w) es) gs os X σ'/\fR X σ σ':=fun{es' ac} he h b1 k1 oS=>by
   subst he;obtain⟨b9,bV,σ',e,cX,br⟩:=aj (hh w es (x,v)) ac (a1 x) (some v) oS b1 (by have:=AZ (w:=w) (es:=es) (e:=(x,v));(grind));exact⟨b9,bV,σ',(uO (w:=some (j,.tp)) hw hb ((am h).trans bX)).trans e,cX,k1.trans br⟩
  cases hv:g7 v with
  | true =>
   rw[hv]at cm;exact fin (es':=es) (by unfold hh;exact(aD hv).symm) (bC cm) b .refl hw
  | false =>
   rw[hv]at cm;refine fin (es':=eg (x,w) v es) (ac:=σ.set X.h (.dp (eg (x,w) v es))) (by unfold hh;exact(aY (by rw[hv];decide)).symm) ((cz cm).trans ((am (a:=DN) ?_).trans bX)) b.here (.set (.inl rfl)) (dw (Ne.symm a5) hw);have tu:ev (CC d) (.attr bZ (.v 0) "here") (db X.i nm t sp (a1 x) vs (af w) (some v)) σ=.ok (.ref X.h) σ:=hI (i:=X.i) (ac:=σ) rfl b.ns rfl;show(ev (CC d) (.v 7) (db X.i nm t sp (a1 x) vs (af w) (some v)) σ).toS _ (fun v σ=>(ev (CC d) (.attr bZ (.v 0) "here") (db X.i nm t sp (a1 x) vs (af w) (some v)) σ).toS _ fun o σ=>(ev (CC d) (.tup #v[(.v 4),(.v 6)]) (db X.i nm t sp (a1 x) vs (af w) (some v)) σ).toS _ fun i σ=>hW o i v _ σ)=_;rw[show ev (CC d) (.v 7) (db X.i nm t sp (a1 x) vs (af w) (some v)) σ=.ok v σ from rfl,gx,tu,gx,show ev (CC d) (.tup #v[(.v 4),(.v 6)]) (db X.i nm t sp (a1 x) vs (af w) (some v)) σ=.ok (.tup [.str x,.int w]) σ from rfl,gx];exact sQ b.hr (by rw[eV];(grind))
theorem rg{v:H}(h:σ[r]?=some (.lst xs))(hl:xs.length<900000):i2 .append (.ref r) [v] σ=.ok .none (σ.set r (.lst (xs++[v]))):=by
 show kf (.ref r) v σ=_;unfold kf;dsimp only;rw[h];dsimp only;exact aD (by rw[eV];(exact aH (by assumption) (by decide)))
theorem vI(h:σ[r]?=some (.lst xs)):o0 .append (.ref r) σ=true:=by
 show iZ (.ref r) σ=true;unfold iZ;dsimp only;rw[h]
theorem Aj{r:c2}{k g:Nat}(h:fv r k g):∃w,(∀σ,f6 r.pv (.int 0) σ=.ok (.str w) σ)/\(w == "later")=eG r:=by
 cases h <;> first | exact⟨_,fun J=>rfl,rfl⟩ | exact⟨"fixed",fun J=>rfl,by decide +kernel⟩
theorem XN:∀(a:List Str) (b:List H),mx (a.map .str) b=(a.zip b).map fun e=>.tup [.str e.1,e.2]:=by
 intro a
 induction a with
 | nil=>intro b;cases b <;> rfl
 | cons x a aj =>
  intro b
  cases b with
  | nil=>rfl
  | cons y b=>exact congrArg (_::·) (aj b)
theorem JO{r:c2}{vs:List H}{k g:Nat}(h:fv r k g):(hS r vs g).length=g:=by
 unfold hS
 cases hw:qO r with
 | false=>rw[aY (by decide)];exact List.length_replicate
 | true =>
  rw[aD rfl]
  cases h <;> first | contradiction | (split <;> rfl)
structure K8(p:List aq)(n:Nat)(es gs:cV)(os:List H)(X:dC)(σ:aa)(r:ah H)(v:H)(σ':aa):Prop where
 e:r=.ok v σ'
 b:dB p n es gs os X σ'
 k:fR X σ σ'
theorem NY{s:aq}(hp:cs p)(b:dB p n es gs os X σ)(hs:s∈p)(hr:iM s)(hv:fw es)(h0:0<=t)(L:t<n)(hg:aG (s.name,t) gs=none)(hm:eH es s t=none)
  (gN:es.length<800000) (l4:gs.length<800000) (YQ:os.length<800000) :
  ∃σ',K8 p n (iU n es s t) (gs++[((s.name,t),.bool true)]) (os++[.tup [.str s.name,.int t]]) X σ (bB PP topN (d+4) Ic [.inst bZ X.i,.str s.name,.int t] σ) .none σ':=by
 have dS:=hp.steps s hs;rw[cC (fn:=xK) rfl rfl]
 have f4:ex (CC (d+3)) topN DE [bY X.i,a1 s.name,af t,none,none,none,none,none,none,none,none,none,none,none] σ=.next (db X.i s.name t s.pv none none none none) σ:=
  bH (fW (i:=X.i) (ac:=σ) (ar:=σ) (vs:=[.str s.name]) rfl b.ns rfl rfl (AH b hs hp.names))
 have ek:ex (CC (d+3)) topN DF (db X.i s.name t s.pv none none none none) σ=.next (db X.i s.name t s.pv none none none none) σ:=
  fJ (fW (i:=X.i) (ac:=σ) (ar:=σ) (vs:=[.int t]) rfl b.ns rfl rfl (vM b h0 L))
 have jZ:ex (CC (d+3)) topN DG (db X.i s.name t s.pv none none none none) σ=.next (db X.i s.name t s.pv none none none none) σ:=by
  have c:=rM (d:=d+2) (x:=s.name) (t:=t) b;rw[hg]at c;exact(bC (pd (fW (i:=X.i) (ac:=σ) (ar:=σ) (vs:=[.str s.name,.int t]) rfl b.ns rfl rfl c)))
 have nt:ex (CC (d+3)) topN DH (db X.i s.name t s.pv none none none none) σ=.next (db X.i s.name t s.pv none none none none) σ:=by
  have c:=AB (d:=d+2) (t:=t) b dS hr hv;rw[hm]at c;exact(bC (b4 (fW (i:=X.i) (ac:=σ) (ar:=σ) (vs:=[s.pv,.int t]) rfl b.ns rfl rfl c) (y:=.none) (ar:=σ) rfl rfl))
 have nu:ex (CC (d+3)) topN DI (db X.i s.name t s.pv none none none none) σ=.next (db X.i s.name t s.pv none none none none) (σ.set X.gn (.dp (gs++[((s.name,t),.bool true)]))):=by
  have pI:ev (CC (d+3)) (.attr bZ (.v 0) "gone") (db X.i s.name t s.pv none none none none) σ=.ok (.ref X.gn) σ:=hI (i:=X.i) (ac:=σ) rfl b.ns rfl;show(ah.ok (H.bool true) σ).toS _ (fun v σ=>(ev (CC (d+3)) (.attr bZ (.v 0) "gone") (db X.i s.name t s.pv none none none none) σ).toS _ fun o σ=>(ev (CC (d+3)) (.tup #v[(.v 1),(.v 2)]) (db X.i s.name t s.pv none none none none) σ).toS _ fun i σ=>hW o i v _ σ)=_;rw[gx,pI,gx,show ev (CC (d+3)) (.tup #v[(.v 1),(.v 2)]) (db X.i s.name t s.pv none none none none) σ=.ok (.tup [.str s.name,.int t]) σ from rfl,gx,sQ b.go (by rw[eV];(exact aH (by assumption) (by decide))),w4 hg]
 have b1:dB p n es (gs++[((s.name,t),.bool true)]) os X (σ.set X.gn (.dp (gs++[((s.name,t),.bool true)]))):=b.gone;have k1:fR X σ (σ.set X.gn (.dp (gs++[((s.name,t),.bool true)]))):=.set (.inr (.inl rfl));generalize σ.set X.gn (.dp (gs++[((s.name,t),.bool true)]))=bN at nu b1 k1;generalize gs++[((s.name,t),.bool true)]=OC at b1 ⊢
 have nv:ex (CC (d+3)) topN DJ (db X.i s.name t s.pv none none none none) bN=.next (db X.i s.name t s.pv none none none none) (bN.set X.od (.lst (os++[.tup [.str s.name,.int t]]))):=
  fJ (hJ (hI (i:=X.i) (ac:=bN) (v:=.ref X.od) rfl b1.ns rfl) (vI b1.od) (y:=.tup [.str s.name,.int t]) (ar:=bN) rfl (rg b1.od ((aH (by assumption) (by decide)))))
 have c8:dB p n es OC (os++[.tup [.str s.name,.int t]]) X (bN.set X.od (.lst (os++[.tup [.str s.name,.int t]]))):=b1.order;have k2:=k1.trans (fR.set (X:=X) (σ:=bN) (m:=.lst (os++[.tup [.str s.name,.int t]])) (.inr (.inr rfl)));generalize bN.set X.od (.lst (os++[.tup [.str s.name,.int t]]))=ce at nv c8 k2;generalize os++[.tup [.str s.name,.int t]]=YX at c8 ⊢
 have gq:(s.needs.map H.str).length<=aI:=by rw[be];exact aH dS.needs4 (by decide)
 have UP:ex (CC (d+3)) topN DK (db X.i s.name t s.pv none none none none) ce=.next (db X.i s.name t s.pv none (some (.fl (dr es s t))) none none) ce:=by
  have c:ev (CC (d+3)) DD (db X.i s.name t s.pv none none none none) ce=.ok (.fl ((s.needs.map H.str).map fun v=>match v with | .str x=>(aG (x,t) es).getD .none | _=>.none)) ce:=
   lI (xs:=s.needs.map .str) _ rfl gq fun v oR=>by
    refine ay (ci.mp oR) fun x J ag=>?_;obtain rfl:=ag;exact hJ (hI (i:=X.i) (ac:=ce) (v:=.ref X.h) rfl c8.ns rfl) (zh c8.hr) (y:=.tup [.str x,.int t]) (ar:=ce) rfl (zl c8.hr)
  rw[fV]at c;exact bH c
 refine ay (Aj dS.rule) fun w oS r7=>?_
 have UQ:ex (CC (d+3)) topN DL (db X.i s.name t s.pv none (some (.fl (dr es s t))) none none) ce=.next (db X.i s.name t s.pv none (some (.fl (dr es s t))) (af (fq s t)) none) ce:=by
  have c:ev (CC (d+3)) (.cmp (.sub (.sub (.v 3) (ae 1)) (ae 0)) .eq (.k (.str "later"))) (db X.i s.name t s.pv none (some (.fl (dr es s t))) none none) ce=.ok (.bool (eG s.rule)) ce:=by
   rw[<- r7];exact eE (cG (x:=s.rule.pv) (ac:=ce) rfl (y:=.int 0) (ar:=ce) rfl (oS ce)) (y:=.str "later") (ar:=ce) rfl pT
  exact bH (cS (x:=.int t) (ac:=ce) rfl (cZ c int_bool) add_int)
 have wa:tst (CC (d+3)) (.cmp (.v 6) .eq (.attr bZ (.v 0) "turns")) (db X.i s.name t s.pv none (some (.fl (dr es s t))) (af (fq s t)) none) ce=.ok (fq s t == (n:Int)) ce:=
  b4 (x:=.int (fq s t)) (ac:=ce) rfl (hI (i:=X.i) (ac:=ce) (v:=.int n) rfl c8.ns rfl) lN
 have pre:∀{o:bO},ex (CC (d+3)) topN #v[t7,xL] (db X.i s.name t s.pv none (some (.fl (dr es s t))) (af (fq s t)) none) ce=o->ex (CC (d+3)) topN xK.body [bY X.i,a1 s.name,af t,none,none,none,none,none,none,none,none,none,none,none] σ=o:=fun{o} ho =>
  (am f4).trans ((am ek).trans ((am jZ).trans ((am nt).trans ((am nu).trans ((am nv).trans ((am UP).trans ((am UQ).trans ho)))))))
 unfold iU;by_cases hw:fq s t=n
 ·rw[ff.mpr hw]at wa;rw[aD hw];exact⟨ce,(congrArg bg (pre (bf (a:=t7) ((cz wa).trans rfl)))).trans rfl,c8,k2⟩
 ·rw[kR.mpr hw]at wa;rw[aY hw];have vl:(dr es s t).length=s.needs.length:=be _;have out:=TK (d:=d) (σ:=ce) (r:=s.rule) (vs:=dr es s t) (k:=s.gives.length) (vl.symm▸dS.rule) (vl.symm▸(aH dS.needs4 (by decide))) (by rw[vl];exact dS.needs1) (aH dS.gives3 (by decide)) (xz dS hv hm);have i4:(hS s.rule (dr es s t) s.gives.length).length=s.gives.length:=JO dS.rule;generalize hS s.rule (dr es s t) s.gives.length=us at out i4 ⊢
  have it:evIt (CC (d+3)) (.zip #v[(.sub (.v 3) (ae 3)),(.call Ac #v[(.sub (.v 3) (ae 1)),(.v 5),(.b1 .len (.sub (.v 3) (ae 3)))])]) (db X.i s.name t s.pv none (some (.fl (dr es s t))) (af (fq s t)) none) ce=.ok ((s.gives.zip us).map fun e=>.tup [.str e.1,e.2],some (ce.length,.tp)) (ce++[.tp]):=by
   rw[Nt,eI (x:=.tup (s.gives.map .str)) (ac:=ce) rfl (eI (pS (x:=s.rule.pv) (ac:=ce) rfl (y:=.fl (dr es s t)) (ar:=ce) rfl (cZ (x:=.tup (s.gives.map .str)) (ac:=ce) rfl (vC (aH dS.gives3 (by decide)))) out) (km)),cn];show(if(s.gives.map H.str).length=us.length/\us.length<=aI then ah.ok (mx (s.gives.map .str) us,some (ce.length,aW.tp)) (ce++[.tp])else .stuck)=_;rw[aD ⟨by rw[be,i4],by rw[i4];exact aH dS.gives3 (by decide)⟩,XN]
  obtain⟨b9,bV,σ',e,cX,br⟩:=Ox (d:=d+3) (n:=n) (j:=ce.length) (nm:=s.name) (t:=t) (w:=fq s t) (sp:=s.pv) (vs:=some (.fl (dr es s t))) (X:=X) (c7 (dX c8.hr).1) (s.gives.zip us) es (ce++[.tp]) none none (by simp) c8.more (by rw[List.length_zip,i4,Nat.min_self];have:=dS.gives3;(grind))
  have UR:ex (CC (d+3)) topN xL (db X.i s.name t s.pv none (some (.fl (dr es s t))) (af (fq s t)) none) ce=.next (db X.i s.name t s.pv b9 (some (.fl (dr es s t))) (af (fq s t)) bV) σ':=by
   show(evIt (CC (d+3)) _ _ ce).toS _ _=_;exact it.symm▸e
  exact⟨σ',(congrArg bg (pre ((am (a:=t7) (bC wa)).trans ((am UR).trans bX)))).trans rfl,cX,(k2.trans .app).trans br⟩
end
theorem Cs{dx:Type}[DecidableEq dx]{k br:dx}{v:H}{es:List (dx×H)}:aG k (eg br v es)=if k=br then some v else aG k es:=w0
theorem tt{dx:Type}[DecidableEq dx]{k br:dx}{v:H}{es:List (dx×H)}(h:aG br es=none):aG k (es++[(br,v)])=if k=br then some v else aG k es:=by
 unfold aG at h ⊢;rw[List.find?_append];by_cases hk:k=br
 ·subst hk;rw[aD rfl,Option.map_eq_none_iff.mp h];simp
 ·rw[aY hk]
  have:[(br,v)].find? (fun e=>decide (e.1=k))=none:=by simp[Ne.symm hk]
  rw[this,Option.or_none]
theorem Ct{w:Int}{k:Str×Int}:∀(l:List (Str×H)) (es:cV),k.2≠w\/k.1∉l.map (·.1)->aG k (l.foldl (hh w) es)=aG k es:=by
 intro l
 induction l with
 | nil=>intro es _;rfl
 | cons e l aj =>
  intro es h;rw[iO,aj]
  ·unfold hh
   split
   ·rfl
   ·rw[Cs,aY]
    rintro rfl
    rcases h with h | h
    ·exact h rfl
    ·exact h ((bi))
  ·rcases h with h | h
   ·exact .inl h
   ·exact .inr fun q=>h (bM _ q)
theorem fw.puts{w:Int}:∀(l:List (Str×H)) (es:cV),fw es->(∀e∈l,dF e.2\/e.2=.none)->fw (l.foldl (hh w) es):=by
 intro l
 induction l with
 | nil=>intro es h _;exact h
 | cons e l aj =>
  intro es h hl;refine aj _ ?_ fun x hx=>hl x (bM _ hx);unfold hh
  rcases hl e bi with hv | hv
  ·split
   ·exact h
   ·intro k v hk;rw[Cs]at hk;by_cases hq:k=(e.1,w)
    ·rw[aD hq]at hk;obtain rfl:=oi hk;exact hv
    ·rw[aY hq]at hk;exact h k v hk
  ·rw[aD (by rw[hv];rfl)];exact h
theorem s0{i:Int}(h0:0<=i)(L:i<=999999):dF (.int i):=⟨i,rfl,h0,L⟩
theorem G5{f:Int->Int->Int}(bc:∀a b:Int,f a b=a\/f a b=b):∀(l:List Int) (a:Int),(0<=a/\a<=999999)->(∀x∈l,0<=x/\x<=999999)->0<=l.foldl f a/\l.foldl f a<=999999:=by
 intro l
 induction l with
 | nil=>intro a h _;exact h
 | cons x l aj =>
  intro a h hl;refine aj _ ?_ fun y hy=>hl y (bM _ hy)
  rcases bc a x with q | q
  ·rw[q];exact h
  ·rw[q];exact hl x bi
theorem Jf(a b:Int):min a b=a\/min a b=b:=by grind
theorem I9(a b:Int):max a b=a\/max a b=b:=by grind
theorem Jj{i:Int}:dF (.int (i%1000000)):=s0 (eZ _ (by decide)) (Int.le_of_lt_add_one (fU _ (by decide)))
theorem T4:∀(l:List Int) (a:Int),(0<=a/\a<=999999)->dF (.int (l.foldl (fun a x=>a*x%1000000) a)):=by
 intro l
 induction l with
 | nil=>intro a h;exact s0 h.1 h.2
 | cons x l aj=>intro a h;refine bu (Jj (i:=a*x)) fun i hi h0 L=>?_;cases hi;exact aj _ ⟨h0,L⟩
theorem J9{r:c2}{vs:List H}{k:Nat}(h:fv r vs.length k)(L:1<=vs.length)(he:nQ r vs):dF (nw r vs):=by
 have CF:(∀v∈vs,dF v)->dF (vs.getD 0 .none):=fun hv=>by
  rw[kP,dI (show 0<vs.length from L)];exact hv _ (List.getElem_mem _)
 generalize hk:vs.length=m at h
 cases h with
 | sum _ _=>exact Jj
 | times _ _=>exact T4 _ 1 (by decide)
 | least _ _ =>
  refine ay (lu (show ∀v∈vs,dF v from he)) fun l ag hv=>?_;obtain rfl:=ag;show dF (.int (lm (ig (l.map .int))));rw[lh]
  cases l with
  | nil=>exact absurd L (by decide)
  | cons x l=>refine aS (G5 (f:=min) Jf l x (hv x bi) fun y hy=>hv y (bM _ hy)) fun a b=>?_;exact s0 a b
 | most _ _ =>
  refine ay (lu (show ∀v∈vs,dF v from he)) fun l ag hv=>?_;obtain rfl:=ag;show dF (.int (ln (ig (l.map .int))));rw[lh]
  cases l with
  | nil=>exact absurd L (by decide)
  | cons x l=>refine aS (G5 (f:=max) I9 l x (hv x bi) fun y hy=>hv y (bM _ hy)) fun a b=>?_;exact s0 a b
 | later _=>exact CF he
 | way=>exact CF he
 | choose _=>exact he.2
 | fixed v _ _ a b=>exact s0 a b
theorem TJ{r:c2}{vs:List H}{k:Nat}(h:fv r vs.length k)(L:1<=vs.length)(he:nQ r vs):∀u∈hS r vs k,dF u\/u=.none:=by
 unfold hS
 cases hw:qO r with
 | false =>
  rw[aY (by decide)];intro u hu;rw[List.eq_of_mem_replicate hu];exact .inl (J9 h L he)
 | true =>
  rw[aD rfl];have hs:=J9 h L he;generalize vs.length=m at h
  cases h with
  | way =>
   have hs:dF (vs.getD 0 .none):=hs;intro u hu
   split at hu
   ·rcases b5.mp hu with rfl | hu
    ·exact .inl hs
    ·exact .inr (de.mp hu)
   ·rcases b5.mp hu with rfl | hu
    ·exact .inr rfl
    ·exact(de.mp hu).symm▸(.inl hs)
  | _=>contradiction
theorem fw.fire{es:cV}{s:aq}(hs:gV s)(hv:fw es)(hm:eH es s t=none):fw (iU n es s t):=by
 unfold iU
 split
 ·exact hv
 ·have vl:(dr es s t).length=s.needs.length:=be _;refine hv.puts _ _ fun e he=>?_;exact TJ (k:=s.gives.length) (by rw[vl];exact hs.rule) (by rw[vl];exact hs.needs1) (xz hs hv hm) e.2 (List.of_mem_zip he).2
structure bl where
 es:cV
 gs:cV
 os:List H
noncomputable def bl.fire(n:Nat)(B:bl)(s:aq)(t:Int):bl:=⟨iU n B.es s t,B.gs++[((s.name,t),.bool true)],B.os++[.tup [.str s.name,.int t]]⟩
noncomputable def bl.rdy(B:bl)(s:aq)(t:Int):Bool:=o7 B.es B.gs s t
theorem bl.rdy_of{B:bl}{s:aq}(h:B.rdy s t=true):aG (s.name,t) B.gs=none/\eH B.es s t=none:=by
 refine aS (df h) fun a b=>?_;exact⟨n3.mp a,n3.mp b⟩
inductive fQ(p:List aq)(n:Nat)(A:bl):bl->List (aq×Int)->Prop
 | nil:fQ p n A A []
 | snoc {B:bl} {l:List (aq×Int)} {s:aq} {t:Int} (h:fQ p n A B l) (hs:s∈p) (h0:0<=t) (L:t<n) (hr:B.rdy s t=true):fQ p n A (B.fire n s t) (l++[(s,t)])
section
variable {p:List aq}{A B:bl}{l:List (aq×Int)}
theorem fQ.trans{D:bl}{k:List (aq×Int)}(h:fQ p n A B l)(O:fQ p n B D k):fQ p n A D (l++k):=by
 induction O with
 | nil=>rw[List.append_nil];exact h
 | snoc O hs h0 L hr aj=>rw[<- eY];exact .snoc aj hs h0 L hr
theorem fQ.val(hp:cs p)(h:fQ p n A B l)(hv:fw A.es):fw B.es:=by
 induction h with
 | nil=>exact hv
 | snoc h hs h0 L hr aj=>exact aj.fire (hp.steps _ hs) (bl.rdy_of hr).2
structure wV(B:bl)(m:Nat):Prop where
 es:B.es.length<=3*m
 gs:B.gs.length<=m
 os:B.os.length<=m
theorem Hh{es:cV}{s:aq}(hs:gV s):(iU n es s t).length<=es.length+3:=by
 unfold iU
 split
 ·exact gc _ _
 ·refine aH (Uf _ _) (Nat.add_le_add_left ?_ _);rw[List.length_zip];exact aH (Nat.min_le_left _ _) hs.gives3
theorem wV.fire{m:Nat}{s:aq}(hs:gV s)(h:wV B m):wV (B.fire n s t) (m+1):=
 ⟨by have:=Hh (n:=n) (es:=B.es) (t:=t) hs;have:=h.es;show(iU n B.es s t).length<=_;(grind),by show(B.gs++[_]).length<=_;rw[cW];exact Nat.succ_le_succ h.gs,by show(B.os++[_]).length<=_;rw[cW];exact Nat.succ_le_succ h.os⟩
noncomputable def left(p:List aq)(B:bl)(t:Int):Nat:=p.countP fun s=>(aG (s.name,t) B.gs).isNone
theorem MU{f g:aq->Bool}{s:aq}(h:∀x,g x=true->f x=true)(bc:f s=true)(hg:g s=false):∀{p:List aq},s∈p->p.countP g+1<=p.countP f:=by
 intro p
 induction p with
 | nil=>intro h;contradiction
 | cons a p aj =>
  intro hs;rw[List.countP_cons,List.countP_cons];have le:p.countP g<=p.countP f:=List.countP_mono_left fun x J=>h x
  rcases b5.mp hs with rfl | hs
  ·rw[bc,hg];simp;exact le
  ·have:=aj hs
   cases ha:g a with
   | true=>rw[h a ha];simp;(assumption)
   | false=>simp;(exact aH (by assumption) (gc _ _))
theorem fQ.left(h:fQ p n A B l)(a3:∀e∈l,e.2=t):left p B t+l.length<=left p A t:=by
 induction h with
 | nil=>exact dA _
 | @snoc B l s bx h hs h0 L hr aj =>
  have:=aj fun e he=>a3 e (gW _ he);obtain rfl:bx=t:=a3 (s,bx) (d7 _ (de.mpr rfl));have hg:=(bl.rdy_of hr).1
  have key:∀x,aG (x,bx) (B.fire n s bx).gs=if(x,bx)=(s.name,bx)then some (.bool true)else aG (x,bx) B.gs:=fun x=>tt hg
  have c:Mine.left p (B.fire n s bx) bx+1<=Mine.left p B bx:=by
   refine MU (s:=s) (fun x hx=>?_) (by rw[hg];rfl) ?_ hs
   ·rw[key]at hx;by_cases q:(x.name,bx)=(s.name,bx)
    ·rw[aD q]at hx;contradiction
    ·rw[aY q]at hx;exact hx
   ·rw[key,aD rfl];rfl
  rw[cW];show _+(l.length+1)<=_
  (grind)
theorem fQ.rdy{s:aq}(h:fQ p n A B l)(a3:∀e∈l,t<e.2):B.rdy s t=A.rdy s t:=by
 induction h with
 | nil=>rfl
 | @snoc B l s' bx h hs h0 L hr aj =>
  rw[<- aj fun e he=>a3 e (gW _ he)];have lt:t<bx:=a3 (s',bx) (d7 _ (de.mpr rfl));have hg:=(bl.rdy_of hr).1;have V:∀x,aG (x,t) (B.fire n s' bx).gs=aG (x,t) B.gs:=fun x=>(tt hg).trans (aY fun q=>Int.ne_of_lt lt (Prod.mk.inj q).2)
  have ak:∀x,aG (x,t) (B.fire n s' bx).es=aG (x,t) B.es:=fun x=>by
   show aG (x,t) (iU n B.es s' bx)=_;unfold iU
   split
   ·rfl
   ·refine Ct _ _ (.inl (Int.ne_of_lt ?_));unfold fq
    split
    ·exact Int.lt_add_one_of_le (Int.le_of_lt lt)
    ·rw[Int.add_zero];exact lt
  show o7 _ _ _ _=o7 _ _ _ _;unfold o7 eH
  have bG:mO (B.fire n s' bx).es s t=mO B.es s t:=by
   unfold mO
   split
   ·split
    ·rw[ak]
    ·rfl
   ·rfl
  rw[V,bG];refine congrArg (fun f=>(aG (s.name,t) B.gs).isNone&&((mO B.es s t).find? f).isNone) (funext fun x=>?_);rw[ak]
end
noncomputable abbrev fF(p:List aq)(n:Nat)(B:bl)(X:dC)(σ:aa):Prop:=dB p n B.es B.gs B.os X σ
noncomputable def ma(p:List aq)(x:Str):Bool:=decide (x∈p.flatMap (·.gives))||decide (x∈f0 p)
section
variable {p:List aq}{es gs:cV}{X:dC}
theorem S8(b:dB p n es gs os X σ)(h:ma p x=true):bB PP topN (d+1) Ie [.inst bZ X.i,.str x] σ=.ok .none σ:=by
 rw[cC (fn:=DV) rfl rfl]
 have cm:tst (CC d) (.or #v[(.not (.isinst (.v 1) .str)),(.and #v[(.cmp (.v 1) .notin (.attr bZ (.v 0) "givers")),(.cmp (.v 1) .notin (.attr bZ (.v 0) "outer"))])]) [bY X.i,a1 x,none,none,none] σ=.ok (!ma p x) σ:=by
  refine ik (im rfl (i9 ((jw (nE (b4 (x:=.str x) (ac:=σ) rfl (hI (i:=X.i) (ac:=σ) (v:=.ref X.g) rfl b.ns rfl) (JD b.gv)) fun J=>kH (b4 (x:=.str x) (ac:=σ) rfl (hI (i:=X.i) (ac:=σ) (v:=.ref X.o) rfl b.ns rfl) (vO b.ot)))).trans ?_)));rw[Hk];unfold ma;rw[Bool.not_or]
 rw[h]at cm;exact(congrArg bg ((am (a:=DW) (bC cm)).trans bX)).trans rfl
theorem Ud{j i:Int}(hp:cs p)(b:dB p n es gs os X σ)(L:ma p x=true)(h0:0<=j)(a5:j<n)(hb:ki p x j=false)(hv:0<=i/\i<=999999)(ha:aG (x,j) es=none)(hl:es.length<900000) :
  bB PP topN (d+4) z6 [.inst bZ X.i,.str x,.int j,.int i] σ=.ok .none (σ.set X.h (.dp (es++[((x,j),.int i)]))):=by
 rw[cC (fn:=xS) rfl rfl];show bg (ex (CC (d+3)) topN xS.body [bY X.i,a1 x,af j,af i,none,none,none,none] σ)=_;generalize hρ:([bY X.i,a1 x,af j,af i,none,none,none,none]:az)=ρ
 have fm:∀{τ:aa},ev (CC (d+3)) (.v 0) ρ τ=.ok (.inst bZ X.i) τ:=fun{τ}=>by subst hρ;rfl
 have aX:∀{τ:aa},ev (CC (d+3)) (.v 1) ρ τ=.ok (.str x) τ:=fun{τ}=>by subst hρ;rfl
 have bz:∀{τ:aa},ev (CC (d+3)) (.v 2) ρ τ=.ok (.int j) τ:=fun{τ}=>by subst hρ;rfl
 have io:∀{τ:aa},ev (CC (d+3)) (.v 3) ρ τ=.ok (.int i) τ:=fun{τ}=>by subst hρ;rfl
 have f4:ex (CC (d+3)) topN D3 ρ σ=.next ρ σ:=fJ (fW fm b.ns rfl (eI aX rfl) (S8 b L))
 have ek:ex (CC (d+3)) topN D4 ρ σ=.next ρ σ:=fJ (fW fm b.ns rfl (eI bz rfl) (vM b h0 a5))
 have Cu:=hI (n := "givers") (v:=.ref X.g) (fm (τ:=σ)) b.ns rfl;have tu:=hI (n := "here") (v:=.ref X.h) (fm (τ:=σ)) b.ns rfl;have key:ev (CC (d+3)) (.tup #v[(.v 1),(.v 2)]) ρ σ=.ok (.tup [.str x,.int j]) σ:=lL (vs:=[.str x,.int j]) (eI aX (eI bz rfl)) (show(2:Nat)<=aI by decide)
 have cO:tst (CC (d+3)) (.and #v[(.cmp (.v 1) .isin (.attr bZ (.v 0) "givers")),(.or #v[(.cmp (.sub (.sub (.sub (.attr bZ (.v 0) "givers") (.v 1)) (ae 1)) (ae 0)) .ne (.k (.str "later"))),(.cmp (.v 2) .gt (ae 0))])]) ρ σ=.ok (ki p x j) σ:=by
  have cE:=b4 aX Cu (Q0 (k:=x) b.gv);rw[ts,Option.isSome_map]at cE;unfold ki
  cases hg:eR p x with
  | none =>
   rw[hg]at cE;exact jw (Kv cE)
  | some s =>
   rw[hg]at cE;have hs:s∈p:=List.mem_of_find?_eq_some hg;refine ay (Aj (hp.steps s hs).rule) fun w oS r7=>?_;have e1:ev (CC (d+3)) (.sub (.attr bZ (.v 0) "givers") (.v 1)) ρ σ=.ok s.pv σ:=cG Cu aX (Ks b.gv (by rw[ts,hg];rfl));have n8:ev (CC (d+3)) (.sub (.sub (.sub (.attr bZ (.v 0) "givers") (.v 1)) (ae 1)) (ae 0)) ρ σ=.ok (.str w) σ:=cG (cG e1 (y:=.int 1) (ar:=σ) rfl (v:=.ok s.rule.pv σ) rfl) (y:=.int 0) (ar:=σ) rfl (oS σ);have CR:=b4 n8 (y:=.str "later") (ar:=σ) (b:=.k (.str "later")) rfl Jx;rw[r7]at CR;exact jw (Bo cE (kH (ik (sT CR fun J=>i9 (b4 bz (y:=.int 0) (ar:=σ) rfl gt_int)))))
 rw[hb]at cO
 have jZ:ex (CC (d+3)) topN D5 ρ σ=.next ρ σ:=(bC cO)
 have kF:tst (CC (d+3)) (.not (.call r9 #v[(.v 3)])) ρ σ=.ok (!true) σ:=by
  have c:bB PP topN (d+3) r9 [.int i] σ=.ok (.bool (decide (0<=i)&&decide (i<=999999))) σ:=Mine.h0;rw[dz hv.1,dz hv.2]at c;exact ht (jx (d8 io c))
 have nt:ex (CC (d+3)) topN D6 ρ σ=.next ρ σ:=(bC kF)
 have nD:=b4 key tu (vv (x:=x) (j:=j) b.hr);rw[ha]at nD
 have nu:ex (CC (d+3)) topN D7 ρ σ=.next ρ σ:=(bC nD)
 have nv:ex (CC (d+3)) topN D8 ρ σ=.next ρ (σ.set X.h (.dp (es++[((x,j),.int i)]))):=by
  show(ev (CC (d+3)) (.v 3) ρ σ).toS ρ (fun v σ=>(ev (CC (d+3)) (.attr bZ (.v 0) "here") ρ σ).toS ρ fun o σ=>(ev (CC (d+3)) (.tup #v[(.v 1),(.v 2)]) ρ σ).toS ρ fun i σ=>hW o i v ρ σ)=_;rw[io,gx,tu,gx,key,gx,sQ b.hr (by rw[eV];(exact aH (by assumption) (by decide))),w4 ha]
 exact(congrArg bg ((am f4).trans ((am ek).trans ((am jZ).trans ((am nt).trans ((am nu).trans ((am nv).trans bX))))))).trans rfl
end
theorem zj{s:aq}(hx:x∈s.gives):∀{p:List aq},(p.flatMap (·.gives)).Nodup->s∈p->eR p x=some s:=by
 intro p
 induction p with
 | nil=>intro _ h;contradiction
 | cons a p aj =>
  intro hg hs;rw[kS,gC]at hg;unfold eR;rw[jL];by_cases ha:x∈a.gives
  ·rw[dz ha]
   rcases b5.mp hs with rfl | hs
   ·rfl
   ·exact absurd rfl (hg.2.2 x ha x (List.mem_flatMap.mpr ⟨s,hs,hx⟩))
  ·rw[fx ha]
   rcases b5.mp hs with rfl | hs
   ·exact absurd hx ha
   ·exact aj hg.2.1 hs
theorem XI{g:List Str}{l:List H}(h:x∈(g.zip l).map (·.1)):x∈g:=by
 refine ay (ci.mp h) fun e he ag=>?_;obtain rfl:=ag;exact(List.of_mem_zip he).1
section
variable {p:List aq}{A B:bl}{l:List (aq×Int)}{es:cV}{s:aq}
theorem Ow{j:Int}(hp:cs p)(hs:s∈p)(h0:0<=t)(hb:ki p x j=false):aG (x,j) (iU n es s t)=aG (x,j) es:=by
 unfold iU
 split
 ·rfl
 ·refine Ct _ _ ?_;by_cases hx:x∈s.gives
  ·refine .inl fun q=>?_;unfold ki at hb;rw[zj hx hp.gives hs]at hb;refine aS (Bool.or_eq_false_iff.mp hb) fun L O=>?_
   have L:eG s.rule=true:=by cases hl:eG s.rule <;> rw[hl]at L <;> first | rfl | contradiction
   have q:j=t+(if eG s.rule=true then 1 else 0):=q;rw[aD L]at q;have:=of_decide_eq_false O
   (grind)
  ·exact .inr fun q=>hx (XI q)
theorem fQ.free{j:Int}(hp:cs p)(h:fQ p n A B l)(hb:ki p x j=false):aG (x,j) B.es=aG (x,j) A.es:=by
 induction h with
 | nil=>rfl
 | snoc h hs h0 L hr aj=>exact(Ow hp hs h0 hb).trans aj
theorem AF(hp:cs p){a b:aq}(ha:a∈p)(hb:b∈p)(e:a.name=b.name):a=b:=by
 have h:=hp.names;clear hp
 induction p with
 | nil=>contradiction
 | cons c p aj =>
  rw[dD,gZ]at h
  rcases b5.mp ha with rfl | ha2
  ·rcases b5.mp hb with rfl | hb2
   ·rfl
   ·exact absurd (ci.mpr ⟨b,hb2,e.symm⟩) h.1
  ·rcases b5.mp hb with rfl | hb2
   ·exact absurd (ci.mpr ⟨a,ha2,e⟩) h.1
   ·exact aj ha2 hb2 h.2
theorem rN{dx:Type}[DecidableEq dx]{k:dx}{es:List (dx×H)}:(aG k es).isSome=true ↔ k∈es.map (·.1):=by
 unfold aG;rw[Option.isSome_map,List.find?_isSome,ci];exact⟨fun⟨e,he,q⟩=>⟨e,he,hG q⟩,fun⟨e,he,q⟩=>⟨e,he,dz q⟩⟩
structure pw(p:List aq)(n:Nat)(B:bl):Prop where
 nodup:(B.gs.map (·.1)).Nodup
 inn:∀k:Str×Int,k∈B.gs.map (·.1)->∃s∈p,k.1=s.name/\0<=k.2/\k.2<(n:Int)
 os:B.os=B.gs.map fun e=>.tup [.str e.1.1,.int e.1.2]
theorem fQ.gk(h:fQ p n A B l)(g:pw p n A):pw p n B:=by
 induction h with
 | nil=>exact g
 | @snoc B l s t h hs h0 L hr aj =>
  have hg:=(bl.rdy_of hr).1
  have Th:(s.name,t)∉B.gs.map (·.1):=fun q=>by
   have:=rN.mpr q;rw[hg]at this;contradiction
  refine⟨?_,fun k hk=>?_,?_
   ⟩
  ·show((B.gs++[((s.name,t),H.bool true)]).map (·.1)).Nodup;rw[eu,gC];refine⟨aj.nodup,gZ.mpr ⟨et,List.nodup_nil⟩,fun a ha b hb q=>?_⟩;rw[de.mp hb]at q;have q:a=(s.name,t):=q;rw[q]at ha;exact Th ha
  ·have hk:k∈(B.gs++[((s.name,t),H.bool true)]).map (·.1):=hk;rw[eu]at hk
   rcases dt.mp hk with hk | hk
   ·exact aj.inn k hk
   ·rw[de.mp hk];exact⟨s,hs,rfl,h0,L⟩
  ·show B.os++[_]=(B.gs++[((s.name,t),H.bool true)]).map _;rw[eu,aj.os];rfl
theorem fQ.count(h:fQ p n A B l):B.gs.length=A.gs.length+l.length:=by
 induction h with
 | nil=>rfl
 | @snoc B l s t h hs h0 L hr aj =>
  show(B.gs++[((s.name,t),H.bool true)]).length=_;rw[cW,cW,aj];rfl
end
theorem Zh:((0:Nat):Int)<=0:=Int.le_refl 0
theorem JA{α:Type}[DecidableEq α]:∀(l k:List α),l.Nodup->(∀x∈l,x∈k)->l.length<=k.length:=by
 intro l
 induction l with
 | nil=>intro k _ _;exact Nat.zero_le _
 | cons a l aj =>
  intro k hn hk;rw[gZ]at hn;have ha:=hk a bi;have:=aj (k.erase a) hn.2 fun x hx=>(List.mem_erase_of_ne (fun e:x=a=>hn.1 (e▸hx))).mpr (hk x (bM _ hx));rw[List.length_erase_of_mem ha]at this;have:=List.length_pos_of_mem ha;rw[dy];(grind)
theorem pw.len{p:List aq}{B:bl}(g:pw p n B):B.gs.length<=p.length*n:=by
 have:=JA _ ((p.map (·.name)).flatMap fun x=>(List.range n).map fun(t:Nat)=>(x,(t:Int))) g.nodup fun k hk=>by
  refine om (g.inn k hk) fun s hs L O aw=>?_;obtain⟨x,t⟩:=k;refine aL (kc O) fun t ag=>?_;obtain rfl:=ag;rw[List.mem_flatMap];refine⟨x,ci.mpr ⟨s,hs,Eq.symm L⟩,ci.mpr ⟨t,List.mem_range.mpr (by have:(t:Int)<n:=aw;(exact ew.mp (by assumption))),rfl⟩⟩
 rw[be,List.length_flatMap]at this
 have c:∀l:List Str,(l.map fun x=>((List.range n).map fun(t:Nat)=>(x,(t:Int))).length).sum=l.length*n:=by
  intro l
  induction l with
  | nil=>simp
  | cons a l aj=>rw[dD,List.sum_cons,aj,be,List.length_range,dy,Nat.succ_mul,Nat.add_comm]
 rw[c,be]at this;exact this
theorem Ha{p:List aq}{j:Int}(h:∀s∈p,x∈s.gives->eG s.rule=true/\j<=0):ki p x j=false:=by
 unfold ki
 cases hg:eR p x with
 | none=>rfl
 | some s =>
  have hs:=List.mem_of_find?_eq_some hg;have hx:x∈s.gives:=hG (List.find?_some (p:=fun s:aq=>decide (x∈s.gives)) hg);refine aS (h s hs hx) fun L O=>?_;show(!eG s.rule||decide (j > 0))=false;rw[L,fx (by grind)];rfl
noncomputable def bl.put(B:bl)(x:Str)(j i:Int):bl:=⟨B.es++[((x,j),.int i)],B.gs,B.os⟩
section
variable {es:cV}{s:aq}
theorem qB{r:c2}{k g:Nat}(h:fv r k g):cY .eq r.pv (.tup [.str "later"]) σ=.ok (eG r) σ/\cY .eq r.pv (.tup [.str "choose"]) σ=.ok (jN r) σ:=by
 have:∀w v:Str,cY .eq (.tup [.str w]) (.tup [.str v]) σ=.ok (w == v) σ:=fun w v=>by
  show ah.ofOpt (some ((w == v)&&true)) σ=_;rw[Bool.and_true];rfl
 cases h <;> first | exact⟨this _ _,this _ _⟩ | exact⟨rfl,rfl⟩
noncomputable def l6(es:cV)(s:aq)(t:Int):List Str:=
 if jN s.rule=true then(match s.needs with
  | [a,b,c]=>(match aG (a,t) es with
   | none=>[a,b,c]
   | some v=>if jz v=true then[b]else[c])
  | l=>l)
 else s.needs
theorem S7(hs:gV s):((l6 es s t).find? fun x=>(aG (x,t) es).isNone)=eH es s t:=by
 refine bu (v1 hs.rule) fun J J J aw=>?_;unfold l6 eH mO
 cases hc:jN s.rule with
 | false=>rfl
 | true =>
  have aw:=aw hc;rw[aD rfl,aD rfl];obtain⟨nm,rl,ns,gv⟩:=s;refine rs (qe (show ns.length=3 from aw)) fun a b c ag=>?_;obtain rfl:=ag;dsimp only
  cases ha:aG (a,t) es with
  | none =>
   dsimp only;rw[jL,jL (a:=a) (as:=[]),ha];rfl
  | some v=>rfl
theorem S9(hs:gV s)(h:σ[tk]?=some (.dp es))(hv:fw es):bB PP topN (d+1) sd [s.pv,.ref tk,.int t] σ=.ok (.fl ((l6 es s t).map .str)) σ:=by
 rw[cC (fn:=ym) rfl rfl]
 have f4:ex (CC d) topN E6 [some s.pv,aR tk,af t,none,none,none] σ=.next [some s.pv,aR tk,af t,some (.fl (s.needs.map .str)),none,none] σ:=
  bH (cZ (x:=.tup (s.needs.map .str)) (ac:=σ) rfl (RW (by rw[be];exact aH hs.needs4 (by decide))))
 have cm:tst (CC d) (.cmp (.sub (.v 0) (ae 1)) .eq (.tup #v[(.k (.str "choose"))])) [some s.pv,aR tk,af t,some (.fl (s.needs.map .str)),none,none] σ=.ok (jN s.rule) σ:=
  b4 (x:=s.rule.pv) (y:=.tup [.str "choose"]) (ac:=σ) (ar:=σ) rfl rfl (qB hs.rule).2
 have fin:∀{l:List Str},ex (CC d) topN E7 [some s.pv,aR tk,af t,some (.fl (s.needs.map .str)),none,none] σ=.next [some s.pv,aR tk,af t,some (.fl (l.map .str)),none,none] σ->bg (ex (CC d) topN ym.body [some s.pv,aR tk,af t,none,none,none] σ)=.ok (.fl (l.map .str)) σ:=fun{l} h =>
  (congrArg bg ((am f4).trans ((am h).trans rfl))).trans rfl
 unfold l6;refine bu (v1 hs.rule) fun J J J aw=>?_
 cases hc:jN s.rule with
 | false =>
  rw[hc]at cm;rw[aY (by decide)];exact fin (bC (jw (Kv cm)))
 | true =>
  rw[hc]at cm;have aw:=aw hc;rw[aD rfl];obtain⟨nm,rl,ns,gv⟩:=s;refine rs (qe (show ns.length=3 from aw)) fun a b c ag=>?_;obtain rfl:=ag;dsimp only;have key:ev (CC d) (.tup #v[(.sub (.v 3) (ae 0)),(.v 2)]) [some (aq.pv ⟨nm,rl,[a,b,c],gv⟩),aR tk,af t,some (.fl [.str a,.str b,.str c]),none,none] σ=.ok (.tup [.str a,.int t]) σ:=rfl;have cO:=b4 key (b:=.v 1) (y:=.ref tk) (ar:=σ) rfl (vv h)
  cases ha:aG (a,t) es with
  | none =>
   rw[ha]at cO;exact fin (l:=[a,b,c]) (bC (jw (Bo cm (kH cO))))
  | some v =>
   rw[ha]at cO;refine ay (hv _ _ ha) fun i ag J=>?_;obtain rfl:=ag;dsimp only
   have V:ev (CC d) (.b1 .int (.cmp (.sub (.v 1) (.tup #v[(.sub (.v 3) (ae 0)),(.v 2)])) .ne (ae 0))) [some (aq.pv ⟨nm,rl,[a,b,c],gv⟩),aR tk,af t,some (.fl [.str a,.str b,.str c]),none,none] σ=.ok (.int (if(!(i == 0))=true then 1 else 0)) σ:=
    cZ (eE (cG (x:=.ref tk) (ac:=σ) rfl key (Kr h ha)) (y:=.int 0) (ar:=σ) rfl vL) int_bool
   have ak:ev (CC d) (.sub (.v 3) (.bin .add (ae 1) (.b1 .int (.cmp (.sub (.v 1) (.tup #v[(.sub (.v 3) (ae 0)),(.v 2)])) .ne (ae 0))))) [some (aq.pv ⟨nm,rl,[a,b,c],gv⟩),aR tk,af t,some (.fl [.str a,.str b,.str c]),none,none] σ=.ok (.str (if jz (.int i)=true then b else c)) σ:=by
    refine cG (x:=.fl [.str a,.str b,.str c]) (ac:=σ) rfl (cS (x:=.int 1) (ac:=σ) rfl V add_int) ?_;show _=ah.ok (H.str (if(i == 0)=true then b else c)) σ;cases(i == 0) <;> rfl
   have bG:=(cz (n:=topN) (a:=.cons yn .nil) (b:=.nil) (jw (Bo cm (kH cO)))).trans ((am (a:=yn) (bH (M6 (eI ak km) (show(1:Nat)<=aI by decide)))).trans bX)
   cases a7:jz (.int i)with
   | true=>rw[a7]at bG;exact fin (l:=[b]) bG
   | false=>rw[a7]at bG;exact fin (l:=[c]) bG
theorem AC(hs:gV s)(h:σ[tk]?=some (.dp es))(hv:fw es):bB PP topN (d+2) sa [s.pv,.ref tk,.int t] σ=.ok (o4 (eH es s t)) σ:=by
 rw[cC (fn:=EY) rfl rfl,<- S7 hs]
 have gq:(l6 es s t).length<=4:=by
  unfold l6
  split
  ·split
   ·split
    ·exact Nat.le_of_ble_eq_true rfl
    ·split <;> exact Nat.le_of_ble_eq_true rfl
   ·exact hs.needs4
  ·exact hs.needs4
 have it:evIt (CC (d+1)) (.call sd #v[(.v 0),(.v 1),(.v 2)]) [some s.pv,aR tk,af t,none,none] σ=.ok ((l6 es s t).map .str,none) σ:=by
  show(ev (CC (d+1)) (.call sd #v[(.v 0),(.v 1),(.v 2)]) [some s.pv,aR tk,af t,none,none] σ).bind d4=_;rw[show ev (CC (d+1)) (.call sd #v[(.v 0),(.v 1),(.v 2)]) [some s.pv,aR tk,af t,none,none] σ=.ok (.fl ((l6 es s t).map .str)) σ from pS (x:=s.pv) (y:=.ref tk) (z:=.int t) (ac:=σ) (ar:=σ) (e8:=σ) rfl rfl rfl (S9 hs h hv)];rfl
 generalize l6 es s t=ns at gq it
 have iQ:ev (CC (d+1)) EZ [some s.pv,aR tk,af t,none,none] σ=.ok (.fl ((ns.filter fun x=>(aG (x,t) es).isNone).map .str)) σ:=by
  refine(xg (fun y=>match y with | .str x=>if(aG (x,t) es).isNone=true then a1 x else none | _=>none) it (by rw[be];exact aH gq (by decide)) (fun y hy=>?_) (fun y hy v hv=>?_)).trans ?_
  ·refine ay (ci.mp hy) fun x hx ag=>?_;obtain rfl:=ag;refine(b4 (x:=.tup [.str x,.int t]) (y:=.ref tk) (ac:=σ) (ar:=σ) rfl rfl (JF h)).trans ?_;dsimp only;cases(aG (x,t) es).isNone <;> rfl
  ·refine ay (ci.mp hy) fun x hx ag=>?_;obtain rfl:=ag;dsimp only at hv
   split at hv
   ·obtain rfl:=oi hv;rfl
   ·contradiction
  ·refine congrArg (fun l=>ah.ok (H.fl l) σ) ?_;rw[List.filterMap_map,<- List.filterMap_eq_filter,List.map_filterMap];refine congrArg (fun f=>ns.filterMap f) (funext fun x=>?_);show(if(aG (x,t) es).isNone=true then some (H.str x)else none)=_;unfold Option.guard
   split <;> rfl
 have V:ev (CC (d+1)) (.sub (.bin .add (.v 3) (.lst true #v[(.k .none)])) (ae 0)) [some s.pv,aR tk,af t,some (.fl ((ns.filter fun x=>(aG (x,t) es).isNone).map .str)),none] σ=.ok (o4 (ns.find? fun x=>(aG (x,t) es).isNone)) σ:=by
  rw[<- List.head?_filter];have fl:=List.length_filter_le (fun x=>(aG (x,t) es).isNone) ns;generalize ns.filter (fun x=>(aG (x,t) es).isNone)=fs at fl;refine cG (cS (x:=.fl (fs.map .str)) (ac:=σ) rfl (y:=.fl [.none]) (ar:=σ) rfl (Cq (by rw[be,eV];show _+1<=_;(grind)))) (y:=.int ((0:Nat):Int)) (ar:=σ) rfl (qH (by rw[cW,be];show _+1<=_;(grind)) ?_);cases fs <;> rfl
 exact(congrArg bg ((am (a:=E0) (bH iQ)).trans (bf (a:=E1) (cH V)))).trans rfl
end
theorem Kf{x:Int}:(eJ (x::l))[0]?=some (lm (x::l))/\(eJ (x::l))[l.length]?=some (ln (x::l)):=by
 have pm:(eJ (x::l)).Perm (x::l):=List.mergeSort_perm _ _
 have Uh:(eJ (x::l)).Pairwise fun a b=>a<=b:=by
  refine(List.pairwise_mergeSort (le:=fun a b=>decide (a<=b)) (fun a b c L O=>?_) (fun a b=>?_) (x::l)).imp fun h=>hG h
  ·exact dz (Int.le_trans (hG L) (hG O))
  ·rw[Bool.or_eq_true,iN,iN];exact Int.le_total a b
 have least:∀(l:List Int) (a:Int),(l.foldl min a=a\/l.foldl min a∈l)/\l.foldl min a<=a/\∀y∈l,l.foldl min a<=y:=by
  intro l
  induction l with
  | nil=>intro a;exact⟨.inl rfl,Int.le_refl _,fun y hy=>nomatch hy⟩
  | cons b l aj =>
   intro a;refine dN (aj (min a b)) fun L O aw=>?_;rw[iO];refine⟨?_,Int.le_trans O (Int.min_le_left _ _),fun y hy=>?_⟩
   ·rcases L with L | L
    ·rw[L]
     rcases Jf a b with q | q
     ·exact .inl q
     ·rw[q];exact .inr bi
    ·exact .inr (bM _ L)
   ·rcases b5.mp hy with rfl | hy
    ·exact Int.le_trans O (Int.min_le_right _ _)
    ·exact aw y hy
 have most:∀(l:List Int) (a:Int),(l.foldl max a=a\/l.foldl max a∈l)/\a<=l.foldl max a/\∀y∈l,y<=l.foldl max a:=by
  intro l
  induction l with
  | nil=>intro a;exact⟨.inl rfl,Int.le_refl _,fun y hy=>nomatch hy⟩
  | cons b l aj =>
   intro a;refine dN (aj (max a b)) fun L O aw=>?_;rw[iO];refine⟨?_,Int.le_trans (Int.le_max_left _ _) O,fun y hy=>?_⟩
   ·rcases L with L | L
    ·rw[L]
     rcases I9 a b with q | q
     ·exact .inl q
     ·rw[q];exact .inr bi
    ·exact .inr (bM _ L)
   ·rcases b5.mp hy with rfl | hy
    ·exact Int.le_trans (Int.le_max_right _ _) O
    ·exact aw y hy
 refine dN (least l x) fun aA aT a8=>?_;refine dN (most l x) fun b1 c8 kg=>?_;have len:(eJ (x::l)).length=l.length+1:=pm.length_eq
 have h0:0<(eJ (x::l)).length:=by rw[len];exact Nat.succ_pos _
 have L:l.length<(eJ (x::l)).length:=by rw[len];exact Nat.lt_succ_self _
 rw[dI h0,dI L]
 have at_:∀y,y∈x::l->∃i,∃h:i<(eJ (x::l)).length,(eJ (x::l))[i]=y:=fun y hy=>List.getElem_of_mem (pm.mem_iff.mpr hy)
 have le:∀(i j:Nat) (hi:i<(eJ (x::l)).length) (a5:j<(eJ (x::l)).length),i<=j->(eJ (x::l))[i]<=(eJ (x::l))[j]:=fun i j hi a5 h=>by
  rcases Nat.lt_or_eq_of_le h with h | rfl
  ·exact List.pairwise_iff_getElem.mp Uh i j hi a5 h
  ·exact Int.le_refl _
 have Iz:∀(i:Nat) (hi:i<(eJ (x::l)).length),(eJ (x::l))[i]∈x::l:=fun i hi=>pm.mem_iff.mp (List.getElem_mem hi);constructor
 ·refine congrArg some (Int.le_antisymm ?_ ?_)
  ·obtain⟨i,hi,e⟩:=at_ (lm (x::l)) (b5.mpr aA)
   exact e▸le 0 i h0 hi (Nat.zero_le _)
  ·rcases b5.mp (Iz 0 h0)with q | q
   ·exact q.symm▸aT
   ·exact a8 _ q
 ·refine congrArg some (Int.le_antisymm ?_ ?_)
  ·rcases b5.mp (Iz l.length L)with q | q
   ·exact q.symm▸c8
   ·exact kg _ q
  ·obtain⟨i,hi,e⟩:=at_ (ln (x::l)) (b5.mpr b1)
   exact e▸le i l.length hi L (by grind)
theorem Kg(hl:l.length<64):dk .sorted (.fl (l.map .int)) σ=.ok (.fl ((eJ l).map .int)) σ:=by
 show fZ qD (fun l=>ah.ok (H.fl l) σ) (.fl (l.map .int)) σ=_;refine su ?_;show qD (l.map .int)=_;unfold qD;rw[w1];exact aD hl
theorem V8{mn:H}{z:Option H}:∀(l:List Int) (a:Int) (y:Option H),(0<=a/\a<=999999)->(∀x∈l,0<=x/\x<=999999)->∃b9,cj none (dM 4) (fun ρ σ=>ex (CC d) topN ER ρ σ) (l.map .int) [z,some pl,some mn,af a,y,none,none,none,none] σ=.next [z,some pl,some mn,af (l.foldl (fun a x=>a*x%1000000) a),b9,none,none,none,none] σ:=by
 intro l
 induction l with
 | nil=>intro a y _ _;exact⟨y,eP⟩
 | cons x l aj =>
  intro a y ha hl;have hb:0<=a*x%1000000/\a*x%1000000<=999999:=⟨eZ _ (by decide),Int.le_of_lt_add_one (fU _ (by decide))⟩;refine aL (aj (a*x%1000000) (af x) hb fun y hy=>hl y (bM _ hy)) fun b9 e=>?_;refine⟨b9,(eh (bU:=[z,some pl,some mn,af a,af x,none,none,none,none]) (eA:=[z,some pl,some mn,af (a*x%1000000),af x,none,none,none,none]) (ar:=σ) rfl ?_).trans e⟩;refine(am (a:=ES) (bH (cS (cS (x:=.int a) (ac:=σ) rfl (y:=.int x) (ar:=σ) rfl (mul_int (.inl ?_))) (y:=.int 1000000) (ar:=σ) rfl (ih (by decide))))).trans bX
  (grind)
theorem oE{o8:H}{vs:List H}{v:H}{k:Nat}{y:Option H}(hk:k<=100):bg (ex (CC d) topN #v[yj] [some o8,some (.fl vs),af (k:Nat),some v,y,none,none,none,none] σ)=.ok (.fl (List.replicate k v)) σ:=by
 have A9:evIt (CC d) (.range1 (.v 2)) [some o8,some (.fl vs),af (k:Nat),some v,y,none,none,none,none] σ=.ok (dh 0 1 k,none) σ:=by
  show(if 0<=(k:Int)/\(k:Int)<=aI then ah.ok (dh 0 1 (k:Int).toNat,none) σ else .stuck)=_;rw[aD ⟨d3 k,by rw[eV];(exact Int.ofNat_le.mpr (aH (by assumption) (by decide)))⟩];rfl
 have c:ev (CC d) EL [some o8,some (.fl vs),af (k:Nat),some v,y,none,none,none,none] σ=.ok (.fl ((dh 0 1 k).map fun J=>v)) σ:=
  lI (fun J=>v) A9 (by rw[eV];simp[dh];exact aH hk (by decide)) fun x J=>rfl
 rw[List.map_const',show(dh 0 1 k).length=k by simp[dh]]at c;exact(congrArg bg (bf (a:=yj) (cH c))).trans rfl
theorem Ry{r:c2}{vs:List H}{k:Nat}(h:fv r vs.length k)(hl:vs.length<=10)(L:1<=vs.length)(hk:k<=100)(he:nQ r vs):bB PP topN (d+1) Im [r.pv,.fl vs,.int (k:Nat)] σ=.ok (.fl (hS r vs k)) σ:=by
 rw[cC (fn:=EK) rfl rfl];have vD:vs.length<=100:=aH hl (by decide)
 have hx:vs[0]?=some (vs.getD 0 .none):=by rw[kP,dI (show 0<vs.length from L)];rfl
 have skip:∀{a:S} {b:List S} {ρ:az} {c:X} {t:S},a=.ife c t .nil->tst (CC d) c ρ σ=.ok false σ->ex (CC d) topN a ρ σ=.next ρ σ:=fun{a b ρ c t} e h=>by exact e.symm▸((bC h))
 have ek:∀{o8:H},ex (CC d) topN EO [some o8,some (.fl vs),af (k:Nat),none,none,none,none,none,none] σ=.next [some o8,some (.fl vs),af (k:Nat),some (vs.getD 0 .none),none,none,none,none,none] σ:=fun{o8} =>
  bH (cG (x:=.fl vs) (ac:=σ) rfl (y:=.int ((0:Nat):Int)) (ar:=σ) rfl (qH vD hx))
 generalize hm:vs.length=m at h
 cases h with
 | sum _ _ =>
  refine ay (lu (show ∀v∈vs,dF v from he)) fun l ag hv=>?_;obtain rfl:=ag
  have e:ev (CC d) (.bin .mod (.b1 .sum (.v 1)) (.bin .pow (ae 10) (ae 6))) [some (c2.pv (.word "sum")),some (.fl (l.map .int)),af (k:Nat),some ((l.map H.int).getD 0 .none),none,none,none,none,none] σ=.ok (.int (l.sum%1000000)) σ:=
   cS (cZ (x:=.fl (l.map .int)) (ac:=σ) rfl (Ku (by rw[be]at hl;exact aH hl (by decide)) hv)) (y:=.int 1000000) (ar:=σ) rfl (ih (by decide))
  refine(congrArg bg (rfl.trans ((am ek).trans ((am (a:=oz) (rfl.trans ((am (a:=EP) (bH e)).trans bX))).trans
   ((am (a:=oA) rfl).trans ((am (a:=oB) rfl).trans (rfl.trans rfl))))))).trans ((oE hk).trans ?_)
  show ah.ok (H.fl (List.replicate k (.int (l.sum%1000000)))) σ=ah.ok (.fl (List.replicate k (.int ((ig (l.map .int)).sum%1000000)))) σ;rw[lh]
 | times _ _ =>
  refine ay (lu (show ∀v∈vs,dF v from he)) fun l ag hv=>?_;obtain rfl:=ag;obtain⟨y,e⟩:=V8 (d:=d) (σ:=σ) (pl:=.fl (l.map .int)) (mn:=.int (k:Nat)) (z:=some (c2.pv (.word "times"))) l 1 none (by decide) hv
  refine(congrArg bg (rfl.trans ((am ek).trans ((am (a:=oz) rfl).trans
   ((am (a:=oA) (rfl.trans (rfl.trans ((am (a:=EQ) (eO (ys:=l.map .int) (ac:=σ) rfl e)).trans bX)))).trans ((am (a:=oB) rfl).trans (rfl.trans rfl))))))).trans ((oE hk).trans ?_)
  show ah.ok (H.fl (List.replicate k (.int (qx l)))) σ=ah.ok (.fl (List.replicate k (.int (qx (ig (l.map .int)))))) σ;rw[lh]
 | least _ _ =>
  refine ay (lu (show ∀v∈vs,dF v from he)) fun l ag hv=>?_;obtain rfl:=ag
  cases l with
  | nil=>exact absurd L (by decide)
  | cons x l =>
  have dS:=Kf (x:=x) (l:=l)
  have cu:((eJ (x::l)).map H.int).length<=100:=by rw[be,show(eJ (x::l)).length=(x::l).length from(List.mergeSort_perm _ _).length_eq,<- be (f:=H.int)];exact vD
  have e:ev (CC d) (.sub (.b1 .sorted (.v 1)) (.sub (.lst true #v[(ae 0),(.neg (ae 1))]) (.b1 .int (.cmp (.sub (.v 0) (ae 0)) .eq (.k (.str "most")))))) [some (c2.pv (.word "least")),some (.fl ((x::l).map .int)),af (k:Nat),some (((x::l).map H.int).getD 0 .none),none,none,none,none,none] σ=.ok (.int (lm (x::l))) σ:=
   cG (cZ (x:=.fl ((x::l).map .int)) (ac:=σ) rfl (Kg (by rw[be]at hl;(exact gX (by assumption) (by decide))))) (y:=.int ((0:Nat):Int)) (ar:=σ) rfl (qH cu (by rw[fH,dS.1];rfl))
  refine(congrArg bg (rfl.trans ((am ek).trans ((am (a:=oz) rfl).trans
   ((am (a:=oA) rfl).trans ((am (a:=oB) (rfl.trans ((am (a:=yi) (bH e)).trans bX))).trans (rfl.trans rfl))))))).trans ((oE hk).trans ?_)
  show ah.ok (H.fl (List.replicate k (.int (lm (x::l))))) σ=ah.ok (.fl (List.replicate k (.int (lm (ig ((x::l).map .int)))))) σ;rw[lh]
 | most _ _ =>
  refine ay (lu (show ∀v∈vs,dF v from he)) fun l ag hv=>?_;obtain rfl:=ag
  cases l with
  | nil=>exact absurd L (by decide)
  | cons x l =>
  have dS:=Kf (x:=x) (l:=l)
  have cu:((eJ (x::l)).map H.int).length=l.length+1:=by rw[be];exact(List.mergeSort_perm _ _).length_eq
  have YR:l.length+1<=100:=by rw[be]at vD;exact vD
  have e:ev (CC d) (.sub (.b1 .sorted (.v 1)) (.sub (.lst true #v[(ae 0),(.neg (ae 1))]) (.b1 .int (.cmp (.sub (.v 0) (ae 0)) .eq (.k (.str "most")))))) [some (c2.pv (.word "most")),some (.fl ((x::l).map .int)),af (k:Nat),some (((x::l).map H.int).getD 0 .none),none,none,none,none,none] σ=.ok (.int (ln (x::l))) σ:=by
   refine cG (cZ (x:=.fl ((x::l).map .int)) (ac:=σ) rfl (Kg (by rw[be]at hl;(grind)))) (y:=.int (-1)) (ar:=σ) rfl ?_
   show(match b2 σ (.fl ((eJ (x::l)).map H.int))with
    | some xs=>li xs (-1) σ
    | none=>.stuck)=_
   show(if((eJ (x::l)).map H.int).length<=aI then ah.ofOpt ((fj (-1) ((eJ (x::l)).map H.int).length).bind (((eJ (x::l)).map H.int)[·]?)) σ else .stuck)=_;rw[aD (by rw[cu,eV];(exact aH (by assumption) (by decide))),cu,show fj (-1) (l.length+1)=some l.length by unfold fj;rw[aY (by decide)];simp;(grind)];show ah.ofOpt (((eJ (x::l)).map H.int)[l.length]?) σ=_;rw[fH,dS.2];rfl
  refine(congrArg bg (rfl.trans ((am ek).trans ((am (a:=oz) rfl).trans
   ((am (a:=oA) rfl).trans ((am (a:=oB) (rfl.trans ((am (a:=yi) (bH e)).trans bX))).trans (rfl.trans rfl))))))).trans ((oE hk).trans ?_)
  show ah.ok (H.fl (List.replicate k (.int (ln (x::l))))) σ=ah.ok (.fl (List.replicate k (.int (ln (ig ((x::l).map .int)))))) σ;rw[lh]
 | later _ =>
  exact(congrArg bg (rfl.trans ((am ek).trans ((am (a:=oz) rfl).trans
   ((am (a:=oA) rfl).trans ((am (a:=oB) rfl).trans (rfl.trans rfl))))))).trans (oE hk)
 | way =>
  refine jm (Ak hm) fun a b ag=>?_;obtain rfl:=ag;obtain⟨j,rfl,_⟩:=(show ∀v∈[a,b],dF v from he) b ((bM _ bi))
  have e:ev (CC d) (.sub (.lst true #v[(.lst true #v[(.sub (.v 1) (ae 0)),(.k .none)]),(.lst true #v[(.k .none),(.sub (.v 1) (ae 0))])]) (.b1 .int (.cmp (.sub (.v 1) (ae 1)) .ne (ae 0)))) [some (c2.pv (.word "way")),some (.fl [a,.int j]),af ((2:Nat):Int),none,none,none,none,none,none] σ=.ok (.fl (if jz (.int j)=true then[a,.none]else[.none,a])) σ:=by
   refine cG (x:=.fl [.fl [a,.none],.fl [.none,a]]) (ac:=σ) rfl (cZ (eE (x:=.int j) (y:=.int 0) (ac:=σ) (ar:=σ) rfl rfl vL) int_bool) ?_;show _=ah.ok (H.fl (if(j == 0)=true then[a,.none]else[.none,a])) σ;cases(j == 0) <;> rfl
  exact(congrArg bg (bf (a:=EM) (rfl.trans (bf (a:=EN) (cH e))))).trans rfl
 | choose _ =>
  refine ay ((show dF (vs.getD 0 .none)from And.left he)) fun i hi J=>?_;refine rs (qe hm) fun a b c ag=>?_;obtain rfl:=ag;obtain rfl:a=.int i:=hi
  have e:ev (CC d) (.sub (.v 1) (.bin .add (ae 1) (.b1 .int (.cmp (.sub (.v 1) (ae 0)) .ne (ae 0))))) [some (c2.pv (.word "choose")),some (.fl [.int i,b,c]),af (k:Nat),af i,none,none,none,none,none] σ=.ok (if jz (.int i)=true then b else c) σ:=by
   refine cG (x:=.fl [.int i,b,c]) (ac:=σ) rfl (cS (x:=.int 1) (ac:=σ) rfl (cZ (eE (x:=.int i) (y:=.int 0) (ac:=σ) (ar:=σ) rfl rfl vL) int_bool) add_int) ?_;show _=ah.ok (if(i == 0)=true then b else c) σ;cases(i == 0) <;> rfl
  exact(congrArg bg (rfl.trans (rfl.trans (rfl.trans
   (rfl.trans (rfl.trans (rfl.trans (am (a:=ET) (rfl.trans ((am (a:=EU) (bH e)).trans bX)))))))))).trans (oE hk)
 | fixed v _ _ _ _ =>
  exact(congrArg bg (rfl.trans ((am ek).trans ((am (a:=oz) rfl).trans
   ((am (a:=oA) rfl).trans ((am (a:=oB) rfl).trans (rfl.trans rfl))))))).trans (oE hk)
section
variable {es:cV}{s:aq}
noncomputable def f9(sp:H)(tk:Nat)(t:Int)(n:Nat)(vs:List H)(w:Int)(us:List H)(z:Option H):az:=[some sp,aR tk,af t,af (n:Nat),some (.fl vs),af w,some (.fl us),z,none,none,none,none]
theorem NZ{w:Int}{vs us:List H}(hu:us.length=s.gives.length)(hg:s.gives.length<=3)(hw:w<n)(hk:tk<σ.length):∀(k a:Nat) (es:cV) (z:Option H),a+k=s.gives.length->es.length+3<900000+a ->
  ∃bV,cj none (dM 7) (fun ρ σ=>ex (CC d) topN uy ρ σ) ((List.range' a k).map fun(i:Nat)=>H.int (0+(i:Int)*1)) (f9 s.pv tk t n vs w us z) (σ.set tk (.dp es))=.next (f9 s.pv tk t n vs w us bV) (σ.set tk (.dp (((s.gives.zip us).drop a).foldl (hh w) es))):=by
 intro k
 induction k with
 | zero =>
  intro a es z ha _;refine⟨z,eP.trans ?_⟩;rw[List.drop_eq_nil_of_le (by rw[List.length_zip,hu,Nat.min_self];(grind))];rfl
 | succ k aj =>
  intro a es z ha hl
  have pI:a<s.gives.length:=by grind
  have w6:a<us.length:=by grind
  have hd:(s.gives.zip us).drop a=(s.gives[a],us[a])::(s.gives.zip us).drop (a+1):=by
   rw[List.drop_eq_getElem_cons (by rw[List.length_zip,hu,Nat.min_self];exact pI),List.getElem_zip]
  have aN:(σ.set tk (.dp es))[tk]?=some (.dp es):=List.getElem?_set_self hk;have V:∀{τ:aa},ev (CC d) (.sub (.v 6) (.v 7)) (f9 s.pv tk t n vs w us (af (a:Int))) τ=.ok us[a] τ:=fun{τ}=>cG (x:=.fl us) (y:=.int (a:Int)) (ac:=τ) (ar:=τ) rfl rfl (qH (by grind) (dI w6))
  have t1:tst (CC d) (.and #v[(.cmp (.sub (.v 6) (.v 7)) .isNot (.k .none)),(.cmp (.v 5) .lt (.v 3))]) (f9 s.pv tk t n vs w us (af (a:Int))) (σ.set tk (.dp es))=.ok (!g7 us[a]) (σ.set tk (.dp es)):=by
   refine jw ((nE (b4 V (y:=.none) (ar:=σ.set tk (.dp es)) rfl (v:=.ok (!g7 us[a]) (σ.set tk (.dp es))) rfl) fun J=>kH (b4 (x:=.int w) (y:=.int (n:Nat)) (ac:=σ.set tk (.dp es)) (ar:=σ.set tk (.dp es)) rfl rfl lt_int)).trans ?_);rw[dz hw,Bool.and_true]
  have hb:dM 7 (H.int (0+(a:Int)*1)) (f9 s.pv tk t n vs w us z)=some (f9 s.pv tk t n vs w us (af (a:Int))):=by
   rw[show(0:Int)+(a:Int)*1=a by grind];rfl
  obtain⟨bV,e⟩:=aj (a+1) (hh w es (s.gives[a],us[a])) (af (a:Int)) (((Nat.succ_add_eq_add_succ _ _).trans (by assumption))) (by have:=AZ (w:=w) (es:=es) (e:=(s.gives[a],us[a]));(grind));refine⟨bV,?_⟩;rw[List.range'_succ,dD,hd,iO];refine(eh hb ((am (a:=yg) ?_).trans bX)).trans e;unfold hh
  cases hv:g7 us[a]with
  | true =>
   rw[hv]at t1;rw[aD rfl];exact(bC t1)
  | false =>
   rw[hv]at t1;rw[aY (by decide)];refine(cz t1).trans ((am (a:=EI) ?_).trans bX)
   have ak:ev (CC d) (.tup #v[(.sub (.sub (.v 0) (ae 3)) (.v 7)),(.v 5)]) (f9 s.pv tk t n vs w us (af (a:Int))) (σ.set tk (.dp es))=.ok (.tup [.str s.gives[a],.int w]) (σ.set tk (.dp es)):=
    lL (vs:=[.str s.gives[a],.int w]) (eI (cG (x:=.tup (s.gives.map .str)) (y:=.int (a:Int)) (ac:=σ.set tk (.dp es)) (ar:=σ.set tk (.dp es)) rfl rfl (VR (by rw[be,eV];(exact aH (by assumption) (by decide))) (d3 a) (by rw[kT,fH,dI pI];rfl))) rfl) (show(2:Nat)<=aI by decide)
   show(ev (CC d) (.sub (.v 6) (.v 7)) (f9 s.pv tk t n vs w us (af (a:Int))) (σ.set tk (.dp es))).toS _ (fun v σ=>(ev (CC d) (.v 1) (f9 s.pv tk t n vs w us (af (a:Int))) σ).toS _ fun o σ=>(ev (CC d) (.tup #v[(.sub (.sub (.v 0) (ae 3)) (.v 7)),(.v 5)]) (f9 s.pv tk t n vs w us (af (a:Int))) σ).toS _ fun i σ=>hW o i v _ σ)=_;rw[V,gx,show ev (CC d) (.v 1) (f9 s.pv tk t n vs w us (af (a:Int))) (σ.set tk (.dp es))=.ok (.ref tk) (σ.set tk (.dp es))from rfl,gx,ak,gx,sQ aN (by rw[eV];(grind)),List.set_set]
theorem U5{w:Int}{vs us:List H}(hu:us.length<=3)(hw:¬w<n):∀(k a:Nat) (z:Option H),a+k=us.length ->
  ∃bV,cj none (dM 7) (fun ρ σ=>ex (CC d) topN uy ρ σ) ((List.range' a k).map fun(i:Nat)=>H.int (0+(i:Int)*1)) (f9 s.pv tk t n vs w us z) σ=.next (f9 s.pv tk t n vs w us bV) σ:=by
 intro k
 induction k with
 | zero=>intro a z _;exact⟨z,eP⟩
 | succ k aj =>
  intro a z ha
  have w6:a<us.length:=by grind
  have t1:tst (CC d) (.and #v[(.cmp (.sub (.v 6) (.v 7)) .isNot (.k .none)),(.cmp (.v 5) .lt (.v 3))]) (f9 s.pv tk t n vs w us (af (a:Int))) σ=.ok false σ:=by
   refine jw ((nE (b4 (cG (x:=.fl us) (y:=.int (a:Int)) (ac:=σ) (ar:=σ) rfl rfl (qH ((aH (by assumption) (by decide))) (dI w6))) (y:=.none) (ar:=σ) rfl (v:=.ok (!g7 us[a]) σ) rfl) fun J=>kH (b4 (x:=.int w) (y:=.int (n:Nat)) (ac:=σ) (ar:=σ) rfl rfl lt_int)).trans ?_);rw[fx hw,Bool.and_false]
  have hb:dM 7 (H.int (0+(a:Int)*1)) (f9 s.pv tk t n vs w us z)=some (f9 s.pv tk t n vs w us (af (a:Int))):=by
   rw[show(0:Int)+(a:Int)*1=a by grind];rfl
  obtain⟨bV,e⟩:=aj (a+1) (af (a:Int)) (((Nat.succ_add_eq_add_succ _ _).trans (by assumption)));refine⟨bV,?_⟩;rw[List.range'_succ,dD];exact(eh hb ((am (a:=yg) (bC t1)).trans bX)).trans e
theorem Rw(hs:gV s)(h:σ[tk]?=some (.dp es))(hv:fw es)(hm:eH es s t=none)(L:t<n)(hl:es.length<800000):bB PP topN (d+2) Il [s.pv,.ref tk,.int t,.int (n:Nat)] σ=.ok .none (σ.set tk (.dp (iU n es s t))):=by
 rw[cC (fn:=yf) rfl rfl];have vl:(dr es s t).length=s.needs.length:=be _;have hk:tk<σ.length:=(dX h).1
 have iQ:ev (CC (d+1)) ED [some s.pv,aR tk,af t,af (n:Nat),none,none,none,none,none,none,none,none] σ=.ok (.fl (dr es s t)) σ:=by
  refine(lI (xs:=s.needs.map .str) (fun y=>match y with | .str x=>(aG (x,t) es).getD .none | _=>.none) rfl (by rw[be];exact aH hs.needs4 (by decide)) (fun y hy=>?_)).trans ?_
  ·refine ay (ci.mp hy) fun x hx ag=>?_;obtain rfl:=ag;exact hJ (x:=.ref tk) (ac:=σ) rfl (zh h) (y:=.tup [.str x,.int t]) (ar:=σ) rfl (zl h)
  ·rw[fV];rfl
 have ek:ex (CC (d+1)) topN EF [some s.pv,aR tk,af t,af (n:Nat),some (.fl (dr es s t)),none,none,none,none,none,none,none] σ=.next [some s.pv,aR tk,af t,af (n:Nat),some (.fl (dr es s t)),af (fq s t),none,none,none,none,none,none] σ:=
  bH (cS (x:=.int t) (ac:=σ) rfl (cZ (eE (x:=s.rule.pv) (y:=.tup [.str "later"]) (ac:=σ) (ar:=σ) rfl rfl (qB hs.rule).1) int_bool) add_int)
 have g:=Ry (d:=d) (σ:=σ) (r:=s.rule) (vs:=dr es s t) (k:=s.gives.length) (by rw[vl];exact hs.rule) (by rw[vl];exact aH hs.needs4 (by decide)) (by rw[vl];exact hs.needs1) (aH hs.gives3 (by decide)) (xz hs hv hm)
 have jZ:ex (CC (d+1)) topN EG [some s.pv,aR tk,af t,af (n:Nat),some (.fl (dr es s t)),af (fq s t),none,none,none,none,none,none] σ=.next (f9 s.pv tk t n (dr es s t) (fq s t) (hS s.rule (dr es s t) s.gives.length) none) σ:=
  bH (pS (x:=s.rule.pv) (y:=.fl (dr es s t)) (ac:=σ) (ar:=σ) rfl rfl (cZ (x:=.tup (s.gives.map .str)) (ac:=σ) rfl (vC (aH hs.gives3 (by decide)))) g)
 have sZ:=JO (vs:=dr es s t) hs.rule
 have it:evIt (CC (d+1)) (.range1 (.b1 .len (.v 6))) (f9 s.pv tk t n (dr es s t) (fq s t) (hS s.rule (dr es s t) s.gives.length) none) σ=.ok ((List.range' 0 s.gives.length).map fun(i:Nat)=>H.int (0+(i:Int)*1),none) σ:=by
  rw[xC,cZ (C:=CC (d+1)) (a:=.v 6) (x:=.fl (hS s.rule (dr es s t) s.gives.length)) (ac:=σ) rfl (Al (by rw[sZ,eV];have:=hs.gives3;(exact aH (by assumption) (by decide)))),cn,sZ];show(if 0<=(s.gives.length:Int)/\(s.gives.length:Int)<=aI then ah.ok (dh 0 1 (s.gives.length:Int).toNat,none) σ else .stuck)=_;rw[aD ⟨d3 _,by have:=hs.gives3;rw[eV];(grind)⟩,<- kQ];rfl
 have fin:∀{bV:Option H} {σ':aa},cj none (dM 7) (fun ρ σ=>ex (CC (d+1)) topN uy ρ σ) ((List.range' 0 s.gives.length).map fun(i:Nat)=>H.int (0+(i:Int)*1)) (f9 s.pv tk t n (dr es s t) (fq s t) (hS s.rule (dr es s t) s.gives.length) none) σ=.next (f9 s.pv tk t n (dr es s t) (fq s t) (hS s.rule (dr es s t) s.gives.length) bV) σ'->bg (ex (CC (d+1)) topN yf.body [some s.pv,aR tk,af t,af (n:Nat),none,none,none,none,none,none,none,none] σ)=.ok .none σ':=fun{bV σ'} e =>
  (congrArg bg ((am (a:=EE) (bH iQ)).trans ((am ek).trans ((am jZ).trans ((am (a:=EH) (eO it e)).trans bX))))).trans rfl
 have self:σ.set tk (.dp es)=σ:=by
  have e:=(dX h).2;rw[<- e];exact List.set_getElem_self hk
 have wr:fq s t<=t+1:=by
  unfold fq
  split <;> (grind)
 unfold iU;by_cases hw:fq s t=n
 ·rw[aD hw,self];obtain⟨bV,e⟩:=U5 (d:=d+1) (σ:=σ) (tk:=tk) (s:=s) (n:=n) (t:=t) (w:=fq s t) (vs:=dr es s t) (us:=hS s.rule (dr es s t) s.gives.length) (by rw[sZ];exact hs.gives3) (by grind) s.gives.length 0 none (by rw[sZ];(exact gD _));exact fin e
 ·rw[aY hw];obtain⟨bV,e⟩:=NZ (d:=d+1) (σ:=σ) (tk:=tk) (s:=s) (n:=n) (t:=t) (w:=fq s t) (vs:=dr es s t) (us:=hS s.rule (dr es s t) s.gives.length) sZ hs.gives3 (by grind) hk s.gives.length 0 es none ((gD _)) (by grind);rw[self,List.drop_zero]at e;exact fin e
end
noncomputable def cA(k:Str×Int):H:=.tup [.str k.1,.int k.2]
noncomputable def l3(k:Str×Int):PyData:=.tuple [.str k.1,.int k.2]
theorem vA(a b:Str×Int):PyData.eqv (l3 a) (l3 b)=decide (a=b):=by
 show(a.1 == b.1&&(a.2 == b.2&&true))=_;rw[Bool.and_true,Bool.eq_iff_iff,eB,ff,ff,iN];exact⟨fun h=>Prod.ext h.1 h.2,fun h=>h▸⟨rfl,rfl⟩⟩
theorem Wa:∀(l:List (Str×Int)),(l.map cA).mapM (toD (n+2) σ)=some (l.map l3):=by
 intro l
 induction l with
 | nil=>rfl
 | cons q l aj=>rw[dD,List.mapM_cons,aj];rfl
theorem Ax{k:Str×Int}{l:List (Str×Int)}:hQ σ (cA k) (l.map cA)=some (decide (k∈l)):=by
 unfold hQ;rw[Wa (n:=14) l];show some ((l.map l3).any fun y=>PyData.eqv y (l3 k))=_;refine congrArg some ?_;rw[List.any_map,Bool.eq_iff_iff,List.any_eq_true,iN]
 exact⟨fun⟨x,hx,e⟩=>by
  have e:PyData.eqv (l3 x) (l3 k)=true:=e;rw[vA]at e
  exact hG e▸hx,fun h=>⟨k,h,by
  show PyData.eqv (l3 k) (l3 k)=true
  rw[vA];exact dz rfl⟩⟩
theorem Tn{k:Str×Int}{l:List (Str×Int)}(h:σ[r]?=some (.lst (l.map cA))):cY .notin (cA k) (.ref r) σ=.ok (!decide (k∈l)) σ:=by
 show ah.ofOpt ((dP (cA k) (.ref r) σ).map (!·)) σ=_
 have:dP (cA k) (.ref r) σ=some (decide (k∈l)):=by unfold dP;dsimp only;exact h.symm▸Ax
 rw[this];rfl
theorem RU(h:σ[r]?=some (.lst xs)):ku (.ref r) .list σ=.ok true σ:=by
 have e:b2 σ (.ref r)=some xs:=by unfold b2;dsimp only;rw[h]
 show(match b2 σ (.ref r)with | some _=>ah.ok true σ | none=>.stuck)=_;rw[e]
theorem Rd{x:X}(h:evIt C x ρ σ=(ev C x ρ σ).bind d4)(hx:ev C x ρ σ=.ok (.ref r) σ)(hr:σ[r]?=some (.lst xs)):evIt C x ρ σ=.ok (xs,some (r,.lst xs)) σ:=by
 rw[h,hx];show d4 (.ref r) σ=_;unfold d4 items nK;dsimp only;rw[hr]
theorem sH{x:Mine.X}(h:ev C x ρ σ=.ok (.int (n:Nat)) σ)(hn:n<=200):evIt C (.range1 x) ρ σ=.ok (dh 0 1 n,none) σ:=by
 rw[xC,h,cn];show(if 0<=(n:Int)/\(n:Int)<=aI then ah.ok (dh 0 1 (n:Int).toNat,none) σ else .stuck)=_;rw[aD ⟨d3 n,by rw[eV];(exact Int.ofNat_le.mpr (aH (by assumption) (by decide)))⟩];rfl
section
variable {p:List aq}{es gs:cV}{X:dC}
theorem OA(g:os=gs.map fun e=>.tup [.str e.1.1,.int e.1.2])(h:σ[gl]?=some (.lst os)):cY .notin (.tup [.str x,.int t]) (.ref gl) σ=.ok (aG (x,t) gs).isNone σ:=by
 have e:os=(gs.map (·.1)).map cA:=by rw[g,fV];rfl
 rw[e]at h;refine(Tn (k:=(x,t)) h).trans ?_;refine congrArg (ah.ok · σ) ?_;have hi:=rN (k:=(x,t)) (es:=gs)
 cases ha:aG (x,t) gs with
 | none =>
  rw[ha]at hi;rw[fx fun q=>by have:=hi.mpr q;contradiction];rfl
 | some v =>
  rw[ha]at hi;rw[dz (hi.mp rfl)];rfl
end
structure fG where
 p:List aq
 n:Nat
 X:dC
 tk:Nat
 gl:Nat
 l:List Int
structure fT(Γ:fG)(B:bl)(σ:aa):Prop where
 bo:fF Γ.p Γ.n B Γ.X σ
 tk:σ[Γ.tk]?=some (.dp B.es)
 gl:σ[Γ.gl]?=some (.lst B.os)
 ok:fw B.es
 gk:pw Γ.p Γ.n B
theorem fT.more{Γ:fG}{B:bl}(h:fT Γ B σ):fT Γ B (σ++τ):=⟨h.bo.more,iD h.tk,iD h.gl,h.ok,h.gk⟩
structure jF(Γ:fG):Prop where
 hp:cs Γ.p
 hpl:∀s∈Γ.p,iM s
 hl:Γ.l.length<=63
 hn1:1<=Γ.n
 hn:Γ.n<=6
section
variable {Γ:fG}{B:bl}
theorem gf{f:Nat}{xs:Mine.X}{vs:List H}{v:ah H}(h:evs C xs ρ σ=.ok vs ac)(hc:C.call f vs ac=v):ev C (.call f xs) ρ σ=v:=by
 rw[tT,h];exact hc
end
noncomputable def eF(p:List aq):List Str:=(p.filter fun s=>eG s.rule).flatMap (·.gives)
theorem RP:∀(p:List aq) (x:Option H) (acc:List Str),acc.length+3*p.length<=900->(∀s∈p,gV s) ->
  ∃aO,cj none (dM 2) (fun ρ σ=>ex (CC d) topN EJ ρ σ) (p.map aq.pv) [some pl,aR τ.length,x] (τ++[.lst (acc.map .str)]) =
   .next [some pl,aR τ.length,aO] (τ++[.lst ((acc++eF p).map .str)]):=by
 intro p
 induction p with
 | nil=>intro x acc _ _;exact⟨x,by simpa[eF]using eP⟩
 | cons s p aj =>
  intro x acc hl aw;have hs:=aw s ((bi));have hg:=hs.gives3;rw[dy]at hl
  have t:tst (CC d) (.cmp (.sub (.v 2) (ae 1)) .eq (.tup #v[(.k (.str "later"))])) [some pl,aR τ.length,some s.pv] (τ++[.lst (acc.map .str)])=.ok (eG s.rule) (τ++[.lst (acc.map .str)]):=
   b4 (x:=s.rule.pv) (y:=.tup [.str "later"]) (ac:=τ++[.lst (acc.map .str)]) (ar:=τ++[.lst (acc.map .str)]) rfl rfl (qB hs.rule).1
  cases hq:eG s.rule with
  | false =>
   rw[hq]at t;obtain⟨aO,e⟩:=aj (some s.pv) acc (by grind) fun t a3=>aw t (bM _ a3)
   have bK:eF (s::p)=eF p:=by unfold eF;rw[List.filter_cons,hq,aY (by decide)]
   rw[bK];refine⟨aO,(eh (bU:=[some pl,aR τ.length,some s.pv]) (eA:=[some pl,aR τ.length,some s.pv]) (ar:=τ++[.lst (acc.map .str)]) rfl ?_).trans e⟩;exact(am (bC t)).trans bX
  | true =>
   rw[hq]at t;obtain⟨aO,e⟩:=aj (some s.pv) (acc++s.gives) (by rw[cW];(grind)) fun t a3=>aw t (bM _ a3)
   have bK:eF (s::p)=s.gives++eF p:=by unfold eF;rw[List.filter_cons,hq,aD rfl,kS]
   rw[bK,<- eY];refine⟨aO,(eh (bU:=[some pl,aR τ.length,some s.pv]) (eA:=[some pl,aR τ.length,some s.pv]) (ar:=τ++[.lst ((acc++s.gives).map .str)]) rfl ?_).trans e⟩;refine(am ((cz t).trans ?_)).trans bX;refine(am (fJ (hJ (m:=.extend) (x:=.ref τ.length) (ac:=τ++[.lst (acc.map .str)]) (ar:=τ++[.lst (acc.map .str)]) rfl (ng (.inr (.inl rfl))) (y:=.tup (s.gives.map .str)) rfl ?_))).trans bX;show lO (.ref τ.length) (.tup (s.gives.map .str)) _=_;unfold lO;dsimp only;rw[h7];dsimp only;rw[aD (by rw[be,be,eV];(grind)),mj,eu]
theorem Rx{p:List aq}(h:cs p):bB PP topN (d+1) z8 [bv p] σ=.ok (.ref σ.length) (σ++[.lst ((eF p).map .str)]):=by
 rw[cC (fn:=yh) rfl rfl];obtain⟨aO,e⟩:=RP (d:=d) (pl:=bv p) (τ:=σ) p none [] (by show 0+3*p.length<=900;have:=h.most;(grind)) h.steps;rw[List.nil_append]at e
 have:ex (CC d) topN yh.body [some (bv p),none,none] σ=.ret (.ref σ.length) [some (bv p),aR σ.length,aO] (σ++[.lst ((eF p).map .str)]):=
  rfl.trans ((am (eO (ys:=p.map aq.pv) (ac:=σ++[.lst []]) rfl e)).trans rfl)
 exact(congrArg bg this).trans rfl
theorem G3{p:List aq}:x∈eF p ↔ ∃s∈p,eG s.rule=true/\x∈s.gives:=by
 unfold eF;rw[List.mem_flatMap];exact⟨fun⟨s,h,hx⟩=>⟨s,(List.mem_filter.mp h).1,(List.mem_filter.mp h).2,hx⟩,fun⟨s,h,hl,hx⟩=>⟨s,List.mem_filter.mpr ⟨h,hl⟩,hx⟩⟩
theorem N2{p:List aq}(h:cs p):(eF p).Nodup:=by
 have:=h.gives;unfold List.Nodup at this;rw[List.pairwise_flatMap]at this;unfold eF List.Nodup;rw[List.pairwise_flatMap];exact⟨fun s hs=>this.1 s (List.mem_filter.mp hs).1,this.2.filter _⟩
set_option tactic.hygienic true in
theorem TG:∀(ns acc:List Str),acc.Nodup->(ns.foldl (fi G) acc).Nodup:=by
 intro ns
 induction ns with
 | nil=>intro acc h;exact h
 | cons n ns aj =>
  intro acc h;rw[iO];refine aj _ ?_;unfold fi
  split
  ·rename_i hc;rw[gC];refine⟨h,gZ.mpr ⟨et,List.nodup_nil⟩,fun a ha b hb e=>?_⟩;rw[de.mp hb]at e;rw[e]at ha;rw[dz ha]at hc;simp at hc
  ·exact h
noncomputable abbrev iw:=Str×Nat×Int
noncomputable def cI(e:iw):H:=.tup [.str e.1,.int (e.2.1:Nat),.int e.2.2]
structure Ce(p:List aq)(n:Nat)(e:iw):Prop where
 plc:ma p e.1=true
 free:ki p e.1 (e.2.1:Nat)=false
 lt:e.2.1<n
 val:0<=e.2.2/\e.2.2<=999999
structure iy(p:List aq)(n:Nat)(l:List iw):Prop where
 nodup:(l.map fun e=>(e.1,e.2.1)).Nodup
 ok:∀e∈l,Ce p n e
theorem iy.snoc{p:List aq}{l:List iw}{e:iw}(h:iy p n l)(he:Ce p n e)(hn:∀q∈l,(q.1,q.2.1)≠(e.1,e.2.1)):iy p n (l++[e]):=by
 refine⟨?_,fun q hq=>?_⟩
 ·rw[eu,gC];refine⟨h.nodup,gZ.mpr ⟨et,List.nodup_nil⟩,fun a ha b hb=>?_⟩;refine ay (ci.mp ha) fun q hq ag=>?_;obtain rfl:=ag;exact(de.mp hb).symm▸(hn q hq)
 ·rcases dt.mp hq with hq | hq
  ·exact h.ok q hq
  ·rw[de.mp hq];exact he
theorem JP{p:List aq}{j:Int}(h:x∈f0 p):ki p x j=false/\ma p x=true:=by
 refine⟨Ha fun s hs hx=>absurd (List.mem_flatMap.mpr ⟨s,hs,hx⟩) (JN.mp h).2,?_⟩;unfold ma;rw[dz h,Bool.or_true]
theorem N0{p:List aq}(hp:cs p)(h:x∈eF p):ki p x ((0:Nat):Int)=false/\ma p x=true:=by
 refine bu (G3.mp h) fun s hs hl hx=>?_;refine⟨Ha fun s' eU Qv=>?_,?_⟩
 ·have:=(zj Qv hp.gives eU).symm.trans (zj hx hp.gives hs);obtain rfl:=oi this;exact⟨hl,Int.le_refl 0⟩
 ·unfold ma;rw[dz (List.mem_flatMap.mpr ⟨s,hs,hx⟩)];rfl
section
variable {p:List aq}{b7 at_:Nat}{cP:Int}
noncomputable def dQ(l:List Int)(at_:Nat)(p:List aq)(n b7:Nat)(cP:Int)(j x t k:Option H):az:=some (.fl (l.map .int))::af (at_:Nat)::some (bv p)::af (n:Nat)::aR b7::af cP::j::x::t::k::List.replicate 7 none
theorem Cy{N f:Nat}{y:X}{e:iw}{acc:List iw}(oO:b7<τ.length)(hl:acc.length<900)(bc:∀σ,ev C (.v f) ρ σ=.ok (.ref b7) σ)(hy:ev C y ρ (τ.set b7 (.lst (acc.map cI)))=.ok (cI e) (τ.set b7 (.lst (acc.map cI)))) :
  ex C N (.expr (.me .append (.v f) #v[y])) ρ (τ.set b7 (.lst (acc.map cI)))=.next ρ (τ.set b7 (.lst ((acc++[e]).map cI))):=by
 have g:(τ.set b7 (.lst (acc.map cI)))[b7]?=some (.lst (acc.map cI)):=List.getElem?_set_self oO;refine(fJ (hJ (bc _) (vI g) hy (rg g (by rw[be];(exact aH (by assumption) (by decide)))))).trans ?_;rw[List.set_set,eu];rfl
theorem xc{x:X}{k:Nat}(hl:l.length<=63)(hC:∀vs σ,C.call g6 vs σ=bB PP topN (d+1) g6 vs σ)(h0:ev C (.v 0) ρ σ=.ok (.fl (l.map .int)) σ)(hx:ev C x ρ σ=.ok (.int (k:Nat)) σ):ev C (.call g6 #v[(.v 0),x]) ρ σ=.ok (.int (l.getD k 0)) σ:=jl h0 hx ((hC _ _).trans (uR hl))
theorem T7(hl:l.length<=63)(hx:x∈f0 p)(oO:b7<τ.length):∀(k a:Nat) (acc:List iw) (t z:Option H),a+k=n->acc.length+k<900->iy p n acc->(∀e∈acc,e.1=x->e.2.1<a) ->
  ∃er bx bV,cj none (dM 8) (fun ρ σ=>ex (CC (d+1)) topN yC ρ σ) ((List.range' a k).map fun(i:Nat)=>H.int (0+(i:Int)*1)) (dQ l at_ p n b7 cP (af (j:Nat)) (a1 x) t z) (τ.set b7 (.lst (acc.map cI)))=.next (dQ l at_ p n b7 cP (af (j:Nat)) (a1 x) bx bV) (τ.set b7 (.lst (er.map cI)))/\iy p n er/\er.length<=acc.length+k/\∀e∈er,e∈acc\/e.1=x:=by
 intro k
 induction k with
 | zero=>intro a acc t z _ _ h _;exact⟨acc,t,z,eP,h,dA _,fun e he=>.inl he⟩
 | succ k aj =>
  intro a acc t z ha hk h hb;refine bu (zm (p:=ej (ej (l.getD (at_+1+(j+a)%6) 0+31*(j:Int)+1009*(a:Int))))) fun v fm aX hv=>?_
  have Pd:dM 8 (H.int (0+(a:Int)*1)) (dQ l at_ p n b7 cP (af (j:Nat)) (a1 x) t z)=some (dQ l at_ p n b7 cP (af (j:Nat)) (a1 x) (af (a:Nat)) z):=by
   rw[show(0:Int)+(a:Int)*1=a by grind];rfl
  have dU:∀{σ:aa},ex (CC (d+1)) topN Fw (dQ l at_ p n b7 cP (af (j:Nat)) (a1 x) (af (a:Nat)) z) σ=.next (dQ l at_ p n b7 cP (af (j:Nat)) (a1 x) (af (a:Nat)) (af (ej (l.getD (at_+1+(j+a)%6) 0+31*(j:Int)+1009*(a:Int))))) σ:=fun{σ}=>by
   refine bH (d8 (cS (cS (xc (d:=d) hl (fun J J=>rfl) rfl (k:=at_+1+(j+a)%6) (cS (x:=.int ((at_:Int)+1)) (ac:=σ) rfl (cS (x:=.int ((j:Int)+a)) (ac:=σ) rfl (y:=.int 6) (ar:=σ) rfl (ih (by decide))) ?_)) (cS (x:=.int 31) (y:=.int (j:Nat)) (ac:=σ) (ar:=σ) rfl rfl (mul_int (.inl (by decide)))) add_int) rfl add_int) (lV (d:=d)));rw[add_int];(rfl)
  have cm:∀{σ:aa} {q:Int},tst (CC (d+1)) (.or #v[(.cmp (.v 5) .gt (ae 0)),(.cmp (.bin .mod (.v 9) (ae 3)) .gt (ae 0))]) (dQ l at_ p n b7 cP (af (j:Nat)) (a1 x) (af (a:Nat)) (af q)) σ=.ok (decide (cP > 0)||decide (q%3 > 0)) σ:=fun{σ q} =>
   ik (sT rfl fun J=>i9 rfl)
  generalize hq:ej (l.getD (at_+1+(j+a)%6) 0+31*(j:Int)+1009*(a:Int))=q at dU hv
  have fin:∀(ee:List iw),ex (CC (d+1)) topN Fx (dQ l at_ p n b7 cP (af (j:Nat)) (a1 x) (af (a:Nat)) (af q)) (τ.set b7 (.lst (acc.map cI)))=.next (dQ l at_ p n b7 cP (af (j:Nat)) (a1 x) (af (a:Nat)) (af q)) (τ.set b7 (.lst (ee.map cI)))->iy p n ee->ee.length<=acc.length+1->(∀e∈ee,e∈acc\/e=(x,a,v)) ->
    ∃er bx bV,cj none (dM 8) (fun ρ σ=>ex (CC (d+1)) topN yC ρ σ) ((List.range' a (k+1)).map fun(i:Nat)=>H.int (0+(i:Int)*1)) (dQ l at_ p n b7 cP (af (j:Nat)) (a1 x) t z) (τ.set b7 (.lst (acc.map cI)))=.next (dQ l at_ p n b7 cP (af (j:Nat)) (a1 x) bx bV) (τ.set b7 (.lst (er.map cI)))/\iy p n er/\er.length<=acc.length+(k+1)/\∀e∈er,e∈acc\/e.1=x:=fun ee V L gN a0=>by
   obtain⟨er,bx,bV,ak,O,l4,cx⟩:=aj (a+1) ee (af (a:Nat)) (af q) (((Nat.succ_add_eq_add_succ _ _).trans (by assumption))) (by grind) L (fun e he hx=>by
    rcases a0 e he with he | rfl
    ·have:=hb e he hx;(exact aH (by assumption) (gc _ _))
    ·exact Nat.lt_succ_self _)
   refine⟨er,bx,bV,?_,O,by grind,fun e he=>?_⟩
   ·rw[List.range'_succ,dD];exact(eh Pd ((am dU).trans ((am V).trans bX))).trans ak
   ·rcases cx e he with he | he
    ·rcases a0 e he with he | rfl
     ·exact .inl he
     ·exact .inr rfl
    ·exact .inr he
  cases hc:(decide (cP > 0)||decide (q%3 > 0))with
  | false=>exact fin acc (bC (cm.trans (by rw[hc]))) h (Nat.le_succ _) fun e he=>.inl he
  | true =>
   refine fin (acc++[(x,a,v)]) ((cz (cm.trans (by rw[hc]))).trans ((am (a:=Fy) (Cy oO (by grind) (fun J=>rfl) ?_)).trans bX)) (h.snoc ⟨(JP (j:=0) hx).2,(JP hx).1,by show a<n;(grind),fm,aX⟩ fun e he q=>?_) (cW.symm▸(dA _)) fun e he=>?_
   ·exact lL (vs:=[.str x,.int (a:Nat),.int v]) (eI (x:=.str x) (ac:=τ.set b7 (.lst (acc.map cI))) rfl (eI (x:=.int (a:Nat)) (ac:=τ.set b7 (.lst (acc.map cI))) rfl (eI (d8 (d8 (x:=.int q) (ac:=τ.set b7 (.lst (acc.map cI))) rfl (lV (d:=d))) hv) km))) (show(3:Nat)<=aI by decide)
   ·refine aS (Prod.mk.inj q) fun q1 q2=>?_;exact Nat.lt_irrefl _ (q2▸hb e he q1)
   ·rcases dt.mp he with he | he
    ·exact .inl he
    ·exact .inr (de.mp he)
end
theorem G4{f:aq->List Str}{m:Nat}:∀(q:List aq),(∀s∈q,(f s).length<=m)->(q.flatMap f).length<=m*q.length:=by
 intro q
 induction q with
 | nil=>intro _;exact dA _
 | cons s q aj =>
  intro h;have L:=h s bi;have O:=aj fun t a3=>h t (bM _ a3);rw[kS,cW,dy,Nat.mul_succ];(grind)
theorem TB{p:List aq}(h:cs p):(f0 p).length<=80:=by
 have L:=AQ (G:=p.flatMap (·.gives)) (p.flatMap (·.needs)) [];have O:=G4 (f:=fun s=>s.needs) p fun s hs=>(h.steps s hs).needs4;exact aH L (aH (by rw[List.length_nil,gD];exact O) (Nat.mul_le_mul_left 4 h.most))
theorem N1{p:List aq}(h:cs p):(eF p).length<=60:=by
 unfold eF;have O:=G4 (f:=fun s=>s.gives) (p.filter fun s=>eG s.rule) fun s hs=>(h.steps s (List.mem_filter.mp hs).1).gives3;exact aH O (Nat.mul_le_mul_left 3 (aH (List.length_filter_le _ _) h.most))
section
variable {p:List aq}{b7 at_:Nat}{cP:Int}
theorem T8(hl:l.length<=63)(hn:n<=6)(oO:b7<τ.length)(hw:∀m,hY wt (τ.set b7 m)):∀(xs:List Str) (j:Nat) (acc:List iw) (a x t z:Option H),xs.Nodup->(∀x∈xs,x∈f0 p)->(∀e∈acc,e.1∉xs)->acc.length+6*xs.length<800->iy p n acc ->
  ∃er ed aO bx bV,cj wt (gF [6,7]) (fun ρ σ=>ex (CC (d+1)) topN Fu ρ σ) (ky j (xs.map .str)) (dQ l at_ p n b7 cP a x t z) (τ.set b7 (.lst (acc.map cI)))=.next (dQ l at_ p n b7 cP ed aO bx bV) (τ.set b7 (.lst (er.map cI)))/\iy p n er/\er.length<=acc.length+6*xs.length/\∀e∈er,e∈acc\/e.1∈xs:=by
 intro xs
 induction xs with
 | nil=>intro j acc a x t z _ _ _ _ h;exact⟨acc,a,x,t,z,uP (hw _),h,dA _,fun e he=>.inl he⟩
 | cons y xs aj =>
  intro j acc a x t z hd hm ha c0 h;rw[dy]at c0;rw[gZ]at hd;obtain⟨ee,t1,dE,V,L,gN,a0⟩:=T7 (d:=d) (at_:=at_) (cP:=cP) (x:=y) (j:=j) hl (hm y bi) oO n 0 acc t z (gD n) (by grind) h (fun e he hx=>absurd (hx▸bi) (ha e he))
  obtain⟨er,ed,aO,bx,bV,ak,O,l4,cx⟩:=aj (j+1) ee (af (j:Nat)) (a1 y) t1 dE hd.2 (fun x hx=>hm x (bM _ hx)) (fun e he hx=>by
   rcases a0 e he with he | he
   ·exact ha e he (bM _ hx)
   ·exact hd.1 (he▸hx)) (by grind) L
  refine⟨er,ed,aO,bx,bV,?_,O,by rw[dy];(grind),fun e he=>?_⟩
  ·refine(uO (hw _) (bU:=dQ l at_ p n b7 cP (af (j:Nat)) (a1 y) t z) rfl ((am (a:=Fv) (eO (sH rfl ((aH (by assumption) (by decide)))) ?_)).trans bX)).trans ak;unfold dh;exact kQ.symm▸V
  ·rcases cx e he with he | he
   ·rcases a0 e he with he | he
    ·exact .inl he
    ·exact .inr (he▸bi)
   ·exact .inr (bM _ he)
theorem T6(hp:cs p)(hl:l.length<=63)(hn1:1<=n)(oO:b7<τ.length)(hw:∀m,hY wt (τ.set b7 m)):∀(xs:List Str) (j:Nat) (acc:List iw) (a x t z:Option H),xs.Nodup->(∀x∈xs,x∈eF p)->(∀e∈acc,e.1∉xs)->acc.length+xs.length<900->iy p n acc ->
  ∃er ed aO bx bV,cj wt (gF [6,7]) (fun ρ σ=>ex (CC (d+1)) topN yD ρ σ) (ky j (xs.map .str)) (dQ l at_ p n b7 cP a x t z) (τ.set b7 (.lst (acc.map cI)))=.next (dQ l at_ p n b7 cP ed aO bx bV) (τ.set b7 (.lst (er.map cI)))/\iy p n er/\er.length<=acc.length+xs.length:=by
 intro xs
 induction xs with
 | nil=>intro j acc a x t z _ _ _ _ h;exact⟨acc,a,x,t,z,uP (hw _),h,dA _⟩
 | cons y xs aj =>
  intro j acc a x t z hd hm ha c0 h;rw[dy]at c0;rw[gZ]at hd;refine bu (zm (p:=ej (ej (l.getD (at_+1+j%6) 0+7)))) fun v fm aX hv=>?_
  have dU:∀{σ:aa},ex (CC (d+1)) topN FA (dQ l at_ p n b7 cP (af (j:Nat)) (a1 y) t z) σ=.next (dQ l at_ p n b7 cP (af (j:Nat)) (a1 y) t (af (ej (l.getD (at_+1+j%6) 0+7)))) σ:=fun{σ}=>by
   refine bH (d8 (cS (xc (d:=d) hl (fun J J=>rfl) rfl (k:=at_+1+j%6) (cS (x:=.int ((at_:Int)+1)) (ac:=σ) rfl rfl ?_)) (y:=.int 7) (ar:=σ) rfl add_int) (lV (d:=d)));rw[add_int];(rfl)
  have cm:∀{σ:aa} {q:Int},tst (CC (d+1)) (.cmp (.bin .mod (.v 9) (ae 5)) .gt (.bin .sub (.v 5) (ae 1))) (dQ l at_ p n b7 cP (af (j:Nat)) (a1 y) t (af q)) σ=.ok (decide (q%5 > cP-1)) σ:=fun{σ q} =>
   b4 rfl (y:=.int (cP-1)) (ar:=σ) rfl gt_int
  generalize hq:ej (l.getD (at_+1+j%6) 0+7)=q at dU hv
  have fin:∀(ee:List iw),ex (CC (d+1)) topN FC (dQ l at_ p n b7 cP (af (j:Nat)) (a1 y) t (af q)) (τ.set b7 (.lst (acc.map cI)))=.next (dQ l at_ p n b7 cP (af (j:Nat)) (a1 y) t (af q)) (τ.set b7 (.lst (ee.map cI)))->iy p n ee->ee.length<=acc.length+1->(∀e∈ee,e∈acc\/e=(y,0,v)) ->
    ∃er ed aO bx bV,cj wt (gF [6,7]) (fun ρ σ=>ex (CC (d+1)) topN yD ρ σ) (ky j ((y::xs).map .str)) (dQ l at_ p n b7 cP a x t z) (τ.set b7 (.lst (acc.map cI)))=.next (dQ l at_ p n b7 cP ed aO bx bV) (τ.set b7 (.lst (er.map cI)))/\iy p n er/\er.length<=acc.length+(y::xs).length:=fun ee V L gN a0=>by
   obtain⟨er,ed,aO,bx,bV,ak,O,l4⟩:=aj (j+1) ee (af (j:Nat)) (a1 y) t (af q) hd.2 (fun x hx=>hm x (bM _ hx)) (fun e he hx=>by
    rcases a0 e he with he | rfl
    ·exact ha e he (bM _ hx)
    ·exact hd.1 hx) (by grind) L
   exact⟨er,ed,aO,bx,bV,(uO (hw _) (bU:=dQ l at_ p n b7 cP (af (j:Nat)) (a1 y) t z) rfl ((am dU).trans ((am V).trans bX))).trans ak,O,by rw[dy];(grind)⟩
  cases hc:decide (q%5 > cP-1)with
  | false=>exact fin acc (bC (cm.trans (by rw[hc]))) h (Nat.le_succ _) fun e he=>.inl he
  | true =>
   refine aS (N0 hp (hm y bi)) fun f1 f2=>?_;refine fin (acc++[(y,0,v)]) ((cz (cm.trans (by rw[hc]))).trans ((am (a:=FD) (Cy oO (by grind) (fun J=>rfl) ?_)).trans bX)) (h.snoc ⟨f2,f1,hn1,fm,aX⟩ fun e he q=>?_) (cW.symm▸(dA _)) fun e he=>?_
   ·exact lL (vs:=[.str y,.int ((0:Nat):Int),.int v]) (eI (x:=.str y) (ac:=τ.set b7 (.lst (acc.map cI))) rfl (eI (x:=.int ((0:Nat):Int)) (ac:=τ.set b7 (.lst (acc.map cI))) rfl (eI (d8 (d8 (x:=.int q) (ac:=τ.set b7 (.lst (acc.map cI))) rfl (lV (d:=d))) hv) km))) (show(3:Nat)<=aI by decide)
   ·exact ha e he ((Prod.mk.inj q).1▸bi)
   ·rcases dt.mp he with he | he
    ·exact .inl he
    ·exact .inr (de.mp he)
theorem Dl{x:X}(hx:ev C x ρ σ=.ok (.ref r) ac)(hr:ac[r]?=some (.lst xs))(hl:xs.length<=1000):evIt C (.enum x) ρ σ=.ok (ky 0 xs,some (r,.lst xs)) ac:=by
 rw[Nr,hx,cn];unfold ou b2 nK;dsimp only;rw[hr];exact aD (by rw[eV];(exact aH (by assumption) (by decide)))
theorem RA(hp:cs p)(hl:l.length<=63)(hn1:1<=n)(hn:n<=6):∃(acc:List iw) (cL:aa),bB PP topN (d+2) Aa [.fl (l.map .int),.int (at_:Nat),bv p,.int (n:Nat)] σ=.ok (.ref σ.length) (σ++.lst (acc.map cI)::cL)/\iy p n acc/\acc.length<800:=by
 rw[cC (fn:=Fp) rfl rfl];have i4:=TB hp;have fl:=N1 hp
 have ek:∀{σ:aa},ex (CC (d+1)) topN Fs (some (.fl (l.map .int))::af (at_:Nat)::some (bv p)::af (n:Nat)::aR σ.length::List.replicate 12 none) (σ++[.lst []])=.next (dQ l at_ p n σ.length (l.getD at_ 0%3) none none none none) (σ++[.lst []]):=fun{σ} =>
  bH (cS (xc (d:=d) hl (fun J J=>rfl) rfl (k:=at_) rfl) (y:=.int 3) (ar:=σ++[.lst []]) rfl (ih (by decide)))
 generalize l.getD at_ 0%3=cP at ek
 have out:=Rz (d:=d) (σ:=σ++[.lst []]) hp;change bB PP topN (d+1) vm [bv p] (σ++[.lst []])=.ok (.ref ((σ++[aW.lst []]).length+1)) (σ++[aW.lst []]++[aW.lst ((p.flatMap (·.gives)).map .str),.lst ((f0 p).map .str)])at out;rw[show σ++[aW.lst []]++[aW.lst ((p.flatMap (·.gives)).map .str),.lst ((f0 p).map .str)]=σ++.lst []::[.lst ((p.flatMap (·.gives)).map .str),.lst ((f0 p).map .str)] by rw[eY];rfl]at out
 have UE:σ.length<(σ++.lst []::[aW.lst ((p.flatMap (·.gives)).map .str),.lst ((f0 p).map .str)]).length:=by rw[cW];show _<_+3;(grind)
 have g1:(σ++.lst []::[aW.lst ((p.flatMap (·.gives)).map .str),.lst ((f0 p).map .str)])[(σ++[aW.lst []]).length+1]?=some (.lst ((f0 p).map .str)):=by
  rw[cW,h4 (by show _<=_+1+1;(grind)),show σ.length+[aW.lst []].length+1-σ.length=2 by show σ.length+1+1-σ.length=2;(grind)];rfl
 have Jv:σ.length≠(σ++[aW.lst []]).length+1:=by rw[cW];show _≠_+1+1;(grind)
 generalize YA:(σ++[aW.lst []]).length+1=aV at out g1 Jv;obtain⟨ee,aA,aU,t1,dE,V,L,gN,a0⟩:=T8 (d:=d) (at_:=at_) (cP:=cP) (wt:=some (aV,.lst ((f0 p).map .str))) hl hn UE (fun m=>dw Jv g1) (f0 p) 0 [] none none none none (TG _ _ List.nodup_nil) (fun x hx=>hx) (fun e he=>nomatch he) (by rw[List.length_nil];(grind)) ⟨List.nodup_nil,fun e he=>nomatch he⟩;rw[List.map_nil,mj,mj]at V
 have jZ:ex (CC (d+1)) topN Ft (dQ l at_ p n σ.length cP none none none none) (σ++[.lst []])=.next (dQ l at_ p n σ.length cP aA aU t1 dE) (σ++.lst (ee.map cI)::[.lst ((p.flatMap (·.gives)).map .str),.lst ((f0 p).map .str)]):=by
  show(evIt (CC (d+1)) (.enum (.call vm #v[(.v 2)])) (dQ l at_ p n σ.length cP none none none none) (σ++[.lst []])).toS _ _=_;rw[Dl (d8 (x:=bv p) (ac:=σ++[.lst []]) rfl out) g1 (by rw[be];(exact aH (by assumption) (by decide))),gx];exact V
 generalize [aW.lst ((p.flatMap (·.gives)).map .str),.lst ((f0 p).map .str)]=jC at jZ;have fst:=Rx (d:=d) (σ:=σ++.lst (ee.map cI)::jC) hp;rw[show σ++aW.lst (ee.map cI)::jC++[.lst ((eF p).map .str)]=σ++.lst (ee.map cI)::(jC++[.lst ((eF p).map .str)]) by rw[eY];rfl]at fst
 have UF:σ.length<(σ++aW.lst (ee.map cI)::(jC++[aW.lst ((eF p).map .str)])).length:=by rw[cW,dy];(grind)
 have g2:(σ++.lst (ee.map cI)::(jC++[.lst ((eF p).map .str)]))[(σ++aW.lst (ee.map cI)::jC).length]?=some (.lst ((eF p).map .str)):=by
  rw[<- List.cons_append,<- eY];exact h7
 have Jw:σ.length≠(σ++aW.lst (ee.map cI)::jC).length:=by rw[cW,dy];(grind)
 generalize (σ++aW.lst (ee.map cI)::jC).length=r2 at fst g2 Jw
 obtain⟨Cp,aT,bq,cO,dY,ak,O,l4⟩:=T6 (d:=d) (at_:=at_) (cP:=cP) (wt:=some (r2,.lst ((eF p).map .str))) hp hl hn1 UF (fun m=>dw Jw g2) (eF p) 0 ee aA aU t1 dE (N2 hp) (fun x hx=>hx) (fun e he hx=>by
  rcases a0 e he with he | he
  ·exact nomatch he
  ·refine bu (G3.mp hx) fun s hs J hg=>?_
   exact(JN.mp he).2 (List.mem_flatMap.mpr ⟨s,hs,hg⟩)) (by rw[List.length_nil]at gN;(grind)) L
 rw[mj,mj]at ak
 have nt:ex (CC (d+1)) topN Fz (dQ l at_ p n σ.length cP aA aU t1 dE) (σ++.lst (ee.map cI)::jC)=.next (dQ l at_ p n σ.length cP aT bq cO dY) (σ++.lst (Cp.map cI)::(jC++[.lst ((eF p).map .str)])):=by
  show(evIt (CC (d+1)) (.enum (.call z8 #v[(.v 2)])) (dQ l at_ p n σ.length cP aA aU t1 dE) (σ++.lst (ee.map cI)::jC)).toS _ _=_;rw[Dl (d8 (x:=bv p) (ac:=σ++.lst (ee.map cI)::jC) rfl fst) g2 (by rw[be];(exact aH (by assumption) (by decide))),gx];exact ak
 refine⟨Cp,jC++[.lst ((eF p).map .str)],?_,O,by rw[List.length_nil]at gN;(grind)⟩
 have f4:ex (CC (d+1)) topN Fq (some (.fl (l.map .int))::af (at_:Nat)::some (bv p)::af (n:Nat)::List.replicate 13 none) σ=.next (some (.fl (l.map .int))::af (at_:Nat)::some (bv p)::af (n:Nat)::aR σ.length::List.replicate 12 none) (σ++[.lst []]):=rfl
 have nu:∀{σ':aa},ex (CC (d+1)) topN FE (dQ l at_ p n σ.length cP aT bq cO dY) σ'=.ret (.ref σ.length) (dQ l at_ p n σ.length cP aT bq cO dY) σ':=fun{σ'}=>cH rfl;have body:=rfl.trans ((am (ek (σ:=σ))).trans ((am jZ).trans ((am nt).trans (bf (r:=.nil) nu))));exact(congrArg bg body).trans rfl
end
structure iK(X:dC)(j:Nat):Prop where
 i:j≠X.i
 g:j≠X.g
 o:j≠X.o
 h:j≠X.h
 gn:j≠X.gn
 od:j≠X.od
theorem iK.gt{X:dC}(l:X.Lt)(h:X.od<j):iK X j:=by
 have a:=l.a;have b:=l.b;have c:=l.c;have d:=l.d;have e:=l.e;have gn:=eD e h;have aN:=eD d gn;have o:=eD c aN;have g:=eD b o;exact⟨c7 (eD a g),c7 g,c7 o,c7 aN,c7 gn,c7 h⟩
theorem dB.other{p:List aq}{es gs:cV}{X:dC}(b:dB p n es gs os X σ)(a:iK X j):dB p n es gs os X (σ.set j m):=
 ⟨dw a.i b.ns,dw a.g b.gv,dw a.o b.ot,dw a.h b.hr,dw a.gn b.go,dw a.od b.od,b.lt⟩
noncomputable def tl(Γ:fG)(σ σ':aa):Prop:=∀j m,iK Γ.X j->j≠Γ.tk->j≠Γ.gl->σ[j]?=some m->σ'[j]?=some m
theorem tl.trans{Γ:fG}{a b c:aa}(h:tl Γ a b)(k:tl Γ b c):tl Γ a c:=fun j m q1 q2 q3 e=>k j m q1 q2 q3 (h j m q1 q2 q3 e)
structure X0(Γ:fG):Prop where
 t:iK Γ.X Γ.tk
 g:iK Γ.X Γ.gl
 ne:Γ.tk≠Γ.gl
section
variable {Γ:fG}{B:bl}
noncomputable def Bb(n:Str):H->Option H
 | .tup (.str w::r)=>if(w == n)=true then some (.tup (.str w::r))else none
 | _=>none
inductive tf:H->Prop
 | str (x:Str):tf (.str x)
 | none:tf .none
 | int (i:Int):tf (.int i)
noncomputable def rE(p:List aq):H->Option aq
 | .str x=>p.find? fun s=>s.name == x
 | _=>none
theorem UU:∀{p:List aq},(p.map (·.name)).Nodup->(p.map aq.pv).filterMap (Bb x)=(rE p (.str x)).toList.map aq.pv:=by
 intro p
 induction p with
 | nil=>intro _;rfl
 | cons a q aj =>
  intro hn;rw[dD,gZ]at hn;show _=(((a::q).find? fun s=>s.name == x).toList).map aq.pv;rw[dD,List.filterMap_cons,jL,show Bb x a.pv=(if(a.name == x)=true then some a.pv else none)from rfl]
  cases hq:a.name == x with
  | false=>exact aj hn.2
  | true =>
   refine congrArg (a.pv::·) (List.filterMap_eq_nil_iff.mpr fun y hy=>?_);obtain⟨b,hb,rfl⟩:=ci.mp hy;show(if(b.name == x)=true then some b.pv else none)=none;exact aY fun z=>hn.1 (ci.mpr ⟨b,hb,(eq_of_beq z).trans (eq_of_beq hq).symm⟩)
theorem NX{s:aq}:∀{p:List aq},(p.map (·.name)).Nodup->s∈p->rE p (.str s.name)=some s:=by
 intro p
 induction p with
 | nil=>intro _ h;contradiction
 | cons a q aj =>
  intro hn h;rw[dD,gZ]at hn;show((a::q).find? fun b=>b.name == s.name)=_;rw[jL]
  cases hq:a.name == s.name with
  | false=>exact aj hn.2 ((b5.mp h).resolve_left fun z=>by rw[<- z,beq_self_eq_true]at hq;exact nomatch hq)
  | true =>
   rcases b5.mp h with rfl | h
   ·rfl
   ·exact absurd (ci.mpr ⟨s,h,(eq_of_beq hq).symm⟩) hn.1
theorem Vx{p:List aq}{y:Mine.X}(hp:cs p)(PY:tf gr)(hd:C.hd=false)(it:evIt C (.v i) ρ σ=.ok (p.map aq.pv,none) σ)(L:∀x,ev C (.v 1) ((c4 cF ρ).set 1 (some x)) σ=.ok x σ)(O:∀x,ev C y ((c4 cF ρ).set 1 (some x)) σ=.ok gr σ) :
  ev C (.comp true 1 cF (.v 1) (.cmp (.sub (.v 1) (ae 0)) .eq y) (.v i)) ρ σ=.ok (.fl ((rE p gr).toList.map aq.pv)) σ:=by
 have I3:(p.map aq.pv).length<=aI:=by rw[be];exact aH hp.most (by decide)
 have no:(∀w,cY .eq (.str w) gr σ=.ok false σ)->rE p gr=none->ev C (.comp true 1 cF (.v 1) (.cmp (.sub (.v 1) (ae 0)) .eq y) (.v i)) ρ σ=.ok (.fl ((rE p gr).toList.map aq.pv)) σ:=fun h e=>by
  rw[e];refine(xg (fun J=>none) it I3 (fun z a7=>?_) fun z a7 v hv=>nomatch hv).trans (congrArg (fun l=>ah.ok (H.fl l) σ) (List.filterMap_eq_nil_iff.mpr fun J J=>rfl));obtain⟨s',_,rfl⟩:=ci.mp a7;exact b4 (cG (L _) (y:=.int 0) (ar:=σ) rfl (v:=.ok (.str s'.name) σ) rfl) (O _) (h _)
 cases PY with
 | none=>exact no (fun J=>rfl) rfl
 | int i=>exact no (fun J=>rfl) rfl
 | str x =>
  rw[<- UU hp.names];refine xg (Bb x) it I3 (fun z a7=>?_) fun z a7 v hv=>?_
  ·obtain⟨s',_,rfl⟩:=ci.mp a7;refine(b4 (cG (L _) (y:=.int 0) (ar:=σ) rfl (v:=.ok (.str s'.name) σ) rfl) (O _) pT).trans ?_;show _=ah.ok (if(s'.name == x)=true then some s'.pv else none).isSome σ;cases(s'.name == x) <;> rfl
  ·obtain⟨s',_,rfl⟩:=ci.mp a7;have hv:(if(s'.name == x)=true then some s'.pv else none)=some v:=hv
   cases hq:(s'.name == x)with
   | false=>rw[hq]at hv;exact nomatch hv
   | true=>rw[hq]at hv;obtain rfl:=oi hv;exact L _
theorem R2{p:List aq}{s:aq}{y:Mine.X}(hp:cs p)(hs:s∈p)(hd:C.hd=false)(it:evIt C (.v i) ρ σ=.ok (p.map aq.pv,none) σ)(L:∀x,ev C (.v 1) ((c4 cF ρ).set 1 (some x)) σ=.ok x σ)(O:∀x,ev C y ((c4 cF ρ).set 1 (some x)) σ=.ok (.str s.name) σ) :
  ev C (.sub (.comp true 1 cF (.v 1) (.cmp (.sub (.v 1) (ae 0)) .eq y) (.v i)) (ae 0)) ρ σ=.ok s.pv σ:=by
 have iQ:=Vx hp (.str s.name) hd it L O;rw[NX hp.names hs]at iQ;exact cG iQ (y:=.int 0) (ar:=σ) rfl rfl
end
section
variable {Γ:fG}{B:bl}{Y0:Nat}{mc:List iw}{at_:Nat}
theorem sj(h:σ[r]?=some (.lst xs))(hl:xs.length<=1000):dk .len (.ref r) σ=.ok (.int (xs.length:Nat)) σ:=by
 show jW (fun xs=>if xs.length<=aI then ah.ok (H.int xs.length) σ else .stuck) (.ref r) σ=_;rw[sv (show el σ (.ref r)=some xs by unfold el;dsimp only;rw[h])];exact aD (by rw[eV];(exact aH (by assumption) (by decide)))
theorem tU{N:Nat}{is:List Nat}{x:Mine.X}{v:H}(hd:C.hd=false)(h:ev C x ρ σ=.ok v σ')(hb:gF is v ρ=some ρ'):ex C N (.asgT is x) ρ σ=.next ρ' σ':=by
 show(bif C.hd then bO.stuck else(ev C x ρ σ).toS ρ fun v σ=>match gF is v ρ with
  | some ρ=>.next ρ σ
  | none=>.stuck)=_
 rw[hd,h,cond_false,gx,hb]
end
theorem xt{x y:X}{a b:H}(h:ev C x ρ σ=.ok a σ)(O:ev C y ρ σ=.ok b σ):ev C (.tup #v[x,y]) ρ σ=.ok (.tup [a,b]) σ:=lL (vs:=[a,b]) (eI h (eI O km)) (show(2:Nat)<=aI by decide)
theorem kn{p:List aq}{s:aq}(h:eR p x=some s):s∈p/\x∈s.gives:=⟨List.mem_of_find?_eq_some h,hG (List.find?_some (p:=fun s:aq=>decide (x∈s.gives)) h)⟩
noncomputable def bD(s:aq)(t:Int):Int:=if eG s.rule=true then t-1 else t
section
variable {p:List aq}{B:bl}{X:dC}
theorem Hj{s:aq}(hp:cs p)(b:fF p n B X σ)(h:eR p x=some s):bB PP topN (d+1) z7 [.inst bZ X.i,.str x,.int t] σ=.ok (.tup [s.pv,.int (bD s t)]) σ:=by
 rw[cC (fn:=Ek) rfl rfl]
 have pI:aG x (eS p)=some s.pv:=by rw[ts,h];rfl
 refine ay (Aj (hp.steps s (kn h).1).rule) fun w hw hl=>?_
 have cm:tst (CC d) (.cmp (.sub (.sub (.v 3) (ae 1)) (ae 0)) .eq (.k (.str "later"))) [bY X.i,a1 x,af t,some s.pv] σ=.ok (eG s.rule) σ:=by
  rw[<- hl];exact b4 (cG (x:=s.rule.pv) (ac:=σ) rfl (y:=.int 0) (ar:=σ) rfl (hw σ)) (y:=.str "later") (ar:=σ) rfl pT
 have f4:=am (C:=CC d) (n:=topN) (σ:=σ) (a:=El) (r:=.cons ug #v[En]) (ρ:=[bY X.i,a1 x,af t,none]) (bH (cG (hI (i:=X.i) (ac:=σ) (v:=.ref X.g) rfl b.ns rfl) (y:=.str x) (ar:=σ) rfl (Ks b.gv pI)));unfold bD
 cases hb:eG s.rule with
 | true=>exact(congrArg bg (f4.trans (bf (a:=ug) ((cz (hb▸cm)).trans (bf (a:=Em) rfl))))).trans rfl
 | false=>exact(congrArg bg (f4.trans ((am (a:=ug) (bC (hb▸cm))).trans rfl))).trans rfl
inductive f7(p:List aq)(B:bl)(gw:cV)(x:Str)(t:Int):H->Prop
 | out (h:eR p x=none):f7 p B gw x t (.tup [.str "outside"])
 | first (s:aq) (h:eR p x=some s) (L:bD s t<0):f7 p B gw x t (.tup [.str "first"])
 | left (s:aq) (h:eR p x=some s) (L:¬bD s t<0) (O:(aG (s.name,bD s t) B.gs).isSome=true):f7 p B gw x t (.tup [.str "left"])
 | ready (s:aq) (h:eR p x=some s) (L:¬bD s t<0) (O:aG (s.name,bD s t) B.gs=none) (aw:eH B.es s (bD s t)=none):f7 p B gw x t (.tup [.str "ready"])
 | ring (s:aq) (i:H) (h:eR p x=some s) (L:¬bD s t<0) (aQ:aG (s.name,bD s t) gw=some i):f7 p B gw x t (.tup [.str "ring",i])
 | go (s:aq) (y:Str) (h:eR p x=some s) (L:¬bD s t<0) (O:aG (s.name,bD s t) B.gs=none) (aw:eH B.es s (bD s t)=some y) (aQ:aG (s.name,bD s t) gw=none):f7 p B gw x t .none
noncomputable def pB(i:Nat)(x:Str)(t:Int)(sn:Nat)(a b:Option H):az:=[bY i,a1 x,af t,aR sn,a,b,none]
theorem Nj{sn:Nat}{gw:cV}(hp:cs p)(hpl:∀s∈p,iM s)(hv:fw B.es)(b:fF p n B X σ)(hs:σ[sn]?=some (.dp gw)):∃E,f7 p B gw x t E/\bB PP topN (d+3) Ih [.inst bZ X.i,.str x,.int t,.ref sn] σ=.ok E σ:=by
 rw[cC (fn:=Eb) rfl rfl]
 have t0:tst (CC (d+2)) (.cmp (.v 1) .notin (.attr bZ (.v 0) "givers")) (pB X.i x t sn none none) σ=.ok (!(eR p x).isSome) σ:=by
  refine b4 (x:=.str x) (ac:=σ) rfl (hI (i:=X.i) (ac:=σ) (v:=.ref X.g) rfl b.ns rfl) ?_;show ah.ofOpt ((dP (.str x) (.ref X.g) σ).map (!·)) σ=_
  have:dP (.str x) (.ref X.g) σ=some (eR p x).isSome:=by unfold dP;dsimp only;rw[b.gv];dsimp only;rw[ts,Option.isSome_map]
  rw[this];rfl
 cases hg:eR p x with
 | none =>
  rw[hg]at t0;exact⟨_,.out hg,(congrArg bg (bf (a:=xT) ((cz t0).trans rfl))).trans rfl⟩
 | some s =>
  rw[hg]at t0;have sp:=(kn hg).1;have dS:=hp.steps s sp;have pre:=fun{r:S}=>(am (n:=topN) (r:=.cons xU r) (a:=xT) (bC t0)).trans (am (a:=xU) (tU rfl (gf (vs:=[.inst bZ X.i,.str x,.int t]) rfl (Hj (d:=d+1) hp b hg)) (ρ':=pB X.i x t sn (some s.pv) (af (bD s t))) rfl));have cO:tst (CC (d+2)) (.cmp (.v 5) .lt (ae 0)) (pB X.i x t sn (some s.pv) (af (bD s t))) σ=.ok (decide (bD s t<0)) σ:=b4 (x:=.int (bD s t)) (ac:=σ) rfl (y:=.int 0) (ar:=σ) rfl lt_int;by_cases L:bD s t<0
  ·rw[dz L]at cO;exact⟨_,.first s hg L,(congrArg bg (pre.trans (bf (a:=ue) ((cz cO).trans rfl)))).trans rfl⟩
  rw[fx L]at cO;have kF:tst (CC (d+2)) (.meth bZ lZ "has_fired" (.v 0) #v[(.sub (.v 4) (ae 0)),(.v 5)]) (pB X.i x t sn (some s.pv) (af (bD s t))) σ=.ok (aG (s.name,bD s t) B.gs).isSome σ:=pd (fW (i:=X.i) (ac:=σ) (ar:=σ) (vs:=[.str s.name,.int (bD s t)]) rfl b.ns rfl rfl (rM (d:=d+1) b))
  cases O:aG (s.name,bD s t) B.gs with
  | some u =>
   rw[O]at kF;exact⟨_,.left s hg L (by rw[O];rfl),(congrArg bg (pre.trans ((am (a:=ue) (bC cO)).trans (bf (a:=xV) ((cz kF).trans rfl))))).trans rfl⟩
  | none =>
   rw[O]at kF;have nD:tst (CC (d+2)) (.meth bZ p3 "is_ready" (.v 0) #v[(.v 4),(.v 5)]) (pB X.i x t sn (some s.pv) (af (bD s t))) σ=.ok (eH B.es s (bD s t)).isNone σ:=(pd (fW (i:=X.i) (ac:=σ) (ar:=σ) (vs:=[s.pv,.int (bD s t)]) rfl b.ns rfl rfl (A5 (d:=d) b dS (hpl s sp) hv))).trans (by unfold o7;rw[O];rfl);have bG:=fun{r:S}=>pre.trans ((am (a:=ue) (bC cO)).trans (am (r:=r) (a:=xV) (bC kF)))
   cases aw:eH B.es s (bD s t)with
   | none =>
    rw[aw]at nD;exact⟨_,.ready s hg L O aw,(congrArg bg (bG.trans (bf (a:=uf) ((cz nD).trans rfl)))).trans rfl⟩
   | some y =>
    rw[aw]at nD;have kG:tst (CC (d+2)) (.cmp (.tup #v[(.sub (.v 4) (ae 0)),(.v 5)]) .isin (.v 3)) (pB X.i x t sn (some s.pv) (af (bD s t))) σ=.ok (aG (s.name,bD s t) gw).isSome σ:=b4 (x:=.tup [.str s.name,.int (bD s t)]) (ac:=σ) rfl (y:=.ref sn) (ar:=σ) rfl (vv hs)
    cases ha:aG (s.name,bD s t) gw with
    | some i =>
     rw[ha]at kG;exact⟨_,.ring s i hg L ha,(congrArg bg (bG.trans ((am (a:=uf) (bC nD)).trans (bf (a:=xW) ((cz kG).trans (bf (a:=Ec) (cH (xt (a:=.str "ring") rfl (cG (x:=.ref sn) (ac:=σ) rfl (y:=.tup [.str s.name,.int (bD s t)]) (ar:=σ) rfl (Kr hs ha)))))))))).trans rfl⟩
    | none =>
     rw[ha]at kG;exact⟨_,.go s y hg L O aw ha,(congrArg bg (bG.trans ((am (a:=uf) (bC nD)).trans ((am (a:=xW) (bC kG)).trans rfl)))).trans rfl⟩
end
inductive tn:H->Prop
 | int (t:Int):tn (.int t)
 | bool (b:Bool):tn (.bool b)
 | none:tn .none
 | str (x:Str):tn (.str x)
section
variable {p:List aq}{es gs:cV}{X:dC}
end
theorem s1{c:az->aa->ah Bool}{f:az->aa->bO}(hc:c ρ σ=.ok true σ)(bc:f ρ σ=.next ρ' σ'):hz c f (n+1) ρ σ=hz c f n ρ' σ':=by
 show wp ρ (fun σ=>iG (hz c f n) (f ρ σ)) (c ρ σ)=_;rw[hc];show iG (hz c f n) (f ρ σ)=_;rw[bc];rfl
theorem BS{c:az->aa->ah Bool}{f:az->aa->bO}(hc:c ρ σ=.ok false σ):hz c f (n+1) ρ σ=.next ρ σ:=by
 show wp ρ _ (c ρ σ)=_;rw[hc];rfl
theorem xF{k:Nat}{c:X}{body:S}(aN:C.hd=false):ex C k (.whl c body) ρ σ=hz (fun ρ σ=>tst C c ρ σ) (fun ρ σ=>ex C k body ρ σ) k ρ σ:=by
 show(bif C.hd then bO.stuck else hz (fun ρ σ=>tst C c ρ σ) (fun ρ σ=>ex C k body ρ σ) k ρ σ)=_;rw[aN];rfl
theorem CG{a:aW}:(τ++a::m::cL)[τ.length+1]?=some m:=by
 rw[h4 (gc _ _),Nat.add_sub_cancel_left];rfl
theorem UY{a:aW}:(τ++a::m::cL).set (τ.length+1) bw=τ++a::bw::cL:=by
 rw[List.set_append_right _ _ (gc _ _),Nat.add_sub_cancel_left];rfl
theorem Dw{N:Nat}{o i x:X}{v:H}{k:Str}{es:cV}(hx:ev C x ρ σ=.ok v σ)(ho:ev C o ρ σ=.ok (.ref r) σ)(hi:ev C i ρ σ=.ok (.tup [.str k,.int t]) σ)(hr:σ[r]?=some (.dp es))(ha:aG (k,t) es=none)(hl:es.length<800000):ex C N (.asgSub o i x) ρ σ=.next ρ (σ.set r (.dp (es++[((k,t),v)]))):=by
 show(ev C x ρ σ).toS ρ (fun v σ=>(ev C o ρ σ).toS ρ fun o σ=>(ev C i ρ σ).toS ρ fun i σ=>hW o i v ρ σ)=_;rw[hx,gx,ho,gx,hi,gx,sQ hr (hF hl (by decide)),w4 ha]
structure aJ where
 s:aq
 t:Int
 x:Str
noncomputable def aJ.pv(l:aJ):H:=.tup [.str l.s.name,.int l.t,.str l.x]
noncomputable def aJ.key(l:aJ):Str×Int:=(l.s.name,l.t)
noncomputable def dq(l:List aJ):cV:=l.zipIdx.map fun q=>(q.1.key,.int (q.2:Nat))
theorem Vm{l:List aJ}{a:aJ}:dq (l++[a])=dq l++[(a.key,.int (l.length:Nat))]:=by
 unfold dq;rw[List.zipIdx_append,eu,gD];rfl
theorem Ke{l:List aJ}:(dq l).map (·.1)=l.map aJ.key:=by
 unfold dq;rw[fV];show(l.zipIdx.map (aJ.key∘Prod.fst))=_;rw[<- fV,List.zipIdx_map_fst]
theorem Vk{l:List aJ}:(dq l).length=l.length:=by unfold dq;rw[be,List.length_zipIdx]
theorem Vl{l:List aJ}{k:Str×Int}(h:k∉l.map aJ.key):aG k (dq l)=none:=by
 cases e:aG k (dq l)with
 | none=>rfl
 | some v=>exact absurd (Ke▸rN.mp (show(aG k (dq l)).isSome=true by rw[e];rfl)) h
section
variable {p:List aq}{B:bl}{X:dC}
structure jd(p:List aq)(n:Nat)(B:bl)(l:aJ):Prop where
 inn:l.s∈p
 t0:0<=l.t
 t1:l.t<n
 no:aG l.key B.gs=none
 ms:eH B.es l.s l.t=some l.x
noncomputable def nV(p:List aq):aJ->List aJ->Prop
 | _,[]=>True
 | a,b::r=>eR p a.x=some b.s/\b.t=bD b.s a.t/\nV p b r
structure iz(p:List aq)(n:Nat)(B:bl)(pre:List aJ)(l:aJ)(rest:List aJ)(E:H):Prop where
 ok:∀a∈pre++l::rest,jd p n B a
 nd:((pre++l::rest).map aJ.key).Nodup
 pth:nV p l rest
 fin:∀z,(l::rest).getLast?=some z->f7 p B (dq (pre++l::rest)) z.x z.t E
 ne:g7 E=false
inductive Cn(p:List aq)(n:Nat)(B:bl)(pre:List aJ)(l:aJ)(P:List aJ->H->H->Int->Option H->Prop):Prop
 | mk (rest:List aJ) (E sp:H) (w:Int) (pl:Option H) (e:P rest E sp w pl) (W:iz p n B pre l rest E):Cn p n B pre l P
theorem vz{l:List aJ}(h:∀a∈l,jd p n B a)(nd:(l.map aJ.key).Nodup):l.length<=p.length*n:=by
 have:=JA (l.map aJ.key) (p.flatMap fun s=>(List.range n).map fun(t:Nat)=>(s.name,(t:Int))) nd fun k hk=>by
  refine ay (ci.mp hk) fun a ha e=>?_;have o:=h a ha;refine aL (kc o.t0) fun t a3=>?_;refine List.mem_flatMap.mpr ⟨a.s,o.inn,ci.mpr ⟨t,List.mem_range.mpr (ew.mp (a3▸o.t1)),?_⟩⟩;rw[<- e,<- a3];rfl
 rw[be]at this;refine aH this (Nat.le_of_eq ?_);clear this h nd
 induction p with
 | nil=>exact(Nat.zero_mul _).symm
 | cons s p aj=>rw[kS,cW,aj,be,List.length_range,dy,Nat.succ_mul,Nat.add_comm]
theorem vS{s:aq}:bD s t<=t:=by
 unfold bD
 split
 ·exact Int.sub_le_self t (by decide)
 ·exact Int.le_refl t
theorem f7.none{gw:cV}{E:H}(h:f7 p B gw x t E):g7 E=true->E=.none/\∃s y,eR p x=some s/\0<=bD s t/\aG (s.name,bD s t) B.gs=none/\eH B.es s (bD s t)=some y/\aG (s.name,bD s t) gw=none:=by
 induction h with
 | go s y h L O aw aQ=>exact fun J=>⟨rfl,s,y,h,Int.not_lt.mp L,O,aw,aQ⟩
 | _=>exact fun z=>nomatch z
noncomputable def nZ(i:Nat)(nm tv sp:H)(j:Nat)(w:Int)(e:H)(pl:Option H):az:=[bY i,some nm,some tv,some sp,aR j,aR (j+1),af w,some e,pl,none,none,none,none,none]
theorem Xq{pre:List aJ}{l:aJ}{pl:Option H}(hp:cs p)(hpl:∀s∈p,iM s)(hv:fw B.es)(b:fF p n B X σ)(o:jd p n B l)(hn:l.key∉pre.map aJ.key)(hl:pre.length<=1000):∃E,f7 p B (dq (pre++[l])) l.x l.t E/\∀r,
  ex (CC (d+3)) topN (.cons y2 (.cons y3 (.cons y4 (.cons y5 r)))) (nZ X.i nm tv l.s.pv σ.length l.t .none pl) (σ++[.lst (pre.map aJ.pv),.dp (dq pre)]) =
   ex (CC (d+3)) topN r (nZ X.i nm tv l.s.pv σ.length l.t E (a1 l.x)) (σ++[.lst ((pre++[l]).map aJ.pv),.dp (dq (pre++[l]))]):=by
 have dS:=hp.steps l.s o.inn
 have bK:ex (CC (d+3)) topN y2 (nZ X.i nm tv l.s.pv σ.length l.t .none pl) (σ++[.lst (pre.map aJ.pv),.dp (dq pre)])=.next (nZ X.i nm tv l.s.pv σ.length l.t .none pl) (σ++[.lst (pre.map aJ.pv),.dp (dq (pre++[l]))]):=by
  refine(Dw (v:=.int (pre.length:Nat)) (r:=σ.length+1) (k:=l.s.name) (t:=l.t) (cZ (x:=.ref σ.length) (ac:=σ++[aW.lst (pre.map aJ.pv),aW.dp (dq pre)]) rfl ((sj h7 (by rw[be];exact hl)).trans (by rw[be]))) rfl rfl CG (Vl hn) (by rw[Vk];exact gX hl (by decide))).trans ?_;rw[UY,Vm];rfl
 have c8:fF p n B X (σ++[.lst ((pre++[l]).map aJ.pv),.dp (dq (pre++[l]))]):=b.more;refine ay (Nj (d:=d) (x:=l.x) (t:=l.t) hp hpl hv c8 CG) fun E fK tQ=>?_;refine⟨E,fK,fun r=>?_⟩;refine(am bK).trans ?_;have b1:fF p n B X (σ++[.lst (pre.map aJ.pv),.dp (dq (pre++[l]))]):=b.more;refine dc (am (a:=y3) (bH (v:=.str l.x) (fW (i:=X.i) (ac:=σ++[aW.lst (pre.map aJ.pv),aW.dp (dq (pre++[l]))]) (vs:=[l.s.pv,.int l.t]) rfl b1.ns rfl rfl ((AB (d:=d+2) (t:=l.t) b1 dS (hpl _ o.inn) hv).trans (by rw[o.ms];rfl))))) ?_;refine dc (am (a:=y4) ((fJ (hJ (x:=.ref σ.length) (ac:=σ++[aW.lst (pre.map aJ.pv),aW.dp (dq (pre++[l]))]) rfl (ng (.inl rfl)) (y:=l.pv) rfl (rg h7 (by rw[be];exact gX hl (by decide))))).trans (by rw[mj,show pre.map aJ.pv++[l.pv]=(pre++[l]).map aJ.pv by rw[eu];rfl]))) ?_;exact dc (am (a:=y5) (bH (gf (vs:=[.inst bZ X.i,.str l.x,.int l.t,.ref (σ.length+1)]) rfl tQ))) rfl
theorem Xp(hp:cs p)(hpl:∀s∈p,iM s)(hv:fw B.es)(b:fF p n B X σ)(u3:p.length*n<=900):∀(k:Nat) (pre:List aJ) (l:aJ) (pl:Option H),(∀a∈pre++[l],jd p n B a)->((pre++[l]).map aJ.key).Nodup->p.length*n+1<pre.length+k ->
  Cn p n B pre l fun rest E sp w AT=>hz (fun ρ σ=>tst (CC (d+3)) (.cmp (.v 7) .is (.k .none)) ρ σ) (fun ρ σ=>ex (CC (d+3)) topN GY ρ σ) k (nZ X.i nm tv l.s.pv σ.length l.t .none pl) (σ++[.lst (pre.map aJ.pv),.dp (dq pre)]) =
   .next (nZ X.i nm tv sp σ.length w E AT) (σ++[.lst ((pre++l::rest).map aJ.pv),.dp (dq (pre++l::rest))]):=by
 intro k
 induction k with
 | zero =>
  intro pre l pl h nd hk;have:=vz h nd;rw[cW]at this;exact absurd (hF (Nat.lt_of_succ_lt hk) (aH (gc _ _) this)) (Nat.lt_irrefl _)
 | succ k aj =>
  intro pre l pl h nd hk;have Ai:=vz h nd;rw[cW,List.length_singleton]at Ai;have o:=h l (d7 _ bi);have Ju:=nd;rw[eu,gC]at Ju;have hn:l.key∉pre.map aJ.key:=fun z=>Ju.2.2 _ z _ (List.mem_singleton_self _) rfl;refine ay (Xq (d:=d) (nm:=nm) (tv:=tv) (pl:=pl) hp hpl hv b o hn (aH (Nat.le_of_succ_le Ai) (aH u3 (by decide)))) fun B3 iQ st=>?_;have Bn:∀(E:H) {ρ:az} {τ:aa},ev (CC (d+3)) (.v 7) ρ τ=.ok E τ->tst (CC (d+3)) (.cmp (.v 7) .is (.k .none)) ρ τ=.ok (g7 E) τ:=fun E {ρ τ} e=>b4 e (y:=.none) (ar:=τ) rfl rfl
  cases fK:g7 B3 with
  | false =>
   refine⟨[],B3,l.s.pv,l.t,a1 l.x,(s1 rfl ((st _).trans ((am (a:=y6) (bC ((Bn _ rfl).trans (by rw[fK])))).trans bX))).trans ?_,⟨h,nd,trivial,fun z a7=>?_,fK⟩⟩
   ·have k1:1<=k:=Nat.pos_of_ne_zero fun q=>by
     rw[q]at hk;exact absurd (hF hk Ai) (Nat.not_lt.mpr (Nat.le_succ _))
    refine aL (Nat.exists_eq_add_of_le' k1) fun br ag=>?_;rw[ag];exact BS ((Bn _ rfl).trans (by rw[fK]))
   ·obtain rfl:=oi a7;exact iQ
  | true =>
   obtain⟨rfl,g,y,hg,Xg,wf,Xu,ws⟩:=iQ.none fK;have inn:=(kn hg).1;have i1:jd p n B ⟨g,bD g l.t,y⟩:=⟨inn,Xg,Int.lt_of_le_of_lt vS o.t1,wf,Xu⟩
   have h':∀a∈pre++[l]++[(⟨g,bD g l.t,y⟩:aJ)],jd p n B a:=fun a ha=>by
    rcases dt.mp ha with q | q
    ·exact h a q
    ·rw[de.mp q];exact i1
   have sr:((pre++[l]++[(⟨g,bD g l.t,y⟩:aJ)]).map aJ.key).Nodup:=by
    rw[eu];refine gC.mpr ⟨nd,List.pairwise_singleton _ _,fun a ha c hc e=>?_⟩;rw[de.mp hc]at e;rw[e,<- Ke]at ha;exact absurd (rN.mpr ha) (by rw[show aG (aJ.key ⟨g,bD g l.t,y⟩) (dq (pre++[l]))=none from ws];decide)
   obtain⟨rest,E,sp,w,AT,e,W⟩:=aj (pre++[l]) ⟨g,bD g l.t,y⟩ (a1 l.x) h' sr (by rw[cW,List.length_singleton,Nat.add_assoc,Nat.add_comm 1];exact hk)
   have ap:pre++[l]++(⟨g,bD g l.t,y⟩:aJ)::rest=pre++l::⟨g,bD g l.t,y⟩::rest:=by rw[eY];rfl
   rw[ap]at e;have c8:fF p n B X (σ++[.lst ((pre++[l]).map aJ.pv),.dp (dq (pre++[l]))]):=b.more;refine⟨⟨g,bD g l.t,y⟩::rest,E,sp,w,AT,(s1 rfl ((st _).trans ((am (a:=y6) ((cz ((Bn _ rfl).trans (by rw[fK]))).trans ((am (a:=GZ) (tU rfl (gf (vs:=[.inst bZ X.i,.str l.x,.int l.t]) rfl (Hj (d:=d+2) hp c8 hg)) rfl)).trans bX))).trans bX))).trans ?_,⟨ap▸W.ok,ap▸W.nd,⟨hg,rfl,W.pth⟩,fun z a7=>?_,W.ne⟩⟩
   ·exact e
   ·exact ap▸W.fin z (by rw[List.getLast?_cons_cons]at a7;exact a7)
theorem K0{s:aq}(hp:cs p)(hpl:∀s∈p,iM s)(hv:fw B.es)(b:fF p n B X σ)(u3:p.length*n<=900)(o:jd p n B ⟨s,t,x⟩) :
  ∃rest E,bB PP topN (d+4) sf [.inst bZ X.i,.str s.name,.int t] σ=.ok (.tup [.ref σ.length,E]) (σ++[.lst ((⟨s,t,x⟩::rest).map aJ.pv),.dp (dq (⟨s,t,x⟩::rest))])/\iz p n B [] ⟨s,t,x⟩ rest E:=by
 obtain⟨rest,E,sp,w,pl,e,W⟩:=Xp (d:=d) (nm:=.str s.name) (tv:=.int t) hp hpl hv b u3 topN [] ⟨s,t,x⟩ none (fun a ha=>by rw[de.mp ha];exact o) (List.pairwise_singleton _ _) (by rw[List.length_nil,gD];exact gX (Nat.succ_le_succ u3) (by decide));refine⟨rest,E,?_,W⟩;rw[cC (fn:=yU) rfl rfl];have dS:=hp.steps s o.inn;have f4:=am (C:=CC (d+3)) (n:=topN) (σ:=σ) (ρ:=bY X.i::a1 s.name::af t::List.replicate 11 none) (a:=yV) (r:=.cons uL #v[uM,yW,yX,yY,yZ,y0,y1,G0]) (bH (fW (i:=X.i) (ac:=σ) (ar:=σ) (vs:=[.str s.name]) rfl b.ns rfl rfl (AH (d:=d+2) b o.inn hp.names)));refine(congrArg bg (a₂:=.ret (.tup [.ref σ.length,E]) (nZ X.i (.str s.name) (.int t) sp σ.length w E pl) (σ++[.lst ((⟨s,t,x⟩::rest).map aJ.pv),.dp (dq (⟨s,t,x⟩::rest))])) (f4.trans ?_)).trans rfl;refine dc (am (a:=uL) (fJ (fW (i:=X.i) (ac:=σ) (ar:=σ) (vs:=[.int t]) rfl b.ns rfl rfl (vM (d:=d+1) b o.t0 o.t1)))) ?_;refine dc (am (a:=uM) (bC (pd (fW (i:=X.i) (ac:=σ) (ar:=σ) (vs:=[.str s.name,.int t]) rfl b.ns rfl rfl ((rM (d:=d+2) b).trans (by rw[show aG (s.name,t) B.gs=none from o.no];rfl)))))) ?_;refine dc (am (a:=yW) (bC (pd (fW (i:=X.i) (ac:=σ) (ar:=σ) (vs:=[s.pv,.int t]) rfl b.ns rfl rfl ((A5 (d:=d+1) b dS (hpl s o.inn) hv).trans (by unfold o7;rw[show eH B.es s t=some x from o.ms,Bool.and_comm];rfl)))))) ?_;refine dc (am (a:=yX) (ρ':=bY X.i::a1 s.name::af t::some s.pv::aR σ.length::List.replicate 9 none) (σ':=σ++[.lst []]) rfl) ?_
 have nv:ex (CC (d+3)) topN yY (bY X.i::a1 s.name::af t::some s.pv::aR σ.length::List.replicate 9 none) (σ++[.lst []])=.next (bY X.i::a1 s.name::af t::some s.pv::aR σ.length::aR (σ.length+1)::List.replicate 8 none) (σ++[.lst [],.dp []]):=by
  refine(bH (v:=.ref (σ++[aW.lst []]).length) (σ':=(σ++[.lst []])++[.dp []]) rfl).trans ?_;rw[cW,eY];rfl
 refine(am nv).trans ((am (a:=yZ) (bH (v:=.int t) rfl)).trans ((am (a:=y0) (bH (v:=.none) rfl)).trans ((am (a:=y1) ((xF rfl).trans e)).trans rfl)))
end
theorem MP{α:Type}{f:α->H}{c:α->Bool}{g:H->aa->ah (Option H)}:∀(l:List α),(∀a∈l,g (f a) σ=.ok (if c a=true then some (f a)else none) σ)->dW none g (l.map f) σ=.ok ((l.filter c).map f) σ:=by
 intro l
 induction l with
 | nil=>intro _;exact aD trivial
 | cons a l aj =>
  intro h;refine(aD trivial).trans ?_;rw[h a bi];show(dW none g (l.map f) σ).bind _=_;rw[aj fun y hy=>h y (bM _ hy),List.filter_cons];cases c a <;> rfl
theorem xh{α:Type}{f:α->H}{c:α->Bool}{l:List α}{t:Nat}{elt it:X}(bF:evIt C it ρ σ=.ok (l.map f,none) σ)(hl:l.length<=1000)(hc:∀a∈l,tst C cond ((c4 cF ρ).set t (some (f a))) σ=.ok (c a) σ)(he:∀a∈l,ev C elt ((c4 cF ρ).set t (some (f a))) σ=.ok (f a) σ)(aN:C.hd=false):ev C (.comp true t cF elt cond it) ρ σ=.ok (.fl ((l.filter c).map f)) σ:=by
 rw[kZ,aN,bF];show ib (l.map f).length (dW none (fun x σ=>((tst C cond ((c4 cF ρ).set t (some x)) σ).bind fun b σ=>if b=true then(ev C elt ((c4 cF ρ).set t (some x)) σ).bind fun v σ=>.ok (some v) σ else .ok none σ)) (l.map f) σ) _=_
 rw[MP (c:=c) l fun a ha=>by
  show(tst C cond ((c4 cF ρ).set t (some (f a))) σ).bind _=_;rw[hc a ha,cn]
  cases c a with
  | false=>rfl
  | true =>
   show(ev C elt ((c4 cF ρ).set t (some (f a))) σ).bind _=_
   rw[he a ha];rfl]
 exact nc (by rw[be];exact aH (List.length_filter_le _ _) (aH hl (by decide)))
theorem Q1{k:Str×Int}{l:List (Str×Int)}(h:σ[r]?=some (.lst (l.map cA))):cY .isin (cA k) (.ref r) σ=.ok (decide (k∈l)) σ:=by
 show ah.ofOpt (dP (cA k) (.ref r) σ) σ=_
 have:dP (cA k) (.ref r) σ=some (decide (k∈l)):=by unfold dP;dsimp only;exact h.symm▸Ax
 rw[this];rfl
theorem Nn{k j:Str×Int}:cY .eq (cA k) (cA j) σ=.ok (decide (k=j)) σ:=congrArg (ah.ok · σ) (vA k j)
theorem S5{k:Str×Int}:cY .ne (cA k) (cA k) σ=.ok false σ:=by
 refine(congrArg (fun b=>ah.ok (!b) σ) (vA k k)).trans ?_;rw[dz rfl];rfl
theorem vo{Γ:fG}{B:bl}(S:fT Γ B σ){k:Str×Int}:cY .isin (cA k) (.ref Γ.gl) σ=.ok (aG k B.gs).isSome σ:=by
 have os:B.os=(B.gs.map (·.1)).map cA:=by rw[S.gk.os,fV];rfl
 refine(Q1 (l:=B.gs.map (·.1)) (by rw[S.gl,os])).trans (congrArg (ah.ok · σ) ?_);rw[Bool.eq_iff_iff,iN];exact rN.symm
theorem Tm{Γ:fG}{B:bl}(S:fT Γ B σ){k:Str×Int}(h:aG k B.gs=none):cY .notin (cA k) (.ref Γ.gl) σ=.ok true σ:=by
 have e:ah.ofOpt (dP (cA k) (.ref Γ.gl) σ) σ=.ok false σ:=(vo S (k:=k)).trans (by rw[h];rfl);show ah.ofOpt ((dP (cA k) (.ref Γ.gl) σ).map (!·)) σ=_
 cases hq:dP (cA k) (.ref Γ.gl) σ with
 | none=>rw[hq]at e;exact nomatch e
 | some b =>
  rw[hq]at e
  cases b with
  | true=>exact nomatch e
  | false=>rfl
noncomputable def vT:Option aq->H
 | some s=>s.pv
 | none=>.none
section
variable {p:List aq}
theorem IX(hp:cs p):bB PP topN (d+1) z9 [bv p,.str x] σ=.ok (vT (eR p x)) σ:=by
 rw[cC (fn:=EV) rfl rfl]
 have iQ:ev (CC d) EW [some (bv p),a1 x] σ=.ok (.fl ((p.filter fun s=>decide (x∈s.gives)).map aq.pv)) σ:=
  xh rfl (aH hp.most (by decide)) (fun a J=>b4 (x:=.str x) (ac:=σ) rfl (y:=.tup (a.gives.map .str)) (ar:=σ) rfl (show ah.ofOpt (hQ σ (.str x) (a.gives.map .str)) σ=_ by rw[Az];rfl)) (fun J J=>rfl) rfl
 have hg:eR p x=(p.filter fun s=>decide (x∈s.gives)).head?:=List.head?_filter.symm;have IV:(p.filter fun s=>decide (x∈s.gives)).length<=20:=aH (List.length_filter_le _ _) hp.most;rw[hg];generalize (p.filter fun s=>decide (x∈s.gives))=l at iQ IV
 have qf:(l.map aq.pv++[H.none]).length<=aI:=by rw[cW,be];exact aH (Nat.add_le_add_right IV 1) (by decide)
 refine(congrArg bg (bf (a:=EX) (cH (cG (cS iQ (y:=.fl [.none]) (ar:=σ) rfl (Cq (by rw[<- cW];exact qf))) (y:=.int 0) (ar:=σ) rfl (j1 (x:=vT l.head?) qf (Int.le_refl 0) ?_))))).trans rfl;cases l <;> rfl
end
noncomputable def mE(Γ:fG)(r:Nat)(E:H)(a b c st L5:Option H):az:=some (bv Γ.p)::aR Γ.tk::aR Γ.gl::aR r::some E::a::b::c::st::L5::List.replicate 6 none
section
variable {Γ:fG}{B:bl}
theorem VQ{l:List H}{x:H}(h:σ[r]?=some (.lst l))(hl:l.length<=1000)(hx:l.getLast?=some x):f6 (.ref r) (.int (-1)) σ=.ok x σ:=by
 have e:b2 σ (.ref r)=some l:=by unfold b2;dsimp only;rw[h]
 show(match b2 σ (.ref r)with
  | some xs=>li xs (-1) σ
  | none=>.stuck)=_
 rw[e];show(if l.length<=aI then ah.ofOpt ((fj (-1) l.length).bind (l[·]?)) σ else .stuck)=_;rw[aD (aH hl (by decide))];rw[List.getLast?_eq_getElem?]at hx
 have gN:1<=l.length:=Nat.pos_of_ne_zero fun q=>by rw[hE q]at hx;exact nomatch hx
 have vf:(0:Int)<=-1+(l.length:Int):=by
  have:=Int.ofNat_le.mpr gN;rw[Int.add_comm];exact Int.sub_nonneg_of_le this
 have bL:(-1+(l.length:Int)).toNat=l.length-1:=by rw[Int.add_comm];exact(congrArg Int.toNat (Int.ofNat_sub gN).symm).trans (kT _)
 unfold fj;rw[aY (by decide),aD vf,bL];show ah.ofOpt l[l.length-1]? σ=_;rw[hx];rfl
theorem sO{l:List aJ}{k:Str×Int}{v:H}(h:aG k (dq l)=some v):∃(i:Nat) (a:aJ),v=.int (i:Nat)/\l[i]?=some a/\a.key=k:=by
 unfold aG at h;refine ay (Option.map_eq_some_iff.mp h) fun e he hv=>?_;have hk:=hG (List.find?_some (p:=fun e:(Str×Int)×H=>decide (e.1=k)) he);unfold dq at he;refine ay (ci.mp (List.mem_of_find?_eq_some he)) fun q hq a7=>?_;refine⟨q.2,q.1,?_,List.mem_zipIdx_iff_getElem?.mp hq,?_⟩
 ·rw[<- hv,<- a7]
 ·rw[<- hk,<- a7]
theorem Dh{E:H}{z:aJ}{s:aq}(dS:gV s):ev (CC (d+2)) (.bin .sub (.v 6) (.b1 .int (.cmp (.sub (.v 8) (ae 1)) .eq (.tup #v[(.k (.str "later"))])))) (mE Γ r E (a1 z.s.name) (af z.t) (a1 z.x) (some s.pv) none) σ=.ok (.int (bD s z.t)) σ:=by
 refine(cS (x:=.int z.t) (ac:=σ) rfl (cZ (eE (x:=s.rule.pv) (y:=.tup [.str "later"]) (ac:=σ) (ar:=σ) rfl rfl (qB dS.rule).1) int_bool) sub_int).trans ?_;unfold bD;cases eG s.rule
 ·exact congrArg (fun i=>ah.ok (H.int i) σ) (Int.sub_zero _)
 ·rfl
theorem Nf{E:H}{dO:List aJ}{z:aJ}{q:Mine.S}(aC:jF Γ)(hr:σ[r]?=some (.lst (dO.map aJ.pv)))(i3:(dO.map aJ.pv).length<=1000)(a7:dO.getLast?=some z):ex (CC (d+2)) topN (.cons yb (.cons yc q)) (mE Γ r E none none none none none) σ=ex (CC (d+2)) topN q (mE Γ r E (a1 z.s.name) (af z.t) (a1 z.x) (some (vT (eR Γ.p z.x))) none) σ:=
 (am (a:=yb) (tU rfl (cG (x:=.ref r) (y:=.int (-1)) (ac:=σ) (ar:=σ) rfl rfl (VQ hr i3 (by rw[List.getLast?_map,a7];rfl))) (ρ':=mE Γ r E (a1 z.s.name) (af z.t) (a1 z.x) none none) rfl)).trans (am (a:=yc) (bH (gf (vs:=[bv Γ.p,.str z.x]) rfl (IX (d:=d+1) aC.hp))))
theorem xy{E:H}{z:aJ}{s:aq}{q:Mine.S}(dS:gV s)(h:¬bD s z.t<0)(cO:tst (CC (d+2)) (.cmp (.v 4) .eq (.tup #v[(.k (.str "outside"))])) (mE Γ r E (a1 z.s.name) (af z.t) (a1 z.x) (some s.pv) none) σ=.ok false σ)(kG:tst (CC (d+2)) (.cmp (.v 4) .eq (.tup #v[(.k (.str "first"))])) (mE Γ r E (a1 z.s.name) (af z.t) (a1 z.x) (some s.pv) (af (bD s z.t))) σ=.ok false σ) :
  ex (CC (d+2)) topN (.cons ut (.cons uu (.cons uv (.cons uw (.cons yd q))))) (mE Γ r E (a1 z.s.name) (af z.t) (a1 z.x) (some s.pv) none) σ=ex (CC (d+2)) topN q (mE Γ r E (a1 z.s.name) (af z.t) (a1 z.x) (some s.pv) (af (bD s z.t))) σ:=
 (am (a:=ut) (bC cO)).trans (dc (am (a:=uu) rfl) ((am (a:=uv) (bH (Dh dS))).trans ((am (a:=uw) (bC kG)).trans (am (a:=yd) (bC (b4 (x:=.int (bD s z.t)) (ac:=σ) rfl (y:=.int 0) (ar:=σ) rfl (lt_int.trans (by rw[fx h]))))))))
theorem Ni{dO:List aJ}{z:aJ}{E:H}(aC:jF Γ)(S:fT Γ B σ)(hr:σ[r]?=some (.lst (dO.map aJ.pv)))(hl:dO.length<=900)(a7:dO.getLast?=some z)(fK:f7 Γ.p B (dq dO) z.x z.t E)(ne:g7 E=false) :
  bB PP topN (d+3) Ik [bv Γ.p,.ref Γ.tk,.ref Γ.gl,.ref r,E] σ=.ok (.bool true) σ:=by
 rw[cC (fn:=Ex) rfl rfl]
 have i3:(dO.map aJ.pv).length<=1000:=by rw[be];exact aH hl (by decide)
 have pre:=fun{E:H} {q:Mine.S}=>Nf (d:=d) (Γ:=Γ) (σ:=σ) (r:=r) (E:=E) (q:=q) aC hr i3 a7
 cases fK with
 | out hg =>
  rw[hg]at pre;exact(congrArg bg (pre.trans rfl)).trans rfl
 | first s hg L =>
  rw[hg]at pre;exact(congrArg bg (pre.trans (dc (am (a:=ut) rfl) (dc (am (a:=uu) rfl) ((am (a:=uv) (bH (Dh (aC.hp.steps s (kn hg).1)))).trans (bf (a:=uw) ((cz (σ':=σ) rfl).trans (bf (a:=Ez) (cH (eE (x:=.int (bD s z.t)) (ac:=σ) rfl (y:=.int 0) (ar:=σ) rfl (lt_int.trans (by rw[dz L])))))))))))).trans rfl
 | left s hg L O =>
  rw[hg]at pre;exact(congrArg bg (pre.trans ((xy (aC.hp.steps s (kn hg).1) L rfl rfl).trans (bf (a:=ux) ((cz (σ':=σ) rfl).trans (bf (a:=EA) (cH (eE (x:=cA (s.name,bD s z.t)) (ac:=σ) rfl (y:=.ref Γ.gl) (ar:=σ) rfl ((vo S).trans (by rw[O])))))))))).trans rfl
 | ready s hg L O aw =>
  rw[hg]at pre;have dS:=aC.hp.steps s (kn hg).1;exact(congrArg bg (pre.trans ((xy dS L rfl rfl).trans (dc (am (a:=ux) rfl) (bf (a:=ye) ((cz (σ':=σ) rfl).trans (bf (a:=EB) (cH (kl (kY (eE (x:=cA (s.name,bD s z.t)) (ac:=σ) rfl (y:=.ref Γ.gl) (ar:=σ) rfl (Tm S O)) (lJ (eE (gf (vs:=[s.pv,.ref Γ.tk,.int (bD s z.t)]) rfl ((AC (d:=d) dS S.tk S.ok).trans (by rw[aw]))) (y:=.none) (ar:=σ) rfl rfl)))))))))))).trans rfl
 | ring s v hg L aQ =>
  rw[hg]at pre;obtain⟨i,a,rfl,ha,hk⟩:=sO aQ;exact(congrArg bg (pre.trans ((xy (aC.hp.steps s (kn hg).1) L rfl rfl).trans (dc (am (a:=ux) rfl) (dc (am (a:=ye) rfl) (dc (am (a:=EC) rfl) (bf (a:=Ey) (cH (kl (kY (eE (x:=.int 0) (y:=.int (i:Nat)) (ac:=σ) (ar:=σ) rfl rfl (le_int.trans (by rw[dz (d3 i)]))) (kY (eE (x:=.int (i:Nat)) (ac:=σ) rfl (cZ (x:=.ref r) (ac:=σ) rfl (sj hr i3)) (lt_int.trans (by rw[be,dz (ew.mpr (dX ha).1)]))) (lJ (eE (lK (cG (x:=.ref r) (y:=.int (i:Nat)) (ac:=σ) (ar:=σ) rfl rfl (Bl (x:=a.pv) hr (aH i3 (by decide)) (d3 i) (by rw[kT,fH,ha];rfl))) (y:=.none) (z:=.int 2) (ar:=σ) (e8:=σ) rfl rfl (v:=.ok (cA a.key) σ) rfl) (y:=cA (s.name,bD s z.t)) (ar:=σ) rfl (Nn.trans (by rw[dz hk]))))))))))))))).trans rfl
 | go=>exact nomatch ne
end
theorem f7.tup{p:List aq}{B:bl}{gw:cV}{E:H}(h:f7 p B gw x t E):g7 E=false->∃xs,E=.tup xs:=by
 induction h with
 | go=>exact fun ne=>nomatch ne
 | _=>exact fun J=>⟨_,rfl⟩
theorem Ka{k:Nat}(h:σ[r]?=some (.lst xs))(hl:xs.length<=1000)(hk:k<=xs.length):j0 (.ref r) .none (.int (k:Nat)) σ=.ok (.fl (xs.take k)) σ:=by
 refine sN (a:=none) (b:=some (k:Int)) rfl rfl ?_;show(b2 σ (.ref r)).bind (fun xs=>if xs.length<=aI then some (H.fl (dR xs none (some (k:Int))))else none)=_;rw[show b2 σ (.ref r)=some xs by unfold b2;dsimp only;rw[h]];show(if xs.length<=aI then some (H.fl (dR xs none (some (k:Int))))else none)=_;rw[aD (aH hl (by decide))];show some (H.fl ((xs.drop 0).take (clipAt xs.length (k:Int)-0)))=_;rw[List.drop_zero,Nat.sub_zero,clipAt_nat,Nat.min_eq_left hk]
theorem Va(h:σ[r]?=some (.lst xs))(hl:xs.length<=1000):j0 (.ref r) .none (.int (-1)) σ=.ok (.fl xs.dropLast) σ:=by
 refine sN (a:=none) (b:=some (-1)) rfl rfl ?_;show(b2 σ (.ref r)).bind (fun xs=>if xs.length<=aI then some (H.fl (dR xs none (some (-1))))else none)=_;rw[show b2 σ (.ref r)=some xs by unfold b2;dsimp only;rw[h]];show(if xs.length<=aI then some (H.fl (dR xs none (some (-1))))else none)=_;rw[aD (aH hl (by decide))];show some (H.fl ((xs.drop 0).take (clipAt xs.length (-((1:Nat):Int))-0)))=_;rw[List.drop_zero,Nat.sub_zero,clipAt_neg _ 1 (dA 1),List.dropLast_eq_take]
theorem p9{o lo hi:X}:evIt C (.slice o lo hi) ρ σ=(ev C (.slice o lo hi) ρ σ).bind d4:=rfl
theorem IP{it:X}{l:List aJ}(bF:evIt C it ρ σ=.ok (l.map aJ.pv,none) σ)(hl:l.length<=1000)(aN:C.hd=false):ev C (.comp true 1 [none,none] (.slice (.v 1) (.k .none) (ae 2)) (.k (.bool true)) it) ρ σ=.ok (.fl ((l.map aJ.key).map cA)) σ:=by
 refine(lI (fun y=>match y with | .tup (a::b::_)=>.tup [a,b] | _=>.none) bF (by rw[be];exact aH hl (by decide)) (fun y hy=>?_) aN).trans ?_
 ·refine ay (ci.mp hy) fun a J ag=>?_;obtain rfl:=ag;rfl
 ·rw[fV,fV];rfl
theorem IA{k:Str×Int}{l:List (Str×Int)}(h:k∉l):cY .isin (cA k) (.fl (l.map cA)) σ=.ok false σ:=by
 show ah.ofOpt (hQ σ (cA k) (l.map cA)) σ=_;rw[Ax,fx h];rfl
noncomputable def gT(Γ:fG)(r:Nat)(E nm tv:H)(oj k st:Option H):az:=some (bv Γ.p)::aR Γ.tk::aR Γ.gl::some (.tup [.ref r,E])::some nm::some tv::aR r::some E::oj::k::st::List.replicate 10 none
section
variable {Γ:fG}{B:bl}{E:H}{dO:List aJ}
theorem J8{pre rest:List aJ}{a:aJ}{st:Option H}(aC:jF Γ)(S:fT Γ B σ)(hr:σ[r]?=some (.lst (dO.map aJ.pv)))(hl:dO.length<=900)(bc:dO=pre++a::rest)(o:jd Γ.p Γ.n B a)(nd:(dO.map aJ.key).Nodup)(hp:nV Γ.p a rest) :
  ∃c9,ex (CC (d+3)) topN yN (gT Γ r E nm tv (some (cA a.key)) (af (pre.length:Nat)) st) σ=.next (gT Γ r E nm tv (some (cA (rest.headD a).key)) (af (pre.length:Nat)) c9) σ:=by
 have i3:(dO.map aJ.pv).length<=1000:=by rw[be];exact aH hl (by decide)
 have at_:dO[pre.length]?=some a:=by rw[bc,h4 (dA _),Nat.sub_self];rfl
 have pl:pre.length<dO.length:=(dX at_).1;have lk:∀{oj st:Option H},ev (CC (d+3)) (.sub (.v 6) (.v 9)) (gT Γ r E nm tv oj (af (pre.length:Nat)) st) σ=.ok a.pv σ:=fun{oj st}=>cG (x:=.ref r) (y:=.int (pre.length:Nat)) (ac:=σ) (ar:=σ) rfl rfl (Bl hr (aH i3 (by decide)) (d3 _) (by rw[kT,fH,at_];rfl));have vE:∀{oj st:Option H},ev (CC (d+3)) (.sub (.sub (.v 6) (.v 9)) (ae 2)) (gT Γ r E nm tv oj (af (pre.length:Nat)) st) σ=.ok (.str a.x) σ:=fun{oj st}=>cG lk (y:=.int 2) (ar:=σ) rfl rfl;have dS:=aC.hp.steps a.s o.inn;refine⟨some (vT (eR Γ.p a.x)),?_⟩;refine dc (am (a:=Gl) (bC (ik (im (ht (q:=true) (Bp (xr lk rfl))) (im (b4 (cZ lk (v:=.ok (.int 3) σ) rfl) (y:=.int 3) (ar:=σ) rfl rfl) (i9 (b4 (lK lk (y:=.none) (z:=.int 2) (ar:=σ) (e8:=σ) rfl rfl (v:=.ok (cA a.key) σ) rfl) (y:=cA a.key) (ar:=σ) rfl S5))))))) ?_;refine dc (am (a:=Gm) (bC (Bp (xr (cG lk (y:=.int 1) (ar:=σ) rfl (v:=.ok (.int a.t) σ) rfl) rfl)))) ?_;refine dc (am (a:=Gn) (bH (R2 aC.hp o.inn rfl rfl (fun J=>rfl) fun J=>rfl))) ?_;refine dc (am (a:=Go) (bC (ik (im (b4 (x:=cA a.key) (y:=.ref Γ.gl) (ac:=σ) (ar:=σ) rfl rfl ((vo S).trans (by rw[o.no];rfl))) (im (b4 vE (y:=.none) (ar:=σ) rfl rfl) (i9 (b4 vE (gf (vs:=[a.s.pv,.ref Γ.tk,.int a.t]) rfl ((AC (d:=d+1) dS S.tk S.ok).trans (by rw[o.ms];rfl))) (Jx.trans (by rw[beq_self_eq_true];rfl))))))))) ?_;refine dc (am (a:=Gp) (bH (jl (x:=bv Γ.p) (ac:=σ) rfl vE (IX (d:=d+2) aC.hp)))) ?_
 have kG:∀{st:Option H},tst (CC (d+3)) (.cmp (.bin .add (.v 9) (ae 1)) .lt (.b1 .len (.v 6))) (gT Γ r E nm tv (some (cA a.key)) (af (pre.length:Nat)) st) σ=.ok (decide (pre.length+1<dO.length)) σ:=fun{st}=>by
  refine(b4 (x:=.int ((pre.length:Int)+1)) (ac:=σ) rfl (cZ (x:=.ref r) (ac:=σ) rfl (sj hr i3)) lt_int).trans (congrArg (ah.ok · σ) ?_);rw[be];exact decide_eq_decide.mpr ew
 have fl:dO.length=pre.length+1+rest.length:=by rw[bc,cW,dy,Nat.add_assoc,Nat.add_comm 1]
 cases rest with
 | nil=>exact dc (am (a:=yO) (bC (kG.trans (by rw[fx (by rw[fl];exact Nat.lt_irrefl _)])))) rfl
 | cons b rest =>
  refine dN hp fun hg a3 J=>?_;have Mh:=(kn hg).1;rw[hg]
  have V0:tst (CC (d+3)) (.or #v[(.cmp (.v 10) .is (.k .none)),(.cmp (.v 8) .isin Gf)]) (gT Γ r E nm tv (some (cA a.key)) (af (pre.length:Nat)) (some b.s.pv)) σ=.ok false σ:=by
   refine ik (im (ac:=σ) rfl (i9 (b4 (x:=cA a.key) (ac:=σ) rfl (IP (l:=pre) ?_ (aH (h6 pl) (aH hl (by decide))) rfl) (IA ?_))))
   ·rw[p9,lK (x:=.ref r) (y:=.none) (z:=.int (pre.length:Nat)) (ac:=σ) (ar:=σ) (e8:=σ) rfl rfl rfl (Ka hr i3 (by rw[be];exact h6 pl)),bc,eu,List.take_left' (by rw[be])];rfl
   ·rw[bc,eu]at nd;exact fun z=>(gC.mp nd).2.2 _ z _ bi rfl
  refine dc (am (a:=yO) ((cz (kG.trans (by rw[dz (by rw[fl];exact Nat.lt_add_of_pos_right (Nat.succ_pos _))]))).trans ((am (a:=Gq) (bC V0)).trans ((am (a:=Gr) (bH (v:=cA b.key) ?_)).trans bX)))) rfl;refine(xt (a:=.str b.s.name) rfl (cS (x:=.int a.t) (ac:=σ) rfl (cZ (eE (x:=b.s.rule.pv) (y:=.tup [.str "later"]) (ac:=σ) (ar:=σ) rfl rfl (qB (aC.hp.steps b.s Mh).rule).1) int_bool) sub_int)).trans ?_;show ah.ok (H.tup [.str b.s.name,.int (a.t-_)]) σ=ah.ok (H.tup [.str b.s.name,.int b.t]) σ;rw[a3];unfold bD;cases eG b.s.rule
  ·rw[aY (by decide),aY (by decide),Int.sub_zero]
  ·rfl
theorem U1(aC:jF Γ)(S:fT Γ B σ)(hr:σ[r]?=some (.lst (dO.map aJ.pv)))(hl:dO.length<=900)(ok:∀a∈dO,jd Γ.p Γ.n B a)(nd:(dO.map aJ.key).Nodup):∀(rest pre:List aJ) (a:aJ) (k st:Option H),dO=pre++a::rest->nV Γ.p a rest ->
  ∃z br c9,dO.getLast?=some z/\cj none (dM 9) (fun ρ σ=>ex (CC (d+3)) topN yN ρ σ) ((List.range' pre.length (rest.length+1)).map fun(i:Nat)=>H.int (0+(i:Int)*1)) (gT Γ r E nm tv (some (cA a.key)) k st) σ=.next (gT Γ r E nm tv (some (cA z.key)) br c9) σ:=by
 intro rest
 induction rest with
 | nil =>
  intro pre a k st bc hp;refine aL (J8 (d:=d) (E:=E) (nm:=nm) (tv:=tv) (st:=st) aC S hr hl bc (ok a (bc▸d7 _ bi)) nd hp) fun c9 e=>?_;refine⟨a,af (pre.length:Nat),c9,by rw[bc,List.getLast?_concat],?_⟩;rw[List.range'_succ,dD,show(0:Int)+(pre.length:Int)*1=pre.length by rw[Int.zero_add,Int.mul_one]];exact(eh (bU:=gT Γ r E nm tv (some (cA a.key)) (af (pre.length:Nat)) st) rfl e).trans eP
 | cons b rest aj =>
  intro pre a k st bc hp;refine aL (J8 (d:=d) (E:=E) (nm:=nm) (tv:=tv) (st:=st) aC S hr hl bc (ok a (bc▸d7 _ bi)) nd hp) fun c9 e=>?_;obtain⟨z,br,Bi,a7,ak⟩:=aj (pre++[a]) b (af (pre.length:Nat)) c9 (by rw[bc,eY];rfl) hp.2.2;refine⟨z,br,Bi,a7,?_⟩;rw[List.range'_succ,dD,show(0:Int)+(pre.length:Int)*1=pre.length by rw[Int.zero_add,Int.mul_one]];rw[cW,List.length_singleton]at ak;exact(eh (bU:=gT Γ r E nm tv (some (cA a.key)) (af (pre.length:Nat)) st) rfl e).trans ak
theorem U0{l:aJ}{rest:List aJ}(aC:jF Γ)(S:fT Γ B σ)(hr:σ[r]?=some (.lst ((l::rest).map aJ.pv)))(W:iz Γ.p Γ.n B [] l rest E):bB PP topN (d+4) Ir [bv Γ.p,.ref Γ.tk,.ref Γ.gl,.tup [.ref r,E],.str l.s.name,.int l.t] σ=.ok (.bool true) σ:=by
 have TY:Γ.p.length*Γ.n<=120:=Nat.mul_le_mul aC.hp.most aC.hn;have fl:=aH (vz W.ok W.nd) TY;have hl:(l::rest).length<=900:=aH fl (by decide)
 have i3:((l::rest).map aJ.pv).length<=1000:=by rw[be];exact aH hl (by decide)
 obtain⟨z,br,c9,a7,e⟩:=U1 (d:=d) (E:=E) (nm:=.str l.s.name) (tv:=.int l.t) aC S hr hl W.ok W.nd rest [] l none none rfl W.pth;have fin:=W.fin z a7;refine aL (fin.tup W.ne) fun xs ag=>?_;have xx:=Ni (d:=d) aC S hr hl a7 fin W.ne;obtain rfl:=ag;rw[cC (fn:=Ge) rfl rfl]
 have jZ:ex (CC (d+3)) topN Gi (gT Γ r (.tup xs) (.str l.s.name) (.int l.t) none none none) σ=.next (gT Γ r (.tup xs) (.str l.s.name) (.int l.t) none none none) σ:=bC (ik (im (ht (q:=true) (Bp (xr (x:=.ref r) (ac:=σ) rfl (RU hr)))) (i9 rfl)))
 have it:evIt (CC (d+3)) (.range1 (.b1 .len (.v 6))) (gT Γ r (.tup xs) (.str l.s.name) (.int l.t) (some (cA l.key)) none none) σ=.ok ((List.range' 0 (rest.length+1)).map fun(i:Nat)=>H.int (0+(i:Int)*1),none) σ:=by
  refine(sH (n:=(l::rest).length) (cZ (x:=.ref r) (ac:=σ) rfl ((sj hr i3).trans (by rw[be]))) (aH fl (by decide))).trans ?_;unfold dh;rw[kQ];rfl
 have nv:ex (CC (d+3)) topN Gs (gT Γ r (.tup xs) (.str l.s.name) (.int l.t) (some (cA z.key)) br c9) σ=.next (gT Γ r (.tup xs) (.str l.s.name) (.int l.t) (some (cA z.key)) br c9) σ:=by
  have hd:(l::rest).dropLast++[z]=l::rest:=by
   refine aL (List.getLast?_eq_some_iff.mp a7) fun ys hy=>?_;rw[hy,List.dropLast_concat]
  refine bC (ik (im (b4 (x:=.ref r) (y:=.fl []) (ac:=σ) (ar:=σ) rfl rfl ?_) (i9 (b4 (x:=cA z.key) (ac:=σ) rfl (IP (l:=(l::rest).dropLast) ?_ (by rw[List.length_dropLast];exact aH (Nat.sub_le _ _) (aH hl (by decide))) rfl) (IA ?_)))))
  ·have V5:∃ds,((l::rest).map aJ.pv).mapM (toD 15 σ)=some ds/\ds.length=((l::rest).map aJ.pv).length:=sm fun x hx=>by
    refine ay (ci.mp hx) fun a J q=>?_;obtain rfl:=q;exact⟨_,rfl⟩
   refine ay V5 fun ds L O=>?_
   have V:toD 16 σ (.ref r)=some (.list ds):=by
    show(match σ[r]? with | some (.lst xs)=>(xs.mapM (toD 15 σ)).map PyData.list | _=>none)=_;rw[hr];show(((l::rest).map aJ.pv).mapM (toD 15 σ)).map PyData.list=_;rw[L];rfl
   show ah.ofOpt (eqv σ (.ref r) (.fl [])) σ=_;unfold eqv;rw[V]
   cases ds with
   | nil=>exact nomatch O
   | cons _ _=>rfl
  ·rw[p9,lK (x:=.ref r) (y:=.none) (z:=.int (-1)) (ac:=σ) (ar:=σ) (e8:=σ) rfl rfl rfl (Va hr i3),<- List.map_dropLast];rfl
  ·have nd:((l::rest).map aJ.key).Nodup:=W.nd;rw[<- hd,eu]at nd;exact fun q=>(gC.mp nd).2.2 _ q _ bi rfl
 refine(congrArg bg (a₂:=.ret (.bool true) (gT Γ r (.tup xs) (.str l.s.name) (.int l.t) (some (cA z.key)) br c9) σ) ?_).trans rfl;refine dc (am (a:=Gg) rfl) (dc (am (a:=Gh) (tU rfl rfl (ρ':=gT Γ r (.tup xs) (.str l.s.name) (.int l.t) none none none) rfl)) ((am jZ).trans (dc (am (a:=Gj) (ρ':=gT Γ r (.tup xs) (.str l.s.name) (.int l.t) (some (cA l.key)) none none) (σ':=σ) rfl) ((am (a:=Gk) (eO it e)).trans ((am nv).trans (bf (a:=Gu) (cH (gf (vs:=[bv Γ.p,.ref Γ.tk,.ref Γ.gl,.ref r,.tup xs]) rfl xx))))))))
end
noncomputable def dL(n:Nat)(t:Int):List aq->bl->bl
 | [],B=>B
 | s::q,B=>dL n t q (if B.rdy s t=true then B.fire n s t else B)
inductive lD(p:List aq)(n:Nat)(t:Int):Nat->bl->bl->Prop
 | stop (B:bl) (h:(dL n t p B).gs.length=B.gs.length):lD p n t 1 B (dL n t p B)
 | go (k:Nat) (B cU:bl) (h:B.gs.length<(dL n t p B).gs.length) (r:lD p n t k (dL n t p B) cU):lD p n t (k+1) B cU
inductive mJ(p:List aq)(n:Nat):Nat->Nat->bl->bl->Prop
 | nil (a:Nat) (B:bl):mJ p n a 0 B B
 | cons (a k j:Nat) (B eL nO:bl) (r:lD p n (a:Int) j B eL) (a5:j<=1000) (r2:mJ p n (a+1) k eL nO):mJ p n a (k+1) B nO
structure fb(p:List aq)(n:Nat)(B:bl):Prop where
 val:fw B.es
 gk:pw p n B
 sz:B.es.length<=1000+3*B.gs.length
section
variable {p:List aq}
theorem fb.fire{B:bl}{s:aq}(hp:cs p)(hs:s∈p)(h0:0<=t)(L:t<n)(hr:B.rdy s t=true)(I:fb p n B):fb p n (B.fire n s t):=by
 have f:fQ p n B (B.fire n s t) [(s,t)]:=.snoc .nil hs h0 L hr;refine⟨f.val hp I.val,f.gk I.gk,aH (Hh (hp.steps s hs)) ?_⟩;rw[f.count];exact Nat.add_le_add_right I.sz 3
theorem fb.small{B:bl}(hp:cs p)(hn:n<=6)(I:fb p n B):B.gs.length<=120/\B.es.length<800000:=
 have g:=aH I.gk.len (Nat.mul_le_mul hp.most hn)
 ⟨g,gX (aH I.sz (Nat.add_le_add_left (Nat.mul_le_mul_left 3 g) 1000)) (by decide)⟩
structure Li(p:List aq)(n:Nat)(t:Int)(q:List aq)(B:bl):Prop where
 inv:fb p n (dL n t q B)
 le:B.gs.length<=(dL n t q B).gs.length
 same:(dL n t q B).gs.length=B.gs.length->dL n t q B=B/\∀s∈q,B.rdy s t=false
 rdy:∀(s:aq) (u:Int),u<t->(dL n t q B).rdy s u=B.rdy s u
theorem qw(hp:cs p)(h0:0<=t)(L:t<n):∀(q:List aq) (B:bl),(∀s∈q,s∈p)->fb p n B->Li p n t q B:=by
 intro q
 induction q with
 | nil=>intro B _ I;exact⟨I,dA _,fun J=>⟨rfl,fun s hs=>absurd hs et⟩,fun J J J=>rfl⟩
 | cons s q aj =>
  intro B hq I;have hs:=hq s bi;have m4:=fun x hx=>hq x (bM _ hx)
  cases hr:B.rdy s t with
  | false =>
   have e:dL n t (s::q) B=dL n t q B:=congrArg (dL n t q) (aY (by rw[hr];decide));have P:=aj B m4 I;refine⟨e▸P.inv,e▸P.le,fun h=>?_,fun x u hu=>by rw[e];exact P.rdy x u hu⟩;rw[e]at h ⊢;exact⟨(P.same h).1,fun x hx=>(b5.mp hx).elim (fun z=>z▸hr) ((P.same h).2 x)⟩
  | true =>
   have e:dL n t (s::q) B=dL n t q (B.fire n s t):=congrArg (dL n t q) (aD hr);have f:fQ p n B (B.fire n s t) [(s,t)]:=.snoc .nil hs h0 L hr;have P:=aj _ m4 (I.fire hp hs h0 L hr)
   have lt:B.gs.length<(dL n t (s::q) B).gs.length:=by
    rw[e];exact hF (f.count▸Nat.lt_succ_self _) P.le
   refine⟨e▸P.inv,h6 lt,fun h=>absurd h (c7 lt),fun x u hu=>?_⟩;rw[e,P.rdy x u hu]
   exact f.rdy fun z a7=>by rw[de.mp a7];exact hu
theorem Uw(hp:cs p)(h0:0<=t)(L:t<n):∀(m:Nat) (B:bl),fb p n B->p.length*n<B.gs.length+m->∃k cU,lD p n t k B cU/\k<=m:=by
 intro m
 induction m with
 | zero=>intro B I h;exact absurd I.gk.len (Nat.not_le.mpr h)
 | succ m aj =>
  intro B I h;have P:=qw hp h0 L p B (fun J hs=>hs) I
  rcases Nat.eq_or_lt_of_le P.le with q | q
  ·exact⟨1,_,.stop B q.symm,Nat.succ_le_succ (Nat.zero_le m)⟩
  ·refine cJ (aj _ P.inv (hF h ?_)) fun k cU r hk=>⟨k+1,cU,.go k B cU q r,Nat.succ_le_succ hk⟩;rw[Nat.add_succ,<- Nat.succ_add];exact Nat.add_le_add_right q m
structure Lj(p:List aq)(n:Nat)(t:Int)(B cU:bl):Prop where
 inv:fb p n cU
 done:∀s∈p,cU.rdy s t=false
 rdy:∀(s:aq) (u:Int),u<t->cU.rdy s u=B.rdy s u
theorem lD.ok{k:Nat}{B cU:bl}(hp:cs p)(h0:0<=t)(L:t<n)(r:lD p n t k B cU):fb p n B->Lj p n t B cU:=by
 induction r with
 | stop B h =>
  intro I;have P:=qw hp h0 L p B (fun J hs=>hs) I;refine⟨P.inv,fun s hs=>?_,P.rdy⟩;rw[(P.same h).1];exact(P.same h).2 s hs
 | go k B cU h r aj =>
  intro I;have P:=qw hp h0 L p B (fun J hs=>hs) I;have Q:=aj P.inv;exact⟨Q.inv,Q.done,fun s u hu=>(Q.rdy s u hu).trans (P.rdy s u hu)⟩
theorem W6(hp:cs p)(hn:n<=6):∀(k a:Nat) (B:bl),a+k=n->fb p n B->(∀u:Int,0<=u->u<a->∀s∈p,B.rdy s u=false)->∃cU,mJ p n a k B cU/\fb p n cU/\∀u:Int,0<=u->u<n->∀s∈p,cU.rdy s u=false:=by
 intro k
 induction k with
 | zero=>intro a B ha I h;exact⟨B,.nil a B,I,fun u h0 L=>h u h0 (by rw[show a=n from ha];exact L)⟩
 | succ k aj =>
  intro a B ha I h;have aA:(a:Int)<n:=ew.mpr (ha▸Nat.lt_add_of_pos_right (Nat.succ_pos k));refine cJ (Uw hp (d3 a) aA 1000 B I (gX (Nat.mul_le_mul hp.most hn) (hF (by decide) (Nat.le_add_left 1000 _)))) fun j eL r a5=>?_;have ao:=r.ok hp (d3 a) aA I;refine bu (aj (a+1) eL (by rw[<- ha,Nat.add_right_comm];rfl) ao.inv fun u h0 L s hs=>?_) fun nO r2 Lf d=>⟨nO,.cons a k j B eL nO r a5 r2,Lf,d⟩
  rcases Int.lt_or_eq_of_le (Int.le_of_lt_add_one (show u<(a:Int)+1 from L))with q | q
  ·exact(ao.rdy s u q).trans (h u h0 q s hs)
  ·exact q▸ao.done s hs
end
theorem Ba{a:Nat}:(H.int (0+(a:Int)*1))=.int (a:Nat):=by rw[Int.mul_one,Int.zero_add]
noncomputable def nY(i:Nat)(t:Int)(c:Nat)(z:Option H):az:=[bY i,af t,af c,z]
noncomputable def mF(i:Nat)(c:Nat)(t m:Option H):az:=[bY i,af c,t,m,none,none]
section
variable {p:List aq}{X:dC}
theorem W5(hp:cs p)(hpl:∀s∈p,iM s)(hn:n<=6)(h0:0<=t)(L:t<n):∀(q:List aq) (B:bl) (σ:aa) (c:Nat) (z:Option H),(∀s∈q,s∈p)->fF p n B X σ->fb p n B ->
  ∃b3 bV σ',cj none (dM 3) (fun ρ σ=>ex (CC (d+4)) topN Eg ρ σ) (q.map aq.pv) (nY X.i t c z) σ=.next (nY X.i t b3 bV) σ'/\fF p n (dL n t q B) X σ'/\fR X σ σ'/\c+(dL n t q B).gs.length=b3+B.gs.length:=by
 intro q
 induction q with
 | nil=>intro B σ c z _ b _;exact⟨c,z,σ,eP,b,.refl,rfl⟩
 | cons s q aj =>
  intro B σ c z hq b I;have hs:=hq s bi;have m4:=fun x hx=>hq x (bM _ hx)
  have cm:tst (CC (d+4)) (.meth bZ p3 "is_ready" (.v 0) #v[(.v 3),(.v 1)]) (nY X.i t c (some s.pv)) σ=.ok (B.rdy s t) σ:=
   pd (fW (i:=X.i) (ac:=σ) (ar:=σ) (vs:=[s.pv,.int t]) rfl b.ns rfl rfl (A5 b (hp.steps s hs) (hpl s hs) I.val))
  cases hr:B.rdy s t with
  | false =>
   have e:dL n t (s::q) B=dL n t q B:=congrArg (dL n t q) (aY (by rw[hr];decide));rw[e];refine op (aj B σ c (some s.pv) m4 b I) fun b3 bV σ' V b1 k1 gN=>⟨b3,bV,σ',?_,b1,k1,gN⟩;exact(eh (bU:=nY X.i t c (some s.pv)) rfl ((am (a:=xX) (bC (cm.trans (by rw[hr])))).trans bX)).trans V
  | true =>
   have e:dL n t (s::q) B=dL n t q (B.fire n s t):=congrArg (dL n t q) (aD hr);rw[e];refine aS (bl.rdy_of hr) fun g1 g2=>aS (I.small hp hn) fun dE dY=>?_
   have i4:B.os.length<800000:=by rw[I.gk.os,be];exact gX dE (by decide)
   obtain⟨bN,V,b1,k1⟩:=NY (d:=d) hp b hs (hpl s hs) I.val h0 L g1 g2 dY (gX dE (by decide)) i4;refine op (aj (B.fire n s t) bN (c+1) (some s.pv) m4 b1 (I.fire hp hs h0 L hr)) fun b3 bV σ' ak c8 k2 l4=>⟨b3,bV,σ',?_,c8,k1.trans k2,?_⟩
   ·exact(eh (bU:=nY X.i t c (some s.pv)) rfl ((am (a:=xX) ((cz (cm.trans (by rw[hr]))).trans ((am (a:=Eh) (fJ (fW (i:=X.i) (ac:=σ) (ar:=σ) (vs:=[.str s.name,.int t]) rfl b.ns rfl rfl V))).trans ((am (a:=Ei) (ρ':=nY X.i t (c+1) (some s.pv)) (σ':=bN) rfl).trans bX)))).trans bX)).trans ak
   ·have gl:(B.fire n s t).gs.length=B.gs.length+1:=cW;rw[gl,<- Nat.add_assoc,Nat.add_right_comm]at l4;exact Nat.succ.inj l4
theorem G2{B:bl}(hp:cs p)(hpl:∀s∈p,iM s)(hn:n<=6)(h0:0<=t)(L:t<n)(b:fF p n B X σ)(I:fb p n B) :
  ∃m σ',bB PP topN (d+5) vh [.inst bZ X.i,.int t] σ=.ok (.int (m:Nat)) σ'/\fF p n (dL n t p B) X σ'/\fR X σ σ'/\(dL n t p B).gs.length=m+B.gs.length:=by
 refine op (W5 (d:=d) hp hpl hn h0 L p B σ 0 none (fun J hs=>hs) b I) fun b3 bV σ' e cX k l=>⟨b3,σ',?_,cX,k,(gD _).symm.trans l⟩;rw[cC (fn:=Ed) rfl rfl];exact(congrArg bg ((am (a:=Ee) (ρ':=nY X.i t 0 none) (σ':=σ) rfl).trans ((am (a:=Ef) (eO (JX b rfl) e)).trans (bf (a:=Ej) (cH (v:=.int (b3:Nat)) (σ':=σ') rfl))))).trans rfl
inductive Cj(p:List aq)(n:Nat)(X:dC)(cU:bl)(σ:aa)(P:Nat->aa->aa->Prop):Prop
 | mk (m:Nat) (bN σ':aa) (e:P m bN σ') (b:fF p n cU X σ') (k:fR X σ σ'):Cj p n X cU σ P
theorem UL{k:Nat}{B cU:bl}(hp:cs p)(hpl:∀s∈p,iM s)(hn:n<=6)(h0:0<=t)(L:t<n)(r:lD p n t k B cU):∀σ,fF p n B X σ->fb p n B ->
  Cj p n X cU σ fun m bN σ'=>bB PP topN (d+5) vh [.inst bZ X.i,.int t] σ=.ok (.int (m:Nat)) bN/\∀lU c:Nat,k<=lU->∃b3:Nat,hz (fun ρ σ=>tst (CC (d+5)) (.cmp (.v 3) .gt (ae 0)) ρ σ) (fun ρ σ=>ex (CC (d+5)) topN GN ρ σ) lU (mF X.i c (af t) (af (m:Nat))) bN=.next (mF X.i b3 (af t) (af ((0:Nat):Int))) σ':=by
 induction r with
 | stop B h =>
  intro σ b I;refine xv (G2 (d:=d) hp hpl hn h0 L b I) fun m bN e b1 k1 l=>⟨m,bN,bN,⟨e,fun lU c bc=>⟨c,?_⟩⟩,b1,k1⟩;obtain rfl:m=0:=Nat.add_eq_right.mp (l.symm.trans h);refine aL (Nat.exists_eq_add_of_le' bc) fun f bc=>?_;rw[bc];exact BS rfl
 | go k B cU h r aj =>
  intro σ b I;refine xv (G2 (d:=d) hp hpl hn h0 L b I) fun m bN e b1 k1 l=>?_;have P:=qw hp h0 L p B (fun J hs=>hs) I;obtain⟨cx,ce,σ',⟨ak,lx⟩,c8,k2⟩:=aj bN b1 P.inv;refine⟨m,bN,σ',⟨e,fun lU c bc=>?_⟩,c8,k1.trans k2⟩
  have a0:0<m:=Nat.pos_of_ne_zero fun z=>by rw[z,gD]at l;exact absurd l (c7 h)
  refine aL (Nat.exists_eq_add_of_le' (aH (Nat.le_add_left 1 k) bc)) fun f rR=>?_;refine aL (lx f (c+m) (Nat.le_of_succ_le_succ (aH bc (Nat.le_of_eq rR)))) fun b3 w=>⟨b3,?_⟩;rw[rR];have cm:tst (CC (d+5)) (.cmp (.v 3) .gt (ae 0)) (mF X.i c (af t) (af (m:Nat))) bN=.ok (decide ((m:Int) > 0)) bN:=rfl;exact(s1 (cm.trans (by rw[dz (show(m:Int) > 0 from ew.mpr a0)])) ((am (a:=GO) (ρ':=mF X.i (c+m) (af t) (af (m:Nat))) (σ':=bN) rfl).trans ((am (a:=GP) (bH (gf (vs:=[.inst bZ X.i,.int t]) rfl ak))).trans bX))).trans w
theorem UM{a k:Nat}{B cU:bl}(hp:cs p)(hpl:∀s∈p,iM s)(hn:n<=6)(r:mJ p n a k B cU):∀(σ:aa) (c:Nat) (u v:Option H),a+k=n->fF p n B X σ->fb p n B ->
  ∃b3 gP c6 σ',cj none (dM 2) (fun ρ σ=>ex (CC (d+5)) topN GJ ρ σ) ((List.range' a k).map fun(i:Nat)=>H.int (0+(i:Int)*1)) (mF X.i c u v) σ=.next (mF X.i b3 gP c6) σ'/\fF p n cU X σ'/\fR X σ σ':=by
 induction r with
 | nil a B=>intro σ c u v _ b _;exact⟨c,u,v,σ,eP,b,.refl⟩
 | cons a k j B eL nO r a5 r2 aj =>
  intro σ c u v ha b I;have aA:(a:Int)<n:=ew.mpr (ha▸Nat.lt_add_of_pos_right (Nat.succ_pos k));obtain⟨m,bN,ce,⟨e,w⟩,c8,k2⟩:=UL (d:=d) hp hpl hn (d3 a) aA r σ b I;refine aL (w topN c (aH a5 (by decide))) fun e1 w=>?_;obtain⟨b3,gP,c6,σ',aE,cX,br⟩:=aj ce e1 (af (a:Int)) (af ((0:Nat):Int)) (by rw[<- ha,Nat.add_right_comm];rfl) c8 (r.ok hp (d3 a) aA I).inv;refine⟨b3,gP,c6,σ',?_,cX,k2.trans br⟩;rw[List.range'_succ,dD,Ba];exact(eh (bU:=mF X.i c (af (a:Int)) v) rfl ((am (a:=GK) (bH (gf (vs:=[.inst bZ X.i,.int (a:Int)]) rfl e))).trans ((am (a:=GL) ((xF rfl).trans w)).trans bX))).trans aE
theorem UK{B cU:bl}(hp:cs p)(hpl:∀s∈p,iM s)(hn:n<=6)(r:mJ p n 0 n B cU)(b:fF p n B X σ)(I:fb p n B):∃(c:Nat) (σ':aa),bB PP topN (d+6) Iv [.inst bZ X.i] σ=.ok (.int (c:Nat)) σ'/\fF p n cU X σ'/\fR X σ σ':=by
 obtain⟨b3,gP,c6,σ',e,cX,k⟩:=UM (d:=d) hp hpl hn r σ 0 none none (gD n) b I;refine⟨b3,σ',?_,cX,k⟩;rw[<- kQ]at e;rw[cC (fn:=GG) rfl rfl];exact(congrArg bg ((am (a:=GH) (ρ':=mF X.i 0 none none) (σ':=σ) rfl).trans ((am (a:=GI) (eO (sH (hI (i:=X.i) (ac:=σ) (v:=.int n) rfl b.ns rfl) (aH hn (by decide))) e)).trans (bf (a:=GQ) (cH (v:=.int (b3:Nat)) (σ':=σ') rfl))))).trans rfl
end
structure kO(tk gl:Nat)(B:bl)(σ:aa):Prop where
 tk:σ[tk]?=some (.dp B.es)
 gl:σ[gl]?=some (.lst B.os)
noncomputable def lB(tk gl:Nat)(σ σ':aa):Prop:=∀j m,j≠tk->j≠gl->σ[j]?=some m->σ'[j]?=some m
theorem lB.trans{a b c:aa}(h:lB tk gl a b)(k:lB tk gl b c):lB tk gl a c:=fun j m L O e=>k j m L O (h j m L O e)
noncomputable def h3(p:List aq)(n tk gl:Nat)(tv mv st:Option H):az:=[some (bv p),aR tk,af (n:Nat),aR gl,tv,mv,st,none,none,none,none]
section
variable {p:List aq}
theorem Ux{mv:Option H}(hp:cs p)(hn:n<=6)(h0:0<=t)(L:t<n)(ne:tk≠gl):∀(q:List aq) (B:bl) (σ:aa) (st:Option H),(∀s∈q,s∈p)->kO tk gl B σ->fb p n B ->
  ∃c9 σ',cj none (dM 6) (fun ρ σ=>ex (CC (d+2)) topN FN ρ σ) (q.map aq.pv) (h3 p n tk gl (af t) mv st) σ=.next (h3 p n tk gl (af t) mv c9) σ'/\kO tk gl (dL n t q B) σ'/\lB tk gl σ σ':=by
 intro q
 induction q with
 | nil=>intro B σ st _ aB _;exact⟨st,σ,eP,aB,fun J J J J e=>e⟩
 | cons s q aj =>
  intro B σ st hq aB I;have hs:=hq s bi;have m4:=fun x hx=>hq x (bM _ hx)
  have cm:tst (CC (d+2)) (.and #v[(.cmp (.tup #v[(.sub (.v 6) (ae 0)),(.v 4)]) .notin (.v 3)),(.cmp (.call sa #v[(.v 6),(.v 1),(.v 4)]) .is (.k .none))]) (h3 p n tk gl (af t) mv (some s.pv)) σ=.ok (B.rdy s t) σ:=
   jw (nE (b4 (x:=.tup [.str s.name,.int t]) (y:=.ref gl) (ac:=σ) (ar:=σ) rfl rfl (OA I.gk.os aB.gl)) fun J=>kH (b4 (gf (vs:=[s.pv,.ref tk,.int t]) rfl (AC (d:=d) (hp.steps s hs) aB.tk I.val)) (y:=.none) (ar:=σ) rfl (by cases eH B.es s t <;> rfl)))
  cases hr:B.rdy s t with
  | false =>
   have e:dL n t (s::q) B=dL n t q B:=congrArg (dL n t q) (aY (by rw[hr];decide));rw[e];refine jn (aj B σ (some s.pv) m4 aB I) fun c9 σ' V qX k1=>⟨c9,σ',?_,qX,k1⟩;exact(eh (bU:=h3 p n tk gl (af t) mv (some s.pv)) rfl ((am (a:=yF) (bC (cm.trans (by rw[hr])))).trans bX)).trans V
  | true =>
   have e:dL n t (s::q) B=dL n t q (B.fire n s t):=congrArg (dL n t q) (aD hr);rw[e];refine aS (bl.rdy_of hr) fun g1 g2=>aS (I.small hp hn) fun dE dY=>?_
   have i4:B.os.length<900000:=by rw[I.gk.os,be];exact gX dE (by decide)
   have cO:(σ.set gl (.lst (B.os++[.tup [.str s.name,.int t]])))[tk]?=some (.dp B.es):=dw ne.symm aB.tk;have f2:=Rw (d:=d) (n:=n) (hp.steps s hs) cO I.val g2 L dY;refine jn (aj (B.fire n s t) _ (some s.pv) m4 ⟨oD cO,dw ne (oD aB.gl)⟩ (I.fire hp hs h0 L hr)) fun c9 σ' ak mB k2=>⟨c9,σ',?_,mB,lB.trans (fun j m q1 q2 e=>dw (Ne.symm q1) (dw (Ne.symm q2) e)) k2⟩;exact(eh (bU:=h3 p n tk gl (af t) mv (some s.pv)) rfl ((am (a:=yF) ((cz (cm.trans (by rw[hr]))).trans ((am (a:=FO) (fJ (hJ (x:=.ref gl) (ac:=σ) rfl (vI aB.gl) (y:=.tup [.str s.name,.int t]) (ar:=σ) rfl (rg aB.gl i4)))).trans ((am (a:=FP) (fJ (gf (vs:=[s.pv,.ref tk,.int t,.int (n:Nat)]) rfl f2))).trans bX)))).trans bX)).trans ak
inductive Ci(tk gl:Nat)(cU:bl)(σ:aa)(P:Option H->Option H->aa->Prop):Prop
 | mk (mv st:Option H) (σ':aa) (e:P mv st σ') (aB:kO tk gl cU σ') (k:lB tk gl σ σ'):Ci tk gl cU σ P
theorem Uz{k:Nat}{B cU:bl}(hp:cs p)(hn:n<=6)(h0:0<=t)(L:t<n)(ne:tk≠gl)(r:lD p n t k B cU):∀(σ:aa) (lU:Nat) (m:Int) (st:Option H),k<lU->m<B.gs.length->kO tk gl B σ->fb p n B ->
  Ci tk gl cU σ fun so c9 σ'=>hz (fun ρ σ=>tst (CC (d+2)) (.cmp (.v 5) .lt (.b1 .len (.v 3))) ρ σ) (fun ρ σ=>ex (CC (d+2)) topN yE ρ σ) lU (h3 p n tk gl (af t) (af m) st) σ=.next (h3 p n tk gl (af t) so c9) σ':=by
 have qf:∀{B:bl} {σ:aa} {mv:Option H} {st:Option H},kO tk gl B σ->fb p n B->ev (CC (d+2)) (.b1 .len (.v 3)) (h3 p n tk gl (af t) mv st) σ=.ok (.int (B.gs.length:Nat)) σ:=fun{B σ mv st} aB I=>by
  have i4:B.os.length=B.gs.length:=by rw[I.gk.os,be]
  exact i4▸cZ (x:=.ref gl) (ac:=σ) rfl (sj aB.gl (by rw[i4];exact aH (I.small hp hn).1 (by decide)))
 have go:∀{B:bl} {σ:aa} {m:Int} {st:Option H},m<B.gs.length->kO tk gl B σ->fb p n B->∃c9 σ',(tst (CC (d+2)) (.cmp (.v 5) .lt (.b1 .len (.v 3))) (h3 p n tk gl (af t) (af m) st) σ=.ok true σ/\ex (CC (d+2)) topN yE (h3 p n tk gl (af t) (af m) st) σ=.next (h3 p n tk gl (af t) (af (B.gs.length:Nat)) c9) σ')/\kO tk gl (dL n t p B) σ'/\lB tk gl σ σ':=fun{B σ m st} hm aB I=>by
  refine jn (Ux (d:=d) (mv:=af (B.gs.length:Nat)) hp hn h0 L ne p B σ st (fun J hs=>hs) aB I) fun c9 σ' e lC br=>⟨c9,σ',⟨?_,?_⟩,lC,br⟩
  ·exact(b4 (x:=.int m) (ac:=σ) rfl (qf aB I) lt_int).trans (by rw[dz hm])
  ·exact(am (a:=FL) (bH (qf aB I))).trans ((am (a:=FM) (eO rfl e)).trans bX)
 induction r with
 | stop B h =>
  intro σ lU m st bc hm aB I;refine jn (go (st:=st) hm aB I) fun c9 σ' e lC br=>⟨af (B.gs.length:Nat),c9,σ',?_,lC,br⟩;have P:=qw hp h0 L p B (fun J hs=>hs) I;refine aL (Nat.exists_eq_add_of_le' bc) fun f bc=>?_;rw[bc];exact(s1 e.1 e.2).trans (BS ((b4 (x:=.int (B.gs.length:Nat)) (ac:=σ') rfl (qf lC P.inv) lt_int).trans (by rw[h,fx (Int.lt_irrefl _)])))
 | go k B cU h r aj =>
  intro σ lU m st bc hm aB I;refine jn (go (st:=st) hm aB I) fun c9 σ' e lC br=>?_;have P:=qw hp h0 L p B (fun J hs=>hs) I;refine aL (Nat.exists_eq_add_of_le' (aH (Nat.le_add_left 1 _) bc)) fun f rR=>?_;obtain⟨mv,Bi,ce,ak,mB,k2⟩:=aj σ' f (B.gs.length:Nat) c9 (Nat.lt_of_succ_lt_succ (hF bc (Nat.le_of_eq rR))) (ew.mpr h) lC P.inv;exact⟨mv,Bi,ce,by rw[rR];exact(s1 e.1 e.2).trans ak,mB,br.trans k2⟩
theorem Uy{a k:Nat}{B cU:bl}(hp:cs p)(hn:n<=6)(ne:tk≠gl)(r:mJ p n a k B cU):∀(σ:aa) (tv mv st:Option H),a+k=n->kO tk gl B σ->fb p n B ->
  ∃BJ so c9 σ',cj none (dM 4) (fun ρ σ=>ex (CC (d+2)) topN FI ρ σ) ((List.range' a k).map fun(i:Nat)=>H.int (0+(i:Int)*1)) (h3 p n tk gl tv mv st) σ=.next (h3 p n tk gl BJ so c9) σ'/\kO tk gl cU σ'/\lB tk gl σ σ':=by
 induction r with
 | nil a B=>intro σ tv mv st _ aB _;exact⟨tv,mv,st,σ,eP,aB,fun J J J J e=>e⟩
 | cons a k j B eL nO r a5 r2 aj =>
  intro σ tv mv st ha aB I;have aA:(a:Int)<n:=ew.mpr (ha▸Nat.lt_add_of_pos_right (Nat.succ_pos k));obtain⟨SM,Vr,bN,e,qX,k1⟩:=Uz (d:=d) hp hn (d3 a) aA ne r σ topN (-1) st (gX a5 (by decide)) (Int.lt_of_lt_of_le (by decide) (d3 _)) aB I;obtain⟨BJ,so,c9,σ',aE,lC,br⟩:=aj bN (af (a:Int)) SM Vr (by rw[<- ha,Nat.add_right_comm];rfl) qX (r.ok hp (d3 a) aA I).inv;refine⟨BJ,so,c9,σ',?_,lC,k1.trans br⟩;rw[List.range'_succ,dD,Ba];exact(eh (bU:=h3 p n tk gl (af (a:Int)) mv st) rfl ((am (a:=FJ) (ρ':=h3 p n tk gl (af (a:Int)) (af (-1)) st) (σ':=σ) rfl).trans ((am (a:=FK) ((xF rfl).trans e)).trans bX))).trans aE
theorem RB{B cU:bl}(hp:cs p)(hn:n<=6)(r:mJ p n 0 n B cU)(h:σ[tk]?=some (.dp B.es))(ho:B.os=[])(I:fb p n B):∃σ',bB PP topN (d+3) Ip [bv p,.ref tk,.int (n:Nat)] σ=.ok (.ref σ.length) σ'/\kO tk σ.length cU σ'/\∀j m,j≠tk->σ[j]?=some m->σ'[j]?=some m:=by
 have lt:∀{j:Nat} {y:aW},σ[j]?=some y->j<σ.length:=fun e=>(dX e).1;obtain⟨tv,mv,st,σ',e,aB,k⟩:=Uy (d:=d) hp hn (h5 (lt h)) r (σ++[.lst []]) none none none (gD n) ⟨iD h,ho▸h7⟩ I;refine⟨σ',?_,aB,fun j m a5 e=>k j m a5 (h5 (lt e)) (iD e)⟩;rw[<- kQ]at e;rw[cC (fn:=FF) rfl rfl];exact(congrArg bg ((am (a:=FG) (ρ':=h3 p n tk σ.length none none none) (σ':=σ++[.lst []]) rfl).trans ((am (a:=FH) (eO (sH rfl (aH hn (by decide))) e)).trans (bf (a:=FQ) (cH (v:=.ref σ.length) (σ':=σ') rfl))))).trans rfl
end
section
variable {p:List aq}{B:bl}
theorem T9:∀(j:Nat) (l a:aJ) (r:List aJ),nV p l r->(l::r)[j]?=some a->∃q,(l::r).drop j=a::q/\nV p a q/\(a::q).getLast?=(l::r).getLast?:=by
 intro j
 induction j with
 | zero=>intro l a r h e;obtain rfl:=oi e;exact⟨r,rfl,h,rfl⟩
 | succ j aj =>
  intro l a r h e
  cases r with
  | nil=>exact nomatch e
  | cons b r=>exact bu (aj b a r h.2.2 e) fun q L O aw=>⟨q,L,O,aw.trans List.getLast?_cons_cons.symm⟩
theorem Ua:∀(r:List aJ) (a z:aJ),nV p a r->(a::r).getLast?=some z->a.t<=z.t->z.t=a.t/\∀b∈r,b.t=a.t/\eG b.s.rule=false:=by
 intro r
 induction r with
 | nil=>intro a z _ e _;obtain rfl:=oi e;exact⟨rfl,fun b hb=>absurd hb et⟩
 | cons b r aj =>
  intro a z h e le;have xa:b.t<=a.t:=h.2.1▸vS;refine aS (aj b z h.2.2 (List.getLast?_cons_cons▸e) (Int.le_trans xa le)) fun L O=>?_;have q:b.t=a.t:=Int.le_antisymm xa (L▸le);refine⟨L.trans q,fun c hc=>(b5.mp hc).elim (fun z=>z▸⟨q,?_⟩) fun hc=>⟨(O c hc).1.trans q,(O c hc).2⟩⟩;have ak:=h.2.1.symm.trans q;unfold bD at ak
  cases hl:eG b.s.rule with
  | false=>rfl
  | true=>rw[hl]at ak;exact absurd ak (Int.ne_of_lt (Int.sub_lt_self _ (by decide)))
end
theorem Be{k:Nat}(h:σ[r]?=some (.lst xs))(hl:xs.length<=1000)(hk:k<=xs.length):j0 (.ref r) (.int (k:Nat)) .none σ=.ok (.fl (xs.drop k)) σ:=by
 refine sN (a:=some (k:Int)) (b:=none) rfl rfl ?_;show(b2 σ (.ref r)).bind (fun xs=>if xs.length<=aI then some (H.fl (dR xs (some (k:Int)) none))else none)=_;rw[show b2 σ (.ref r)=some xs by unfold b2;dsimp only;rw[h]];show(if xs.length<=aI then some (H.fl (dR xs (some (k:Int)) none))else none)=_;rw[aD (aH hl (by decide))];show some (H.fl ((xs.drop (clipAt xs.length (k:Int))).take (xs.length-clipAt xs.length (k:Int))))=_;rw[clipAt_nat,Nat.min_eq_left hk,<- List.length_drop,List.take_length]
noncomputable def pC(p:List aq)(r:Nat)(E:H)(a b c:Option H):az:=[some (bv p),some (.tup [.ref r,E]),a,b,c,none]
theorem UD{p:List aq}{a:aJ}{q:List aJ}(hp:cs p)(hl:(a::q).length<=1000)(hq:∀b∈a::q,b.s∈p/\b.t=a.t/\eG b.s.rule=false) :
  ex (CC d) topN #v[yG,yH,yI] (pC p r (.tup [.str "ring",.int (j:Nat)]) (some (.fl ((a::q).map aJ.pv))) none none) σ=.ret (.bool true) (pC p r (.tup [.str "ring",.int (j:Nat)]) (some (.fl ((a::q).map aJ.pv))) (some (.fl (((a::q).map (·.s.name)).map .str))) (some (.fl []))) σ:=by
 have jZ:ev (CC d) FS (pC p r (.tup [.str "ring",.int (j:Nat)]) (some (.fl ((a::q).map aJ.pv))) none none) σ=.ok (.fl (((a::q).map (·.s.name)).map .str)) σ:=by
  refine(lI (fun y=>match y with | .tup (a::_)=>a | _=>.none) rfl (by rw[be];exact aH hl (by decide)) (fun y hy=>?_) rfl).trans ?_
  ·refine ay (ci.mp hy) fun b J ag=>?_;obtain rfl:=ag;rfl
  ·rw[fV,fV];rfl
 have ms:∀x:Str,cY .isin (.str x) (.fl (((a::q).map (·.s.name)).map .str)) σ=.ok (decide (x∈(a::q).map (·.s.name))) σ:=fun x=>by
  show ah.ofOpt (hQ σ (.str x) (((a::q).map (·.s.name)).map .str)) σ=_;rw[Az];rfl
 have nt:ev (CC d) FT (pC p r (.tup [.str "ring",.int (j:Nat)]) (some (.fl ((a::q).map aJ.pv))) (some (.fl (((a::q).map (·.s.name)).map .str))) none) σ=.ok (.fl ((p.filter fun s=>decide (s.name∈(a::q).map (·.s.name))&&eG s.rule).map aq.pv)) σ:=
  xh rfl (aH hp.most (by decide)) (fun s hs=>jw (nE (b4 (x:=.str s.name) (y:=.fl (((a::q).map (·.s.name)).map .str)) (ac:=σ) (ar:=σ) rfl rfl (ms s.name)) fun J=>kH (b4 (x:=s.rule.pv) (y:=.tup [.str "later"]) (ac:=σ) (ar:=σ) rfl rfl (qB (hp.steps s hs).rule).1))) (fun J J=>rfl) rfl
 have no:(p.filter fun s=>decide (s.name∈(a::q).map (·.s.name))&&eG s.rule)=[]:=List.filter_eq_nil_iff.mpr fun s hs z=>by
  refine aS (df z) fun dE dY=>?_;refine ay (ci.mp (hG dE)) fun b hb e=>?_;rw[<- AF hp (hq b hb).1 hs e,(hq b hb).2.2]at dY;exact nomatch dY
 rw[no]at nt
 have nu:ev (CC d) FU (pC p r (.tup [.str "ring",.int (j:Nat)]) (some (.fl ((a::q).map aJ.pv))) (some (.fl (((a::q).map (·.s.name)).map .str))) (some (.fl []))) σ=.ok (.fl []) σ:=by
  refine(xh (f:=aJ.pv) (c:=fun J=>false) (l:=a::q) rfl hl (fun b hb=>?_) (fun J J=>rfl) rfl).trans (by rw[show(a::q).filter (fun J=>false)=[]from List.filter_eq_nil_iff.mpr fun J J z=>Bool.false_ne_true z];rfl);refine(b4 (x:=.int b.t) (y:=.int a.t) (ac:=σ) (ar:=σ) rfl (cG (cG (x:=.fl ((a::q).map aJ.pv)) (ac:=σ) rfl (y:=.int 0) (ar:=σ) rfl (j1 (x:=a.pv) (by rw[be];exact aH hl (by decide)) (Int.le_refl 0) rfl)) (y:=.int 1) (ar:=σ) rfl rfl) vL).trans ?_;rw[(hq b hb).2.1,beq_self_eq_true];rfl
 exact(am (a:=yG) (bH jZ)).trans ((am (a:=yH) (bH nt)).trans (bf (a:=yI) (cH (kl (kY (eE (cZ nu (show dk .len (.fl []) σ=.ok (.int 0) σ from rfl)) (y:=.int 0) (ar:=σ) rfl (q:=true) rfl) rfl)))))
theorem UC{p:List aq}{B:bl}{l:aJ}{rest:List aJ}{E:H}(hp:cs p)(W:iz p n B [] l rest E)(hr:σ[r]?=some (.lst ((l::rest).map aJ.pv)))(hl:(l::rest).length<=900)(done:∀u:Int,0<=u->u<n->∀s∈p,B.rdy s u=false) :
  bB PP topN (d+1) Iq [bv p,.tup [.ref r,E]] σ=.ok (.bool true) σ:=by
 rw[cC (fn:=FR) rfl rfl];obtain⟨z,a7⟩:∃z,(l::rest).getLast?=some z:=⟨_,List.getLast?_eq_some_getLast (List.cons_ne_nil l rest)⟩;have XO:=W.ok z (List.mem_of_getLast? a7);have ne:=W.ne
 cases W.fin z a7 with
 | out=>exact rfl
 | first=>exact rfl
 | left=>exact rfl
 | go=>exact nomatch ne
 | ready s h L O aw =>
  have:=done _ (Int.not_lt.mp L) (Int.lt_of_le_of_lt vS XO.t1) s (kn h).1
  have A4:B.rdy s (bD s z.t)=true:=by
   show(_&&_)=true;rw[O,aw];rfl
  rw[A4]at this;exact nomatch this
 | ring s i h L aQ =>
  obtain⟨j,a,rfl,ha,hk⟩:=sO aQ;have ha:(l::rest)[j]?=some a:=ha;refine bu (T9 j l a rest W.pth ha) fun q V ak bG=>?_;have Jc:∀b∈a::q,b.s∈p:=fun b hb=>(W.ok b (List.mem_of_mem_drop (i:=j) (by rw[List.nil_append,V];exact hb))).inn;have as:a.s=s:=AF hp (Jc a bi) (kn h).1 (Prod.mk.inj hk).1
  have at_:a.t=bD s z.t:=(Prod.mk.inj hk).2
  refine aS (Ua q a z ak (bG.trans a7) (at_▸vS)) fun f1 f2=>?_
  have al:eG a.s.rule=false:=by
   have e:=f1.trans at_
   unfold bD at e;rw[as]
   cases hl:eG s.rule with
   | false=>rfl
   | true=>rw[hl]at e;exact absurd e (Int.ne_of_gt (Int.sub_lt_self _ (by decide)))
  have Rl:j<=((l::rest).map aJ.pv).length:=by rw[be];exact h6 (dX ha).1
  have i3:((l::rest).map aJ.pv).length<=1000:=by rw[be];exact aH hl (by decide)
  have cu:=Be hr i3 Rl;rw[<- List.map_drop,V]at cu
  have Ui:(a::q).length<=1000:=by rw[<- V,List.length_drop];exact aH (Nat.sub_le _ _) (aH hl (by decide))
  exact(congrArg bg (dc (am (a:=FV) (ρ':=pC p r (.tup [.str "ring",.int (j:Nat)]) none none none) (σ':=σ) rfl) ((am (a:=FW) (bH (lK (x:=.ref r) (y:=.int (j:Nat)) (z:=.none) (ac:=σ) (ar:=σ) (e8:=σ) rfl rfl rfl cu))).trans (UD (j:=j) hp Ui fun b hb=>⟨Jc b hb,(b5.mp hb).elim (fun z=>by rw[z];exact⟨rfl,al⟩) (f2 b)⟩)))).trans rfl
section
variable {p:List aq}{B:bl}
noncomputable def Dj(p:List aq)(B:bl)(gw:cV)(x:Str)(t:Int):H:=
 (eR p x).elim (.tup [.str "outside"]) fun s=>if bD s t<0 then .tup [.str "first"]else if(aG (s.name,bD s t) B.gs).isSome=true then .tup [.str "left"]else if(eH B.es s (bD s t)).isNone=true then .tup [.str "ready"]else(aG (s.name,bD s t) gw).elim .none fun i=>.tup [.str "ring",i]
theorem f7.val{dO:List aJ}{E:H}(hp:cs p)(ok:∀a∈dO,jd p n B a)(h:f7 p B (dq dO) x t E):E=Dj p B (dq dO) x t:=by
 unfold Dj
 cases h with
 | out h=>rw[h];rfl
 | first s h L=>rw[h];exact(aD L).symm
 | left s h L O=>rw[h];exact((aY L).trans (aD O)).symm
 | ready s h L O aw=>rw[h];exact((aY L).trans ((aY (by rw[O];decide)).trans (aD (by rw[aw];rfl)))).symm
 | ring s i h L aQ =>
  obtain⟨j,a,rfl,ha,hk⟩:=sO aQ;have o:=ok a (d2 ha);have as:a.s=s:=AF hp o.inn (kn h).1 (Prod.mk.inj hk).1;have no:=o.no;have ms:=o.ms;rw[hk]at no;rw[as,show a.t=bD s t from(Prod.mk.inj hk).2]at ms;rw[h];exact((aY L).trans ((aY (by rw[no];decide)).trans ((aY (by rw[ms];exact Bool.false_ne_true)).trans (by rw[aQ];rfl)))).symm
 | go s y h L O aw aQ=>rw[h];exact((aY L).trans ((aY (by rw[O];decide)).trans ((aY (by rw[aw];exact Bool.false_ne_true)).trans (by rw[aQ];rfl)))).symm
theorem f7.on{dO:List aJ}{E:H}{b:aJ}(h:f7 p B (dq dO) x t E)(o:jd p n B b)(hg:eR p x=some b.s)(a3:b.t=bD b.s t)(hn:b.key∉dO.map aJ.key):g7 E=true:=by
 have no:aG (b.s.name,bD b.s t) B.gs=Option.none:=a3▸o.no;have ms:eH B.es b.s (bD b.s t)=some b.x:=a3▸o.ms
 cases h with
 | out h=>exact nomatch h.symm.trans hg
 | first s h L=>obtain rfl:=oi (h.symm.trans hg);exact absurd (a3▸L) (Int.not_lt.mpr o.t0)
 | left s h L O=>obtain rfl:=oi (h.symm.trans hg);rw[no]at O;exact nomatch O
 | ready s h L O aw=>obtain rfl:=oi (h.symm.trans hg);exact nomatch aw.symm.trans ms
 | ring s i h L aQ =>
  obtain rfl:=oi (h.symm.trans hg);obtain⟨j,a,_,ha,hk⟩:=sO aQ;exact absurd (ci.mpr ⟨a,d2 ha,hk.trans (congrArg (Prod.mk b.s.name) a3.symm)⟩) hn
 | go=>rfl
theorem iz.step{pre:List aJ}{l b:aJ}{r:List aJ}{E:H}(W:iz p n B pre l (b::r) E):iz p n B (pre++[l]) b r E:=by
 have e:pre++[l]++b::r=pre++l::b::r:=by rw[eY];rfl
 exact⟨e.symm▸W.ok,e.symm▸W.nd,W.pth.2.2,fun z a7=>e.symm▸W.fin z (List.getLast?_cons_cons.trans a7),W.ne⟩
theorem iz.off{pre:List aJ}{l b:aJ}{r:List aJ}{E cR:H}(W:iz p n B pre l [] E)(jh:iz p n B pre l (b::r) cR):False:=by
 have Cm:=jh.step;have nd:=Cm.nd;rw[eu]at nd;have:=(W.fin l rfl).on (b:=b) (Cm.ok b (d7 _ bi)) jh.pth.1 jh.pth.2.1 fun q=>(gC.mp nd).2.2 _ q _ bi rfl;rw[W.ne]at this;exact nomatch this
theorem iz.det(hp:cs p):∀(r pre:List aJ) (l:aJ) (aF:List aJ) (E cR:H),iz p n B pre l r E->iz p n B pre l aF cR->r=aF/\E=cR:=by
 intro r
 induction r with
 | nil =>
  intro pre l aF E cR W jh
  cases aF with
  | nil=>exact⟨rfl,((W.fin l rfl).val hp W.ok).trans ((jh.fin l rfl).val hp jh.ok).symm⟩
  | cons b aF=>exact(W.off jh).elim
 | cons b r aj =>
  intro pre l aF E cR W jh
  cases aF with
  | nil=>exact(jh.off W).elim
  | cons c aF =>
   have hs:b.s=c.s:=oi (W.pth.1.symm.trans jh.pth.1)
   have a3:b.t=c.t:=by rw[W.pth.2.1,jh.pth.2.1,hs]
   have ob:=W.step.ok b (d7 _ bi);have Tu:=jh.step.ok c (d7 _ bi);have hx:b.x=c.x:=oi (ob.ms.symm.trans (by rw[hs,a3];exact Tu.ms))
   obtain rfl:b=c:=by
    cases b;cases c;cases hs;cases a3;cases hx;rfl
   exact aS (aj (pre++[l]) b aF E cR W.step jh.step) fun L O=>⟨congrArg _ L,O⟩
end
section
variable {Γ:fG}{B:bl}
noncomputable def rb(i:Nat)(gr tv:H)(s:Option H):az:=bY i::some gr::some tv::s::List.replicate 10 none
theorem LW{w:Str}(rS:[31,44,56,68,80,92,104,116,128,140,152].contains c=true)(hw:g0 PP topN 1 (d+4) It [.exc c] σ=.ok (.str w) σ)(h:bB PP topN (d+4) sf [.inst bZ Γ.X.i,gr,tv] σ=.exc c σ):bB PP topN (d+5) p5 [.inst bZ Γ.X.i,gr,tv] σ=.ok (.str w) σ:=by
 rw[cC (fn:=x8) rfl rfl]
 have aN:ex (CC (d+4)).inH topN #v[ur] [bY Γ.X.i,some gr,some tv,some (.exc c),none,none,none] σ=.ret (.str w) [bY Γ.X.i,some gr,some tv,some (.exc c),none,none,none] σ:=
  bf (cH (d8 (x:=.exc c) (ac:=σ) rfl hw))
 have f4:ex (CC (d+4)) topN x9 [bY Γ.X.i,some gr,some tv,none,none,none,none] σ=.ret (.str w) (List.replicate 7 none) σ:=by
  refine(NL (h:=.cons ur .nil) (Dx (a:=ya) (NJ (gf (vs:=[.inst bZ Γ.X.i,gr,tv]) rfl h))) rS (Nat.le_of_ble_eq_true rfl) rfl).trans ?_;show pM (ex (CC (d+4)).inH topN #v[ur] [bY Γ.X.i,some gr,some tv,some (.exc c),none,none,none] σ)=_;rw[aN];rfl
 exact(congrArg bg (bf f4)).trans rfl
theorem LX{v:H}(h:bB PP topN (d+4) sf [.inst bZ Γ.X.i,gr,tv] σ=.ok v σ'):bB PP topN (d+5) p5 [.inst bZ Γ.X.i,gr,tv] σ=.ok v σ':=by
 rw[cC (fn:=x8) rfl rfl];exact(congrArg bg (bf (a:=x9) (NK (bf (a:=ya) (cH (gf (vs:=[.inst bZ Γ.X.i,gr,tv]) rfl h))) (fun J J J z=>by contradiction)))).trans rfl
theorem Xm{s:aq}{r:S}(aC:jF Γ)(S:fT Γ B σ)(hs:s∈Γ.p):ex (CC (d+3)) topN (.cons yV r) (rb Γ.X.i (.str s.name) tv none) σ=ex (CC (d+3)) topN r (rb Γ.X.i (.str s.name) tv (some s.pv)) σ:=
 am (bH (fW (i:=Γ.X.i) (ac:=σ) (ar:=σ) (vs:=[.str s.name]) rfl S.bo.ns rfl rfl (AH (d:=d+2) S.bo hs aC.hp.names)))
theorem Xn{s:aq}{t:Nat}{r:S}(S:fT Γ B σ)(a3:t<Γ.n):ex (CC (d+3)) topN (.cons uL r) (rb Γ.X.i (.str s.name) (.int (t:Int)) (some s.pv)) σ=ex (CC (d+3)) topN r (rb Γ.X.i (.str s.name) (.int (t:Int)) (some s.pv)) σ:=
 am (fJ (fW (i:=Γ.X.i) (ac:=σ) (ar:=σ) (vs:=[.int (t:Int)]) rfl S.bo.ns rfl rfl (vM (d:=d+1) S.bo (d3 t) (ew.mpr a3))))
theorem Xo{s:aq}{t:Nat}(S:fT Γ B σ):tst (CC (d+3)) (.meth bZ lZ "has_fired" (.v 0) #v[(.v 1),(.v 2)]) (rb Γ.X.i (.str s.name) (.int (t:Int)) (some s.pv)) σ=.ok (aG (s.name,(t:Int)) B.gs).isSome σ:=pd (fW (i:=Γ.X.i) (ac:=σ) (ar:=σ) (vs:=[.str s.name,.int (t:Int)]) rfl S.bo.ns rfl rfl (rM (d:=d+2) S.bo))
theorem LU{s:aq}{t:Nat}(aC:jF Γ)(S:fT Γ B σ)(hs:s∈Γ.p)(a3:t<Γ.n)(h:(aG (s.name,(t:Int)) B.gs).isSome=true):bB PP topN (d+5) p5 [.inst bZ Γ.X.i,.str s.name,.int (t:Int)] σ=.ok (.str "Fired") σ:=by
 refine LW (c:=Xw) rfl rfl ?_;rw[cC (fn:=yU) rfl rfl];exact(congrArg bg ((Xm aC S hs).trans ((Xn S a3).trans (Dx (a:=uM) ((cz ((Xo S).trans (by rw[h]))).trans rfl))))).trans rfl
theorem LV{s:aq}{t:Nat}(aC:jF Γ)(S:fT Γ B σ)(o:jd Γ.p Γ.n B ⟨s,(t:Int),x⟩):∃rest E,bB PP topN (d+5) p5 [.inst bZ Γ.X.i,.str s.name,.int (t:Int)] σ=.ok (.tup [.ref σ.length,E]) (σ++[.lst ((⟨s,(t:Int),x⟩::rest).map aJ.pv),.dp (dq (⟨s,(t:Int),x⟩::rest))])/\iz Γ.p Γ.n B [] ⟨s,(t:Int),x⟩ rest E:=by
 obtain⟨rest,E,w,W⟩:=K0 (d:=d) aC.hp aC.hpl S.ok S.bo (aH (Nat.mul_le_mul aC.hp.most aC.hn) (by decide)) o;exact⟨rest,E,LX w,W⟩
end
noncomputable def l5(a:aJ):PyData:=.tuple [.str a.s.name,.int a.t,.str a.x]
theorem Bq{m:Nat}:∀(l:List aJ),(l.map aJ.pv).mapM (toD (m+2) σ)=some (l.map l5):=by
 intro l
 induction l with
 | nil=>rfl
 | cons q l aj=>rw[dD,List.mapM_cons,aj];rfl
theorem Dm:∀(l:List aJ),PyData.eqv (.list (l.map l5)) (.list (l.map l5))=true:=by
 intro l;show PyData.eqvAll _ _=true
 induction l with
 | nil=>rfl
 | cons q l aj =>
  rw[dD];show((q.s.name == q.s.name&&(q.t == q.t&&(q.x == q.x&&true)))&&PyData.eqvAll _ _)=true;rw[aj,beq_self_eq_true,beq_self_eq_true,beq_self_eq_true];rfl
theorem S6{l:List aJ}(hr:σ[r]?=some (.lst (l.map aJ.pv))):cY .ne (.ref r) (.fl (l.map aJ.pv)) σ=.ok false σ:=by
 have V:toD 16 σ (.ref r)=some (.list (l.map l5)):=by
  show(match σ[r]? with | some (.lst xs)=>(xs.mapM (toD 15 σ)).map PyData.list | _=>none)=_;rw[hr];show((l.map aJ.pv).mapM (toD (13+2) σ)).map PyData.list=_;rw[Bq];rfl
 have ak:toD 16 σ (.fl (l.map aJ.pv))=some (.list (l.map l5)):=by
  show((l.map aJ.pv).mapM (toD (13+2) σ)).map PyData.list=_;rw[Bq];rfl
 show ah.ofOpt ((eqv σ (.ref r) (.fl (l.map aJ.pv))).map (!·)) σ=_;unfold eqv;rw[V,ak];show ah.ofOpt (some (!PyData.eqv _ _)) σ=_;rw[Dm];rfl
theorem RV(h:σ[r]?=some (.lst xs))(hl:xs.length<=900000):dk (.list true) (.ref r) σ=.ok (.fl xs) σ:=by
 show jW (fun xs=>eW true xs σ) (.ref r) σ=_;rw[sv (show el σ (.ref r)=some xs by unfold el;dsimp only;rw[h])];exact nc (aH hl (by decide))
theorem MO{w:Option (Nat×aW)}{f:H->aa->ah (Option H)}(hw:hY w σ):∀(xs:List H),(∀x∈xs,f x σ=.ok none σ)->dW w f xs σ=.ok [] σ:=by
 intro xs
 induction xs with
 | nil=>intro _;exact aD hw
 | cons x xs aj =>
  intro h;refine(aD hw).trans ?_;rw[h x bi];show(dW w f xs σ).bind _=_;rw[aj fun y hy=>h y (bM _ hy)];rfl
noncomputable def fX(h:Nat×List aJ):H:=.tup [.ref h.1,.fl (h.2.map aJ.pv)]
structure iL(Γ:fG)(hl:Nat)(hs:List (Nat×List aJ))(σ:aa):Prop where
 hd:σ[hl]?=some (.lst (hs.map fX))
 held:∀h∈hs,σ[h.1]?=some (.lst (h.2.map aJ.pv))/\iK Γ.X h.1/\h.1≠Γ.tk/\h.1≠Γ.gl/\h.1≠hl
 ap:iK Γ.X hl
 tk:hl≠Γ.tk
 gl:hl≠Γ.gl
section
variable {Γ:fG}{B:bl}{hs:List (Nat×List aJ)}
theorem iL.more(h:iL Γ hl hs σ):iL Γ hl hs (σ++τ):=⟨iD h.hd,fun q hq=>⟨iD (h.held q hq).1,(h.held q hq).2⟩,h.ap,h.tk,h.gl⟩
theorem iL.rest(h:iL Γ hl hs σ)(ao:∀j m,iK Γ.X j->j≠Γ.tk->j≠Γ.gl->σ[j]?=some m->σ'[j]?=some m):iL Γ hl hs σ':=
 ⟨ao hl _ h.ap h.tk h.gl h.hd,fun q hq=>by
  obtain⟨L,O,aw,aQ,c5⟩:=h.held q hq
  exact⟨ao _ _ O aw aQ L,O,aw,aQ,c5⟩,h.ap,h.tk,h.gl⟩
theorem iL.snoc{l:List aJ}(h:iL Γ hl hs σ)(hr:σ[r]?=some (.lst (l.map aJ.pv)))(a:iK Γ.X r)(t:r≠Γ.tk)(g:r≠Γ.gl)(ne:r≠hl):iL Γ hl (hs++[(r,l)]) (σ.set hl (.lst (hs.map fX++[fX (r,l)]))):=
 ⟨by rw[eu];exact oD h.hd,fun q hq=>by
  rcases dt.mp hq with hq | hq
  ·obtain⟨L,O,aw,aQ,c5⟩:=h.held q hq;exact⟨dw c5.symm L,O,aw,aQ,c5⟩
  ·rw[de.mp hq]
   exact⟨dw ne.symm hr,a,t,g,ne⟩,h.ap,h.tk,h.gl⟩
end
theorem Ob{f:az->aa->bO}{x:H}(hb:gG x ρ=some bU)(h:∀g,iG g (f bU σ)=g eA ar):cj none gG f (x::xs) ρ σ=cj none gG f xs eA ar:=by
 refine(aD trivial).trans ?_;rw[hb];exact h _
theorem f7.toD{p:List aq}{B:bl}{dO:List aJ}{E:H}(h:f7 p B (dq dO) x t E)(ne:g7 E=false):∃D,(∀σ:aa,Mine.toD 15 σ E=some D)/\PyData.eqv D D=true:=by
 cases h with
 | out=>exact⟨_,fun J=>rfl,rfl⟩
 | first=>exact⟨_,fun J=>rfl,rfl⟩
 | left=>exact⟨_,fun J=>rfl,rfl⟩
 | ready=>exact⟨_,fun J=>rfl,rfl⟩
 | go=>exact nomatch ne
 | ring s i h L aQ =>
  obtain⟨j,a,rfl,_,_⟩:=sO aQ;refine⟨.tuple [.str "ring",.int (j:Nat)],fun J=>rfl,?_⟩;show(("ring" : Str) == ("ring" : Str)&&(((j:Nat):Int) == ((j:Nat):Int)&&true))=true;rw[beq_self_eq_true,beq_self_eq_true];rfl
theorem S4{q:Nat}{l:List aJ}{E:H}{D:PyData}(hr:σ[r]?=some (.lst (l.map aJ.pv)))(hq:σ[q]?=some (.lst (l.map aJ.pv)))(fK:Mine.toD 15 σ E=some D)(hD:PyData.eqv D D=true):cY .ne (.tup [.ref r,E]) (.tup [.ref q,E]) σ=.ok false σ:=by
 have i5:∀{r:Nat},σ[r]?=some (.lst (l.map aJ.pv))->toD 16 σ (.tup [.ref r,E])=some (.tuple [.list (l.map l5),D]):=fun{r} h=>by
  have V:toD 15 σ (.ref r)=some (.list (l.map l5)):=by
   show(match σ[r]? with | some (.lst xs)=>(xs.mapM (toD 14 σ)).map PyData.list | _=>none)=_;rw[h];show((l.map aJ.pv).mapM (toD (12+2) σ)).map PyData.list=_;rw[Bq];rfl
  show([H.ref r,E].mapM (toD 15 σ)).map PyData.tuple=_;rw[List.mapM_cons,V,List.mapM_cons,fK];rfl
 show ah.ofOpt ((eqv σ (.tup [.ref r,E]) (.tup [.ref q,E])).map (!·)) σ=_;unfold eqv;rw[i5 hr,i5 hq];show ah.ofOpt (some (!(PyData.eqv (.list (l.map l5)) (.list (l.map l5))&&(PyData.eqv D D&&true)))) σ=_;rw[Dm,hD];rfl
noncomputable def eM(Γ:fG)(a b:Option H)(hl:Nat)(st ez fd:Option H):az:=some (.fl (Γ.l.map .int))::some (bv Γ.p)::af (Γ.n:Nat)::bY Γ.X.i::aR Γ.tk::a::ez::b::aR Γ.gl::aR hl::st::fd::List.replicate 14 none
structure qZ(hs:List (Nat×List aJ)):Prop where
 nd:(hs.map (·.1)).Nodup
 le:∀h∈hs,h.2.length<=900
inductive th(Γ:fG)(B:bl)(hl m:Nat)(P:Option H->Option H->Option H->aa->Prop):Prop
 | mk (st ez fd:Option H) (hs:List (Nat×List aJ)) (σ:aa) (e:P st ez fd σ) (S:fT Γ B σ) (D:iL Γ hl hs σ) (l:hs.length<=m) (nd:qZ hs):th Γ B hl m P
section
variable {Γ:fG}{B:bl}{hs:List (Nat×List aJ)}{a b:Option H}
theorem Ur{s:aq}{t:Nat}{fd:Option H}(aC:jF Γ)(S:fT Γ B σ)(D:iL Γ hl hs σ)(nd:qZ hs)(aN:hs.length<=900)(done:∀u:Int,0<=u->u<Γ.n->∀s∈Γ.p,B.rdy s u=false)(lX:s∈Γ.p)(a3:t<Γ.n) :
  th Γ B hl (hs.length+1) fun c9 nG lQ σ'=>∀g,iG g (ex (CC (d+6)) topN yJ (eM Γ a b hl (some s.pv) (af (t:Nat)) fd) σ)=g (eM Γ a b hl (some s.pv) (af (t:Nat)) lQ) σ':=by
 have dU:∀{v:H} {σ':aa} {r:Mine.S},bB PP topN (d+1+5) p5 [.inst bZ Γ.X.i,.str s.name,.int (t:Int)] σ=.ok v σ'->ex (CC (d+6)) topN (.cons Gc r) (eM Γ a b hl (some s.pv) (af (t:Nat)) fd) σ=ex (CC (d+6)) topN r (eM Γ a b hl (some s.pv) (af (t:Nat)) (some v)) σ':=fun q=>am (bH (gf (vs:=[.inst bZ Γ.X.i,.str s.name,.int (t:Int)]) rfl q));have j2:∀{v:H} {τ:aa},fT Γ B τ->tst (CC (d+6)) (.cmp (.tup #v[(.sub (.v 10) (ae 0)),(.v 6)]) .isin (.v 8)) (eM Γ a b hl (some s.pv) (af (t:Nat)) (some v)) τ=.ok (aG (s.name,(t:Int)) B.gs).isSome τ:=fun{v τ} S=>b4 (x:=cA (s.name,(t:Int))) (y:=.ref Γ.gl) (ac:=τ) (ar:=τ) rfl rfl (vo S)
 cases hg:aG (s.name,(t:Int)) B.gs with
 | some v =>
  refine⟨none,none,a1 "Fired",hs,σ,fun g=>(congrArg (iG g) (a₂:=.cont (eM Γ a b hl (some s.pv) (af (t:Nat)) (a1 "Fired")) σ) (dc (dU (LU aC S lX a3 (by rw[hg];rfl))) ?_)).trans rfl,S,D,Nat.le_succ _,nd⟩;have e:ex (CC (d+6)) topN uH (eM Γ a b hl (some s.pv) (af (t:Nat)) (a1 "Fired")) σ=.cont (eM Γ a b hl (some s.pv) (af (t:Nat)) (a1 "Fired")) σ:=(cz ((j2 S).trans (by rw[hg];rfl))).trans rfl;show mi _ (ex (CC (d+6)) topN uH _ σ)=_;rw[e];rfl
 | none =>
  cases hm:eH B.es s (t:Int)with
  | none =>
   have:=done t (d3 t) (ew.mpr a3) s lX
   have A4:B.rdy s (t:Int)=true:=by
    show(_&&_)=true;rw[hg,hm];rfl
   exact nomatch A4.symm.trans this
  | some x =>
   have o:jd Γ.p Γ.n B ⟨s,(t:Int),x⟩:=⟨lX,d3 t,ew.mpr a3,hg,hm⟩;obtain⟨rest,E,w,W⟩:=LV (d:=d+1) aC S o;have mI:=S.more (τ:=[.lst (((⟨s,(t:Int),x⟩:aJ)::rest).map aJ.pv),.dp (dq (⟨s,(t:Int),x⟩::rest))]);have nP:=D.more (τ:=[.lst (((⟨s,(t:Int),x⟩:aJ)::rest).map aJ.pv),.dp (dq (⟨s,(t:Int),x⟩::rest))]);have fl:((⟨s,(t:Int),x⟩:aJ)::rest).length<=120:=aH (vz W.ok W.nd) (Nat.mul_le_mul aC.hp.most aC.hn);have g2:(σ++[.lst (((⟨s,(t:Int),x⟩:aJ)::rest).map aJ.pv),.dp (dq (⟨s,(t:Int),x⟩::rest))])[σ.length]?=some (.lst (((⟨s,(t:Int),x⟩:aJ)::rest).map aJ.pv)):=h7;have lt:∀{j:Nat} {y:aW},σ[j]?=some y->j<σ.length:=fun e=>(dX e).1;have aA:iK Γ.X σ.length:=.gt S.bo.lt (lt S.bo.od);have n1:=c7 (lt S.tk);have n2:=c7 (lt S.gl);have Jn:=c7 (lt D.hd)
   have n4:σ.length∉hs.map (·.1):=fun q=>by
    obtain⟨h,hm,e⟩:=ci.mp q;exact absurd (lt (D.held h hm).1) (e▸Nat.lt_irrefl _)
   have sL:=U0 (d:=d+2) (r:=σ.length) aC mI g2 W;have A8:=UC (d:=d+5) (r:=σ.length) aC.hp W g2 (aH fl (by decide)) done;generalize σ++[.lst (((⟨s,(t:Int),x⟩:aJ)::rest).map aJ.pv),.dp (dq (⟨s,(t:Int),x⟩::rest))]=ce at w mI nP g2 sL A8;generalize σ.length=r at w g2 aA n1 n2 Jn n4 sL A8;have c8:∀{q:Mine.S},ex (CC (d+6)) topN (.cons uH (.cons yK q)) (eM Γ a b hl (some s.pv) (af (t:Nat)) (some (.tup [.ref r,E]))) ce=ex (CC (d+6)) topN q (eM Γ a b hl (some s.pv) (af (t:Nat)) (some (.tup [.ref r,E]))) ce:=(am (bC ((j2 mI).trans (by rw[hg];rfl)))).trans (am (a:=yK) (bC (ik (im (ht (q:=true) (jx (gf (vs:=[bv Γ.p,.ref Γ.tk,.ref Γ.gl,.tup [.ref r,E],.str s.name,.int (t:Int)]) rfl sL))) (i9 (ht (q:=true) (jx (gf (vs:=[bv Γ.p,.tup [.ref r,E]]) rfl A8))))))));have kg:=am (C:=CC (d+6)) (n:=topN) (a:=Gd) (r:=.cons yL .nil) (ρ:=eM Γ a b hl (some s.pv) (af (t:Nat)) (some (.tup [.ref r,E]))) (σ:=ce) (fJ (hJ (x:=.ref hl) (ac:=ce) rfl (vI nP.hd) (y:=fX (r,(⟨s,(t:Int),x⟩:aJ)::rest)) (xt (a:=.ref r) rfl (cZ (x:=.ref r) (ac:=ce) rfl (RV g2 (by rw[be];exact aH fl (by decide))))) (rg nP.hd (by rw[be];exact gX aN (by decide)))));have tm:fT Γ B (ce.set hl (.lst (hs.map fX++[fX (r,(⟨s,(t:Int),x⟩:aJ)::rest)]))):=⟨mI.bo.other nP.ap,dw nP.tk mI.tk,dw nP.gl mI.gl,mI.ok,mI.gk⟩;have wK:=nP.snoc g2 aA n1 n2 Jn;have g3:=(wK.held _ (d7 _ bi)).1;generalize ce.set hl (.lst (hs.map fX++[fX (r,(⟨s,(t:Int),x⟩:aJ)::rest)]))=lA at kg tm wK g3;obtain⟨Uv,cR,qN,Ll⟩:=K0 (d:=d+2) aC.hp aC.hpl tm.ok tm.bo (aH (Nat.mul_le_mul aC.hp.most aC.hn) (by decide)) o;obtain⟨rfl,rfl⟩:=iz.det aC.hp rest [] _ Uv E cR W Ll;obtain⟨z,a7⟩:∃z,((⟨s,(t:Int),x⟩:aJ)::rest).getLast?=some z:=⟨_,List.getLast?_eq_some_getLast (List.cons_ne_nil _ _)⟩;refine ay ((W.fin z a7).toD W.ne) fun X1 OR m0=>?_;refine⟨none,none,some (.tup [.ref r,E]),hs++[(r,(⟨s,(t:Int),x⟩:aJ)::rest)],_,fun g=>(congrArg (iG g) ((dU w).trans (c8.trans (kg.trans ((am (a:=yL) (bC (b4 (gf (vs:=[.inst bZ Γ.X.i,.str s.name,.int (t:Int)]) rfl qN) (y:=.tup [.ref r,E]) rfl (S4 h7 (iD g3) (OR _) m0)))).trans bX))))).trans rfl,tm.more,wK.more,by rw[cW];exact dA _,?_⟩;refine⟨?_,fun h hm=>(dt.mp hm).elim (nd.le h) fun z=>by rw[de.mp z];exact aH fl (by decide)⟩;rw[eu];exact gC.mpr ⟨nd.nd,List.pairwise_singleton _ _,fun a ha b hb e=>n4 (show r∈hs.map (·.1)from(show b=r from de.mp hb)▸e▸ha)⟩
end
section
variable {Γ:fG}{B:bl}{va vb:Option H}
theorem Us{s:aq}(aC:jF Γ)(done:∀u:Int,0<=u->u<Γ.n->∀s∈Γ.p,B.rdy s u=false)(lX:s∈Γ.p):∀(k a:Nat) (hs:List (Nat×List aJ)) (σ:aa) (ez fd:Option H),a+k=Γ.n->hs.length+k<=900->fT Γ B σ->iL Γ hl hs σ->qZ hs ->
  th Γ B hl (hs.length+k) fun c9 nG lQ σ'=>cj none (dM 6) (fun ρ σ=>ex (CC (d+6)) topN yJ ρ σ) ((List.range' a k).map fun(i:Nat)=>H.int (0+(i:Int)*1)) (eM Γ va vb hl (some s.pv) ez fd) σ=.next (eM Γ va vb hl (some s.pv) nG lQ) σ':=by
 intro k
 induction k with
 | zero=>intro a hs σ ez fd _ _ S D nd;exact⟨none,ez,fd,hs,σ,eP,S,D,dA _,nd⟩
 | succ k aj =>
  intro a hs σ ez fd ha aN S D nd
  have mQ:hs.length+(k+1)=hs.length+1+k:=by rw[Nat.add_assoc,Nat.add_comm 1]
  rw[mQ]at aN;obtain⟨_,_,y7,zX,bN,V,wT,wJ,gN,AG⟩:=Ur (d:=d) (a:=va) (b:=vb) (fd:=fd) aC S D nd (aH (gc _ _) (aH (gc _ k) aN)) done lX (t:=a) (ha▸Nat.lt_add_of_pos_right (Nat.succ_pos k));obtain⟨c9,nG,lQ,eU,σ',aE,wS,wI,i1,sr⟩:=aj (a+1) zX bN (af (a:Nat)) y7 (by rw[<- ha,Nat.add_right_comm];rfl) (aH (Nat.add_le_add_right gN k) aN) wT wJ AG;refine⟨c9,nG,lQ,eU,σ',?_,wS,wI,mQ▸aH i1 (Nat.add_le_add_right gN k),sr⟩;rw[List.range'_succ,dD,Ba];exact(Ob (bU:=eM Γ va vb hl (some s.pv) (af (a:Nat)) fd) rfl V).trans aE
theorem Ut(aC:jF Γ)(done:∀u:Int,0<=u->u<Γ.n->∀s∈Γ.p,B.rdy s u=false):∀(q:List aq) (hs:List (Nat×List aJ)) (σ:aa) (st ez fd:Option H),(∀s∈q,s∈Γ.p)->hs.length+6*q.length<=900->fT Γ B σ->iL Γ hl hs σ->qZ hs ->
  th Γ B hl (hs.length+6*q.length) fun c9 nG lQ σ'=>cj none (dM 10) (fun ρ σ=>ex (CC (d+6)) topN Ga ρ σ) (q.map aq.pv) (eM Γ va vb hl st ez fd) σ=.next (eM Γ va vb hl c9 nG lQ) σ':=by
 intro q
 induction q with
 | nil=>intro hs σ st ez fd _ _ S D nd;exact⟨st,ez,fd,hs,σ,eP,S,D,dA _,nd⟩
 | cons s q aj =>
  intro hs σ st ez fd hq aN S D nd
  have mQ:hs.length+6*(s::q).length=hs.length+6+6*q.length:=by rw[dy,Nat.mul_succ,Nat.add_assoc,Nat.add_comm 6]
  rw[mQ]at aN;have sq:hs.length+Γ.n<=hs.length+6:=Nat.add_le_add_left aC.hn _;obtain⟨_,V9,y7,zX,bN,V,wT,wJ,gN,AG⟩:=Us (d:=d) (va:=va) (vb:=vb) aC done (hq s bi) Γ.n 0 hs σ ez fd (gD _) (aH sq (aH (gc _ _) aN)) S D nd;have IW:=aH gN sq;obtain⟨c9,nG,lQ,eU,σ',aE,wS,wI,i1,sr⟩:=aj zX bN (some s.pv) V9 y7 (fun a ha=>hq a (bM _ ha)) (aH (Nat.add_le_add_right IW _) aN) wT wJ AG;refine⟨c9,nG,lQ,eU,σ',?_,wS,wI,mQ▸aH i1 (Nat.add_le_add_right IW _),sr⟩;rw[<- kQ]at V;exact(eh (bU:=eM Γ va vb hl (some s.pv) ez fd) rfl ((am (a:=Gb) (eO (sH rfl (aH aC.hn (by decide))) V)).trans bX)).trans aE
theorem zH{it:Mine.X}{w:Option (Nat×aW)}{hs:List (Nat×List aJ)}(bF:evIt (CC d) it ρ σ=.ok (hs.map fX,w) σ)(hw:hY w σ)(aN:∀h∈hs,σ[h.1]?=some (.lst (h.2.map aJ.pv)))(hr:∀x,ev (CC d) (.v 1) ((c4 [none,none] ρ).set 1 (some x)) σ=.ok x σ) :
  ev (CC d) (.b1 .len (.comp true 1 [none,none] (.v 1) (.cmp (.sub (.v 1) (ae 0)) .ne (.sub (.v 1) (ae 1))) it)) ρ σ=.ok (.int 0) σ:=by
 refine cZ (x:=.fl []) (ac:=σ) ?_ rfl;rw[kZ,show(CC d).hd=false from rfl,bF];show ib (hs.map fX).length (dW w (fun x σ=>((tst (CC d) (.cmp (.sub (.v 1) (ae 0)) .ne (.sub (.v 1) (ae 1))) ((c4 [none,none] ρ).set 1 (some x)) σ).bind fun b σ=>if b=true then(ev (CC d) (.v 1) ((c4 [none,none] ρ).set 1 (some x)) σ).bind fun v σ=>.ok (some v) σ else .ok none σ)) (hs.map fX) σ) _=_
 rw[MO (w:=w) (σ:=σ) hw (hs.map fX) fun x hx=>by
  obtain⟨h,hm,rfl⟩:=ci.mp hx;show(tst (CC d) (.cmp (.sub (.v 1) (ae 0)) .ne (.sub (.v 1) (ae 1))) ((c4 [none,none] ρ).set 1 (some (fX h))) σ).bind _=_
  rw[b4 (cG (hr _) (y:=.int 0) (ar:=σ) rfl (v:=.ok (.ref h.1) σ) rfl) (cG (hr _) (y:=.int 1) (ar:=σ) rfl (v:=.ok (.fl (h.2.map aJ.pv)) σ) rfl) (S6 (aN h hm))];rfl]
 rfl
theorem Ng{hs:List (Nat×List aJ)}{st ez fd:Option H}(D:iL Γ hl hs σ)(nd:qZ hs)(aN:hs.length<=900):∃ρ' σ',ex (CC d) topN #v[yM,uF,uG] (eM Γ va vb hl st ez fd) σ=.ret (.bool true) ρ' σ':=by
 have a0:(hs.map fX).length<=1000:=by rw[be];exact aH aN (by decide)
 have pQ:=fun{r:Mine.S}=>am (C:=CC d) (n:=topN) (a:=yM) (r:=r) (ρ:=eM Γ va vb hl st ez fd) (σ:=σ) (bC (b4 (zH (w:=some (hl,.lst (hs.map fX))) (Rd (r:=hl) rfl rfl D.hd) D.hd (fun h hm=>(D.held h hm).1) fun J=>rfl) (y:=.int 0) (ar:=σ) rfl gt_int))
 cases hs with
 | nil =>
  have rq:ex (CC d) topN uF (eM Γ va vb hl st ez fd) σ=.next (eM Γ va vb hl st ez fd) σ:=by
   have cu:=Be (k:=0) D.hd a0 (Nat.zero_le _);refine eO (ys:=[]) (ac:=σ) ?_ eP;rw[p9,lK (x:=.ref hl) (y:=.none) (z:=.int 1) (ac:=σ) (ar:=σ) (e8:=σ) (v:=.ok (.fl []) σ) rfl rfl rfl (sN (a:=none) (b:=some 1) rfl rfl ?_)]
   ·rfl
   ·show(b2 σ (.ref hl)).bind (fun xs=>if xs.length<=aI then some (H.fl (dR xs none (some (1:Int))))else none)=_;rw[show b2 σ (.ref hl)=some [] by unfold b2;dsimp only;rw[D.hd];rfl];rfl
  have it:evIt (CC d) (.slice (.v 9) (ae 1) (.k .none)) (eM Γ va vb hl st ez fd) σ=.ok (([]:List (Nat×List aJ)).map fX,none) σ:=by
   rw[p9,lK (x:=.ref hl) (y:=.int 1) (z:=.none) (ac:=σ) (ar:=σ) (e8:=σ) (v:=.ok (.fl []) σ) rfl rfl rfl (sN (a:=some 1) (b:=none) rfl rfl ?_)]
   ·rfl
   ·show(b2 σ (.ref hl)).bind (fun xs=>if xs.length<=aI then some (H.fl (dR xs (some (1:Int)) none))else none)=_;rw[show b2 σ (.ref hl)=some [] by unfold b2;dsimp only;rw[D.hd];rfl];rfl
  exact⟨_,_,pQ.trans ((am rq).trans (bf (a:=uG) (cH (eE (zH it trivial (fun h hm=>nomatch hm) fun J=>rfl) (y:=.int 0) (ar:=σ) rfl (q:=true) rfl))))⟩
 | cons h0 hs =>
  obtain⟨zf,_,_,_,fY⟩:=D.held h0 bi
  have rq:ex (CC d) topN uF (eM Γ va vb hl st ez fd) σ=.next ((eM Γ va vb hl st ez fd).set 12 (some (fX h0))) (σ.set h0.1 (.lst [])):=by
   refine eO (ys:=[fX h0]) (ac:=σ) ?_ ((eh (bU:=(eM Γ va vb hl st ez fd).set 12 (some (fX h0))) rfl ((am (a:=FZ) (fJ ?_)).trans bX)).trans eP)
   ·rw[p9,lK (x:=.ref hl) (y:=.none) (z:=.int ((1:Nat):Int)) (ac:=σ) (ar:=σ) (e8:=σ) rfl rfl rfl (Ka D.hd a0 (by rw[be];exact Nat.le_add_left 1 _))];rfl
   ·rw[Ds];show jS .clear (.ref h0.1) σ=_;unfold jS;dsimp only;rw[zf];dsimp only;exact aD (by rw[be];exact aH (nd.le h0 bi) (by decide))
  have it:evIt (CC d) (.slice (.v 9) (ae 1) (.k .none)) ((eM Γ va vb hl st ez fd).set 12 (some (fX h0))) (σ.set h0.1 (.lst []))=.ok (hs.map fX,none) (σ.set h0.1 (.lst [])):=by
   rw[p9,lK (x:=.ref hl) (y:=.int ((1:Nat):Int)) (z:=.none) (ac:=σ.set h0.1 (.lst [])) (ar:=σ.set h0.1 (.lst [])) (e8:=σ.set h0.1 (.lst [])) rfl rfl rfl (Be (dw fY D.hd) a0 (by rw[be];exact Nat.le_add_left 1 _))];rfl
  have nd:=gZ.mp nd.nd;exact⟨_,_,pQ.trans ((am rq).trans (bf (a:=uG) (cH (eE (zH it trivial (fun h hm=>dw (fun z=>nd.1 (ci.mpr ⟨h,hm,z.symm⟩)) (D.held h (bM _ hm)).1) fun J=>rfl) (y:=.int 0) (ar:=σ.set h0.1 (.lst [])) rfl (q:=true) rfl))))⟩
end
theorem NI{N:Nat}{is:List Nat}{it:X}{body:S}{w:Option (Nat×aW)}{o:bO}(aN:C.hd=false)(bF:evIt C it ρ σ=.ok (ys,w) ac)(h:cj w (gF is) (fun ρ σ=>ex C N body ρ σ) ys ρ ac=o):ex C N (.forT is it body) ρ σ=o:=by
 show(bif C.hd then bO.stuck else(evIt C it ρ σ).toS ρ fun(xs,w) σ=>cj w (gF is) (fun ρ σ=>ex C N body ρ σ) xs ρ σ)=_;rw[aN,bF];exact h
theorem Q9{f:Nat}{xs:X}:evIt C (.call f xs) ρ σ=(ev C (.call f xs) ρ σ).bind d4:=rfl
noncomputable def jJ(l:List Int)(p:List aq)(n:Option H)(b tk a t v:Option H):az:=some (.fl (l.map .int))::some (bv p)::n::b::tk::a::t::v::List.replicate 18 none
inductive Cf(p:List aq)(n:Nat)(X:dC)(tk:Nat)(m:Nat)(P:Option H->Option H->Option H->aa->Prop):Prop
 | mk (a t v:Option H) (es:cV) (σ:aa) (e:P a t v σ) (b:fF p n ⟨es,[],[]⟩ X σ) (a3:σ[tk]?=some (.dp es)) (ok:fw es) (l:es.length<=m):Cf p n X tk m P
section
variable {p:List aq}{X:dC}
theorem Ub(hp:cs p)(at_:iK X tk)(hr:iK X r)(UH:tk≠r):∀(q:List iw) (es:cV) (σ:aa) (a t v:Option H),iy p n q->(∀e∈q,aG (e.1,(e.2.1:Int)) es=none)->es.length+q.length<=1000->fF p n ⟨es,[],[]⟩ X σ->σ[tk]?=some (.dp es)->σ[r]?=some (.lst xs)->fw es ->
  Cf p n X tk (es.length+q.length) fun ed bx c6 σ'=>cj (some (r,.lst xs)) (gF [5,6,7]) (fun ρ σ=>ex (CC (d+4)) topN F3 ρ σ) (q.map cI) (jJ l p (af (n:Nat)) (bY X.i) (aR tk) a t v) σ=.next (jJ l p (af (n:Nat)) (bY X.i) (aR tk) ed bx c6) σ':=by
 intro q
 induction q with
 | nil=>intro es σ a t v _ _ _ b a3 hx hv;exact⟨a,t,v,es,σ,uP (w:=some (r,.lst xs)) hx,b,a3,hv,dA _⟩
 | cons e q aj =>
  intro es σ a t v ok ab hl b a3 hx hv;have he:=ok.ok e bi;have ha:=ab e bi;have dJ:es.length<800000:=gX (aH (gc _ _) hl) (by decide)
  have mQ:es.length+(e::q).length=(es++[((e.1,(e.2.1:Int)),H.int e.2.2)]).length+q.length:=by rw[cW,dy,Nat.add_assoc,Nat.add_comm q.length];rfl
  rw[mQ]at hl ⊢;have nd:=gZ.mp ok.nodup;have pk:bB PP topN (d+4) z6 [.inst bZ X.i,.str e.1,.int (e.2.1:Nat),.int e.2.2] σ=.ok .none (σ.set X.h (.dp (es++[((e.1,(e.2.1:Int)),.int e.2.2)]))):=Ud (d:=d) hp b he.plc (d3 _) (ew.mpr he.lt) he.free he.val ha (eD dJ (by decide))
  have t1:(σ.set X.h (.dp (es++[((e.1,(e.2.1:Int)),.int e.2.2)])))[tk]?=some (.dp es):=dw at_.h.symm a3
  obtain⟨ed,bx,c6,es',σ',V,b1,u9,z0,gN⟩:=aj (es++[((e.1,(e.2.1:Int)),.int e.2.2)]) ((σ.set X.h (.dp (es++[((e.1,(e.2.1:Int)),.int e.2.2)]))).set tk (.dp (es++[((e.1,(e.2.1:Int)),.int e.2.2)]))) (a1 e.1) (af (e.2.1:Nat)) (af e.2.2) ⟨nd.2,fun z a7=>ok.ok z (bM _ a7)⟩ (fun z a7=>(tt ha).trans ((aY fun k=>nd.1 (ci.mpr ⟨z,a7,Prod.ext (Prod.mk.inj k).1 (Int.ofNat_inj.mp (Prod.mk.inj k).2)⟩)).trans (ab z (bM _ a7)))) hl (b.here.other at_) (oD t1) (dw UH (dw hr.h.symm hx)) fun k u hu=>by
   rw[tt ha]at hu;by_cases z:k=(e.1,(e.2.1:Int))
   ·rw[aD z]at hu;obtain rfl:=oi hu;exact⟨e.2.2,rfl,he.val⟩
   ·rw[aY z]at hu;exact hv k u hu
  refine⟨ed,bx,c6,es',σ',?_,b1,u9,z0,gN⟩;refine(uO (w:=some (r,.lst xs)) hx (bU:=jJ l p (af (n:Nat)) (bY X.i) (aR tk) (a1 e.1) (af (e.2.1:Nat)) (af e.2.2)) rfl ((am (a:=F4) (fJ (fW (i:=X.i) (ac:=σ) (ar:=σ) (vs:=[.str e.1,.int (e.2.1:Nat),.int e.2.2]) rfl b.ns rfl rfl pk))).trans ((am (a:=F5) (Dw (v:=.int e.2.2) (r:=tk) (k:=e.1) (t:=(e.2.1:Nat)) rfl rfl rfl t1 ha dJ)).trans bX))).trans V
end
theorem runX(hl:l.length<=63):∃σ,bB PP topN 20 QA [.fl (l.map .int)] []=.ok (.bool true) σ:=by
 obtain⟨p,bN,hp,_,Mj⟩:=OH (d:=16) hl;have hpl:∀s∈p,iM s:=fun J J=>trivial;have fY:=eZ (l.getD 11 0) (show(6:Int)≠0 by decide);have n1:=fU (l.getD 11 0) (show(0:Int)<6 by decide);obtain⟨n,PX⟩:=kc (show 0<=1+l.getD 11 0%6 by grind)
 have hn1:1<=n:=by grind
 have hn:n<=6:=by grind
 obtain⟨cL,g,o,hr,gn,od,QB,rk,_,_,_,sl,g1,g2⟩:=QJ (d:=14) (σ:=bN) hp hn1 (aH hn (by decide));rw[cC (d:=19) (fn:=x7) rfl rfl]
 have bK:ex (CC 19) topN FX (some (.fl (l.map .int))::List.replicate 25 none) []=.next (jJ l p none none none none none none) bN:=bH (jl (x:=.fl (l.map .int)) (y:=.int 0) (ac:=[]) (ar:=[]) rfl rfl Mj)
 have V:ex (CC 19) topN FY (jJ l p none none none none none none) bN=.next (jJ l p (af (n:Nat)) none none none none none) bN:=by
  rw[<- PX];exact bH (cS (x:=.int 1) (ac:=bN) rfl (cS (jl (x:=.fl (l.map .int)) (y:=.int ((11:Nat):Int)) (ac:=bN) (ar:=bN) rfl rfl (uR (d:=18) hl)) (y:=.int 6) (ar:=bN) rfl (ih (by decide))) add_int)
 have ak:ex (CC 19) topN F0 (jJ l p (af (n:Nat)) none none none none none) bN=.next (jJ l p (af (n:Nat)) (bY bN.length) none none none none) (bN++cL):=by
  refine bH ?_;have QC:(CC 19).call z4 (.inst bZ bN.length::[bv p,.int n]) (bN++[.ns []])=.ok .none (bN++cL):=QB;rw[Du,show evs (CC 19) #v[(.v 1),(.v 2)] (jJ l p (af (n:Nat)) none none none none none) bN=.ok [bv p,.int (n:Nat)] bN from rfl,cn];unfold l7;rw[QC];rfl
 have bo:dB p n [] [] [] ⟨bN.length,g,o,hr,gn,od⟩ (bN++cL):=⟨rk.ns,rk.gv,rk.ot,rk.hr,g1,g2,⟨sl.1,sl.2.1,sl.2.2.1,sl.2.2.2.1,sl.2.2.2.2⟩⟩;generalize bN++cL=ce at ak bo;generalize O5:(⟨bN.length,g,o,hr,gn,od⟩:dC)=X at bo;rw[show bN.length=X.i by rw[<- O5]]at ak;have lt:∀{τ:aa} {j:Nat} {y:aW},τ[j]?=some y->j<τ.length:=fun e=>(dX e).1
 have bG:ex (CC 19) topN F1 (jJ l p (af (n:Nat)) (bY X.i) none none none none) ce=.next (jJ l p (af (n:Nat)) (bY X.i) (aR ce.length) none none none) (ce++[.dp []]):=rfl
 have kg:dB p n [] [] [] X (ce++[.dp []]):=bo.more;have kF:(ce++[aW.dp []])[ce.length]?=some (.dp []):=h7;have a8:iK X ce.length:=.gt bo.lt (lt bo.od);generalize ce++[aW.dp []]=lA at bG kg kF;generalize ce.length=tk at bG kF a8;obtain⟨mc,BZ,n8,TZ,JY⟩:=RA (d:=17) (σ:=lA) (l:=l) (at_:=12) hp hl hn1 hn;have qN:(lA++.lst (mc.map cI)::BZ)[lA.length]?=some (.lst (mc.map cI)):=h7;obtain⟨mL,kG,wl,es,Zj,kX,L4,VZ,Xb,Ru⟩:=Ub (d:=15) (l:=l) (xs:=mc.map cI) (r:=lA.length) hp a8 (.gt kg.lt (lt kg.od)) (h5 (lt kF)) mc [] (lA++.lst (mc.map cI)::BZ) none none none TZ (fun J J=>rfl) (by rw[List.length_nil,gD];exact aH (h6 JY) (by decide)) kg.more (iD kF) qN fun J J h=>nomatch h;have I:fb p n ⟨es,[],[]⟩:=⟨Xb,⟨List.nodup_nil,fun J hk=>absurd hk et,rfl⟩,aH Ru (aH (Nat.le_of_eq (gD _)) (aH (h6 JY) (show 800<=1000+3*0 by decide)))⟩;obtain⟨B,tr,tb,done⟩:=W6 hp hn n 0 ⟨es,[],[]⟩ (gD n) I fun u h0 L=>absurd L (Int.not_lt.mpr h0);obtain⟨c,wD,Mk,n7,Rn⟩:=UK (d:=13) hp hpl hn tr L4 I
 have V1:wD[tk]?=some (.dp es):=Rn.at_ tk _ a8.h a8.gn a8.od VZ
 obtain⟨wE,Ml,td,qc⟩:=RB (d:=16) hp hn tr V1 rfl I;have w9:fF p n B X wE:=⟨qc _ _ a8.i.symm n7.ns,qc _ _ a8.g.symm n7.gv,qc _ _ a8.o.symm n7.ot,qc _ _ a8.h.symm n7.hr,qc _ _ a8.gn.symm n7.go,qc _ _ a8.od.symm n7.od,n7.lt⟩;have Lk:fT ⟨p,n,X,tk,wD.length,l⟩ B wE:=⟨w9,td.tk,td.gl,tb.val,tb.gk⟩;have aC:jF ⟨p,n,X,tk,wD.length,l⟩:=⟨hp,hpl,hl,hn1,hn⟩;obtain⟨st,ez,fd,hs,Zk,ol,X3,K7,Rv,S3⟩:=Ut (Γ:=⟨p,n,X,tk,wD.length,l⟩) (d:=13) (va:=mL) (vb:=wl) (hl:=wE.length) aC done p [] (wE++[.lst []]) none kG none (fun J h=>h) (aH (Nat.add_le_add_left (Nat.mul_le_mul_left 6 hp.most) _) (by decide)) Lk.more ⟨h7,fun h hm=>(nomatch hm),.gt w9.lt (lt w9.od),c7 (lt td.tk),c7 (lt td.gl)⟩ ⟨List.nodup_nil,fun h hm=>nomatch hm⟩;obtain⟨ρ',σ',pQ⟩:=Ng (d:=19) (va:=mL) (vb:=wl) (st:=st) (ez:=ez) (fd:=fd) K7 S3 (aH Rv (aH (Nat.add_le_add_left (Nat.mul_le_mul_left 6 hp.most) _) (by decide)))
 have it:evIt (CC 19) (.call Aa #v[(.v 0),(ae 12),(.v 1),(.v 2)]) (jJ l p (af (n:Nat)) (bY X.i) (aR tk) none none none) lA=.ok (mc.map cI,some (lA.length,.lst (mc.map cI))) (lA++.lst (mc.map cI)::BZ):=by
  rw[Q9,gf (vs:=[.fl (l.map .int),.int ((12:Nat):Int),bv p,.int (n:Nat)]) rfl n8];show d4 (.ref lA.length) _=_;unfold d4 items nK;dsimp only;rw[qN]
 have body:ex (CC 19) topN x7.body (some (H.fl (l.map .int))::List.replicate 25 none) []=.ret (.bool true) ρ' σ':=(am bK).trans ((am V).trans ((am ak).trans ((am bG).trans ((am (a:=F2) (NI rfl it kX)).trans ((am (a:=F6) (NH (gf (vs:=[.inst bZ X.i]) rfl Mk))).trans ((am (a:=F7) (bH (gf (vs:=[bv p,.ref tk,.int (n:Nat)]) rfl Ml))).trans (dc (am (a:=F8) rfl) ((am (a:=F9) (eO rfl ol)).trans pQ))))))));exact⟨σ',(congrArg bg body).trans rfl⟩
end
section
open PySem.W
set_option tactic.hygienic true
theorem Uu{α β γ δ ε:Type}{o:Option α}{f:α->β}{a:α->γ}{b:α->δ}{c:α->ε}{ζ:Type}{e:α->ζ}{x:β}{y:γ×δ×ε}{z:ζ}(L:o.map f=some x)(O:o.map (fun s=>(a s,b s,c s))=some y)(aw:o.map e=some z):o.map (fun s=>(f s,a s,b s,c s,e s))=some (x,y.1,y.2.1,y.2.2,z):=by
 cases o with
 | none=>exact nomatch L
 | some s =>
  obtain rfl:=oi L;obtain rfl:=oi O;obtain rfl:=oi aw;rfl
theorem RI:∀w os,(si PySem.Challenge.pw_uf020019_08 w os topN).map (fun s=>(PySem.W.Fast.tw4187177175401517315 (viewOf PySem.Challenge.pw_uf020019_08) [] (importedModules PySem.Challenge.pw_uf020019_08.main.body) (fun s=>xlAt (viewOf PySem.Challenge.pw_uf020019_08) [] s&&recOk (RowW.records (OpenRow.toRowW PySem.Challenge.rw_uf020019_08.row)) s) true s,Hook.obs (topHook TT 40 30 PP.fns) s))=some (openGood (viewOf PySem.Challenge.pw_uf020019_08) [],Hook.val (topHook TT 40 30 PP.fns) w):=fun w os =>
 Uu (RD w os) (RE w os) ((N6 (RF w os) (RG w os)).trans (congrArg (fun l=>some (some l)) (List.take_append_drop 27 PP.fns)))
theorem leftX:LeftO PySem.Challenge.pw_uf020019_08 (viewOf PySem.Challenge.pw_uf020019_08) [] (fun s=>xlAt (viewOf PySem.Challenge.pw_uf020019_08) [] s&&recOk (RowW.records (OpenRow.toRowW PySem.Challenge.rw_uf020019_08.row)) s) (Hook.obs (topHook TT 40 30 PP.fns)) (Hook.val (topHook TT 40 30 PP.fns)) topN:=
 RJ (by kernel_rfl) (by rfl) (fun s=>by kernel_rfl) RI
end
end Mine
set_option maxRecDepth 100000
set_option tactic.hygienic true
open PySem PySem.W PyProof.Rows
set_option maxRecDepth 100000 in
set_option maxHeartbeats 8000000 in
theorem PySem.Challenge.cw_uf020019_08_holds : PySem.Challenge.rw_uf020019_08.Holds := by
 w_on
 refine holds_law Mine.saidX fun said=>?_
 refine holds_open (q:=Mine.viewOf PySem.Challenge.pw_uf020019_08) (loose:=[]) (Xt:=fun s=>xlAt (Mine.viewOf PySem.Challenge.pw_uf020019_08) [] s&&recOk (RowW.records (OpenRow.toRowW PySem.Challenge.rw_uf020019_08.row)) s)
  (XP:=XL (Mine.viewOf PySem.Challenge.pw_uf020019_08) []) (Yf:=Hook.obs (Mine.topHook Mine.TT 40 30 Mine.PP.fns)) (Ya:=Hook.val (Mine.topHook Mine.TT 40 30 Mine.PP.fns)) (YP:=Hook.says (Mine.topHook Mine.TT 40 30 Mine.PP.fns)) (N:=Mine.topN)
  Mine.leftX (Hook.of (Mine.topHook Mine.TT 40 30 Mine.PP.fns)) (Hook.keeps (Mine.topHook Mine.TT 40 30 Mine.PP.fns)) (fun s e=>xl_of s (Bool.and_eq_true_iff.mp e).1) XL.keeps (by rfl) (by rfl) (by rfl) (fun s e=>recFacts_of (Bool.and_eq_true_iff.mp e).2)
  (by rfl) (by first | assumption | decide +kernel) (by decide +kernel) ⟨rfl,rfl,rfl,rfl,rfl,by decide +kernel⟩ ?hw ?hc
 (case hw=>w_witness2)
 intro w s₀ s₁ mg mb G Y fa o pm cd doc dV kV ho hd hcd hD hmg hg args vals as hpre hlay hrd hwl hlo
 obtain⟨K,h₀,KX,k₀,k0,k1,k2,k3⟩:=Mine.Says.ex Y
 refine Ground.open G ?_
 intro T B D TE TW
 clear hd hcd hD ho TE TW D B Y
 have hmg':mg (PySem.Str.ofString "law")=some (.ref fa):=hmg
 clear hmg
 wrow_args hpre hlay hrd hwl hlo
 rename_i xs q1 q2 q3 q4 q5 q6 q7 a q8 q9 q10 q11 W q12 q13 q14 hc q15
 obtain⟨σ,hrun⟩:=Mine.runX (l:=xs) (by omega)
 have p:Mine.PrgOk ⟨⟨s₁.heap,[],PySem.Challenge.rw_uf020019_08.row.prog,w⟩,mg,mb,false⟩ Mine.TT Mine.PP:=
  Mine.prgOk (n1:=40) (n2:=30) (topRead_of T) KX k₀ k0 k1 k2 k3
 refine Mine.law_end p (f:=39) rfl hmg' (by decide) W hrun fun s' hk ho hg'=>?_
 refine GoodW.toG ⟨.inl ⟨_,_,[],rfl,fun cls=>rfl,.bool true,?_,fun _=>⟨List.nodup_nil,fun a h=>by simp at h⟩⟩,hk,ho,hg'.trans hg⟩
 first | rfl | wrow_post
