import PyProof.Rows.All
import Wide.All
import OpenK.AllK
import PySem.Challenge.RW_uf020019_09
set_option autoImplicit false
set_option backward.match.sparseCases false
set_option linter.all false
set_option Elab.async false
set_option genInjectivity false
set_option genSizeOf false
set_option bootstrap.genMatcherCode false
set_option tactic.hygienic false
local macro_rules
 | `(#v[])=>`(.nil)
 | `(#v[$x])=>`(.cons $x .nil)
 | `(#v[$x,$xs,*])=>`(.cons $x #v[$xs,*])
namespace Mine
open PySem
variable {n i c d r tk n2 j n1 gn hl:Nat}{x g:Str}{y u:Value}{bF bX P dC fc h2:Prop}{o:Obj}{fr own:List Addr}{h' h h₀:Heap}{b a D I z TI bT bM ct aG:Addr}{ba q d5 en:Bool}{ks:List (Option Expr)}{t cl:Int}{cap:List (Option Nat)}{elt e value aJ target:Expr}{args ifs ts:List Expr}{lo:Option Int}{s s₁ s' s₀:Shared}{A:Around}{pos h3 f3 pp nF:Pos}{vs us:List Value}{E Q:Value->Shared->Prop}{l:List Int}{G ck bk cG:List Str}{env:Env}{scope:Scope}{cells:List (Str×Addr)}{N:List (Str×NameKind)}{gF:CmpOp}{eN:List Nat}{body dB:List Stmt}{ji:Str->Option NameKind}{life:Life}
def bu:=@List.mem_cons_self
def aN:=@wpAny_bind
def bh:=@List.length_map
def aE:=@if_pos
def c8:=@Heap.get?_push_of_some
def dA:=@List.getElem?_eq_getElem
def cN:=@List.length_append
def df:=@List.mem_singleton
def cE:=@List.mem_cons
def bO:=@wpAny_pure
def a5:=@if_neg
def dj:=@List.length_cons
def cL:=@List.mem_map
def eI:=@List.mem_of_getElem?
def d8:=@Int.natCast_nonneg
def dH:=@List.mem_append
def eJ:=@Heap.get?_push_size
def e6:=@List.mem_append_right
def cB:=@wpAny_mono
def dI:=@decide_eq_true
def dc:=@Nat.ne_of_gt
def dw:=@List.map_cons
def ew:=@List.not_mem_nil
def eQ:=@List.append_assoc
def e7:=@Int.emod_lt_of_pos
def ii:=@List.eq_nil_of_length_eq_zero
def ey:=@Int.emod_nonneg
def hP:=@List.getElem?_append_right
def eW:=@Bool.and_eq_true
def fg:=@List.getElem?_map
def dz:=@Nat.le_refl
def eX:=@List.map_append
def fh:=@Nat.le_add_right
def fY:=@Nat.lt_of_le_of_lt
def d3:=@Int.ofNat_lt
def fH:=@List.size_toArray
def cS:=@Eq.trans
def iN:=@List.getElem?_append_left
def hj:=@List.mem_append_left
def fZ:=@List.all_eq_true
def iO:=@Int.eq_ofNat_of_zero_le
def eR:=@Nat.lt_trans
def f0:=@decide_eq_false
def ht:=@of_decide_eq_true
def fi:=@Heap.lt_size
def hQ:=@List.nodup_append
def hz:=@List.isEmpty_iff
def li:=@List.getD_eq_getElem?_getD
def hS:=@List.nodup_cons
def fy:=@beq_iff_eq
def j0:=@List.range_eq_range'
def i5:=@decide_eq_true_eq
def i6:=@List.flatMap_cons
def jx:=@Nat.lt_of_lt_of_le
def gL:=@List.map_map
def iP:=@List.append_nil
def hT:=@wpAny_holding
def jy:=@Int.toNat_natCast
def i7:=@List.foldl_cons
def gM:=@wpAny_field
def gN:=@Nat.zero_le
def kB:=@Nat.add_le_add_left
def kC:=@wpAny_Call_Name_kw
def jz:=@List.find?_cons
def ij:=@Nat.zero_add
def ik:=@Nat.ne_of_lt
def j1:=@List.range'_succ
def lj:=@beq_eq_false_iff_ne
def n7:=@Option.isNone_iff_eq_none
def l0:=@Nat.mul_le_mul_left
def mY:=@List.contains_iff_mem
theorem oi{α:Type _}{a b:α}(h:some a=some b):a=b:=Option.some.inj h
theorem aK{m k:Nat}(h:n<=m)(O:m<=k):n<=k:=Nat.le_trans h O
theorem bQ{α:Type _}{a:α}(y:α){l:List α}(h:a∈l):a∈y::l:=List.mem_cons_of_mem y h
theorem dk{x y:Bool}(h:(x&&y)=true):x=true/\y=true:=Bool.and_eq_true_iff.mp h
theorem dS{α:Type _}{l:List α}{a:α}(h:l[i]?=some a):∃h:i<l.length,l[i]=a:=List.getElem?_eq_some_iff.mp h
universe h8 jp kp ri XD XE XF ZK
theorem aW(h:bF/\bX)(k:bF->bX->P):P:=by
 obtain⟨L,O⟩:=h;exact k L O
theorem d4(h:bF/\bX/\dC)(k:bF->bX->dC->P):P:=by
 obtain⟨L,O,ax⟩:=h;exact k L O ax
theorem x2(h:bF/\bX/\dC/\fc/\h2)(k:bF->bX->dC->fc->h2->P):P:=by
 obtain⟨L,O,ax,aT,c2⟩:=h;exact k L O ax aT c2
theorem uq{nv:Prop}(h:bF/\bX/\dC/\fc/\h2/\nv)(k:bF->bX->dC->fc->h2->nv->P):P:=by
 obtain⟨L,O,ax,aT,c2,gA⟩:=h;exact k L O ax aT c2 gA
theorem NM{nv:Prop}{te:Prop}{tf:Prop}(h:bF/\bX/\dC/\fc/\h2/\nv/\te/\tf)(k:bF->bX->dC->fc->h2->nv->te->tf->P):P:=by
 obtain⟨L,O,ax,aT,c2,gA,sh,si⟩:=h;exact k L O ax aT c2 gA sh si
theorem aM{bY:Sort h8}{bF:bY->Prop}(h:∃aD,bF aD)(k:∀aD,bF aD->P):P:=by
 obtain⟨aD,L⟩:=h;exact k aD L
theorem az{bY:Sort h8}{bF:bY->Prop}{bX:bY->Prop}(h:∃aD,bF aD/\bX aD)(k:∀aD,bF aD->bX aD->P):P:=by
 obtain⟨aD,L,O⟩:=h;exact k aD L O
theorem bL{bY:Sort h8}{bF:bY->Prop}{bX:bY->Prop}{dC:bY->Prop}(h:∃aD,bF aD/\bX aD/\dC aD)(k:∀aD,bF aD->bX aD->dC aD->P):P:=by
 obtain⟨aD,L,O,ax⟩:=h;exact k aD L O ax
theorem op{bY:Sort h8}{bF:bY->Prop}{bX:bY->Prop}{dC:bY->Prop}{fc:bY->Prop}(h:∃aD,bF aD/\bX aD/\dC aD/\fc aD)(k:∀aD,bF aD->bX aD->dC aD->fc aD->P):P:=by
 obtain⟨aD,L,O,ax,aT⟩:=h;exact k aD L O ax aT
theorem NN{bY:Sort h8}{bF:bY->Prop}{bX:bY->Prop}{dC:bY->Prop}{fc:bY->Prop}{h2:bY->Prop}(h:∃aD,bF aD/\bX aD/\dC aD/\fc aD/\h2 aD)(k:∀aD,bF aD->bX aD->dC aD->fc aD->h2 aD->P):P:=by
 obtain⟨aD,L,O,ax,aT,c2⟩:=h;exact k aD L O ax aT c2
theorem jb{bY:Sort h8}{cW:Sort jp}{bF:bY->cW->Prop}(h:∃aD,∃aU,bF aD aU)(k:∀aD,∀aU,bF aD aU->P):P:=by
 obtain⟨aD,aU,L⟩:=h;exact k aD aU L
theorem c1{bY:Sort h8}{cW:Sort jp}{bF:bY->cW->Prop}{bX:bY->cW->Prop}(h:∃aD,∃aU,bF aD aU/\bX aD aU)(k:∀aD,∀aU,bF aD aU->bX aD aU->P):P:=by
 obtain⟨aD,aU,L,O⟩:=h;exact k aD aU L O
theorem l7{bY:Sort h8}{cW:Sort jp}{bF:bY->cW->Prop}{bX:bY->cW->Prop}{dC:bY->cW->Prop}(h:∃aD,∃aU,bF aD aU/\bX aD aU/\dC aD aU)(k:∀aD,∀aU,bF aD aU->bX aD aU->dC aD aU->P):P:=by
 obtain⟨aD,aU,L,O,ax⟩:=h;exact k aD aU L O ax
theorem NO{bY:Sort h8}{cW:Sort jp}{bF:bY->cW->Prop}{bX:bY->cW->Prop}{dC:bY->cW->Prop}{fc:bY->cW->Prop}(h:∃aD,∃aU,bF aD aU/\bX aD aU/\dC aD aU/\fc aD aU)(k:∀aD,∀aU,bF aD aU->bX aD aU->dC aD aU->fc aD aU->P):P:=by
 obtain⟨aD,aU,L,O,ax,aT⟩:=h;exact k aD aU L O ax aT
theorem rV{bY:Sort h8}{cW:Sort jp}{d7:Sort kp}{bF:bY->cW->d7->Prop}(h:∃aD,∃aU,∃bn,bF aD aU bn)(k:∀aD,∀aU,∀bn,bF aD aU bn->P):P:=by
 obtain⟨aD,aU,bn,L⟩:=h;exact k aD aU bn L
theorem j8{bY:Sort h8}{cW:Sort jp}{d7:Sort kp}{bF:bY->cW->d7->Prop}{bX:bY->cW->d7->Prop}(h:∃aD,∃aU,∃bn,bF aD aU bn/\bX aD aU bn)(k:∀aD,∀aU,∀bn,bF aD aU bn->bX aD aU bn->P):P:=by
 obtain⟨aD,aU,bn,L,O⟩:=h;exact k aD aU bn L O
theorem l8{bY:Sort h8}{cW:Sort jp}{d7:Sort kp}{bF:bY->cW->d7->Prop}{bX:bY->cW->d7->Prop}{dC:bY->cW->d7->Prop}(h:∃aD,∃aU,∃bn,bF aD aU bn/\bX aD aU bn/\dC aD aU bn)(k:∀aD,∀aU,∀bn,bF aD aU bn->bX aD aU bn->dC aD aU bn->P):P:=by
 obtain⟨aD,aU,bn,L,O,ax⟩:=h;exact k aD aU bn L O ax
theorem ur{bY:Sort h8}{cW:Sort jp}{d7:Sort kp}{bF:bY->cW->d7->Prop}{bX:bY->cW->d7->Prop}{dC:bY->cW->d7->Prop}{fc:bY->cW->d7->Prop}(h:∃aD,∃aU,∃bn,bF aD aU bn/\bX aD aU bn/\dC aD aU bn/\fc aD aU bn)(k:∀aD,∀aU,∀bn,bF aD aU bn->bX aD aU bn->dC aD aU bn->fc aD aU bn->P):P:=by
 obtain⟨aD,aU,bn,L,O,ax,aT⟩:=h;exact k aD aU bn L O ax aT
theorem rW{bY:Sort h8}{cW:Sort jp}{d7:Sort kp}{bF:bY->cW->d7->Prop}{bX:bY->cW->d7->Prop}{dC:bY->cW->d7->Prop}{fc:bY->cW->d7->Prop}{h2:bY->cW->d7->Prop}(h:∃aD,∃aU,∃bn,bF aD aU bn/\bX aD aU bn/\dC aD aU bn/\fc aD aU bn/\h2 aD aU bn)(k:∀aD,∀aU,∀bn,bF aD aU bn->bX aD aU bn->dC aD aU bn->fc aD aU bn->h2 aD aU bn->P):P:=by
 obtain⟨aD,aU,bn,L,O,ax,aT,c2⟩:=h;exact k aD aU bn L O ax aT c2
theorem x3{bY:Sort h8}{cW:Sort jp}{d7:Sort kp}{jN:Sort ri}{bF:bY->cW->d7->jN->Prop}{bX:bY->cW->d7->jN->Prop}(h:∃aD,∃aU,∃bn,∃dX,bF aD aU bn dX/\bX aD aU bn dX)(k:∀aD,∀aU,∀bn,∀dX,bF aD aU bn dX->bX aD aU bn dX->P):P:=by
 obtain⟨aD,aU,bn,dX,L,O⟩:=h;exact k aD aU bn dX L O
theorem NP{bY:Sort h8}{cW:Sort jp}{d7:Sort kp}{jN:Sort ri}{bF:bY->cW->d7->jN->Prop}{bX:bY->cW->d7->jN->Prop}{dC:bY->cW->d7->jN->Prop}{fc:bY->cW->d7->jN->Prop}{h2:bY->cW->d7->jN->Prop}{nv:bY->cW->d7->jN->Prop}{te:bY->cW->d7->jN->Prop}{tf:bY->cW->d7->jN->Prop}(h:∃aD,∃aU,∃bn,∃dX,bF aD aU bn dX/\bX aD aU bn dX/\dC aD aU bn dX/\fc aD aU bn dX/\h2 aD aU bn dX/\nv aD aU bn dX/\te aD aU bn dX/\tf aD aU bn dX)(k:∀aD,∀aU,∀bn,∀dX,bF aD aU bn dX->bX aD aU bn dX->dC aD aU bn dX->fc aD aU bn dX->h2 aD aU bn dX->nv aD aU bn dX->te aD aU bn dX->tf aD aU bn dX->P):P:=by
 obtain⟨aD,aU,bn,dX,L,O,ax,aT,c2,gA,sh,si⟩:=h;exact k aD aU bn dX L O ax aT c2 gA sh si
theorem DG{bY:Sort h8}{cW:Sort jp}{d7:Sort kp}{jN:Sort ri}{Yr:Sort XD}{Ys:Sort XE}{Yt:Sort XF}{bF:bY->cW->d7->jN->Yr->Ys->Yt->Prop}(h:∃aD,∃aU,∃bn,∃dX,∃rC,∃rD,∃rE,bF aD aU bn dX rC rD rE)(k:∀aD,∀aU,∀bn,∀dX,∀rC,∀rD,∀rE,bF aD aU bn dX rC rD rE->P):P:=by
 obtain⟨aD,aU,bn,dX,rC,rD,rE,L⟩:=h;exact k aD aU bn dX rC rD rE L
section
open Classical
inductive H where
 | none | bool (b:Bool) | int (i:Int) | str (s:Str)
 | tup (xs:List H) | fl (xs:List H) | ref (i:Nat)
 | exc (c:Nat)
 | inst (c i:Nat)
inductive aV where
 | lst (xs:List H)
 | ds (es:List (Str×H))
 | dp (es:List ((Str×Int)×H))
 | ns (fs:List (Str×H))
 | tp
 | no
noncomputable abbrev af:=List aV
noncomputable abbrev aB:=List (Option H)
inductive ah(α:Type) where
 | ok (a:α) (σ:af)
 | exc (i:Nat) (σ:af)
 | stuck
noncomputable def ah.bind{α β:Type}:ah α->(α->af->ah β)->ah β
 | .ok a σ,f=>f a σ
 | .exc i σ,_=>.exc i σ
 | .stuck,_=>.stuck
noncomputable def ah.ofOpt{α:Type}:Option α->af->ah α
 | some a,σ=>.ok a σ
 | none,_=>.stuck
inductive mT where | add | sub | mul | mod | fdiv | pow
inductive iJ where | eq | ne | lt | le | gt | ge | is | isNot | isin | notin
inductive jZ where | int | str | bool | tuple
 | list
inductive eG where | len | list (ba:Bool) | tuple | all | int | str | lenset
 | sum
 | min | max
 | sorted
 | dict
inductive ie where | append | extend
 | pop
 | get
inductive X where
 | nil | cons (a r:X)
 | k (v:H)
 | v (i:Nat)
 | and (xs:X) | or (xs:X) | not (a:X) | neg (a:X)
 | bin (o:mT) (a b:X)
 | cmp (a:X) (o:iJ) (b:X)
 | cmp2 (a:X) (o:iJ) (b:X) (bR:iJ) (c:X)
 | lst (ba:Bool) (xs:X)
 | tup (xs:X)
 | fdget (ks:List Str) (vals:List H) (key dflt:X)
 | comp (ba:Bool) (t:Nat) (cap:List (Option Nat)) (elt:X) (cond:X) (it:X)
 | range1 (a:X)
 | call (f:Nat) (args:X)
 | b1 (b:eG) (a:X)
 | min2 (a b:X)
 | isinst (a:X) (t:jZ)
 | isexc (a:X) (eN ul:List Nat)
 | me (m:ie) (o:X) (args:X)
 | sub (o i:X)
 | slice (o lo hi:X)
 | enum (a:X)
 | zip (xs:X)
 | dnew (pk:Bool)
 | attr (c:Nat) (o:X) (n:Str)
 | meth (c f:Nat) (n:Str) (o args:X)
 | new (c f:Nat) (args:X)
noncomputable abbrev aa(n:Int):X:=.k (.int n)
noncomputable abbrev ae(i:Int):Option H:=some (.int i)
noncomputable abbrev aH(i:Nat):Option H:=some (.ref i)
noncomputable abbrev aS(s:Str):Option H:=some (.str s)
noncomputable def aI:Nat:=1000000
noncomputable def cx(σ:af):H->Option (List H)
 | .fl xs=>some xs
 | .ref i=>match σ[i]? with
  | some (.lst xs)=>some xs
  | _=>none
 | _=>none
noncomputable def eM(σ:af):H->Option (List H)
 | .fl xs=>some xs
 | .tup xs=>some xs
 | .ref i=>match σ[i]? with
  | some (.lst xs)=>some xs
  | _=>none
 | _=>none
noncomputable def wI(s:Str):List H:=s.cps.toList.map fun n=>.str ⟨#[n]⟩
noncomputable def items(σ:af):H->Option (List H)
 | .str s=>some (wI s)
 | .fl xs=>some xs
 | .tup xs=>some xs
 | .ref i=>match σ[i]? with
  | some (.lst xs)=>some xs
  | _=>none
 | _=>none
noncomputable def cK:Nat->af->H->Option PyData
 | 0,_,_=>none
 | n+1,σ,.tup xs=>(xs.mapM (cK n σ)).map .tuple
 | n+1,σ,.fl xs=>(xs.mapM (cK n σ)).map .list
 | n+1,σ,.ref i=>match σ[i]? with
  | some (.lst xs)=>(xs.mapM (cK n σ)).map .list
  | _=>none
 | _+1,_,.none=>some .none
 | _+1,_,.bool b=>some (.bool b)
 | _+1,_,.int i=>some (.int i)
 | _+1,_,.str s=>some (.str s)
 | _+1,_,.exc _=>none
 | _+1,_,.inst _ _=>none
noncomputable def eqv(σ:af)(a b:H):Option Bool:=
 match cK 16 σ a,cK 16 σ b with
 | some x,some y=>some (PyData.eqv x y)
 | _,_=>none
noncomputable def iC(σ:af)(x:H)(xs:List H):Option Bool:=
 match cK 16 σ x,xs.mapM (cK 16 σ)with
 | some d,some ds=>some (ds.any fun y=>PyData.eqv y d)
 | _,_=>none
noncomputable def aC{dF:Type}[DecidableEq dF](k:dF)(es:List (dF×H)):Option H:=(es.find? fun e=>decide (e.1=k)).map (·.2)
noncomputable def eK{dF:Type}[DecidableEq dF](k:dF)(v:H)(es:List (dF×H)):List (dF×H):=
 if(es.any fun e=>decide (e.1=k))then es.map (fun e=>if e.1=k then(e.1,v)else e)else es++[(k,v)]
noncomputable def IV:(p:H)->Option { k:Str×Int // p=.tup [.str k.1,.int k.2] }
 | .tup [.str x,.int i]=>some ⟨(x,i),rfl⟩
 | _=>none
noncomputable def hH(p:H):Option (Str×Int):=(IV p).map (·.1)
theorem JJ{α:Type}{a:α}(h:none=some a):P:=nomatch h
theorem qE{α:Type}{P:α->Prop}{o:Option { a // P a }}{a:α}(h:o.map (·.1)=some a):P a:=by
 cases o with
 | none=>exact nomatch h
 | some q=>obtain rfl:=oi h;exact q.2
noncomputable def jn(k:Str):List (Str×H)->Option H
 | []=>none
 | (x,v)::r=>if x=k then some v else jn k r
noncomputable def fD(i:Int)(n:Nat):Option Nat:=
 if 0<=i then(if i.toNat<n then some i.toNat else none)
 else if 0<=i+n then some (i+n).toNat else none
noncomputable def gX(o:Obj):Prop:=∃es n,o.data=.dict es n
noncomputable def kA(o:Obj):Prop:=(∃xs n,o.data=.seq xs n)\/(∃C vs,o.cls=.ref C/\o.data=.fields vs)\/∃C,o.cls=.ref C/\o.data=.plain
theorem kA.seq{c:Value}{d:Option Addr}{xs:Array Value}{cQ:Array (Option Value)}:kA { cls:=c,dict:=d,data:=.seq xs n,slots:=cQ }:=.inl ⟨xs,n,rfl⟩
theorem gX.notSolid(d:gX o):¬kA o:=by
 refine jb d fun es n d=>?_
 rintro(⟨xs,m,e⟩ | ⟨C,vs,_,e⟩ | ⟨C,_,e⟩) <;> rw[d]at e <;> contradiction
noncomputable def jv(fr:List Addr)(h':Heap)(b:Addr)(o:Obj):Prop:=h'.get? b=some o\/(b∈fr/\gX o/\∃cQ,h'.get? b=some { o with slots:=cQ })
theorem jv.trans{hX:Heap}(x:jv fr h' b o)(y:∀aP,h'.get? b=some aP->jv fr hX b aP):jv fr hX b o:=by
 rcases x with x | ⟨f,d,cQ,x⟩
 ·rcases y o x with y | ⟨f,d,cQ,y⟩
  ·exact .inl y
  ·exact .inr ⟨f,d,cQ,y⟩
 ·rcases y _ x with y | ⟨_,_,pu,y⟩
  ·exact .inr ⟨f,d,cQ,y⟩
  ·exact .inr ⟨f,d,pu,y⟩
theorem jv.ns{m:Str->Option Value}(n:h.Ns b m)(e:h.get? b=some o)(x:jv fr h' b o):h'.Ns b m:=by
 refine j8 n fun aP es ez aF r=>?_;rw[e]at aF;obtain rfl:=oi aF
 rcases x with x | ⟨_,d,cQ,x⟩
 ·exact⟨o,es,ez,x,r⟩
 ·exact⟨_,es,ez,x,r⟩
theorem jv.same(x:jv fr h' b o)(n:¬gX o):h'.get? b=some o:=by
 rcases x with x | ⟨_,d,_⟩
 ·exact x
 ·exact absurd d n
theorem jv.not(x:jv fr h' b o)(n:b∉fr):h'.get? b=some o:=by
 rcases x with x | ⟨f,_⟩
 ·exact x
 ·exact absurd f n
structure ay where
 ix:List Addr
 hid:List Addr
 fr:List Addr
noncomputable def ay.all(α:ay):List Addr:=α.ix++α.hid
inductive aj(h:Heap)(α:ay):H->Value->Prop where
 | none:aj h α .none .none
 | bool (b:Bool):aj h α (.bool b) (.bool b)
 | int (i:Int) (t:Tok):aj h α (.int i) (.int i t)
 | str (s:Str) (t:Tok):PyData.strOk s=true->aj h α (.str s) (.str s t)
 | tup {xs:List H} {a:Addr} {items:Array Value} {n:Nat}:h.get? a=some { cls:=.type "tuple",data:=.seq items n }->a∉α.all->xs.length=items.size ->
   (∀(i:Nat) (x:H) (v:Value),xs[i]?=some x->items[i]?=some v->aj h α x v)->aj h α (.tup xs) (.ref a)
 | fl {xs:List H} {a:Addr} {items:Array Value} {n:Nat}:h.get? a=some { cls:=.type "list",data:=.seq items n }->a∉α.all->xs.length=items.size ->
   (∀(i:Nat) (x:H) (v:Value),xs[i]?=some x->items[i]?=some v->aj h α x v)->aj h α (.fl xs) (.ref a)
 | ref {i:Nat} {a:Addr}:α.ix[i]?=some a->aj h α (.ref i) (.ref a)
 | exc {c:Nat} {a:Addr} {o:Obj} {vs:Array Value}:h.get? a=some o->o.cls=.ref c->o.data=.fields vs->a∉α.all->aj h α (.exc c) (.ref a)
 | inst {c i:Nat} {a D:Addr}:h.get? a=some { cls:=.ref c,dict:=some D,data:=.plain }->a∉α.all->α.ix[i]?=some D->aj h α (.inst c i) (.ref a)
structure a4(F:List Addr)(α:ay)(h:Heap)(α':ay)(h':Heap):Prop where
 hid:α'.hid=α.hid
 pre:∃β,α'.ix=α.ix++β/\∀x∈β,h.get? x=none/\x∉F
 seqs:∀b o,b∉α.ix->h.get? b=some o->kA o->h'.get? b=some o
 rest:∀b o,b∉α.ix->b∉F->h.get? b=some o->jv α.fr h' b o
 alive:∀b o,b∉F->h.get? b=some o->∃aP,h'.get? b=some aP
 fre:α'.fr=α.fr
theorem a4.refl{F α h}:a4 F α h α h:=
 ⟨rfl,⟨[],by simp,fun J hx=>(nomatch hx)⟩,fun J J J e J=>e,fun J J J J e=>.inl e,fun J o J e=>⟨o,e⟩,rfl⟩
theorem a4.keeps{F α h h'}(k:∀b o,h.get? b=some o->h'.get? b=some o):a4 F α h α h':=
 ⟨rfl,⟨[],by simp,fun J hx=>(nomatch hx)⟩,fun b o J e J=>k b o e,fun b o J J e=>.inl (k b o e),fun b o J e=>⟨o,k b o e⟩,rfl⟩
theorem a4.notMem{F α h α' h'}(x:a4 F α h α' h')(hb:b∉α.ix)(e:h.get? b=some o):b∉α'.ix:=by
 refine az x.pre fun β q bf=>?_;rw[q];intro hm
 rcases dH.mp hm with q | q
 ·exact hb q
 ·rw[(bf b q).1]at e;contradiction
theorem ay.not_ix{α:ay}(h:b∉α.all):b∉α.ix:=fun q=>h (hj _ q)
theorem a4.notAll{F α h α' h'}(x:a4 F α h α' h')(hb:b∉α.all)(e:h.get? b=some o):b∉α'.all:=by
 intro hm
 rcases dH.mp hm with q | q
 ·exact x.notMem (ay.not_ix hb) e q
 ·rw[x.hid]at q;exact hb (e6 _ q)
theorem a4.mono{F nV α h α' h'}(x:a4 F α h α' h')(bU:∀b∈F,b∈nV)(al:∀b∈nV,∃o,h.get? b=some o):a4 nV α h α' h':=by
 refine az x.pre fun β e bf=>?_
 exact⟨x.hid,⟨β,e,fun y hy=>⟨(bf y hy).1,fun q=>by refine aM (al y q) fun o ho=>?_;rw[(bf y hy).1]at ho;cases ho⟩⟩,x.seqs,fun b o hb PU e=>x.rest b o hb (fun q=>PU (bU b q)) e,
  fun b o hb e=>x.alive b o (fun q=>hb (bU b q)) e,x.fre⟩
theorem a4.trans{F α h α' h' jM hX}(x:a4 F α h α' h')(y:a4 F α' h' jM hX):a4 F α h jM hX:=by
 refine az x.pre fun β q1 bf=>?_;refine az y.pre fun γ q2 hg=>?_;refine⟨y.hid.trans x.hid,⟨β++γ,by rw[q2,q1,eQ],fun a ha=>?_⟩,fun b o hb e hs=>?_,fun b o hb bU e=>?_,fun b o hb e=>?_,y.fre.trans x.fre⟩
 ·rcases dH.mp ha with q | q
  ·exact bf a q
  ·refine⟨?_,(hg a q).2⟩
   cases hq:h.get? a with
   | none=>rfl
   | some o =>
    refine aM (x.alive a o (hg a q).2 hq) fun aP sF=>?_;rw[(hg a q).1]at sF;contradiction
 ·exact y.seqs b o (x.notMem hb e) (x.seqs b o hb e hs) hs
 ·exact(x.rest b o hb bU e).trans fun aP aF=>x.fre▸y.rest b aP (x.notMem hb e) bU aF
 ·refine aM (x.alive b o hb e) fun aP aF=>?_;exact y.alive b aP hb aF
theorem a4.drop{F own α h α' h' jM hX}(x:a4 [] α h α' h')(hown:∀b∈own,h.get? b=none)(al:∀b∈F,∃o,h.get? b=some o)(y:a4 (own++F) α' h' jM hX):a4 F α h jM hX:=by
 refine az x.pre fun β q1 bf=>?_;refine az y.pre fun γ q2 hg=>?_
 have no:∀b o,h.get? b=some o->b∉own:=fun b o e q=>by rw[hown b q]at e;contradiction
 refine⟨y.hid.trans x.hid,⟨β++γ,by rw[q2,q1,eQ],fun a ha=>?_⟩,fun b o hb e hs=>?_,fun b o hb bU e=>?_,fun b o hb e=>?_,y.fre.trans x.fre⟩
 ·rcases dH.mp ha with q | q
  ·refine⟨(bf a q).1,fun Bx=>?_⟩;refine aM (al a Bx) fun o ho=>?_;rw[(bf a q).1]at ho;contradiction
  ·refine⟨?_,fun Bx=>(hg a q).2 (e6 _ Bx)⟩
   cases hq:h.get? a with
   | none=>rfl
   | some o =>
    obtain⟨aP,sF⟩:=x.alive a o ((ew)) hq;rw[(hg a q).1]at sF;contradiction
 ·exact y.seqs b o (x.notMem hb e) (x.seqs b o hb e hs) hs
 ·exact(x.rest b o hb ((ew)) e).trans fun aP aF=>x.fre▸y.rest b aP (x.notMem hb e) (fun q=>by
   rcases dH.mp q with q | q
   ·exact no b o e q
   ·exact bU q) aF
 ·obtain⟨aP,aF⟩:=x.alive b o ((ew)) e
  exact y.alive b aP (fun q=>by
   rcases dH.mp q with q | q
   ·exact no b o e q
   ·exact hb q) aF
theorem a4.get{F α h α' h'}(x:a4 F α h α' h')(e:α.ix[i]?=some a):α'.ix[i]?=some a:=by
 refine az x.pre fun β q J=>?_;exact q.symm▸(iN (dS e).1).symm▸e
section
variable {α:ay}{v:Value}
theorem aj.noneE(r:aj h α .none v):v=.none:=by cases r;rfl
theorem aj.boolE{b:Bool}(r:aj h α (.bool b) v):v=.bool b:=by cases r;rfl
theorem aj.intE{i:Int}(r:aj h α (.int i) v):∃t,v=.int i t:=by cases r;exact⟨_,rfl⟩
theorem aj.strE(r:aj h α (.str x) v):∃t,v=.str x t/\PyData.strOk x=true:=by
 cases r with
 | str _ t h=>exact⟨_,rfl,h⟩
theorem aj.refE(r:aj h α (.ref i) v):∃a,v=.ref a/\α.ix[i]?=some a:=by
 cases r with
 | ref e=>exact⟨_,rfl,e⟩
end
theorem aj.ext{F α h α' h'}(x:a4 F α h α' h'){p:H}{v:Value}(r:aj h α p v):aj h' α' p v:=by
 induction r with
 | none=>exact .none
 | bool b=>exact .bool b
 | int i t=>exact .int i t
 | str s t hs=>exact .str s t hs
 | tup e hn hl _ ao=>exact .tup (x.seqs _ _ (ay.not_ix hn) e .seq) (x.notAll hn e) hl ao
 | fl e hn hl _ ao=>exact .fl (x.seqs _ _ (ay.not_ix hn) e .seq) (x.notAll hn e) hl ao
 | ref e=>exact .ref (x.get e)
 | exc e hc hd hn=>exact .exc (x.seqs _ _ (ay.not_ix hn) e (.inr (.inl ⟨_,_,hc,hd⟩))) hc hd (x.notAll hn e)
 | inst e hn hi=>exact .inst (x.seqs _ _ (ay.not_ix hn) e (.inr (.inr ⟨_,rfl,rfl⟩))) (x.notAll hn e) (x.get hi)
noncomputable def bj(h:Heap)(α:ay)(xs:List H)(vs:List Value):Prop:=
 xs.length=vs.length/\∀(i:Nat) (x:H) (v:Value),xs[i]?=some x->vs[i]?=some v->aj h α x v
theorem bj.nil{h α}:bj h α [] []:=⟨rfl,fun J J J e=>(nomatch e)⟩
theorem bj.cons{h α x xs v vs}(a:aj h α x v)(b:bj h α xs vs):bj h α (x::xs) (v::vs):=by
 refine⟨by simp[b.1],fun i y w V ak=>?_⟩
 cases i with
 | zero=>simp at V ak;subst V ak;exact a
 | succ i=>simp at V ak;exact b.2 i y w V ak
theorem bj.ext{F α h α' h'}(x:a4 F α h α' h'){p:List H}{v:List Value}(r:bj h α p v):bj h' α' p v:=
 ⟨r.1,fun i a b V ak=>(r.2 i a b V ak).ext x⟩
theorem bj.inv_cons{h α x xs vs}(r:bj h α (x::xs) vs):∃v w1,vs=v::w1/\aj h α x v/\bj h α xs w1:=by
 cases vs with
 | nil=>simp[bj]at r
 | cons v w1=>exact⟨v,w1,rfl,r.2 0 x v (by rfl) (by rfl),by have:=r.1;simp at this;exact this,fun i a b V ak=>r.2 (i+1) a b (by simpa using V) (by simpa using ak)⟩
theorem bj.append{h α xs vs ys ws}(a:bj h α xs vs)(b:bj h α ys ws):bj h α (xs++ys) (vs++ws):=by
 refine⟨by simp[a.1,b.1],fun i y w V ak=>?_⟩;by_cases hi:i<xs.length
 ·rw[iN hi]at V;rw[iN (a.1▸hi)]at ak;exact a.2 i y w V ak
 ·rw[hP (by omega)]at V;rw[hP (by rw[<- a.1];omega),<- a.1]at ak;exact b.2 _ y w V ak
theorem aj.tupI{α:ay}{xs:List H}{items:List Value}(e:h.get? a=some { cls:=.type "tuple",data:=.seq items.toArray n })(hn:a∉α.all)(r:bj h α xs items):aj h α (.tup xs) (.ref a):=
 .tup e hn (by simpa using r.1) fun i x v V ak=>r.2 i x v V (by simpa using ak)
theorem aj.flI{α:ay}{xs:List H}{items:List Value}(e:h.get? a=some { cls:=.type "list",data:=.seq items.toArray n })(hn:a∉α.all)(r:bj h α xs items):aj h α (.fl xs) (.ref a):=
 .fl e hn (by simpa using r.1) fun i x v V ak=>r.2 i x v V (by simpa using ak)
inductive SeqAt(T:String)(h:Heap)(α:ay)(xs:List H)(v:Value):Prop
 | mk (a:Addr) (items:List Value) (n:Nat) (e:v=.ref a) (aO:h.get? a=some { cls:=.type T,data:=.seq (List.toArray items) n }) (hn:a∉α.all) (vs:bj h α xs items):SeqAt T h α xs v
theorem aj.tupE{α:ay}{xs:List H}{v:Value}(r:aj h α (.tup xs) v):SeqAt "tuple" h α xs v:=by
 cases r with
 | tup e hn hl hr=>exact⟨_,_,_,rfl,by simpa using e,hn,by simpa using hl,fun i x v V ak=>hr i x v V (by simpa using ak)⟩
theorem aj.flE{α:ay}{xs:List H}{v:Value}(r:aj h α (.fl xs) v):SeqAt "list" h α xs v:=by
 cases r with
 | fl e hn hl hr=>exact⟨_,_,_,rfl,by simpa using e,hn,by simpa using hl,fun i x v V ak=>hr i x v V (by simpa using ak)⟩
structure bq where
 calls:Nat->Nat->List H->af->ah H
 md:Nat
noncomputable abbrev bq.call(C:bq):Nat->List H->af->ah H:=C.calls C.md
noncomputable def bq.hd(C:bq):Bool:=C.md != 0
noncomputable def bq.rz(C:bq):Bool:=Nat.ble C.md 1
noncomputable def bq.inH(C:bq):bq:=⟨C.calls,C.md+1⟩
noncomputable def iG(w:Option (Nat×aV))(σ:af):Prop:=
 match w with
 | none=>True
 | some (i,m)=>σ[i]?=some m
noncomputable def xR:Option H->List H->List H
 | some v,ys=>v::ys
 | none,ys=>ys
noncomputable def ea(w:Option (Nat×aV))(f:H->af->ah (Option H)):List H->af->ah (List H)
 | [],σ=>if iG w σ then .ok [] σ else .stuck
 | x::xs,σ=>if iG w σ then(f x σ).bind fun y σ=>(ea w f xs σ).bind fun ys σ=>.ok (xR y ys) σ else .stuck
noncomputable def ir(n:Nat)(c:ah (List H))(f:List H->af->ah H):ah H:=
 match c with
 | .ok ys σ=>f ys σ
 | _=>.stuck
noncomputable def nO(σ:af):H->Option (Nat×aV)
 | .ref i=>match σ[i]? with
  | some (.lst xs)=>some (i,.lst xs)
  | _=>none
 | _=>none
noncomputable def fb(ba:Bool)(xs:List H)(σ:af):ah H:=
 if xs.length<=aI then(if ba then .ok (.fl xs) σ else .ok (.ref σ.length) (σ++[.lst xs]))else .stuck
noncomputable def cZ(a c:Int)(n:Nat):List H:=(List.range n).map fun(i:Nat)=>.int (a+(i:Int)*c)
noncomputable def qI(a b:Int):Bool:=decide (a.natAbs<2 ^ 60\/b.natAbs<2 ^ 60)
noncomputable def rH(f:Int->Int->ah H)(a b:H):ah H:=
 match a with
 | .int x=>match b with
  | .int y=>f x y
  | _=>.stuck
 | _=>.stuck
noncomputable def xA(a b:H)(σ:af):ah H:=
 match a with
 | .int x=>match b with
  | .int y=>.ok (.int (x+y)) σ
  | _=>.stuck
 | .str x=>match b with
  | .str y=>if x.length+y.length<=aI then .ok (.str (x++y)) σ else .stuck
  | _=>.stuck
 | .tup x=>match b with
  | .tup y=>if x.length+y.length<=aI then .ok (.tup (x++y)) σ else .stuck
  | _=>.stuck
 | a=>match cx σ a with
  | some x=>match cx σ b with
   | some y=>if x.length+y.length<=aI then .ok (.fl (x++y)) σ else .stuck
   | none=>.stuck
  | none=>.stuck
noncomputable def Jv(a b:H)(σ:af):ah H:=
 match b with
 | .int y=>match a with
  | .int x=>if qI x y then .ok (.int (x*y)) σ else .stuck
  | .str x=>if x.length<=100/\0<=y/\y<=100 then .ok (.str (Txt.mul x y)) σ else .stuck
  | .fl xs=>if xs.length<=100/\0<=y/\y<=100 then .ok (.fl (List.replicate y.toNat xs).flatten) σ else .stuck
  | _=>.stuck
 | _=>.stuck
noncomputable def j3(o:mT)(a b:H)(σ:af):ah H:=
 match o with
 | .add=>xA a b σ
 | .sub=>rH (fun x y=>.ok (.int (x-y)) σ) a b
 | .mul=>Jv a b σ
 | .mod=>rH (fun x y=>if 0<y then .ok (.int (x%y)) σ else .stuck) a b
 | .fdiv=>rH (fun x y=>if 0<y/\y<1073741824 then .ok (.int (x/y)) σ else .stuck) a b
 | .pow=>rH (fun x n=>if 0<=n/\n<=100/\x=10 then .ok (.int (x ^ n.toNat)) σ else .stuck) a b
noncomputable def s9(f:Int->Int->Bool)(a b:H)(σ:af):ah Bool:=
 match a with
 | .int x=>match b with
  | .int y=>.ok (f x y) σ
  | _=>.stuck
 | _=>.stuck
noncomputable def iA:H->Bool
 | .none=>true
 | _=>false
noncomputable def AS(f:Bool->Bool)(a b:H)(σ:af):ah Bool:=
 match b with
 | .none=>.ok (f (iA a)) σ
 | .bool y=>match a with
  | .bool x=>.ok (f (decide (x=y))) σ
  | _=>.stuck
 | _=>.stuck
noncomputable def d0(a b:H)(σ:af):Option Bool:=
 match b with
 | .str y=>match a with
  | .str x=>match x.cps.toList with
   | [c]=>some (y.cps.toList.contains c)
   | _=>none
  | _=>none
 | .tup xs=>iC σ a xs
 | .fl xs=>iC σ a xs
 | .ref r=>match σ[r]? with
  | some (.lst xs)=>iC σ a xs
  | some (.ds es)=>match a with
   | .str k=>some (aC k es).isSome
   | _=>none
  | some (.dp es)=>(hH a).map fun k=>(aC k es).isSome
  | _=>none
 | _=>none
noncomputable def cX(o:iJ)(a b:H)(σ:af):ah Bool:=
 match o with
 | .eq=>ah.ofOpt (eqv σ a b) σ
 | .ne=>ah.ofOpt ((eqv σ a b).map (!·)) σ
 | .lt=>s9 (fun x y=>decide (x<y)) a b σ
 | .le=>s9 (fun x y=>decide (x<=y)) a b σ
 | .gt=>s9 (fun x y=>decide (x > y)) a b σ
 | .ge=>s9 (fun x y=>decide (x>=y)) a b σ
 | .is=>AS id a b σ
 | .isNot=>AS (!·) a b σ
 | .isin=>ah.ofOpt (d0 a b σ) σ
 | .notin=>ah.ofOpt ((d0 a b σ).map (!·)) σ
noncomputable def gz:List H->Option (List Int)
 | []=>some []
 | .int i::r=>(gz r).map (i::·)
 | _::_=>none
noncomputable def l1:List H->Option (List Bool)
 | []=>some []
 | .bool b::r=>(l1 r).map (b::·)
 | _::_=>none
noncomputable def kD:List H->Option (List Str)
 | []=>some []
 | .str s::r=>(kD r).map (s::·)
 | _::_=>none
noncomputable def gS(l:List Str):List Str:=l.foldl (fun a x=>if a.any (· == x)then a else a++[x]) []
noncomputable def e2(l:List Int):List Int:=l.mergeSort (fun a b=>decide (a<=b))
noncomputable def qX(xs:List H):Option (List H):=
 match gz xs with
 | some l=>if l.length<64 then some ((e2 l).map .int)else none
 | none=>none
noncomputable def ki(f:List H->ah H)(a:H)(σ:af):ah H:=
 match eM σ a with
 | some xs=>f xs
 | none=>.stuck
noncomputable def gh{α:Type}(g:List H->Option α)(f:α->ah H)(a:H)(σ:af):ah H:=
 match(cx σ a).bind g with
 | some l=>f l
 | none=>.stuck
noncomputable def Sv(a:H)(σ:af):ah H:=
 match a with
 | .str s=>if s.length<=aI then .ok (.int s.length) σ else .stuck
 | a=>ki (fun xs=>if xs.length<=aI then .ok (.int xs.length) σ else .stuck) a σ
noncomputable def Rv(a:H)(σ:af):ah H:=
 match a with
 | .bool b=>.ok (.int (if b then 1 else 0)) σ
 | _=>.stuck
noncomputable def Wl(a:H)(σ:af):ah H:=
 match a with
 | .str s=>.ok (.str s) σ
 | .int i=>if 0<=i/\i<1000000000 then .ok (.str (Str.ofString (toString i))) σ else .stuck
 | _=>.stuck
noncomputable def DA:List H->List ((Str×Int)×H)->Option (List ((Str×Int)×H))
 | [],es=>some es
 | .tup [k,v]::r,es=>match hH k with
  | some k=>DA r (eK k v es)
  | none=>none
 | _::_,_=>none
noncomputable def Nz(a:H)(σ:af):ah H:=
 match a with
 | .ref r=>match σ[r]? with
  | some (.dp es)=>if es.length<=aI then .ok (.ref σ.length) (σ++[.dp es])else .stuck
  | _=>.stuck
 | .fl xs=>match DA xs []with
  | some es=>if xs.length<=aI then .ok (.ref σ.length) (σ++[.dp es])else .stuck
  | none=>.stuck
 | _=>.stuck
noncomputable def dx(b:eG)(a:H)(σ:af):ah H:=
 match b with
 | .dict=>Nz a σ
 | .len=>Sv a σ
 | .list ba=>ki (fun xs=>fb ba xs σ) a σ
 | .tuple=>ki (fun xs=>if xs.length<=aI then .ok (.tup xs) σ else .stuck) a σ
 | .sum=>gh gz (fun l=>if l.length<=1000/\l.all (fun x=>decide (x.natAbs<2 ^ 40))then .ok (.int l.sum) σ else .stuck) a σ
 | .min=>gh gz (fun l=>match l with
  | x::l=>.ok (.int (l.foldl min x)) σ
  | []=>.stuck) a σ
 | .max=>gh gz (fun l=>match l with
  | x::l=>.ok (.int (l.foldl max x)) σ
  | []=>.stuck) a σ
 | .sorted=>gh qX (fun l=>.ok (.fl l) σ) a σ
 | .all=>gh l1 (fun l=>.ok (.bool (l.all id)) σ) a σ
 | .int=>Rv a σ
 | .str=>Wl a σ
 | .lenset=>match(eM σ a).bind kD with
  | some l=>if l.length<=1000 then .ok (.int (gS l).length) σ else .stuck
  | none=>.stuck
noncomputable def vH:eG->Bool
 | .all | .lenset=>true
 | .sum=>true
 | .min | .max=>true
 | .dict=>true
 | _=>false
noncomputable def i8(hd:Bool)(b:eG)(a:H)(σ:af):ah H:=bif hd&&vH b then .stuck else dx b a σ
noncomputable def v5(a:H)(eN ul:List Nat)(σ:af):ah Bool:=
 match a with
 | .exc c=>if ul.contains c then .ok (eN.contains c) σ else .stuck
 | _=>.stuck
noncomputable def kN(a:H)(t:jZ)(σ:af):ah Bool:=
 match t with
 | .int=>match a with
  | .int _=>.ok true σ
  | .bool _=>.ok true σ
  | .none=>.ok false σ
  | .str _=>.ok false σ
  | _=>.stuck
 | .bool=>match a with
  | .bool _=>.ok true σ
  | .int _=>.ok false σ
  | .none=>.ok false σ
  | .str _=>.ok false σ
  | _=>.stuck
 | .str=>match a with
  | .str _=>.ok true σ
  | .int _=>.ok false σ
  | .none=>.ok false σ
  | .bool _=>.ok false σ
  | .tup _=>.ok false σ
  | _=>.stuck
 | .tuple=>match a with
  | .tup _=>.ok true σ
  | .str _=>.ok false σ
  | .int _=>.ok false σ
  | _=>.stuck
 | .list=>match a with
  | .tup _=>.ok false σ
  | a=>match cx σ a with
   | some _=>.ok true σ
   | none=>.stuck
noncomputable def lD(xs:List H)(i:Int)(σ:af):ah H:=if xs.length<=aI then ah.ofOpt ((fD i xs.length).bind (xs[·]?)) σ else .stuck
noncomputable def mJ(o i:H)(σ:af):ah H:=
 match o with
 | .ref r=>match σ[r]? with
  | some (.ds es)=>match i with
   | .str k=>ah.ofOpt (aC k es) σ
   | _=>.stuck
  | some (.dp es)=>ah.ofOpt ((hH i).bind fun k=>aC k es) σ
  | _=>.stuck
 | _=>.stuck
noncomputable def f6(o i:H)(σ:af):ah H:=
 match i with
 | .int i=>match o with
  | .str s=>if s.cps.size<=aI then
    match(fD i s.cps.size).bind (s.cps[·]?)with
    | some c=>.ok (.str ⟨#[c]⟩) σ
    | none=>.stuck
   else .stuck
  | .tup xs=>lD xs i σ
  | o=>match cx σ o with
   | some xs=>lD xs i σ
   | none=>.stuck
 | i=>mJ o i σ
noncomputable def pc:H->Option (Option Int)
 | .none=>some none
 | .int i=>some (some i)
 | _=>none
noncomputable def ep{α:Type}(xs:List α)(lo hi:Option Int):List α:=
 (xs.drop (lo.elim 0 (clipAt xs.length))).take (hi.elim xs.length (clipAt xs.length)-lo.elim 0 (clipAt xs.length))
noncomputable def nD(s:Str)(lo hi:Option Int):Str:=⟨(ep s.cps.toList lo hi).toArray⟩
noncomputable def tt(σ:af)(o:H)(lo hi:Option Int):Option H:=
 match o with
 | .str x=>if x.length<=aI then some (.str (nD x lo hi))else none
 | .tup xs=>if xs.length<=aI then some (.tup (ep xs lo hi))else none
 | o=>(cx σ o).bind fun xs=>if xs.length<=aI then some (.fl (ep xs lo hi))else none
noncomputable def kl(o lo hi:H)(σ:af):ah H:=ah.ofOpt ((pc lo).bind fun lo=>(pc hi).bind fun hi=>tt σ o lo hi) σ
noncomputable def JH(a:H)(σ:af):ah H:=
 match a with
 | .int i=>.ok (.int (-i)) σ
 | _=>.stuck
noncomputable def jh(o:H)(σ:af):Bool:=
 match o with
 | .ref r=>match σ[r]? with
  | some (.lst _)=>true
  | _=>false
 | _=>false
noncomputable def RC:H->Bool
 | .str _=>true
 | _=>false
noncomputable def sX(o:H)(σ:af):Bool:=
 match o with
 | .ref r=>match σ[r]? with
  | some (.ds _)=>true
  | some (.dp _)=>true
  | _=>false
 | _=>false
noncomputable def o6(m:ie)(o:H)(σ:af):Bool:=
 match m with
 | .append | .extend=>jh o σ
 | .pop=>jh o σ
 | .get=>sX o σ
noncomputable def kE(o v:H)(σ:af):ah H:=
 match o with
 | .ref r=>match σ[r]? with
  | some (.lst xs)=>if xs.length<aI then .ok .none (σ.set r (.lst (xs++[v])))else .stuck
  | _=>.stuck
 | _=>.stuck
noncomputable def ma(o v:H)(σ:af):ah H:=
 match o with
 | .ref r=>match σ[r]? with
  | some (.lst xs)=>match v with
   | .tup ys=>if xs.length+ys.length<=aI then .ok .none (σ.set r (.lst (xs++ys)))else .stuck
   | .fl ys=>if xs.length+ys.length<=aI then .ok .none (σ.set r (.lst (xs++ys)))else .stuck
   | _=>.stuck
  | _=>.stuck
 | _=>.stuck
noncomputable def sd(o v:H)(σ:af):ah H:=
 match o with
 | .ref r=>match σ[r]? with
  | some (.ds es)=>match v with
   | .str k=>.ok ((aC k es).getD .none) σ
   | _=>.stuck
  | some (.dp es)=>match hH v with
   | some k=>.ok ((aC k es).getD .none) σ
   | none=>.stuck
  | _=>.stuck
 | _=>.stuck
noncomputable def pg(o v:H)(σ:af):ah H:=
 match o with
 | .ref r=>match σ[r]? with
  | some (.lst xs)=>match v with
   | .int i=>if 0<=i/\xs.length<=aI then match xs[i.toNat]? with
     | some v=>.ok v (σ.set r (.lst (xs.eraseIdx i.toNat)))
     | none=>.stuck
    else .stuck
   | _=>.stuck
  | _=>.stuck
 | _=>.stuck
noncomputable def jk(m:ie)(o:H)(args:List H)(σ:af):ah H:=
 match args with
 | [v]=>match m with
  | .append=>kE o v σ
  | .extend=>ma o v σ
  | .pop=>pg o v σ
  | .get=>sd o v σ
 | _=>.stuck
noncomputable def qF(x y:H)(σ:af):ah H:=
 match x,y with
 | .int x,.int y=>.ok (.int (min x y)) σ
 | _,_=>.stuck
noncomputable def rJ(c:Nat)(o:H)(n:Str)(σ:af):ah H:=
 match o with
 | .inst cC i=>if cC=c then(match σ[i]? with
  | some (.ns fs)=>ah.ofOpt (aC n fs) σ
  | _=>.stuck)else .stuck
 | _=>.stuck
noncomputable def sb(ks:List Str)(vals:List H)(key dflt:H)(σ:af):ah H:=
 match key with
 | .str k=>.ok ((jn k (ks.zip vals)).getD dflt) σ
 | _=>.stuck
noncomputable def i0(v:H)(σ:af):ah Bool:=
 match v with
 | .bool b=>.ok b σ
 | _=>.stuck
noncomputable def eD(v:H)(σ:af):ah (List H×Option (Nat×aV)):=
 match items σ v with
 | some xs=>.ok (xs,nO σ v) σ
 | none=>.stuck
noncomputable def ny(a:H)(σ:af):ah (List H×Option (Nat×aV)):=
 match a with
 | .int n=>if 0<=n/\n<=aI then .ok (cZ 0 1 n.toNat,none) σ else .stuck
 | _=>.stuck
noncomputable def kR:Nat->List H->List H
 | _,[]=>[]
 | i,x::r=>.tup [.int i,x]::kR (i+1) r
noncomputable def ou(a:H)(σ:af):ah (List H×Option (Nat×aV)):=
 match cx σ a with
 | some xs=>if xs.length<=aI then .ok (kR 0 xs,nO σ a) σ else .stuck
 | none=>.stuck
noncomputable def mO:List H->List H->List H
 | x::r,y::q=>.tup [x,y]::mO r q
 | _,_=>[]
noncomputable def rm(a b:H)(σ:af):ah (List H×Option (Nat×aV)):=
 match a,b with
 | .tup xs,.fl ys=>if xs.length=ys.length/\ys.length<=aI then .ok (mO xs ys,some (σ.length,.tp)) (σ++[.tp])else .stuck
 | _,_=>.stuck
noncomputable def w7(vs:List H)(σ:af):ah (List H×Option (Nat×aV)):=
 match vs with
 | [a,b]=>rm a b σ
 | _=>.stuck
noncomputable def dg(cap:List (Option Nat))(ρ:aB):aB:=cap.map fun(o:Option Nat)=>match o with | some i=>(ρ[i]?).join | none=>none
noncomputable def Cj(ρ:aB)(i:Nat)(σ:af):ah H:=
 match ρ[i]? with
 | some (some v)=>.ok v σ
 | _=>.stuck
structure ib where
 ev:aB->af->ah H
 tst:aB->af->ah Bool
 evs:aB->af->ah (List H)
 evAnd:aB->af->ah H
 evOr:aB->af->ah H
 tstAnd:aB->af->ah Bool
 tstOr:aB->af->ah Bool
 evIt:aB->af->ah (List H×Option (Nat×aV))
noncomputable def ib.two(e:aB->af->ah H)(t:aB->af->ah Bool):ib:=
 ⟨e,t,fun J J=>.stuck,fun J J=>.stuck,fun J J=>.stuck,fun J J=>.stuck,fun J J=>.stuck,fun ρ σ=>(e ρ σ).bind eD⟩
noncomputable def ib.val(e:aB->af->ah H):ib:=ib.two e fun ρ σ=>(e ρ σ).bind i0
noncomputable def ib.nil:ib:=
 ⟨fun J J=>.stuck,fun J J=>.stuck,fun J σ=>.ok [] σ,fun J J=>.stuck,fun J J=>.stuck,fun J σ=>.ok true σ,fun J σ=>.ok false σ,fun J J=>.stuck⟩
noncomputable def ib.cons(a:ib)(last:Bool)(r:ib):ib:=
 ⟨fun J J=>.stuck,fun J J=>.stuck,fun ρ σ=>(a.ev ρ σ).bind fun v σ=>(r.evs ρ σ).bind fun vs σ=>.ok (v::vs) σ,
  fun ρ σ=>if last then a.ev ρ σ else(a.ev ρ σ).bind fun v σ=>(i0 v σ).bind fun b σ=>if b then r.evAnd ρ σ else .ok v σ,
  fun ρ σ=>if last then a.ev ρ σ else(a.ev ρ σ).bind fun v σ=>(i0 v σ).bind fun b σ=>if b then .ok v σ else r.evOr ρ σ,
  fun ρ σ=>(a.tst ρ σ).bind fun b σ=>if b then r.tstAnd ρ σ else .ok false σ,
  fun ρ σ=>(a.tst ρ σ).bind fun b σ=>if b then .ok true σ else r.tstOr ρ σ,
  fun J J=>.stuck⟩
noncomputable def ib.it(f:aB->af->ah (List H×Option (Nat×aV))):ib:=
 ⟨fun J J=>.stuck,fun J J=>.stuck,fun J J=>.stuck,fun J J=>.stuck,fun J J=>.stuck,fun J J=>.stuck,fun J J=>.stuck,f⟩
noncomputable def X.isNil:X->Bool
 | .nil=>true
 | _=>false
noncomputable def o7(C:bq)(c f:Nat)(n:Str)(x:H)(args:af->ah (List H))(σ:af):ah H:=
 match x with
 | .inst cC i=>if cC=c then(match σ[i]? with
  | some (.ns fs)=>(match aC n fs with
   | none=>(args σ).bind fun vs σ=>C.call f (.inst cC i::vs) σ
   | some _=>.stuck)
  | _=>.stuck)else .stuck
 | _=>.stuck
noncomputable def my(C:bq)(c f:Nat)(vs:List H)(σ:af):ah H:=
 (C.call f (.inst c σ.length::vs) (σ++[.ns []])).bind fun v σ'=>match v with
  | .none=>.ok (.inst c σ.length) σ'
  | _=>.stuck
noncomputable def cw(C:bq):X->ib
 | .nil=>ib.nil
 | .cons a r=>ib.cons (cw C a) r.isNil (cw C r)
 | .k v=>.val fun J σ=>.ok v σ
 | .v i=>.val fun ρ σ=>Cj ρ i σ
 | .and xs=>.two (cw C xs).evAnd (cw C xs).tstAnd
 | .or xs=>.two (cw C xs).evOr (cw C xs).tstOr
 | .not a=>.two (fun ρ σ=>((cw C a).ev ρ σ).bind fun v σ=>(i0 v σ).bind fun b σ=>.ok (.bool (!b)) σ) (fun ρ σ=>((cw C a).tst ρ σ).bind fun b σ=>.ok (!b) σ)
 | .neg a=>.val fun ρ σ=>((cw C a).ev ρ σ).bind JH
 | .bin o a b=>.val fun ρ σ=>((cw C a).ev ρ σ).bind fun x σ=>((cw C b).ev ρ σ).bind fun y σ=>j3 o x y σ
 | .cmp a o b=>.two (fun ρ σ=>((cw C a).ev ρ σ).bind fun x σ=>((cw C b).ev ρ σ).bind fun y σ=>(cX o x y σ).bind fun r σ=>.ok (.bool r) σ)
   (fun ρ σ=>((cw C a).ev ρ σ).bind fun x σ=>((cw C b).ev ρ σ).bind fun y σ=>cX o x y σ)
 | .cmp2 a o b bR c=>.two (fun ρ σ=>((cw C a).ev ρ σ).bind fun x σ=>((cw C b).ev ρ σ).bind fun y σ=>(cX o x y σ).bind fun r σ =>
   if r then((cw C c).ev ρ σ).bind fun z σ=>(cX bR y z σ).bind fun r σ=>.ok (.bool r) σ else .ok (.bool false) σ)
   (fun ρ σ=>((cw C a).ev ρ σ).bind fun x σ=>((cw C b).ev ρ σ).bind fun y σ=>(cX o x y σ).bind fun r σ =>
   if r then((cw C c).ev ρ σ).bind fun z σ=>cX bR y z σ else .ok false σ)
 | .lst ba xs=>.val fun ρ σ=>((cw C xs).evs ρ σ).bind fun vs σ=>fb ba vs σ
 | .tup xs=>.val fun ρ σ=>((cw C xs).evs ρ σ).bind fun vs σ=>if vs.length<=aI then .ok (.tup vs) σ else .stuck
 | .fdget ks vals key dflt=>.val fun ρ σ=>((cw C key).ev ρ σ).bind fun k σ=>((cw C dflt).ev ρ σ).bind fun d σ=>sb ks vals k d σ
 | .comp ba t cap elt cond it=>.val fun ρ σ=>bif C.hd then .stuck else((cw C it).evIt ρ σ).bind fun(xs,w) σ =>
   ir xs.length (ea w (fun x σ =>
    ((cw C cond).tst ((dg cap ρ).set t (some x)) σ).bind fun b σ=>if b then((cw C elt).ev ((dg cap ρ).set t (some x)) σ).bind fun v σ=>.ok (some v) σ else .ok none σ) xs σ) fun ys σ=>fb ba ys σ
 | .range1 a=>.it fun ρ σ=>((cw C a).ev ρ σ).bind ny
 | .enum a=>.it fun ρ σ=>((cw C a).ev ρ σ).bind ou
 | .zip xs=>.it fun ρ σ=>((cw C xs).evs ρ σ).bind w7
 | .dnew pk=>.val fun J σ=>.ok (.ref σ.length) (σ++[bif pk then .dp []else .ds []])
 | .attr c o n=>.val fun ρ σ=>((cw C o).ev ρ σ).bind fun x σ=>rJ c x n σ
 | .meth c f n o args=>.val fun ρ σ=>((cw C o).ev ρ σ).bind fun x σ=>o7 C c f n x (fun σ=>(cw C args).evs ρ σ) σ
 | .new c f args=>.val fun ρ σ=>((cw C args).evs ρ σ).bind fun vs σ=>my C c f vs σ
 | .call f args=>.val fun ρ σ=>((cw C args).evs ρ σ).bind fun vs σ=>C.call f vs σ
 | .b1 b a=>.val fun ρ σ=>((cw C a).ev ρ σ).bind fun v σ=>i8 C.hd b v σ
 | .min2 a b=>.val fun ρ σ=>bif C.hd then .stuck else((cw C a).ev ρ σ).bind fun x σ=>((cw C b).ev ρ σ).bind fun y σ=>qF x y σ
 | .isinst a t=>.val fun ρ σ=>((cw C a).ev ρ σ).bind fun v σ=>(kN v t σ).bind fun b σ=>.ok (.bool b) σ
 | .isexc a eN ul=>.val fun ρ σ=>((cw C a).ev ρ σ).bind fun v σ=>(v5 v eN ul σ).bind fun b σ=>.ok (.bool b) σ
 | .me m o args=>.val fun ρ σ=>((cw C o).ev ρ σ).bind fun r σ=>if o6 m r σ then((cw C args).evs ρ σ).bind fun vs σ=>jk m r vs σ else .stuck
 | .sub o i=>.val fun ρ σ=>((cw C o).ev ρ σ).bind fun x σ=>((cw C i).ev ρ σ).bind fun y σ=>f6 x y σ
 | .slice o lo hi=>.val fun ρ σ=>((cw C o).ev ρ σ).bind fun x σ=>((cw C lo).ev ρ σ).bind fun a σ=>((cw C hi).ev ρ σ).bind fun b σ=>kl x a b σ
noncomputable def ev(C:bq)(x:X)(ρ:aB)(σ:af):ah H:=(cw C x).ev ρ σ
noncomputable def evs(C:bq)(x:X)(ρ:aB)(σ:af):ah (List H):=(cw C x).evs ρ σ
noncomputable def evAnd(C:bq)(x:X)(ρ:aB)(σ:af):ah H:=(cw C x).evAnd ρ σ
noncomputable def evOr(C:bq)(x:X)(ρ:aB)(σ:af):ah H:=(cw C x).evOr ρ σ
noncomputable def tst(C:bq)(x:X)(ρ:aB)(σ:af):ah Bool:=(cw C x).tst ρ σ
noncomputable def tstAnd(C:bq)(x:X)(ρ:aB)(σ:af):ah Bool:=(cw C x).tstAnd ρ σ
noncomputable def tstOr(C:bq)(x:X)(ρ:aB)(σ:af):ah Bool:=(cw C x).tstOr ρ σ
noncomputable def evIt(C:bq)(x:X)(ρ:aB)(σ:af):ah (List H×Option (Nat×aV)):=(cw C x).evIt ρ σ
section
variable {C:bq}{ρ:aB}{σ:af}
theorem Oi:ev C (.v i) ρ σ=Cj ρ i σ:=rfl
theorem Of{xs:X}:ev C (.or xs) ρ σ=evOr C xs ρ σ:=rfl
theorem Oe{a:X}:ev C (.not a) ρ σ=(ev C a ρ σ).bind fun v σ=>(i0 v σ).bind fun b σ=>.ok (.bool (!b)) σ:=rfl
theorem N7{o:mT}{a b:X}:ev C (.bin o a b) ρ σ=(ev C a ρ σ).bind fun x σ=>(ev C b ρ σ).bind fun y σ=>j3 o x y σ:=rfl
theorem N8{o:iJ}{a b:X}:ev C (.cmp a o b) ρ σ=(ev C a ρ σ).bind fun x σ=>(ev C b ρ σ).bind fun y σ=>(cX o x y σ).bind fun r σ=>.ok (.bool r) σ:=rfl
theorem N9{o bR:iJ}{a b c:X}:ev C (.cmp2 a o b bR c) ρ σ=(ev C a ρ σ).bind fun x σ=>(ev C b ρ σ).bind fun y σ=>(cX o x y σ).bind fun r σ =>
   if r then(ev C c ρ σ).bind fun z σ=>(cX bR y z σ).bind fun r σ=>.ok (.bool r) σ else .ok (.bool false) σ:=rfl
theorem Oc{xs:X}:ev C (.lst ba xs) ρ σ=(evs C xs ρ σ).bind fun vs σ=>fb ba vs σ:=rfl
theorem Oh{xs:X}:ev C (.tup xs) ρ σ=(evs C xs ρ σ).bind fun vs σ=>if vs.length<=aI then .ok (.tup vs) σ else .stuck:=rfl
theorem Oa{ks:List Str}{vals:List H}{key dflt:X}:ev C (.fdget ks vals key dflt) ρ σ=(ev C key ρ σ).bind fun k σ=>(ev C dflt ρ σ).bind fun d σ=>sb ks vals k d σ:=rfl
theorem lp{t:Nat}{elt cond it:X}:ev C (.comp ba t cap elt cond it) ρ σ=bif C.hd then .stuck else(evIt C it ρ σ).bind fun(xs,w) σ =>
   ir xs.length (ea w (fun x σ =>
    (tst C cond ((dg cap ρ).set t (some x)) σ).bind fun b σ=>if b then(ev C elt ((dg cap ρ).set t (some x)) σ).bind fun v σ=>.ok (some v) σ else .ok none σ) xs σ) fun ys σ=>fb ba ys σ:=rfl
theorem uu{f:Nat}{args:X}:ev C (.call f args) ρ σ=(evs C args ρ σ).bind fun vs σ=>C.call f vs σ:=rfl
theorem DP{b:eG}{a:X}:ev C (.b1 b a) ρ σ=(ev C a ρ σ).bind fun v σ=>i8 C.hd b v σ:=rfl
theorem DR{a b:X}:ev C (.min2 a b) ρ σ=bif C.hd then .stuck else(ev C a ρ σ).bind fun x σ=>(ev C b ρ σ).bind fun y σ=>qF x y σ:=rfl
theorem Ob{a:X}{t:jZ}:ev C (.isinst a t) ρ σ=(ev C a ρ σ).bind fun v σ=>(kN v t σ).bind fun b σ=>.ok (.bool b) σ:=rfl
theorem DQ{m:ie}{o args:X}:ev C (.me m o args) ρ σ=(ev C o ρ σ).bind fun r σ=>if o6 m r σ then(evs C args ρ σ).bind fun vs σ=>jk m r vs σ else .stuck:=rfl
theorem Og{o i:X}:ev C (.sub o i) ρ σ=(ev C o ρ σ).bind fun x σ=>(ev C i ρ σ).bind fun y σ=>f6 x y σ:=rfl
theorem DT{o lo hi:X}:ev C (.slice o lo hi) ρ σ=(ev C o ρ σ).bind fun x σ=>(ev C lo ρ σ).bind fun a σ=>(ev C hi ρ σ).bind fun b σ=>kl x a b σ:=rfl
theorem hV:evs C .nil ρ σ=.ok [] σ:=rfl
theorem lq{a r:X}:evs C (.cons a r) ρ σ=(ev C a ρ σ).bind fun v σ=>(evs C r ρ σ).bind fun vs σ=>.ok (v::vs) σ:=rfl
theorem x6:evAnd C .nil ρ σ=.stuck:=rfl
theorem x7{a:X}:evAnd C #v[a] ρ σ=ev C a ρ σ:=rfl
theorem rY{a b r:X}:evAnd C (.cons a (.cons b r)) ρ σ=(ev C a ρ σ).bind fun v σ=>(i0 v σ).bind fun t σ=>if t then evAnd C (.cons b r) ρ σ else .ok v σ:=rfl
theorem x9:evOr C .nil ρ σ=.stuck:=rfl
theorem ya{a:X}:evOr C #v[a] ρ σ=ev C a ρ σ:=rfl
theorem ut{a b r:X}:evOr C (.cons a (.cons b r)) ρ σ=(ev C a ρ σ).bind fun v σ=>(i0 v σ).bind fun t σ=>if t then .ok v σ else evOr C (.cons b r) ρ σ:=rfl
theorem Xv{a:X}:tst C (.not a) ρ σ=(tst C a ρ σ).bind fun b σ=>.ok (!b) σ:=rfl
theorem Xs{o:iJ}{a b:X}:tst C (.cmp a o b) ρ σ=(ev C a ρ σ).bind fun x σ=>(ev C b ρ σ).bind fun y σ=>cX o x y σ:=rfl
theorem K8{o bR:iJ}{a b c:X}:tst C (.cmp2 a o b bR c) ρ σ=(ev C a ρ σ).bind fun x σ=>(ev C b ρ σ).bind fun y σ=>(cX o x y σ).bind fun r σ =>
   if r then(ev C c ρ σ).bind fun z σ=>cX bR y z σ else .ok false σ:=rfl
theorem Xr{f:Nat}{args:X}:tst C (.call f args) ρ σ=(ev C (.call f args) ρ σ).bind i0:=rfl
theorem Xq{b:eG}{a:X}:tst C (.b1 b a) ρ σ=(ev C (.b1 b a) ρ σ).bind i0:=rfl
theorem Xu{a:X}{t:jZ}:tst C (.isinst a t) ρ σ=(ev C (.isinst a t) ρ σ).bind i0:=rfl
theorem K6:tstAnd C .nil ρ σ=.ok true σ:=rfl
theorem rg{a r:X}:tstAnd C (.cons a r) ρ σ=(tst C a ρ σ).bind fun b σ=>if b then tstAnd C r ρ σ else .ok false σ:=rfl
theorem K7:tstOr C .nil ρ σ=.ok false σ:=rfl
theorem rh{a r:X}:tstOr C (.cons a r) ρ σ=(tst C a ρ σ).bind fun b σ=>if b then .ok true σ else tstOr C r ρ σ:=rfl
theorem x8{a:X}:evIt C (.range1 a) ρ σ=(ev C a ρ σ).bind ny:=rfl
theorem N5{a:X}:evIt C (.enum a) ρ σ=(ev C a ρ σ).bind ou:=rfl
theorem N6{xs:X}:evIt C (.zip xs) ρ σ=(evs C xs ρ σ).bind w7:=rfl
theorem DO{o:X}{n:Str}:ev C (.attr c o n) ρ σ=(ev C o ρ σ).bind fun x σ=>rJ c x n σ:=rfl
theorem Od{f:Nat}{n:Str}{o args:X}:ev C (.meth c f n o args) ρ σ=(ev C o ρ σ).bind fun x σ=>o7 C c f n x (fun σ=>evs C args ρ σ) σ:=rfl
theorem DS{f:Nat}{args:X}:ev C (.new c f args) ρ σ=(evs C args ρ σ).bind fun vs σ=>my C c f vs σ:=rfl
end
inductive S where
 | nil | cons (a r:S)
 | asg (i:Nat) (x:X)
 | asgSub (o i x:X)
 | expr (x:X)
 | ret (x:X)
 | ret0
 | ife (c:X) (a b:S)
 | for1 (i:Nat) (it:X) (body:S)
 | whl (c:X) (body:S)
 | brk
 | asgAttr (c:Nat) (o:X) (n:Str) (x:X)
 | asgT (is:List Nat) (x:X)
 | forT (is:List Nat) (it:X) (body:S)
 | raise (c:Nat)
 | tryE (body:S) (eN:List Nat) (i:Nat) (h:S)
inductive b3 where
 | next(ρ:aB) (σ:af)
 | brk (ρ:aB) (σ:af)
 | cont (ρ:aB) (σ:af)
 | ret (v:H) (ρ:aB) (σ:af)
 | exc (i:Nat) (ρ:aB) (σ:af)
 | stuck
noncomputable def ah.toS{α:Type}(o:ah α)(ρ:aB)(f:α->af->b3):b3:=
 match o with
 | .ok a σ=>f a σ
 | .exc i σ=>.exc i ρ σ
 | .stuck=>.stuck
noncomputable def kP(go:aB->af->b3):b3->b3
 | .next ρ σ=>go ρ σ
 | .cont ρ σ=>go ρ σ
 | .brk ρ σ=>.next ρ σ
 | .ret v ρ σ=>.ret v ρ σ
 | _=>.stuck
noncomputable def ME(f:aB->b3):Option aB->b3
 | none=>.stuck
 | some ρ=>f ρ
noncomputable def ch(w:Option (Nat×aV))(bind:H->aB->Option aB)(f:aB->af->b3):List H->aB->af->b3
 | [],ρ,σ=>if iG w σ then .next ρ σ else .stuck
 | x::xs,ρ,σ=>if iG w σ then ME (fun ρ=>kP (ch w bind f xs) (f ρ σ)) (bind x ρ)else .stuck
noncomputable def w2(ρ:aB)(k:af->b3):ah Bool->b3
 | .ok true σ=>k σ
 | .ok false σ=>.next ρ σ
 | _=>.stuck
noncomputable def iH(c:aB->af->ah Bool)(f:aB->af->b3):Nat->aB->af->b3
 | 0,_,_=>.stuck
 | n+1,ρ,σ=>w2 ρ (fun σ=>kP (iH c f n) (f ρ σ)) (c ρ σ)
noncomputable def qY(m:aV)(i v:H):Option aV:=
 match m with
 | .ds es=>match i with
  | .str k=>if es.length<aI then some (.ds (eK k v es))else none
  | _=>none
 | .dp es=>(hH i).bind fun k=>if es.length<aI then some (.dp (eK k v es))else none
 | _=>none
noncomputable def hN(o i v:H)(ρ:aB)(σ:af):b3:=
 match o with
 | .ref r=>match(σ[r]?).bind fun m=>qY m i v with
  | some m=>.next ρ (σ.set r m)
  | none=>.stuck
 | _=>.stuck
noncomputable def tu(c:Nat)(o:H)(n:Str)(v:H)(ρ:aB)(σ:af):b3:=
 match o with
 | .inst cC i=>if cC=c then(match σ[i]? with
  | some (.ns fs)=>if fs.length<100 then .next ρ (σ.set i (.ns (eK n v fs)))else .stuck
  | _=>.stuck)else .stuck
 | _=>.stuck
noncomputable def qW:List Nat->List H->aB->Option aB
 | [],[],ρ=>some ρ
 | i::is,v::vs,ρ=>qW is vs (ρ.set i (some v))
 | _,_,_=>none
noncomputable def gO(is:List Nat)(v:H)(ρ:aB):Option aB:=
 match v with
 | .tup xs=>if xs.length<=100 then qW is xs ρ else none
 | _=>none
noncomputable def dm(i:Nat)(v:H)(ρ:aB):Option aB:=some (ρ.set i (some v))
noncomputable def p1:b3->b3
 | .next ρ σ=>.next (ρ.map fun J=>none) σ
 | .ret v ρ σ=>.ret v (ρ.map fun J=>none) σ
 | _=>.stuck
noncomputable def nB(f:aB->af->b3):b3->b3
 | .next ρ σ=>f ρ σ
 | o=>o
noncomputable def wX(f:Nat->aB->af->b3):b3->b3
 | .exc c ρ σ=>f c ρ σ
 | o=>o
noncomputable def ex(C:bq)(N:Nat):S->aB->af->b3
 | .nil,ρ,σ=>.next ρ σ
 | .cons a r,ρ,σ=>nB (fun ρ σ=>ex C N r ρ σ) (ex C N a ρ σ)
 | .asg i x,ρ,σ=>(ev C x ρ σ).toS ρ fun v σ=>.next (ρ.set i (some v)) σ
 | .asgSub o i x,ρ,σ=>(ev C x ρ σ).toS ρ fun v σ=>(ev C o ρ σ).toS ρ fun o σ=>(ev C i ρ σ).toS ρ fun i σ=>hN o i v ρ σ
 | .asgAttr c o n x,ρ,σ=>(ev C x ρ σ).toS ρ fun v σ=>(ev C o ρ σ).toS ρ fun o σ=>tu c o n v ρ σ
 | .asgT is x,ρ,σ=>bif C.hd then .stuck else(ev C x ρ σ).toS ρ fun v σ=>match gO is v ρ with
  | some ρ=>.next ρ σ
  | none=>.stuck
 | .forT is it body,ρ,σ=>bif C.hd then .stuck else(evIt C it ρ σ).toS ρ fun(xs,w) σ=>ch w (gO is) (fun ρ σ=>ex C N body ρ σ) xs ρ σ
 | .expr x,ρ,σ=>(ev C x ρ σ).toS ρ fun J σ=>.next ρ σ
 | .ret x,ρ,σ=>(ev C x ρ σ).toS ρ fun v σ=>.ret v ρ σ
 | .ret0,ρ,σ=>.ret .none ρ σ
 | .ife c a b,ρ,σ=>(tst C c ρ σ).toS ρ fun t σ=>if t then ex C N a ρ σ else ex C N b ρ σ
 | .for1 i it body,ρ,σ=>bif C.hd then .stuck else(evIt C it ρ σ).toS ρ fun(xs,w) σ=>ch w (dm i) (fun ρ σ=>ex C N body ρ σ) xs ρ σ
 | .whl c body,ρ,σ=>bif C.hd then .stuck else iH (fun ρ σ=>tst C c ρ σ) (fun ρ σ=>ex C N body ρ σ) N ρ σ
 | .brk,ρ,σ=>.brk ρ σ
 | .raise c,ρ,σ=>bif C.rz then .exc c ρ σ else .stuck
 | .tryE body eN i h,ρ,σ=>wX (fun c ρ σ=>bif C.rz then(if eN.contains c/\i<ρ.length then p1 (ex C.inH N h (ρ.set i (some (.exc c))) σ)else .stuck)else .stuck) (ex C N body ρ σ)
structure bI where
 params:Nat
 slots:Nat
 body:S
structure gI where
 fns:List bI
noncomputable def hE(P:gI)(N:Nat):Nat->Nat->Nat->List H->af->ah H
 | _,0,_,_,_=>.stuck
 | m,d+1,f,vs,σ=>match P.fns[f]? with
  | some fn=>if vs.length=fn.params then
    match ex ⟨fun m=>hE P N m d,m⟩ N fn.body (vs.map some++List.replicate (fn.slots-fn.params) none) σ with
    | .next _ σ=>.ok .none σ
    | .ret v _ σ=>.ok v σ
    | .exc i _ σ=>.exc i σ
    | _=>.stuck
   else .stuck
  | none=>.stuck
noncomputable def bv(P:gI)(N:Nat):Nat->Nat->List H->af->ah H:=hE P N 0
noncomputable def fK(P:gI)(N:Nat)(m:Nat)(d:Nat):bq:=⟨fun m=>hE P N m d,m⟩
theorem xB{dF:Type}[DecidableEq dF]{k bW:dF}{v:H}:∀{es:List (dF×H)},aC bW (eK k v es)=if bW=k then some v else aC bW es:=by
 intro es
 have cons:∀(e:dF×H) (es:List (dF×H)),aC bW (e::es)=if e.1=bW then some e.2 else aC bW es:=fun e es=>by
  unfold aC;rw[jz];by_cases q:e.1=bW
  ·rw[dI q,aE q];rfl
  ·rw[f0 q,a5 q]
 unfold eK;by_cases h:(es.any fun e=>decide (e.1=k))=true
 ·rw[aE h]
  induction es with
  | nil=>contradiction
  | cons e es ao =>
   rw[dw,cons,cons];by_cases q:e.1=k
   ·rw[aE q];by_cases q2:bW=k
    ·rw[aE (q.trans q2.symm),aE q2]
    ·rw[a5 (fun z=>q2 (z.symm.trans q)),a5 q2,a5 (fun z=>q2 (z.symm.trans q))];by_cases O:(es.any fun e=>decide (e.1=k))=true
     ·rw[ao O,a5 q2]
     ·congr 1;rw[List.map_congr_left (g:=id) fun e he=>?_,List.map_id];rw[a5];rfl;intro z;exact O (List.any_eq_true.mpr ⟨e,he,dI z⟩)
   ·rw[a5 q];rw[List.any_cons,f0 q,Bool.false_or]at h;rw[ao h];by_cases q2:bW=k
    ·rw[aE q2,a5 (fun z=>q (z.trans q2)),aE q2]
    ·rw[a5 q2,a5 q2]
 ·rw[a5 h]
  induction es with
  | nil =>
   show aC bW [(k,v)]=_;rw[cons];by_cases q:bW=k
   ·rw[aE q.symm,aE q]
   ·rw[a5 (fun z=>q z.symm),a5 q]
  | cons e es ao =>
   rw[List.any_cons,Bool.or_eq_true,not_or]at h;have L:e.1≠k:=fun z=>h.1 (dI z);rw[List.cons_append,cons,cons,ao h.2];by_cases q2:bW=k
   ·rw[aE q2,a5 (fun z=>L (z.trans q2)),aE q2]
   ·rw[a5 q2,a5 q2]
section
variable {α β γ δ ε ζ:Type}{a:Option α}{b:Option β}{c:Option γ}{d:Option δ}
noncomputable def cm(q:Bool)(o:Option α):Option α:=bif q then o else none
theorem cU{x:α}(h:cm q a=some x)(k:q=true->a=some x->P):P:=by
 cases q with
 | true=>exact k rfl h
 | false=>exact nomatch h
noncomputable def jl(a:Option α)(f:α->Option β)(y:Option β):Option β:=match a with
 | some x=>f x
 | none=>y
theorem kj{f:α->Option β}{y:Option β}{z:β}(h:jl a f y=some z)(k1:∀x,a=some x->f x=some z->P)(k2:a=none->y=some z->P):P:=by
 cases a with
 | none=>exact k2 rfl h
 | some x=>exact k1 x rfl h
theorem Du{o aP:Option α}{x:α}(h:(bif q then o else aP)=some x)(k1:q=true->o=some x->P)(k2:aP=some x->P):P:=by
 cases q with
 | true=>exact k1 rfl h
 | false=>exact k2 h
theorem qw{q:Prop}[Decidable q]{x:α}(h:(if q then a else none)=some x)(k:q->a=some x->P):P:=by
 by_cases hq:q
 ·exact k hq ((aE hq).symm.trans h)
 ·exact nomatch (a5 hq).symm.trans h
theorem cF{f:α->Option β}{z:β}(h:a.bind f=some z)(k:∀x,a=some x->f x=some z->P):P:=by
 cases a with
 | none=>exact nomatch h
 | some x=>exact k x rfl h
theorem fR{f:α->β}{M:β->Prop}{z:β}(h:a.map f=some z)(k:∀x,a=some x->M (f x)):M z:=by
 cases a with
 | none=>exact nomatch h
 | some x=>obtain rfl:=oi h;exact k x rfl
noncomputable def bR(a:Option α)(b:Option β)(f:α->β->ζ):Option ζ:=a.bind fun x=>b.map (f x)
theorem gf{f:α->β->ζ}{M:ζ->Prop}{z:ζ}(h:bR a b f=some z)(k:∀x y,a=some x->b=some y->M (f x y)):M z:=
 cF h fun x L h=>fR h fun y O=>k x y L O
noncomputable def kh(a:Option α)(b:Option β)(c:Option γ)(f:α->β->γ->ζ):Option ζ:=a.bind fun x=>bR b c (f x)
theorem kT{f:α->β->γ->ζ}{M:ζ->Prop}{z:ζ}(h:kh a b c f=some z)(k:∀x y w,a=some x->b=some y->c=some w->M (f x y w)):M z:=
 cF h fun x L h=>gf h fun y w O ax=>k x y w L O ax
noncomputable def JR(a:Option α)(b:Option β)(c:Option γ)(d:Option δ)(f:α->β->γ->δ->ζ):Option ζ:=a.bind fun x=>kh b c d (f x)
theorem Ub{f:α->β->γ->δ->ζ}{M:ζ->Prop}{z:ζ}(h:JR a b c d f=some z)(k:∀x y w u,a=some x->b=some y->c=some w->d=some u->M (f x y w u)):M z:=
 cF h fun x L h=>kT h fun y w u O ax aT=>k x y w u L O ax aT
noncomputable def kU:List α->Option α
 | []=>none
 | x::r=>cm r.isEmpty (some x)
theorem s8{l:List α}{x:α}(h:kU l=some x):l=[x]:=by
 cases l with
 | nil=>exact nomatch h
 | cons y r =>
  refine cU h fun L O=>?_;rw[hz.mp L,oi O]
end
noncomputable def dD(N names:List (Str×NameKind)):List (Str×NameKind):=names.map fun(n,k)=>if(k == .free&&N.lookup n == some .cell)then(n,.cell)else(n,k)
noncomputable def ip(N LJ:List (Str×NameKind)):List (Option Nat):=LJ.map fun(n,k)=>if k == .cell then N.findIdx? (·.1 == n)else none
structure bl where
 fns:List Str
 cst:List (Str×H)
 bins:List Str
 muts:List (Nat×Nat)
 excs:List (Str×Nat×List Nat)
 brd:Option (Str×Nat)
 meths:List Str
 dstr:List (Nat×Nat)
noncomputable def wT:Const->Option H
 | .none=>some .none
 | .bool b=>some (.bool b)
 | .int i=>some (.int i)
 | .str s=>cm (PyData.strOk s) (some (.str s))
 | _=>none
noncomputable def K4:Operator->Option mT
 | .Add=>some .add | .Sub=>some .sub | .Mult=>some .mul | .Mod=>some .mod | .FloorDiv=>some .fdiv | .Pow=>some .pow
 | _=>none
noncomputable def rd:CmpOp->Option iJ
 | .Eq=>some .eq | .NotEq=>some .ne | .Lt=>some .lt | .LtE=>some .le | .Gt=>some .gt | .GtE=>some .ge
 | .Is=>some .is | .IsNot=>some .isNot | .In=>some .isin | .NotIn=>some .notin
theorem o3{α:Type}{v:α}:∀{l:List (Str×α)},l.lookup x=some v->(x,v)∈l:=by
 intro l
 induction l with
 | nil =>
  intro h;cases h
 | cons bP l ao =>
  obtain⟨y,u⟩:=bP;intro h;rw[List.lookup_cons]at h
  cases hb:x == y with
  | true=>rw[hb]at h;cases h;exact(eq_of_beq hb)▸(.head _)
  | false=>rw[hb]at h;exact .tail _ (ao h)
noncomputable def xI(ba:Bool):List (Str×eG):=[("len",.len),("list",.list ba),("tuple",.tuple),("all",.all),("int",.int),("str",.str)
 ,("sum",.sum)
 ,("min",.min),("max",.max)
 ,("sorted",.sorted)
 ]
noncomputable def t8(ba:Bool)(x:Str):Option eG:=(xI ba).lookup x
noncomputable def Jk:List (Str×ie):=[("append",.append),("extend",.extend)
 ,("pop",.pop)
 ,("get",.get)
 ]
noncomputable def A4(x:Str):Option ie:=Jk.lookup x
noncomputable def Lc:List (Str×jZ):=[("int",.int),("str",.str),("bool",.bool),("tuple",.tuple)
 ,("list",.list)
 ]
noncomputable def Ce(x:Str):Option jZ:=Lc.lookup x
noncomputable def Db:List (Str×Value):=[("len",.builtin "len"),("list",.type "list"),("tuple",.type "tuple"),("min",.builtin "min"),("all",.builtin "all"),("int",.type "int"),("str",.type "str"),("bool",.type "bool"),("ValueError",.type "ValueError"),("isinstance",.builtin "isinstance"),("range",.type "range"),("set",.type "set")
 ,("sum",.builtin "sum")
 ,("max",.builtin "max")
 ,("sorted",.builtin "sorted")
 ,("dict",.type "dict")
 ,("enumerate",.type "enumerate")
 ,("zip",.type "zip")
 ]
noncomputable def lm(x:Str):Option Value:=Db.lookup x
noncomputable def ll:List Str:=["plan", "turns", "givers", "outer", "here", "gone", "order"]
noncomputable def ps:List (Str×NameKind)->Bool
 | []=>true
 | (x,k)::r=>!(r.any fun p=>p.1 == x)&&!(x == ("__debug__" : Str))&&(k == .local||k == .cell||k == .globalImplicit)&&ps r
noncomputable def AR:X->Bool
 | .range1 _=>true
 | .enum _=>true
 | .zip _=>true
 | _=>false
noncomputable def fW(f:Expr->Option X):List Expr->Option X
 | []=>some .nil
 | e::r=>bR (f e) (fW f r) .cons
noncomputable def Tt(T:bl)(x:Str)(i:Nat):NameKind->Option X
 | .local=>some (.v i)
 | .cell=>some (.v i)
 | .globalImplicit=>(T.cst.lookup x).map .k
 | _=>none
noncomputable def B3(T:bl)(N:List (Str×NameKind))(x:Str):Option X:=
 (N.findIdx? (·.1 == x)).bind fun i=>(N[i]?).bind fun q=>Tt T x i q.2
noncomputable def fQ(N:List (Str×NameKind))(x:Str):Bool:=N.lookup x == some .globalImplicit
noncomputable def mq(T:bl)(N:List (Str×NameKind))(x:Str):Bool:=fQ N x&&T.bins.contains x
noncomputable def AZ:Expr->Option Str
 | .Constant c _ _=>match c with
  | .str x=>cm (PyData.strOk x) (some x)
  | _=>none
 | _=>none
noncomputable def Ja:Expr->Option H
 | .Constant c _ _=>wT c
 | _=>none
noncomputable def rQ:List (Option Expr)->Option (List Str)
 | []=>some []
 | k::r=>bR (k.bind AZ) (rQ r) fun s l=>s::l
noncomputable def AY:List Expr->Option (List H)
 | []=>some []
 | e::r=>bR (Ja e) (AY r) fun s l=>s::l
noncomputable def xU(n:Nat)(l:List Expr):Option (List H):=cm (l.length == n) (AY l)
noncomputable def kZ(T:bl)(c:Nat):List Nat:=(T.excs.filter fun p=>p.2.1 == c||p.2.2.contains c).map (·.2.1)
noncomputable def m5(T:bl)(N:List (Str×NameKind))(x:Str):Option Nat:=cm (fQ N x) ((T.excs.lookup x).map (·.1))
noncomputable def yd(T:bl)(N:List (Str×NameKind))(x:Str):Option (List Nat):=
 jl (m5 T N x) (fun c=>some (kZ T c)) (cm (x == "ValueError" && mq T N x) (some (T.excs.map (·.2.1))))
noncomputable def Jz:(e:Expr)->Option { q:Str×Pos // e=.Name q.1 q.2 }
 | .Name x p=>some ⟨(x,p),rfl⟩
 | _=>none
noncomputable def nl(e:Expr):Option (Str×Pos):=(Jz e).map (·.1)
structure Cu where
 f:Expr
 as:List Expr
 ks:List Keyword
 pos:Pos
noncomputable def ud:(e:Expr)->Option { q:Cu // e=.Call q.f q.as q.ks q.pos }
 | .Call f as ks pos=>some ⟨⟨f,as,ks,pos⟩,rfl⟩
 | _=>none
structure xd where
 g:Str
 p:Pos
 a:Expr
 pos:Pos
noncomputable def rN(e:Expr):Option xd:=(ud e).bind fun c=>cm c.1.ks.isEmpty (bR (nl c.1.f) (kU c.1.as) fun n a=>⟨n.1,n.2,a,c.1.pos⟩)
structure xe where
 g:Str
 p:Pos
 as:List Expr
 pos:Pos
noncomputable def callN?(e:Expr):Option xe:=(ud e).bind fun c=>cm c.1.ks.isEmpty ((nl c.1.f).map fun n=>⟨n.1,n.2,c.1.as,c.1.pos⟩)
noncomputable def BX(T:bl)(N:List (Str×NameKind))(f:Expr->Option X)(g:Str)(k:Nat)(e:Expr):Option X:=
 (callN? e).bind fun q=>cm (q.g == g&&mq T N q.g&&q.as.length == k) (fW f q.as)
noncomputable def I7(T:bl)(N:List (Str×NameKind))(g:Str)(a:Expr):Option Expr:=
 (rN a).bind fun q=>cm (g == "len" && q.g == "set" && mq T N q.g) (some q.a)
noncomputable def B7(T:bl)(N:List (Str×NameKind))(f:Expr->Option X)(e:Expr):Option X:=
 (rN e).bind fun q=>cm (q.g == "range" && mq T N q.g) ((f q.a).map .range1)
noncomputable def B8(T:bl)(N:List (Str×NameKind))(f:Expr->Option X)(e:Expr):Option X:=
 B7 T N f e
noncomputable def B5(T:bl)(N:List (Str×NameKind))(f:Expr->Option X)(pos:Pos)(g:Str)(a:Expr):Option X:=
 jl (I7 T N g a) (fun x=>(f x).map (.b1 .lenset)) <|
 (bR (t8 (!(T.muts.contains (pos.line,pos.col))) g) (f a) .b1)
noncomputable def Cc(T:bl)(N:List (Str×NameKind))(f:Expr->Option X)(g:Str)(a b:Expr):Option X:=
 bif g == "isinstance" then
  (nl b).bind fun q =>
  jl (yd T N q.1) (fun eN=>(f a).map fun x=>.isexc x eN (T.excs.map (·.2.1)))
  (cm (mq T N q.1) (bR (f a) (Ce q.1) .isinst))
 else cm (g == "min") (bR (f a) (f b) .min2)
noncomputable def WO(T:bl)(N:List (Str×NameKind))(f:Expr->Option X)(pos:Pos)(g:Str):List Expr->Option X
 | []=>none
 | a::r=>match r with
  | []=>B5 T N f pos g a
  | b::r=>cm r.isEmpty (Cc T N f g a b)
noncomputable def B4(T:bl)(f:Expr->Option X)(g:Str)(args:List Expr):Option X:=
 T.brd.bind fun q=>cm (g == q.1&&!args.isEmpty) ((T.meths.findIdx? (· == ("__init__" : Str))).bind fun j=>(fW f args).map (.new q.2 (T.fns.length+j)))
noncomputable def BY(T:bl)(N:List (Str×NameKind))(f:Expr->Option X)(pos:Pos)(g:Str)(args:List Expr):Option X:=
 cm (fQ N g) (jl (T.fns.findIdx? (· == g)) (fun i=>cm (!args.isEmpty) ((fW f args).map (.call i))) (jl (B4 T f g args) some (cm (T.bins.contains g) (WO T N f pos g args))))
noncomputable def K3(f:Expr->Option X)(e:Expr):Option X:=(f e).bind fun x=>cm (!AR x) (some x)
noncomputable def pB(T:bl)(N:List (Str×NameKind))(f:Expr->Option X)(e:Expr):Option X:=
 jl (B8 T N f e) some (K3 f e)
noncomputable def K2(T:bl)(N:List (Str×NameKind))(f:Expr->Option X)(e:Expr):Option X:=
 (rN e).bind fun q=>cm (q.g == "enumerate" && mq T N q.g) ((f q.a).map .enum)
noncomputable def B1(f:Expr->Option X):List Expr->Option X
 | []=>some (.k (.bool true))
 | c::r=>cm r.isEmpty (f c)
noncomputable def wS(T:bl)(N:List (Str×NameKind))(f:List (Str×NameKind)->Expr->Option X)(elt:Expr)(x:Str)(iter:Expr)(ifs:List Expr)(scope:Scope)(pos:Pos):Option X:=
 cm (scope.kind == .function&&ps (dD N scope.names)&&scope.names.all (fun p=>p.2 != .cell))
  (((dD N scope.names).findIdx? (·.1 == x)).bind fun t=>cm ((dD N scope.names)[t]? == some (x,NameKind.local))
   (kh (pB T N (f N) iter) (f (dD N scope.names) elt) (B1 (f (dD N scope.names)) ifs) fun it elt c=>.comp (!(T.muts.contains (pos.line,pos.col))) t (ip N (dD N scope.names)) elt c it))
noncomputable def tC(f:Expr->Option X):Option Expr->Option X
 | none=>some (.k .none)
 | some e=>f e
noncomputable def qL:Expr->Bool
 | .Call _ a _ _=>!a.isEmpty
 | _=>true
noncomputable def BZ(f:Expr->Option X)(l:Expr)(os:List CmpOp)(gZ:List Expr):Option X:=
 match os with
 | []=>none
 | o::os=>match gZ with
  | []=>none
  | r::gZ=>match os with
   | []=>cm gZ.isEmpty (kh (rd o) (f l) (f r) fun o a b=>.cmp a o b)
   | bR::os=>match gZ with
    | []=>none
    | r2::gZ=>cm (os.isEmpty&&gZ.isEmpty) ((rd o).bind fun o=>JR (f l) (f r) (rd bR) (f r2) fun a b bR c=>.cmp2 a o b bR c)
noncomputable def Dx:(e:Expr)->Option { q:List (Option Expr)×List Expr×Pos // e=.Dict q.1 q.2.1 q.2.2 }
 | .Dict ks vs p=>some ⟨(ks,vs,p),rfl⟩
 | _=>none
noncomputable def IM(e:Expr):Option (List (Option Expr)×List Expr×Pos):=(Dx e).map (·.1)
noncomputable def B0(f:Expr->Option X)(ks:List (Option Expr))(vs:List Expr)(m:Str)(args:List Expr):Option X:=
 match args with
 | []=>none
 | k::r=>(kU r).bind fun d=>cm (m == "get") ((rQ ks).bind fun l=>cm (decide l.Nodup&&decide (l.length<=15)&&!l.isEmpty) (kh (xU ks.length vs) (f k) (f d) fun vs k d=>.fdget l vs k d))
noncomputable def W3(f:Expr->Option X)(o:Expr)(m:Str)(a:Expr):Option X:=kh (A4 m) (f o) (f a) fun m o a=>.me m o #v[a]
noncomputable def W6(T:bl)(f:Expr->Option X)(o:Expr)(m:Str):List Expr->Option X
 | []=>none
 | a::r=>match r with
  | []=>W3 f o m a
  | _::_=>none
noncomputable def W4(T:bl)(f:Expr->Option X)(o:Expr)(m:Str)(args:List Expr):Option X:=
 T.brd.bind fun q=>(T.meths.findIdx? (· == m)).bind fun j=>cm (decide (args.length<20)) (bR (f o) (fW f args) fun o xs=>.meth q.2 (T.fns.length+j) m o xs)
noncomputable def WQ(T:bl)(f:Expr->Option X)(o:Expr)(n:Str):Option X:=
 T.brd.bind fun q=>cm (qL o&&ll.contains n) ((f o).map fun o=>.attr q.2 o n)
noncomputable def B2(T:bl)(f:Expr->Option X)(o:Expr)(m:Str)(args:List Expr):Option X:=
 jl (IM o) (fun q=>B0 f q.1 q.2.1 m args) (cm (qL o)
  (bif T.meths.contains m then W4 T f o m args else W6 T f o m args))
noncomputable def WS(T:bl)(N:List (Str×NameKind))(f:Expr->Option X)(fn:Expr)(args:List Expr)(pos:Pos):Option X:=
 match fn with
 | .Name g _=>BY T N f pos g args
 | .Attribute o m f3=>cm (f3.endLine == pos.line) (B2 T f o m args)
 | _=>none
noncomputable def Xf(f:Expr->Option X)(o:Expr)(lo hi:Option Expr):Option Expr->Option X
 | none=>kh (f o) (tC f lo) (tC f hi) .slice
 | some _=>none
noncomputable def Kp:(e:Expr)->Option { q:Option Expr×Option Expr×Option Expr×Pos // e=.Slice q.1 q.2.1 q.2.2.1 q.2.2.2 }
 | .Slice lo hi st p=>some ⟨(lo,hi,st,p),rfl⟩
 | _=>none
noncomputable def C3(e:Expr):Option (Option Expr×Option Expr×Option Expr×Pos):=(Kp e).map (·.1)
noncomputable def Ca(f:Expr->Option X)(o i:Expr):Option X:=
 jl (C3 i) (fun q=>Xf f o q.1 q.2.1 q.2.2.1) (bR (f o) (f i) .sub)
noncomputable def tB(T:bl)(N:List (Str×NameKind))(f:List (Str×NameKind)->Expr->Option X)(elt:Expr)(gens:List Comprehension)(scope:Scope)(pos:Pos):Option X:=
 (kU gens).bind fun g=>cm (g.is_async == 0) ((nl g.target).bind fun q=>wS T N f elt q.1 g.iter g.ifs scope pos)
noncomputable def K5(T:bl)(f:List (Str×NameKind)->Expr->Option X)(N:List (Str×NameKind))(e:Expr):Option X:=
  match e with
  | .Constant c _ _=>(wT c).map .k
  | .Name x _=>B3 T N x
  | .BoolOp o es _=>match o with
   | .And=>(fW (f N) es).map .and
   | .Or=>(fW (f N) es).map .or
  | .UnaryOp o a _=>match o with
   | .Not=>(f N a).map .not
   | .USub=>(f N a).map .neg
   | _=>none
  | .BinOp l o r _=>kh (K4 o) (f N l) (f N r) .bin
  | .Compare l os gZ _=>BZ (f N) l os gZ
  | .List es pos=>(fW (f N) es).map (.lst (!(T.muts.contains (pos.line,pos.col))))
  | .Tuple es _ _=>(fW (f N) es).map .tup
  | .Call fn args I0 pos=>cm I0.isEmpty (WS T N (f N) fn args pos)
  | .Attribute o n _=>WQ T (f N) o n
  | .Subscript o i _=>Ca (f N) o i
  | .Dict ks vs pos=>cm (ks.isEmpty&&vs.isEmpty) (some (.dnew (!(T.dstr.contains (pos.line,pos.col)))))
  | .ListComp elt gens scope pos=>tB T N f elt gens scope pos
  | _=>none
noncomputable def rf(T:bl):Nat->List (Str×NameKind)->Expr->Option X
 | 0,_,_=>none
 | n+1,N,e=>K5 T (rf T n) N e
noncomputable def mu:Expr->Bool
 | .ListComp .. | .SetComp .. | .DictComp ..=>true
 | _=>false
noncomputable def BK:NameKind->Bool
 | .local=>true
 | .cell=>true
 | _=>false
noncomputable def mF(N:List (Str×NameKind))(x:Str):Option Nat:=
 (N.findIdx? (·.1 == x)).bind fun i=>(N[i]?).bind fun q=>cm (BK q.2) (some i)
noncomputable def ko(g:Stmt->Option S):List Stmt->Option S
 | []=>some .nil
 | st::r=>bR (g st) (ko g r) .cons
noncomputable def Ds:(e:Expr)->Option { q:Expr×List Comprehension×Scope×Pos // e=.ListComp q.1 q.2.1 q.2.2.1 q.2.2.2 }
 | .ListComp elt gens scope pos=>some ⟨(elt,gens,scope,pos),rfl⟩
 | _=>none
noncomputable def C2(e:Expr):Option (Expr×List Comprehension×Scope×Pos):=(Ds e).map (·.1)
noncomputable def nE(N:List (Str×NameKind)):List Expr->Option (List Nat)
 | []=>some []
 | e::r=>bR ((nl e).bind fun q=>mF N q.1) (nE N r) fun i l=>i::l
noncomputable def J5:Expr->Bool
 | .Name _ _=>true
 | .Call _ _ _ _=>true
 | .Subscript _ _ _=>true
 | _=>false
noncomputable def wR(T:bl)(N:List (Str×NameKind))(zU:List (Str×NameKind)->Expr->Option X)(f:Expr->Option X)(t v:Expr):Option S:=
 match t with
 | .Name z _=>jl (C2 v) (fun q=>bR (mF N z) (tB T N zU q.1 q.2.1 q.2.2.1 q.2.2.2) .asg) (cm (!mu v) (bR (mF N z) (f v) .asg))
 | .Subscript o i _=>cm (!mu v) (kh (f o) (f i) (f v) .asgSub)
 | .Attribute o n _=>T.brd.bind fun q=>cm (!mu v&&ll.contains n) (bR (f o) (f v) fun o v=>.asgAttr q.2 o n v)
 | .Tuple ts _ _=>cm (J5 v) (bR (nE N ts) (f v) .asgT)
 | _=>none
noncomputable def B6(T:bl)(N:List (Str×NameKind))(e:Option Expr):Option S:=
 (e.bind rN).bind fun q=>(AZ q.a).bind fun J=>(m5 T N q.g).map .raise
noncomputable def W0(T:bl)(N:List (Str×NameKind))(g:Stmt->Option S)(b:List Stmt):ExceptHandler->Option S
 | .ExceptHandler t y hb _=>(t.bind nl).bind fun q=>y.bind fun y=>(m5 T N q.1).bind fun c=>(mF N y).bind fun i=>cm (N[i]? == some (y,NameKind.local)&&!hb.isEmpty)
   (bR (ko g b) (ko g hb) fun b h=>.tryE b (kZ T c) i h)
noncomputable def Cb(T:bl)(N:List (Str×NameKind))(g:Stmt->Option S)(b:List Stmt)(hs:List ExceptHandler):Option S:=(kU hs).bind (W0 T N g b)
noncomputable def La:(e:Expr)->Option { q:List Expr×Nat×Pos // e=.Tuple q.1 q.2.1 q.2.2 }
 | .Tuple ts k p=>some ⟨(ts,k,p),rfl⟩
 | _=>none
noncomputable def Mg(e:Expr):Option (List Expr×Nat×Pos):=(La e).map (·.1)
noncomputable def Xl(T:bl)(N:List (Str×NameKind))(f:Expr->Option X)(e:Expr):Option X:=(BX T N f "zip" 2 e).map .zip
noncomputable def wU(T:bl)(N:List (Str×NameKind))(f:Expr->Option X)(e:Expr):Option X:=
 jl (K2 T N f e) some <|
 jl (Xl T N f e) some <|
 (pB T N f e)
noncomputable def B9(T:bl)(N:List (Str×NameKind))(zU:List (Str×NameKind)->Expr->Option X)(f:Expr->Option X)(g:Stmt->Option S)(st:Stmt):Option S:=
 match st with
 | .Assign ts v _=>(kU ts).bind fun t=>wR T N zU f t v
 | .Expr e _=>cm (!mu e) ((f e).map .expr)
 | .Return v _=>match v with
  | some e=>(f e).map .ret
  | none=>some .ret0
 | .If t b o _=>kh (f t) (ko g b) (ko g o) .ife
 | .For t it b o _=>cm o.isEmpty (jl (nl t) (fun q=>kh (mF N q.1) (pB T N f it) (ko g b) .for1) ((Mg t).bind fun q=>kh (nE N q.1) (wU T N f it) (ko g b) .forT))
 | .While t b o _=>cm o.isEmpty (bR (f t) (ko g b) .whl)
 | .Break _=>some .brk
 | .Raise e c _=>cm c.isNone (B6 T N e)
 | .Try b hs o G4 _=>cm (o.isEmpty&&G4.isEmpty) (Cb T N g b hs)
 | _=>none
noncomputable def tD(T:bl)(N:List (Str×NameKind))(f:List (Str×NameKind)->Expr->Option X):Nat->Stmt->Option S
 | 0,_=>none
 | n+1,st=>B9 T N f (f N) (tD T N f n) st
end
variable {m bJ:aV}{xs ys os cI:List H}{α α' bc js:ay}{C:bq}{ρ ρ' b4 fw:aB}{σ σ' ac au eg τ aL cJ:af}{cond:X}{f:List (Str×NameKind)->Expr->Option X}{es:List ((Str×Int)×H)}{T:bl}{St:Nat->Heap->ay->Prop}{tv pl cb sp bC:H}{wt:Option (Nat×aV)}{fs:List (Str×H)}{nm fd many room od st b8:Option H}{cO:S}{fn:bI}{iQ:H->aB->Option aB}
open PyProof.Rows
section
open PySem.W PySem.Calls
noncomputable def BC:Value->Option Addr
 | .ref a=>some a
 | _=>none
noncomputable def IJ:Value->Option Int
 | .int i _=>some i
 | _=>none
noncomputable def Kz:Value->Option Str
 | .str s _=>some s
 | _=>none
noncomputable def Hd:Data->Option FuncData
 | .func fd=>some fd
 | _=>none
noncomputable def Kg:Data->Option (Array Value×Nat)
 | .seq xs n=>some (xs,n)
 | _=>none
noncomputable def Kx:FuncBody->Option (List Stmt)
 | .stmts b=>some b
 | _=>none
noncomputable def VR(q:Str×Str×NameKind):Bool:=q.1 == q.2.1&&BK q.2.2
noncomputable def JZ(bk:List Str)(names:List (Str×NameKind)):Bool:=decide (bk.length<=names.length)&&(bk.zip names).all VR
noncomputable def isNone:Value->Bool
 | .none=>true
 | _=>false
noncomputable def zM(K:Frag)(fd:FuncData):Bool:=
 codeIn K fd.code fd.qualname&&fd.globals == mainGlobals&&fd.builtins == builtinsNs&&fd.closure.isEmpty&&fd.scope.kind == .function&&!fd.scope.isCoroutine&&!fd.scope.isGenerator&&ps fd.scope.names &&
  fd.params.posonlyargs.isEmpty&&fd.params.kwonlyargs.isEmpty&&fd.params.vararg.isNone&&fd.params.kwarg.isNone&&isNone fd.defaults&&JZ (fd.params.args.map (·.arg)) fd.scope.names
noncomputable def qH(T:bl)(n1 n2:Nat)(K:Frag)(q:Option (Option Value)):Option bI:=
 q.bind fun q=>q.bind fun v=>(BC v).bind fun a=>(K.lookup a).bind fun o=>(Hd o.data).bind fun fd=>(Kx fd.body).bind fun body =>
  cm (zM K fd) ((ko (tD T fd.scope.names (rf T n1) n2) body).map fun b=>⟨fd.params.args.length,fd.scope.names.length,b⟩)
noncomputable def ke(T:bl)(n1 n2:Nat)(K:Frag):List (Option (Option Value))->Option (List bI)
 | []=>some []
 | x::r=>bR (qH T n1 n2 K x) (ke T n1 n2 K r) List.cons
noncomputable def Bj(q:Value×H):Bool:=match q.2 with
 | .str s=>Kz q.1 == some s&&PyData.strOk s
 | _=>false
noncomputable def K9(o:Obj)(xs:List H):Bool:=o.cls == .type "tuple" && o.dict.isNone&&o.slots.isEmpty&&(Kg o.data).any fun q=>q.1.toList.length == xs.length&&(q.1.toList.zip xs).all Bj
noncomputable def Dj(K:Frag)(v:H)(u:Value):Bool:=match v with
 | .int i=>IJ u == some i
 | .str s=>Bj (u,.str s)
 | .tup xs=>((BC u).bind fun a=>K.lookup a).any fun o=>K9 o xs
 | _=>false
noncomputable def rP(K:Frag)(l:List (Str×H)):Bool:=l.all fun p=>((nsIn K mainGlobals p.1).bind id).any (Dj K p.2)
noncomputable def T1(K:Frag)(x:Str):Bool:=(nsIn K mainGlobals x).any Option.isNone
noncomputable def rM(K:Frag)(l:List Str):Bool:=(K.lookup sysModules).isSome&&l.all fun x=>T1 K x&&(lm x).isSome&&!(x == ("__name__" : Str))
noncomputable def jc(h:Heap):Frag:=(List.range h.objs.size).filterMap fun a=>(h.get? a).map fun o=>(a,o)
noncomputable def ov(F:PySem.W.Frag)(T:bl)(c:Nat):Bool:=
 findIn F (.ref c) "__getattribute__" == some (some (.builtin "BaseException.__getattribute__"))&&findIn F (.ref c) "__getattr__" == some none&&findIn F (.ref c) "__class__" == some (some (.builtin "object.__class__")) &&
  subIn F (.ref c) (.type "BaseException") == some true&&subIn F (.ref c) (.type "object") == some true&&(clsIn F c).isSome &&
  T.excs.all (fun q=>kitOne F (.ref c) (.ref q.2.1) == some ((kZ T q.2.1).contains c))&&kitOne F (.ref c) (.type "ValueError") == some true
noncomputable def uf(T:bl)(up:List Nat):List Str:=up.map fun d=>((T.excs.find? fun q=>q.2.1 == d).map (·.1)).getD ""
noncomputable def yb(h:Heap)(F:Frag)(T:bl)(p:Str×Nat×List Nat):Bool:=
 h.ownExcOk p.1 (uf T p.2.2) [.type "ValueError",.type "Exception",.type "BaseException",.type "object"] "ValueError.__new__" && nsIn F mainGlobals p.1 == some (some (.ref p.2.1))&&h.nsMap mainGlobals p.1 == some (.ref p.2.1) &&
  (uf T p.2.2).map (fun n=>(h.nsMap mainGlobals n).getD .none) == p.2.2.map Value.ref&&(uf T p.2.2).all fun n=>T.excs.any fun q=>q.1 == n
noncomputable def uw(h:Heap)(F:Frag)(T:bl):Bool:=
 (T.excs.all fun p=>yb h F T p&&ov F T p.2.1)
noncomputable def xL(K:Frag)(T:bl):Bool:=
 match T.brd with
 | none=>true
 | some (b,c)=>nsIn K mainGlobals b == some (some (.ref c))&&keepIn K (.ref c)&&makesIn K c&&plainOver K c&&(clsIn K c).any (·.hasDict)&&findIn K (.ref c) "__setattr__" == some (some (.builtin "object.__setattr__")) &&
   ll.all (fun n=>takerIn K c n == some none) &&
   findIn K (.ref c) "__getattribute__" == some (some (.builtin "object.__getattribute__"))&&findIn K (.ref c) "__getattr__" == some none&&ll.all (fun n=>findIn K (.ref c) n == some none) &&
   T.meths.all fun n=>(findIn K (.ref c) n).join.bind (typeIn K) == some (.type "function")
noncomputable def mf(T:bl)(K:Frag):List (Option (Option Value)):=T.fns.map (nsIn K mainGlobals ·)++T.meths.map (fun n=>T.brd.bind fun q=>findIn K (.ref q.2) n)
noncomputable def tA(h:Heap)(F:Frag)(T:bl):Bool:=uw h F T&&xL F T
noncomputable def viewOf(p:Program):Program:={ p with main:={ p.main with body:=p.main.body.filter fun s=>match s with | .Assign [.Name n _] _ _=>!(n == "__name__") | _=>true } }
noncomputable def wQ(p:Program)(w:World)(qM:Nat)(pZ:Option Value):Nat->SharedT->Thread->Option SharedT
 | 0,_,_=>none
 | n+1,s,t=>match through t with
  | true=>some s
  | false=>match PySem.W.Fast.tw6613529449190102663 qM pZ t with
   | false=>none
   | true=>match PySem.W.Fast.tw10156331382660048174 (PySem.W.Fast.tw11892475500146522536 PySem.W.Fast.tw14364793385576792824) p w s t with
    | some (s',bt)=>wQ p w qM pZ n s' bt
    | none=>none
noncomputable def tE:List Obj->Nat->BT->Option BT
 | [],_,t=>some t
 | o::l,n,t=>match((t.ins n o).get n).isSome with
  | true=>tE l (n+1) (t.ins n o)
  | false=>none
noncomputable def NS(p:Program)(h₀:Heap)(s₁:Shared):Option Shared:=
 match staticsOk (importedModules p.main.body) h₀ s₁.heap&&namesBound p s₁.heap&&gensDone s₁&&laidKept h₀ s₁.heap with
 | true=>some s₁
 | false=>none
noncomputable def sZ(p:Program)(w:World)(os:OsState)(N:Nat):Option Shared:=
 (tE (boot_heap w.params).objs.toList 0 .nil).bind fun T =>
  match(boot_heap w.params).isNs mainGlobals with
  | true=>(wQ p w (boot_heap w.params).objs.toList.length ((boot_heap w.params).nsMap mainGlobals "__annotations__") N ⟨T,(boot_heap w.params).objs.toList.length,(boot_heap w.params).life,#[],boot_drawn,boot_toks,os⟩ (topStub p)).bind fun s=>NS p (boot_heap w.params) s.abs
  | false=>none
noncomputable def vv(T:bl)(g:List (Option (Option Value))->List (Option (Option Value)))(s:Shared):Option (List bI):=ke T 40 30 (jc s.heap) (g (mf T (jc s.heap)))
noncomputable def TT:bl where
 fns:=[("giver_of" : Str),("end_of" : Str),("why" : Str),("is_value" : Str),("product" : Str),("chosen" : Str),("single" : Str),("outcome" : Str),("is_name" : Str),("are_names" : Str),("are_unlike" : Str),("is_rule" : Str),("is_step" : Str),("is_plan" : Str),("givers_of" : Str),("outside" : Str),("is_between" : Str),("_law_cell_at" : Str),("_law_next" : Str),("_law_names" : Str),("_law_value" : Str),("_law_given" : Str),("_law_rule" : Str),("_law_plan" : Str),("_law_outside" : Str),("_law_first" : Str),("_law_puts" : Str),("_law_needed" : Str),("_law_missing" : Str),("_law_fired" : Str),("_law_word" : Str),("_law_ready" : Str),("_law_some_done" : Str),("_law_giver" : Str),("_law_end_good" : Str),("_law_shown" : Str),("_law_asked" : Str),("_law_good" : Str),("_law_all_good" : Str),("_law_put_all" : Str),("law" : Str)]
 cst:=[("MOST_VALUE",.int 999999),("WRAP",.int 1000000),("LETTERS",.str "abcdefghijklmnopqrstuvwxyz"),("FIGURES",.str "0123456789"),("LONGEST",.int 8),("MOST_STEPS",.int 20),("MOST_NEEDS",.int 4),("MOST_GIVES",.int 3),("PLAIN_WORDS",.tup [.str "sum",.str "times",.str "least",.str "most"]),("MOST_TURNS",.int 200)]
 bins:=["len", "list", "tuple", "sum", "min", "max", "sorted", "all", "int", "str", "bool", "ValueError", "isinstance", "range", "enumerate", "zip", "set"]
 muts:=[(53,12),(140,12),(152,12),(175,21),(250,16),(274,17),(313,21),(314,16),(333,21),(336,17),(343,17),(349,17),(377,16),(397,17),(404,16),(505,16)]
 excs:=[("FireError",31,[]),("NoPlan",44,[31]),("NoTurn",56,[31]),("NoPlace",68,[31]),("NoValue",80,[31]),("TokenThere",92,[31]),("NoStep",104,[31]),("Fired",116,[31]),("NotReady",128,[31]),("IsReady",140,[31]),("NoText",152,[31])]
 brd:=some ("Board",365)
 meths:=["__init__", "need_place", "need_turn", "need_step", "put", "missed", "has_fired", "is_ready", "fire"]
 dstr:=[(145,12)]
noncomputable abbrev AH:Nat:=0
noncomputable abbrev Io:Nat:=1
noncomputable abbrev v1:Nat:=2
noncomputable abbrev sR:Nat:=3
noncomputable abbrev IA:Nat:=4
noncomputable abbrev Im:Nat:=5
noncomputable abbrev IB:Nat:=6
noncomputable abbrev AM:Nat:=7
noncomputable abbrev vY:Nat:=8
noncomputable abbrev mm:Nat:=9
noncomputable abbrev oZ:Nat:=10
noncomputable abbrev Ip:Nat:=11
noncomputable abbrev Iq:Nat:=12
noncomputable abbrev vZ:Nat:=13
noncomputable abbrev vX:Nat:=14
noncomputable abbrev AN:Nat:=15
noncomputable abbrev lB:Nat:=16
noncomputable abbrev fP:Nat:=17
noncomputable abbrev jg:Nat:=18
noncomputable abbrev sS:Nat:=19
noncomputable abbrev sV:Nat:=20
noncomputable abbrev It:Nat:=21
noncomputable abbrev AL:Nat:=22
noncomputable abbrev Iu:Nat:=23
noncomputable abbrev mo:Nat:=24
noncomputable abbrev AJ:Nat:=25
noncomputable abbrev Iw:Nat:=26
noncomputable abbrev sT:Nat:=27
noncomputable abbrev qs:Nat:=28
noncomputable abbrev qr:Nat:=29
noncomputable abbrev Iz:Nat:=30
noncomputable abbrev sU:Nat:=31
noncomputable abbrev Iy:Nat:=32
noncomputable abbrev AK:Nat:=33
noncomputable abbrev Ir:Nat:=34
noncomputable abbrev Ix:Nat:=35
noncomputable abbrev kM:Nat:=36
noncomputable abbrev v0:Nat:=37
noncomputable abbrev AI:Nat:=38
noncomputable abbrev Iv:Nat:=39
noncomputable abbrev Ri:Nat:=40
noncomputable abbrev AG:Nat:=41
noncomputable abbrev Il:Nat:=42
noncomputable abbrev qq:Nat:=43
noncomputable abbrev vW:Nat:=44
noncomputable abbrev oY:Nat:=45
noncomputable abbrev qp:Nat:=46
noncomputable abbrev ml:Nat:=47
noncomputable abbrev sQ:Nat:=48
noncomputable abbrev qo:Nat:=49
noncomputable abbrev Cn:Nat:=56
noncomputable abbrev Lq:Nat:=104
noncomputable abbrev X3:Nat:=116
noncomputable abbrev X4:Nat:=140
noncomputable abbrev bw:Nat:=365
noncomputable abbrev bD(i:Nat):Option H:=some (.inst bw i)
noncomputable def Eu:S:=(.asg 3 (.sub (.attr 365 (.v 0) "givers") (.v 1)))
noncomputable def Ev:S:=(.ret (.tup #v[(.v 3),(.bin .sub (.v 2) (aa 1))]))
noncomputable def uQ:S:=(.ife (.cmp (.sub (.sub (.v 3) (aa 1)) (aa 0)) .eq (.k (.str "later"))) #v[Ev] .nil)
noncomputable def Ew:S:=(.ret (.tup #v[(.v 3),(.v 2)]))
noncomputable def Et:bI:=⟨3,4,#v[Eu,uQ,Ew]⟩
noncomputable def yt:S:=(.ife (.cmp (.v 1) .notin (.attr 365 (.v 0) "givers")) #v[(.ret (.tup #v[(.k (.str "outside"))]))] .nil)
noncomputable def yu:S:=(.asgT [4,5] (.call AH #v[(.v 0),(.v 1),(.v 2)]))
noncomputable def uO:S:=(.ife (.cmp (.v 5) .lt (aa 0)) #v[(.ret (.tup #v[(.k (.str "first"))]))] .nil)
noncomputable def yv:S:=(.ife (.meth 365 ml "has_fired" (.v 0) #v[(.sub (.v 4) (aa 0)),(.v 5)]) #v[(.ret (.tup #v[(.k (.str "left"))]))] .nil)
noncomputable def uP:S:=(.ife (.meth 365 sQ "is_ready" (.v 0) #v[(.v 4),(.v 5)]) #v[(.ret (.tup #v[(.k (.str "ready"))]))] .nil)
noncomputable def Es:S:=(.ret (.tup #v[(.k (.str "ring")),(.sub (.v 3) (.tup #v[(.sub (.v 4) (aa 0)),(.v 5)]))]))
noncomputable def yw:S:=(.ife (.cmp (.tup #v[(.sub (.v 4) (aa 0)),(.v 5)]) .isin (.v 3)) #v[Es] .nil)
noncomputable def Er:bI:=⟨4,7,#v[yt,yu,uO,yv,uP,yw,(.ret (.k .none))]⟩
noncomputable def vq:S:=(.asg 3 (.meth 365 vW "need_step" (.v 0) #v[(.v 1)]))
noncomputable def r9:S:=(.expr (.meth 365 qq "need_turn" (.v 0) #v[(.v 2)]))
noncomputable def sa:S:=(.ife (.meth 365 ml "has_fired" (.v 0) #v[(.v 1),(.v 2)]) #v[(.raise 116)] .nil)
noncomputable def vu:S:=(.ife (.meth 365 sQ "is_ready" (.v 0) #v[(.v 3),(.v 2)]) #v[(.raise 140)] .nil)
noncomputable def zC:S:=(.asg 4 (.lst false .nil))
noncomputable def zD:S:=(.asg 5 (.dnew true))
noncomputable def zE:S:=(.asg 6 (.v 2))
noncomputable def zF:S:=(.asg 7 (.k .none))
noncomputable def zH:S:=(.asgSub (.v 5) (.tup #v[(.sub (.v 3) (aa 0)),(.v 6)]) (.b1 .len (.v 4)))
noncomputable def zI:S:=(.asg 8 (.meth 365 qp "missed" (.v 0) #v[(.v 3),(.v 6)]))
noncomputable def zJ:S:=(.expr (.me .append (.v 4) #v[(.tup #v[(.sub (.v 3) (aa 0)),(.v 6),(.v 8)])]))
noncomputable def zK:S:=(.asg 7 (.call Io #v[(.v 0),(.v 8),(.v 6),(.v 5)]))
noncomputable def G2:S:=(.asgT [3,6] (.call AH #v[(.v 0),(.v 8),(.v 6)]))
noncomputable def zL:S:=(.ife (.cmp (.v 7) .is (.k .none)) #v[G2] .nil)
noncomputable def G1:S:=#v[zH,zI,zJ,zK,zL]
noncomputable def zG:S:=(.whl (.cmp (.v 7) .is (.k .none)) G1)
noncomputable def G3:S:=(.ret (.tup #v[(.v 4),(.v 7)]))
noncomputable def qd:bI:=⟨3,14,#v[vq,r9,sa,vu,zC,zD,zE,zF,zG,G3]⟩
noncomputable def uZ:bI:=⟨1,5,#v[(.ret (.and #v[(.isinst (.v 0) .int),(.not (.isinst (.v 0) .bool)),(.cmp2 (aa 0) .le (.v 0) .le (aa 999999))]))]⟩
noncomputable def GU:S:=(.asg 1 (.bin .mod (.bin .mul (.v 1) (.v 2)) (aa 1000000)))
noncomputable def GS:S:=#v[GU]
noncomputable def GR:S:=(.for1 2 (.v 0) GS)
noncomputable def GQ:bI:=⟨1,4,#v[(.asg 1 (aa 1)),GR,(.ret (.v 1))]⟩
noncomputable def uN:S:=(.ife (.cmp (.sub (.v 0) (aa 0)) .eq (aa 0)) #v[(.ret (.sub (.v 0) (aa 1)))] .nil)
noncomputable def Ep:S:=(.ret (.sub (.v 0) (aa 2)))
noncomputable def Eo:bI:=⟨1,1,#v[uN,Ep]⟩
noncomputable def m7:S:=(.asg 2 (.sub (.v 0) (aa 0)))
noncomputable def GW:S:=(.ret (.bin .mod (.b1 .sum (.v 1)) (aa 1000000)))
noncomputable def mc:S:=(.ife (.cmp (.v 2) .eq (.k (.str "sum"))) #v[GW] .nil)
noncomputable def GX:S:=(.ret (.call IA #v[(.v 1)]))
noncomputable def m8:S:=(.ife (.cmp (.v 2) .eq (.k (.str "times"))) #v[GX] .nil)
noncomputable def GY:S:=(.ret (.b1 .min (.v 1)))
noncomputable def oB:S:=(.ife (.cmp (.v 2) .eq (.k (.str "least"))) #v[GY] .nil)
noncomputable def GZ:S:=(.ret (.b1 .max (.v 1)))
noncomputable def r8:S:=(.ife (.cmp (.v 2) .eq (.k (.str "most"))) #v[GZ] .nil)
noncomputable def vo:S:=(.ife (.cmp (.v 2) .eq (.k (.str "fixed"))) #v[(.ret (.sub (.v 0) (aa 1)))] .nil)
noncomputable def G0:S:=(.ret (.call Im #v[(.v 1)]))
noncomputable def vp:S:=(.ife (.cmp (.v 2) .eq (.k (.str "choose"))) #v[G0] .nil)
noncomputable def zB:S:=(.ret (.sub (.v 1) (aa 0)))
noncomputable def GV:bI:=⟨2,9,#v[m7,mc,m8,oB,r8,vo,vp,zB]⟩
noncomputable def zx:S:=(.ife (.cmp (.sub (.v 1) (aa 1)) .eq (aa 0)) #v[(.ret (.lst true #v[(.sub (.v 1) (aa 0)),(.k .none)]))] .nil)
noncomputable def r7:S:=(.ife (.cmp (.sub (.v 0) (aa 0)) .eq (.k (.str "way"))) #v[zx,(.ret (.lst true #v[(.k .none),(.sub (.v 1) (aa 0))]))] .nil)
noncomputable def zy:S:=(.asg 3 (.call IB #v[(.v 0),(.v 1)]))
noncomputable def GK:X:=(.comp true 1 [none,none,some 3] (.v 2) (.k (.bool true)) (.range1 (.v 2)))
noncomputable def zz:S:=(.ret GK)
noncomputable def GJ:bI:=⟨3,6,#v[r7,zy,zz]⟩
noncomputable def uR:S:=(.ife (.or #v[(.not (.isinst (.v 0) .str)),(.not (.cmp2 (aa 1) .le (.b1 .len (.v 0)) .le (aa 8))),(.cmp (.sub (.v 0) (aa 0)) .notin (.k (.str "abcdefghijklmnopqrstuvwxyz")))]) #v[(.ret (.k (.bool false)))] .nil)
noncomputable def yz:S:=(.ret (.b1 .all (.comp true 1 [none,none,none,none] (.or #v[(.cmp (.v 1) .isin (.k (.str "abcdefghijklmnopqrstuvwxyz"))),(.cmp (.v 1) .isin (.k (.str "0123456789")))]) (.k (.bool true)) (.v 0))))
noncomputable def Ez:bI:=⟨1,7,#v[uR,yz]⟩
noncomputable def uL:bI:=⟨2,6,#v[(.ret (.and #v[(.isinst (.v 0) .tuple),(.cmp2 (aa 1) .le (.b1 .len (.v 0)) .le (.v 1)),(.b1 .all (.comp true 1 [none,none,none] (.call vY #v[(.v 1)]) (.k (.bool true)) (.v 0)))]))]⟩
noncomputable def uM:bI:=⟨1,3,#v[(.ret (.cmp (.b1 .lenset (.v 0)) .eq (.b1 .len (.v 0))))]⟩
noncomputable def uU:S:=(.ife (.or #v[(.not (.isinst (.v 0) .tuple)),(.cmp (.b1 .len (.v 0)) .eq (aa 0)),(.not (.isinst (.sub (.v 0) (aa 0)) .str))]) #v[(.ret (.k (.bool false)))] .nil)
noncomputable def r3:S:=(.ife (.cmp (.sub (.v 0) (aa 0)) .eq (.k (.str "fixed"))) #v[(.ret (.and #v[(.cmp (.b1 .len (.v 0)) .eq (aa 2)),(.call sR #v[(.sub (.v 0) (aa 1))])]))] .nil)
noncomputable def yD:S:=(.ife (.cmp (.b1 .len (.v 0)) .ne (aa 1)) #v[(.ret (.k (.bool false)))] .nil)
noncomputable def uV:S:=(.ife (.cmp (.sub (.v 0) (aa 0)) .eq (.k (.str "later"))) #v[(.ret (.cmp (.v 1) .eq (aa 1)))] .nil)
noncomputable def uW:S:=(.ife (.cmp (.sub (.v 0) (aa 0)) .eq (.k (.str "way"))) #v[(.ret (.and #v[(.cmp (.v 1) .eq (aa 2)),(.cmp (.v 2) .eq (aa 2))]))] .nil)
noncomputable def uX:S:=(.ife (.cmp (.sub (.v 0) (aa 0)) .eq (.k (.str "choose"))) #v[(.ret (.cmp (.v 1) .eq (aa 3)))] .nil)
noncomputable def yE:S:=(.ret (.cmp (.sub (.v 0) (aa 0)) .isin (.k (.tup [(.str "sum"),(.str "times"),(.str "least"),(.str "most")]))))
noncomputable def uT:bI:=⟨3,9,#v[uU,r3,yD,uV,uW,uX,yE]⟩
noncomputable def uY:S:=(.ife (.or #v[(.not (.isinst (.v 0) .tuple)),(.cmp (.b1 .len (.v 0)) .ne (aa 4)),(.not (.call vY #v[(.sub (.v 0) (aa 0))]))]) #v[(.ret (.k (.bool false)))] .nil)
noncomputable def qb:S:=(.ife (.or #v[(.not (.call mm #v[(.sub (.v 0) (aa 2)),(aa 4)])),(.not (.call mm #v[(.sub (.v 0) (aa 3)),(aa 3)])),(.not (.call oZ #v[(.sub (.v 0) (aa 3))]))]) #v[(.ret (.k (.bool false)))] .nil)
noncomputable def yF:S:=(.ret (.call Ip #v[(.sub (.v 0) (aa 1)),(.b1 .len (.sub (.v 0) (aa 2))),(.b1 .len (.sub (.v 0) (aa 3)))]))
noncomputable def EE:bI:=⟨1,10,#v[uY,qb,yF]⟩
noncomputable def EB:X:=(.comp true 1 [none,none,none] (.call Iq #v[(.v 1)]) (.k (.bool true)) (.v 0))
noncomputable def uS:S:=(.ife (.or #v[(.not (.isinst (.v 0) .tuple)),(.not (.cmp2 (aa 1) .le (.b1 .len (.v 0)) .le (aa 20))),(.not (.b1 .all EB))]) #v[(.ret (.k (.bool false)))] .nil)
noncomputable def yA:S:=(.asg 2 (.lst false .nil))
noncomputable def ED:S:=#v[(.expr (.me .extend (.v 2) #v[(.sub (.v 1) (aa 3))]))]
noncomputable def yB:S:=(.for1 1 (.v 0) ED)
noncomputable def EC:X:=(.comp true 1 [none,none] (.sub (.v 1) (aa 0)) (.k (.bool true)) (.v 0))
noncomputable def yC:S:=(.ret (.and #v[(.call oZ #v[EC]),(.call oZ #v[(.v 2)])]))
noncomputable def EA:bI:=⟨1,9,#v[uS,yA,yB,yC]⟩
noncomputable def Ey:S:=#v[(.asgSub (.v 1) (.v 3) (.v 2))]
noncomputable def Ex:S:=#v[(.for1 3 (.sub (.v 2) (aa 3)) Ey)]
noncomputable def yx:bI:=⟨1,4,#v[(.asg 1 (.dnew false)),(.for1 2 (.v 0) Ex),(.ret (.v 1))]⟩
noncomputable def GL:S:=(.asg 1 (.call vX #v[(.v 0)]))
noncomputable def GN:S:=(.asg 2 (.lst false .nil))
noncomputable def GP:S:=#v[(.ife (.and #v[(.cmp (.v 4) .notin (.v 1)),(.cmp (.v 4) .notin (.v 2))]) #v[(.expr (.me .append (.v 2) #v[(.v 4)]))] .nil)]
noncomputable def GO:S:=#v[(.for1 4 (.sub (.v 3) (aa 2)) GP)]
noncomputable def zA:bI:=⟨1,6,#v[GL,GN,(.for1 3 (.v 0) GO),(.ret (.v 2))]⟩
noncomputable def yy:bI:=⟨3,6,#v[(.ret (.and #v[(.isinst (.v 0) .int),(.not (.isinst (.v 0) .bool)),(.cmp2 (.v 1) .le (.v 0) .le (.v 2))]))]⟩
noncomputable def r4:bI:=⟨2,3,#v[(.ife (.cmp (.v 1) .lt (.b1 .len (.v 0))) #v[(.ret (.sub (.v 0) (.v 1)))] .nil),(.ret (aa 0))]⟩
noncomputable def vb:bI:=⟨1,2,#v[(.asg 1 (.bin .mod (.bin .add (.bin .mul (.v 0) (aa 48271)) (aa 11)) (aa 2147483647))),(.ret (.bin .mod (.bin .mul (.v 1) (.v 1)) (aa 2147483629)))]⟩
noncomputable def Fj:X:=(.comp true 1 [none,none,some 0,some 1] (.bin .add (.sub (.v 3) (.bin .mod (.bin .add (.bin .fdiv (.v 2) (aa 9)) (.v 1)) (aa 12))) (.sub (.lst true #v[(.k (.str "")),(.k (.str "x"))]) (.bin .fdiv (.v 1) (aa 12)))) (.k (.bool true)) (.range1 (aa 24)))
noncomputable def yW:S:=(.ife (.cmp (.bin .mod (.v 0) (aa 9)) .eq (aa 8)) #v[(.asg 1 (.lst true #v[(.k (.str "sum")),(.k (.str "later")),(.k (.str "way")),(.k (.str "fixed")),(.k (.str "a9")),(.k (.str "b")),(.k (.str "times")),(.k (.str "choose")),(.k (.str "least")),(.k (.str "most")),(.k (.str "z0")),(.k (.str "put"))])),(.ret Fj)] .nil)
noncomputable def Fk:S:=(.asg 3 (.bin .add (aa 1) (.bin .mod (.v 0) (aa 8))))
noncomputable def Fl:S:=(.asg 4 (.bin .mod (.bin .fdiv (.v 0) (aa 8)) (.v 3)))
noncomputable def yX:S:=#v[(.asg 6 (.sub (.v 1) (.bin .mod (.bin .add (.bin .fdiv (.v 0) (aa 64)) (.v 2)) (.sub (.lst true #v[(aa 26),(aa 36)]) (.b1 .int (.cmp (.v 4) .gt (aa 0))))))),(.expr (.me .append (.v 5) #v[(.bin .add (.bin .add (.bin .mul (.k (.str "m")) (.v 4)) (.v 6)) (.bin .mul (.k (.str "m")) (.bin .sub (.bin .sub (.v 3) (aa 1)) (.v 4))))]))]
noncomputable def Fm:S:=(.for1 2 (.range1 (aa 24)) yX)
noncomputable def va:bI:=⟨1,9,#v[yW,Fk,Fl,(.asg 1 (.k (.str "abcdefghijklmnopqrstuvwxyz0123456789"))),(.asg 5 (.lst false .nil)),Fm,(.ret (.v 5))]⟩
noncomputable def vn:bI:=⟨1,1,#v[(.ife (.cmp (.bin .mod (.v 0) (aa 4)) .eq (aa 0)) #v[(.ret (.sub (.lst true #v[(aa 0),(aa 0),(aa 1),(aa 999999)]) (.bin .mod (.bin .fdiv (.v 0) (aa 4)) (aa 4))))] .nil),(.ife (.cmp (.bin .mod (.v 0) (aa 4)) .eq (aa 1)) #v[(.ret (.bin .mod (.bin .fdiv (.v 0) (aa 4)) (.bin .pow (aa 10) (aa 6))))] .nil),(.ret (.bin .mod (.bin .fdiv (.v 0) (aa 4)) (aa 5)))]⟩
noncomputable def E2:S:=(.ret (.sub (.lst true #v[(.lst true #v[(.sub (.v 1) (aa 0)),(.k .none)]),(.lst true #v[(.k .none),(.sub (.v 1) (aa 0))])]) (.b1 .int (.cmp (.sub (.v 1) (aa 1)) .ne (aa 0)))))
noncomputable def E1:S:=(.ife (.cmp (.sub (.v 0) (aa 0)) .eq (.k (.str "way"))) #v[E2] .nil)
noncomputable def E3:S:=(.asg 3 (.sub (.v 1) (aa 0)))
noncomputable def E4:S:=(.asg 3 (.bin .mod (.b1 .sum (.v 1)) (.bin .pow (aa 10) (aa 6))))
noncomputable def oy:S:=(.ife (.cmp (.sub (.v 0) (aa 0)) .eq (.k (.str "sum"))) #v[E4] .nil)
noncomputable def E7:S:=(.asg 3 (.bin .mod (.bin .mul (.v 3) (.v 4)) (.bin .pow (aa 10) (aa 6))))
noncomputable def E6:S:=#v[E7]
noncomputable def E5:S:=(.for1 4 (.v 1) E6)
noncomputable def oz:S:=(.ife (.cmp (.sub (.v 0) (aa 0)) .eq (.k (.str "times"))) #v[(.asg 3 (aa 1)),E5] .nil)
noncomputable def yR:S:=(.asg 3 (.sub (.b1 .sorted (.v 1)) (.sub (.lst true #v[(aa 0),(.neg (aa 1))]) (.b1 .int (.cmp (.sub (.v 0) (aa 0)) .eq (.k (.str "most")))))))
noncomputable def oA:S:=(.ife (.cmp (.sub (.v 0) (aa 0)) .isin (.tup #v[(.k (.str "least")),(.k (.str "most"))])) #v[yR] .nil)
noncomputable def E9:S:=(.asg 3 (.sub (.v 1) (.bin .add (aa 1) (.b1 .int (.cmp (.sub (.v 1) (aa 0)) .ne (aa 0))))))
noncomputable def E8:S:=(.ife (.cmp (.sub (.v 0) (aa 0)) .eq (.k (.str "choose"))) #v[E9] .nil)
noncomputable def E0:X:=(.comp true 1 [none,none,some 3] (.v 2) (.k (.bool true)) (.range1 (.v 2)))
noncomputable def yS:S:=(.ret E0)
noncomputable def EZ:bI:=⟨3,9,#v[E1,E3,oy,oz,oA,(.ife (.cmp (.sub (.v 0) (aa 0)) .eq (.k (.str "fixed"))) #v[(.asg 3 (.sub (.v 0) (aa 1)))] .nil),E8,yS]⟩
noncomputable def vf:bI:=⟨2,4,#v[(.asg 2 (.sub (.lst true #v[(.k (.str "sum")),(.k (.str "times")),(.k (.str "least")),(.k (.str "most")),(.k (.str "fixed")),(.k (.str "later")),(.k (.str "later")),(.k (.str "way")),(.k (.str "choose")),(.k (.str "way")),(.k (.str "choose")),(.k (.str "sum"))]) (.v 1))),(.ife (.cmp (.v 2) .eq (.k (.str "fixed"))) #v[(.ret (.tup #v[(.k (.str "fixed")),(.call sV #v[(.v 0)])]))] .nil),(.ret (.tup #v[(.v 2)]))]⟩
noncomputable def Fy:S:=(.asg 2 (.call sS #v[(.call fP #v[(.v 0),(.v 1)])]))
noncomputable def vc:S:=(.asg 3 (.sub (.lst true #v[(aa 1),(aa 2),(aa 3),(aa 4),(aa 6),(aa 8)]) (.bin .mod (.call fP #v[(.v 0),(.bin .add (.v 1) (aa 1))]) (aa 6))))
noncomputable def Fz:S:=(.asg 3 (.bin .add (aa 9) (.bin .mod (.bin .fdiv (.call fP #v[(.v 0),(.bin .add (.v 1) (aa 1))]) (aa 60)) (aa 12))))
noncomputable def vd:S:=(.ife (.cmp (.bin .mod (.bin .fdiv (.call fP #v[(.v 0),(.bin .add (.v 1) (aa 1))]) (aa 6)) (aa 10)) .eq (aa 1)) #v[Fz] .nil)
noncomputable def y1:S:=(.asg 4 (.sub (.lst true #v[(aa 2),(aa 4),(aa 6),(aa 9)]) (.bin .mod (.call fP #v[(.v 0),(.bin .add (.v 1) (aa 2))]) (aa 4))))
noncomputable def FA:S:=(.asg 5 (.lst false .nil))
noncomputable def Fv:X:=(.comp false 1 [none,none,some 2] (.sub (.v 2) (.v 1)) (.k (.bool true)) (.range1 (.min2 (aa 24) (.bin .add (.v 4) (.v 3)))))
noncomputable def y2:S:=(.asg 7 Fv)
noncomputable def y3:S:=(.asg 8 (.b1 (.list true) (.v 7)))
noncomputable def y4:S:=(.asg 9 (.call jg #v[(.bin .add (.call fP #v[(.v 0),(.bin .add (.bin .add (.v 1) (aa 3)) (.bin .mod (.v 6) (aa 8)))]) (.bin .mul (aa 977) (.v 6)))]))
noncomputable def y5:S:=(.asg 10 (.call AL #v[(.call jg #v[(.v 9)]),(.bin .mod (.bin .fdiv (.v 9) (aa 5)) (aa 12))]))
noncomputable def y6:S:=(.asg 11 (.call jg #v[(.bin .add (.v 9) (aa 1))]))
noncomputable def y7:S:=(.asg 12 (.sub (.lst true #v[(.bin .add (aa 1) (.bin .mod (.v 11) (aa 4))),(aa 1)]) (.b1 .int (.cmp (.sub (.v 10) (aa 0)) .eq (.k (.str "later"))))))
noncomputable def y8:S:=(.asg 12 (.fdget ["way", "choose"] [(.int 2),(.int 3)] (.sub (.v 10) (aa 0)) (.v 12)))
noncomputable def y9:S:=(.asg 13 (.fdget ["way"] [(.int 2)] (.sub (.v 10) (aa 0)) (.sub (.lst true #v[(aa 1),(aa 1),(aa 1),(aa 2),(aa 3)]) (.bin .mod (.bin .fdiv (.v 11) (aa 4)) (aa 5)))))
noncomputable def za:S:=(.asg 13 (.min2 (.v 13) (.b1 .len (.v 7))))
noncomputable def zb:S:=(.ife (.or #v[(.cmp (.v 13) .eq (aa 0)),(.and #v[(.cmp (.sub (.v 10) (aa 0)) .eq (.k (.str "way"))),(.cmp (.v 13) .lt (aa 2))])]) #v[.brk] .nil)
noncomputable def Fw:X:=(.comp true 1 [none,none,none,none,some 11,some 8] (.sub (.v 5) (.bin .mod (.call jg #v[(.bin .add (.v 4) (.bin .mul (aa 7) (.v 1)))]) (.b1 .len (.v 5)))) (.k (.bool true)) (.range1 (.v 12)))
noncomputable def FE:S:=(.asg 14 Fw)
noncomputable def Fx:X:=(.comp true 1 [none,none,none,none,some 7,some 11] (.me .pop (.v 4) #v[(.bin .mod (.call jg #v[(.bin .add (.bin .add (.v 5) (.bin .mul (aa 31) (.v 1))) (aa 5))]) (.b1 .len (.v 4)))]) (.k (.bool true)) (.range1 (.v 13)))
noncomputable def FF:S:=(.asg 15 Fx)
noncomputable def FD:S:=(.expr (.me .append (.v 5) #v[(.tup #v[(.sub (.v 2) (.bin .sub (aa 23) (.v 6))),(.v 10),(.b1 .tuple (.v 14)),(.b1 .tuple (.v 15))])]))
noncomputable def ve:S:=#v[y4,y5,y6,y7,y8,y9,za,zb,FE,FF,FD]
noncomputable def FC:S:=(.for1 6 (.range1 (.v 3)) ve)
noncomputable def FG:S:=(.expr (.me .append (.v 5) #v[(.tup #v[(.sub (.v 2) (aa 0)),(.tup #v[(.k (.str "sum"))]),(.tup #v[(.sub (.v 2) (aa 0))]),(.tup #v[(.sub (.v 2) (aa 1))])])]))
noncomputable def zc:S:=(.ife (.cmp (.v 5) .eq (.lst true .nil)) #v[FG] .nil)
noncomputable def FH:S:=(.ret (.b1 .tuple (.v 5)))
noncomputable def Fu:bI:=⟨2,26,#v[Fy,vc,vd,y1,FA,y2,y3,FC,zc,FH]⟩
noncomputable def Fp:S:=#v[(.expr (.me .extend (.v 1) #v[(.sub (.v 2) (aa 3))]))]
noncomputable def Fq:S:=(.asg 3 (.lst false .nil))
noncomputable def Ft:S:=#v[(.ife (.and #v[(.cmp (.v 4) .notin (.v 1)),(.cmp (.v 4) .notin (.v 3))]) #v[(.expr (.me .append (.v 3) #v[(.v 4)]))] .nil)]
noncomputable def Fs:S:=#v[(.for1 4 (.sub (.v 2) (aa 2)) Ft)]
noncomputable def y0:bI:=⟨1,5,#v[(.asg 1 (.lst false .nil)),(.for1 2 (.v 0) Fp),Fq,(.for1 2 (.v 0) Fs),(.ret (.v 3))]⟩
noncomputable def EY:S:=#v[(.ife (.cmp (.sub (.v 2) (aa 1)) .eq (.tup #v[(.k (.str "later"))])) #v[(.expr (.me .extend (.v 1) #v[(.sub (.v 2) (aa 3))]))] .nil)]
noncomputable def yQ:bI:=⟨1,3,#v[(.asg 1 (.lst false .nil)),(.for1 2 (.v 0) EY),(.ret (.v 1))]⟩
noncomputable def FO:S:=(.asg 4 (.lst false .nil))
noncomputable def FP:S:=(.asg 5 (.bin .mod (.call fP #v[(.v 0),(.v 1)]) (aa 3)))
noncomputable def FT:S:=(.asg 9 (.call jg #v[(.bin .add (.bin .add (.call fP #v[(.v 0),(.bin .add (.bin .add (.v 1) (aa 1)) (.bin .mod (.bin .add (.v 6) (.v 8)) (aa 6)))]) (.bin .mul (aa 31) (.v 6))) (.bin .mul (aa 1009) (.v 8)))]))
noncomputable def FV:S:=(.expr (.me .append (.v 4) #v[(.tup #v[(.v 7),(.v 8),(.call sV #v[(.call jg #v[(.v 9)])])])]))
noncomputable def FU:S:=(.ife (.or #v[(.cmp (.v 5) .gt (aa 0)),(.cmp (.bin .mod (.v 9) (aa 3)) .gt (aa 0))]) #v[FV] .nil)
noncomputable def ze:S:=#v[FT,FU]
noncomputable def FS:S:=(.for1 8 (.range1 (.v 3)) ze)
noncomputable def FR:S:=#v[FS]
noncomputable def FQ:S:=(.forT [6,7] (.enum (.call mo #v[(.v 2)])) FR)
noncomputable def FX:S:=(.asg 9 (.call jg #v[(.bin .add (.call fP #v[(.v 0),(.bin .add (.bin .add (.v 1) (aa 1)) (.bin .mod (.v 6) (aa 6)))]) (aa 7))]))
noncomputable def FZ:S:=(.expr (.me .append (.v 4) #v[(.tup #v[(.v 7),(aa 0),(.call sV #v[(.call jg #v[(.v 9)])])])]))
noncomputable def FY:S:=(.ife (.cmp (.bin .mod (.v 9) (aa 5)) .gt (.bin .sub (.v 5) (aa 1))) #v[FZ] .nil)
noncomputable def zf:S:=#v[FX,FY]
noncomputable def FW:S:=(.forT [6,7] (.enum (.call AJ #v[(.v 2)])) zf)
noncomputable def F0:S:=(.ret (.v 4))
noncomputable def FN:bI:=⟨4,17,#v[FO,FP,FQ,FW,F0]⟩
noncomputable def Fn:S:=(.asg 3 (.b1 (.list true) (.sub (.v 0) (aa 2))))
noncomputable def yZ:S:=(.asg 3 (.lst true #v[(.sub (.v 3) (.bin .add (aa 1) (.b1 .int (.cmp (.sub (.v 1) (.tup #v[(.sub (.v 3) (aa 0)),(.v 2)])) .ne (aa 0)))))]))
noncomputable def Fo:S:=(.ife (.and #v[(.cmp (.sub (.v 0) (aa 1)) .eq (.tup #v[(.k (.str "choose"))])),(.cmp (.tup #v[(.sub (.v 3) (aa 0)),(.v 2)]) .isin (.v 1))]) #v[yZ] .nil)
noncomputable def yY:bI:=⟨3,6,#v[Fn,Fo,(.ret (.v 3))]⟩
noncomputable def Fg:X:=(.comp true 1 [none,none,some 1,some 2] (.v 1) (.cmp (.tup #v[(.v 1),(.v 3)]) .notin (.v 2)) (.call sT #v[(.v 0),(.v 1),(.v 2)]))
noncomputable def Fh:S:=(.asg 3 Fg)
noncomputable def Fi:S:=(.ret (.sub (.bin .add (.v 3) (.lst true #v[(.k .none)])) (aa 0)))
noncomputable def Ff:bI:=⟨3,5,#v[Fh,Fi]⟩
noncomputable def ES:X:=(.comp true 1 [none,none,some 1,some 2] (.me .get (.v 2) #v[(.tup #v[(.v 1),(.v 3)])]) (.k (.bool true)) (.sub (.v 0) (aa 2)))
noncomputable def ET:S:=(.asg 4 ES)
noncomputable def EU:S:=(.asg 5 (.bin .add (.v 2) (.b1 .int (.cmp (.sub (.v 0) (aa 1)) .eq (.tup #v[(.k (.str "later"))])))))
noncomputable def EV:S:=(.asg 6 (.call It #v[(.sub (.v 0) (aa 1)),(.v 4),(.b1 .len (.sub (.v 0) (aa 3)))]))
noncomputable def EX:S:=(.asgSub (.v 1) (.tup #v[(.sub (.sub (.v 0) (aa 3)) (.v 7)),(.v 5)]) (.sub (.v 6) (.v 7)))
noncomputable def yP:S:=(.ife (.and #v[(.cmp (.sub (.v 6) (.v 7)) .isNot (.k .none)),(.cmp (.v 5) .lt (.v 3))]) #v[EX] .nil)
noncomputable def u6:S:=#v[yP]
noncomputable def EW:S:=(.for1 7 (.range1 (.b1 .len (.v 6))) u6)
noncomputable def yO:bI:=⟨4,12,#v[ET,EU,EV,EW]⟩
noncomputable def Ox:bI:=⟨1,16,#v[(.asg 1 (.bin .add (.bin .mul (.lst true #v[(.k (.str "NoPlan"))]) (.b1 .int (.isexc (.v 0) [44] [31,44,56,68,80,92,104,116,128,140,152]))) (.bin .mul (.lst true #v[(.k (.str "NoTurn"))]) (.b1 .int (.isexc (.v 0) [56] [31,44,56,68,80,92,104,116,128,140,152]))))),(.asg 1 (.bin .add (.bin .add (.v 1) (.bin .mul (.lst true #v[(.k (.str "NoPlace"))]) (.b1 .int (.isexc (.v 0) [68] [31,44,56,68,80,92,104,116,128,140,152])))) (.bin .mul (.lst true #v[(.k (.str "NoValue"))]) (.b1 .int (.isexc (.v 0) [80] [31,44,56,68,80,92,104,116,128,140,152]))))),(.asg 1 (.bin .add (.bin .add (.v 1) (.bin .mul (.lst true #v[(.k (.str "TokenThere"))]) (.b1 .int (.isexc (.v 0) [92] [31,44,56,68,80,92,104,116,128,140,152])))) (.bin .mul (.lst true #v[(.k (.str "NoStep"))]) (.b1 .int (.isexc (.v 0) [104] [31,44,56,68,80,92,104,116,128,140,152]))))),(.asg 1 (.bin .add (.bin .add (.v 1) (.bin .mul (.lst true #v[(.k (.str "Fired"))]) (.b1 .int (.isexc (.v 0) [116] [31,44,56,68,80,92,104,116,128,140,152])))) (.bin .mul (.lst true #v[(.k (.str "NotReady"))]) (.b1 .int (.isexc (.v 0) [128] [31,44,56,68,80,92,104,116,128,140,152]))))),(.asg 1 (.bin .add (.bin .add (.v 1) (.bin .mul (.lst true #v[(.k (.str "IsReady"))]) (.b1 .int (.isexc (.v 0) [140] [31,44,56,68,80,92,104,116,128,140,152])))) (.bin .mul (.lst true #v[(.k (.str "NoText"))]) (.b1 .int (.isexc (.v 0) [152] [31,44,56,68,80,92,104,116,128,140,152]))))),(.ife (.or #v[(.cmp (.b1 .len (.v 1)) .ne (aa 1)),(.not (.isexc (.v 0) [31,44,56,68,80,92,104,116,128,140,152] [31,44,56,68,80,92,104,116,128,140,152]))]) #v[(.ret (.k (.str "other")))] .nil),(.ret (.sub (.v 1) (aa 0)))]⟩
noncomputable def F2:S:=(.asg 4 (.lst false .nil))
noncomputable def F5:S:=(.ife (.and #v[(.cmp (.tup #v[(.sub (.v 5) (aa 0)),(.v 6)]) .notin (.v 2)),(.cmp (.call qs #v[(.v 5),(.v 1),(.v 6)]) .is (.k .none))]) #v[(.expr (.me .append (.v 4) #v[(.tup #v[(.sub (.v 5) (aa 0)),(.v 6)])]))] .nil)
noncomputable def F4:S:=#v[F5]
noncomputable def F3:S:=(.for1 5 (.v 0) #v[(.for1 6 (.range1 (.v 3)) F4)])
noncomputable def F6:S:=(.ret (.v 4))
noncomputable def F1:bI:=⟨4,9,#v[F2,F3,F6]⟩
noncomputable def GA:S:=(.asg 6 (.lst false .nil))
noncomputable def zp:S:=(.asg 7 (.call Iw #v[(.v 4),(.v 5),(.v 1),(.v 3)]))
noncomputable def GB:S:=(.asg 9 (.call jg #v[(.bin .add (.call fP #v[(.v 4),(.bin .add (.bin .add (.v 5) (aa 8)) (.bin .mod (.v 8) (aa 12)))]) (.bin .mul (aa 31) (.v 8)))]))
noncomputable def GC:S:=(.asg 10 (.call sU #v[(.v 1),(.v 2),(.v 6),(.v 3)]))
noncomputable def zv:S:=(.asgT [11,12,13] (.me .pop (.v 7) #v[(.bin .mod (.bin .fdiv (.v 9) (aa 3)) (.b1 .len (.v 7)))]))
noncomputable def GH:S:=(.expr (.meth 365 oY "put" (.v 0) #v[(.v 11),(.v 12),(.v 13)]))
noncomputable def GI:S:=(.asgSub (.v 2) (.tup #v[(.v 11),(.v 12)]) (.v 13))
noncomputable def zt:S:=(.asgT [14,12] (.sub (.v 10) (.bin .mod (.bin .fdiv (.v 9) (aa 3)) (.b1 .len (.v 10)))))
noncomputable def GD:S:=(.expr (.meth 365 qo "fire" (.v 0) #v[(.v 14),(.v 12)]))
noncomputable def GF:S:=(.expr (.me .append (.v 6) #v[(.tup #v[(.v 14),(.v 12)])]))
noncomputable def zu:S:=(.asg 15 (.sub (.comp true 1 [none,none,some 14] (.v 1) (.cmp (.sub (.v 1) (aa 0)) .eq (.v 2)) (.v 1)) (aa 0)))
noncomputable def GG:S:=(.expr (.call qr #v[(.v 15),(.v 2),(.v 12),(.v 3)]))
noncomputable def zs:S:=(.ife (.cmp (.v 10) .ne (.lst true .nil)) #v[zt,GD,GF,zu,GG] .nil)
noncomputable def vm:S:=(.ife (.and #v[(.cmp (.v 7) .ne (.lst true .nil)),(.or #v[(.cmp (.bin .mod (.v 9) (aa 3)) .gt (aa 0)),(.cmp (.v 10) .eq (.lst true .nil))])]) #v[zv,GH,GI] #v[zs])
noncomputable def zr:S:=#v[GB,GC,vm]
noncomputable def zq:S:=(.for1 8 (.range1 (.bin .mod (.call fP #v[(.v 4),(.bin .add (.v 5) (aa 7))]) (aa 40))) zr)
noncomputable def zw:S:=(.ret (.v 6))
noncomputable def Gz:bI:=⟨6,23,#v[GA,zp,zq,zw]⟩
noncomputable def Fb:X:=(.comp true 1 [none,none,some 1] (.v 1) (.cmp (.v 2) .isin (.sub (.v 1) (aa 3))) (.v 0))
noncomputable def Fc:S:=(.ret (.sub (.bin .add Fb (.lst true #v[(.k .none)])) (aa 0)))
noncomputable def Fa:bI:=⟨2,2,#v[Fc]⟩
noncomputable def yK:S:=(.asgT [5,6,7] (.sub (.v 3) (.neg (aa 1))))
noncomputable def yL:S:=(.asg 8 (.call AK #v[(.v 0),(.v 7)]))
noncomputable def u1:S:=(.ife (.cmp (.v 4) .eq (.tup #v[(.k (.str "outside"))])) #v[(.ret (.cmp (.v 8) .is (.k .none)))] .nil)
noncomputable def u2:S:=(.ife (.cmp (.v 8) .is (.k .none)) #v[(.ret (.k (.bool false)))] .nil)
noncomputable def u3:S:=(.asg 9 (.bin .sub (.v 6) (.b1 .int (.cmp (.sub (.v 8) (aa 1)) .eq (.tup #v[(.k (.str "later"))])))))
noncomputable def EO:S:=(.ret (.cmp (.v 9) .lt (aa 0)))
noncomputable def u4:S:=(.ife (.cmp (.v 4) .eq (.tup #v[(.k (.str "first"))])) #v[EO] .nil)
noncomputable def yM:S:=(.ife (.cmp (.v 9) .lt (aa 0)) #v[(.ret (.k (.bool false)))] .nil)
noncomputable def EP:S:=(.ret (.cmp (.tup #v[(.sub (.v 8) (aa 0)),(.v 9)]) .isin (.v 2)))
noncomputable def u5:S:=(.ife (.cmp (.v 4) .eq (.tup #v[(.k (.str "left"))])) #v[EP] .nil)
noncomputable def EQ:S:=(.ret (.and #v[(.cmp (.tup #v[(.sub (.v 8) (aa 0)),(.v 9)]) .notin (.v 2)),(.cmp (.call qs #v[(.v 8),(.v 1),(.v 9)]) .is (.k .none))]))
noncomputable def yN:S:=(.ife (.cmp (.v 4) .eq (.tup #v[(.k (.str "ready"))])) #v[EQ] .nil)
noncomputable def ER:S:=(.ife (.or #v[(.cmp (.b1 .len (.v 4)) .ne (aa 2)),(.cmp (.sub (.v 4) (aa 0)) .ne (.k (.str "ring"))),(.not (.isinst (.sub (.v 4) (aa 1)) .int)),(.isinst (.sub (.v 4) (aa 1)) .bool)]) #v[(.ret (.k (.bool false)))] .nil)
noncomputable def EN:S:=(.ret (.and #v[(.cmp (aa 0) .le (.sub (.v 4) (aa 1))),(.cmp (.sub (.v 4) (aa 1)) .lt (.b1 .len (.v 3))),(.cmp (.slice (.sub (.v 3) (.sub (.v 4) (aa 1))) (.k .none) (aa 2)) .eq (.tup #v[(.sub (.v 8) (aa 0)),(.v 9)]))]))
noncomputable def EM:bI:=⟨5,16,#v[yK,yL,u1,u2,u3,u4,yM,u5,yN,ER,EN]⟩
noncomputable def Gk:S:=(.ife (.or #v[(.not (.isinst (.v 3) .tuple)),(.cmp (.b1 .len (.v 3)) .ne (aa 2))]) #v[(.ret (.k (.bool false)))] .nil)
noncomputable def Gl:S:=(.asgT [6,7] (.v 3))
noncomputable def Gm:S:=(.ife (.or #v[(.not (.isinst (.v 6) .list)),(.not (.isinst (.v 7) .tuple))]) #v[(.ret (.k (.bool false)))] .nil)
noncomputable def Gn:S:=(.asg 8 (.tup #v[(.v 4),(.v 5)]))
noncomputable def Gp:S:=(.ife (.or #v[(.not (.isinst (.sub (.v 6) (.v 9)) .tuple)),(.cmp (.b1 .len (.sub (.v 6) (.v 9))) .ne (aa 3)),(.cmp (.slice (.sub (.v 6) (.v 9)) (.k .none) (aa 2)) .ne (.v 8))]) #v[(.ret (.k (.bool false)))] .nil)
noncomputable def Gq:S:=(.ife (.isinst (.sub (.sub (.v 6) (.v 9)) (aa 1)) .bool) #v[(.ret (.k (.bool false)))] .nil)
noncomputable def Gr:S:=(.asg 10 (.sub (.comp true 1 [none,none,some 8] (.v 1) (.cmp (.sub (.v 1) (aa 0)) .eq (.sub (.v 2) (aa 0))) (.v 0)) (aa 0)))
noncomputable def Gs:S:=(.ife (.or #v[(.cmp (.v 8) .isin (.v 2)),(.cmp (.sub (.sub (.v 6) (.v 9)) (aa 2)) .is (.k .none)),(.cmp (.sub (.sub (.v 6) (.v 9)) (aa 2)) .ne (.call qs #v[(.v 10),(.v 1),(.sub (.v 8) (aa 1))]))]) #v[(.ret (.k (.bool false)))] .nil)
noncomputable def Gu:S:=(.asg 10 (.call AK #v[(.v 0),(.sub (.sub (.v 6) (.v 9)) (aa 2))]))
noncomputable def Gj:X:=(.comp true 1 [none,none] (.slice (.v 1) (.k .none) (aa 2)) (.k (.bool true)) (.slice (.v 6) (.k .none) (.v 9)))
noncomputable def Gv:S:=(.ife (.or #v[(.cmp (.v 10) .is (.k .none)),(.cmp (.v 8) .isin Gj)]) #v[(.ret (.k (.bool false)))] .nil)
noncomputable def Gw:S:=(.asg 8 (.tup #v[(.sub (.v 10) (aa 0)),(.bin .sub (.sub (.v 8) (aa 1)) (.b1 .int (.cmp (.sub (.v 10) (aa 1)) .eq (.tup #v[(.k (.str "later"))]))))]))
noncomputable def zo:S:=(.ife (.cmp (.bin .add (.v 9) (aa 1)) .lt (.b1 .len (.v 6))) #v[Gv,Gw] .nil)
noncomputable def zn:S:=#v[Gp,Gq,Gr,Gs,Gu,zo]
noncomputable def Go:S:=(.for1 9 (.range1 (.b1 .len (.v 6))) zn)
noncomputable def Gx:S:=(.ife (.or #v[(.cmp (.v 6) .eq (.lst true .nil)),(.cmp (.v 8) .isin (.comp true 1 [none,none] (.slice (.v 1) (.k .none) (aa 2)) (.k (.bool true)) (.slice (.v 6) (.k .none) (.neg (aa 1)))))]) #v[(.ret (.k (.bool false)))] .nil)
noncomputable def Gy:S:=(.ret (.call Ir #v[(.v 0),(.v 1),(.v 2),(.v 6),(.v 7)]))
noncomputable def Gi:bI:=⟨6,21,#v[Gk,Gl,Gm,Gn,Go,Gx,Gy]⟩
noncomputable def yJ:S:=(.ret (.call v1 #v[(.v 0),(.v 1),(.v 2)]))
noncomputable def u0:S:=(.ret (.call Iz #v[(.v 3)]))
noncomputable def yI:S:=(.tryE #v[yJ] [31,44,56,68,80,92,104,116,128,140,152] 3 #v[u0])
noncomputable def yH:bI:=⟨3,7,#v[yI]⟩
noncomputable def yT:S:=(.asg 7 (.call kM #v[(.v 0),(.v 5),(.v 6)]))
noncomputable def yU:S:=(.asg 8 (.comp true 1 [none,none,some 5] (.v 1) (.cmp (.sub (.v 1) (aa 0)) .eq (.v 2)) (.v 1)))
noncomputable def u7:S:=(.ife (.cmp (.v 8) .eq (.lst true .nil)) #v[(.ret (.cmp (.v 7) .eq (.k (.str "NoStep"))))] .nil)
noncomputable def u8:S:=(.ife (.or #v[(.isinst (.v 6) .bool),(.not (.isinst (.v 6) .int)),(.not (.cmp2 (aa 0) .le (.v 6) .lt (.v 4)))]) #v[(.ret (.cmp (.v 7) .eq (.k (.str "NoTurn"))))] .nil)
noncomputable def u9:S:=(.ife (.cmp (.tup #v[(.v 5),(.v 6)]) .isin (.v 3)) #v[(.ret (.cmp (.v 7) .eq (.k (.str "Fired"))))] .nil)
noncomputable def yV:S:=(.ife (.cmp (.call qs #v[(.sub (.v 8) (aa 0)),(.v 2),(.v 6)]) .is (.k .none)) #v[(.ret (.cmp (.v 7) .eq (.k (.str "IsReady"))))] .nil)
noncomputable def Fe:S:=(.ret (.call Ix #v[(.v 1),(.v 2),(.v 3),(.v 7),(.v 5),(.v 6)]))
noncomputable def Fd:bI:=⟨7,15,#v[yT,yU,u7,u8,u9,yV,Fe]⟩
noncomputable def EK:S:=(.ife (.not (.call v0 #v[(.v 0),(.v 1),(.v 2),(.v 3),(.v 4),(.sub (.v 5) (aa 0)),(.v 6)])) #v[(.ret (.k (.bool false)))] .nil)
noncomputable def EJ:S:=#v[EK]
noncomputable def EI:S:=(.for1 6 (.range1 (.v 4)) EJ)
noncomputable def EH:S:=#v[EI]
noncomputable def EG:S:=(.for1 5 (.v 1) EH)
noncomputable def EF:bI:=⟨5,9,#v[EG,(.ret (.k (.bool true)))]⟩
noncomputable def FM:S:=(.ife (.cmp (.tup #v[(.v 5),(.v 6)]) .notin (.v 2)) #v[(.expr (.meth 365 oY "put" (.v 0) #v[(.v 5),(.v 6),(.v 4)])),(.asgSub (.v 2) (.tup #v[(.v 5),(.v 6)]) (.v 4))] .nil)
noncomputable def zd:S:=#v[FM]
noncomputable def FL:S:=(.for1 6 (.range1 (.v 3)) zd)
noncomputable def FK:S:=#v[FL]
noncomputable def FJ:S:=(.for1 5 (.call mo #v[(.v 1)]) FK)
noncomputable def FI:bI:=⟨5,9,#v[FJ]⟩
noncomputable def F7:S:=(.asg 1 (.call Iu #v[(.v 0),(aa 0)]))
noncomputable def F8:S:=(.asg 2 (.bin .add (aa 1) (.bin .mod (.call fP #v[(.v 0),(aa 11)]) (aa 6))))
noncomputable def Gf:S:=(.asg 3 (.new 365 AG #v[(.v 1),(.v 2)]))
noncomputable def Gg:S:=(.asg 4 (.dnew true))
noncomputable def Gh:S:=(.asg 5 (.call Iy #v[(.v 3),(.v 1),(.v 4),(.v 2),(.v 0),(aa 12)]))
noncomputable def zi:S:=(.asg 6 (.call fP #v[(.v 0),(aa 33)]))
noncomputable def zj:S:=(.asg 7 (.sub (.sub (.v 1) (aa 0)) (aa 0)))
noncomputable def zk:S:=(.asg 8 (.lst true #v[(.tup #v[(.k (.str "")),(aa 0)]),(.tup #v[(.k (.str "zz99zz9")),(aa 0)]),(.tup #v[(.k .none),(aa 0)]),(.tup #v[(.v 7),(.neg (aa 1))]),(.tup #v[(.v 7),(.v 2)]),(.tup #v[(.v 7),(.k (.bool true))]),(.tup #v[(.v 7),(.k .none)])]))
noncomputable def zl:S:=(.asg 8 (.bin .add (.v 8) (.lst true #v[(.tup #v[(.k (.str "zz99zz9")),(.neg (aa 1))]),(.tup #v[(.k .none),(.v 2)])])))
noncomputable def zm:S:=(.ife (.not (.call v0 #v[(.v 3),(.v 1),(.v 4),(.v 5),(.v 2),(.sub (.sub (.v 8) (.bin .mod (.v 6) (aa 9))) (aa 0)),(.sub (.sub (.v 8) (.bin .mod (.v 6) (aa 9))) (aa 1))])) #v[(.ret (.k (.bool false)))] .nil)
noncomputable def zg:S:=(.asg 9 (.lst false .nil))
noncomputable def Gb:S:=(.ife (.not (.call v0 #v[(.v 3),(.v 1),(.v 4),(.v 5),(.v 2),(.sub (.v 10) (aa 0)),(.v 11)])) #v[(.ret (.k (.bool false)))] .nil)
noncomputable def zh:S:=(.asg 12 (.call kM #v[(.v 3),(.sub (.v 10) (aa 0)),(.v 11)]))
noncomputable def Gd:S:=(.expr (.me .append (.v 9) #v[(.tup #v[(.sub (.v 12) (aa 0)),(.b1 (.list true) (.sub (.v 12) (aa 0)))])]))
noncomputable def Gc:S:=(.ife (.isinst (.v 12) .tuple) #v[Gd] .nil)
noncomputable def vh:S:=#v[Gb,zh,Gc]
noncomputable def Ga:S:=(.for1 11 (.range1 (.v 2)) vh)
noncomputable def F9:S:=#v[Ga]
noncomputable def vg:S:=(.for1 10 (.v 1) F9)
noncomputable def Ge:S:=(.asg 10 (.sub (.comp true 1 [none,none,some 7] (.v 1) (.cmp (.sub (.v 1) (aa 0)) .eq (.v 2)) (.v 1)) (aa 0)))
noncomputable def vj:S:=#v[(.expr (.meth 365 qo "fire" (.v 3) #v[(.v 7),(.v 11)])),(.expr (.me .append (.v 5) #v[(.tup #v[(.v 7),(.v 11)])])),Ge,(.expr (.call qr #v[(.v 10),(.v 4),(.v 11),(.v 2)]))]
noncomputable def vi:S:=(.forT [7,11] (.slice (.call sU #v[(.v 1),(.v 4),(.v 5),(.v 2)]) (.k .none) (.bin .add (aa 1) (.bin .mod (.v 6) (aa 3)))) vj)
noncomputable def vk:S:=(.ife (.not (.call AI #v[(.v 3),(.v 1),(.v 4),(.v 5),(.v 2)])) #v[(.ret (.k (.bool false)))] .nil)
noncomputable def r5:S:=(.expr (.call Iv #v[(.v 3),(.v 1),(.v 4),(.v 2),(.bin .mod (.v 6) (.bin .pow (aa 10) (aa 6)))]))
noncomputable def r6:S:=(.ife (.not (.call AI #v[(.v 3),(.v 1),(.v 4),(.v 5),(.v 2)])) #v[(.ret (.k (.bool false)))] .nil)
noncomputable def EL:X:=(.comp true 1 [none,none] (.v 1) (.cmp (.sub (.v 1) (aa 0)) .ne (.sub (.v 1) (aa 1))) (.v 9))
noncomputable def qc:S:=(.ret (.cmp (.b1 .len EL) .eq (aa 0)))
noncomputable def yG:bI:=⟨1,28,#v[F7,F8,Gf,Gg,Gh,zi,zj,zk,zl,zm,zg,vg,vi,vk,r5,r6,qc]⟩
noncomputable def DX:S:=(.ife (.not (.call vZ #v[(.v 1)])) #v[(.raise 44)] .nil)
noncomputable def ye:S:=(.ife (.not (.call lB #v[(.v 2),(aa 1),(aa 200)])) #v[(.raise 56)] .nil)
noncomputable def uy:S:=(.asgAttr 365 (.v 0) "plan" (.v 1))
noncomputable def uz:S:=(.asgAttr 365 (.v 0) "turns" (.v 2))
noncomputable def uA:S:=(.asgAttr 365 (.v 0) "givers" (.call vX #v[(.v 1)]))
noncomputable def uB:S:=(.asgAttr 365 (.v 0) "outer" (.call AN #v[(.v 1)]))
noncomputable def uC:S:=(.asgAttr 365 (.v 0) "here" (.dnew true))
noncomputable def uD:S:=(.asgAttr 365 (.v 0) "gone" (.dnew true))
noncomputable def uE:S:=(.asgAttr 365 (.v 0) "order" (.lst false .nil))
noncomputable def DW:bI:=⟨3,10,#v[DX,ye,uy,uz,uA,uB,uC,uD,uE]⟩
noncomputable def Eh:S:=(.ife (.or #v[(.not (.isinst (.v 1) .str)),(.and #v[(.cmp (.v 1) .notin (.attr 365 (.v 0) "givers")),(.cmp (.v 1) .notin (.attr 365 (.v 0) "outer"))])]) #v[(.raise 68)] .nil)
noncomputable def Eg:bI:=⟨2,5,#v[Eh]⟩
noncomputable def uK:S:=(.ife (.not (.call lB #v[(.v 1),(aa 0),(.bin .sub (.attr 365 (.v 0) "turns") (aa 1))])) #v[(.raise 56)] .nil)
noncomputable def yq:bI:=⟨2,4,#v[uK]⟩
noncomputable def uJ:S:=(.ife (.cmp (.sub (.v 2) (aa 0)) .eq (.v 1)) #v[(.ret (.v 2))] .nil)
noncomputable def yp:S:=#v[uJ]
noncomputable def yo:S:=(.for1 2 (.attr 365 (.v 0) "plan") yp)
noncomputable def yn:S:=(.ife (.isinst (.v 1) .str) #v[yo] .nil)
noncomputable def ym:bI:=⟨2,6,#v[yn,(.raise 104)]⟩
noncomputable def Ei:S:=(.expr (.meth 365 Il "need_place" (.v 0) #v[(.v 1)]))
noncomputable def Ej:S:=(.expr (.meth 365 qq "need_turn" (.v 0) #v[(.v 2)]))
noncomputable def Ek:S:=(.ife (.and #v[(.cmp (.v 1) .isin (.attr 365 (.v 0) "givers")),(.or #v[(.cmp (.sub (.sub (.sub (.attr 365 (.v 0) "givers") (.v 1)) (aa 1)) (aa 0)) .ne (.k (.str "later"))),(.cmp (.v 2) .gt (aa 0))])]) #v[(.raise 68)] .nil)
noncomputable def El:S:=(.ife (.not (.call sR #v[(.v 3)])) #v[(.raise 80)] .nil)
noncomputable def Em:S:=(.ife (.cmp (.tup #v[(.v 1),(.v 2)]) .isin (.attr 365 (.v 0) "here")) #v[(.raise 92)] .nil)
noncomputable def En:S:=(.asgSub (.attr 365 (.v 0) "here") (.tup #v[(.v 1),(.v 2)]) (.v 3))
noncomputable def yr:bI:=⟨4,8,#v[Ei,Ej,Ek,El,Em,En]⟩
noncomputable def yj:S:=(.asg 3 (.sub (.v 1) (aa 2)))
noncomputable def Ec:S:=(.asg 4 (.me .get (.attr 365 (.v 0) "here") #v[(.tup #v[(.sub (.v 3) (aa 0)),(.v 2)])]))
noncomputable def Ed:S:=(.ret (.sub (.v 3) (aa 0)))
noncomputable def uG:S:=(.ife (.cmp (.v 4) .is (.k .none)) #v[Ed] .nil)
noncomputable def Ef:S:=(.asg 3 (.slice (.v 3) (aa 1) (aa 2)))
noncomputable def Ee:S:=(.asg 3 (.slice (.v 3) (aa 2) (aa 3)))
noncomputable def uH:S:=(.ife (.cmp (.v 4) .eq (aa 0)) #v[Ef] #v[Ee])
noncomputable def r1:S:=(.ife (.cmp (.sub (.sub (.v 1) (aa 1)) (aa 0)) .eq (.k (.str "choose"))) #v[Ec,uG,uH] .nil)
noncomputable def yl:S:=(.ife (.cmp (.tup #v[(.v 5),(.v 2)]) .notin (.attr 365 (.v 0) "here")) #v[(.ret (.v 5))] .nil)
noncomputable def yk:S:=#v[yl]
noncomputable def qa:S:=(.for1 5 (.v 3) yk)
noncomputable def uI:S:=(.ret (.k .none))
noncomputable def Eb:bI:=⟨3,6,#v[yj,r1,qa,uI]⟩
noncomputable def yi:bI:=⟨3,3,#v[(.ret (.cmp (.tup #v[(.v 1),(.v 2)]) .isin (.attr 365 (.v 0) "gone")))]⟩
noncomputable def Ea:S:=(.ret (.and #v[(.not (.meth 365 ml "has_fired" (.v 0) #v[(.sub (.v 1) (aa 0)),(.v 2)])),(.cmp (.meth 365 qp "missed" (.v 0) #v[(.v 1),(.v 2)]) .is (.k .none))]))
noncomputable def D9:bI:=⟨3,3,#v[Ea]⟩
noncomputable def DZ:S:=(.asg 3 (.meth 365 vW "need_step" (.v 0) #v[(.v 1)]))
noncomputable def D0:S:=(.expr (.meth 365 qq "need_turn" (.v 0) #v[(.v 2)]))
noncomputable def D1:S:=(.ife (.meth 365 ml "has_fired" (.v 0) #v[(.v 1),(.v 2)]) #v[(.raise 116)] .nil)
noncomputable def D2:S:=(.ife (.cmp (.meth 365 qp "missed" (.v 0) #v[(.v 3),(.v 2)]) .isNot (.k .none)) #v[(.raise 128)] .nil)
noncomputable def D3:S:=(.asgSub (.attr 365 (.v 0) "gone") (.tup #v[(.v 1),(.v 2)]) (.k (.bool true)))
noncomputable def D4:S:=(.expr (.me .append (.attr 365 (.v 0) "order") #v[(.tup #v[(.v 1),(.v 2)])]))
noncomputable def DY:X:=(.comp true 1 [none,none,some 0,some 2] (.me .get (.attr 365 (.v 2) "here") #v[(.tup #v[(.v 1),(.v 3)])]) (.k (.bool true)) (.sub (.v 3) (aa 2)))
noncomputable def D5:S:=(.asg 5 DY)
noncomputable def D6:S:=(.asg 6 (.bin .add (.v 2) (.b1 .int (.cmp (.sub (.sub (.v 3) (aa 1)) (aa 0)) .eq (.k (.str "later"))))))
noncomputable def uF:S:=(.ife (.cmp (.v 6) .eq (.attr 365 (.v 0) "turns")) #v[.ret0] .nil)
noncomputable def D8:S:=(.asgSub (.attr 365 (.v 0) "here") (.tup #v[(.v 4),(.v 6)]) (.v 7))
noncomputable def D7:S:=(.ife (.cmp (.v 7) .isNot (.k .none)) #v[D8] .nil)
noncomputable def yh:S:=#v[D7]
noncomputable def yg:S:=(.forT [4,7] (.zip #v[(.sub (.v 3) (aa 3)),(.call AM #v[(.sub (.v 3) (aa 1)),(.v 5),(.b1 .len (.sub (.v 3) (aa 3)))])]) yh)
noncomputable def yf:bI:=⟨3,14,#v[DZ,D0,D1,D2,D3,D4,D5,D6,uF,yg]⟩
noncomputable def PP:gI:=⟨[Et,Er,qd,uZ,GQ,Eo,GV,GJ,Ez,uL,uM,uT,EE,EA,yx,zA,yy,r4,vb,va,vn,EZ,vf,Fu,y0,yQ,FN,yY,Ff,yO,Ox,F1,Gz,Fa,EM,Gi,yH,Fd,EF,FI,yG,DW,Eg,yq,ym,yr,Eb,yi,D9,yf]⟩
noncomputable def topN:Nat:=4500
end
section
open PySem.W
set_option maxRecDepth 100000 in
set_option maxHeartbeats 8000000 in
theorem saidX:PySem.Challenge.rw_uf020019_09.wellSaid=true:=by decide +kernel
noncomputable abbrev wc(w:World)(os:OsState):Option Shared:=sZ PySem.Challenge.pw_uf020019_09 w os topN
set_option maxRecDepth 1000000 in
set_option maxHeartbeats 80000000 in
theorem Sj:∀w os,(wc w os).map (fun s=>(PySem.W.Fast.tw4187177175401517315 (viewOf PySem.Challenge.pw_uf020019_09) [] (importedModules PySem.Challenge.pw_uf020019_09.main.body) (fun s=>xlAt (viewOf PySem.Challenge.pw_uf020019_09) [] s&&recOk (RowW.records (OpenRow.toRowW PySem.Challenge.rw_uf020019_09.row)) s) true s))=some (openGood (viewOf PySem.Challenge.pw_uf020019_09) []):=fun w os=>by kernel_rfl
set_option maxRecDepth 1000000 in
set_option maxHeartbeats 80000000 in
theorem Sk:∀w os,(wc w os).map (fun s=>(tA s.heap (jc s.heap) TT,rP (jc s.heap) TT.cst,rM (jc s.heap) TT.bins))=some (true,true,true):=fun w os=>by kernel_rfl
set_option maxRecDepth 1000000 in
set_option maxHeartbeats 80000000 in
theorem Sl:∀w os,(wc w os).map (vv TT (List.take 28))=some (some (PP.fns.take 28)):=fun w os=>by kernel_rfl
set_option maxRecDepth 1000000 in
set_option maxHeartbeats 80000000 in
theorem Sm:∀w os,(wc w os).map (vv TT (List.drop 28))=some (some (PP.fns.drop 28)):=fun w os=>by kernel_rfl
noncomputable def RB:Str ⊕ Int->Value->Bool
 | .inl x,v=>Value.isStrOf x v
 | .inr i,v=>Value.isInt i v
noncomputable def PT(w:World):Str ⊕ Int->Int
 | .inl x=>hashStr w x
 | .inr i=>hashInt i
noncomputable def qG(prog:Program)(w:World):KeyKind prog w (Str ⊕ Int) where
 is:=RB
 hash:=PT w
 inj:=fun v a b ha hb=>by
  cases a with
  | inl x =>
   refine aM (Value.isStrOf_shape (show Value.isStrOf x v=true from ha)) fun t ag=>?_;obtain rfl:=ag
   cases b with
   | inl y=>exact congrArg Sum.inl (Value.isStrOf_inj (.str x t) x y ha hb)
   | inr j=>cases hb
  | inr i =>
   refine aM (Value.isInt_shape (show Value.isInt i v=true from ha)) fun t ag=>?_;obtain rfl:=ag
   cases b with
   | inl y=>cases hb
   | inr j=>exact congrArg Sum.inr (Value.isInt_inj (.int i t) i j ha hb)
 byValue:=fun k v h=>by
  cases k with
  | inl x=>refine aM (Value.isStrOf_shape (show Value.isStrOf x v=true from h)) fun t ag=>?_;obtain rfl:=ag;rfl
  | inr i=>refine aM (Value.isInt_shape (show Value.isInt i v=true from h)) fun t ag=>?_;obtain rfl:=ag;rfl
 pyHash:=fun{A E s k v Q} hv h=>by
  cases k with
  | inl x=>refine aM (Value.isStrOf_shape (show Value.isStrOf x v=true from hv)) fun t ag=>?_;obtain rfl:=ag;exact wpAny_pyHash_str h
  | inr i=>refine aM (Value.isInt_shape (show Value.isInt i v=true from hv)) fun t ag=>?_;obtain rfl:=ag;exact wpAny_pyHash_int h
 eqBool:=fun{A E s a b u v Q} hu hv h=>by
  cases a with
  | inl x =>
   refine aM (Value.isStrOf_shape (show Value.isStrOf x u=true from hu)) fun t ag=>?_;obtain rfl:=ag
   cases b with
   | inl y =>
    refine aM (Value.isStrOf_shape (show Value.isStrOf y v=true from hv)) fun bt ag=>?_;obtain rfl:=ag;refine wpAny_eqBool_str ?_
    have e:decide (Sum.inl (β:=Int) x=Sum.inl y)=decide (x=y):=by simp
    rw[<- e];exact h
   | inr j =>
    refine aM (Value.isInt_shape (show Value.isInt j v=true from hv)) fun bt ag=>?_;obtain rfl:=ag;exact SeqAt.EqAt.str_int x t j bt prog w E Q (by simpa using h)
  | inr i =>
   refine aM (Value.isInt_shape (show Value.isInt i u=true from hu)) fun t ag=>?_;obtain rfl:=ag
   cases b with
   | inl y =>
    refine aM (Value.isStrOf_shape (show Value.isStrOf y v=true from hv)) fun bt ag=>?_;obtain rfl:=ag;exact SeqAt.EqAt.int_str i t y bt prog w E Q (by simpa using h)
   | inr j =>
    refine aM (Value.isInt_shape (show Value.isInt j v=true from hv)) fun bt ag=>?_;obtain rfl:=ag;refine wpAny_eqBool_int ?_
    have e:decide (Sum.inr (α:=Str) i=Sum.inr j)=(i == j):=by
     by_cases q:i=j <;> simp[q]
    rw[<- e];exact h
 «strs»:=fun k x t v h=>by
  cases k with
  | inl y=>exact(strKind prog w).«strs» y x t v h
  | inr i=>cases h
structure f8 where
 h:Heap
 fr:List Addr
 prog:Program
 w:World
noncomputable abbrev f8.get?(b:f8)(a:Addr):Option Obj:=b.h.get? a
structure a3 where
 hb:f8
 mg:Str->Option Value
 mb:Str->Option Value
 ph:Bool
noncomputable abbrev a3.prog(K:a3):Program:=K.hb.prog
noncomputable abbrev a3.w(K:a3):World:=K.hb.w
structure a3.Ok(K:a3):Prop where
 g:K.hb.h.Ns mainGlobals K.mg
 b:K.hb.h.Ns builtinsNs K.mb
 nolimit:K.hb.h.NoLimit
 mods:∃o,K.hb.get? sysModules=some o
noncomputable def et(B:f8)(h:Heap)(α:ay):aV->Addr->Prop
 | .lst xs,a=>∃items n,h.get? a=some { cls:=.type "list",data:=.seq (List.toArray items) n }/\bj h α xs items
 | .ds es,a=>∃el,h.DictOf (strKind B.prog B.w) a el/\el.map (·.1)=es.map (·.1)/\bj h α (es.map (·.2)) (el.map (·.2))
 | .dp es,a=>∃xs,h.DictOfH (tupleKind (qG B.prog B.w)) a xs/\xs.map (·.1)=es.map (fun e=>[.inl e.1.1,.inr e.1.2])/\(∀x∈xs,x.2.1∉α.all)/\bj h α (es.map (·.2)) (xs.map (·.2.2))
 | .ns fs,a=>∃m,h.Ns1 a m/\(∀n v,aC n fs=some v->∃u,m n=some u/\aj h α v u)/\(∀n,aC n fs=none->m n=none)
 | .tp,a=>∃x y,h.get? a=some { cls:=.type "tuple",data:=.seq #[x,y] }
 | .no,_=>False
theorem et.live{B:f8}(o:et B h α m a):∃o,h.get? a=some o:=by
 cases m with
 | lst xs=>refine c1 o fun items n e J=>?_;exact⟨_,e⟩
 | ds es=>obtain⟨el,⟨o,_,_,e,_⟩,_⟩:=o;exact⟨o,e⟩
 | dp es=>obtain⟨el,⟨o,_,_,e,_⟩,_⟩:=o;exact⟨o,e⟩
 | ns fs=>obtain⟨m,⟨o,_,_,e,_⟩,_⟩:=o;exact⟨o,e⟩
 | tp=>refine jb o fun x y e=>?_;exact⟨_,e⟩
 | no=>exact o.elim
theorem et.map{B:f8}(v:∀p u,aj h α p u->aj h' α' p u)(k:h'.get? a=h.get? a)
  (ck:∀b o,b∉α.all->h.get? b=some o->kA o->h'.get? b=some o/\b∉α'.all) (o:et B h α m a):et B h' α' m a:=by
 have vs:∀{p:List H} {u:List Value},bj h α p u->bj h' α' p u:=fun r=>⟨r.1,fun i x y V ak=>v _ _ (r.2 i x y V ak)⟩
 cases m with
 | lst xs=>refine c1 o fun items n e w=>?_;exact⟨items,n,k.trans e,vs w⟩
 | ds es =>
  obtain⟨el,⟨o,es',ez,e,r⟩,q,w⟩:=o;exact⟨el,⟨o,es',ez,k.trans e,r⟩,q,vs w⟩
 | dp es =>
  obtain⟨xs,⟨o,es',ez,e,aY,r2,h4,nx,qS⟩,q,hn,w⟩:=o
  have key:∀x∈xs,IsTupleKey (qG B.prog B.w) h' x.1 x.2.1/\x.2.1∉α'.all:=fun x hx=>by
   refine ur (nx x hx) fun o items n V ak bK gT=>?_;refine aW (ck _ o (hn x hx) V (.inl ⟨_,_,bK⟩)) fun dM ef=>?_;exact⟨⟨o,items,n,dM,ak,bK,gT⟩,ef⟩
  exact⟨xs,⟨o,es',ez,k.trans e,aY,r2,h4,fun x hx=>(key x hx).1,qS⟩,q,fun x hx=>(key x hx).2,vs w⟩
 | ns fs =>
  obtain⟨m,⟨o,es',ez,e,r⟩,q1,q2⟩:=o;exact⟨m,⟨o,es',ez,k.trans e,r⟩,fun n dL hn=>let⟨u,dM,ef⟩:=q1 n dL hn;⟨u,dM,v _ _ ef⟩,q2⟩
 | tp=>refine jb o fun x y e=>?_;exact⟨x,y,k.trans e⟩
 | no=>exact o.elim
theorem et.ext{F α h α' h'}{B:f8}(x:a4 F α h α' h')(k:h'.get? a=h.get? a)(o:et B h α m a):et B h' α' m a:=
 o.map (fun J J r=>r.ext x) k fun b o hb e hs=>⟨x.seqs b o (ay.not_ix hb) e hs,x.notAll hb e⟩
structure aq(hb:f8)(h:Heap)(σ:af)(α:ay):Prop where
 base:∀b o,hb.get? b=some o->h.get? b=some o
 fresh:∀a∈α.ix,hb.get? a=none
 nodup:α.ix.Nodup
 len:σ.length=α.ix.length
 hidden:∀a∈α.hid,a∉α.ix/\∃o,h.get? a=some o
 obj:∀(i:Nat) (m:aV) (a:Addr),σ[i]?=some m->α.ix[i]?=some a->et hb h α m a
 hfr:∀a∈α.hid,hb.get? a=none
 fe:α.fr=hb.fr
 frs:∀a∈hb.fr,hb.get? a=none/\∃o,h.get? a=some o/\gX o
 frNot:∀a∈hb.fr,a∉α.ix
structure cA(s s':Shared):Prop where
 gens:s'.gens=s.gens
 os:s'.os=s.os
theorem cA.refl(s:Shared):cA s s:=⟨rfl,rfl⟩
theorem cA.trans{a b c:Shared}(x:cA a b)(y:cA b c):cA a c:=⟨y.gens.trans x.gens,y.os.trans x.os⟩
noncomputable def hO(fr:List Addr)(h h':Heap):Prop:=∀b o,h.get? b=some o->h'.get? b=some o\/(b∈fr/\∃cQ,h'.get? b=some { o with slots:=cQ })
theorem hO.keeps(k:∀b o,h.get? b=some o->h'.get? b=some o):hO fr h h':=fun b o e=>.inl (k b o e)
theorem hO.trans{hX:Heap}(x:hO fr h h')(y:hO fr h' hX):hO fr h hX:=fun b o e=>by
 rcases x b o e with x | ⟨m,cQ,x⟩
 ·exact y b o x
 ·rcases y b _ x with y | ⟨_,pu,y⟩
  ·exact .inr ⟨m,cQ,y⟩
  ·exact .inr ⟨m,pu,y⟩
inductive xh(h₀ h:Heap)(a:Addr)(kQ:Bool)(x:Value):Prop
 | inl (hn:kQ=false) (e:x=.none):xh h₀ h a kQ x
 | inr (T:Addr) (nu:Obj) (ts:Array Value) (e:x=.ref T) (h0:h₀.get? T=none) (hn:T≠a) (aO:h.get? T=some nu) (hc:nu.cls=.type "traceback") (hd:nu.data=.fields ts) (ax:3<ts.size):xh h₀ h a kQ x
inductive kt(ph:Bool)(h₀ h:Heap)(c:Nat)(a:Addr)(kQ:Bool):Prop
 | mk (new:h₀.get? a=none) (fu:Obj) (vs:Array Value) (x:Value) (he:h.get? a=some fu) (hc:fu.cls=.ref c) (hd:fu.data=.fields vs) (L:vs[1]?=some x) (ZB:xh h₀ h a kQ x) (j5:∃y,vs[2]?=some y/\(ph=false->y=.none)):kt ph h₀ h c a kQ
theorem kt.new{ph:Bool}{kQ:Bool}(x:kt ph h₀ h c a kQ):h₀.get? a=none:=by cases x;assumption
inductive gG(K:a3)(s:Shared)(α:ay)(i:Nat)(σ:af)(kQ:Bool)(e:Value)(s':Shared):Prop where
 | mk (a:Addr) (h₀:Heap) (α':ay) (he:e=.ref a) (x:a4 [] α s.heap α' h₀) (r:aq K.hb h₀ σ α') (u:hO K.hb.fr h₀ s'.heap) (b0:kt K.ph h₀ s'.heap i a kQ) (m:cA s s'):gG K s α i σ kQ e s'
section
variable (K:a3){β γ:Type}(dW:Heap->ay->β->γ->Prop)
inductive cz(c:ah β)(s:Shared)(α:ay)(y:γ)(s':Shared):Prop where
 | mk (b:β) (σ':af) (α':ay) (h:c=.ok b σ') (x:a4 [] α s.heap α' s'.heap) (r:aq K.hb s'.heap σ' α') (v:dW s'.heap α' b y) (m:cA s s'):cz c s α y s'
inductive dh(xy:Around)(c:ah β)(s:Shared)(α:ay)(e:Value)(s':Shared):Prop where
 | mk (i:Nat) (σ':af) (h:c=.exc i σ') (eU:∃d5,gG K s α i σ' d5 e s'):dh xy c s α e s'
noncomputable def av(A:Around)(t:Sem γ)(c:ah β)(s:Shared)(α:ay):Prop:=
 c≠.stuck->wpAny (model K.prog K.w) A t (cz K dW c s α) (dh K A c s α) s
end
noncomputable def hh{β:Type}(LQ:Heap)(LR:ay)(b y:β):Prop:=y=b
theorem gG.lift{K:a3}{e:Value}(x:a4 [] α s.heap bc s₁.heap)(m:cA s s₁)(f:gG K s₁ bc i σ d5 e s'):gG K s α i σ d5 e s':=by
 obtain⟨a,h₀,α',e,aQ,r,u,b0,bJ⟩:=f;exact⟨a,h₀,α',e,x.trans aQ,r,u,b0,m.trans bJ⟩
theorem dh.lift{K:a3}{β:Type}{c:ah β}(x:a4 [] α s.heap bc s₁.heap)(m:cA s s₁)(p:dh K A c s₁ bc y s'):dh K A c s α y s':=by
 obtain⟨i,σ',e,d5,eU⟩:=p;exact⟨i,σ',e,d5,eU.lift x m⟩
section
variable {K:a3}{β γ lV ro:Type}{dW:Heap->ay->β->γ->Prop}{tV:Heap->ay->lV->ro->Prop}
theorem av.bind{t:Sem γ}{k:γ->Sem ro}{c:ah β}{f:β->af->ah lV}(ar:av K dW A t c s α)
  (N:∀b σ' α' y s',c=.ok b σ'->a4 [] α s.heap α' s'.heap->aq K.hb s'.heap σ' α'->dW s'.heap α' b y->cA s s'->av K tV A (k y) (f b σ') s' α') :
  av K tV A (t >>= k) (c.bind f) s α:=by
 intro hc
 have L:c≠.stuck:=by rintro rfl;exact hc rfl
 refine aN (cB (ar L) (fun y s' hp=>?_) fun e s' hx=>?_)
 ·obtain⟨b,σ',α',rfl,x,r,v,m⟩:=hp;refine cB (N b σ' α' y s' rfl x r v m hc) (fun b6 kY Aw=>?_) fun e kY hx=>?_
  ·obtain⟨cO,pE,jM,aF,aQ,aJ,dL,bJ⟩:=Aw;exact⟨cO,pE,jM,aF,x.trans aQ,aJ,dL,m.trans bJ⟩
  ·exact hx.lift x m
 ·obtain⟨i,σ',rfl,eU⟩:=hx;exact⟨i,σ',rfl,eU⟩
theorem av.pure{y:γ}{b:β}(r:aq K.hb s.heap σ α)(v:dW s.heap α b y):av K dW A (pure y) (.ok b σ) s α:=
 fun J=>bO ⟨b,σ,α,rfl,.refl,r,v,.refl s⟩
theorem av.standAt{t:Sem γ}{c:ah β}(ar:av K dW A t c s α):av K dW A (do standAt pos;t) c s α:=
 fun h=>aN (wpAny_standAt (ar h))
theorem av.holding{t:Sem γ}{c:ah β}(ar:av K dW A t c s α):av K dW A (holding vs t) c s α:=
 fun h=>hT (ar h)
theorem av.step{t:Sem γ}{b:β}(r:aq K.hb s.heap σ α)
  (ar:∀(Q:γ->Shared->Prop) (E:Value->Shared->Prop),(∀y s',(∀b o,s.heap.get? b=some o->s'.heap.get? b=some o)->aq K.hb s'.heap σ α->dW s'.heap α b y->cA s s'->Q y s')->wpAny (model K.prog K.w) A t Q E s) :
  av K dW A t (.ok b σ) s α:=
 fun J=>ar _ _ fun y s' k aJ v m=>⟨b,σ,α,rfl,.keeps k,aJ,v,m⟩
end
theorem aq.live{hb h σ α}(r:aq hb h σ α)(ha:a∈α.ix):∃o,h.get? a=some o:=by
 obtain⟨i,hi,rfl⟩:=List.mem_iff_getElem.mp ha
 have hs:i<σ.length:=by exact r.len.symm▸hi
 exact(r.obj i σ[i] α.ix[i] (by simp[hs]) (by simp[hi])).live
theorem aq.keeps{hb h h' σ α}(r:aq hb h σ α)(k:∀b o,h.get? b=some o->h'.get? b=some o):aq hb h' σ α:=
 ⟨fun b o e=>k b o (r.base b o e),r.fresh,r.nodup,r.len,fun a ha=>⟨(r.hidden a ha).1,let⟨o,e⟩:=(r.hidden a ha).2;⟨o,k a o e⟩⟩,fun i m a V ak=>(r.obj i m a V ak).ext (.keeps (F:=[]) k) (by
  refine aM (r.live (eI ak)) fun o e=>?_
  rw[e,k a o e]),r.hfr,r.fe,fun a ha=>⟨(r.frs a ha).1,let⟨o,e,d⟩:=(r.frs a ha).2;⟨o,k a o e,d⟩⟩,r.frNot⟩
theorem aq.liveAll{hb h σ α}(r:aq hb h σ α)(ha:a∈α.all):∃o,h.get? a=some o:=by
 rcases dH.mp ha with q | q
 ·exact r.live q
 ·exact(r.hidden a q).2
theorem aq.upExt{hb h h' σ α}(r:aq hb h σ α)(u:hO hb.fr h h'):a4 [] α h α h':=by
 refine⟨rfl,⟨[],by simp,fun J hx=>(nomatch hx)⟩,fun b o hb e hs=>?_,fun b o hb J e=>?_,fun b o J e=>?_,rfl⟩
 ·rcases u b o e with u | ⟨m,_⟩
  ·exact u
  ·obtain⟨_,aP,aF,d⟩:=r.frs b m;rw[e]at aF;obtain rfl:=oi aF;exact absurd hs d.notSolid
 ·rcases u b o e with u | ⟨m,cQ,u⟩
  ·exact .inl u
  ·obtain⟨_,aP,aF,d⟩:=r.frs b m;rw[e]at aF;obtain rfl:=oi aF;exact .inr ⟨r.fe▸m,d,cQ,u⟩
 ·rcases u b o e with u | ⟨m,cQ,u⟩
  ·exact⟨_,u⟩
  ·exact⟨_,u⟩
theorem aq.up{hb h h' σ α}(r:aq hb h σ α)(u:hO hb.fr h h'):aq hb h' σ α:=by
 have x:=r.upExt u;refine⟨fun b o e=>?_,r.fresh,r.nodup,r.len,fun a ha=>⟨(r.hidden a ha).1,?_⟩,fun i m a V ak=>?_,r.hfr,r.fe,fun a ha=>⟨(r.frs a ha).1,?_⟩,r.frNot⟩
 ·rcases u b o (r.base b o e)with u | ⟨m,_⟩
  ·exact u
  ·rw[(r.frs b m).1]at e;contradiction
 ·refine aM ((r.hidden a ha).2) fun o e=>?_;exact x.alive a o ((ew)) e
 ·refine(r.obj i m a V ak).ext x ?_;refine aM (r.live (eI ak)) fun o e=>?_
  rcases u a o e with u | ⟨m,_⟩
  ·rw[e,u]
  ·exact absurd (eI ak) (r.frNot a m)
 ·obtain⟨_,o,e,d⟩:=r.frs a ha
  rcases u a o e with u | ⟨m,cQ,u⟩
  ·exact⟨o,u,d⟩
  ·exact⟨_,u,d⟩
end
variable {K:a3}{hb:f8}
noncomputable def ay.add(α:ay)(D:Addr):ay:=⟨α.ix++[D],α.hid,α.fr⟩
theorem a4.add(k:∀b o,h.get? b=some o->h'.get? b=some o)(hD:h.get? D=none):a4 [] α h (α.add D) h':=
 ⟨rfl,⟨[D],rfl,fun y hy=>by simp at hy;exact hy.symm▸(⟨hD,(ew)⟩)⟩,fun b o J e J=>k b o e,fun b o J J e=>.inl (k b o e),fun b o J e=>⟨o,k b o e⟩,rfl⟩
theorem aq.add{hb h h' σ α}(r:aq hb h σ α)(k:∀b o,h.get? b=some o->h'.get? b=some o)(hD:h.get? D=none)
  (o:et hb h' (α.add D) m D):aq hb h' (σ++[m]) (α.add D)/\a4 [] α h (α.add D) h':=by
 have x:a4 [] α h (α.add D) h':=.add k hD
 have vz:D∉α.all:=fun hm=>by refine aM (r.liveAll hm) fun o e=>?_;rw[hD]at e;contradiction
 refine⟨⟨fun b o e=>k b o (r.base b o e),fun a ha=>?_,?_,by simp[ay.add,r.len],fun a ha=>?_,fun i bJ a V ak=>?_,r.hfr,r.fe,fun a ha=>⟨(r.frs a ha).1,let⟨o,e,d⟩:=(r.frs a ha).2;⟨o,k a o e,d⟩⟩,fun a ha=>?_⟩,x⟩
 ·rcases dH.mp ha with q | q
  ·exact r.fresh a q
  ·simp at q;subst q
   cases hq:hb.get? a with
   | none=>rfl
   | some o=>rw[r.base _ _ hq]at hD;contradiction
 ·show(α.ix++[D]).Nodup;rw[hQ];exact⟨r.nodup,by simp,fun a ha b hb=>by simp at hb;subst hb;rintro rfl;exact ay.not_ix vz ha⟩
 ·have ka:a∈α.hid:=ha;refine⟨fun q=>?_,let⟨o,e⟩:=(r.hidden a ka).2;⟨o,k a o e⟩⟩
  rcases dH.mp q with q | q
  ·exact(r.hidden a ka).1 q
  ·simp at q;subst q;exact vz (e6 _ ka)
 ·have m2:(α.ix++[D])[i]?=some a:=ak;by_cases hi:i<σ.length
  ·rw[iN hi]at V;rw[iN (r.len▸hi)]at m2;have:=r.obj i bJ a V m2
   have hk:h'.get? a=h.get? a:=by
    refine aM (r.live (eI m2)) fun o e=>?_;rw[e,k a o e]
   exact this.ext x hk
  ·have bK:i=σ.length:=by
    have:=(dS V).1;simp at this;(grind)
   subst bK;rw[hP (dz _)]at V;rw[hP (r.len▸(dz _))]at m2;simp[r.len]at V m2;subst V m2;exact o
 ·intro q
  rcases dH.mp q with q | q
  ·exact r.frNot a ha q
  ·simp at q;subst q;obtain⟨_,o,e,_⟩:=r.frs a ha;rw[hD]at e;contradiction
theorem iB(h:n<=aI):n<=sizeLine:=aK h (by decide)
theorem TQ(r:aq K.hb s.heap σ α)(v:bj s.heap α xs vs) :
  av K aj A (newList vs) (fb ba xs σ) s α:=by
 intro hc;unfold fb at hc ⊢;by_cases hl:xs.length<=aI
 ·rw[aE hl]
  have hD:s.heap.get? s.heap.objs.size=none:=by
   cases hq:s.heap.get? s.heap.objs.size with
   | none=>rfl
   | some o=>exact absurd (fi hq) (Nat.lt_irrefl _)
  have k:∀b o,s.heap.get? b=some o->(s.heap.push { cls:=.type "list",data:=.seq vs.toArray }).get? b=some o:=fun b o e=>c8 _ e;refine wpAny_newObj_type ?_ (by show vs.toArray.size<=sizeLine;exact fH.symm▸v.1▸(iB hl))
  cases ba with
  | true =>
   refine⟨_,_,_,rfl,.keeps k,r.keeps k,?_,⟨rfl,rfl⟩⟩;refine aj.flI (n:=0) (eJ _ rfl) (fun hm=>?_) (v.ext (.keeps (F:=[]) k));refine aM (r.liveAll hm) fun o e=>?_;rw[hD]at e;contradiction
  | false =>
   refine aW (r.add (D:=s.heap.objs.size) (m:=.lst xs) k hD ⟨vs,0,eJ _ rfl,v.ext (.add k hD)⟩) fun aJ x=>?_;refine⟨_,_,_,rfl,x,aJ,.ref ?_,⟨rfl,rfl⟩⟩;rw[r.len];simp[ay.add]
 ·rw[a5 hl]at hc;exact absurd rfl hc
theorem TR(r:aq K.hb s.heap σ α)(v:bj s.heap α xs vs) :
  av K aj A (newTuple vs) (if xs.length<=aI then .ok (.tup xs) σ else .stuck) s α:=by
 intro hc;by_cases hl:xs.length<=aI
 ·rw[aE hl]
  have hD:s.heap.get? s.heap.objs.size=none:=by
   cases hq:s.heap.get? s.heap.objs.size with
   | none=>rfl
   | some o=>exact absurd (fi hq) (Nat.lt_irrefl _)
  have k:∀b o,s.heap.get? b=some o->(s.heap.push { cls:=.type "tuple",data:=.seq vs.toArray }).get? b=some o:=fun b o e=>c8 _ e;refine wpAny_newObj_type ?_ (by show vs.toArray.size<=sizeLine;exact fH.symm▸v.1▸(iB hl));refine⟨_,_,_,rfl,.keeps k,r.keeps k,?_,⟨rfl,rfl⟩⟩;refine aj.tupI (n:=0) (eJ _ rfl) (fun hm=>?_) (v.ext (.keeps (F:=[]) k));refine aM (r.liveAll hm) fun o e=>?_;rw[hD]at e;contradiction
 ·rw[a5 hl]at hc;exact absurd rfl hc
theorem wh{f:H->Option PyData}:∀{xs:List H} {vs:List Value} {ds:List PyData},xs.mapM f=some ds->xs.length=vs.length ->
  (∀(i:Nat) (x:H) (v:Value) (d:PyData),xs[i]?=some x->vs[i]?=some v->f x=some d->∃as,Reads h v d as/\d.canLay0=true/\d.depth<=n) ->
  ∃as,ReadsAll h vs ds as/\PyData.canLayAll0 ds=true/\PyData.depthAll ds<=n:=by
 intro xs
 induction xs with
 | nil =>
  intro vs ds e hl _;obtain rfl:=ii hl.symm;obtain rfl:=oi e;exact⟨[],.nil,rfl,gN _⟩
 | cons x xs ao =>
  intro vs ds e hl ar
  cases vs with
  | nil=>exact nomatch hl
  | cons v vs =>
   rw[List.mapM_cons]at e
   cases hx:f x with
   | none=>rw[hx]at e;contradiction
   | some d =>
    rw[hx]at e
    cases hr:xs.mapM f with
    | none=>rw[hr]at e;contradiction
    | some YN =>
     rw[hr]at e;obtain rfl:=oi e;refine bL (ar 0 x v d rfl rfl hx) fun as aY cr ja=>?_;refine bL (ao hr (Nat.succ.inj hl) fun i y w fj V ak bK=>ar (i+1) y w fj V ak bK) fun bs r2 fJ m1=>?_;exact⟨as++bs,.cons aY r2,Bool.and_eq_true_iff.mpr ⟨cr,fJ⟩,Nat.max_le.mpr ⟨ja,m1⟩⟩
theorem qU(r:aq hb h σ α):∀(n:Nat) (p:H) (v:Value) (d:PyData),aj h α p v->cK n σ p=some d->∃as,Reads h v d as/\d.canLay0=true/\d.depth<=n:=by
 intro n
 induction n with
 | zero=>intro p v d _ e;exact nomatch e
 | succ n ao =>
  intro p v d hv e
  cases p with
  | exc c=>exact nomatch e
  | inst c i=>exact nomatch e
  | none=>obtain rfl:=hv.noneE;obtain rfl:=oi e;exact⟨[],.none,rfl,gN _⟩
  | bool b=>obtain rfl:=hv.boolE;obtain rfl:=oi e;exact⟨[],.bool _,rfl,gN _⟩
  | int i=>refine aM hv.intE fun J ag=>?_;obtain rfl:=ag;obtain rfl:=oi e;exact⟨[],.int _ _,rfl,gN _⟩
  | str x=>refine az hv.strE fun J ag hs=>?_;obtain rfl:=ag;obtain rfl:=oi e;exact⟨[],.str _ _,hs,gN _⟩
  | tup xs =>
   obtain⟨a,items,k,rfl,V,_,vs⟩:=hv.tupE;change(xs.mapM (cK n σ)).map PyData.tuple=_ at e
   cases hm:xs.mapM (cK n σ)with
   | none=>rw[hm]at e;contradiction
   | some ds =>
    rw[hm]at e;obtain rfl:=oi e;refine bL (wh (n:=n) hm vs.1 fun i x v d V ak bK=>ao x v d (vs.2 i x v V ak) bK) fun as aY cr ja=>?_;exact⟨as,.tuple V rfl rfl (by simpa using aY),by simpa[PyData.canLay0]using cr,Nat.succ_le_succ ja⟩
  | fl xs =>
   obtain⟨a,items,k,rfl,V,_,vs⟩:=hv.flE;change(xs.mapM (cK n σ)).map PyData.list=_ at e
   cases hm:xs.mapM (cK n σ)with
   | none=>rw[hm]at e;contradiction
   | some ds =>
    rw[hm]at e;obtain rfl:=oi e;refine bL (wh (n:=n) hm vs.1 fun i x v d V ak bK=>ao x v d (vs.2 i x v V ak) bK) fun as aY cr ja=>?_;exact⟨a::as,.list V rfl rfl (by simpa using aY),by simpa[PyData.canLay0]using cr,Nat.succ_le_succ ja⟩
  | ref i =>
   refine az hv.refE fun a ag b0=>?_;obtain rfl:=ag
   change(match σ[i]? with
    | some (.lst xs)=>(xs.mapM (cK n σ)).map PyData.list
    | _=>none)=_ at e
   cases hs:σ[i]? with
   | none=>rw[hs]at e;contradiction
   | some m =>
    rw[hs]at e
    cases m with
    | lst xs =>
     change(xs.mapM (cK n σ)).map PyData.list=_ at e
     cases hm:xs.mapM (cK n σ)with
     | none=>rw[hm]at e;contradiction
     | some ds =>
      rw[hm]at e;obtain rfl:=oi e;refine c1 (r.obj i _ a hs b0) fun items k V vs=>?_;refine bL (wh (n:=n) hm vs.1 fun i x v d V ak bK=>ao x v d (vs.2 i x v V ak) bK) fun as aY cr ja=>?_;exact⟨a::as,.list V rfl rfl (by simpa using aY),by simpa[PyData.canLay0]using cr,Nat.succ_le_succ ja⟩
    | _=>exact nomatch e
theorem wH{d:PyData}(c:d.canLay0=true)(h:d.depth<=16):SeqAt.shaped d=true:=by
 unfold SeqAt.shaped;rw[c];simp;(exact aK (by assumption) (by decide))
noncomputable def eO(LQ:Heap)(LR:ay)(b:Bool)(y:Value):Prop:=y=.bool b
structure eF(A:Around):Prop where
 depth:A.depth+200<recursionLimit
 units:A.units+200<cLine
theorem Nh{a b:H}{x:Value}(hA:eF A)(r:aq K.hb s.heap σ α)(aA:aj s.heap α a x)(br:aj s.heap α b y) :
  av K eO A (compareOp .Eq x y) (ah.ofOpt (eqv σ a b) σ) s α:=by
 intro hc;unfold eqv at hc ⊢
 cases L:cK 16 σ a with
 | none=>rw[L]at hc;exact absurd rfl hc
 | some ja =>
  cases O:cK 16 σ b with
  | none=>rw[L,O]at hc;exact absurd rfl hc
  | some m1 =>
   refine bL (qU r 16 a x ja aA L) fun as aY cr bF=>?_;refine bL (qU r 16 b y m1 br O) fun bs r2 fJ bX=>?_;exact eq_dataH aY r2 (wH cr bF) (wH fJ bX) (by have:=hA.units;(grind)) ⟨_,σ,α,rfl,.refl,r,rfl,.refl s⟩
theorem Ni{a b:H}{x:Value}(hA:eF A)(r:aq K.hb s.heap σ α)(aA:aj s.heap α a x)(br:aj s.heap α b y) :
  av K eO A (compareOp .NotEq x y) (ah.ofOpt ((eqv σ a b).map (!·)) σ) s α:=by
 intro hc;unfold eqv at hc ⊢
 cases L:cK 16 σ a with
 | none=>rw[L]at hc;exact absurd rfl hc
 | some ja =>
  cases O:cK 16 σ b with
  | none=>rw[L,O]at hc;exact absurd rfl hc
  | some m1 =>
   refine bL (qU r 16 a x ja aA L) fun as aY cr bF=>?_;refine bL (qU r 16 b y m1 br O) fun bs r2 fJ bX=>?_;exact ne_dataH aY r2 (wH cr bF) (wH fJ bX) (by have:=hA.units;(grind)) ⟨_,σ,α,rfl,.refl,r,rfl,.refl s⟩
section
variable {dF mP:Type}[DecidableEq dF][DecidableEq mP]{g:dF->mP}
theorem L0{e:dF×H}{es:List (dF×H)}{k:dF}:aC k (e::es)=if e.1=k then some e.2 else aC k es:=by
 unfold aC;rw[jz];by_cases q:e.1=k
 ·simp[q]
 ·simp[q]
theorem Lh{e:mP×Value}{es:List (mP×Value)}{k:mP}:valueAt (e::es) k=if e.1=k then some e.2 else valueAt es k:=by
 unfold valueAt;rw[jz];by_cases q:e.1=k
 ·simp[q]
 ·simp[q]
theorem pY(hg:∀a b,g a=g b->a=b):∀{es:List (dF×H)} {ys:List (mP×Value)},ys.map (·.1)=es.map (fun e=>g e.1)->bj h α (es.map (·.2)) (ys.map (·.2))->∀k,
  (∀v,aC k es=some v->∃u,valueAt ys (g k)=some u/\aj h α v u)/\(aC k es=none->valueAt ys (g k)=none):=by
 intro es
 induction es with
 | nil =>
  intro ys L _ k;obtain rfl:=List.map_eq_nil_iff.mp L;exact⟨fun v e=>(by contradiction),fun J=>rfl⟩
 | cons e es ao =>
  intro ys L O k
  cases ys with
  | nil=>exact nomatch L
  | cons y ys =>
  refine aW (List.cons.inj L) fun qf z4=>?_;refine l7 O.inv_cons fun u us q a0 bN=>?_;cases q;rw[L0,Lh,show y.1=g e.1 from qf];by_cases q:e.1=k
  ·rw[aE q,aE (by rw[q])];exact⟨fun v aF=>(by obtain rfl:=oi aF;exact⟨_,rfl,a0⟩),fun aF=>(by contradiction)⟩
  ·rw[a5 q,a5 (fun z=>q (hg _ _ z))];exact ao z4 bN k
theorem CW(hg:∀a b,g a=g b->a=b):∀{es:List (dF×H)} {ys:List (mP×Value)},ys.map (·.1)=es.map (fun e=>g e.1)->∀k,(ys.any fun y=>decide (y.1=g k))=es.any fun e=>decide (e.1=k)
 | [],ys,L,k=>by
  have:ys=[]:=by simpa using L
  subst this;rfl
 | e::es,[],L,k=>(nomatch L)
 | e::es,y::ys,L,k=>by
  simp only[dw,List.cons.injEq]at L;rw[List.any_cons,List.any_cons,CW hg L.2 k,L.1];congr 1;by_cases q:e.1=k
  ·simp[q]
  ·rw[f0 q,f0 (fun z=>q (hg _ _ z))]
theorem US(hg:∀a b,g a=g b->a=b){k:dF}{v:H}(dq:aj h α v u):∀{es:List (dF×H)} {ys:List (mP×Value)},ys.map (·.1)=es.map (fun e=>g e.1)->bj h α (es.map (·.2)) (ys.map (·.2)) ->
  (ys.map fun y=>if y.1=g k then(y.1,u)else y).map (·.1)=(es.map fun e=>if e.1=k then(e.1,v)else e).map (fun e=>g e.1) ∧
  bj h α ((es.map fun e=>if e.1=k then(e.1,v)else e).map (·.2)) ((ys.map fun y=>if y.1=g k then(y.1,u)else y).map (·.2)):=by
 intro es
 induction es with
 | nil =>
  intro ys L O;obtain rfl:=List.map_eq_nil_iff.mp L;exact⟨rfl,.nil⟩
 | cons e es ao =>
  intro ys L O
  cases ys with
  | nil=>exact nomatch L
  | cons y ys =>
  refine aW (List.cons.inj L) fun qf z4=>?_;refine l7 O.inv_cons fun w ws q a0 bN=>?_;cases q;refine aW (ao z4 bN) fun bM ct=>?_;rw[dw,dw,dw,dw,dw,dw,bM];by_cases q:e.1=k
  ·rw[aE q,aE (by rw[show y.1=g e.1 from qf,q])];exact⟨by rw[show y.1=g e.1 from qf],.cons dq ct⟩
  ·rw[a5 q,a5 (fun z=>q (hg _ _ ((show y.1=g e.1 from qf).symm.trans z)))];exact⟨by rw[show y.1=g e.1 from qf],.cons a0 ct⟩
theorem C0(hg:∀a b,g a=g b->a=b){k:dF}{v:H}{es:List (dF×H)}{ys:List (mP×Value)}(L:ys.map (·.1)=es.map (fun e=>g e.1))(O:bj h α (es.map (·.2)) (ys.map (·.2)))(dq:aj h α v u) :
  (stored ys (g k) u).map (·.1)=(eK k v es).map (fun e=>g e.1)/\bj h α ((eK k v es).map (·.2)) ((stored ys (g k) u).map (·.2)):=by
 unfold stored eK;rw[CW hg L k]
 split
 ·exact US hg dq L O
 ·rw[eX,eX,eX,eX,L];exact⟨rfl,O.append #v[dq]⟩
end
noncomputable def lE(k:Str×Int):List (Str ⊕ Int):=[.inl k.1,.inr k.2]
theorem v8(a b:Str×Int)(h:lE a=lE b):a=b:=by
 unfold lE at h;simp only[List.cons.injEq,Sum.inl.injEq,Sum.inr.injEq,and_true]at h;exact Prod.ext h.1 h.2
theorem R8{p:H}{k:Str×Int}(h:hH p=some k):p=.tup [.str k.1,.int k.2]:=qE (o:=IV p) h
theorem v9{p:H}{k:Str×Int}{x:Value}(h:hH p=some k)(v:aj s.heap α p x):∃a,x=.ref a/\IsTupleKey (qG K.prog K.w) s.heap (lE k) a/\a∉α.all:=by
 rw[R8 h]at v;obtain⟨a,items,n,rfl,e,hn,w⟩:=v.tupE;refine c1 w.inv_cons fun wY us ag bi=>?_;obtain rfl:=ag;obtain⟨jq,lT⟩:=bi;refine c1 lT.inv_cons fun Ld us ag bi=>?_;obtain rfl:=ag;obtain⟨XN,XO⟩:=bi;have:us=[]:=ii XO.1.symm;subst this
 cases jq with | str _ t1 _ =>
 cases XN with | int _ cH =>
 refine⟨a,rfl,⟨_,_,n,e,rfl,rfl,?_⟩,hn⟩;refine .cons ?_ #v[?_]
 ·show Value.isStrOf k.1 (.str k.1 t1)=true;simp[Value.isStrOf]
 ·show Value.isInt k.2 (.int k.2 cH)=true;simp[Value.isInt]
theorem wr(hK:K.Ok)(r:aq K.hb s.heap σ α)(ha:a∈α.ix):(a == sysModules)=false:=by
 refine aM hK.mods fun o e=>?_;rw[lj]
 rintro rfl
 rw[r.fresh _ ha]at e;contradiction
theorem tl(hA:eF A):(tupleKind (qG K.prog K.w)).room A.in1:=by
 have:=hA.units;show A.units+1<cLine
 (grind)
theorem p3(r:aq K.hb s.heap σ α)(hs:σ[i]?=some (.dp es))(b0:α.ix[i]?=some a) :
  ∃xs,s.heap.DictOfH (tupleKind (qG K.prog K.w)) a xs/\(kvsOf xs).map (·.1)=es.map (fun e=>lE e.1)/\(∀x∈xs,x.2.1∉α.all)/\bj s.heap α (es.map (·.2)) ((kvsOf xs).map (·.2)):=by
 refine op (r.obj i _ a hs b0) fun xs L O ax aT=>?_;refine⟨xs,L,?_,ax,?_⟩
 ·rw[kvsOf,gL];exact O
 ·rw[kvsOf,gL];exact aT
theorem p4{es:List (Str×H)}(r:aq K.hb s.heap σ α)(hs:σ[i]?=some (.ds es))(b0:α.ix[i]?=some a) :
  ∃el,s.heap.DictOf (strKind K.prog K.w) a el/\el.map (·.1)=es.map (fun e=>id e.1)/\bj s.heap α (es.map (·.2)) (el.map (·.2)):=r.obj i _ a hs b0
theorem tw{k:Str}{t:Tok}:(strKind K.prog K.w).is k (.str k t)=true:=by
 show Value.isStrOf k (.str k t)=true;simp[Value.isStrOf]
theorem Rp{p:H}{k:Str×Int}{x:Value}(hK:K.Ok)(hA:eF A)(r:aq K.hb s.heap σ α)(hs:σ[i]?=some (.dp es))(b0:α.ix[i]?=some a)(hk:hH p=some k)(lS:aj s.heap α p x) :
  av K eO A (compareOp .In x (.ref a)) (.ok (aC k es).isSome σ) s α/\av K eO A (compareOp .NotIn x (.ref a)) (.ok (!(aC k es).isSome) σ) s α:=by
 refine op (p3 r hs b0) fun xs L O J aT=>?_;refine az (v9 (K:=K) hk lS) fun b ag bi=>?_;obtain rfl:=ag;refine aW bi fun hb J=>?_
 have e:(atKey xs (lE k)).isSome=(aC k es).isSome:=by
  have:=pY v8 O aT k;rw[valueAt_kvsOf]at this
  cases hq:aC k es with
  | none=>have:=this.2 hq;cases bp:atKey xs (lE k)with | none=>rfl | some z=>rw[bp]at this;contradiction
  | some v=>refine az (this.1 v hq) fun u z J=>?_;cases bp:atKey xs (lE k)with | none=>rw[bp]at z;cases z | some z=>rfl
 have hm:=wr hK r (eI b0);exact⟨fun J=>wpAny_in_heap (tl hA) hb hm L (by rw[e];exact⟨_,σ,α,rfl,.refl,r,rfl,⟨rfl,rfl⟩⟩),fun J=>wpAny_notIn_heap (tl hA) hb hm L (by rw[e];exact⟨_,σ,α,rfl,.refl,r,rfl,⟨rfl,rfl⟩⟩)⟩
theorem Rq{es:List (Str×H)}{k:Str}{t:Tok}(hK:K.Ok)(r:aq K.hb s.heap σ α)(hs:σ[i]?=some (.ds es))(b0:α.ix[i]?=some a) :
  av K eO A (compareOp .In (.str k t) (.ref a)) (.ok (aC k es).isSome σ) s α/\av K eO A (compareOp .NotIn (.str k t) (.ref a)) (.ok (!(aC k es).isSome) σ) s α:=by
 refine bL (p4 r hs b0) fun el L O aT=>?_
 have e:(valueAt el k).isSome=(aC k es).isSome:=by
  have:=pY (g:=id) (fun J J h=>h) O aT k
  cases hq:aC k es with
  | none=>have:=this.2 hq;simp only[id]at this;rw[this];rfl
  | some v=>refine az (this.1 v hq) fun u z J=>?_;simp only[id]at z;rw[z];rfl
 have hm:=wr hK r (eI b0);exact⟨fun J=>wpAny_in_of tw hm L.mapOf (by rw[e];exact⟨_,σ,α,rfl,.refl,r,rfl,⟨rfl,rfl⟩⟩),fun J=>wpAny_notIn_of tw hm L.mapOf (by rw[e];exact⟨_,σ,α,rfl,.refl,r,rfl,⟨rfl,rfl⟩⟩)⟩
theorem RZ{p v:H}{k:Str×Int}{x:Value}(hA:eF A)(r:aq K.hb s.heap σ α)(hs:σ[i]?=some (.dp es))(b0:α.ix[i]?=some a)(hk:hH p=some k)(lS:aj s.heap α p x)(hv:aC k es=some v) :
  wpAny (model K.prog K.w) A (getItem (.ref a) x) (cz K aj (.ok v σ) s α) E s:=by
 refine op (p3 r hs b0) fun xs L O J aT=>?_;refine az (v9 (K:=K) hk lS) fun b ag bi=>?_;obtain rfl:=ag;refine aW bi fun hb J=>?_;refine az ((pY v8 O aT k).1 v hv) fun u z dq=>?_;rw[valueAt_kvsOf]at z;refine az (Option.map_eq_some_iff.mp z) fun q hq ag=>?_;obtain rfl:=ag;exact wpAny_getItem_heap (tl hA) hb L hq ⟨_,σ,α,rfl,.refl,r,dq,⟨rfl,rfl⟩⟩
theorem R0{es:List (Str×H)}{v:H}{k:Str}{t:Tok}(r:aq K.hb s.heap σ α)(hs:σ[i]?=some (.ds es))(b0:α.ix[i]?=some a)(hv:aC k es=some v) :
  wpAny (model K.prog K.w) A (getItem (.ref a) (.str k t)) (cz K aj (.ok v σ) s α) E s:=by
 refine bL (p4 r hs b0) fun el L O aT=>?_;refine az ((pY (g:=id) (fun J J h=>h) O aT k).1 v hv) fun u z dq=>?_;exact wpAny_getItem_of tw L.mapOf z ⟨_,σ,α,rfl,.refl,r,dq,⟨rfl,rfl⟩⟩
theorem O6{p:H}{k:Str×Int}{x:Value}(hK:K.Ok)(hA:eF A)(r:aq K.hb s.heap σ α)(hs:σ[i]?=some (.dp es))(b0:α.ix[i]?=some a)(hk:hH p=some k)(lS:aj s.heap α p x) :
  wpAny (model K.prog K.w) A (call (.builtin "dict.get") [.ref a,x]) (cz K aj (.ok ((aC k es).getD .none) σ) s α) E s:=by
 refine op (p3 r hs b0) fun xs L O J aT=>?_;refine az (v9 (K:=K) hk lS) fun b ag bi=>?_;obtain rfl:=ag;refine aW bi fun hb J=>?_;refine call_meetsIn F.slot_dict_get L.typeIs F.entry_dict_get (F.args_dict_get_2 _ _) (meetsH_dict_get (tupleKind (qG K.prog K.w)) a b (wr hK r (eI b0))) ⟨tl hA,lE k,xs,hb,L,?_⟩;rw[<- valueAt_kvsOf];have:=pY v8 O aT k
 cases hq:aC k es with
 | none=>exact(this.2 hq).symm▸(⟨_,σ,α,rfl,.refl,r,.none,⟨rfl,rfl⟩⟩)
 | some v=>refine az (this.1 v hq) fun u z dq=>?_;exact z.symm▸(⟨_,σ,α,rfl,.refl,r,dq,⟨rfl,rfl⟩⟩)
theorem O7{es:List (Str×H)}{k:Str}{t:Tok}(hK:K.Ok)(r:aq K.hb s.heap σ α)(hs:σ[i]?=some (.ds es))(b0:α.ix[i]?=some a) :
  wpAny (model K.prog K.w) A (call (.builtin "dict.get") [.ref a,.str k t]) (cz K aj (.ok ((aC k es).getD .none) σ) s α) E s:=by
 refine bL (p4 r hs b0) fun el L O aT=>?_;refine call_meetsIn F.slot_dict_get L.typeIs F.entry_dict_get (F.args_dict_get_2 _ _) (meets_dict_get (strKind K.prog K.w) a tw (wr hK r (eI b0))) ⟨_,L.mapOf,?_⟩;have:=pY (g:=id) (fun J J h=>h) O aT k
 cases hq:aC k es with
 | none=>have z:=this.2 hq;simp only[id]at z;rw[z];exact⟨_,σ,α,rfl,.refl,r,.none,⟨rfl,rfl⟩⟩
 | some v=>refine az (this.1 v hq) fun u z dq=>?_;simp only[id]at z;exact z.symm▸(⟨_,σ,α,rfl,.refl,r,dq,⟨rfl,rfl⟩⟩)
noncomputable def JV:mT->Operator
 | .add=>.Add | .sub=>.Sub | .mul=>.Mult | .mod=>.Mod | .fdiv=>.FloorDiv | .pow=>.Pow
noncomputable def iq:iJ->CmpOp
 | .eq=>.Eq | .ne=>.NotEq | .lt=>.Lt | .le=>.LtE | .gt=>.Gt | .ge=>.GtE | .is=>.Is | .isNot=>.IsNot | .isin=>.In | .notin=>.NotIn
theorem KA{y:Str}(a:PyData.strOk x=true)(b:PyData.strOk y=true):PyData.strOk (x++y)=true:=by
 unfold PyData.strOk at *;rw[Str.cps_append];simp only[Array.all_eq_true',Array.mem_append]at *
 rintro c (h | h)
 ·exact a c h
 ·exact b c h
theorem Wg{n:Int}(h:PyData.strOk x=true):PyData.strOk (Txt.mul x n)=true:=by
 unfold Txt.mul
 split
 ·simp[PyData.strOk,Str.empty]
 ·split
  ·exact h
  ·have key:∀(k:Nat) (acc:Array Nat),PyData.strOk ⟨acc⟩=true->PyData.strOk ⟨(List.replicate k x.cps).foldl (·++·) acc⟩=true:=by
    intro k
    induction k with
    | zero=>intro acc O;exact O
    | succ k ao =>
     intro acc O;exact List.replicate_succ▸i7▸(ao _ (KA (x:=⟨acc⟩) (y:=x) O h))
   exact key _ _ (by simp[PyData.strOk])
theorem Tn{n:Int}(h:x.length<=100/\0<=n/\n<=100):MulOk x n:=
 mulOk_of 100 100 h.1 h.2.2 (by grind) (by decide) (by decide)
theorem Dg{a:Int}(h:a.natAbs<2 ^ 60):Builtin.Int.intBits a<=64:=by
 unfold Builtin.Int.intBits;by_cases h0:a.natAbs=0
 ·have:a=0:=by grind
  subst this;decide
 ·have:=(Nat.log2_lt h0).mpr h
  split <;> (grind)
inductive CH(h:Heap)(α:ay)(xs:List H)(v:Value):Prop
 | mk (a:Addr) (items:List Value) (n:Nat) (e:v=.ref a) (aO:h.get? a=some { cls:=.type "list",data:=.seq (List.toArray items) n }) (vs:bj h α xs items):CH h α xs v
theorem l2{a:H}{x:Value}(r:aq hb h σ α)(v:aj h α a x)(e:cx σ a=some xs) :
  CH h α xs x:=by
 cases a with
 | fl ys=>obtain rfl:=oi e;obtain⟨l,items,n,rfl,V,_,vs⟩:=v.flE;exact⟨l,items,n,rfl,V,vs⟩
 | ref i =>
  refine az v.refE fun l ag dZ=>?_;obtain rfl:=ag;simp only[cx]at e
  cases hs:σ[i]? with
  | none=>rw[hs]at e;contradiction
  | some m =>
   rw[hs]at e
   cases m with
   | lst ys=>obtain rfl:=oi e;refine c1 (r.obj i _ l hs dZ) fun items n V vs=>?_;exact⟨l,items,n,rfl,V,vs⟩
   | _=>contradiction
 | _=>contradiction
theorem lK(s:Shared):s.heap.get? s.heap.objs.size=none:=by
 cases hq:s.heap.get? s.heap.objs.size with
 | none=>rfl
 | some o=>exact absurd (fi hq) (Nat.lt_irrefl _)
theorem cz.fl(r:aq K.hb s.heap σ α)(v:bj s.heap α xs vs) :
  cz K aj (.ok (.fl xs) σ) s α (.ref s.heap.objs.size) { s with heap:=s.heap.push { cls:=.type "list",data:=.seq vs.toArray } }:=by
 have k:∀b o,s.heap.get? b=some o->(s.heap.push { cls:=.type "list",data:=.seq vs.toArray }).get? b=some o:=fun b o e=>c8 _ e;refine⟨_,_,_,rfl,.keeps k,r.keeps k,?_,⟨rfl,rfl⟩⟩;refine aj.flI (n:=0) (eJ _ rfl) (fun hm=>?_) (v.ext (.keeps (F:=[]) k));refine aM (r.liveAll hm) fun o e=>?_;rw[lK]at e;contradiction
theorem cz.tup(r:aq K.hb s.heap σ α)(v:bj s.heap α xs vs) :
  cz K aj (.ok (.tup xs) σ) s α (.ref s.heap.objs.size) { s with heap:=s.heap.push { cls:=.type "tuple",data:=.seq vs.toArray } }:=by
 have k:∀b o,s.heap.get? b=some o->(s.heap.push { cls:=.type "tuple",data:=.seq vs.toArray }).get? b=some o:=fun b o e=>c8 _ e;refine⟨_,_,_,rfl,.keeps k,r.keeps k,?_,⟨rfl,rfl⟩⟩;refine aj.tupI (n:=0) (eJ _ rfl) (fun hm=>?_) (v.ext (.keeps (F:=[]) k));refine aM (r.liveAll hm) fun o e=>?_;rw[lK]at e;contradiction
theorem cz.here{β γ:Type}{dW:Heap->ay->β->γ->Prop}{b:β}{y:γ}(r:aq K.hb s.heap σ α)(v:dW s.heap α b y):cz K dW (.ok b σ) s α y { s with toks:=tk }:=
 ⟨_,_,_,rfl,.refl,r,v,⟨rfl,rfl⟩⟩
theorem LS{l:Addr}{ws:List Value}(ho:s.heap.get? l=some { cls:=.type "list",data:=.seq vs.toArray n })
  (kJ:s.heap.get? b=some { cls:=.type "list",data:=.seq ws.toArray n2 }) (hsz:vs.length+ws.length<=sizeLine)
  (h:Q (.ref s.heap.objs.size) { s with heap:=s.heap.push { cls:=.type "list",data:=.seq (vs++ws).toArray } }):wpAny (model K.prog K.w) A (binaryOp .Add (.ref l) (.ref b)) Q E s:=by
 have e:vs.toArray++ws.toArray=(vs++ws).toArray:=by simp
 refine concat_meets ⟨_,ho,rfl⟩ ⟨_,kJ,rfl⟩ noFill_list_add seq_list_add PySem.F.slot_list_add PySem.F.entry_list_add (PySem.F.args_list_add_2 _ _) (list_addW l b vs.toArray ws.toArray n n2 none none #[] #[] (by simpa using hsz)) ⟨ho,kJ,?_⟩;exact e.symm▸h
theorem LU{t:Addr}{ws:List Value}(ho:s.heap.get? t=some { cls:=.type "tuple",data:=.seq vs.toArray n })
  (kJ:s.heap.get? b=some { cls:=.type "tuple",data:=.seq ws.toArray n2 }) (hsz:vs.length+ws.length<=sizeLine)
  (h0:vs=[]->Q (.ref b) s) (L:vs≠[]->ws=[]->Q (.ref t) s)
  (O:Q (.ref s.heap.objs.size) { s with heap:=s.heap.push { cls:=.type "tuple",data:=.seq (vs++ws).toArray } }):wpAny (model K.prog K.w) A (binaryOp .Add (.ref t) (.ref b)) Q E s:=by
 have e:vs.toArray++ws.toArray=(vs++ws).toArray:=by simp
 by_cases hv:vs=[]
 ·exact concat_meets ⟨_,ho,rfl⟩ ⟨_,kJ,rfl⟩ noFill_tuple_add seq_tuple_add PySem.F.slot_tuple_add PySem.F.entry_tuple_add (PySem.F.args_tuple_add_2 _ _)
   (tuple_addW0 t b vs.toArray ws.toArray n n2 none none #[] #[] (by simp[hv])) ⟨ho,kJ,h0 hv⟩
 ·by_cases hw:ws=[]
  ·exact concat_meets ⟨_,ho,rfl⟩ ⟨_,kJ,rfl⟩ noFill_tuple_add seq_tuple_add PySem.F.slot_tuple_add PySem.F.entry_tuple_add (PySem.F.args_tuple_add_2 _ _)
    (tuple_addW1 t b vs.toArray ws.toArray n n2 none none #[] #[] (by simpa using hv) (by simp[hw])) ⟨ho,kJ,L hv hw⟩
  ·refine concat_meets ⟨_,ho,rfl⟩ ⟨_,kJ,rfl⟩ noFill_tuple_add seq_tuple_add PySem.F.slot_tuple_add PySem.F.entry_tuple_add (PySem.F.args_tuple_add_2 _ _)
    (tuple_addW2 t b vs.toArray ws.toArray n n2 none none #[] #[] (by simpa using hv) (by simpa using hw) (fH▸fH▸hsz)) ⟨ho,kJ,?_⟩
   exact e.symm▸O
theorem t4{f:Int->Int->ah H}{o:Operator}{a b:H}{x:Value}(aA:aj s.heap α a x)(br:aj s.heap α b y)
  (ar:∀i j t u,f i j≠.stuck->wpAny (model K.prog K.w) A (binaryOp o (.int i t) (.int j u)) (cz K aj (f i j) s α) (dh K A (f i j) s α) s):av K aj A (binaryOp o x y) (rH f a b) s α:=by
 intro hc
 cases a with
 | int i =>
  cases b with
  | int j=>refine aM aA.intE fun J ag=>?_;obtain rfl:=ag;refine aM br.intE fun J ag=>?_;obtain rfl:=ag;exact ar i j _ _ hc
  | _=>exact absurd rfl hc
 | _=>exact absurd rfl hc
theorem LV{P:H->H->ah H->Prop}(h0:∀a b,P a b .stuck)(L:∀i j,P (.int i) (.int j) (.ok (.int (i+j)) σ))(O:∀p q,p.length+q.length<=aI->P (.str p) (.str q) (.ok (.str (p++q)) σ))(ax:∀p q,p.length+q.length<=aI->P (.tup p) (.tup q) (.ok (.tup (p++q)) σ))(aT:∀a b xs ys,cx σ a=some xs->cx σ b=some ys->xs.length+ys.length<=aI->P a b (.ok (.fl (xs++ys)) σ)):∀a b,P a b (xA a b σ):=by
 intro a b
 have o4:P a b (match cx σ a with
  | some x=>match cx σ b with
   | some y=>if x.length+y.length<=aI then .ok (.fl (x++y)) σ else .stuck
   | none=>.stuck
  | none=>.stuck):=by
  cases V:cx σ a with
  | none=>exact h0 _ _
  | some xs =>
   cases ak:cx σ b with
   | none=>exact h0 _ _
   | some ys =>
    dsimp only;by_cases hl:xs.length+ys.length<=aI
    ·rw[aE hl];exact aT a b xs ys V ak hl
    ·rw[a5 hl];exact h0 _ _
 cases a with
 | int i =>
  cases b with
  | int j=>exact L i j
  | _=>exact h0 _ _
 | str p =>
  cases b with
  | str q =>
   show P _ _ (if p.length+q.length<=aI then ah.ok (H.str (p++q)) σ else .stuck);by_cases hl:p.length+q.length<=aI
   ·rw[aE hl];exact O p q hl
   ·rw[a5 hl];exact h0 _ _
  | _=>exact h0 _ _
 | tup p =>
  cases b with
  | tup q =>
   show P _ _ (if p.length+q.length<=aI then ah.ok (H.tup (p++q)) σ else .stuck);by_cases hl:p.length+q.length<=aI
   ·rw[aE hl];exact ax p q hl
   ·rw[a5 hl];exact h0 _ _
  | _=>exact h0 _ _
 | _=>exact o4
theorem LW{a b:H}{x:Value}(r:aq K.hb s.heap σ α)(aA:aj s.heap α a x)(br:aj s.heap α b y):av K aj A (binaryOp .Add x y) (xA a b σ) s α:=by
 refine LV (P:=fun a b c=>aj s.heap α a x->aj s.heap α b y->av K aj A (binaryOp .Add x y) c s α) (fun J J J J hc=>absurd rfl hc) (fun i j aA br J=>?_) (fun p q hl aA br J=>?_) (fun p q hl aA br J=>?_) (fun a b xs ys L O hl aA br J=>?_) a b aA br
 ·refine aM aA.intE fun J ag=>?_;obtain rfl:=ag;refine aM br.intE fun J ag=>?_;obtain rfl:=ag;exact P.add_int (.here r (.int _ _))
 ·refine az aA.strE fun J ag L=>?_;obtain rfl:=ag;refine az br.strE fun J ag O=>?_;obtain rfl:=ag;exact PyProof.Rows.add_str (fun bt tk=>.here r (.str _ _ (KA L O))) (iB hl)
 ·obtain⟨t,vs,n,rfl,V,n1,a0⟩:=aA.tupE;obtain⟨u,ws,m,rfl,ak,n2,bN⟩:=br.tupE;refine LU V ak (a0.1▸bN.1▸(iB hl)) (fun h=>?_) (fun J h=>?_) (.tup r (a0.append bN))
  ·refine⟨_,_,_,rfl,.refl,r,?_,.refl _⟩;have:_=0:=a0.1.trans (by rw[h];rfl);exact(ii this).symm▸br
  ·refine⟨_,_,_,rfl,.refl,r,?_,.refl _⟩;have:_=0:=bN.1.trans (by rw[h];rfl);rw[ii this,iP];exact aA
 ·obtain⟨l,vs,n,rfl,V,a0⟩:=l2 r aA L;obtain⟨o1,ws,m,rfl,ak,bN⟩:=l2 r br O;exact LS V ak (a0.1▸bN.1▸(iB hl)) (.fl r (a0.append bN))
theorem bj.rep(v:bj h α xs vs):∀k:Nat,bj h α (List.replicate k xs).flatten (List.replicate k vs).flatten
 | 0=>by simpa using bj.nil
 | k+1=>by simpa[List.replicate_succ]using v.append (v.rep k)
theorem Tm{l:Addr}{x:Int}{u:Tok}(hl:s.heap.get? l=some { cls:=.type "list",data:=.seq vs.toArray n })(h0:0<=x)(L:x<=100)(O:vs.length<=100)
  (h:Q (.ref s.heap.objs.size) { s with heap:=s.heap.push { cls:=.type "list",data:=.seq (List.replicate x.toNat vs).flatten.toArray } }):wpAny (model K.prog K.w) A (binaryOp .Mult (.ref l) (.int x u)) Q E s:=by
 have hsz:vs.toArray.size*x.toNat<=2 ^ 24:=by
  rw[fH];exact aK (Nat.mul_le_mul O (show x.toNat<=100 by omega)) (by decide)
 refine wpAny_binaryOp_repeat_ref (T := "list") (U := "int") (by decide) ⟨_,hl,rfl⟩ (fun s'=>typeIs_int s' x u) noFill_list_mul F.fills_int_mul F.slot_int_rmul repeat_list F.slot_int_index.lookup
  (call_meets F.slot_int_rmul (typeIs_int s x u) F.entry_int_rmul (F.args_int_rmul_2 _ _) (int___rmul___int_list x u l vs.toArray n)
   ⟨hl,rfl,⟨_,hl,rfl⟩,call_meets F.slot_list_mul ⟨_,hl,rfl⟩ F.entry_list_mul (F.args_list_mul_2 _ _)
    (AutoListH.list___mul___list_int_3 l vs.toArray n x u (by simp[Builtin.List.listFitsIndex];omega) (by omega) (by simp[Builtin.List.listTooLong,sizeLine];simpa using hsz)) ⟨hl,?_⟩⟩)
 rw[listMul_foldl]
 have e:(if vs.toArray.isEmpty=true then 0 else x.toNat)=x.toNat\/vs=[]:=by
  cases vs with
  | nil=>exact .inr rfl
  | cons=>exact .inl rfl
 rcases e with e | rfl
 ·rw[e];simpa using h
 ·simpa using h
theorem To{a b:H}{x:Value}(r:aq K.hb s.heap σ α)(aA:aj s.heap α a x)(br:aj s.heap α b y):av K aj A (binaryOp .Mult x y) (Jv a b σ) s α:=by
 intro hc
 cases b with
 | int j =>
  refine aM br.intE fun J ag=>?_;obtain rfl:=ag
  cases a with
  | int i =>
   refine aM aA.intE fun J ag=>?_;obtain rfl:=ag;change(if qI i j=true then ah.ok (H.int (i*j)) σ else .stuck)≠.stuck at hc;show wpAny _ _ _ (cz K aj (if qI i j=true then ah.ok (H.int (i*j)) σ else .stuck) s α) (dh K A (if qI i j=true then ah.ok (H.int (i*j)) σ else .stuck) s α) s;by_cases hm:qI i j=true
   ·rw[aE hm];refine P.mul_int (.here r (.int _ _)) ?_;exact(ht hm).elim (fun h=>.of_left (Dg h)) fun h=>.of_right (Dg h)
   ·rw[a5 hm]at hc;exact absurd rfl hc
  | str p =>
   refine az aA.strE fun J ag hx=>?_;obtain rfl:=ag;change(if p.length<=100/\0<=j/\j<=100 then ah.ok (H.str (Txt.mul p j)) σ else .stuck)≠.stuck at hc;show wpAny _ _ _ (cz K aj (if p.length<=100/\0<=j/\j<=100 then ah.ok (H.str (Txt.mul p j)) σ else .stuck) s α) (dh K A (if p.length<=100/\0<=j/\j<=100 then ah.ok (H.str (Txt.mul p j)) σ else .stuck) s α) s;by_cases h0:p.length<=100/\0<=j/\j<=100
   ·rw[aE h0];exact SB.mul (Tn h0) fun bt tk=>.here r (.str _ _ (Wg hx))
   ·rw[a5 h0]at hc;exact absurd rfl hc
  | fl xs =>
   obtain⟨l,vs,n,rfl,V,_,v⟩:=aA.flE;change(if xs.length<=100/\0<=j/\j<=100 then ah.ok (H.fl (List.replicate j.toNat xs).flatten) σ else .stuck)≠.stuck at hc;show wpAny _ _ _ (cz K aj (if xs.length<=100/\0<=j/\j<=100 then ah.ok (H.fl (List.replicate j.toNat xs).flatten) σ else .stuck) s α) (dh K A (if xs.length<=100/\0<=j/\j<=100 then ah.ok (H.fl (List.replicate j.toNat xs).flatten) σ else .stuck) s α) s;by_cases h0:xs.length<=100/\0<=j/\j<=100
   ·rw[aE h0];exact Tm V h0.2.1 h0.2.2 (by rw[<- v.1];exact h0.1) (cz.fl r (v.rep _))
   ·rw[a5 h0]at hc;exact absurd rfl hc
  | _=>exact absurd rfl hc
 | _=>exact absurd rfl hc
theorem MH{o:mT}{a b:H}{x:Value}(hA:eF A)(r:aq K.hb s.heap σ α)(aA:aj s.heap α a x)(br:aj s.heap α b y) :
  av K aj A (binaryOp (JV o) x y) (j3 o a b σ) s α:=by
 cases o with
 | add=>exact LW r aA br
 | mul=>exact To r aA br
 | sub=>exact t4 aA br fun i j t u J=>P.sub_int (.here r (.int _ _))
 | mod =>
  refine t4 aA br fun i j t u hc=>?_;by_cases h0:0<j
  ·rw[aE h0,<- Int.fmod_eq_emod_of_nonneg _ (Int.le_of_lt h0)];exact mod_int' (Int.ne_of_gt h0) (.here r (.int _ _))
  ·rw[a5 h0]at hc;exact absurd rfl hc
 | fdiv =>
  refine t4 aA br fun i j t u hc=>?_;by_cases h0:0<j/\j<1073741824
  ·rw[aE h0,<- Int.fdiv_eq_ediv_of_nonneg _ (Int.le_of_lt h0.1)];exact floordiv_int (Int.ne_of_gt h0.1) (.here r (.int _ _)) (.inl (PyProof.noPylong_small (by grind)))
  ·rw[a5 h0]at hc;exact absurd rfl hc
 | pow =>
  refine t4 aA br fun i j t u hc=>?_;by_cases h0:0<=j/\j<=100/\i=10
  ·rw[aE h0];refine d4 h0 fun L O ag=>?_;obtain rfl:=ag;refine pow_int L ?_ (.here r (.int _ _))
   have:Builtin.Int.intBits 10=4:=by decide +kernel
   rw[this];(grind)
  ·rw[a5 h0]at hc;exact absurd rfl hc
theorem aj.ne_none{a:H}{x:Value}(v:aj h α a x)(hn:a≠.none):x≠.none:=by
 cases v <;> first | exact absurd rfl hn | (intro e;contradiction)
theorem A6{a:H}{x:Value}{l:Addr}{items:List Value}{T:String}(dY:T = "list" \/ T = "tuple")(hA:eF A)(r:aq K.hb s.heap σ α)(aA:aj s.heap α a x)
  (V:s.heap.get? l=some { cls:=.type T,data:=.seq items.toArray n }) (vs:bj s.heap α xs items) :
  av K eO A (compareOp .In x (.ref l)) (ah.ofOpt (iC σ a xs) σ) s α ∧
  av K eO A (compareOp .NotIn x (.ref l)) (ah.ofOpt ((iC σ a xs).map (!·)) σ) s α:=by
 unfold iC
 cases L:cK 16 σ a with
 | none=>exact⟨fun hc=>absurd rfl hc,fun hc=>absurd rfl hc⟩
 | some d =>
  cases O:xs.mapM (cK 16 σ)with
  | none=>exact⟨fun hc=>absurd rfl hc,fun hc=>absurd rfl hc⟩
  | some ds =>
   refine bL (qU r 16 a x d aA L) fun as aY cr bF=>?_;refine bL (wh (n:=16) O vs.1 fun i x v d V ak bK=>qU r 16 x v d (vs.2 i x v V ak) bK) fun bs r2 fJ bX=>?_
   have hu:A.units+1+min (PyData.depthAll ds) d.depth<cLine:=by have:=hA.units;(grind)
   rcases dY with rfl | rfl
   ·have tj:Reads s.heap (.ref l) (.list ds) (l::bs):=.list V rfl rfl (by simpa using r2)
    exact⟨fun J=>SeqAt.in_list_reads tj aY (by simpa[PyData.canLay0]using fJ) cr hu ⟨_,σ,α,rfl,.refl,r,rfl,.refl s⟩,
     fun J=>SeqAt.notIn_list_reads tj aY (by simpa[PyData.canLay0]using fJ) cr hu ⟨_,σ,α,rfl,.refl,r,rfl,.refl s⟩⟩
   ·have tj:Reads s.heap (.ref l) (.tuple ds) bs:=.tuple V rfl rfl (by simpa using r2)
    exact⟨fun J=>SeqAt.in_tuple_reads tj aY (by simpa[PyData.canLay0]using fJ) cr hu ⟨_,σ,α,rfl,.refl,r,rfl,.refl s⟩,
     fun J=>SeqAt.notIn_tuple_reads tj aY (by simpa[PyData.canLay0]using fJ) cr hu ⟨_,σ,α,rfl,.refl,r,rfl,.refl s⟩⟩
theorem JS(x:Str)(c:Nat):(!(Builtin.Str.occurrences x ⟨#[c]⟩ 0 x.length 1).isEmpty)=x.cps.toList.contains c:=by
 rw[StrLaws.found_one];simp
theorem wy{f:Int->Int->Bool}{o:CmpOp}{a b:H}{x:Value}(r:aq K.hb s.heap σ α)(aA:aj s.heap α a x)(br:aj s.heap α b y)
  (ar:∀i j t u (Q:Value->Shared->Prop) (E:Value->Shared->Prop),Q (.bool (f i j)) s->wpAny (model K.prog K.w) A (compareOp o (.int i t) (.int j u)) Q E s):av K eO A (compareOp o x y) (s9 f a b σ) s α:=by
 intro hc
 cases a with
 | int i =>
  cases b with
  | int j=>refine aM aA.intE fun J ag=>?_;obtain rfl:=ag;refine aM br.intE fun J ag=>?_;obtain rfl:=ag;exact ar i j _ _ _ _ ⟨_,σ,α,rfl,.refl,r,rfl,.refl s⟩
  | _=>exact absurd rfl hc
 | _=>exact absurd rfl hc
theorem IQ{f:Bool->Bool}{o:CmpOp}{a b:H}{x:Value}(r:aq K.hb s.heap σ α)(aA:aj s.heap α a x)(br:aj s.heap α b y)
  (jS:∀(Q:Value->Shared->Prop) (E:Value->Shared->Prop),Q (.bool (f true)) s->wpAny (model K.prog K.w) A (compareOp o .none .none) Q E s)
  (eh:∀(x:Value) (Q:Value->Shared->Prop) (E:Value->Shared->Prop),x≠.none->Q (.bool (f false)) s->wpAny (model K.prog K.w) A (compareOp o x .none) Q E s)
  (pL:∀(p q:Bool) (Q:Value->Shared->Prop) (E:Value->Shared->Prop),Q (.bool (f (decide (p=q)))) s->wpAny (model K.prog K.w) A (compareOp o (.bool p) (.bool q)) Q E s):av K eO A (compareOp o x y) (AS f a b σ) s α:=by
 intro hc
 cases b with
 | none =>
  obtain rfl:=br.noneE;show wpAny _ _ _ (cz K eO (.ok (f (iA a)) σ) s α) _ _;by_cases hn:a=.none
  ·subst hn;obtain rfl:=aA.noneE;exact jS _ _ ⟨_,σ,α,rfl,.refl,r,rfl,.refl s⟩
  ·have:iA a=false:=by cases a <;> first | rfl | exact absurd rfl hn
   exact this.symm▸(eh _ _ _ (aA.ne_none hn) ⟨_,σ,α,rfl,.refl,r,rfl,.refl s⟩)
 | bool q =>
  cases a with
  | bool p=>obtain rfl:=aA.boolE;obtain rfl:=br.boolE;exact pL _ _ _ _ ⟨_,σ,α,rfl,.refl,r,rfl,.refl s⟩
  | _=>exact absurd rfl hc
 | _=>exact absurd rfl hc
theorem RP{a:H}:d0 a (.ref i) σ=match σ[i]? with
   | some (.lst xs)=>iC σ a xs
   | some (.ds es)=>(match a with
    | .str k=>some (aC k es).isSome
    | _=>none)
   | some (.dp es)=>(hH a).map fun k=>(aC k es).isSome
   | _=>none:=rfl
theorem RO{P:H->H->Option Bool->Prop}(h0:∀a b,P a b none)(L:∀a xs,P a (.tup xs) (iC σ a xs))(O:∀a xs,P a (.fl xs) (iC σ a xs))(ax:∀a i xs,σ[i]?=some (.lst xs)->P a (.ref i) (iC σ a xs))(aT:∀c z,P (.str ⟨#[c]⟩) (.str z) (some (z.cps.toList.contains c)))
  (c2:∀k i es,σ[i]?=some (.ds es)->P (.str k) (.ref i) (some (aC k es).isSome)) (gA:∀a i es k,σ[i]?=some (.dp es)->hH a=some k->P a (.ref i) (some (aC k es).isSome))
  : ∀a b,P a b (d0 a b σ):=by
 intro a b
 cases b with
 | tup xs=>exact L a xs
 | fl xs=>exact O a xs
 | str z =>
  cases a with
  | str w =>
   unfold d0;dsimp only
   cases sv:w.cps.toList with
   | nil=>exact h0 _ _
   | cons c bi =>
    cases bi with
    | cons _ _=>exact h0 _ _
    | nil =>
     obtain rfl:w=⟨#[c]⟩:=by cases w;simp at sv;simp[<- sv]
     exact aT c z
  | _=>exact h0 _ _
 | ref i =>
  rw[RP]
  cases hs:σ[i]? with
  | none=>exact h0 _ _
  | some m =>
   cases m with
   | lst xs=>exact ax a i xs hs
   | ds es =>
    cases a with
    | str k=>exact c2 k i es hs
    | _=>exact h0 _ _
   | dp es =>
    dsimp only
    cases hk:hH a with
    | none=>exact h0 _ _
    | some k=>exact gA a i es k hs hk
   | _=>exact h0 _ _
 | _=>exact h0 _ _
theorem IP{a b:H}{x:Value}(hK:K.Ok)(hA:eF A)(r:aq K.hb s.heap σ α)(aA:aj s.heap α a x)(br:aj s.heap α b y):av K eO A (compareOp .In x y) (ah.ofOpt (d0 a b σ) σ) s α/\av K eO A (compareOp .NotIn x y) (ah.ofOpt ((d0 a b σ).map (!·)) σ) s α:=by
 refine RO (P:=fun a b o=>aj s.heap α a x->aj s.heap α b y->av K eO A (compareOp .In x y) (ah.ofOpt o σ) s α/\av K eO A (compareOp .NotIn x y) (ah.ofOpt (o.map (!·)) σ) s α) (fun J J J J=>⟨fun hc=>absurd rfl hc,fun hc=>absurd rfl hc⟩) (fun a xs aA br=>?_) (fun a xs aA br=>?_) (fun a i xs hs aA br=>?_) (fun c z aA br=>?_)
  (fun k i es hs aA br=>?_) (fun a i es k hs hk aA br=>?_)
  a b aA br
 ·obtain⟨l,items,n,rfl,V,_,vs⟩:=br.tupE;exact A6 (.inr rfl) hA r aA V vs
 ·obtain⟨l,items,n,rfl,V,_,vs⟩:=br.flE;exact A6 (.inl rfl) hA r aA V vs
 ·refine az br.refE fun l ag dZ=>?_;obtain rfl:=ag;refine c1 (r.obj i _ l hs dZ) fun items n V vs=>?_;exact A6 (.inl rfl) hA r aA V vs
 ·refine az br.strE fun J ag J=>?_;obtain rfl:=ag;refine az aA.strE fun J ag J=>?_;obtain rfl:=ag;exact⟨fun J=>PyProof.Rows.in_str (by rw[JS];exact⟨_,σ,α,rfl,.refl,r,rfl,.refl s⟩),fun J=>PyProof.Rows.notIn_str (by rw[JS];exact⟨_,σ,α,rfl,.refl,r,rfl,.refl s⟩)⟩
 ·refine az br.refE fun l ag dZ=>?_;obtain rfl:=ag;refine az aA.strE fun J ag J=>?_;obtain rfl:=ag;exact Rq hK r hs dZ
 ·refine az br.refE fun l ag dZ=>?_;obtain rfl:=ag;exact Rp hK hA r hs dZ hk aA
theorem p2{o:iJ}{a b:H}{x:Value}(hK:K.Ok)(hA:eF A)(r:aq K.hb s.heap σ α)(aA:aj s.heap α a x)(br:aj s.heap α b y) :
  av K eO A (compareOp (iq o) x y) (cX o a b σ) s α:=by
 cases o with
 | eq=>exact Nh hA r aA br
 | ne=>exact Ni hA r aA br
 | lt=>exact wy r aA br fun i j t u Q E h=>P.lt_int h
 | le=>exact wy r aA br fun i j t u Q E h=>P.le_int h
 | gt=>exact wy r aA br fun i j t u Q E h=>P.gt_int h
 | ge=>exact wy r aA br fun i j t u Q E h=>P.ge_int h
 | is=>exact IQ (f:=id) r aA br (fun Q E h=>is_none_none h) (fun x Q E hn h=>is_none_ne hn h) fun p q Q E h=>is_bool h
 | isNot=>exact IQ (f:=(!·)) r aA br (fun Q E h=>isnot_none_none h) (fun x Q E hn h=>isnot_none_ne hn h) fun p q Q E h=>isnot_bool h
 | isin=>exact(IP hK hA r aA br).1
 | notin=>exact(IP hK hA r aA br).2
noncomputable def f5(ys:List Str)(i:Nat):List Str:=gS (ys.take i)
noncomputable def pi(a:List Str)(x:Str):List Str:=if a.any (· == x)then a else a++[x]
theorem Jm{ys:List Str}{y:Str}(h:ys[i]?=some y):f5 ys (i+1)=pi (f5 ys i) y:=by
 unfold f5 gS;rw[List.take_add_one,h,Option.toList_some,List.foldl_append];rfl
theorem UP(a:List Str)(v k:Str):(pi a v).any (· == k)=(a.any (· == k)||decide (k=v)):=by
 unfold pi;by_cases h:a.any (· == v)=true
 ·rw[aE h];by_cases e:k=v
  ·subst e;rw[h];rfl
  ·simp[e]
 ·rw[a5 h,List.any_append];congr 1;by_cases e:k=v
  ·subst e;simp
  ·have:(v == k)=false:=by simpa using fun q:v=k=>e q.symm
   simp[e,this]
theorem Ka(a:List Str)(v:Str):(pi a v).length=if a.any (· == v)then a.length else a.length+1:=by
 unfold pi;split <;> simp
theorem Nv(l:List Str):(gS l).length<=l.length:=by
 unfold gS
 have:∀(l a:List Str),(l.foldl pi a).length<=a.length+l.length:=by
  intro l
  induction l with
  | nil=>intro a;simp
  | cons x l ao =>
   intro a;have L:=ao (pi a x);have O:=Ka a x;rw[i7,dj]
   split at O <;> (grind)
 have h:=this l [];rw[List.length_nil,ij]at h;exact h
theorem S6(ys:List Str)(i:Nat):(f5 ys i).length<=i:=aK (Nv _) (List.length_take.symm▸(Nat.min_le_left _ _))
theorem KC:∀{vs:List Value} {ys:List Str},StrsAre vs ys->∀(i:Nat) (v:Value),vs[i]?=some v->∃y t,ys[i]?=some y/\v=.str y t
 | _,_,.nil,i,v,h=>(nomatch h)
 | _,_,.cons y t r,0,v,h=>by simp at h;exact⟨y,t,rfl,h.symm⟩
 | _,_,.cons y t r,i+1,v,h=>by simpa using KC r i v (by simpa using h)
theorem BP:∀{vs:List Value} {ys:List Str},StrsAre vs ys->vs.length=ys.length
 | _,_,.nil=>rfl
 | _,_,.cons _ _ r=>by simp[BP r]
section
variable {prog:Program}{w:World}{aq:Result->Shared->Prop}{fp lU:List Addr}{G:Array GenState->Array GenState->Prop}{P:Nat->Value->Prop}{St:Nat->Shared->Prop}
theorem Ki(W:WalksS prog w A.in1 I fp lU G n P St)(S:Addr)(sk:S∉fp)(ys:List Str)(vT:∀i v,P i v->∃y t,ys[i]?=some y/\v=.str y t)(hb:n+1<scanBound) :
  ∀(k i:Nat) (s:Shared),n-i=k->i<=n->St i s->s.heap.SetOf (strKind prog w) S (fun z=>(f5 ys i).any (· == z)) (f5 ys i).length ->
   (∀s',Moved (S::lU) G s s'->s'.heap.SetOf (strKind prog w) S (fun z=>(f5 ys n).any (· == z)) (f5 ys n).length->aq (.ok (.ret .none)) s') ->
   codeAny (model prog w) A (.builtin "set.update.loop" ⟨[.ref S,.ref I],[]⟩) aq s:=by
 have PL:S∉lU:=fun h=>sk (W.sub _ h);have vR:∀b∈lU,b∈S::lU:=fun b hb=>bQ _ hb
 have Ku:∀{s s':Shared} {i:Nat},Moved lU G s s'->s.heap.SetOf (strKind prog w) S (fun z=>(f5 ys i).any (· == z)) (f5 ys i).length->s'.heap.SetOf (strKind prog w) S (fun z=>(f5 ys i).any (· == z)) (f5 ys i).length:=by
  intro s s' i hm jd;refine x3 jd fun o es ez t ho rest=>?_;exact⟨o,es,ez,t,hm.heap S _ PL ho,rest⟩
 intro k
 induction k with
 | zero =>
  intro i s hk hi hst jd hR
  have:i=n:=by grind
  subst this;refine codeAny_builtin F.entry_set_update_loop ?_;rw[Around.under_plainId F.plain_set_update_loop _];show wpAny _ A.in1 (pyNext (.ref I) >>= _) _ _ s;refine aN (W.done s _ _ hst fun s' hm=>?_);exact bO (hR s' (hm.mono vR) (Ku hm jd))
 | succ k ao =>
  intro i s hk hi hst jd hR
  have eB:i<n:=by grind
  refine codeAny_builtin F.entry_set_update_loop ?_;rw[Around.under_plainId F.plain_set_update_loop _];show wpAny _ A.in1 (pyNext (.ref I) >>= _) _ _ s;refine aN (W.item i s _ _ eB hst fun v s' vB Q1 hm=>?_);refine c1 (vT i v vB) fun y t hy ag=>?_;obtain rfl:=ag;show wpAny _ A.in1 (holding [Value.str y t] (setAdd S (.str y t)) >>= _) _ _ s';refine aN (hT ?_);unfold setAdd;refine hT (aN ((strKind prog w).pyHash (k:=y) (strKind_is _ _ _ _) ?_));have kI:s'.heap.SetOf (strKind prog w) S (fun z=>(f5 ys i).any (· == z)) (f5 ys i).length:=Ku hm jd;refine wpAny_setAddHashed_of (knd:=strKind prog w) (s:={ s' with toks:=s'.toks+1 }) (strKind_is _ _ _ _) rfl kI (by have:=S6 ys i;(grind)) fun h' vP hS2=>?_
  have PK:h'.SetOf (strKind prog w) S (fun z=>(f5 ys (i+1)).any (· == z)) (f5 ys (i+1)).length:=
   SetOf_congr hS2 (fun z=>by rw[Jm hy,UP]) (by rw[Jm hy,Ka])
  refine bO ⟨plainId_quiet F.plain_set_update_loop _,ao (i+1) _ (by grind) eB (W.frame _ s' _ _ Q1 (Nat.le_succ _) fun b hb o e=>?_) PK fun kY Qw PJ=>?_⟩
  ·rw[vP.2 b (fun h:b=S=>sk (h▸hb))];exact e
  ·refine hR kY (Moved.trans W.gtrans ((hm.mono vR).then_heap (Nat.le_succ _) fun b o hb e=>?_) Qw) PJ;rw[vP.2 b (fun h:b=S=>hb (h▸bu))];exact e
end
theorem Ws:isSubtype (.type "tuple") (.type "set")=pure false:=by rw[isSubtype_type];kernel_rfl
theorem Wr:isSubtype (.type "tuple") (.type "frozenset")=pure false:=by rw[isSubtype_type];kernel_rfl
section
variable {prog:Program}{w:World}
set_option maxHeartbeats 1600000 in
theorem Vw{l:Addr}{T:String}{items:Array Value}{ys:List Str}{led:Bool}(aR:A.handled=none)(dY:T = "list" \/ T = "tuple")
  (ho:s.heap.get? l=some { cls:=.type T,data:=.seq items n }) (hi:StrsAre items.toList ys) (hb:items.size+1<scanBound)
  (h:∀(h':Heap) (tk:Nat),h'.SetOf (strKind prog w) s.heap.objs.size (fun z=>(gS ys).any (· == z)) (gS ys).length->(∀b o,b<s.heap.objs.size->s.heap.get? b=some o->h'.get? b=some o)->Q .none { s with heap:=h',toks:=tk }) :
  codeAny (model prog w) A (.call (.builtin "set.__init__") ⟨[.ref s.heap.objs.size,.ref l],[]⟩) (wants Q E) { s with heap:=s.heap.push { cls:=.type "set",dict:=none,data:=.set #[] 0 (.fresh 0 0 led) } }:=by
 have jd:(s.heap.push { cls:=.type "set",dict:=none,data:=.set #[] 0 (.fresh 0 0 led) }).get? s.heap.objs.size=some { cls:=.type "set",dict:=none,data:=.set #[] 0 (.fresh 0 0 led) }:=eJ _ rfl;have Af:Shared.TypeIs { s with heap:=s.heap.push { cls:=.type "set",dict:=none,data:=.set #[] 0 (.fresh 0 0 led) } } (.ref s.heap.objs.size) "set" := ⟨_,jd,rfl⟩;have HW:l<s.heap.objs.size:=fi ho;have oO:(s.heap.push { cls:=.type "set",dict:=none,data:=.set #[] 0 (.fresh 0 0 led) }).get? l=some { cls:=.type T,data:=.seq items n }:=c8 _ ho;have da:(ys.take items.size)=ys:=List.take_of_length_le (by rw[<- BP hi];simp)
 have QA:f5 ys items.size=gS ys:=by unfold f5;rw[da]
 have HT:A.in1.in1.handled=none:=by simp[aR]
 have H3:l≠(s.heap.push { cls:=.type "set",dict:=none,data:=.set #[] 0 (.fresh 0 0 led) }).objs.size:=by
  rw[Heap.size_push];exact ik (Nat.lt_succ_of_lt HW)
 have sk:s.heap.objs.size∉[(s.heap.push { cls:=.type "set",dict:=none,data:=.set #[] 0 (.fresh 0 0 led) }).objs.size,l]:=by
  rw[Heap.size_push];simp only[cE,ew,or_false,not_or];exact⟨ik (Nat.lt_succ_self _),dc HW⟩
 have vT:∀(i:Nat) (v:Value),items[i]?=some v->∃y t,ys[i]?=some y/\v=.str y t:=fun i v hv=>KC hi i v ((Array.getElem?_toList).symm▸hv)
 have fin:∀(s':Shared) (lU:List Addr),(∀b∈lU,b=s.heap.objs.size\/b=(s.heap.push { cls:=.type "set",dict:=none,data:=.set #[] 0 (.fresh 0 0 led) }).objs.size)->∀(L:Heap),(∀b o,s.heap.get? b=some o->L.get? b=some o) ->
   Moved lU (fun a b=>b=a) { s with heap:=L } s'->s'.heap.SetOf (strKind prog w) s.heap.objs.size (fun z=>(f5 ys items.size).any (· == z)) (f5 ys items.size).length->Q .none s':=by
  intro s' lU Rc L hk hm kI;obtain⟨h',O1,fj,pz,wz⟩:=s';have rX:O1=s.gens:=hm.gens;have NL:fj=s.drawn:=hm.drawn;have gV:wz=s.os:=hm.os;subst rX;subst NL;subst gV;refine h h' pz (QA▸kI) fun b o hb e=>hm.heap b o (fun q=>?_) (hk b o e)
  rcases Rc b q with q | q
  ·exact absurd q (ik hb)
  ·rw[Heap.size_push]at q;exact absurd q (ik (Nat.lt_succ_of_lt hb))
 have start:∀(c:String),Heap.SetOf (strKind prog w) ((s.heap.push { cls:=.type "set",dict:=none,data:=.set #[] 0 (.fresh 0 0 led) }).push { cls:=.type c,data:=.fields #[.ref l,.int 0 0] }) s.heap.objs.size (fun z=>(f5 ys 0).any (· == z)) (f5 ys 0).length:=fun c =>
  SetOf_congr ((setObjOf_fresh (knd:=strKind prog w) led).setOf (c8 _ jd) (by unfold scanBound;(decide))) (fun J=>rfl) rfl
 refine codeAny_call_builtin F.called_set.init.plain F.entry_set_init (check_set_init_1 Af ?_)
 rcases dY with rfl | rfl
 ·have QZ:=F.sub_list_set;have QY:=F.sub_list_frozenset
  have de:(Value.type "list" == Value.type "dict")=false:=by decide
  have ly:(s.heap.push { cls:=.type "set",dict:=none,data:=.set #[] 0 (.fresh 0 0 led) }).IsList l items:=⟨_,oO,rfl,n,rfl⟩;unfold Builtin.«set.__init__» noKeywords Builtin.Frozenset.updateFrom;generalize Aa:pyIter=LK
  wp_walk
  subst Aa;refine wpAny_pyIter_list ly (aN (wpAny_runValue ?_));refine Ki ((Walks.list HT _ l H3 items).toS) s.heap.objs.size sk ys vT hb (items.size-0) 0 _ ((Nat.add_zero _)) (gN _) ?hst ?hS0 ?hR
  case hst=>exact⟨⟨_,eJ _ rfl,rfl,rfl⟩,ly.push _⟩
  case hS0=>exact start _
  case hR =>
  intro s' hm kI;show wpAny _ _ _ _ _ _;refine bO ?_;show wpAny _ _ (ret Value.none) _ _ _;refine bO ?_;refine fin s' _ ?_ _ (fun b o e=>c8 _ (c8 _ e)) hm kI;intro b hb
  rcases cE.mp hb with q | q
  ·exact .inl q
  ·exact .inr (df.mp q)
 ·have QZ:=Ws;have QY:=Wr
  have de:(Value.type "tuple" == Value.type "dict")=false:=by decide
  have ly:(s.heap.push { cls:=.type "set",dict:=none,data:=.set #[] 0 (.fresh 0 0 led) }).IsTuple l items:=⟨_,oO,rfl,n,rfl⟩;unfold Builtin.«set.__init__» noKeywords Builtin.Frozenset.updateFrom;generalize Aa:pyIter=LK
  wp_walk
  subst Aa;refine wpAny_pyIter_tuple ly (aN (wpAny_runValue ?_));refine Ki ((Walks.tuple HT _ l H3 items).toS) s.heap.objs.size sk ys vT hb (items.size-0) 0 _ ((Nat.add_zero _)) (gN _) ?hst2 ?hS2 ?hR2
  case hst2=>exact⟨⟨_,eJ _ rfl,rfl,rfl⟩,⟨_,c8 _ oO,rfl,n,rfl⟩⟩
  case hS2=>exact start _
  case hR2 =>
  intro s' hm kI;show wpAny _ _ _ _ _ _;refine bO ?_;show wpAny _ _ (ret Value.none) _ _ _;refine bO ?_;refine fin s' _ ?_ _ (fun b o e=>c8 _ (c8 _ e)) hm kI;intro b hb
  rcases cE.mp hb with q | q
  ·exact .inl q
  ·exact .inr (df.mp q)
set_option maxRecDepth 100000 in
set_option maxHeartbeats 3200000 in
theorem MZ{l:Addr}{T:String}{items:Array Value}{ys:List Str}(aR:A.handled=none)(dY:T = "list" \/ T = "tuple")
  (ho:s.heap.get? l=some { cls:=.type T,data:=.seq items n }) (hi:StrsAre items.toList ys) (hb:items.size+1<scanBound)
  (h:∀(h':Heap) (tk:Nat),h'.SetOf (strKind prog w) s.heap.objs.size (fun z=>(gS ys).any (· == z)) (gS ys).length->(∀b o,b<s.heap.objs.size->s.heap.get? b=some o->h'.get? b=some o)->Q (.ref s.heap.objs.size) { s with heap:=h',toks:=tk }) :
  wpAny (model prog w) A (call (.type "set") [.ref l]) Q E s:=by
 refine jb F.called_set.mro fun c kn Y6=>?_;have Y4:=F.called_set.made;have vR:=F.called_set.sub;refine wpAny_call (codeAny_of_tree ?_);show wpAny _ _ (callAny (.type "set") _) _ _ _;refine bO ⟨Code.quiet_builtin _ (by decide +kernel),codeAny_builtin F.entry_type_call ?_⟩;rw[Around.under_plain (weight_type_call_type "set" [.ref l] []) rfl];have L:=F.called_set.notType;have O:=F.called_set.canCreate;have YX:=F.typeCall_set_1 (.ref l)
 repeat (any_goals (first | assumption | wp_step))
 refine codeAny_mono (code_set_new_1 (.ref l) (E:=E) (Q₁:=fun obj s₁=>∃led:Bool,obj=.ref s.heap.objs.size/\s₁={ s with heap:=s.heap.push { cls:=.type "set",dict:=none,data:=.set #[] 0 (.fresh 0 0 led) } }) fun led=>⟨led,rfl,rfl⟩) fun r s₁ hr=>?_
 cases r with
 | error e=>exact hr
 | ok fl =>
  cases fl with
  | ret obj =>
   refine az hr fun led ag bi=>?_;obtain rfl:=ag;obtain rfl:=bi;have jd:(s.heap.push { cls:=.type "set",dict:=none,data:=.set #[] 0 (.fresh 0 0 led) }).get? s.heap.objs.size=some { cls:=.type "set",dict:=none,data:=.set #[] 0 (.fresh 0 0 led) }:=eJ _ rfl;have YV:Shared.TypeIs { s with heap:=s.heap.push { cls:=.type "set",dict:=none,data:=.set #[] 0 (.fresh 0 0 led) } } (.ref s.heap.objs.size) "set" := ⟨_,jd,rfl⟩;have Y1:=F.called_set.init.lookup;have nf:=F.called_set.init.bind (.ref s.heap.objs.size)
   repeat (any_goals (first | assumption | wp_step))
   refine codeAny_mono (Vw (led:=led) (E:=E) (Q:=fun r bb=>r=.none/\∃h' tk,bb={ s with heap:=h',toks:=tk } ∧
     h'.SetOf (strKind prog w) s.heap.objs.size (fun z=>(gS ys).any (· == z)) (gS ys).length/\(∀b o,b<s.heap.objs.size->s.heap.get? b=some o->h'.get? b=some o)) (by simp[aR]) dY ho hi hb fun h' tk kI hk=>⟨rfl,h',tk,rfl,kI,hk⟩) fun g0 bb AA=>?_
   cases g0 with
   | error e=>exact AA
   | ok ON =>
    cases ON with
    | ret r =>
     obtain⟨rfl,h',tk,rfl,kI,sy⟩:=AA
     repeat (any_goals (first | assumption | wp_step))
     exact h _ _ kI sy
    | _=>exact AA.elim
  | _=>exact hr.elim
end
theorem CV:∀{xs:List H} {l:List Int} {items:List Value},gz xs=some l->bj h α xs items->IntsAre items l:=by
 intro xs
 induction xs with
 | nil =>
  intro l items e v;obtain rfl:=oi e;have:items=[]:=ii v.1.symm;exact this.symm▸.nil
 | cons x xs ao =>
  intro l items e v;refine c1 v.inv_cons fun u us ag bi=>?_;obtain rfl:=ag;refine aW bi fun a0 bN=>?_
  cases x with
  | int i =>
   refine aM a0.intE fun J ag=>?_;obtain rfl:=ag;change(gz xs).map (i::·)=_ at e
   cases hr:gz xs with
   | none=>rw[hr]at e;contradiction
   | some jj=>rw[hr]at e;obtain rfl:=oi e;exact .cons _ _ (ao hr bN)
  | _=>exact nomatch e
theorem L5:∀{xs:List H} {l:List Str} {items:List Value},kD xs=some l->bj h α xs items->StrsAre items l:=by
 intro xs
 induction xs with
 | nil =>
  intro l items e v;obtain rfl:=oi e;have:items=[]:=ii v.1.symm;exact this.symm▸.nil
 | cons x xs ao =>
  intro l items e v;refine c1 v.inv_cons fun u us ag bi=>?_;obtain rfl:=ag;refine aW bi fun a0 bN=>?_
  cases x with
  | str i =>
   refine az a0.strE fun J ag J=>?_;obtain rfl:=ag;change(kD xs).map (i::·)=_ at e
   cases hr:kD xs with
   | none=>rw[hr]at e;contradiction
   | some jj=>rw[hr]at e;obtain rfl:=oi e;exact .cons _ _ (ao hr bN)
  | _=>exact nomatch e
theorem Wh(x:String):PyData.strOk (Str.ofString x)=true:=by
 rw[Str.ofString_eq_toList];unfold PyData.strOk;rw[Array.all_eq_true'];intro c hc;simp at hc;refine az hc fun d J ag=>?_;obtain rfl:=ag;have:=d.valid;simp only[i5]
 rcases this with h | ⟨_,h⟩
 ·exact eR h (by decide)
 ·exact h
theorem VT{i:Int}(h:0<=i/\i<1000000000):i.natAbs.log2<1920:=by
 by_cases h0:i.natAbs=0
 ·rw[h0];decide
 ·rw[Nat.log2_lt h0];exact jx (show i.natAbs<1000000000 by grind) (aK (show 1000000000<=2 ^ 30 by decide) (Nat.pow_le_pow_right (by decide) (by decide)))
theorem IK:∀{items:List Value} {l:List Int},IntsAre items l->∃xs:Array (Int×Tok),items.toArray=intItems xs/\xs.toList.map (·.1)=l
 | _,_,.nil=>⟨#[],by simp[intItems],rfl⟩
 | _,_,.cons n t r=>by
  refine az (IK r) fun xs V ak=>?_;refine⟨⟨(n,t)::xs.toList⟩,?_,by simp[ak]⟩;have:intItems xs=⟨_⟩:=V.symm;simp only[intItems]at V ⊢;rw[<- Array.toList_inj]at V ⊢;simp at V ⊢;exact V
theorem gY{items:List Value}(e:s.heap.get? a=some { cls:=.type "list",data:=.seq items.toArray n }):s.heap.IsList a items.toArray:=⟨_,e,rfl,n,rfl⟩
theorem v4{items:List Value}(e:s.heap.get? a=some { cls:=.type "tuple",data:=.seq items.toArray n }):IsTup s.heap a items.toArray:=⟨_,e,rfl,n,rfl⟩
noncomputable def n9:eG->Value
 | .len=>.builtin "len" | .list _=>.type "list" | .tuple=>.type "tuple" | .all=>.builtin "all" | .int=>.type "int" | .str=>.type "str" | .lenset=>.none
 | .sum=>.builtin "sum"
 | .min=>.builtin "min" | .max=>.builtin "max"
 | .sorted=>.builtin "sorted"
 | .dict=>.none
theorem G8{f:Int->Int->Int}{aq:Int->Int->Prop}(Va:∀a,aq a a)(tr:∀{a b c},aq a b->aq b c->aq a c)(L:∀x y,aq (f x y) x)(O:∀x y,aq (f x y) y)(ax:∀x y,f x y=x\/f x y=y)(l:List Int):∀x,(∀a∈x::l,aq (l.foldl f x) a)/\l.foldl f x∈x::l:=by
 induction l with
 | nil=>exact fun x=>⟨fun a ha=>df.mp ha▸Va x,bu⟩
 | cons y l ao =>
  intro x;refine aW (ao (f x y)) fun q1 q2=>?_;have hM:=q1 _ bu;refine⟨fun a ha=>?_,?_⟩
  ·rcases cE.mp ha with e | ha
   ·exact e.symm▸(tr hM (L x y))
   ·rcases cE.mp ha with e | ha
    ·rw[e];exact tr hM (O x y)
    ·exact q1 a (bQ _ ha)
  ·rcases cE.mp q2 with e | q
   ·rcases ax x y with z | z
    ·rw[i7,e.trans z];exact bu
    ·rw[i7,e.trans z];exact bQ _ bu
   ·exact bQ _ (bQ _ q)
theorem OQ(l:List Int)(x:Int):(∀a∈x::l,l.foldl min x<=a)/\l.foldl min x∈x::l:=
 G8 (aq:=(· <= ·)) Int.le_refl Int.le_trans Int.min_le_left Int.min_le_right (fun x y=>by rcases Int.le_total x y with h | h;exact .inl (Int.min_eq_left h);exact .inr (Int.min_eq_right h)) l x
theorem OP(l:List Int)(x:Int):(∀a∈x::l,a<=l.foldl max x)/\l.foldl max x∈x::l:=
 G8 (aq:=fun a b=>b<=a) Int.le_refl (fun p q=>Int.le_trans q p) Int.le_max_left Int.le_max_right (fun x y=>by rcases Int.le_total x y with h | h;exact .inr (Int.max_eq_right h);exact .inl (Int.max_eq_left h)) l x
theorem IE{x:Int}(h:x.natAbs<=1000*2 ^ 40):InLong x:=by unfold InLong;omega
theorem Wv(L:l.length<=1000)(O:l.all (fun x=>decide (x.natAbs<2 ^ 40))=true):∀j,j<l.length->InLong (l.getD j 0)/\InLong ((l.take (j+1)).sum):=by
 have key:∀(m:List Int),(∀x∈m,x.natAbs<2 ^ 40)->m.sum.natAbs<=m.length*2 ^ 40:=by
  intro m
  induction m with
  | nil=>intro _;exact gN _
  | cons x m ao =>
   intro h;rw[List.sum_cons,dj,Nat.succ_mul,Nat.add_comm];exact aK (Int.natAbs_add_le x m.sum) (Nat.add_le_add (Nat.le_of_lt (h x bu)) (ao fun y hy=>h y (bQ _ hy)))
 intro j a8;have HK:∀x∈l,x.natAbs<2 ^ 40:=fun x hx=>ht (fZ.mp O x hx);refine⟨IE (aK (Nat.le_of_lt (HK _ (getD_mem a8))) (by decide)),IE (aK (key (l.take (j+1)) fun x hx=>HK x (List.mem_of_mem_take hx)) (Nat.mul_le_mul_right _ (aK ?_ L)))⟩;rw[List.length_take];exact Nat.min_le_right _ _
inductive CM(h:Heap)(α:ay)(a:H)(xs:List H)(x:Value):Prop
 | mk (l:Addr) (T:String) (vs:List Value) (n:Nat) (e:x=.ref l) (dY:T = "list" \/ T = "tuple") (aO:h.get? l=some { cls:=.type T,data:=.seq (List.toArray vs) n }) (v:bj h α xs vs) (ha:T = "tuple" -> a=.tup xs):CM h α a xs x
theorem wG{a:H}{x:Value}(r:aq K.hb s.heap σ α)(aA:aj s.heap α a x)(e:eM σ a=some xs) :
  CM s.heap α a xs x:=by
 cases a with
 | fl ys=>obtain rfl:=oi e;obtain⟨l,vs,n,rfl,V,_,v⟩:=aA.flE;exact⟨l,_,vs,n,rfl,.inl rfl,V,v,fun h=>(nomatch h)⟩
 | tup ys=>obtain rfl:=oi e;obtain⟨l,vs,n,rfl,V,_,v⟩:=aA.tupE;exact⟨l,_,vs,n,rfl,.inr rfl,V,v,fun J=>rfl⟩
 | ref i =>
  refine az aA.refE fun l ag dZ=>?_;obtain rfl:=ag;simp only[eM]at e
  cases hs:σ[i]? with
  | none=>rw[hs]at e;contradiction
  | some m =>
   rw[hs]at e
   cases m with
   | lst ys=>obtain rfl:=oi e;refine c1 (r.obj i _ l hs dZ) fun vs n V v=>?_;exact⟨l,_,vs,n,rfl,.inl rfl,V,v,fun h=>(nomatch h)⟩
   | _=>contradiction
 | _=>contradiction
theorem cz.list(hl:xs.length<=aI)(r:aq K.hb s.heap σ α)(v:bj s.heap α xs vs)(k:∀b o,s.heap.get? b=some o->h'.get? b=some o)
  (hD:s.heap.get? D=none) (e:h'.get? D=some { cls:=.type "list",data:=.seq vs.toArray n }):cz K aj (fb ba xs σ) s α (.ref D) { s with heap:=h',toks:=tk }:=by
 unfold fb;rw[aE hl]
 cases ba with
 | true =>
  refine⟨_,_,_,rfl,.keeps k,r.keeps k,?_,⟨rfl,rfl⟩⟩;refine aj.flI e (fun hm=>?_) (v.ext (.keeps (F:=[]) k));refine aM (r.liveAll hm) fun o e=>?_;rw[hD]at e;contradiction
 | false =>
  refine aW (r.add (D:=D) (m:=.lst xs) k hD ⟨vs,n,e,v.ext (.add k hD)⟩) fun aJ x=>?_;refine⟨_,_,_,rfl,x,aJ,.ref ?_,⟨rfl,rfl⟩⟩;rw[r.len];simp[ay.add]
theorem Tk(h:fb ba xs σ≠.stuck):xs.length<=aI:=by
 unfold fb at h;by_cases hl:xs.length<=aI
 ·exact hl
 ·rw[a5 hl]at h;exact absurd rfl h
theorem Sz{a:H}{x:Value}(r:aq K.hb s.heap σ α)(aA:aj s.heap α a x) :
  av K aj A (call (.type "list") [x]) (dx (.list ba) a σ) s α:=by
 intro hc
 cases he:eM σ a with
 | none=>exact absurd (show(match eM σ a with | some xs=>fb ba xs σ | none=>.stuck)=.stuck by rw[he]) hc
 | some xs =>
  have bP:dx (.list ba) a σ=fb ba xs σ:=show(match eM σ a with | some xs=>fb ba xs σ | none=>.stuck)=_ by rw[he]
  rw[bP]at hc ⊢;have hl:=Tk hc;obtain⟨l,T,vs,n,rfl,dY,V,v,_⟩:=wG r aA he;refine call_list_seq l dY V rfl rfl (fun h' cC k e=>?_) (by simpa[<- v.1]using iB hl);exact cz.list (tk:=s.toks) hl r v k (lK s) e
theorem V1{m:List Int}(L:m.Perm l)(O:m.Pairwise (· <= ·)):m=e2 l:=by
 unfold e2;refine List.Perm.eq_of_pairwise (le:=fun a b=>decide (a<=b)) (fun a b J J L O=>?_) (O.imp fun h=>by simpa using h) (List.pairwise_mergeSort (fun a b c L O=>?_) (fun a b=>?_) l) (L.trans (List.mergeSort_perm l _).symm)
 ·simp at L O;(grind)
 ·simp at L O ⊢;(exact Int.le_trans (by assumption) (by assumption))
 ·simp;(grind)
theorem IL{h:Heap}:∀{vs:List Value} {l:List Int},IntsAre vs l->bj h α (l.map .int) vs
 | _,_,.nil=>.nil
 | _,_,.cons n t r=>.cons (.int n t) (IL r)
theorem o2(h:n<=aI):((n:Nat):Int)<2 ^ 63:=by
 have:aI=1000000:=rfl
 (grind)
theorem L4:∀{xs:List H} {l:List Bool} {vs:List Value},l1 xs=some l->bj h α xs vs->vs=l.map .bool:=by
 intro xs
 induction xs with
 | nil =>
  intro l vs e v;obtain rfl:=oi e;exact ii v.1.symm
 | cons x xs ao =>
  intro l vs e v;refine c1 v.inv_cons fun u us ag bi=>?_;obtain rfl:=ag;refine aW bi fun a0 bN=>?_
  cases x with
  | bool b =>
   obtain rfl:=a0.boolE;change(l1 xs).map (b::·)=_ at e
   cases hr:l1 xs with
   | none=>rw[hr]at e;contradiction
   | some jj=>rw[hr]at e;obtain rfl:=oi e;rw[ao hr bN];rfl
  | _=>exact nomatch e
theorem U3(l:List Bool):(List.range l.length).all (fun i=>l.getD i false)=l.all id:=by
 induction l with
 | nil=>rfl
 | cons b l ao=>rw[dj,List.range_succ_eq_map,List.all_cons,List.all_map,List.all_cons,<- ao];rfl
theorem R7(hk:∀b aP,b∉[s.heap.objs.size]->(s.heap.push o).get? b=some aP->h'.get? b=some aP):∀b aP,s.heap.get? b=some aP->h'.get? b=some aP:=
 fun b aP e=>hk b aP (by simp;exact ik (fi e)) (c8 _ e)
theorem MK(bs:List Bool):TruthOf K.prog K.w A.in1 (fun i v=>(bs.map Value.bool).toArray[i]?=some v) (fun i=>bs.getD i false):=fun i v s' nZ dP vB a7=>by
 simp only[List.getElem?_toArray,fg]at vB;refine az (Option.map_eq_some_iff.mp vB) fun b hb ag=>?_;obtain rfl:=ag;refine wpAny_truthy_bool ?_
 have:bs.getD i false=b:=by simp[List.getD,hb]
 exact this▸a7
theorem MJ{l:Addr}{bs:List Bool}(V:s.heap.get? l=some { cls:=.type "list",data:=.seq (bs.map Value.bool).toArray n }) :
  (s.heap.push { cls:=.type "list_iterator",data:=.fields #[.ref l,.int 0 0] }).IsListIter s.heap.objs.size l 0/\(s.heap.push { cls:=.type "list_iterator",data:=.fields #[.ref l,.int 0 0] }).IsList l (bs.map Value.bool).toArray:=
 ⟨⟨_,eJ _ rfl,rfl,rfl⟩,⟨_,c8 _ V,rfl,n,rfl⟩⟩
theorem L9{l:Addr}{bs:List Bool}(hA:eF A)(aR:A.handled=none)(V:s.heap.get? l=some { cls:=.type "list",data:=.seq (bs.map Value.bool).toArray n })
  (h:∀h' tk,(∀b aP,s.heap.get? b=some aP->h'.get? b=some aP)->Q (.bool (bs.all id)) { s with heap:=h',toks:=tk }):wpAny (model K.prog K.w) A (call (.builtin "all") [.ref l]) Q E s:=by
 refine call_all_walk (wpAny_pyIter_list (gY V) ⟨_,_,_,_,_,_,_,rfl,Walks.list (A:=A.in1) aR _ l (ik (fi V)) (bs.map Value.bool).toArray,MJ V,MK bs,fun h' tk hk=>?_⟩);have:=h h' tk (R7 hk);rw[show(bs.map Value.bool).toArray.size=bs.length by simp,U3];exact this
theorem Su{a:H}{x:Value}{l:List Str}(hA:eF A)(aR:A.handled=none)(r:aq K.hb s.heap σ α)(aA:aj s.heap α a x)(hl:(eM σ a).bind kD=some l)(hn:l.length<=1000)
  (h:∀D h' tk,(∀b o,s.heap.get? b=some o->h'.get? b=some o)->(∀(nZ:Value->Shared->Prop) (dP:Value->Shared->Prop),(∀t pz,nZ (.int (gS l).length t) { s with heap:=h',toks:=pz })->wpAny (model K.prog K.w) A (call (.builtin "len") [.ref D]) nZ dP { s with heap:=h',toks:=tk })->Q (.ref D) { s with heap:=h',toks:=tk }) :
  wpAny (model K.prog K.w) A (call (.type "set") [x]) Q E s:=by
 refine az (Option.bind_eq_some_iff.mp hl) fun xs L O=>?_;obtain⟨ad,T,vs,n,rfl,dY,V,v,_⟩:=wG r aA L;have jd:=L5 O v;have da:vs.length=l.length:=BP jd;refine MZ aR dY V (by simpa using jd) (by rw[fH,da];unfold scanBound;(grind)) fun h' tk QX hk=>?_;refine h _ h' tk (fun b o e=>hk b o (fi e) e) fun nZ dP hq=>?_;refine NP QX fun o es ez t ho Qb hd YZ Y5 hb bf oL=>?_;refine call_len_set (s:={ s with heap:=h',toks:=tk }) ho Qb hd bf (by unfold scanBound at hb;(grind)) ?_;exact oL.symm▸(hq _ _)
theorem s5{β:Type}{g:List H->Option β}{f:β->ah H}{a:H}(h:gh g f a σ≠.stuck)(k:∀xs l,cx σ a=some xs->g xs=some l->f l≠.stuck->gh g f a σ=f l->P):P:=by
 cases he:(cx σ a).bind g with
 | none=>exact absurd (by unfold gh;rw[he]) h
 | some l =>
  have e:gh g f a σ=f l:=by unfold gh;rw[he]
  exact cF he fun xs L O=>k xs l L O (e▸h) e
theorem AQ{a:H}{x:Value}(r:aq K.hb s.heap σ α)(aA:aj s.heap α a x)(L:cx σ a=some xs)(O:gz xs=some l):∃ad ys,x=.ref ad/\s.heap.IsList ad (intItems ys)/\ys.toList.map (·.1)=l:=by
 obtain⟨ad,vs,n,rfl,V,v⟩:=l2 r aA L;refine az (IK (CV O v)) fun ys ax aT=>?_;exact⟨ad,ys,rfl,ax▸gY V,aT⟩
theorem Ww{a:H}{x:Value}(aR:A.handled=none)(r:aq K.hb s.heap σ α)(aA:aj s.heap α a x):av K aj A (call (.builtin "sum") [x]) (dx .sum a σ) s α:=by
 show av K aj A _ (gh gz _ a σ) s α;intro hc;refine s5 hc fun xs l L O hc e=>?_;rw[e];refine c1 (AQ r aA L O) fun ad ys ag bi=>?_;obtain rfl:=ag;refine aW bi fun fO aT=>?_;by_cases hl:l.length<=1000/\l.all (fun x=>decide (x.natAbs<2 ^ 40))
 ·rw[aE hl];refine sum_intList aR fO (fun j a8=>?_) fun h' tk bt k=>?_
  ·rw[numAt_eq,preSum_eq,aT];exact Wv hl.1 hl.2 j (by rw[<- aT];simpa using a8)
  ·rw[preSum_eq,aT,List.take_of_length_le (by rw[<- aT];simp)];exact⟨_,_,_,rfl,.keeps k,r.keeps k,.int _ _,⟨rfl,rfl⟩⟩
 ·exact absurd (a5 hl) hc
theorem Tg{a:H}{x:Value}(aR:A.handled=none)(r:aq K.hb s.heap σ α)(aA:aj s.heap α a x):av K aj A (call (.builtin "min") [x]) (dx .min a σ) s α:=by
 show av K aj A _ (gh gz _ a σ) s α;intro hc;refine s5 hc fun xs l L O hc e=>?_;rw[e];refine c1 (AQ r aA L O) fun ad ys ag bi=>?_;obtain rfl:=ag;refine aW bi fun fO aT=>?_
 cases l with
 | nil=>exact absurd rfl hc
 | cons k6 l =>
  have da:ys.size=l.length+1:=by have:=congrArg List.length aT;simpa using this
  refine min_intList aR fO (da▸Nat.succ_pos _) fun u h' tk hv k=>?_;refine aM (intItems_at hv) fun t ag=>?_;obtain rfl:=ag;refine aW (argBest_lt (numAt ys) (ys.size-1)) fun q1 q2=>?_;rw[da]at q1 q2 ⊢;refine aW (OQ l k6) fun a6 cP=>?_
  have hm:numAt ys (argBest (fun i j=>decide (numAt ys i<numAt ys j)) l.length)=l.foldl min k6:=by
   refine Int.le_antisymm ?_ (a6 _ ?_)
   ·refine az (mem_getD cP) fun j a8 e=>?_;have:=q2 j (Nat.le_of_lt_succ a8);rw[numAt_eq ys j,aT,e]at this;exact this
   ·rw[numAt_eq,aT];exact getD_mem (Nat.lt_succ_of_le q1)
  refine⟨_,_,_,rfl,.keeps k,r.keeps k,?_,⟨rfl,rfl⟩⟩;exact(show l.length+1-1=l.length from rfl).symm▸hm.symm▸(.int _ _)
theorem SY{a:H}{x:Value}(aR:A.handled=none)(r:aq K.hb s.heap σ α)(aA:aj s.heap α a x):av K aj A (call (.builtin "max") [x]) (dx .max a σ) s α:=by
 show av K aj A _ (gh gz _ a σ) s α;intro hc;refine s5 hc fun xs l L O hc e=>?_;rw[e];refine c1 (AQ r aA L O) fun ad ys ag bi=>?_;obtain rfl:=ag;refine aW bi fun fO aT=>?_
 cases l with
 | nil=>exact absurd rfl hc
 | cons k6 l =>
  have da:ys.size=l.length+1:=by have:=congrArg List.length aT;simpa using this
  refine max_intList aR fO (da▸Nat.succ_pos _) fun u h' tk hv k=>?_;refine aM (intItems_at hv) fun t ag=>?_;obtain rfl:=ag;refine aW (argBest_gt (numAt ys) (ys.size-1)) fun q1 q2=>?_;rw[da]at q1 q2 ⊢;refine aW (OP l k6) fun a6 cP=>?_
  have hm:numAt ys (argBest (fun i j=>decide (numAt ys i > numAt ys j)) l.length)=l.foldl max k6:=by
   refine Int.le_antisymm (a6 _ ?_) ?_
   ·rw[numAt_eq,aT];exact getD_mem (Nat.lt_succ_of_le q1)
   ·refine az (mem_getD cP) fun j a8 e=>?_;have:=q2 j (Nat.le_of_lt_succ a8);rw[numAt_eq ys j,aT,e]at this;exact this
  refine⟨_,_,_,rfl,.keeps k,r.keeps k,?_,⟨rfl,rfl⟩⟩;exact(show l.length+1-1=l.length from rfl).symm▸hm.symm▸(.int _ _)
theorem V2{a:H}{x:Value}(r:aq K.hb s.heap σ α)(aA:aj s.heap α a x):av K aj A (call (.builtin "sorted") [x]) (dx .sorted a σ) s α:=by
 show av K aj A _ (gh qX _ a σ) s α;intro hc;refine s5 hc fun xs l L O hc e=>?_;rw[e];obtain⟨ad,vs,n,rfl,V,v⟩:=l2 r aA L;unfold qX at O
 cases c2:gz xs with
 | none=>rw[c2]at O;contradiction
 | some m =>
  rw[c2]at O;dsimp only at O;refine qw O fun Pw O=>?_;obtain rfl:=oi O;have bd:=CV c2 v;refine sorted_ints (gY V) bd (bd.length.symm▸Pw) fun out Zq aD aU bn=>?_;obtain⟨e,iT⟩:=sortedAll_at s.heap vs out;have k:∀b o,s.heap.get? b=some o->(sortedAll s.heap vs out).get? b=some o:=fun b o q=>sortedAll_old q;rw[V1 aU bn]at aD;refine⟨_,_,_,rfl,.keeps k,r.keeps k,?_,⟨rfl,rfl⟩⟩;refine aj.flI (items:=out.toList) (n:=e) (by simpa using iT) (fun hm=>?_) (IL aD);obtain⟨o,q⟩:=r.liveAll hm;exact absurd (fi q) (Nat.not_lt.mpr (Nat.le_succ _))
theorem Sq{P:H->ah H->Prop}(h0:∀a,P a .stuck)(L:∀z,z.length<=aI->P (.str z) (.ok (.int z.length) σ))(O:∀a xs,eM σ a=some xs->xs.length<=aI->P a (.ok (.int xs.length) σ)):∀a,P a (dx .len a σ):=by
 intro a
 have o4:P a (ki (fun xs=>if xs.length<=aI then ah.ok (H.int xs.length) σ else .stuck) a σ):=by
  unfold ki
  cases e:eM σ a with
  | none=>exact h0 _
  | some xs =>
   dsimp only;by_cases hl:xs.length<=aI
   ·rw[aE hl];exact O a xs e hl
   ·rw[a5 hl];exact h0 _
 cases a with
 | str z =>
  show P _ (if z.length<=aI then ah.ok (H.int z.length) σ else .stuck);by_cases hl:z.length<=aI
  ·rw[aE hl];exact L z hl
  ·rw[a5 hl];exact h0 _
 | _=>exact o4
theorem Xz{P:H->ah H->Prop}(h0:∀a,P a .stuck)(O:∀a xs,eM σ a=some xs->xs.length<=aI->P a (.ok (.tup xs) σ))(a:H):P a (dx .tuple a σ):=by
 show P a (ki (fun xs=>if xs.length<=aI then ah.ok (H.tup xs) σ else .stuck) a σ);unfold ki
 cases e:eM σ a with
 | none=>exact h0 _
 | some xs =>
  dsimp only;by_cases hl:xs.length<=aI
  ·rw[aE hl];exact O a xs e hl
  ·rw[a5 hl];exact h0 _
theorem My{b:eG}{a:H}{x:Value}(hb:n9 b≠.none)(hA:eF A)(aR:vH b=true->A.handled=none)(r:aq K.hb s.heap σ α)(aA:aj s.heap α a x) :
  av K aj A (call (n9 b) [x]) (dx b a σ) s α:=by
 cases b with
 | len =>
  refine Sq (P:=fun a c=>aj s.heap α a x->av K aj A (call (.builtin "len") [x]) c s α) (fun J J hc=>absurd rfl hc) (fun z hl aA J=>?_) (fun a xs he hl aA J=>?_) a aA
  ·refine az aA.strE fun J ag J=>?_;obtain rfl:=ag;exact P.len_str (by have:=o2 hl;(grind)) (.here r (.int _ _))
  ·obtain⟨l,T,vs,n,rfl,dY,V,v,_⟩:=wG r aA he
   have hs:(vs.toArray.size:Int)<2 ^ 63:=by rw[fH,<- v.1];exact o2 hl
   rcases dY with rfl | rfl
   ·refine PyProof.Rows.len_list (gY V) hs ?_;simp only[fH,<- v.1];exact .here r (.int _ _)
   ·refine PyProof.Rows.len_tuple (v4 V) hs ?_;simp only[fH,<- v.1];exact .here r (.int _ _)
 | list ba=>exact Sz r aA
 | tuple =>
  refine Xz (P:=fun a c=>aj s.heap α a x->av K aj A (call (.type "tuple") [x]) c s α) (fun J J hc=>absurd rfl hc) (fun a xs he hl aA J=>?_) a aA;obtain⟨l,T,vs,n,rfl,dY,V,v,aO⟩:=wG r aA he
  rcases dY with rfl | rfl
  ·refine call_tuple_list (gY V) (fun h' k=>?_) (by simpa[<- v.1]using iB hl);have bW:∀b o,s.heap.get? b=some o->(h'.push { cls:=.type "tuple",data:=.seq vs.toArray }).get? b=some o:=fun b o e=>c8 _ (k b o e);refine⟨_,_,_,rfl,.keeps bW,r.keeps bW,?_,⟨rfl,rfl⟩⟩;refine aj.tupI (n:=0) (eJ _ rfl) (fun hm=>?_) (v.ext (.keeps (F:=[]) bW));refine aM (r.liveAll hm) fun o e=>?_;exact absurd (fi (k _ _ e)) (Nat.lt_irrefl _)
  ·rw[aO rfl]at aA;exact call_tuple_tup (v4 V) ⟨_,_,_,rfl,.refl,r,aA,.refl s⟩
 | sum=>exact Ww (aR rfl) r aA
 | min=>exact Tg (aR rfl) r aA
 | max=>exact SY (aR rfl) r aA
 | sorted=>exact V2 r aA
 | all =>
  show av K aj A _ (gh l1 _ a σ) s α;intro hc;refine s5 hc fun xs l L O J e=>?_;rw[e];obtain⟨ad,vs,n,rfl,V,v⟩:=l2 r aA L;rw[L4 O v]at V;exact L9 hA (aR rfl) V fun h' tk k=>⟨_,_,_,rfl,.keeps k,r.keeps k,.bool _,⟨rfl,rfl⟩⟩
 | int =>
  intro hc
  cases a with
  | bool b=>obtain rfl:=aA.boolE;exact call_int_bool (.here r (.int _ _))
  | _=>exact absurd rfl hc
 | str =>
  intro hc
  cases a with
  | str z=>refine az aA.strE fun J ag bp=>?_;obtain rfl:=ag;exact P.str_of_str ⟨_,_,_,rfl,.refl,r,.str _ _ bp,.refl s⟩
  | int i =>
   refine aM aA.intE fun J ag=>?_;obtain rfl:=ag
   have bP:dx .str (.int i) σ=if 0<=i/\i<1000000000 then .ok (.str (Str.ofString (toString i))) σ else .stuck:=rfl
   rw[bP]at hc ⊢;by_cases hl:0<=i/\i<1000000000
   ·rw[aE hl];exact P.str_of_int (VT hl) (.here r (.str _ _ (Wh _)))
   ·rw[a5 hl]at hc;exact absurd rfl hc
  | _=>exact absurd rfl hc
 | lenset=>exact absurd rfl hb
 | dict=>exact absurd rfl hb
theorem aq.set{hb h h' σ α}{Bi:Obj}(r:aq hb h σ α)(b0:α.ix[i]?=some a)(k:∀b o,b≠a->h.get? b=some o->h'.get? b=some o)(al:h'.get? a=some Bi)
  (o:a4 [] α h α h'->et hb h' α m a):aq hb h' (σ.set i m) α/\a4 [] α h α h':=by
 have ha:a∈α.ix:=eI b0
 have x:a4 [] α h α h':=⟨rfl,⟨[],by simp,fun J hx=>(nomatch hx)⟩,fun b o hb e J=>k b o (fun q=>hb (q▸ha)) e,fun b o hb J e=>.inl (k b o (fun q=>hb (q▸ha)) e),
  fun b o J e=>by
   by_cases q:b=a
   ·subst q;exact⟨Bi,al⟩
   ·exact⟨o,k b o q e⟩,rfl⟩
 refine⟨⟨fun b o e=>k b o (fun q=>?_) (r.base b o e),r.fresh,r.nodup,by simp[r.len],fun b hb=>⟨(r.hidden b hb).1,let⟨o,e⟩:=(r.hidden b hb).2;⟨o,k b o (fun q=>(r.hidden b hb).1 (q▸ha)) e⟩⟩,fun j bJ eu V ak=>?_,r.hfr,r.fe,fun b hb=>⟨(r.frs b hb).1,let⟨o,e,d⟩:=(r.frs b hb).2;⟨o,k b o (fun q=>r.frNot b hb (q▸ha)) e,d⟩⟩,r.frNot⟩,x⟩
 ·rw[q,r.fresh a ha]at e;contradiction
 ·by_cases a8:j=i
  ·subst a8;rw[b0]at ak;obtain rfl:=oi ak;rw[List.getElem?_set_self (by rw[r.len];exact(dS b0).1)]at V;obtain rfl:=oi V;exact o x
  ·rw[List.getElem?_set_ne (Ne.symm a8)]at V
   have de:eu≠a:=fun q=>by
    subst q;exact a8 ((List.getElem?_inj (dS ak).1 r.nodup).mp (ak.trans b0.symm))
   refine aM (r.live (eI ak)) fun aP aF=>?_;exact(r.obj j bJ eu V ak).ext x (by rw[aF,k eu aP de aF])
theorem TP{a:H}{x:Value}(r:aq K.hb s.heap σ α)(aA:aj s.heap α a x):av K aj A (unaryOp .USub x) (JH a σ) s α:=by
 intro hc
 cases a with
 | int i=>refine aM aA.intE fun J ag=>?_;obtain rfl:=ag;exact P.neg_int (.here r (.int _ _))
 | _=>exact absurd rfl hc
theorem wW{a:H}{x:Value}(r:aq K.hb s.heap σ α)(aA:aj s.heap α a x):av K hh A (truthy x) (i0 a σ) s α:=by
 intro hc
 cases a with
 | bool b=>obtain rfl:=aA.boolE;exact wpAny_truthy_bool ⟨_,_,_,rfl,.refl,r,rfl,.refl s⟩
 | _=>exact absurd rfl hc
noncomputable def Cf:jZ->Option Value
 | .int=>some (.type "int") | .str=>some (.type "str") | .bool=>some (.type "bool") | .tuple=>some (.type "tuple")
 | .list=>some (.type "list")
section
variable {P:H->ah Bool->Prop}
theorem RG(h0:∀a,P a .stuck)(L:∀i,P (.int i) (.ok true σ))(O:∀b,P (.bool b) (.ok true σ))(ax:P .none (.ok false σ))(aT:∀z,P (.str z) (.ok false σ)):∀a,P a (kN a .int σ):=by
 intro a
 cases a with
 | int i=>exact L i
 | bool b=>exact O b
 | none=>exact ax
 | str z=>exact aT z
 | _=>exact h0 _
theorem RF(h0:∀a,P a .stuck)(L:∀i,P (.int i) (.ok false σ))(O:∀b,P (.bool b) (.ok true σ))(ax:P .none (.ok false σ))(aT:∀z,P (.str z) (.ok false σ)):∀a,P a (kN a .bool σ):=by
 intro a
 cases a with
 | int i=>exact L i
 | bool b=>exact O b
 | none=>exact ax
 | str z=>exact aT z
 | _=>exact h0 _
theorem RI(h0:∀a,P a .stuck)(L:∀i,P (.int i) (.ok false σ))(O:∀b,P (.bool b) (.ok false σ))(ax:P .none (.ok false σ))(aT:∀z,P (.str z) (.ok true σ))(c2:∀xs,P (.tup xs) (.ok false σ)):∀a,P a (kN a .str σ):=by
 intro a
 cases a with
 | int i=>exact L i
 | bool b=>exact O b
 | none=>exact ax
 | str z=>exact aT z
 | tup xs=>exact c2 xs
 | _=>exact h0 _
theorem RJ(h0:∀a,P a .stuck)(L:∀i,P (.int i) (.ok false σ))(aT:∀z,P (.str z) (.ok false σ))(c2:∀xs,P (.tup xs) (.ok true σ)):∀a,P a (kN a .tuple σ):=by
 intro a
 cases a with
 | int i=>exact L i
 | str z=>exact aT z
 | tup xs=>exact c2 xs
 | _=>exact h0 _
theorem RH(h0:∀a,P a .stuck)(L:∀xs,P (.tup xs) (.ok false σ))(O:∀a xs,cx σ a=some xs->P a (.ok true σ)):∀a,P a (kN a .list σ):=by
 intro a
 have o4:P a (match cx σ a with | some _=>.ok true σ | none=>.stuck):=by
  cases e:cx σ a with
  | none=>exact h0 _
  | some xs=>exact O a xs e
 cases a with
 | tup xs=>exact L xs
 | _=>exact o4
end
theorem RN{t:jZ}{tv:Value}{a:H}{x:Value}(aO:Cf t=some tv)(r:aq K.hb s.heap σ α)(aA:aj s.heap α a x) :
  av K eO A (call (.builtin "isinstance") [x,tv]) (kN a t σ) s α:=by
 have ok:∀{b:Bool} {tk:Nat},cz K eO (.ok b σ) s α (.bool b) { s with toks:=tk }:=⟨_,_,_,rfl,.refl,r,rfl,⟨rfl,rfl⟩⟩;have st:∀(tv:Value) (a:H),aj s.heap α a x->av K eO A (call (.builtin "isinstance") [x,tv]) .stuck s α:=fun J J J hc=>absurd rfl hc
 cases t with
 | int =>
  obtain rfl:=oi aO
  exact RG (P:=fun a c=>aj s.heap α a x->av K eO A (call (.builtin "isinstance") [x,.type "int"]) c s α) (st _)
   (fun i aA J=>by refine aM aA.intE fun J ag=>?_;obtain rfl:=ag;exact IsiPair.int_int (ok (tk:=s.toks))) (fun b aA J=>by obtain rfl:=aA.boolE;exact IsiPair.bool_int (ok (tk:=s.toks)))
   (fun aA J=>by obtain rfl:=aA.noneE;exact IsiPair.NoneType_int ok) (fun z aA J=>by refine az aA.strE fun J ag J=>?_;obtain rfl:=ag;exact IsiPair.str_int ok) a aA
 | bool =>
  obtain rfl:=oi aO
  exact RF (P:=fun a c=>aj s.heap α a x->av K eO A (call (.builtin "isinstance") [x,.type "bool"]) c s α) (st _)
   (fun i aA J=>by refine aM aA.intE fun J ag=>?_;obtain rfl:=ag;exact IsiPair.int_bool ok) (fun b aA J=>by obtain rfl:=aA.boolE;exact IsiPair.bool_bool (ok (tk:=s.toks)))
   (fun aA J=>by obtain rfl:=aA.noneE;exact IsiPair.NoneType_bool ok) (fun z aA J=>by refine az aA.strE fun J ag J=>?_;obtain rfl:=ag;exact IsiPair.str_bool ok) a aA
 | str =>
  obtain rfl:=oi aO
  exact RI (P:=fun a c=>aj s.heap α a x->av K eO A (call (.builtin "isinstance") [x,.type "str"]) c s α) (st _)
   (fun i aA J=>by refine aM aA.intE fun J ag=>?_;obtain rfl:=ag;exact IsiPair.int_str ok) (fun b aA J=>by obtain rfl:=aA.boolE;exact IsiPair.bool_str ok)
   (fun aA J=>by obtain rfl:=aA.noneE;exact IsiPair.NoneType_str ok) (fun z aA J=>by refine az aA.strE fun J ag J=>?_;obtain rfl:=ag;exact IsiPair.str_str (ok (tk:=s.toks)))
   (fun xs aA J=>by obtain⟨l,vs,n,rfl,V,_,v⟩:=aA.tupE;exact IsiPair.tuple_str V rfl ok) a aA
 | tuple =>
  obtain rfl:=oi aO
  exact RJ (P:=fun a c=>aj s.heap α a x->av K eO A (call (.builtin "isinstance") [x,.type "tuple"]) c s α) (st _)
   (fun i aA J=>by refine aM aA.intE fun J ag=>?_;obtain rfl:=ag;exact IsiPair.int_tuple ok) (fun z aA J=>by refine az aA.strE fun J ag J=>?_;obtain rfl:=ag;exact IsiPair.str_tuple ok)
   (fun xs aA J=>by obtain⟨l,vs,n,rfl,V,_,v⟩:=aA.tupE;exact IsiPair.tuple_tuple V rfl (ok (tk:=s.toks))) a aA
 | list =>
  obtain rfl:=oi aO
  exact RH (P:=fun a c=>aj s.heap α a x->av K eO A (call (.builtin "isinstance") [x,.type "list"]) c s α) (st _)
   (fun xs aA J=>by obtain⟨l,vs,n,rfl,V,_,v⟩:=aA.tupE;exact IsiPair.tuple_list V rfl ok)
   (fun a xs e aA J=>by obtain⟨l,vs,n,rfl,V,v⟩:=l2 r aA e;exact IsiPair.list_list V rfl (ok (tk:=s.toks))) a aA
theorem BG(i:Int)(n:Nat):fD i n=seqIndex? i n:=by
 unfold fD seqIndex?;by_cases h:0<=i
 ·have h':¬i<0:=by grind
  rw[aE h,a5 h'];by_cases O:i.toNat<n
  ·rw[aE O,aE (by simp;(grind))]
  ·rw[a5 O,a5 (by simp;(grind))]
 ·have h':i<0:=by grind
  rw[a5 h,aE h'];by_cases O:0<=i+n
  ·rw[aE O,aE (by simp;(grind))]
  ·rw[a5 O,a5 (by simp;(grind))]
theorem Kf{i:Int}(h:fD i n=some j):-(n:Int)<=i/\i<n:=by
 unfold fD at h
 split at h
 ·split at h
  ·(grind)
  ·contradiction
 ·split at h
  ·(grind)
  ·contradiction
theorem O5{l:Addr}{i:Int}{t:Tok}(V:s.heap.get? l=some { cls:=.type "list",data:=.seq vs.toArray n })
  (hsz:vs.length<=aI) (a8:fD i vs.length=some j) (hu:vs[j]?=some u) (h:Q u s):wpAny (model K.prog K.w) A (getItem (.ref l) (.int i t)) Q E s:=by
 have hl:=o2 hsz;unfold fD at a8;by_cases h0:0<=i
 ·rw[aE h0]at a8
  split at a8
  ·cases a8;exact wpAny_getItem_list (gY V) h0 (by grind) (by simpa using hu) h
  ·cases a8
 ·rw[a5 h0]at a8
  split at a8
  ·cases a8;exact wpAny_getItem_list_neg (gY V) (by grind) (by simp;(grind)) (by grind) (by simpa using hu) h
  ·cases a8
theorem bj.get{p:H}(v:bj h α xs vs)(e:xs[j]?=some p):∃u,vs[j]?=some u/\aj h α p u:=by
 have a8:=(dS e).1
 have hv:j<vs.length:=by exact v.1▸a8
 exact⟨vs[j],by simp[hv],v.2 j p vs[j] e (by simp[hv])⟩
theorem IT{slice:Expr}{l:Addr}{i:Int}{t:Tok}{T:String}(dY:T = "list" \/ T = "tuple")(hs:∀o i:Value,subscripted slice false o i=operate [o,i] (getItem o i))
  (r:aq K.hb s.heap σ α) (V:s.heap.get? l=some { cls:=.type T,data:=.seq vs.toArray n }) (v:bj s.heap α xs vs):av K aj A (subscriptTail value slice (.ref l) (.int i t)) (lD xs i σ) s α:=by
 intro hc;unfold lD at hc ⊢;by_cases hl:xs.length<=aI
 ·rw[aE hl]at hc ⊢
  cases a8:(fD i xs.length).bind (xs[·]?)with
  | none=>rw[a8]at hc;exact absurd rfl hc
  | some p =>
   refine az (Option.bind_eq_some_iff.mp a8) fun j L O=>?_;refine az (v.get O) fun u hu hv=>?_
   have ql:vs.length<=aI:=by exact v.1▸hl
   rcases dY with rfl | rfl
   ·refine tail_any (gY V).typeIs slot_list_getitem.lookup ?_ (hs _ _);exact O5 V ql (v.1▸L) hu ⟨_,_,_,rfl,.refl,r,hv,.refl s⟩
   ·have Ar:=o2 ql;have hr:=Kf L;have da:=v.1;exact item_tupleT (v4 V) (by grind) (by grind) (by rw[<- BG,<- v.1];exact L) hu ⟨_,_,_,rfl,.refl,r,hv,.refl s⟩ (hs _ _)
 ·rw[a5 hl]at hc;exact absurd rfl hc
theorem Wn{P:H->H->ah H->Prop}(h0:∀a b,P a b .stuck)(L:∀i es k v,σ[i]?=some (.ds es)->aC k es=some v->P (.ref i) (.str k) (.ok v σ))(O:∀i b es k v,σ[i]?=some (.dp es)->hH b=some k->aC k es=some v->P (.ref i) b (.ok v σ)):∀a b,P a b (mJ a b σ):=by
 intro a b
 cases a with
 | ref i =>
  unfold mJ;dsimp only
  cases hq:σ[i]? with
  | none=>exact h0 _ _
  | some m =>
   cases m with
   | ds es =>
    cases b with
    | str k =>
     dsimp only
     cases hv:aC k es with
     | none=>exact h0 _ _
     | some v=>exact L i es k v hq hv
    | _=>exact h0 _ _
   | dp es =>
    dsimp only
    cases hk:hH b with
    | none=>exact h0 _ _
    | some k =>
     show P _ _ (ah.ofOpt (aC k es) σ)
     cases hv:aC k es with
     | none=>exact h0 _ _
     | some v=>exact O i b es k v hq hk hv
   | _=>exact h0 _ _
 | _=>exact h0 _ _
theorem Wo{slice:Expr}{a b:H}{x:Value}(hA:eF A)(hs:∀o i:Value,subscripted slice false o i=operate [o,i] (getItem o i))(r:aq K.hb s.heap σ α)(aA:aj s.heap α a x)(br:aj s.heap α b y) :
  av K aj A (subscriptTail value slice x y) (mJ a b σ) s α:=
 Wn (P:=fun a b c=>aj s.heap α a x->aj s.heap α b y->av K aj A (subscriptTail value slice x y) c s α) (fun J J J J hc=>absurd rfl hc)
  (fun i es k v hq hv aA br J=>by
   refine az aA.refE fun l ag dZ=>?_;obtain rfl:=ag;refine az br.strE fun J ag J=>?_;obtain rfl:=ag;refine az (p4 r hq dZ) fun el L J=>?_
   exact tail_any L.typeIs slot_dict_getitem.lookup (R0 r hq dZ hv) (hs _ _))
  (fun i b es k v hq hk hv aA br J=>by
   refine az aA.refE fun l ag dZ=>?_;obtain rfl:=ag;refine az (p3 r hq dZ) fun xs L J=>?_
   exact tail_any L.typeIs slot_dict_getitem.lookup (RZ hA r hq dZ hk br hv) (hs _ _)) a b aA br
theorem Wt{P:H->H->ah H->Prop}(h0:∀a b,P a b .stuck)(L:∀z i c,z.cps.size<=aI->(fD i z.cps.size).bind (z.cps[·]?)=some c->P (.str z) (.int i) (.ok (.str ⟨#[c]⟩) σ))(O:∀xs i,P (.tup xs) (.int i) (lD xs i σ))(ax:∀a xs i,cx σ a=some xs->P a (.int i) (lD xs i σ))
  (aT:∀a b,P a b (mJ a b σ))
  : ∀a b,P a b (f6 a b σ):=by
 intro a b
 cases b with
 | int i =>
  have o4:P a (.int i) (match cx σ a with | some xs=>lD xs i σ | none=>.stuck):=by
   cases e:cx σ a with
   | none=>exact h0 _ _
   | some xs=>exact ax a xs i e
  cases a with
  | tup xs=>exact O xs i
  | str z =>
   show P _ _ (if z.cps.size<=aI then(match(fD i z.cps.size).bind (z.cps[·]?)with | some c=>ah.ok (.str ⟨#[c]⟩) σ | none=>.stuck)else .stuck);by_cases hl:z.cps.size<=aI
   ·rw[aE hl]
    cases a8:(fD i z.cps.size).bind (z.cps[·]?)with
    | none=>exact h0 _ _
    | some c=>exact L z i c hl a8
   ·rw[a5 hl];exact h0 _ _
  | _=>exact o4
 | _=>exact aT a _
set_option tactic.hygienic true in
theorem Wu{slice:Expr}{a b:H}{x:Value}(hA:eF A)(sE:∀l u p,slice≠.Slice l u none p)(r:aq K.hb s.heap σ α)(aA:aj s.heap α a x)(br:aj s.heap α b y) :
  av K aj A (subscriptTail value slice x y) (f6 a b σ) s α:=by
 have hs:∀o i:Value,subscripted slice false o i=operate [o,i] (getItem o i):=fun o i=>by
  unfold subscripted
  split
  ·rename_i q;exact absurd rfl (sE _ _ _)
  ·rename_i q;contradiction
  ·rfl
 refine Wt (P:=fun a b c=>aj s.heap α a x->aj s.heap α b y->av K aj A (subscriptTail value slice x y) c s α) (fun J J J J hc=>absurd rfl hc) (fun z i c hl a8 aA br hc=>?_) (fun xs i aA br=>?_) (fun a xs i L aA br=>?_)
  (fun a b aA br=>Wo hA hs r aA br)
  a b aA br
 ·refine az aA.strE fun J ag bp=>?_;obtain rfl:=ag;refine aM br.intE fun t ag=>?_;obtain rfl:=ag;have Ar:=o2 hl;refine az (Option.bind_eq_some_iff.mp a8) fun j L O=>?_;have hr:=Kf L;refine tail_any (typeIs_str s z _) F.slot_str_getitem.lookup ?_ (hs _ _);refine P.getItem_str (c:=c) (by simp;(grind)) (by rw[<- BG];exact a8) (.here r (.str _ _ ?_));unfold PyData.strOk at bp ⊢;simp only[Array.all_eq_true']at bp ⊢;intro d hd;simp at hd;subst hd;exact bp _ (Array.mem_of_getElem? O)
 ·obtain⟨l,vs,n,rfl,V,_,v⟩:=aA.tupE;refine aM br.intE fun t ag=>?_;obtain rfl:=ag;exact IT (.inr rfl) hs r V v
 ·obtain⟨l,vs,n,rfl,V,v⟩:=l2 r aA L;refine aM br.intE fun t ag=>?_;obtain rfl:=ag;exact IT (.inl rfl) hs r V v
structure tO(env:Env):Prop where
 kind:env.scope.kind=.function
 glob:env.globals=mainGlobals
 bins:env.builtins=builtinsNs
 ws:∀(i:Nat) (x:Str) (k:NameKind),env.scope.names[i]?=some (x,k)->env.kindOf x=some k
 nodbg:∀(i:Nat) (x:Str) (k:NameKind),env.scope.names[i]?=some (x,k)->(x == ("__debug__" : Str))=false
structure a1(env:Env)(ρ:aB)(h:Heap)(α:ay):Prop where
 ok:tO env
 la:env.locals∉α.all
 ns:∃m,h.Ns env.locals m/\∀(i:Nat) (x:Str) (v:H),env.scope.names[i]?=some (x,.local)->ρ[i]?=some (some v)->∃u,m x=some u/\aj h α v u
 ca:∀x c,env.cells.lookup x=some c->c∉α.all/\c≠env.locals/\∃v,h.IsCell c v
 cd:∀x y c,env.cells.lookup x=some c->env.cells.lookup y=some c->x=y
 cv:∀(i:Nat) (x:Str),env.scope.names[i]?=some (x,.cell)->∃c,env.cells.lookup x=some c/\∀v,ρ[i]?=some (some v)->∃u,h.IsCell c (some u)/\aj h α v u
 inb:∀(i:Nat) (v:H),ρ[i]?=some (some v)->∃x k,env.scope.names[i]?=some (x,k)/\(k=.local\/k=.cell)
theorem M6{c:Addr}{v:Option Value}(LP:h.get? c=some o)(xz:o.data=.cell v)(x:jv fr h' c o):h'.get? c=some o:=x.same (by rintro⟨es,n,q⟩;rw[xz]at q;cases q)
theorem qt{F α h α' h'}{c:Addr}{v:Option Value}(x:a4 F α h α' h')(hc:c∉α.ix)(bU:c∉F)(i:h.IsCell c v):h'.IsCell c v:=by
 refine az i fun o e d=>?_;exact⟨o,M6 e d (x.rest c o hc bU e),d⟩
theorem Bh{F α h α' h'}{m:Str->Option Value}(x:a4 F α h α' h')(ha:a∉α.ix)(bU:a∉F)(n:h.Ns a m):h'.Ns a m:=by
 refine j8 (id n) fun o es ez e r=>?_;exact(x.rest a o ha bU e).ns n e
noncomputable def mQ(env:Env)(F:List Addr):Prop:=env.locals∉F/\∀x c,env.cells.lookup x=some c->c∉F
theorem mQ.nil:mQ env []:=⟨(ew),fun J J J=>(ew)⟩
theorem a1.ext{F α h α' h'}(x:a4 F α h α' h')(ap:mQ env F)(E:a1 env ρ h α):a1 env ρ h' α':=by
 refine az E.ns fun m n hm=>?_;refine j8 (id n) fun Uc J J xX J=>?_;refine⟨E.ok,x.notAll E.la xX,⟨m,Bh x (ay.not_ix E.la) ap.1 n,fun i y v V ak=>?_⟩,fun y c hc=>?_,E.cd,fun i y V=>?_,E.inb⟩
 ·refine az (hm i y v V ak) fun u L O=>?_;exact⟨u,L,O.ext x⟩
 ·refine d4 (E.ca y c hc) fun L O bi=>?_;refine aM bi fun v ax=>?_;refine az (id ax) fun o e d=>?_;exact⟨x.notAll L e,O,v,qt x (ay.not_ix L) (ap.2 y c hc) ax⟩
 ·refine az (E.cv i y V) fun c hc hv=>?_;refine⟨c,hc,fun v ak=>?_⟩;refine az (hv v ak) fun u L O=>?_;exact⟨u,qt x (ay.not_ix (E.ca y c hc).1) (ap.2 y c hc) L,O.ext x⟩
set_option tactic.hygienic true in
theorem JB{k:NameKind}{p:Pos}(r:aq K.hb s.heap σ α)(E:a1 env ρ s.heap α)(hn:env.scope.names[i]?=some (x,k)) :
  av K aj A (eval (.Name x p) env) (ev C (.v i) ρ σ) s α:=by
 intro hc;simp only[Oi,Cj]at hc ⊢
 split at hc
 ·rename_i v hv;refine c1 (E.inb i v hv) fun aQ bW L O=>?_;rw[hn]at L;cases L;have hk:=E.ok.ws i x k hn;refine wpAny_Name ?_ (E.ok.nodbg i x k hn)
  rcases O with rfl | rfl
  ·refine az E.ns fun m n hm=>?_;refine az (hm i x v hn hv) fun u ax aT=>?_;exact wpAny_loadName_local E.ok.kind hk n ax ⟨_,_,_,rfl,.refl,r,aT,.refl s⟩
  ·refine az (E.cv i x hn) fun c ax aT=>?_;refine az (aT v hv) fun u c2 gA=>?_;exact wpAny_loadName_cell E.ok.kind hk ax c2 ⟨_,_,_,rfl,.refl,r,gA,.refl s⟩
 ·exact absurd rfl hc
theorem qJ{p:Pos}{v:Value}{X:Value->Shared->Prop}(hK:K.Ok)(r:aq K.hb s.heap σ α)(E:tO env)(hn:env.scope.names[i]?=some (x,.globalImplicit))
  (hv:K.mg x=some v) (h:Q v s):wpAny (model K.prog K.w) A (eval (.Name x p) env) Q X s:=
 Calls.Name_function_global E.kind (E.ws i x _ hn) (Calls.loadGlobal_global (E.glob.symm▸(hK.g.keeps r.base)) hv h) (E.nodbg i x _ hn)
theorem Tu{p:Pos}{v:Value}{X:Value->Shared->Prop}(hK:K.Ok)(r:aq K.hb s.heap σ α)(E:tO env)(hn:env.scope.names[i]?=some (x,.globalImplicit))
  (hm:K.mg x=none) (hv:K.mb x=some v) (h:Q v s):wpAny (model K.prog K.w) A (eval (.Name x p) env) Q X s:=
 Calls.Name_function_global E.kind (E.ws i x _ hn) (Calls.loadGlobal_builtin (by rw[E.glob];exact hK.g.keeps r.base) hm (by rw[E.bins];exact hK.b.keeps r.base) hv h) (E.nodbg i x _ hn)
theorem aj.re(L:∀(i:Nat) (a:Addr),α.ix[i]?=some a->α'.ix[i]?=some a)(O:∀a,a∈α'.all->a∈α.all){p:H}{v:Value}(r:aj h α p v):aj h α' p v:=by
 induction r with
 | none=>exact .none
 | bool b=>exact .bool b
 | int i t=>exact .int i t
 | str s t hs=>exact .str s t hs
 | tup e hn hl _ ao=>exact .tup e (fun q=>hn (O _ q)) hl ao
 | fl e hn hl _ ao=>exact .fl e (fun q=>hn (O _ q)) hl ao
 | exc e hc hd hn=>exact .exc e hc hd (fun q=>hn (O _ q))
 | inst e hn hi=>exact .inst e (fun q=>hn (O _ q)) (L _ _ hi)
 | ref e=>exact .ref (L _ _ e)
theorem aj.hide(hD:h.get? D=Option.none){p:H}{v:Value}(r:aj h α p v):aj h ⟨α.ix,D::α.hid,α.fr⟩ p v:=by
 have key:∀{a:Addr} {o:Obj},h.get? a=some o->a∉α.all->a∉(⟨α.ix,D::α.hid,α.fr⟩:ay).all:=fun{a o} e hn q=>by
  rcases dH.mp q with q | q
  ·exact hn (hj _ q)
  ·rcases cE.mp q with q | q
   ·subst q;rw[hD]at e;contradiction
   ·exact hn (e6 _ q)
 induction r with
 | none=>exact .none
 | bool b=>exact .bool b
 | int i t=>exact .int i t
 | str s t hs=>exact .str s t hs
 | tup e hn hl _ ao=>exact .tup e (key e hn) hl ao
 | fl e hn hl _ ao=>exact .fl e (key e hn) hl ao
 | exc e hc hd hn=>exact .exc e hc hd (key e hn)
 | inst e hn hi=>exact .inst e (key e hn) hi
 | ref e=>exact .ref e
theorem bj.re(L:∀(i:Nat) (a:Addr),α.ix[i]?=some a->α'.ix[i]?=some a)(O:∀a,a∈α'.all->a∈α.all){p:List H}{v:List Value}(r:bj h α p v):bj h α' p v:=
 ⟨r.1,fun i x y V ak=>(r.2 i x y V ak).re L O⟩
theorem bj.hide(hD:h.get? D=none){p:List H}{v:List Value}(r:bj h α p v):bj h ⟨α.ix,D::α.hid,α.fr⟩ p v:=
 ⟨r.1,fun i x y V ak=>(r.2 i x y V ak).hide hD⟩
theorem ay.not_hide(hD:h.get? D=none)(e:h.get? a=some o)(hn:a∉α.all):a∉(⟨α.ix,D::α.hid,α.fr⟩:ay).all:=fun q=>by
 rcases dH.mp q with q | q
 ·exact hn (hj _ q)
 ·rcases cE.mp q with q | q
  ·subst q;rw[hD]at e;contradiction
  ·exact hn (e6 _ q)
theorem aj.sameBut(hD:D∈α.all)(k:∀b,b≠D->h'.get? b=h.get? b){p:H}{v:Value}(r:aj h α p v):aj h' α p v:=by
 induction r with
 | none=>exact .none
 | bool b=>exact .bool b
 | int i t=>exact .int i t
 | str s t hs=>exact .str s t hs
 | tup e hn hl _ ao=>exact .tup ((k _ (by rintro rfl;exact hn hD)).trans e) hn hl ao
 | fl e hn hl _ ao=>exact .fl ((k _ (by rintro rfl;exact hn hD)).trans e) hn hl ao
 | exc e hc hd hn=>exact .exc ((k _ (by rintro rfl;exact hn hD)).trans e) hc hd hn
 | inst e hn hi=>exact .inst ((k _ (by rintro rfl;exact hn hD)).trans e) hn hi
 | ref e=>exact .ref e
theorem bj.sameBut(hD:D∈α.all)(k:∀b,b≠D->h'.get? b=h.get? b){p:List H}{v:List Value}(r:bj h α p v):bj h' α p v:=
 ⟨r.1,fun i x y V ak=>(r.2 i x y V ak).sameBut hD k⟩
noncomputable def xm(K:a3)(A:Around)(it v:Value)(P:Shared->Prop)(s:Shared):Prop:=
 ∀(m4:List Expr) (k:Nat) (pos:Pos) (Q:Unit->Shared->Prop) (E:Value->Shared->Prop),(∀s',P s'->Q () s')->wpAny (model K.prog K.w) A (letOwnedTupleGo (.Tuple m4 k pos) it v) Q E s
noncomputable def Bn:List String:=["enumerate", "zip", "dict_itemiterator", "dict_reverseitemiterator", "odict_iterator", "itertools.zip_longest", "itertools.pairwise"]
theorem tc{n:String}{v:Value}{P:Shared->Prop}(e:s.heap.get? I=some o)(hc:o.cls=.type n)(hn:Bn.contains n=false)(h:P s):xm K A (.ref I) v P s:=by
 intro m4 k pos Q E a7;have hq:=a7 s h;unfold letOwnedTupleGo
 cases v with
 | ref a =>
  refine aN (wpAny_load e ?_);obtain⟨c,d,DB,cQ⟩:=o;dsimp only at hc;subst hc
  cases DB with
  | fields vs =>
   show wpAny _ A (if(Bn.contains n&&vs[0]? == some (rawInt a))=true then _ else _) Q E s;exact hn.symm▸(bO hq)
  | _=>exact bO hq
 | _=>exact bO hq
structure gH(K:a3)(A:Around)(en:Bool)(own:List Addr)(it:Value)(xs:List H)(wt:Option (Nat×aV))(St:Nat->Heap->ay->Prop):Prop where
 live:∀i h α,St i h α->∀b∈own,∃o,h.get? b=some o
 apart:∀i h α,St i h α->∀b∈own,b∉α.all
 frame:∀i F α h α' h',St i h α->a4 F α h α' h'->(∀b∈own,b∉F)->St i h' α'
 but:∀i D α h h',St i h α->D∈α.all->(∀b,b≠D->h'.get? b=h.get? b)->St i h' α
 hide:∀i D α h,St i h α->h.get? D=none->St i h ⟨α.ix,D::α.hid,α.fr⟩
 item:∀(i:Nat) (s:Shared) (σ:af) (α:ay) (p:H),xs[i]?=some p->St i s.heap α->aq K.hb s.heap σ α->iG wt σ->∀(Q:Option Value->Shared->Prop) (E:Value->Shared->Prop),
  (∀v s',aj s'.heap α p v->(en=false->St (i+1) s'.heap α)->xm K A it v (fun bb=>aj bb.heap α p v/\St (i+1) bb.heap α/\a4 own α s'.heap α bb.heap/\aq K.hb bb.heap σ α/\cA s' bb) s'->a4 own α s.heap α s'.heap->aq K.hb s'.heap σ α->cA s s'->Q (some v) s')->wpAny (model K.prog K.w) A (pyNext it) Q E s
 done:∀(s:Shared) (σ:af) (α:ay),St xs.length s.heap α->aq K.hb s.heap σ α->iG wt σ->∀(Q:Option Value->Shared->Prop) (E:Value->Shared->Prop),
  (∀s',a4 own α s.heap α s'.heap->aq K.hb s'.heap σ α->cA s s'->Q none s')->wpAny (model K.prog K.w) A (pyNext it) Q E s
 self:∀(i:Nat) (s:Shared) (α:ay),St i s.heap α->∀(Q:Value->Shared->Prop) (E:Value->Shared->Prop),Q it s->wpAny (model K.prog K.w) A (pyIter it) Q E s
theorem aq.but{hb h h' σ α}(r:aq hb h σ α)(HC:I∉α.all)(gD:hb.get? I=none)(k:∀b o,b≠I->h.get? b=some o->h'.get? b=some o)
  (hs:∀o,h.get? I=some o->¬kA o) (hd:I∈hb.fr->∀o,h.get? I=some o->gX o->∃aP,h'.get? I=some aP/\gX aP):aq hb h' σ α/\a4 [I] α h α h':=by
 have bd:I∉α.ix:=ay.not_ix HC;have PA:I∉α.hid:=fun q=>HC (e6 _ q);have x:a4 [I] α h α h':=⟨rfl,⟨[],by simp,fun J hx=>(nomatch hx)⟩,fun b o hb e q=>k b o (fun z=>by subst z;exact hs o e q) e,fun b o hb bU e=>.inl (k b o (by simpa using bU) e),fun b o bU e=>⟨o,k b o (by simpa using bU) e⟩,rfl⟩;refine⟨⟨fun b o e=>k b o (fun q=>by rw[q,gD]at e;contradiction) (r.base b o e),r.fresh,r.nodup,r.len,fun b hb=>⟨(r.hidden b hb).1,?_⟩,fun j m a V ak=>?_,r.hfr,r.fe,fun b hb=>⟨(r.frs b hb).1,?_⟩,r.frNot⟩,x⟩
 ·refine aM ((r.hidden b hb).2) fun o e=>?_;exact⟨o,k b o (fun q=>PA (q▸hb)) e⟩
 ·refine aM (r.live (eI ak)) fun aP aF=>?_;exact(r.obj j m a V ak).ext x (by rw[aF,k a aP (fun q=>bd (q▸eI ak)) aF])
 ·obtain⟨_,o,e,d⟩:=r.frs b hb;by_cases q:b=I
  ·subst q;exact hd hb o e d
  ·exact⟨o,k b o q e,d⟩
theorem ls{c:Addr}{v:Array Value}(LP:h.get? c=some o)(xz:o.data=.fields v)(x:jv fr h' c o):h'.get? c=some o:=x.same (by rintro⟨es,n,q⟩;rw[xz]at q;contradiction)
theorem iS{v:Array Value}{T:String}(d:o.data=.fields v)(hc:o.cls=.type T):¬kA o:=by
 rintro(⟨xs,n,e⟩ | ⟨C,vs,e,_⟩ | ⟨C,e,_⟩)
 ·rw[d]at e;contradiction
 ·rw[hc]at e;contradiction
 ·rw[hc]at e;contradiction
theorem iR{v:Array Value}(d:o.data=.fields v):¬gX o:=by
 rintro⟨xs,n,e⟩;rw[d]at e;contradiction
theorem gH.list(hA:eF A)(aR:A.handled=none){l:Addr}(gD:K.hb.get? I=none) :
  gH K A en [I] (.ref I) xs none (fun i h α=>h.IsListIter I l i/\I∉α.all/\aj h α (.fl xs) (.ref l)) where
 live:=fun i h α st b hb=>by simp at hb;subst hb;obtain⟨⟨o,e,_⟩,_⟩:=st;exact⟨o,e⟩
 apart:=fun i h α st b hb=>by simp at hb;subst hb;exact st.2.1
 frame:=fun i F α h α' h' st x bU=>by
  obtain⟨⟨o,e,hc,hd⟩,bd,v⟩:=st;exact⟨⟨o,ls e hd (x.rest I o (ay.not_ix bd) (bU I ((bu))) e),hc,hd⟩,x.notAll bd e,v.ext x⟩
 but:=fun i D α h h' st hD k=>by
  obtain⟨⟨o,e,hc,hd⟩,bd,v⟩:=st;exact⟨⟨o,(k I (fun q=>bd (q▸hD))).trans e,hc,hd⟩,bd,v.sameBut hD k⟩
 hide:=fun i D α h st hD=>by
  obtain⟨⟨o,e,hc,hd⟩,bd,v⟩:=st;exact⟨⟨o,e,hc,hd⟩,ay.not_hide hD e bd,v.hide hD⟩
 item:=fun i s σ α p hp st r J Q E a7=>by
  refine d4 st fun bZ bd v=>?_;obtain⟨jj,vs,n,hl,V,hn,w⟩:=v.flE;cases hl;refine az (w.get hp) fun u hu hv=>?_;refine bL (id bZ) fun o e hc hd=>?_;refine wpAny_pyNext_list_item bZ (gY V) (by simpa using hu) fun h' fq dJ=>?_
  obtain⟨aJ,x⟩:=r.but bd gD (fun b o hb e=>(dJ.2 b hb).trans e) (fun aP aF=>by rw[e]at aF;obtain rfl:=oi aF;exact iS hd hc) fun J aP aF fj=>by rw[e]at aF;obtain rfl:=oi aF;exact absurd fj (iR hd)
  refine bL (id fq) fun aP aF cy J=>?_;exact a7 u _ (hv.ext x) (fun J=>⟨fq,bd,v.ext x⟩) (tc (s:={ s with heap:=h' }) aF cy (by decide) ⟨hv.ext x,⟨fq,bd,v.ext x⟩,.refl,aJ,.refl _⟩) x aJ ⟨rfl,rfl⟩
 done:=fun s σ α st r J Q E a7=>by
  refine d4 st fun bZ bd v=>?_;obtain⟨jj,vs,n,hl,V,hn,w⟩:=v.flE;cases hl;refine bL (id bZ) fun o e hc hd=>?_;refine wpAny_pyNext_list_end aR bZ (gY V) (by simp[w.1]) fun h' iT=>?_
  obtain⟨aJ,x⟩:=r.but bd gD (fun b o hb e=>iT b o hb e) (fun aP aF=>by rw[e]at aF;obtain rfl:=oi aF;exact iS hd hc) fun J aP aF fj=>by rw[e]at aF;obtain rfl:=oi aF;exact absurd fj (iR hd)
  exact a7 _ x aJ ⟨rfl,rfl⟩
 self:=fun i s α st Q E a7=>wpAny_pyIter_listiter st.1 a7
theorem gH.mlist(hA:eF A)(aR:A.handled=none){l:Addr}(gD:K.hb.get? I=none) :
  gH K A en [I] (.ref I) xs (some (j,.lst xs)) (fun i h α=>h.IsListIter I l i/\I∉α.all/\α.ix[j]?=some l) where
 live:=fun i h α st b hb=>by simp at hb;subst hb;obtain⟨⟨o,e,_⟩,_⟩:=st;exact⟨o,e⟩
 apart:=fun i h α st b hb=>by simp at hb;subst hb;exact st.2.1
 frame:=fun i F α h α' h' st x bU=>by
  obtain⟨⟨o,e,hc,hd⟩,bd,v⟩:=st;exact⟨⟨o,ls e hd (x.rest I o (ay.not_ix bd) (bU I ((bu))) e),hc,hd⟩,x.notAll bd e,x.get v⟩
 but:=fun i D α h h' st hD k=>by
  obtain⟨⟨o,e,hc,hd⟩,bd,v⟩:=st;exact⟨⟨o,(k I (fun q=>bd (q▸hD))).trans e,hc,hd⟩,bd,v⟩
 hide:=fun i D α h st hD=>by
  obtain⟨⟨o,e,hc,hd⟩,bd,v⟩:=st;exact⟨⟨o,e,hc,hd⟩,ay.not_hide hD e bd,v⟩
 item:=fun i s σ α p hp st r wt Q E a7=>by
  refine d4 st fun bZ bd v=>?_;refine c1 (r.obj j _ l wt v) fun vs n V w=>?_;refine az (w.get hp) fun u hu hv=>?_;refine bL (id bZ) fun o e hc hd=>?_;refine wpAny_pyNext_list_item bZ (gY V) (by simpa using hu) fun h' fq dJ=>?_
  obtain⟨aJ,x⟩:=r.but bd gD (fun b o hb e=>(dJ.2 b hb).trans e) (fun aP aF=>by rw[e]at aF;obtain rfl:=oi aF;exact iS hd hc) fun J aP aF fj=>by rw[e]at aF;obtain rfl:=oi aF;exact absurd fj (iR hd)
  refine bL (id fq) fun aP aF cy J=>?_;exact a7 u _ (hv.ext x) (fun J=>⟨fq,bd,v⟩) (tc (s:={ s with heap:=h' }) aF cy (by decide) ⟨hv.ext x,⟨fq,bd,v⟩,.refl,aJ,.refl _⟩) x aJ ⟨rfl,rfl⟩
 done:=fun s σ α st r wt Q E a7=>by
  refine d4 st fun bZ bd v=>?_;refine c1 (r.obj j _ l wt v) fun vs n V w=>?_;refine bL (id bZ) fun o e hc hd=>?_;refine wpAny_pyNext_list_end aR bZ (gY V) (by simp[w.1]) fun h' iT=>?_
  obtain⟨aJ,x⟩:=r.but bd gD (fun b o hb e=>iT b o hb e) (fun aP aF=>by rw[e]at aF;obtain rfl:=oi aF;exact iS hd hc) fun J aP aF fj=>by rw[e]at aF;obtain rfl:=oi aF;exact absurd fj (iR hd)
  exact a7 _ x aJ ⟨rfl,rfl⟩
 self:=fun i s α st Q E a7=>wpAny_pyIter_listiter st.1 a7
theorem gH.signs{t:Tok}{ty:String}(gD:K.hb.get? I=none)(hx:PyData.strOk x=true)(mj:Bn.contains ty=false)
  (RQ:∀(s:Shared) (i c:Nat) (Q:Option Value->Shared->Prop) (E:Value->Shared->Prop),s.heap.IsStrIter I ty x t i->x.cps[i]?=some c ->
   (∀h',h'.IsStrIter I ty x t (i+1)->Heap.SameBut I s.heap h'->Q (some (.str ⟨#[c]⟩ s.toks)) { s with heap:=h',toks:=s.toks+1 })->wpAny (model K.prog K.w) A (pyNext (.ref I)) Q E s)
  (RS:∀(s:Shared) (i:Nat) (Q:Option Value->Shared->Prop) (E:Value->Shared->Prop),s.heap.IsStrIter I ty x t i->x.cps[i]?=none->(∀h',Heap.ExtBut I s.heap h'->Q none { s with heap:=h' })->wpAny (model K.prog K.w) A (pyNext (.ref I)) Q E s)
  (RT:∀(s:Shared) (i:Nat) (Q:Value->Shared->Prop) (E:Value->Shared->Prop),s.heap.IsStrIter I ty x t i->Q (.ref I) s->wpAny (model K.prog K.w) A (pyIter (.ref I)) Q E s) :
  gH K A en [I] (.ref I) (wI x) none (fun i h α=>h.IsStrIter I ty x t i/\I∉α.all) where
 live:=fun i h α st b hb=>by simp at hb;subst hb;obtain⟨⟨o,e,_⟩,_⟩:=st;exact⟨o,e⟩
 apart:=fun i h α st b hb=>by simp at hb;subst hb;exact st.2
 frame:=fun i F α h α' h' st x bU=>by
  obtain⟨⟨o,e,hc,hd⟩,bd⟩:=st;exact⟨⟨o,ls e hd (x.rest I o (ay.not_ix bd) (bU I ((bu))) e),hc,hd⟩,x.notAll bd e⟩
 but:=fun i D α h h' st hD k=>by
  obtain⟨⟨o,e,hc,hd⟩,bd⟩:=st;exact⟨⟨o,(k I (fun q=>bd (q▸hD))).trans e,hc,hd⟩,bd⟩
 hide:=fun i D α h st hD=>by
  obtain⟨⟨o,e,hc,hd⟩,bd⟩:=st;exact⟨⟨o,e,hc,hd⟩,ay.not_hide hD e bd⟩
 item:=fun i s σ α p hp st r J Q E a7=>by
  refine aW st fun bZ bd=>?_;refine bL (id bZ) fun o e hc hd=>?_;simp only[wI,fg]at hp;refine az (Option.map_eq_some_iff.mp hp) fun c qk ag=>?_;obtain rfl:=ag
  have HN:x.cps[i]?=some c:=by exact(Array.getElem?_toList)▸qk
  refine RQ s i c Q E bZ HN fun h' fq dJ=>?_
  obtain⟨aJ,aQ⟩:=r.but bd gD (fun b o hb e=>(dJ.2 b hb).trans e) (fun aP aF=>by rw[e]at aF;obtain rfl:=oi aF;exact iS hd hc) fun J aP aF fj=>by rw[e]at aF;obtain rfl:=oi aF;exact absurd fj (iR hd)
  refine bL (id fq) fun aP aF cy J=>?_
  have c3:PyData.strOk ⟨#[c]⟩=true:=by
   unfold PyData.strOk at hx ⊢;simp only[Array.all_eq_true']at hx ⊢;intro d fo;simp at fo;subst fo;exact hx _ (Array.mem_of_getElem? HN)
  exact a7 _ _ (.str _ _ c3) (fun J=>⟨fq,bd⟩) (tc (s:={ s with heap:=h',toks:=s.toks+1 }) aF cy mj ⟨.str _ _ c3,⟨fq,bd⟩,.refl,aJ,.refl _⟩) aQ aJ ⟨rfl,rfl⟩
 done:=fun s σ α st r J Q E a7=>by
  refine aW st fun bZ bd=>?_;refine bL (id bZ) fun o e hc hd=>?_;refine RS s _ Q E bZ (by simp[wI]) fun h' iT=>?_
  obtain⟨aJ,aQ⟩:=r.but bd gD (fun b o hb e=>iT b o hb e) (fun aP aF=>by rw[e]at aF;obtain rfl:=oi aF;exact iS hd hc) fun J aP aF fj=>by rw[e]at aF;obtain rfl:=oi aF;exact absurd fj (iR hd)
  exact a7 _ aQ aJ ⟨rfl,rfl⟩
 self:=fun i s α st Q E a7=>RT s i Q E st.1 a7
theorem qv{items:List Value}(e:s.heap.get? a=some { cls:=.type "tuple",data:=.seq items.toArray n }):s.heap.IsTuple a items.toArray:=⟨_,e,rfl,n,rfl⟩
theorem gH.tuple(hA:eF A)(aR:A.handled=none){l:Addr}(gD:K.hb.get? I=none) :
  gH K A en [I] (.ref I) xs none (fun i h α=>h.IsTupleIter I l i/\I∉α.all/\aj h α (.tup xs) (.ref l)) where
 live:=fun i h α st b hb=>by simp at hb;subst hb;obtain⟨⟨o,e,_⟩,_⟩:=st;exact⟨o,e⟩
 apart:=fun i h α st b hb=>by simp at hb;subst hb;exact st.2.1
 frame:=fun i F α h α' h' st x bU=>by
  obtain⟨⟨o,e,hc,hd⟩,bd,v⟩:=st;exact⟨⟨o,ls e hd (x.rest I o (ay.not_ix bd) (bU I ((bu))) e),hc,hd⟩,x.notAll bd e,v.ext x⟩
 but:=fun i D α h h' st hD k=>by
  obtain⟨⟨o,e,hc,hd⟩,bd,v⟩:=st;exact⟨⟨o,(k I (fun q=>bd (q▸hD))).trans e,hc,hd⟩,bd,v.sameBut hD k⟩
 hide:=fun i D α h st hD=>by
  obtain⟨⟨o,e,hc,hd⟩,bd,v⟩:=st;exact⟨⟨o,e,hc,hd⟩,ay.not_hide hD e bd,v.hide hD⟩
 item:=fun i s σ α p hp st r J Q E a7=>by
  refine d4 st fun bZ bd v=>?_;obtain⟨jj,vs,n,hl,V,hn,w⟩:=v.tupE;cases hl;refine az (w.get hp) fun u hu hv=>?_;refine bL (id bZ) fun o e hc hd=>?_;refine wpAny_pyNext_tuple_item bZ (qv V) (by simpa using hu) fun h' fq dJ=>?_
  obtain⟨aJ,x⟩:=r.but bd gD (fun b o hb e=>(dJ.2 b hb).trans e) (fun aP aF=>by rw[e]at aF;obtain rfl:=oi aF;exact iS hd hc) fun J aP aF fj=>by rw[e]at aF;obtain rfl:=oi aF;exact absurd fj (iR hd)
  refine bL (id fq) fun aP aF cy J=>?_;exact a7 u _ (hv.ext x) (fun J=>⟨fq,bd,v.ext x⟩) (tc (s:={ s with heap:=h' }) aF cy (by decide) ⟨hv.ext x,⟨fq,bd,v.ext x⟩,.refl,aJ,.refl _⟩) x aJ ⟨rfl,rfl⟩
 done:=fun s σ α st r J Q E a7=>by
  refine d4 st fun bZ bd v=>?_;obtain⟨jj,vs,n,hl,V,hn,w⟩:=v.tupE;cases hl;refine bL (id bZ) fun o e hc hd=>?_;refine wpAny_pyNext_tuple_end aR bZ (qv V) (by simp[w.1]) fun h' iT=>?_
  obtain⟨aJ,x⟩:=r.but bd gD (fun b o hb e=>iT b o hb e) (fun aP aF=>by rw[e]at aF;obtain rfl:=oi aF;exact iS hd hc) fun J aP aF fj=>by rw[e]at aF;obtain rfl:=oi aF;exact absurd fj (iR hd)
  exact a7 _ x aJ ⟨rfl,rfl⟩
 self:=fun i s α st Q E a7=>wpAny_pyIter_tupleiter st.1 a7
theorem gH.range(hA:eF A)(aR:A.handled=none){a c:Int}(gD:K.hb.get? I=none) :
  gH K A en [I] (.ref I) (cZ a c n) none (fun i h α=>IsRangeIter h I (a+(i:Nat)*c) ((n:Int)-(i:Nat)) c/\I∉α.all) where
 live:=fun i h α st b hb=>by simp at hb;subst hb;exact⟨_,st.1⟩
 apart:=fun i h α st b hb=>by simp at hb;subst hb;exact st.2
 frame:=fun i F α h α' h' st x bU=>by
  refine aW st fun e bd=>?_;exact⟨ls e rfl (x.rest I _ (ay.not_ix bd) (bU I ((bu))) e),x.notAll bd e⟩
 but:=fun i D α h h' st hD k=>by
  refine aW st fun e bd=>?_;exact⟨(k I (fun q=>bd (q▸hD))).trans e,bd⟩
 hide:=fun i D α h st hD=>by
  refine aW st fun e bd=>?_;exact⟨e,ay.not_hide hD e bd⟩
 item:=fun i s σ α p hp st r J Q E a7=>by
  refine aW st fun bZ bd=>?_
  have hi:i<n:=by have:=(dS hp).1;simpa[cZ]using this
  have Aw:p=.int (a+(i:Int)*c):=by
   simp only[cZ,fg,List.getElem?_range hi,Option.map_some,Option.some.injEq]at hp;exact hp.symm
  subst Aw;refine wpAny_pyNext_range_item bZ (by grind) fun h' fq dJ=>?_
  obtain⟨aJ,x⟩:=r.but bd gD (fun b o hb e=>(dJ.2 b hb).trans e) (fun aP aF=>by rw[show s.heap.get? I=_ from bZ]at aF;obtain rfl:=oi aF;exact iS rfl rfl) fun J aP aF fj=>by rw[show s.heap.get? I=_ from bZ]at aF;obtain rfl:=oi aF;exact absurd fj (iR rfl)
  have V:a+((i+1:Nat):Int)*c=a+(i:Int)*c+c:=by push_cast;rw[Int.add_mul,Int.one_mul,Int.add_assoc]
  have ak:(n:Int)-((i+1:Nat):Int)=(n:Int)-(i:Int)-1:=by push_cast;(grind)
  have er:IsRangeIter h' I (a+((i+1:Nat):Int)*c) ((n:Int)-((i+1:Nat):Int)) c:=by exact V.symm▸ak.symm▸fq
  exact a7 _ _ (.int _ _) (fun J=>⟨er,bd⟩) (tc (s:={ s with heap:=h',toks:=s.toks+1 }) fq rfl (by decide) ⟨.int _ _,⟨er,bd⟩,.refl,aJ,.refl _⟩) x aJ ⟨rfl,rfl⟩
 done:=fun s σ α st r J Q E a7=>by
  refine aW st fun bZ bd=>?_;refine wpAny_pyNext_range_end aR bZ (by simp[cZ]) fun h' iT=>?_
  obtain⟨aJ,x⟩:=r.but bd gD (fun b o hb e=>iT b o hb e) (fun aP aF=>by rw[show s.heap.get? I=_ from bZ]at aF;obtain rfl:=oi aF;exact iS rfl rfl) fun J aP aF fj=>by rw[show s.heap.get? I=_ from bZ]at aF;obtain rfl:=oi aF;exact absurd fj (iR rfl)
  exact a7 _ x aJ ⟨rfl,rfl⟩
 self:=fun i s α st Q E a7=>wpAny_pyIter_rangeiter st.1 a7
theorem et.hide{B:f8}(hD:h.get? D=none)(r:et B h α m a):et B h ⟨α.ix,D::α.hid,α.fr⟩ m a:=
 r.map (fun J J v=>v.hide hD) rfl fun b o hb e J=>⟨e,ay.not_hide hD e hb⟩
theorem et.re{B:f8}(L:∀(i:Nat) (a:Addr),α.ix[i]?=some a->α'.ix[i]?=some a)(O:∀a,a∈α'.all->a∈α.all)(r:et B h α m a):et B h α' m a:=
 r.map (fun J J v=>v.re L O) rfl fun b o hb e J=>⟨e,fun q=>hb (O b q)⟩
theorem a1.hide(hD:h.get? D=none)(E:a1 env ρ h α):a1 env ρ h ⟨α.ix,D::α.hid,α.fr⟩:=by
 refine az E.ns fun m n hm=>?_;refine j8 (id n) fun Uc J J xX J=>?_;refine⟨E.ok,ay.not_hide hD xX E.la,⟨m,n,fun i x v V ak=>let⟨u,a,b⟩:=hm i x v V ak;⟨u,a,b.hide hD⟩⟩,fun x c hc=>?_,E.cd,fun i x V=>?_,E.inb⟩
 ·refine d4 (E.ca x c hc) fun L O bi=>?_;refine aM bi fun v ax=>?_;refine az (id ax) fun o e d=>?_;exact⟨ay.not_hide hD e L,O,v,ax⟩
 ·refine az (E.cv i x V) fun c hc hv=>?_;exact⟨c,hc,fun v ak=>let⟨u,a,b⟩:=hv v ak;⟨u,a,b.hide hD⟩⟩
theorem aq.hide{hb h h' σ α}(r:aq hb h σ α)(hD:h.get? D=none)(k:∀b o,h.get? b=some o->h'.get? b=some o)(e:h'.get? D=some o):aq hb h' σ ⟨α.ix,D::α.hid,α.fr⟩:=by
 have aJ:=r.keeps k
 have nc:D∉α.ix:=fun q=>by refine aM (r.live q) fun o e=>?_;rw[hD]at e;cases e
 refine⟨aJ.base,aJ.fresh,aJ.nodup,aJ.len,fun a ha=>?_,fun i m a V ak=>?_,fun a ha=>?_,aJ.fe,aJ.frs,aJ.frNot⟩
 ·rcases cE.mp ha with q | q
  ·subst q;exact⟨nc,_,e⟩
  ·exact aJ.hidden a q
 ·have x:a4 [] (⟨α.ix,D::α.hid,α.fr⟩:ay) h ⟨α.ix,D::α.hid,α.fr⟩ h':=.keeps k;refine aM (r.live (eI ak)) fun aP aF=>?_;exact((r.obj i m a V ak).hide hD).ext x (by rw[aF,k a aP aF])
 ·rcases cE.mp ha with q | q
  ·subst q
   cases hq:hb.get? a with
   | none=>rfl
   | some o=>rw[r.base _ _ hq]at hD;cases hD
  ·exact r.hfr a q
inductive gu(K:a3)(A:Around)(en:Bool)(c:ah (List H×Option (Nat×aV)))(s:Shared)(α:ay)(it:Value)(s':Shared):Prop where
 | mk (xs:List H) (wt:Option (Nat×aV)) (σ':af) (α':ay) (own:List Addr) (St:Nat->Heap->ay->Prop) (h:c=.ok (xs,wt) σ') (x:a4 [] α s.heap α' s'.heap) (r:aq K.hb s'.heap σ' α') (m:cA s s') (I:gH K A en own it xs wt St) (st:St 0 s'.heap α') (ho:∀b∈own,s.heap.get? b=none/\K.hb.get? b=none):gu K A en c s α it s'
theorem gu.lift{c:ah (List H×Option (Nat×aV))}{it:Value}(x:a4 [] α s.heap bc s₁.heap)(m:cA s s₁)(p:gu K A en c s₁ bc it s'):gu K A en c s α it s':=by
 obtain⟨xs,wt,σ',α',own,St,e,aQ,r,bJ,I,st,ho⟩:=p;refine⟨xs,wt,σ',α',own,St,e,x.trans aQ,r,m.trans bJ,I,st,fun b hb=>⟨?_,(ho b hb).2⟩⟩
 cases hq:s.heap.get? b with
 | none=>rfl
 | some o=>obtain⟨aP,aF⟩:=x.alive b o ((ew)) hq;rw[(ho b hb).1]at aF;cases aF
noncomputable def ju(K:a3)(A:Around)(en:Bool)(t:Sem Value)(c:ah (List H×Option (Nat×aV)))(s:Shared)(α:ay):Prop:=
 c≠.stuck->wpAny (model K.prog K.w) A t (fun x s₁=>wpAny (model K.prog K.w) A (pyIter x) (gu K A en c s α) (dh K A c s α) s₁) (dh K A c s α) s
theorem oH(r:aq K.hb s.heap σ α):K.hb.get? s.heap.objs.size=none:=by
 cases hq:K.hb.get? s.heap.objs.size with
 | none=>rfl
 | some o=>exact absurd (fi (r.base _ _ hq)) (Nat.lt_irrefl _)
theorem gu.new(bd:I=s.heap.objs.size)(r:aq K.hb s.heap σ α)(it:gH K A en [I] (.ref I) xs wt St)
  (st:∀h',h'=s.heap.push o->(∀b aP,s.heap.get? b=some aP->h'.get? b=some aP)->I∉α.all->St 0 h' α):gu K A en (.ok (xs,wt) σ) s α (.ref I) { s with heap:=s.heap.push o,toks:=tk }:=by
 subst bd;have k:∀b aP,s.heap.get? b=some aP->(s.heap.push o).get? b=some aP:=fun b aP e=>c8 _ e;refine⟨xs,wt,σ,α,_,St,rfl,.keeps k,r.keeps k,⟨rfl,rfl⟩,it,st _ rfl k (fun hm=>?_),fun b hb=>?_⟩
 ·refine aM (r.liveAll hm) fun o e=>?_;rw[lK]at e;cases e
 ·simp at hb;subst hb;exact⟨lK s,oH r⟩
theorem R3{a:H}{x:Value}(hA:eF A)(aR:A.handled=none)(r:aq K.hb s.heap σ α)(aA:aj s.heap α a x)
  (hc:eD a σ≠.stuck) :
  wpAny (model K.prog K.w) A (pyIter x) (gu K A en (eD a σ) s α) E s:=by
 unfold eD at hc ⊢
 cases a with
 | fl xs =>
  obtain⟨l,vs,n,rfl,V,hn,v⟩:=aA.flE;refine wpAny_pyIter_list (gY V) (gu.new (tk:=s.toks) rfl r (.list hA aR (l:=l) (oH r)) fun h' aR k bd=>?_);exact⟨⟨_,by rw[aR];exact eJ _ rfl,rfl,rfl⟩,bd,aA.ext (.keeps (F:=[]) k)⟩
 | tup xs =>
  obtain⟨l,vs,n,rfl,V,hn,v⟩:=aA.tupE;refine wpAny_pyIter_tuple (qv V) (gu.new (tk:=s.toks) rfl r (.tuple hA aR (l:=l) (oH r)) fun h' aR k bd=>?_);exact⟨⟨_,by rw[aR];exact eJ _ rfl,rfl,rfl⟩,bd,aA.ext (.keeps (F:=[]) k)⟩
 | ref i =>
  refine az aA.refE fun l ag dZ=>?_;obtain rfl:=ag;simp only[items,nO]at hc ⊢
  cases hs:σ[i]? with
  | none=>rw[hs]at hc;exact absurd rfl hc
  | some m =>
   cases m with
   | lst xs =>
    refine c1 (r.obj i _ l hs dZ) fun vs n V v=>?_;refine wpAny_pyIter_list (gY V) (gu.new (tk:=s.toks) rfl r (.mlist hA aR (l:=l) (j:=i) (oH r)) fun h' aR k bd=>?_);exact⟨⟨_,by rw[aR];exact eJ _ rfl,rfl,rfl⟩,bd,dZ⟩
   | _=>rw[hs]at hc;exact absurd rfl hc
 | str z =>
  refine az aA.strE fun t ag bp=>?_;obtain rfl:=ag;cases ha:z.cps.all (· < 128)
  ·refine wpAny_pyIter_wide ha (gu.new (tk:=s.toks) rfl r (.signs (t:=t) (ty := "str_iterator") (oH r) bp (by decide) (fun s i c Q E L O ax=>wpAny_pyNext_wide_item L O ax) (fun s i Q E L O ax=>wpAny_pyNext_wide_end aR L O ax) fun s i Q E L O=>wpAny_pyIter_striter_wide L O) fun h' aR k bd=>?_);exact⟨⟨_,by rw[aR];exact eJ _ rfl,rfl,rfl⟩,bd⟩
  ·refine wpAny_pyIter_ascii ha (gu.new (tk:=s.toks) rfl r (.signs (t:=t) (ty := "str_ascii_iterator") (oH r) bp (by decide) (fun s i c Q E L O ax=>wpAny_pyNext_ascii_item L O ax) (fun s i Q E L O ax=>wpAny_pyNext_ascii_end aR L O ax) fun s i Q E L O=>wpAny_pyIter_striter_ascii L O) fun h' aR k bd=>?_);exact⟨⟨_,by rw[aR];exact eJ _ rfl,rfl,rfl⟩,bd⟩
 | _=>exact absurd rfl hc
theorem VD{n:Int}(h0:0<=n):Builtin.Range.rangeSize 0 n 1=n:=by
 unfold Builtin.Range.rangeSize;simp;(grind)
theorem VS{n:Int}(h0:0<=n)(L:n<=(aI:Int)):Builtin.Range.small 0 n 1=true:=
 small_one (by decide) (by decide) (Int.le_trans (by decide) h0) (Int.lt_of_le_of_lt L (by decide))
noncomputable def nP(s:Shared)(a b c:Int)(t u v tk:Nat):Shared:={ s with heap:=s.heap.push { cls:=.type "range",data:=.fields #[.int a t,.int b u,.int c v] },toks:=tk }
theorem Lo{a b c:Int}{t u v:Nat}{x:Addr}(e:s.heap.get? x=some o):(nP s a b c t u v tk).heap.get? x=some o:=c8 _ e
inductive mV(K:a3)(c:ah (List H×Option (Nat×aV)))(s:Shared)(α:ay)(y:Value)(s':Shared):Prop
 | mk (s₁:Shared) (ac:af) (bc:ay) (a b d:Int) (t u v tk n:Nat) (hy:y=.ref s₁.heap.objs.size) (hs:s'=nP s₁ a b d t u v tk) (hc:c=.ok (cZ a d n,none) ac) (x:a4 [] α s.heap bc s₁.heap) (r:aq K.hb s₁.heap ac bc) (m:cA s s₁) (mG:Builtin.Range.small a b d=true) (hn:Builtin.Range.rangeSize a b d=n) (hl:n<=2000000):mV K c s α y s'
theorem mV.lift{c:ah (List H×Option (Nat×aV))}(x:a4 [] js s₀.heap α s.heap)(m:cA s₀ s)(p:mV K c s α y s'):mV K c s₀ js y s':=by
 obtain⟨s₁,ac,bc,a,b,d,t,u,v,tk,n,hy,hs,hc,aQ,r,bJ,mG,hn,hl⟩:=p;exact⟨s₁,ac,bc,a,b,d,t,u,v,tk,n,hy,hs,hc,x.trans aQ,r,m.trans bJ,mG,hn,hl⟩
theorem R2{a b c:Int}{t u v:Nat}(hA:eF A)(aR:A.handled=none)(r:aq K.hb s.heap σ α)(hs:Builtin.Range.small a b c=true)(hn:Builtin.Range.rangeSize a b c=n) :
  wpAny (model K.prog K.w) A (pyIter (.ref s.heap.objs.size)) (gu K A en (.ok (cZ a c n,none) σ) s α) E (nP s a b c t u v tk):=by
 have aJ:aq K.hb (nP s a b c t u v tk).heap σ α:=r.keeps fun J J=>Lo;refine wpAny_pyIter_range (s:=nP s a b c t u v tk) (IsRange.new _ _ _ _ _ _ _) hs (gu.lift (s₁:=nP s a b c t u v tk) (.keeps fun J J=>Lo) ⟨rfl,rfl⟩ ?_);refine gu.new (s:=nP s a b c t u v tk) (tk:=tk) rfl aJ (.range hA aR (a:=a) (c:=c) (n:=n) (oH (s:=nP s a b c t u v tk) aJ)) fun h' aR bW bd=>⟨?_,bd⟩;rw[aR,hn];unfold IsRangeIter;simp only[Int.ofNat_zero,Int.zero_mul,Int.add_zero,Int.sub_zero];exact eJ _ rfl
theorem U2{a:H}(h:ny a σ≠.stuck)(k:∀n:Nat,a=.int n->n<=aI->ny a σ=.ok (cZ 0 1 n,none) σ->P):P:=by
 cases a with
 | int i =>
  have bP:ny (.int i) σ=if 0<=i/\i<=aI then .ok (cZ 0 1 i.toNat,none) σ else .stuck:=rfl
  by_cases hl:0<=i/\i<=aI
  ·refine aM (iO hl.1) fun n ag=>?_;obtain rfl:=ag;exact k n rfl (Int.ofNat_le.mp hl.2) (bP.trans (aE hl))
  ·exact absurd (bP.trans (a5 hl)) h
 | _=>exact absurd rfl h
theorem mV.iter{c:ah (List H×Option (Nat×aV))}(hA:eF A)(aR:A.handled=none)(p:mV K c s α y s'):wpAny (model K.prog K.w) A (pyIter y) (gu K A en c s α) E s':=by
 obtain⟨s₁,ac,bc,a,b,d,t,u,v,tk,n,rfl,rfl,rfl,x,r,m,mG,hn,hl⟩:=p;exact cB (R2 hA aR r mG hn) (fun it bb hp=>hp.lift x m) fun J J e=>e
theorem MY{a:H}{x:Value}(r:aq K.hb s.heap σ α)(aA:aj s.heap α a x)(hc:ny a σ≠.stuck):wpAny (model K.prog K.w) A (call (.type "range") [x]) (mV K (ny a σ) s α) E s:=by
 refine U2 hc fun n ha hl e=>?_;subst ha;refine aM aA.intE fun t ag=>?_;obtain rfl:=ag;exact e.symm▸(call_range_1 ⟨s,σ,α,0,n,1,_,_,_,s.toks+1+1,n,rfl,rfl,rfl,.refl,r,.refl s,VS (d8 n) (Int.ofNat_le.mpr hl),VD (d8 n),aK hl (by decide)⟩)
section
variable {prog:Program}{w:World}
theorem TV{it t:Addr}{items:Array Value}{x:Value}(bZ:s.heap.IsTupleIter it t i)(aO:s.heap.IsTuple t items)(hx:items[i]?=some x)
  (a7:∀h',h'.IsTupleIter it t (i+1)->Heap.SameBut it s.heap h'->Q x { s with heap:=h' }):wpAny (model prog w) A (Builtin.SmallTypes.nextOf (.ref it)) Q E s:=by
 refine bL (id bZ) fun o ho hc hd=>?_;refine bL aO fun lM oO J bi=>?_;refine aM bi fun gE An=>?_;unfold Builtin.SmallTypes.nextOf
 refine aN (wpAny_callSpecial?_slot (name:=Str.ofString "__next__") bZ.typeIs F.slot_tuple_iterator_next
  (wpAny_call_entry F.slot_tuple_iterator_next bZ.typeIs F.entry_tuple_iterator_next ?_ (F.args_tuple_iterator_next_1 _)))
 show wpAny _ _ (field (.ref it) 0 >>= _) _ _ s;refine aN (gM ho hd (x:=.ref t) rfl ?_);show wpAny _ _ (if(Value.ref t == Value.none)=true then _ else _) _ _ s;rw[a5 (show ¬((Value.ref t == Value.none)=true)from Bool.false_ne_true)];show wpAny _ _ (field (.ref it) 1 >>= _) _ _ s;refine aN (gM ho hd (x:=.int i 0) rfl ?_);show wpAny _ _ (seqItems? (.ref t) >>= _) _ _ s;refine aN (wpAny_seqItems oO An ?_);simp only[jy,hx];refine aN (wpAny_setField ho hd (by simp) (bO ⟨x,rfl,bO (a7 _ ?_ (Heap.SameBut.update ..))⟩))
 exact⟨_,Heap.get?_update_self _ ho (Obj.isFreed_of_fields (Obj.data_mapFields hd _)),(Obj.cls_mapFields ..).trans hc,by
  rw[Obj.data_mapFields hd];simp[rawInt]⟩
theorem TU{it t:Addr}{items:Array Value}(aR:A.handled=none)(bZ:s.heap.IsTupleIter it t i)(aO:s.heap.IsTuple t items)(hx:items[i]?=none)
  (gB:∀h' e,Heap.ExtBut it s.heap h'->(∃o,h'.get? e=some o/\o.cls=.type "StopIteration")->E (.ref e) { s with heap:=h' }):wpAny (model prog w) A (Builtin.SmallTypes.nextOf (.ref it)) Q E s:=by
 refine bL (id bZ) fun o ho hc hd=>?_;refine bL aO fun lM oO J bi=>?_;refine aM bi fun gE An=>?_;unfold Builtin.SmallTypes.nextOf
 refine aN (wpAny_callSpecial?_slot (name:=Str.ofString "__next__") bZ.typeIs F.slot_tuple_iterator_next
  (wpAny_call_entry F.slot_tuple_iterator_next bZ.typeIs F.entry_tuple_iterator_next ?_ (F.args_tuple_iterator_next_1 _)))
 show wpAny _ _ (field (.ref it) 0 >>= _) _ _ s;refine aN (gM ho hd (x:=.ref t) rfl ?_);show wpAny _ _ (if(Value.ref t == Value.none)=true then _ else _) _ _ s;rw[a5 (show ¬((Value.ref t == Value.none)=true)from Bool.false_ne_true)];show wpAny _ _ (field (.ref it) 1 >>= _) _ _ s;refine aN (gM ho hd (x:=.int i 0) rfl ?_);show wpAny _ _ (seqItems? (.ref t) >>= _) _ _ s;refine aN (wpAny_seqItems oO An ?_);simp only[jy,hx];refine aN (wpAny_rule (aN (wpAny_setField ho hd (by simp) ?_)));show wpAny _ _ (newExc (.type "StopIteration") [] >>= _) _ _ _;refine aN ?_;simp only[newExc,newTuple];refine aN (wpAny_newObj_type ?_ (by size_fits));refine aN (m:=firstArgMember _ _) (wpAny_of_eq (a:=Value.none) (by first | rfl | (simp only[firstArgMember];rfl)) ?_);refine wpAny_newObj_type ?_ (by size_fits);simp only[raiseNew];refine aN (wpAny_handled ?_)
 first | rw[show A.in1.handled=none from aR] | rw[aR]
 refine aN (bO (wpAny_throw ?_));exact gB _ _ (((Heap.SameBut.update ..).extBut.push _).push _) ⟨_,eJ _ rfl,rfl⟩
structure jw(h:Heap)(z TI bT bM ct t l:Addr)(k:Nat)(lr:Value):Prop where
 z:IsZip h z TI bT lr
 ti:IsPair h TI (.ref bM) (.ref ct)
 it:h.IsTupleIter bM t k
 il:h.IsListIter ct l k
structure pV(z TI bT bM ct:Addr):Prop where
 a:TI≠z
 b:bT≠z
 c:bM≠z
 d:ct≠z
 e:TI≠bT
 f:TI≠bM
 g:TI≠ct
 h:bT≠bM
 i:bT≠ct
 j:bM≠ct
theorem Cd{t:Addr}{k:Nat}(x:h.IsTupleIter I t k)(g:∀o,h.get? I=some o->h'.get? I=some o):h'.IsTupleIter I t k:=by
 refine bL x fun o e c d=>?_;exact⟨o,g o e,c,d⟩
theorem A2{t:Addr}{k:Nat}(x:h.IsListIter I t k)(g:∀o,h.get? I=some o->h'.get? I=some o):h'.IsListIter I t k:=by
 refine bL x fun o e c d=>?_;exact⟨o,g o e,c,d⟩
theorem jw.keep{t l:Addr}{k:Nat}{lr:Value}(Z:jw h z TI bT bM ct t l k lr)(g:∀b,b=z\/b=TI\/b=bM\/b=ct->∀o,h.get? b=some o->h'.get? b=some o):jw h' z TI bT bM ct t l k lr:=
 ⟨g z (.inl rfl) _ Z.z,g TI (.inr (.inl rfl)) _ Z.ti,Cd Z.it (g bM (.inr (.inr (.inl rfl)))),A2 Z.il (g ct (.inr (.inr (.inr rfl))))⟩
theorem Yo{t l:Addr}{k:Nat}{xs ys:Array Value}{x a b:Value}(D:pV z TI bT bM ct)(Z:jw s.heap z TI bT bM ct t l k .none)(Ac:IsPair s.heap bT a b)
  (aO:∀h':Heap,(∀c o,c≠z->c≠bT->c≠bM->c≠ct->s.heap.get? c=some o->h'.get? c=some o)->h'.IsTuple t xs/\h'.IsList l ys) (hx:xs[k]?=some x) (hy:ys[k]?=some y)
  (a7:∀h',jw h' z TI bT bM ct t l (k+1) (rawInt s.heap.objs.size)->IsPair h' bT x y->IsPair h' s.heap.objs.size x y ->
   (∀c o,c≠z->c≠bT->c≠bM->c≠ct->s.heap.get? c=some o->h'.get? c=some o)->Q (.ref s.heap.objs.size) { s with heap:=h' }) :
  wpAny (model prog w) A (Builtin.«zip.__next__» ⟨[.ref z],[]⟩) (fun fin s'=>∃v,fin=.done (.ret v)/\Q v s') E s:=by
 obtain⟨bp,vC,L,O⟩:=Z;show wpAny _ _ (field (.ref z) 2 >>= _) _ _ _;refine aN (gM bp rfl (x:=.bool false) rfl ?_);show wpAny _ _ (field (.ref z) 3 >>= _) _ _ _;refine aN (gM bp rfl (x:=.ref TI) rfl ?_);refine aN (wpAny_seqItems vC rfl ?_);show wpAny _ _ (Builtin.SmallTypes.ownedTupleIsFree (.ref z) >>= _) _ _ _;refine aN ?_;unfold Builtin.SmallTypes.ownedTupleIsFree;refine aN (gM bp rfl (x:=.none) rfl (bO ?_));simp only[if_true];refine aN (wpAny_rule ?_);refine aN (gM bp rfl (x:=.ref bT) rfl ?_);refine aN (wpAny_setField_rec bp (by simp) fun cY oW hG=>?_)
 replace oW:IsZip cY z TI bT .ellipsis:=oW
 refine aN ?_;simp only[List.zipIdx_cons,List.zipIdx_nil,List.forIn_cons,List.forIn_nil];refine aN (aN (wpAny_onRaise ?_));show wpAny _ _ (Builtin.SmallTypes.nextOf (.ref bM) >>= _) _ _ _;have I1:∀c o,c≠z->s.heap.get? c=some o->cY.get? c=some o:=fun c o cr e=>hG.extBut _ _ cr e;refine aN (TV (L.extBut hG.extBut D.c) (aO cY fun c o cr J J J e=>I1 c o cr e).1 hx fun h₂ Pq nh=>bO ?_);have HF:IsPair h₂ bT a b:=nh.extBut _ _ D.h (hG.extBut _ _ D.b Ac);refine aN (wpAny_seqItems HF rfl ?_);refine aN (wpAny_updateSeq_pair HF fun kL Ad ni=>?_)
 replace Ad:IsPair kL bT x b:=Ad
 refine aN (wpAny_letGo (bO ?_));refine aN (aN (wpAny_onRaise ?_));show wpAny _ _ (Builtin.SmallTypes.nextOf (.ref ct) >>= _) _ _ _;have I2:∀c o,c≠z->c≠bT->c≠bM->s.heap.get? c=some o->kL.get? c=some o:=fun c o cr fJ l3 e=>ni.extBut _ _ fJ (nh.extBut _ _ l3 (I1 c o cr e))
 refine aN (wpAny_nextOf_list_item (((O.extBut hG.extBut D.d).extBut nh.extBut D.j.symm).extBut ni.extBut D.i.symm)
  (aO kL fun c o cr fJ l3 J e=>I2 c o cr fJ l3 e).2 hy fun AF Pt sK=>bO ?_)
 have HG:IsPair AF bT x b:=sK.extBut _ _ D.i Ad;refine aN (wpAny_seqItems HG rfl ?_);refine aN (wpAny_updateSeq_pair HG fun jf vD sL=>?_)
 replace vD:IsPair jf bT x y:=vD
 refine aN (wpAny_letGo (bO (bO ?_)));refine aN (wpAny_seqItems vD rfl ?_);refine aN (wpAny_newTuple ?_)
 have hsz:jf.objs.size=s.heap.objs.size:=by rw[sL.1,sK.1,ni.1,nh.1,hG.1]
 have Ij:IsZip jf z TI bT .ellipsis:=sL.extBut _ _ D.b.symm (sK.extBut _ _ D.d.symm (ni.extBut _ _ D.b.symm (nh.extBut _ _ D.c.symm oW)))
 have Qr:∀c o,c≠z->c≠bT->c≠bM->c≠ct->s.heap.get? c=some o->jf.get? c=some o:=fun c o cr fJ l3 oa e =>
  sL.extBut _ _ fJ (sK.extBut _ _ oa (I2 c o cr fJ l3 e))
 have Pr:jf.IsTupleIter bM t (k+1):=((Pq.extBut ni.extBut D.h.symm).extBut sK.extBut D.j).extBut sL.extBut D.h.symm;have Pu:jf.IsListIter ct l (k+1):=Pt.extBut sL.extBut D.i.symm;have Ih:z<jf.objs.size:=fi Ij;show wpAny _ _ (Builtin.SmallTypes.ownedTupleHandOut (.ref z) (.ref jf.objs.size) >>= _) _ _ _;refine aN ?_;unfold Builtin.SmallTypes.ownedTupleHandOut;have Rh:IsZip (jf.push { cls:=.type "tuple",data:=.seq #[x,y] }) z TI bT .ellipsis:=c8 _ Ij;refine aN (wpAny_setField_rec Rh (by simp) fun Ik AE H6=>?_)
 replace AE:IsZip Ik z TI bT (rawInt jf.objs.size):=AE
 refine wpAny_setField_rec AE (by simp) fun sP vV H7=>?_
 replace vV:IsZip sP z TI bT (rawInt jf.objs.size):=vV
 have up:∀c o,c≠z->jf.get? c=some o->sP.get? c=some o:=fun c o cr e=>H7.extBut _ _ cr (H6.extBut _ _ cr (c8 _ e));have HI:IsPair sP jf.objs.size x y:=H7.extBut _ _ (dc Ih) (H6.extBut _ _ (dc Ih) (eJ _ rfl));rw[hsz]at vV HI;refine bO ⟨_,rfl,?_⟩;show Q (.ref jf.objs.size) _;rw[hsz];have ck:∀c o,c≠z->c≠bT->c≠bM->c≠ct->s.heap.get? c=some o->sP.get? c=some o:=fun c o cr fJ l3 oa e=>up c o cr (Qr c o cr fJ l3 oa e);exact a7 sP ⟨vV,ck _ _ D.a D.e D.f D.g vC,Cd Pr fun o e=>up _ o D.c e,A2 Pu fun o e=>up _ o D.d e⟩ (up _ _ D.b vD) HI ck
theorem Yn{t l:Addr}{k:Nat}{xs:Array Value}{Q:Fin->Shared->Prop}(aR:A.handled=none)(D:pV z TI bT bM ct)(Z:jw s.heap z TI bT bM ct t l k .none)
  (aO:∀h':Heap,(∀c o,c≠z->c≠bM->s.heap.get? c=some o->h'.get? c=some o)->h'.IsTuple t xs) (hx:xs[k]?=none)
  (gB:∀(h':Heap) (e:Addr),(∀c o,c≠z->c≠bM->s.heap.get? c=some o->h'.get? c=some o)->(∃o,h'.get? e=some o/\o.cls=.type "StopIteration")->E (.ref e) { s with heap:=h' }) :
  wpAny (model prog w) A (Builtin.«zip.__next__» ⟨[.ref z],[]⟩) Q E s:=by
 obtain⟨bp,vC,L,O⟩:=Z;show wpAny _ _ (field (.ref z) 2 >>= _) _ _ _;refine aN (gM bp rfl (x:=.bool false) rfl ?_);show wpAny _ _ (field (.ref z) 3 >>= _) _ _ _;refine aN (gM bp rfl (x:=.ref TI) rfl ?_);refine aN (wpAny_seqItems vC rfl ?_);show wpAny _ _ (Builtin.SmallTypes.ownedTupleIsFree (.ref z) >>= _) _ _ _;refine aN ?_;unfold Builtin.SmallTypes.ownedTupleIsFree;refine aN (gM bp rfl (x:=.none) rfl (bO ?_));simp only[if_true];refine aN (wpAny_rule ?_);refine aN (gM bp rfl (x:=.ref bT) rfl ?_);refine aN (wpAny_setField_rec bp (by simp) fun cY oW hG=>?_)
 replace oW:IsZip cY z TI bT .ellipsis:=oW
 refine aN ?_;simp only[List.zipIdx_cons,List.zipIdx_nil,List.forIn_cons,List.forIn_nil];refine aN (aN (wpAny_onRaise ?_));show wpAny _ _ (Builtin.SmallTypes.nextOf (.ref bM) >>= _) _ _ _;refine aN (TU aR (L.extBut hG.extBut D.c) (aO cY fun c o cr J e=>hG.extBut _ _ cr e) hx fun h₂ e nh he=>?_);refine az he fun fu Av HL=>?_;have Ii:IsZip h₂ z TI bT .ellipsis:=nh _ _ D.c.symm oW
 have Qc:e≠z:=fun x=>by subst x;rw[Ii]at Av;cases Av;simp at HL
 exact wpAny_setField_rec Ii (by simp) fun kL J ni=>gB kL e (fun c o cr l3 x=>ni.extBut _ _ cr (nh _ _ l3 (hG.extBut _ _ cr x))) ⟨fu,ni.extBut _ _ Qc Av,HL⟩
theorem Yq{t l:Addr}{k:Nat}{xs ys:Array Value}{x a b:Value}{Q:Option Value->Shared->Prop}(D:pV z TI bT bM ct)(Z:jw s.heap z TI bT bM ct t l k .none)(Ac:IsPair s.heap bT a b)
  (aO:∀h':Heap,(∀c o,c≠z->c≠bT->c≠bM->c≠ct->s.heap.get? c=some o->h'.get? c=some o)->h'.IsTuple t xs/\h'.IsList l ys) (hx:xs[k]?=some x) (hy:ys[k]?=some y)
  (a7:∀h',jw h' z TI bT bM ct t l (k+1) (rawInt s.heap.objs.size)->IsPair h' bT x y->IsPair h' s.heap.objs.size x y ->
   (∀c o,c≠z->c≠bT->c≠bM->c≠ct->s.heap.get? c=some o->h'.get? c=some o)->Q (some (.ref s.heap.objs.size)) { s with heap:=h' }) :
  wpAny (model prog w) A (pyNext (.ref z)) Q E s:=by
 have dY:s.TypeIs (.ref z) "zip" := ⟨_,Z.z,rfl⟩;unfold pyNext
 exact aN (wpAny_attempt (wpAny_callSpecial?_slot (name:=Str.ofString "__next__") dY F.slot_zip_next
  (wpAny_call_entry F.slot_zip_next dY F.entry_zip_next
   (Yo D Z Ac aO hx hy fun h' aD aU bn dX=>bO (a7 h' aD aU bn dX)) (F.args_zip_next_1 _))))
theorem Yp{t l:Addr}{k:Nat}{xs:Array Value}{Q:Option Value->Shared->Prop}(aR:A.handled=none)(D:pV z TI bT bM ct)(Z:jw s.heap z TI bT bM ct t l k .none)
  (aO:∀h':Heap,(∀c o,c≠z->c≠bM->s.heap.get? c=some o->h'.get? c=some o)->h'.IsTuple t xs) (hx:xs[k]?=none)
  (a7:∀h':Heap,(∀c o,c≠z->c≠bM->s.heap.get? c=some o->h'.get? c=some o)->Q none { s with heap:=h' }):wpAny (model prog w) A (pyNext (.ref z)) Q E s:=by
 have dY:s.TypeIs (.ref z) "zip" := ⟨_,Z.z,rfl⟩;unfold pyNext
 refine aN (wpAny_attempt (wpAny_callSpecial?_slot (name:=Str.ofString "__next__") dY F.slot_zip_next
  (wpAny_call_entry F.slot_zip_next dY F.entry_zip_next (Yn aR D Z aO hx fun h' e hk he=>?_) (F.args_zip_next_1 _))))
 refine az he fun o ho hc=>?_;refine aN (wpAny_isInstance (T := "StopIteration") (b:=true) ⟨o,ho,hc⟩ isSubtype_stop ?_);exact bO (a7 _ hk)
noncomputable abbrev w8(h:Heap)(t:Addr):Heap:=h.push { cls:=.type "tuple_iterator",data:=.fields #[.ref t,.int 0 0] }
noncomputable abbrev w9(h:Heap)(t l:Addr):Heap:=(w8 h t).push { cls:=.type "list_iterator",data:=.fields #[.ref l,.int 0 0] }
noncomputable abbrev xa(h:Heap)(t l:Addr):Heap:=(w9 h t l).push { cls:=.type "tuple",data:=.seq #[.ref h.objs.size,.ref (w8 h t).objs.size] }
noncomputable abbrev xb(h:Heap)(t l:Addr):Heap:=(xa h t l).push { cls:=.type "tuple",data:=.seq #[.none,.none] }
noncomputable abbrev rn(h:Heap)(t l:Addr):Heap:=(xb h t l).push { cls:=.type "zip",data:=.fields #[.none,.bool false,.bool false,.ref (w9 h t l).objs.size,.ref (xa h t l).objs.size] }
theorem S4(t l:Addr)(xs ys:Array Value) :
  Meets (Builtin.«zip.__new__» ⟨[.type "zip",.ref t,.ref l],[]⟩) (fun J aq s=>s.heap.IsTuple t xs/\s.heap.IsList l ys ∧
   aq (.ok (.ret (.ref (xb s.heap t l).objs.size))) { s with heap:=rn s.heap t l }):=
 .of_wp fun prog w A aq s h=>by
  obtain⟨hp,g,d,tk,os⟩:=s;refine d4 h fun ly lz h=>?_;have vR:=sub_zip;have PB:Heap.IsTuple (Shared.heap ⟨hp,g,d,tk,os⟩) t xs:=ly;have PC:Heap.IsList (Shared.heap ⟨hp.push { cls:=.type "tuple_iterator",data:=.fields #[.ref t,.int 0 0] },g,d,tk,os⟩) l ys:=Heap.IsList.push lz _
  wp_walk using wpAny_pyIter_tuple PB,wpAny_pyIter_list PC
  exact⟨_,rfl,h⟩
theorem M1{t l:Addr}{xs ys:Array Value}(ly:s.heap.IsTuple t xs)(lz:s.heap.IsList l ys)
  (h:∀h',jw h' (s.heap.objs.size+4) (s.heap.objs.size+2) (s.heap.objs.size+3) s.heap.objs.size (s.heap.objs.size+1) t l 0 .none->IsPair h' (s.heap.objs.size+3) .none .none ->
   (∀c o,s.heap.get? c=some o->h'.get? c=some o)->Q (.ref (s.heap.objs.size+4)) { s with heap:=h' }) :
  wpAny (model prog w) A (call (.type "zip") [.ref t,.ref l]) Q E s:=by
 refine callType_new F.called_zip (by decide) (F.typeCall_zip_2 _ _) (F.newCall_zip_2 _ _) (fun obj=>F.args_object_init_3 obj _ _) F.entry_zip_new
  (S4 t l xs ys) ⟨ly,lz,?_⟩
 have dM:(w8 s.heap t).objs.size=s.heap.objs.size+1:=Heap.size_push ..
 have ef:(w9 s.heap t l).objs.size=s.heap.objs.size+2:=by rw[Heap.size_push,dM]
 have pC:(xa s.heap t l).objs.size=s.heap.objs.size+3:=by rw[Heap.size_push,ef]
 have rk:(xb s.heap t l).objs.size=s.heap.objs.size+4:=by rw[Heap.size_push,pC]
 have zV:(rn s.heap t l).get? (xb s.heap t l).objs.size=some _:=eJ _ rfl;have Hf:(rn s.heap t l).get? (xa s.heap t l).objs.size=some _:=c8 _ (eJ _ rfl);have g3:(rn s.heap t l).get? (w9 s.heap t l).objs.size=some _:=c8 _ (c8 _ (eJ _ rfl));have g2:(rn s.heap t l).get? (w8 s.heap t).objs.size=some _:=c8 _ (c8 _ (c8 _ (eJ _ rfl)));have g1:(rn s.heap t l).get? s.heap.objs.size=some _:=c8 _ (c8 _ (c8 _ (c8 _ (eJ _ rfl))));show _/\_;rw[ef,pC,rk]at zV;rw[dM,ef]at g3;rw[pC]at Hf;rw[dM]at g2;rw[rk]
 exact⟨⟨_,zV,rfl⟩,h _ ⟨zV,g3,⟨_,g1,rfl,rfl⟩,⟨_,g2,rfl,rfl⟩⟩ Hf fun c o x =>
  c8 _ (c8 _ (c8 _ (c8 _ (c8 _ x))))⟩
end
theorem BH{v xs:Array Value}{c:Value}(V:h.get? a=some { cls:=c,data:=.seq xs n })(ak:h.get? b=some o)(hd:o.data=.fields v):a≠b:=fun q=>by
 rw[q,ak]at V;rw[oi V]at hd;contradiction
theorem aq.but2{x:Value}(r:aq hb h σ α)(a8:σ[j]?=some .tp)(eT:α.ix[j]?=some bT)(aF:IsPair h' bT x y)(bd:∀b∈own,b∉α.all)(gD:∀b∈own,hb.get? b=none)
  (k:∀b o,b∉own->b≠bT->h.get? b=some o->h'.get? b=some o) (hs:∀b∈own,∀o,h.get? b=some o->¬kA o/\¬gX o):aq hb h' σ α/\a4 own α h α h':=by
 have o5:bT∈α.ix:=eI eT
 have al:∀b o,b∉own->h.get? b=some o->∃aP,h'.get? b=some aP:=fun b o bU e=>by
  by_cases q:b=bT
  ·subst q;exact⟨_,aF⟩
  ·exact⟨o,k b o bU q e⟩
 have z:a4 own α h α h':=⟨rfl,⟨[],by simp,fun J hx=>(nomatch hx)⟩,fun b o hb e q=>k b o (fun z=>(hs b z o e).1 q) (fun z=>hb (z▸o5)) e,fun b o hb bU e=>.inl (k b o bU (fun z=>hb (z▸o5)) e),al,rfl⟩;refine⟨⟨fun b o e=>k b o (fun q=>by rw[gD b q]at e;contradiction) (fun q=>by rw[q,r.fresh _ o5]at e;contradiction) (r.base b o e),r.fresh,r.nodup,r.len,fun b hb=>⟨(r.hidden b hb).1,?_⟩,fun i m a V ak=>?_,r.hfr,r.fe,fun b hb=>⟨(r.frs b hb).1,?_⟩,r.frNot⟩,z⟩
 ·refine aM ((r.hidden b hb).2) fun o e=>?_;exact al b o (fun q=>bd b q (e6 _ hb)) e
 ·by_cases q:a=bT
  ·subst q;obtain rfl:=(List.getElem?_inj (dS ak).1 r.nodup).mp (ak.trans eT.symm);obtain rfl:=oi (a8.symm.trans V);exact⟨x,y,aF⟩
  ·refine aM (r.live (eI ak)) fun aP nw=>?_;exact(r.obj i m a V ak).ext z (by rw[nw,k a aP (fun q=>ay.not_ix (bd a q) (eI ak)) q nw])
 ·obtain⟨_,o,e,d⟩:=r.frs b hb;exact⟨o,k b o (fun q=>(hs b q o e).2 d) (fun q=>r.frNot b hb (q▸o5)) e,d⟩
theorem Yk:∀{xs ys:List H} {i:Nat} {p:H},(mO xs ys)[i]?=some p->∃a b,xs[i]?=some a/\ys[i]?=some b/\p=.tup [a,b]:=by
 intro xs
 induction xs with
 | nil=>intro ys i p h;cases ys <;> contradiction
 | cons x xs ao =>
  intro ys i p h
  cases ys with
  | nil=>contradiction
  | cons y ys =>
   cases i with
   | zero=>obtain rfl:=oi h;exact⟨x,y,rfl,rfl,rfl⟩
   | succ i=>exact ao (i:=i) h
theorem Yl:∀{xs ys:List H},xs.length=ys.length->(mO xs ys).length=xs.length:=by
 intro xs
 induction xs with
 | nil=>intro ys h;cases ys <;> rfl
 | cons x xs ao =>
  intro ys h
  cases ys with
  | nil=>contradiction
  | cons y ys=>exact congrArg Nat.succ (ao (Nat.succ.inj h))
structure LO(z TI bT bM ct t l:Addr)(j:Nat)(xs ys:List H)(i:Nat)(h:Heap)(α:ay):Prop where
 Z:jw h z TI bT bM ct t l i .none
 eT:α.ix[j]?=some bT
 nT:TI∉α.all
 nz:z∉α.all
 n1:bM∉α.all
 n2:ct∉α.all
 vt:aj h α (.tup xs) (.ref t)
 vl:aj h α (.fl ys) (.ref l)
theorem gH.zip(aR:A.handled=none){t l:Addr}(D:pV z TI bT bM ct)(hl:xs.length=ys.length)(hb:∀b∈[z,bM,ct],K.hb.get? b=none) :
  gH K A true [z,bM,ct] (.ref z) (mO xs ys) (some (j,.tp)) (LO z TI bT bM ct t l j xs ys):=by
 have py:∀{P:Addr->Prop},P z->P bM->P ct->∀b∈[z,bM,ct],P b:=fun{P} L O ax b hb=>by
  rcases cE.mp hb with rfl | hb
  ·exact L
  ·rcases cE.mp hb with rfl | hb
   ·exact O
   ·exact(df.mp hb).symm▸ax
 have pw:∀{h:Heap} {n:Nat} {lr:Value},jw h z TI bT bM ct t l n lr->∀b∈[z,bM,ct],∀o,h.get? b=some o->¬kA o/\¬gX o:=fun{h n lr} Z=>py
  (fun o q=>by rw[Z.z]at q;obtain rfl:=oi q;exact⟨iS rfl rfl,iR rfl⟩)
  (fun o q=>by refine bL Z.it fun aP aF cy fo=>?_;rw[aF]at q;obtain rfl:=oi q;exact⟨iS fo cy,iR fo⟩)
  (fun o q=>by refine bL Z.il fun aP aF cy fo=>?_;rw[aF]at q;obtain rfl:=oi q;exact⟨iS fo cy,iR fo⟩)
 have apart:∀{h:Heap} {n:Nat} {lr:Value} {a:Addr} {c:Value} {us:Array Value} {m:Nat},jw h z TI bT bM ct t l n lr->h.get? a=some { cls:=c,data:=.seq us m }->∀b∈[z,bM,ct],a≠b:=fun{h n lr a c us m} Z e=>py (BH e Z.z rfl)
  (by refine bL Z.it fun aP aF cy fo=>?_;exact BH e aF fo) (by refine bL Z.il fun aP aF cy fo=>?_;exact BH e aF fo)
 refine⟨fun i h α st=>?_,fun i h α st=>py st.nz st.n1 st.n2,fun i F α h α' h' st x bU=>?_,fun i D α h h' st hD k=>?_,fun i D α h st hD=>?_,fun i s σ α p hp st r hw Q E a7=>?_,fun s σ α st r hw Q E a7=>?_,fun i s α st Q E a7=>?_⟩
 ·refine az st.Z.it fun iD V J=>?_;refine az st.Z.il fun bR ak J=>?_;exact py ⟨_,st.Z.z⟩ ⟨iD,V⟩ ⟨bR,ak⟩
 ·obtain⟨Z,eT,nT,nz,n1,n2,vt,vl⟩:=st;obtain⟨xx,CO,⟨iD,V,cr,ja⟩,⟨bR,ak,fJ,m1⟩⟩:=Z
  exact⟨⟨ls xx rfl (x.rest z _ (ay.not_ix nz) (bU z ((bu))) xx),x.seqs TI _ (ay.not_ix nT) CO (.inl ⟨_,_,rfl⟩),⟨iD,ls V ja (x.rest bM iD (ay.not_ix n1) (bU bM ((bQ _ bu))) V),cr,ja⟩,⟨bR,ls ak m1 (x.rest ct bR (ay.not_ix n2) (bU ct (by simp)) ak),fJ,m1⟩⟩,
   x.get eT,x.notAll nT CO,x.notAll nz xx,x.notAll n1 V,x.notAll n2 ak,vt.ext x,vl.ext x⟩
 ·obtain⟨Z,eT,nT,nz,n1,n2,vt,vl⟩:=st;refine⟨Z.keep fun b hb o e=>(k b fun q=>?_).trans e,eT,nT,nz,n1,n2,vt.sameBut hD k,vl.sameBut hD k⟩;subst q
  rcases hb with rfl | rfl | rfl | rfl
  ·exact nz hD
  ·exact nT hD
  ·exact n1 hD
  ·exact n2 hD
 ·obtain⟨Z,eT,nT,nz,n1,n2,vt,vl⟩:=st;refine az Z.it fun iD V J=>?_;refine az Z.il fun bR ak J=>?_;exact⟨Z,eT,ay.not_hide hD Z.ti nT,ay.not_hide hD Z.z nz,ay.not_hide hD V n1,ay.not_hide hD ak n2,vt.hide hD,vl.hide hD⟩
 ·obtain⟨Z,eT,nT,nz,n1,n2,vt,vl⟩:=st;have hw:σ[j]?=some .tp:=hw;refine l7 (Yk hp) fun q1 q2 L O ag=>?_;obtain rfl:=ag;obtain⟨bt,us,n,aO,V,hn,w⟩:=vt.tupE;cases aO;obtain⟨jj,ws,m,ql,ak,hm,g4⟩:=vl.flE;cases ql;refine az (w.get L) fun u hu hv=>?_;refine az (g4.get O) fun jo Q5 oT=>?_;refine jb (r.obj j _ bT hw eT) fun g5 h9 xY=>?_;have o5:bT∈α.all:=hj _ (eI eT);have aD:=apart Z V;have aU:=apart Z ak;refine Yq D Z xY (xs:=us.toArray) (ys:=ws.toArray) (fun h' k=>⟨qv (s:={ s with heap:=h' }) (k t _ (aD z ((bu))) (fun q=>hn (q▸o5)) (aD bM ((bQ _ bu))) (aD ct (by simp)) V),gY (s:={ s with heap:=h' }) (k l _ (aU z ((bu))) (fun q=>hm (q▸o5)) (aU bM ((bQ _ bu))) (aU ct (by simp)) ak)⟩) (by simpa using hu) (by simpa using Q5) fun h' rB KZ dY k=>?_;obtain⟨aJ,x⟩:=r.but2 (h':=h') hw eT KZ (py nz n1 n2) hb (fun b o hb PH=>k b o (fun z=>hb (by simp[z])) PH (fun z=>hb (by simp[z])) (fun z=>hb (by simp[z]))) (pw Z)
  have fresh:s.heap.objs.size∉α.all:=fun z=>by
   refine aM (r.liveAll z) fun o e=>?_;exact absurd (fi e) (Nat.lt_irrefl _)
  have lS:aj h' α (.tup [q1,q2]) (.ref s.heap.objs.size):=aj.tupI (items:=[u,jo]) dY fresh #v[(hv.ext x),(oT.ext x)];refine a7 _ _ lS (fun z=>by contradiction) ?_ x aJ ⟨rfl,rfl⟩;intro m4 ck pos nZ dP Ab;refine wpAny_letOwnedTupleGo_zip (s:={ s with heap:=h' }) rB.z fun h₂ ak fT=>?_;obtain⟨r2,bz⟩:=aJ.but2 (h':=h₂) hw eT ((fT.2 bT D.b).trans KZ) (py nz n1 n2) hb (fun b o hb J q=>(fT.2 b (fun z=>hb (by simp[z]))).trans q) (pw rB);exact Ab _ ⟨lS.ext bz,⟨⟨ak,(fT.2 TI D.a).trans rB.ti,Cd rB.it fun o e=>(fT.2 bM D.c).trans e,A2 rB.il fun o e=>(fT.2 ct D.d).trans e⟩,eT,nT,nz,n1,n2,(vt.ext x).ext bz,(vl.ext x).ext bz⟩,bz,r2,⟨rfl,rfl⟩⟩
 ·obtain⟨Z,eT,nT,nz,n1,n2,vt,vl⟩:=st;have hw:σ[j]?=some .tp:=hw;obtain⟨bt,us,n,aO,V,hn,w⟩:=vt.tupE;cases aO;refine jb (r.obj j _ bT hw eT) fun g5 h9 xY=>?_;have aD:=apart Z V;refine Yp (xs:=us.toArray) aR D Z (fun h' k=>qv (s:={ s with heap:=h' }) (k t _ (aD z ((bu))) (aD bM ((bQ _ bu))) V)) (by simp[Yl hl,w.1]) fun h' k=>?_;obtain⟨aJ,x⟩:=r.but2 (h':=h') hw eT (k bT _ D.b D.h xY) (py nz n1 n2) hb (fun b o hb J=>k b o (fun z=>hb (by simp[z])) (fun z=>hb (by simp[z]))) (pw Z);exact a7 _ x aJ ⟨rfl,rfl⟩
 ·exact wpAny_pyIter_zip st.Z.z a7
theorem ay.not_add(h:b∉α.all)(hD:b≠D):b∉(α.add D).all:=fun q=>by
 rcases dH.mp q with q | q
 ·rcases dH.mp q with q | q
  ·exact h (hj _ q)
  ·exact hD (df.mp q)
 ·exact h (e6 _ q)
theorem Yj(n:Nat):pV (n+4) (n+2) (n+3) n (n+1):=
 have h:∀a b:Nat,a≠b->(n+a:Nat)≠n+b:=fun a b h q=>h (Nat.add_left_cancel q)
 ⟨h 2 4 (by decide),h 3 4 (by decide),h 0 4 (by decide),h 1 4 (by decide),h 2 3 (by decide),h 2 0 (by decide),h 2 1 (by decide),h 3 0 (by decide),h 3 1 (by decide),h 0 1 (by decide)⟩
theorem Yh{a b:H}(h:rm a b σ≠.stuck)(k:∀xs ys,a=.tup xs->b=.fl ys->xs.length=ys.length->rm a b σ=.ok (mO xs ys,some (σ.length,.tp)) (σ++[.tp])->P):P:=by
 cases a with
 | tup xs =>
  cases b with
  | fl ys =>
   have bP:rm (.tup xs) (.fl ys) σ=if xs.length=ys.length/\ys.length<=aI then .ok (mO xs ys,some (σ.length,.tp)) (σ++[.tp])else .stuck:=rfl
   by_cases hl:xs.length=ys.length/\ys.length<=aI
   ·exact k xs ys rfl rfl hl.1 (bP.trans (aE hl))
   ·exact absurd (bP.trans (a5 hl)) h
  | _=>exact absurd rfl h
 | _=>exact absurd rfl h
theorem R4{a b:H}{x:Value}(aR:A.handled=none)(r:aq K.hb s.heap σ α)(aA:aj s.heap α a x)(br:aj s.heap α b y)(hc:rm a b σ≠.stuck) :
  wpAny (model K.prog K.w) A (call (.type "zip") [x,y]) (fun y s₁=>wpAny (model K.prog K.w) A (pyIter y) (gu K A true (rm a b σ) s α) E s₁) E s:=by
 refine Yh hc fun xs ys ha hb hl e=>?_;subst ha hb;rw[e];obtain⟨t,us,n,rfl,V,hn,w⟩:=aA.tupE;obtain⟨l,ws,m,rfl,ak,hm,g4⟩:=br.flE;refine M1 (qv V) (gY ak) fun h' Z tp k=>wpAny_pyIter_zip (s:={ s with heap:=h' }) Z.z ?_
 have out:∀i,s.heap.get? (s.heap.objs.size+i)=none/\s.heap.objs.size+i∉α.all/\K.hb.get? (s.heap.objs.size+i)=none:=fun i=>by
  have hM:s.heap.get? (s.heap.objs.size+i)=none:=by
   cases q:s.heap.get? (s.heap.objs.size+i)with
   | none=>rfl
   | some o=>exact absurd (fi q) (Nat.not_lt.mpr (fh _ _))
  refine⟨hM,fun z=>?_,?_⟩
  ·refine aM (r.liveAll z) fun o e=>?_;rw[hM]at e;contradiction
  ·cases q:K.hb.get? (s.heap.objs.size+i)with
   | none=>rfl
   | some o=>rw[r.base _ _ q]at hM;contradiction
 have D:=Yj s.heap.objs.size;refine aW (r.add (D:=s.heap.objs.size+3) (m:=.tp) k (out 3).1 ⟨_,_,tp⟩) fun aJ x=>?_
 have own:∀b∈[s.heap.objs.size+4,s.heap.objs.size,s.heap.objs.size+1],s.heap.get? b=none/\K.hb.get? b=none:=fun b hb=>by
  rcases cE.mp hb with rfl | hb
  ·exact⟨(out 4).1,(out 4).2.2⟩
  ·rcases cE.mp hb with rfl | hb
   ·exact⟨(out 0).1,(out 0).2.2⟩
   ·exact(df.mp hb).symm▸(⟨(out 1).1,(out 1).2.2⟩)
 refine⟨_,_,_,_,_,_,rfl,x,aJ,⟨rfl,rfl⟩,.zip (t:=t) (l:=l) aR D hl fun b hb=>(own b hb).2,⟨Z,?_,ay.not_add (out 2).2.1 D.e,ay.not_add (out 4).2.1 D.b.symm,ay.not_add (out 0).2.1 D.h.symm,ay.not_add (out 1).2.1 D.i.symm,aA.ext x,br.ext x⟩,own⟩;show(α.ix++[s.heap.objs.size+3])[σ.length]?=_;rw[r.len,hP (dz _),Nat.sub_self];rfl
theorem aq.buts(r:aq hb h σ α)(bd:∀b∈own,b∉α.all)(gD:∀b∈own,hb.get? b=none)(k:∀b o,b∉own->h.get? b=some o->h'.get? b=some o)
  (hs:∀b∈own,∀o,h.get? b=some o->¬kA o/\¬gX o):aq hb h' σ α/\a4 own α h α h':=by
 have x:a4 own α h α h':=⟨rfl,⟨[],by simp,fun J hx=>(nomatch hx)⟩,fun b o hb e q=>k b o (fun z=>(hs b z o e).1 q) e,fun b o hb bU e=>.inl (k b o bU e),fun b o bU e=>⟨o,k b o bU e⟩,rfl⟩;refine⟨⟨fun b o e=>k b o (fun q=>by rw[gD b q]at e;contradiction) (r.base b o e),r.fresh,r.nodup,r.len,fun b hb=>⟨(r.hidden b hb).1,?_⟩,fun j m a V ak=>?_,r.hfr,r.fe,fun b hb=>⟨(r.frs b hb).1,?_⟩,r.frNot⟩,x⟩
 ·refine aM ((r.hidden b hb).2) fun o e=>?_;exact⟨o,k b o (fun q=>bd b q (e6 _ hb)) e⟩
 ·refine aM (r.live (eI ak)) fun aP aF=>?_;exact(r.obj j m a V ak).ext x (by rw[aF,k a aP (fun q=>ay.not_ix (bd a q) (eI ak)) aF])
 ·obtain⟨_,o,e,d⟩:=r.frs b hb;exact⟨o,k b o (fun q=>(hs b q o e).2 d) e,d⟩
structure mS(K:a3)(l:Addr)(xs:List H)(wt:Option (Nat×aV))(aG:Heap->ay->Prop):Prop where
 frame:∀{F:List Addr} {α α':ay} {h h':Heap},aG h α->a4 F α h α' h'->aG h' α'
 but:∀{D:Addr} {α:ay} {h h':Heap},aG h α->D∈α.all->(∀b,b≠D->h'.get? b=h.get? b)->aG h' α
 hide:∀{D:Addr} {α:ay} {h:Heap},aG h α->h.get? D=none->aG h ⟨α.ix,D::α.hid,α.fr⟩
 has:∀{s:Shared} {σ:af} {α:ay},aG s.heap α->aq K.hb s.heap σ α->iG wt σ->∃(vs:List Value) (n:Nat),s.heap.get? l=some { cls:=.type "list",data:=.seq vs.toArray n }/\bj s.heap α xs vs
theorem mS.fl{l:Addr}:mS K l xs none (fun h α=>aj h α (.fl xs) (.ref l)) where
 frame v x:=v.ext x
 but v hD k:=v.sameBut hD k
 hide v hD:=v.hide hD
 has v r _:=by obtain⟨jj,vs,n,hl,V,hn,w⟩:=v.flE;cases hl;exact⟨vs,n,V,w⟩
theorem mS.ref{l:Addr}:mS K l xs (some (j,.lst xs)) (fun h α=>α.ix[j]?=some l) where
 frame v x:=x.get v
 but v _ _:=v
 hide v _:=v
 has v r wt:=by refine c1 (r.obj j _ l wt v) fun vs n V w=>?_;exact⟨vs,n,V,w⟩
theorem T8:∀{xs:List H} {k i:Nat} {p:H},(kR k xs)[i]?=some p->∃q,xs[i]?=some q/\p=.tup [.int ((k+i:Nat):Int),q]:=by
 intro xs
 induction xs with
 | nil=>intro k i p h;contradiction
 | cons x xs ao =>
  intro k i p h
  cases i with
  | zero=>obtain rfl:=oi h;exact⟨x,rfl,rfl⟩
  | succ i =>
   refine az (ao (k:=k+1) (i:=i) h) fun q L O=>?_;exact⟨q,L,by rw[O,show k+1+i=k+(i+1) by grind]⟩
theorem T9:∀{xs:List H} {k:Nat},(kR k xs).length=xs.length:=by
 intro xs
 induction xs with
 | nil=>intro k;rfl
 | cons x xs ao=>intro k;exact congrArg Nat.succ ao
theorem gH.enum(aR:A.handled=none){e it l:Addr}{aG:Heap->ay->Prop}(lg:mS K l xs wt aG)(de:e≠it)(Ai:K.hb.get? e=none)(nf:K.hb.get? it=none) :
  gH K A true [e,it] (.ref e) (kR 0 xs) wt (fun i h α=>(∃hJ,IsEnum h e it ((i:Nat):Int) hJ)/\h.IsListIter it l i/\e∉α.all/\it∉α.all/\aG h α):=by
 have two:∀{P:Addr->Prop},P e->P it->∀b∈[e,it],P b:=fun{P} L O b hb=>by
  rcases cE.mp hb with rfl | hb
  ·exact L
  ·exact(df.mp hb).symm▸O
 have pw:∀{h:Heap} {i:Int} {n:Nat} {hJ ff:Value},h.get? e=some { cls:=.type "enumerate",dict:=none,data:=.fields #[ff,.bool false,.ref it,rawInt i,.none,hJ],slots:=#[] }->h.IsListIter it l n->∀b∈[e,it],∀o,h.get? b=some o->¬kA o/\¬gX o:=fun{h i n hJ ff} he hi=>two
  (fun o q=>by rw[he]at q;obtain rfl:=oi q;exact⟨iS rfl rfl,iR rfl⟩)
  (fun o q=>by refine bL hi fun aP aF cy fo=>?_;rw[aF]at q;obtain rfl:=oi q;exact⟨iS fo cy,iR fo⟩)
 refine⟨fun i h α st=>?_,fun i h α st=>two st.2.2.1 st.2.2.2.1,fun i F α h α' h' st x bU=>?_,fun i D α h h' st hD k=>?_,fun i D α h st hD=>?_,fun i s σ α p hp st r hw Q E a7=>?_,fun s σ α st r hw Q E a7=>?_,fun i s α st Q E a7=>?_⟩
 ·obtain⟨⟨hJ,en⟩,⟨o,gV,_⟩,_⟩:=st;exact two ⟨_,en⟩ ⟨o,gV⟩
 ·obtain⟨⟨hJ,en⟩,⟨o,gV,hc,hd⟩,he,hi,iW⟩:=st;exact⟨⟨hJ,ls en rfl (x.rest e _ (ay.not_ix he) (bU e ((bu))) en)⟩,⟨o,ls gV hd (x.rest it o (ay.not_ix hi) (bU it ((bQ _ bu))) gV),hc,hd⟩,x.notAll he en,x.notAll hi gV,lg.frame iW x⟩
 ·obtain⟨⟨hJ,en⟩,⟨o,gV,hc,hd⟩,he,hi,iW⟩:=st;exact⟨⟨hJ,(k e (fun q=>he (q▸hD))).trans en⟩,⟨o,(k it (fun q=>hi (q▸hD))).trans gV,hc,hd⟩,he,hi,lg.but iW hD k⟩
 ·obtain⟨⟨hJ,en⟩,⟨o,gV,hc,hd⟩,he,hi,iW⟩:=st;exact⟨⟨hJ,en⟩,⟨o,gV,hc,hd⟩,ay.not_hide hD en he,ay.not_hide hD gV hi,lg.hide iW hD⟩
 ·obtain⟨⟨hJ,en⟩,bZ,he,hi,iW⟩:=st;refine az (T8 hp) fun q hq ag=>?_;obtain rfl:=ag;refine c1 (lg.has iW r hw) fun vs n V w=>?_;refine az (w.get hq) fun u hu hv=>?_;refine wpAny_pyNext_enum_item en bZ (gY V) (by simpa using hu) de fun h' gV fq aO bp hk=>?_;obtain⟨aJ,x⟩:=r.buts (h':=h') (two he hi) (two Ai nf) (fun b o hb=>hk b o (fun z=>hb (by simp[z])) (fun z=>hb (by simp[z]))) (pw en bZ)
  have fresh:s.heap.objs.size∉α.all:=fun z=>by
   refine aM (r.liveAll z) fun o e=>?_;exact absurd (fi e) (Nat.lt_irrefl _)
  have vt:aj h' α (.tup [.int ((0+i:Nat):Int),q]) (.ref s.heap.objs.size):=by
   rw[ij];exact aj.tupI (items:=[.int i s.toks,u]) aO fresh #v[(.int _ _),(hv.ext x)]
  refine a7 _ _ vt (fun z=>by contradiction) ?_ x aJ ⟨rfl,rfl⟩;intro m4 k pos nZ dP Ab;refine wpAny_letOwnedTupleGo_enum (s:={ s with heap:=h',toks:=s.toks+1 }) gV fun h₂ ak fT=>?_;obtain⟨r2,bz⟩:=aJ.buts (h':=h₂) (two he hi) (two Ai nf) (fun b o hb q=>(fT.2 b (fun z=>hb (by simp[z]))).trans q) (pw gV fq);refine Ab _ ⟨vt.ext bz,⟨⟨u,?_⟩,fq.extBut fT.extBut (Ne.symm de),he,hi,lg.frame (lg.frame iW x) bz⟩,bz,r2,⟨rfl,rfl⟩⟩;rw[show((i+1:Nat):Int)=(i:Int)+1 by grind];exact ak
 ·obtain⟨⟨hJ,en⟩,bZ,he,hi,iW⟩:=st;refine c1 (lg.has iW r hw) fun vs n V w=>?_;refine wpAny_pyNext_enum_end aR en bZ (gY V) (by simp[T9,w.1]) fun h' iT=>?_;obtain⟨aJ,x⟩:=r.buts (h':=h') (two he hi) (two Ai nf) (fun b o hb q=>iT b o (fun z=>hb (by simp[z])) q) (pw en bZ);exact a7 _ x aJ ⟨rfl,rfl⟩
 ·exact wpAny_pyIter_enum st.1.choose_spec a7
theorem IU{l:Addr}{aG:Heap->ay->Prop}(aR:A.handled=none)(lg:mS K l xs wt aG)(iW:aG s.heap α)(r:aq K.hb s.heap σ α)
  (V:s.heap.get? l=some { cls:=.type "list",data:=.seq vs.toArray n }) :
  wpAny (model K.prog K.w) A (call (.type "enumerate") [.ref l]) (fun y s₁=>wpAny (model K.prog K.w) A (pyIter y) (gu K A true (.ok (kR 0 xs,wt) σ) s α) E s₁) E s:=by
 refine call_enumerate_list (gY V) fun h' en bZ bp k=>wpAny_pyIter_enum (s:={ s with heap:=h' }) en ?_
 have JM:s.heap.get? (s.heap.objs.size+1)=none:=by
  cases q:s.heap.get? (s.heap.objs.size+1)with
  | none=>rfl
  | some o=>exact absurd (fi q) (Nat.not_lt.mpr (Nat.le_succ _))
 have out:∀b,s.heap.get? b=none->b∉α.all/\K.hb.get? b=none:=fun b hb=>⟨fun z=>by
  refine aM (r.liveAll z) fun o e=>?_
  rw[hb]at e;contradiction,by
  cases q:K.hb.get? b with
  | none=>rfl
  | some o=>rw[r.base _ _ q]at hb;contradiction⟩
 have hM:=out _ (lK s);have q1:=out _ JM;refine⟨kR 0 xs,wt,σ,α,[s.heap.objs.size+1,s.heap.objs.size],_,rfl,.keeps k,r.keeps k,⟨rfl,rfl⟩,.enum aR lg (Nat.succ_ne_self _) q1.2 hM.2,⟨⟨_,en⟩,bZ,q1.1,hM.1,lg.frame iW (.keeps (F:=[]) k)⟩,fun b hb=>?_⟩
 rcases cE.mp hb with rfl | hb
 ·exact⟨JM,q1.2⟩
 ·exact(df.mp hb).symm▸(⟨lK s,hM.2⟩)
theorem R1{a:H}{x:Value}(aR:A.handled=none)(r:aq K.hb s.heap σ α)(aA:aj s.heap α a x)(hc:ou a σ≠.stuck) :
  wpAny (model K.prog K.w) A (call (.type "enumerate") [x]) (fun y s₁=>wpAny (model K.prog K.w) A (pyIter y) (gu K A true (ou a σ) s α) E s₁) E s:=by
 unfold ou at hc ⊢
 cases a with
 | fl xs =>
  dsimp only[cx,nO]at hc ⊢;by_cases hl:xs.length<=aI
  ·rw[aE hl];obtain⟨l,vs,n,rfl,V,hn,v⟩:=aA.flE;exact IU aR mS.fl aA r V
  ·rw[a5 hl]at hc;exact absurd rfl hc
 | ref i =>
  refine az aA.refE fun l ag dZ=>?_;obtain rfl:=ag
  cases hs:σ[i]? with
  | none=>simp only[cx,hs]at hc;exact absurd rfl hc
  | some m =>
   cases m with
   | lst xs =>
    simp only[cx,nO,hs]at hc ⊢;by_cases hl:xs.length<=aI
    ·rw[aE hl];refine c1 (r.obj i _ l hs dZ) fun vs n V v=>?_;exact IU aR (mS.ref (j:=i)) dZ r V
    ·rw[a5 hl]at hc;exact absurd rfl hc
   | _=>simp only[cx,hs]at hc;exact absurd rfl hc
 | _=>exact absurd rfl hc
structure cR(hb:f8)(env:Env):Prop where
 l:hb.get? env.locals=none
 c:∀x c,env.cells.lookup x=some c->hb.get? c=none
 f:∃aG r,env.frame=some aG/\hb.fr=aG::r
theorem et.sameBut{B:f8}(hD:D∈α.all)(de:a≠D)(k:∀b,b≠D->h'.get? b=h.get? b)(r:et B h α m a):et B h' α m a:=
 r.map (fun J J v=>v.sameBut hD k) (k a de) fun b o hb e J=>⟨(k b (by rintro rfl;exact hb hD)).trans e,hb⟩
theorem a1.sameBut(hD:D∈α.all)(k:∀b,b≠D->h'.get? b=h.get? b)(E:a1 env ρ h α):a1 env ρ h' α:=by
 refine az E.ns fun m n hm=>?_
 have fO:env.locals≠D:=by intro q;exact E.la (q▸hD)
 refine⟨E.ok,E.la,⟨m,?_,fun i x v V ak=>let⟨u,a,b⟩:=hm i x v V ak;⟨u,a,b.sameBut hD k⟩⟩,fun x c hc=>?_,E.cd,fun i x V=>?_,E.inb⟩
 ·refine j8 n fun o es ez e r=>?_;exact⟨o,es,ez,(k _ fO).trans e,r⟩
 ·refine d4 (E.ca x c hc) fun L O bi=>?_;refine c1 bi fun v o e d=>?_;exact⟨L,O,v,o,(k _ (by intro q;exact L (q▸hD))).trans e,d⟩
 ·refine az (E.cv i x V) fun c hc hv=>?_;refine⟨c,hc,fun v ak=>?_⟩;obtain⟨u,⟨o,e,d⟩,b⟩:=hv v ak;exact⟨u,⟨o,(k _ (by intro q;exact(E.ca x c hc).1 (q▸hD))).trans e,d⟩,b.sameBut hD k⟩
theorem aq.sameHid{hb h h' σ α}(r:aq hb h σ α)(hD:D∈α.hid)(hbD:hb.get? D=none)(k:∀b,b≠D->h'.get? b=h.get? b)(al:∃o,h'.get? D=some o)(nd:∀o,h.get? D=some o->¬gX o):aq hb h' σ α:=by
 have nc:=(r.hidden D hD).1;have vz:D∈α.all:=e6 _ hD;refine⟨fun b o e=>(k b (by rintro rfl;rw[hbD]at e;contradiction)).trans (r.base b o e),r.fresh,r.nodup,r.len,fun b gC=>⟨(r.hidden b gC).1,?_⟩,fun j m a V ak=>?_,r.hfr,r.fe,fun b gC=>⟨(r.frs b gC).1,?_⟩,r.frNot⟩
 ·by_cases q:b=D
  ·subst q;exact al
  ·exact(k b q).symm▸((r.hidden b gC).2)
 ·exact(r.obj j m a V ak).sameBut vz (by rintro rfl;exact nc (eI ak)) k
 ·obtain⟨_,o,e,d⟩:=r.frs b gC;exact⟨o,(k b (by rintro rfl;exact nd o e d)).trans e,d⟩
theorem a4.sameBut{F α h α' h' hX}(x:a4 F α h α' h')(hD:h.get? D=none)(k:∀b,b≠D->hX.get? b=h'.get? b):a4 F α h α' hX:=by
 have ne:∀b o,h.get? b=some o->b≠D:=fun b o e q=>by rw[q,hD]at e;contradiction
 refine⟨x.hid,x.pre,fun b o hb e hs=>(k b (ne b o e)).trans (x.seqs b o hb e hs),fun b o hb bU e=>?_,fun b o bU e=>?_,x.fre⟩
 ·rcases x.rest b o hb bU e with q | ⟨f,d,cQ,q⟩
  ·exact .inl ((k b (ne b o e)).trans q)
  ·exact .inr ⟨f,d,cQ,(k b (ne b o e)).trans q⟩
 ·refine aM (x.alive b o bU e) fun aP aF=>?_;exact⟨aP,(k b (ne b o e)).trans aF⟩
theorem a4.rehid{F α h α' h'}(x:a4 F α h α' h')(hid:List Addr):a4 F ⟨α.ix,hid,α.fr⟩ h ⟨α'.ix,hid,α'.fr⟩ h':=
 ⟨rfl,x.pre,x.seqs,x.rest,x.alive,x.fre⟩
noncomputable def mX(names:List (Str×NameKind)):Prop:=∀(i j:Nat) (x:Str) (k bW:NameKind),names[i]?=some (x,k)->names[j]?=some (x,bW)->i=j
theorem qe{v w:H}(e:(ρ.set i (some v))[j]?=some (some w)):(j=i/\w=v)\/(j≠i/\ρ[j]?=some (some w)):=by
 by_cases q:j=i
 ·subst q;rw[List.getElem?_set_self']at e
  cases hq:ρ[j]? with
  | none=>rw[hq]at e;contradiction
  | some o=>rw[hq]at e;simp at e;exact .inl ⟨rfl,e.symm⟩
 ·rw[List.getElem?_set_ne (Ne.symm q)]at e;exact .inr ⟨q,e⟩
theorem Ky{v:H}{Q:Unit->Shared->Prop}{X:Value->Shared->Prop}(jD:mX env.scope.names)(r:aq K.hb s.heap σ α)(E:a1 env ρ s.heap α)(fO:K.hb.get? env.locals=none)
  (hn:env.scope.names[i]?=some (x,.local)) (dq:aj s.heap α v u)
  (a7:∀s',aq K.hb s'.heap σ α->a1 env (ρ.set i (some v)) s'.heap α->a4 [env.locals] α s.heap α s'.heap->(∀b,b≠env.locals->s'.heap.get? b=s.heap.get? b)->cA s s'->Q () s') :
  wpAny (model K.prog K.w) A (storeName env x u) Q X s:=by
 refine az E.ns fun m n hm=>?_;refine wpAny_storeName_local (E.ok.ws i x _ hn) n (fun h' oL dJ=>?_) (by rw[E.ok.kind];rfl)
 obtain⟨aJ,aQ⟩:=r.but E.la fO (fun b o hb e=>(dJ.2 b hb).trans e) (fun o e=>by
  refine l8 (id n) fun aP es ez aF d J=>?_;rw[e]at aF;obtain rfl:=oi aF
  exact gX.notSolid ⟨_,_,d⟩) fun J o e J=>by
  refine l8 (id oL) fun aP es ez aF d J=>?_;exact⟨aP,aF,es,ez,d⟩
 refine a7 _ aJ ⟨E.ok,E.la,⟨_,oL,fun j y w V ak=>?_⟩,fun y c hc=>?_,E.cd,fun j y V=>?_,fun j w e=>?_⟩ aQ (fun b hb=>dJ.2 b hb) ⟨rfl,rfl⟩
 ·rcases qe ak with⟨rfl,rfl⟩ | ⟨de,ak⟩
  ·rw[hn]at V;cases V;exact⟨u,by simp,dq.ext aQ⟩
  ·refine az (hm j y w V ak) fun jo L O=>?_
   have:y≠x:=by rintro rfl;exact de (jD j i _ _ _ V hn)
   exact⟨jo,by simp[this,L],O.ext aQ⟩
 ·refine d4 (E.ca y c hc) fun L O bi=>?_;refine aM bi fun w ax=>?_;exact⟨L,O,w,qt aQ (ay.not_ix L) (by simpa using O) ax⟩
 ·refine az (E.cv j y V) fun c hc hv=>?_;refine⟨c,hc,fun w ak=>?_⟩
  rcases qe ak with⟨rfl,rfl⟩ | ⟨de,ak⟩
  ·rw[hn]at V;cases V
  ·refine az (hv w ak) fun jo L O=>?_;refine d4 (E.ca y c hc) fun q1 q2 J=>?_;exact⟨jo,qt aQ (ay.not_ix q1) (by simpa using q2) L,O.ext aQ⟩
 ·rcases qe e with⟨rfl,rfl⟩ | ⟨de,ak⟩
  ·exact⟨x,_,hn,.inl rfl⟩
  ·exact E.inb j w ak
theorem Wd{v:H}{Q:Unit->Shared->Prop}{X:Value->Shared->Prop}(jD:mX env.scope.names)(r:aq K.hb s.heap σ α)(E:a1 env ρ s.heap α)(aw:cR K.hb env)
  (hn:env.scope.names[i]?=some (x,.cell)) (dq:aj s.heap α v u)
  (a7:∀c s',env.cells.lookup x=some c->aq K.hb s'.heap σ α->a1 env (ρ.set i (some v)) s'.heap α->a4 [c] α s.heap α s'.heap->cA s s'->Q () s') :
  wpAny (model K.prog K.w) A (storeName env x u) Q X s:=by
 refine az E.ns fun m n hm=>?_;refine az (E.cv i x hn) fun c hc hv=>?_;refine d4 (E.ca x c hc) fun q1 q2 bi=>?_;refine aM bi fun ff q3=>?_;refine wpAny_storeName_cell E.ok.kind (E.ok.ws i x _ hn) hc q3 fun h' cy dJ=>?_
 obtain⟨aJ,aQ⟩:=r.but q1 (aw.c x c hc) (fun b o hb e=>(dJ.2 b hb).trans e) (fun o e=>by
  refine az q3 fun aP aF d=>?_;rw[e]at aF;obtain rfl:=oi aF
  rintro(⟨xs,n,q⟩ | ⟨C,vs,_,q⟩ | ⟨C,_,q⟩) <;> rw[d]at q <;> contradiction) fun J o e dd=>by
  refine az q3 fun aP aF d=>?_;rw[e]at aF;obtain rfl:=oi aF;refine jb dd fun xs n q=>?_;rw[d]at q;contradiction
 have sE:h'.Ns env.locals m:=Bh aQ (ay.not_ix E.la) (by simpa using(Ne.symm q2)) n;refine a7 c _ hc aJ ⟨E.ok,E.la,⟨m,sE,fun j y w V ak=>?_⟩,fun y cC hy=>?_,E.cd,fun j y V=>?_,fun j w e=>?_⟩ aQ ⟨rfl,rfl⟩
 ·rcases qe ak with⟨rfl,rfl⟩ | ⟨de,ak⟩
  ·rw[hn]at V;cases V
  ·refine az (hm j y w V ak) fun jo L O=>?_;exact⟨jo,L,O.ext aQ⟩
 ·refine d4 (E.ca y cC hy) fun L O bi=>?_;refine aM bi fun w ax=>?_;by_cases q:cC=c
  ·subst q;exact⟨L,O,_,cy⟩
  ·exact⟨L,O,w,qt aQ (ay.not_ix L) (by simpa using q) ax⟩
 ·refine az (E.cv j y V) fun cC hy oT=>?_;refine⟨cC,hy,fun w ak=>?_⟩
  rcases qe ak with⟨rfl,rfl⟩ | ⟨de,ak⟩
  ·rw[hn]at V;cases V;rw[hc]at hy;obtain rfl:=oi hy;exact⟨u,cy,dq.ext aQ⟩
  ·refine az (oT w ak) fun jo L O=>?_
   have:cC≠c:=by
    rintro rfl
    have:=E.cd _ _ _ hy hc;subst this;exact de (jD j i _ _ _ V hn)
   exact⟨jo,qt aQ (ay.not_ix (E.ca y cC hy).1) (by simpa using this) L,O.ext aQ⟩
 ·rcases qe e with⟨rfl,rfl⟩ | ⟨de,ak⟩
  ·exact⟨x,_,hn,.inr rfl⟩
  ·exact E.inb j w ak
noncomputable def gP(cells:List (Str×Addr)):List (Str×NameKind)->List (Str×Addr)->List (Str×Addr)
 | [],acc=>acc
 | (n,k)::r,acc=>if k == .free then gP cells r ((n,(cells.lookup n).getD 0)::acc)else gP cells r acc
theorem xP{env:Env}(f:Str×NameKind->List (Str×Addr)->Sem (ForInStep (List (Str×Addr))))
  (bf:∀n k ol,f (n,k) ol=if k == .free then(do let c <- cellOf env n;pure (.yield ((n,c)::ol)))else pure (.yield ol)) :
  ∀(names:List (Str×NameKind)) (acc:List (Str×Addr)),(∀n,(n,NameKind.free)∈names->(env.cells.lookup n).isSome)->(forIn names acc f)=pure (gP env.cells names acc)
 | [],acc,_=>by rw[List.forIn_nil];rfl
 | (n,k)::r,acc,h=>by
  rw[List.forIn_cons,bf];unfold gP
  cases hk:k == .free with
  | true =>
   have sy:k=.free:=by simpa using hk
   subst sy;refine aM (Option.isSome_iff_exists.mp (h n bu)) fun c hc=>?_;simp only[if_true];unfold cellOf;rw[hc];simp only[Option.getD_some,pure_bind];exact xP f bf r _ fun n hn=>h n (bQ _ hn)
  | false =>
   simp only[Bool.false_eq_true,if_false,pure_bind];exact xP f bf r _ fun n hn=>h n (bQ _ hn)
theorem Dn(h:∀n,(n,NameKind.free)∈scope.names->(env.cells.lookup n).isSome):closureFor scope env=pure (gP env.cells scope.names []):=by
 unfold closureFor;refine(congrArg (· >>= fun ol=>pure ol) (xP (env:=env) _ (fun n k ol=>?_) scope.names [] h)).trans (pure_bind _ _);cases hk:k == NameKind.free <;> simp[hk]
set_option tactic.hygienic true in
theorem Nb:∀(names:List (Str×NameKind)) (acc:List (Str×Addr)),(∀n,(n,NameKind.free)∈names->(cells.lookup n).isSome)->(∀n c,(n,c)∈acc->cells.lookup n=some c) ->
  ∀n c,(n,c)∈gP cells names acc->cells.lookup n=some c:=by
 intro r
 induction r with
 | nil =>
  intro _ _ O n c h;exact O n c h
 | cons bP r ao =>
  obtain⟨n',k⟩:=bP;intro acc L O n c h;unfold gP at h
  split at h
  ·rename_i hk
   have sy:k=.free:=by simpa using hk
   subst sy;refine ao _ (fun n hn=>L n (bQ _ hn)) (fun m d hm=>?_) n c h
   rcases cE.mp hm with e | hm
   ·cases e;refine aM (Option.isSome_iff_exists.mp (L n' bu)) fun cC cy=>?_;rw[cy];rfl
   ·exact O m d hm
  ·exact ao _ (fun n hn=>L n (bQ _ hn)) O n c h
theorem M9:∀(names:List (Str×NameKind)) (acc:List (Str×Addr)) (n:Str) (c:Addr),(n,c)∈acc->(n,c)∈gP cells names acc:=by
 intro r
 induction r with
 | nil =>
  intro _ _ _ h;exact h
 | cons bP r ao =>
  obtain⟨_,k⟩:=bP;intro acc n c h;unfold gP
  split
  ·exact ao _ n c (bQ _ h)
  ·exact ao _ n c h
theorem xO{cells:List (Str×Addr)}:∀(names:List (Str×NameKind)) (acc:List (Str×Addr)) (n:Str),(n,NameKind.free)∈names->∃c,(n,c)∈gP cells names acc
 | (n',k)::r,acc,n,h=>by
  unfold gP
  rcases cE.mp h with e | h
  ·cases e;exact⟨_,M9 r _ _ _ bu⟩
  ·split
   ·exact xO r _ n h
   ·exact xO r _ n h
theorem Je{l:List (Str×Addr)}{n:Str}{c:Addr}(h:(n,c)∈l):∃cC,l.lookup n=some cC:=by
 induction l with
 | nil=>(exact nomatch h)
 | cons p r ao =>
  obtain⟨k,v⟩:=p;rw[List.lookup_cons]
  cases hb:n == k with
  | true=>exact⟨v,rfl⟩
  | false =>
   rcases cE.mp h with e | h
   ·cases e;simp at hb
   ·exact ao h
theorem p0{names:List (Str×NameKind)}(h:∀n,(n,NameKind.free)∈names->(cells.lookup n).isSome){n:Str}{c:Addr}(e:(gP cells names []).lookup n=some c):cells.lookup n=some c:=
 Nb names [] h (fun J J h=>(nomatch h)) n c (mem_of_lookup e)
theorem Na{names:List (Str×NameKind)}(h:∀n,(n,NameKind.free)∈names->(cells.lookup n).isSome){n:Str}(hn:(n,NameKind.free)∈names):(gP cells names []).lookup n=cells.lookup n:=by
 refine aM (xO (cells:=cells) names [] n hn) fun c hc=>?_;refine aM (Je hc) fun cC cy=>?_;rw[cy,p0 h cy]
structure xv(names:List (Str×NameKind)):Prop where
 uniq:mX names
 nodbg:∀(i:Nat) (x:Str) (k:NameKind),names[i]?=some (x,k)->(x == ("__debug__" : Str))=false
 kinds:∀(i:Nat) (x:Str) (k:NameKind),names[i]?=some (x,k)->k=.local\/k=.cell\/k=.globalImplicit
theorem s1:∀{names:List (Str×NameKind)},mX names->∀{i:Nat} {x:Str} {k:NameKind},names[i]?=some (x,k)->names.lookup x=some k:=by
 intro r
 induction r with
 | nil =>
  intro _ i x k h
  (exact nomatch h)
 | cons bP r ao =>
  obtain⟨y,bW⟩:=bP;intro jD i x k h;rw[List.lookup_cons]
  cases i with
  | zero=>simp at h;obtain⟨rfl,rfl⟩:=h;simp
  | succ i =>
   have h':r[i]?=some (x,k):=by simpa using h
   have de:(x == y)=false:=by
    cases hb:x == y with
    | false=>rfl
    | true =>
     have:x=y:=by simpa using hb
     subst this;exact absurd (jD 0 (i+1) x bW k (by rfl) h) (by omega)
   rw[de];exact ao (fun i j x k bW L O=>by have:=jD (i+1) (j+1) x k bW (by simpa using L) (by simpa using O);omega) h'
theorem AO:∀{names:List (Str×NameKind)} {x:Str} {k:NameKind},names.lookup x=some k->∃i,names.findIdx? (·.1 == x)=some i/\names[i]?=some (x,k):=by
 intro r
 induction r with
 | nil =>
  intro _ _ h
  (exact nomatch h)
 | cons bP r ao =>
  obtain⟨y,bW⟩:=bP;intro x k h;rw[List.lookup_cons]at h;rw[List.findIdx?_cons]
  cases hb:x == y with
  | true =>
   rw[hb]at h;obtain rfl:=oi h
   have:x=y:=by simpa using hb
   subst this;exact⟨0,by simp,by rfl⟩
  | false =>
   rw[hb]at h;refine az (ao h) fun i L O=>?_
   have:(y == x)=false:=by
    cases hq:y == x with
    | false=>rfl
    | true =>
     have:y=x:=by simpa using hq
     subst this;simp at hb
   exact⟨i+1,by simp[this,L],by simpa using O⟩
theorem BD(hk:env.scope.kind=.function):(relabel scope env).names=dD env.scope.names scope.names:=by
 unfold relabel dD Env.kindOf;simp[hk]
structure kr(N:List (Str×NameKind))(scope:Scope)(t:Nat)(x:Str):Prop where
 kind:scope.kind=.function
 sc:xv (dD N scope.names)
 nocell:∀y∈scope.names,y.2≠.cell
 tgt:(dD N scope.names)[t]?=some (x,.local)
section
variable {t:Nat}
theorem kr.free(c:kr N scope t x){n:Str}(h:(n,NameKind.free)∈scope.names):N.lookup n=some .cell:=by
 refine aM (List.mem_iff_getElem?.mp h) fun i hi=>?_;by_cases hq:N.lookup n=some .cell
 ·exact hq
 ·have:(dD N scope.names)[i]?=some (n,.free):=by simp[dD,hi,hq]
  rcases c.sc.kinds i n _ this with q | q | q <;> contradiction
set_option tactic.hygienic true in
theorem kr.cell_(c:kr N scope t x){y:Str}(h:(dD N scope.names)[i]?=some (y,.cell)):(y,NameKind.free)∈scope.names/\N.lookup y=some .cell:=by
 simp only[dD,fg]at h
 cases hq:scope.names[i]? with
 | none=>rw[hq]at h;contradiction
 | some p =>
  obtain⟨n,k⟩:=p;rw[hq]at h;simp only[Option.map_some,Option.some.injEq]at h
  split at h
  ·rename_i hc
   (first | contradiction | (obtain rfl:=oi h) | cases h)
   simp at hc;exact⟨hc.1▸eI hq,hc.2⟩
  ·(first | contradiction | (obtain rfl:=oi h) | cases h)
   exact absurd rfl (c.nocell _ (eI hq))
theorem kr.names(c:kr N scope t x):∀y∈scope.names,y.2=.local->scope.names.lookup y.1=some .local:=by
 rintro⟨y,k⟩ hy rfl
 refine aM (List.mem_iff_getElem?.mp hy) fun i hi=>?_;refine s1 (i:=i) (fun i j z k bW L O=>?_) hi
 have V:∃q,(dD N scope.names)[i]?=some (z,q):=by
  simp only[dD,fg,L];simp only[Option.map_some,Option.some.injEq];split <;> exact⟨_,rfl⟩
 have ak:∃q,(dD N scope.names)[j]?=some (z,q):=by
  simp only[dD,fg,O];simp only[Option.map_some,Option.some.injEq];split <;> exact⟨_,rfl⟩
 refine aM V fun J V=>?_;refine aM ak fun J ak=>?_;exact c.sc.uniq i j z _ _ V ak
end
section
variable {t:Nat}
theorem uh(c:kr env.scope.names scope t x)(E:a1 env ρ h α):∀n,(n,NameKind.free)∈scope.names->(env.cells.lookup n).isSome:=fun n hn=>by
 refine az (AO (c.free hn)) fun i J hi=>?_;refine az (E.cv i n hi) fun a ha J=>?_;rw[ha];rfl
theorem Nn{C:Addr}{m:Str->Option Value}(c:kr env.scope.names scope t x)(E:a1 env ρ h α)(hC:h.Ns C m)(z5:C∉α.all)(de:∀y a,env.cells.lookup y=some a->a≠C) :
  a1 (compEnvC scope (gP env.cells scope.names []) C env) (dg (ip env.scope.names (dD env.scope.names scope.names)) ρ) h α:=by
 have jF:=uh c E;have fA:(compEnvC scope (gP env.cells scope.names []) C env).scope.names=dD env.scope.names scope.names:=BD E.ok.kind;refine⟨⟨?_,E.ok.glob,E.ok.bins,?_,?_⟩,z5,⟨m,hC,fun i y v V ak=>?_⟩,fun y a ha=>?_,fun y z a L O=>?_,fun i y V=>?_,fun i v e=>?_⟩
 ·exact c.kind
 ·intro i y k hi;rw[fA]at hi;show(compEnvC scope (gP env.cells scope.names []) C env).scope.names.lookup y=some k;exact fA.symm▸(s1 c.sc.uniq hi)
 ·intro i y k hi;rw[fA]at hi;exact c.sc.nodbg i y k hi
 ·rw[fA]at V;exfalso;simp only[dg,ip,fg,V]at ak
  (exact nomatch ak)
 ·have ka:=p0 jF ha;refine d4 (E.ca y a ka) fun L O ax=>?_;exact⟨L,de y a ka,ax⟩
 ·exact E.cd y z a (p0 jF L) (p0 jF O)
 ·rw[fA]at V;refine aW (c.cell_ V) fun L O=>?_;refine az (AO O) fun j a8 sx=>?_;refine az (E.cv j y sx) fun a ha hv=>?_;refine⟨a,(Na jF L).trans ha,fun v ak=>hv v ?_⟩;simp only[dg,ip,fg,V]at ak;simp[a8]at ak
  cases hq:ρ[j]? with
  | none=>rw[hq]at ak;contradiction
  | some o=>rw[hq]at ak;simp at ak;rw[ak]
 ·rw[fA];simp only[dg,ip,fg]at e
  cases hq:(dD env.scope.names scope.names)[i]? with
  | none=>rw[hq]at e;contradiction
  | some p =>
   obtain⟨y,k⟩:=p;rw[hq]at e;by_cases hk:k=.cell
   ·exact⟨y,k,rfl,.inr hk⟩
   ·simp[hk]at e
end
structure fE(K:a3)(A:Around):Prop where
 ex:∃l,A.frames=some l/\l.map (·.frame)=K.hb.fr.map some/\∀e∈l,e.scope.kind≠.module
theorem Hb{h base:Heap}:∀{l:List Env} {fr:List Addr},l.map (·.frame)=fr.map some->(∀e∈l,e.scope.kind≠.module)->(∀a∈fr,base.get? a=none/\∃o,h.get? a=some o/\gX o)->h.FunFrames base l/\l.filterMap (·.frame)=fr
 | [],[],_,_,_=>⟨trivial,rfl⟩
 | [],_::_,h,_,_=>(nomatch h)
 | _::_,[],h,_,_=>(nomatch h)
 | e::l,a::fr,L,O,ax=>by
  simp only[dw,List.cons.injEq]at L;refine aW (Hb L.2 (fun e he=>O e (bQ _ he)) fun a ha=>ax a (bQ _ ha)) fun p q=>?_;obtain⟨b1,o,dR,es,n,rK⟩:=ax a bu;exact⟨⟨O e bu,⟨a,o,L.1,b1,dR,fun vs z=>by rw[rK]at z;cases z⟩,p⟩,by rw[List.filterMap_cons,L.1,q]⟩
theorem OU{m6:Env}{qP:List Env}{base:Heap}(hfr:A.frames=some (m6::qP))(hl:s.heap.FunFrames base (m6::qP))(vJ:m6.frame=some aG)(bf:env.frame=some aG)
  (h:∀h',Heap.SlotsOnly ((m6::qP).filterMap (·.frame)) s.heap h'->Q (.ref aG) { s with heap:=h' }):wpAny (model K.prog K.w) A (frameOf env) Q E s:=by
 unfold PySem.frameOf;refine aN (wpAny_frameEnvs hfr ?_)
 have P9:((m6::qP).dropWhile fun x=>x.frame != env.frame)=m6::qP:=by simp[List.dropWhile,vJ,bf]
 rw[P9];unfold frameObject;refine aN (aN (wpAny_readyFrames_fun hl fun cY hG=>bO ?_));exact vJ.symm▸(bO (h cY hG))
theorem DJ{fu:Obj}{vs:Array Value}{head:Value}{PQ:Bool}{Q:Unit->Shared->Prop}(hA:fE K A)(aw:cR K.hb env)(fO:env.frame=some aG)(r:aq K.hb h₀ σ α)(u:hO K.hb.fr h₀ s.heap)
  (new:h₀.get? a=none) (he:s.heap.get? a=some fu) (hc:fu.cls=.ref i) (hd:fu.data=.fields vs) (hsz:1<vs.size) (j5:∃y,vs[2]?=some y/\(K.ph=false->y=.none))
  (a7:∀h',hO K.hb.fr h₀ h'->kt K.ph h₀ h' i a true->Q () { s with heap:=h' }) :
  wpAny (model K.prog K.w) A (do let x <- frameOf env;let pl <- entryPlaceOf aG PQ;let b <- EntryCells.newEntry head x .none (rawInt aG) .none pl;setField (.ref a) 1 b) Q E s:=by
 refine bL hA.ex fun l ly lz Ar=>?_;have aJ:=r.up u;refine aW (Hb lz Ar aJ.frs) fun hl Qf=>?_;refine c1 aw.f fun YA rest bf hfr=>?_;rw[fO]at bf;obtain rfl:=oi bf
 cases l with
 | nil=>rw[hfr]at lz;(exact nomatch lz)
 | cons m6 qP =>
  have vJ:m6.frame=some aG:=by rw[hfr]at lz;simp at lz;exact lz.1
  have PR:a∉K.hb.fr:=fun q=>by
   obtain⟨_,o,e,es,n,d⟩:=aJ.frs a q;rw[he]at e;obtain rfl:=oi e;rw[hd]at d;contradiction
  refine aN (OU ly hl vJ fO fun cY hG=>?_);rw[Qf]at hG;refine aN (wpAny_entryPlaceOf fun pl hpl=>?_);unfold EntryCells.newEntry newFields;refine aN (wpAny_newObj_type ?_ (hpl.sizeOk5 _ _ _ _ _));have HR:cY.get? a=some fu:=(hG.2.1 a PR).trans he;have HS:=c8 (h:=cY) { cls:=.type "traceback",dict:=none,data:=.fields ([head,.ref aG,.none,rawInt aG,.none]++(if pl.isEmpty then List.replicate 6 Value.none else pl)).toArray } HR;refine wpAny_setField HS hd hsz (a7 _ ?_ ?_)
  ·intro b o hb
   have qj:a≠b:=fun q=>by rw[<- q,new]at hb;contradiction
   have keep:∀aP,cY.get? b=some aP->((cY.push { cls:=.type "traceback",dict:=none,data:=.fields ([head,.ref aG,.none,rawInt aG,.none]++(if pl.isEmpty then List.replicate 6 Value.none else pl)).toArray }).update a (Obj.mapFields (·.setIfInBounds 1 (Value.ref cY.objs.size)))).get? b=some aP:=fun aP q=>by
    rw[Heap.get?_update_other _ _ qj];exact c8 _ q
   rcases u b o hb with q | ⟨m,cQ,q⟩
   ·by_cases hm:b∈K.hb.fr
    ·refine aM (hG.2.2 b o q) fun cQ z=>?_;exact .inr ⟨hm,cQ,keep _ z⟩
    ·exact .inl (keep _ ((hG.2.1 b hm).trans q))
   ·refine aM (hG.2.2 b _ q) fun pu z=>?_;exact .inr ⟨m,pu,keep _ z⟩
  ·have HH:cY.objs.size≠a:=dc (fi HR);have HO:=Obj.data_mapFields hd (·.setIfInBounds 1 (Value.ref cY.objs.size));have Qd:=Heap.get?_update_self (Obj.mapFields (·.setIfInBounds 1 (Value.ref cY.objs.size))) HS (Obj.isFreed_of_fields HO)
   have PM:=(Heap.get?_update_other (cY.push { cls:=.type "traceback",dict:=none,data:=.fields ([head,.ref aG,.none,rawInt aG,.none]++(if pl.isEmpty then List.replicate 6 Value.none else pl)).toArray })
    (Obj.mapFields (·.setIfInBounds 1 (Value.ref cY.objs.size))) (Ne.symm HH)).trans (eJ cY rfl)
   refine⟨new,_,_,.ref cY.objs.size,Qd,(Obj.cls_mapFields _ _).trans hc,HO,by simp[hsz],.inr cY.objs.size _ _ rfl ?_ HH PM rfl rfl ?_,?_⟩
   ·cases q:h₀.get? cY.objs.size with
    | none=>rfl
    | some o =>
     have:∃aP,s.heap.get? cY.objs.size=some aP:=by
      rcases u _ _ q with q | ⟨_,_,q⟩
      ·exact⟨_,q⟩
      ·exact⟨_,q⟩
     refine aM this fun aP z=>?_;refine aM (hG.2.2 _ _ z) fun cQ bA=>?_;exact absurd (fi bA) (Nat.lt_irrefl _)
   ·simp
   ·refine az j5 fun y g5 h9=>?_;exact⟨y,by rw[Array.getElem?_setIfInBounds_ne (by decide)];exact g5,h9⟩
theorem JO{Q:Unit->Shared->Prop}(hA:fE K A)(aw:cR K.hb env)(r:aq K.hb h₀ σ α)(u:hO K.hb.fr h₀ s.heap)(x:kt K.ph h₀ s.heap i a d5)
  (a7:∀h',hO K.hb.fr h₀ h'->kt K.ph h₀ h' i a true->Q () { s with heap:=h' }):wpAny (model K.prog K.w) A (noteFrame (.ref a) env) Q E s:=by
 obtain⟨new,fu,vs,nR,he,hc,hd,L,aO,j5⟩:=x;refine c1 (id aw.f) fun aG rest bf hfr=>?_;have hsz:=(Array.getElem?_eq_some_iff.mp L).1;unfold noteFrame;simp only[bf];refine aN (gM he hd L ?_)
 rcases aO with⟨_,rfl⟩ | ⟨T,nu,ts,rfl,oF,sl,dY,Ae,oG,qh⟩
 ·rw[a5 (by decide)];exact DJ hA aw bf r u new he hc hd hsz j5 a7
 ·rw[aE (show(Value.ref T != Value.none)=true from by rfl)];refine aN (gM dY oG (x:=ts[3]) (by simp[qh]) ?_);by_cases hq:(ts[3] == rawInt aG)=true
  ·rw[aE hq];exact bO (a7 _ u ⟨new,fu,vs,_,he,hc,hd,L,.inr T nu ts rfl oF sl dY Ae oG qh,j5⟩)
  ·rw[a5 hq];refine aN (wpAny_setField dY oG qh ?_);have other:∀b,b≠T->(s.heap.update T (Obj.mapFields (·.setIfInBounds 3 Value.none))).get? b=s.heap.get? b:=fun b hb=>Heap.get?_update_other _ _ (Ne.symm hb);refine DJ (s:={ s with heap:=s.heap.update T (Obj.mapFields (·.setIfInBounds 3 Value.none)) }) hA aw bf r (fun b o hb=>?_) new ((other a (Ne.symm sl)).trans he) hc hd hsz j5 a7
   have sr:b≠T:=fun q=>by rw[q,oF]at hb;contradiction
   show(s.heap.update T _).get? b=_\/_
   rcases u b o hb with q | ⟨m,cQ,q⟩
   ·exact .inl ((other b sr).trans q)
   ·exact .inr ⟨m,cQ,(other b sr).trans q⟩
theorem zS{f:Option Addr}{Q:Unit->Shared->Prop}(r:aq K.hb h₀ σ α)(u:hO K.hb.fr h₀ s.heap)(x:kt K.ph h₀ s.heap i a true)
  (a7:∀h',hO K.hb.fr h₀ h'->kt K.ph h₀ h' i a true->Q () { s with heap:=h' }):wpAny (model K.prog K.w) A (setFlight (.ref a) f) Q E s:=by
 obtain⟨new,fu,vs,nR,he,hc,hd,L,aO,j5⟩:=x
 rcases aO with⟨z,_⟩ | ⟨T,nu,ts,rfl,oF,sl,dY,Ae,oG,qh⟩
 ·contradiction
 unfold setFlight;refine aN (gM he hd L ?_);rw[aE (show(Value.ref T != Value.none)=true from by rfl)];have other:∀(g:Obj->Obj) b,b≠T->(s.heap.update T g).get? b=s.heap.get? b:=fun g b hb=>Heap.get?_update_other _ _ (Ne.symm hb);refine wpAny_setField dY oG qh (a7 _ (fun b o hb=>?_) ⟨new,fu,vs,_,(other _ a (Ne.symm sl)).trans he,hc,hd,L,.inr T _ _ rfl oF sl (Heap.get?_update_self _ dY (Obj.isFreed_of_fields (Obj.data_mapFields oG _))) ((Obj.cls_mapFields _ _).trans Ae) (Obj.data_mapFields oG _) (by simpa using qh),j5⟩)
 have sr:b≠T:=fun q=>by rw[q,oF]at hb;contradiction
 rcases u b o hb with q | ⟨m,cQ,q⟩
 ·exact .inl ((other _ b sr).trans q)
 ·exact .inr ⟨m,cQ,(other _ b sr).trans q⟩
theorem Si{Q:Unit->Shared->Prop}(hA:fE K A)(aw:cR K.hb env)(r:aq K.hb h₀ σ α)(u:hO K.hb.fr h₀ s.heap)(x:kt K.ph h₀ s.heap i a d5)
  (a7:∀h',hO K.hb.fr h₀ h'->kt K.ph h₀ h' i a true->Q () { s with heap:=h' }):wpAny (model K.prog K.w) A (leaving env (.ref a)) Q E s:=by
 unfold leaving;refine aN (JO hA aw r u x fun h' jo aQ=>?_);exact zS (s:={ s with heap:=h' }) r jo aQ fun hX Cg tI=>a7 hX Cg tI
noncomputable def jB(c5:H->af->ah Bool)(eC:H->af->ah H)(x:H)(σ:af):ah (Option H):=
 (c5 x σ).bind fun b σ=>if b then(eC x σ).bind fun v σ=>.ok (some v) σ else .ok none σ
theorem bj.snoc{p:H}{v:Value}(a:bj h α xs vs)(b:aj h α p v):bj h α (xs++[p]) (vs++[v]):=
 a.append #v[b]
section
variable {t:Nat}
inductive tK(K:a3)(s:Shared)(α:ay)(c:ah H)(acc:Value)(C:Addr)(r:Result)(s':Shared):Prop
 | inl (e:r=.ok .next) (v:H) (σ':af) (α':ay) (m:Str->Option Value) (hc:c=.ok v σ') (x:a4 [] α s.heap α' s'.heap) (bi:aq K.hb s'.heap σ' α') (vr:aj s'.heap α' v acc) (mG:cA s s') (ns:s'.heap.Ns C m) (L:C∉α'.all) (O:s.heap.get? C=none) (ax:K.hb.get? C=none) (aT:C∉K.hb.fr):tK K s α c acc C r s'
theorem Ql{C:Addr}(hb:b≠C):(PySem.W.hideAll h [C]).get? b=h.get? b:=by
 cases e:h.get? b with
 | some o=>exact PySem.W.hideAll_get _ e (by simpa using hb)
 | none =>
  cases aF:(PySem.W.hideAll h [C]).get? b with
  | none=>rfl
  | some o=>rw[PySem.W.of_hideAll _ aF]at e;contradiction
theorem aq.unhide{hb h σ α}{hid:List Addr}(r:aq hb h σ α)(hs:∀a∈hid,a∈α.hid):aq hb h σ ⟨α.ix,hid,α.fr⟩:=
 ⟨r.base,r.fresh,r.nodup,r.len,fun a ha=>r.hidden a (hs a ha),fun j m a V ak=>(r.obj j m a V ak).re (α:=α) (α':=⟨α.ix,hid,α.fr⟩) (fun J J e=>e) (fun a ha=>by
  rcases dH.mp ha with q | q
  ·exact hj _ q
  ·exact e6 _ (hs a q)),fun a ha=>r.hfr a (hs a ha),r.fe,r.frs,r.frNot⟩
noncomputable def iw(n:Nat)(ba:Bool)(w:Option (Nat×aV))(c5:H->af->ah Bool)(eC:H->af->ah H)(ys xs:List H)(σ:af):ah H:=
 ir n (ea w (jB c5 eC) xs σ) fun k8 σ=>fb ba (ys++k8) σ
theorem Hq{n ba w c5 eC ys xs σ}(h:iw n ba w c5 eC ys xs σ≠.stuck):iG w σ:=by
 by_cases hw:iG w σ
 ·exact hw
 ·refine absurd ?_ h;unfold iw
  cases xs with
  | nil=>rw[show ea w (jB c5 eC) [] σ=.stuck from a5 hw];rfl
  | cons x xs=>rw[show ea w (jB c5 eC) (x::xs) σ=.stuck from a5 hw];rfl
theorem Pg{n ba w c5 eC ys p xs σ}(hw:iG w σ):iw n ba w c5 eC ys (p::xs) σ=ir n ((jB c5 eC p σ).bind fun y σ=>(ea w (jB c5 eC) xs σ).bind fun k8 σ=>.ok (xR y k8) σ) fun k8 σ=>fb ba (ys++k8) σ:=by
 unfold iw;rw[show ea w (jB c5 eC) (p::xs) σ=_ from aE hw]
noncomputable def Uf(f g:af->ah H):ah Bool->ah H
 | .ok true σ=>g σ
 | .ok false σ=>f σ
 | _=>.stuck
noncomputable def Bk(f:H->af->ah H):ah H->ah H
 | .ok v σ=>f v σ
 | _=>.stuck
theorem Pf{n ba w c5 eC ys p xs σ c}(h:iw n ba w c5 eC ys (p::xs) σ=c)(hc:c≠.stuck):iG w σ/\Uf (iw n ba w c5 eC ys xs) (fun σ=>Bk (fun v=>iw n ba w c5 eC (ys++[v]) xs) (eC p σ)) (c5 p σ)=c:=by
 have hw:=Hq (h▸hc);refine⟨hw,?_⟩;rw[<- h,Pg hw];unfold jB
 cases c5 p σ with
 | exc i σ=>rfl
 | stuck=>rfl
 | ok b σ =>
  cases b with
  | false =>
   show ir n _ _=ir n ((ea w (jB c5 eC) xs σ).bind fun k8 σ=>.ok k8 σ) _;cases ea w (jB c5 eC) xs σ <;> rfl
  | true =>
   show Bk _ (eC p σ)=ir n (((eC p σ).bind fun v σ=>.ok (some v) σ).bind _) _
   cases eC p σ with
   | exc i σ=>rfl
   | stuck=>rfl
   | ok v σ =>
    show ir n _ _=ir n ((ea w (jB c5 eC) xs σ).bind fun k8 σ=>.ok (v::k8) σ) _
    cases ea w (jB c5 eC) xs σ with
    | ok k8 σ=>show fb _ _ _=fb _ _ _;rw[eQ];rfl
    | exc i σ=>rfl
    | stuck=>rfl
set_option tactic.hygienic true in
theorem Hp{n ba w c5 eC ys xs σ}(hn:ys.length<=n)(h:iw n ba w c5 eC ys xs σ≠.stuck):ys.length<=aI:=by
 unfold iw at h
 cases hq:ea w (jB c5 eC) xs σ with
 | ok k8 σ' =>
  rw[hq]at h;simp only[ir,fb]at h
  split at h
  ·rename_i hl;simp at hl;(grind)
  ·exact absurd rfl h
 | exc i σ'=>rw[hq]at h;exact absurd rfl h
 | stuck=>rw[hq]at h;exact absurd rfl h
end
structure tL where
 K:a3
 s:Shared
 α:ay
 D:Addr
 cenv:Env
 t:Nat
 ρc:aB
 own:List Addr
structure pG(P:tL):Prop where
 hown:∀b∈P.own,P.s.heap.get? b=none
 hD:P.s.heap.get? P.D=none
 hC:P.s.heap.get? P.cenv.locals=none
 hbD:P.K.hb.get? P.D=none
 hbC:P.K.hb.get? P.cenv.locals=none
 hDx:P.D∉P.α.hid
 ap:mQ P.cenv P.own
 hCf:P.cenv.locals∉P.K.hb.fr
structure f9(P:tL)(ys:List H)(us:List Value)(n:Nat)(ρ:aB)(σ:af)(s:Shared)(α:ay):Prop where
 hid:α.hid=P.D::P.α.hid
 x:a4 [] P.α P.s.heap ⟨α.ix,P.α.hid,α.fr⟩ s.heap
 r:aq P.K.hb s.heap σ α
 E:a1 P.cenv ρ s.heap α
 hρ:∀v,ρ.set P.t (some v)=P.ρc.set P.t (some v)
 hl:s.heap.get? P.D=some { cls:=.type "list",data:=.seq us.toArray n }
 vs:bj s.heap α ys us
 m:cA P.s s
theorem aq.show{hid:List Addr}(r:aq hb h σ α)(e:α.hid=D::hid)(hDx:D∉hid)(hl:h.get? D=some { cls:=.type "list",data:=.seq us.toArray n })(vs:bj h α ys us):aq hb h (σ++[.lst ys]) ⟨α.ix++[D],hid,α.fr⟩:=by
 have aR:∀a∈hid,a∈α.hid:=fun a ha=>e.symm▸bQ _ ha;have z7:D∈α.hid:=e.symm▸bu;have kU:∀{a:Addr} {p:Prop},a∈α.ix++[D]->(a∈α.ix->p)->(a=D->p)->p:=fun h L O=>(dH.mp h).elim L fun q=>O (df.mp q);have Hg:∀(j:Nat) (a:Addr),α.ix[j]?=some a->(α.ix++[D])[j]?=some a:=fun j a e=>(iN (dS e).1).trans e;have KG:∀a,a∈(⟨α.ix++[D],hid,α.fr⟩:ay).all->a∈α.all:=fun a ha=>(dH.mp ha).elim (fun q=>kU q (hj _) fun q=>e6 _ (q▸z7)) fun q=>e6 _ (aR a q);refine⟨r.base,fun a ha=>kU ha (r.fresh a) fun q=>q▸r.hfr D z7,?_,?_,fun a ha=>⟨fun q=>kU q (r.hidden a (aR a ha)).1 fun q=>hDx (q▸ha),(r.hidden a (aR a ha)).2⟩,fun j m a V ak=>?_,fun a ha=>r.hfr a (aR a ha),r.fe,r.frs,fun a ha q=>kU q (r.frNot a ha) fun q=>?_⟩
 ·exact hQ.mpr ⟨r.nodup,List.pairwise_singleton _ _,fun a ha b hb z=>(r.hidden D z7).1 (df.mp hb▸z▸ha)⟩
 ·show _=(α.ix++[D]).length;rw[cN,cN,r.len];rfl
 ·change(α.ix++[D])[j]?=some a at ak;by_cases a8:j<σ.length
  ·rw[iN a8]at V;rw[iN (r.len▸a8)]at ak;exact(r.obj j m a V ak).re Hg KG
  ·have a8:=Nat.not_lt.mp a8;rw[hP a8]at V;rw[hP (r.len▸a8),<- r.len]at ak;generalize j-σ.length=k at V ak
   cases k with
   | zero =>
    obtain rfl:=oi V;obtain rfl:=oi ak;exact⟨us,n,hl,vs.re Hg KG⟩
   | succ k=>exact nomatch V
 ·subst q;obtain⟨_,o,e,es,n',d⟩:=r.frs a ha;rw[hl]at e;obtain rfl:=oi e;contradiction
section
variable {P:tL}
theorem f9.hD(aG:f9 P ys us n ρ σ s α):P.D∈α.hid:=aG.hid.symm▸bu
theorem f9.ha(aG:f9 P ys us n ρ σ s α):P.D∈α.all:=e6 _ aG.hD
theorem f9.ext(aG:f9 P ys us n ρ σ s α)(x:a4 [] α s.heap α' s'.heap)(r:aq P.K.hb s'.heap σ' α')(m:cA s s'):f9 P ys us n ρ σ' s' α':=
 ⟨x.hid.trans aG.hid,aG.x.trans (x.rehid _),r,aG.E.ext x .nil,aG.hρ,x.seqs _ _ (aG.r.hidden _ aG.hD).1 aG.hl .seq,aG.vs.ext x,aG.m.trans m⟩
theorem f9.item(aG:f9 P ys us n ρ σ s α)(c:pG P)(x:a4 P.own α s.heap α s'.heap)(r:aq P.K.hb s'.heap σ α)(m:cA s s'):f9 P ys us n ρ σ s' α:=
 ⟨aG.hid,a4.drop aG.x c.hown (fun J q=>absurd q ew) ((iP P.own).symm▸x.rehid P.α.hid),r,aG.E.ext x c.ap,aG.hρ,x.seqs _ _ (aG.r.hidden _ aG.hD).1 aG.hl .seq,aG.vs.ext x,aG.m.trans m⟩
theorem f9.store(aG:f9 P ys us n ρ σ s α)(c:pG P){v:H}(x:a4 [P.cenv.locals] α s.heap α s'.heap)(fT:∀b,b≠P.cenv.locals->s'.heap.get? b=s.heap.get? b)(r:aq P.K.hb s'.heap σ α)(E:a1 P.cenv (ρ.set P.t (some v)) s'.heap α)(m:cA s s'):f9 P ys us n (P.ρc.set P.t (some v)) σ s' α:=
 ⟨aG.hid,aG.x.sameBut c.hC fT,r,aG.hρ v▸E,fun v=>List.set_set ..,(fT _ fun q=>aG.E.la (q▸aG.ha)).trans aG.hl,aG.vs.ext x,aG.m.trans m⟩
theorem f9.app(aG:f9 P ys us n ρ σ s α)(c:pG P){v:H}{n':Nat}(v7:∀b,b≠P.D->h'.get? b=s.heap.get? b)(hl:h'.get? P.D=some { cls:=.type "list",data:=.seq (us++[u]).toArray n' })(vr:aj s.heap α v u):f9 P (ys++[v]) (us++[u]) n' ρ σ { s with heap:=h' } α:=
 ⟨aG.hid,aG.x.sameBut c.hD v7,aG.r.sameHid aG.hD c.hbD v7 ⟨_,hl⟩ (fun o e=>by rw[aG.hl]at e;obtain rfl:=oi e;rintro⟨_,_,q⟩;contradiction),aG.E.sameBut aG.ha v7,aG.hρ,hl,(aG.vs.snoc vr).sameBut aG.ha v7,aG.m.trans ⟨rfl,rfl⟩⟩
theorem f9.done(aG:f9 P ys us n ρ σ s α)(c:pG P)(ba:Bool):tK P.K P.s P.α (.ok (if ba then .fl ys else .ref σ.length) (if ba then σ else σ++[.lst ys])) (.ref P.D) P.cenv.locals (.ok .next) s:=by
 refine az aG.E.ns fun Ji Jx J=>?_;have nc:=(aG.r.hidden P.D aG.hD).1;have aR:∀a∈P.α.hid,a∈α.hid:=fun a ha=>aG.hid.symm▸bQ _ ha
 cases ba with
 | true =>
  have KE:∀a,a∈(⟨α.ix,P.α.hid,α.fr⟩:ay).all->a∈α.all:=fun a ha=>(dH.mp ha).elim (hj _) fun q=>e6 _ (aR a q);exact .inl rfl _ _ ⟨α.ix,P.α.hid,α.fr⟩ Ji rfl aG.x (aG.r.unhide aR) (aj.flI aG.hl (fun q=>(dH.mp q).elim nc c.hDx) (aG.vs.re (α:=α) (α':=⟨α.ix,P.α.hid,α.fr⟩) (fun J J e=>e) KE)) aG.m Jx (fun q=>aG.E.la (KE _ q)) c.hC c.hbC c.hCf
 | false =>
  refine .inl rfl _ _ ⟨α.ix++[P.D],P.α.hid,α.fr⟩ Ji rfl ?_ (aG.r.show aG.hid c.hDx aG.hl aG.vs) (.ref ?_) aG.m Jx (fun q=>?_) c.hC c.hbC c.hCf
  ·refine az aG.x.pre fun β q1 q2=>?_;refine⟨rfl,⟨β++[P.D],?_,fun a ha=>(dH.mp ha).elim (q2 a) fun q=>df.mp q▸⟨c.hD,ew⟩⟩,aG.x.seqs,aG.x.rest,aG.x.alive,aG.x.fre⟩;show α.ix++[P.D]=_;rw[show α.ix=P.α.ix++β from q1,eQ]
  ·show(α.ix++[P.D])[σ.length]?=_;rw[aG.r.len,hP (dz _),Nat.sub_self];rfl
  ·refine aG.E.la ((dH.mp q).elim (fun q=>(dH.mp q).elim (hj _) fun q=>?_) fun q=>e6 _ (aR _ q));rw[df.mp q];exact aG.ha
inductive xl(P:tL)(xs:List H)(St:Nat->Heap->ay->Prop)(go:List H->List H->af->ah H)(c:ah H)(k:Nat)(s:Shared):Prop
 | mk (i:Nat) (σ:af) (α:ay) (ys:List H) (us:List Value) (ρ:aB) (n:Nat) (hk:k=xs.length-i) (hi:i<=xs.length) (aG:f9 P ys us n ρ σ s α) (st:St i s.heap α) (bV:go ys (xs.drop i) σ=c) (oV:ys.length<=i):xl P xs St go c k s
theorem Nq{b9:Sem Bool}{it:Value}{w:Option (Nat×aV)}
  {c5:H->af->ah Bool} {eC:H->af->ah H} {ba:Bool} {o:ah H} {Q:Option Value->Shared->Prop} {rv:Unit->Shared->Prop} {pO:Bool->Shared->Prop} {CK:Value->Shared->Prop} {CL:Value->Shared->Prop} {X:Value->Shared->Prop} (c:pG P) (I:gH P.K A false P.own it xs w St) (hx:P.cenv.scope.names[P.t]?=some (x,.local)) (jD:mX P.cenv.scope.names) (hc:o≠.stuck)
  (oS:∀v s σ α,a1 P.cenv (P.ρc.set P.t (some v)) s.heap α->aq P.K.hb s.heap σ α->av P.K hh A b9 (c5 v σ) s α)
  (oI:∀v s σ α,a1 P.cenv (P.ρc.set P.t (some v)) s.heap α->aq P.K.hb s.heap σ α->av P.K aj A (eval elt P.cenv) (eC v σ) s α)
  (eB:i<xs.length) (aG:f9 P ys us n ρ σ s α) (st:St i s.heap α) (bV:iw xs.length ba w c5 eC ys (xs.drop i) σ=o) (oV:ys.length<=i)
  (L:∀v s,wpAny (model P.K.prog P.K.w) A (assign (.Name x h3) P.cenv v) rv X s->Q (some v) s) (O:∀s,wpAny (model P.K.prog P.K.w) A b9 pO X s->rv () s) (ax:∀s,wpAny (model P.K.prog P.K.w) A (eval elt P.cenv) CK X s->pO true s)
  (aT:∀v s,wpAny (model P.K.prog P.K.w) A (call (.builtin "list.append") [.ref P.D,v]) CL X s->CK v s) (hn:∀s,xl P xs St (iw xs.length ba w c5 eC) o (xs.length-(i+1)) s->pO false s/\∀v,CL v s):wpAny (model P.K.prog P.K.w) A (pyNext it) Q X s:=by
 rw[List.drop_eq_getElem_cons eB]at bV;have hZ:=Hp (aK oV (Nat.le_of_lt eB)) (bV.symm▸hc);refine aW (Pf bV hc) fun hw bV=>?_;refine I.item i s σ α xs[i] (dA eB) st aG.r hw _ _ fun v bb vr Wm J nQ g0 hI=>L _ _ ?_;have tR:=aG.item c nQ g0 hI;refine wpAny_assign_Name (Ky jD g0 tR.E c.hbC hx vr fun e3 jH mR Lr fT lI=>O _ ?_);have CG:=tR.store c Lr fT jH mR lI;have ra:=I.frame _ _ _ _ _ _ (Wm rfl) Lr fun b hb q=>c.ap.1 (df.mp q▸hb);have aO:=oS xs[i] e3 σ α CG.E jH;generalize c5 xs[i] σ=gR at bV aO;refine cB (aO fun q=>hc (by rw[<- bV,q];rfl)) (fun ok nH hp=>?_) fun e nH hx=>?_
 ·obtain⟨b,rp,xc,rfl,k7,Kc,gT,Tq⟩:=hp;obtain rfl:ok=b:=gT;have pN:=CG.ext k7 Kc Tq;have KD:=I.frame _ _ _ _ _ _ ra k7 fun J J=>ew
  cases ok with
  | false=>exact(hn _ ⟨i+1,rp,xc,ys,us,_,n,rfl,eB,pN,KD,bV,Nat.le_succ_of_le oV⟩).1
  | true =>
   have he:=oI xs[i] nH rp xc pN.E Kc;change Bk _ (eC xs[i] rp)=o at bV;generalize eC xs[i] rp=YH at bV he;refine ax _ (cB (he fun q=>hc (by rw[<- bV,q];rfl)) (fun u tx hp=>aT _ _ ?_) fun e tx hx=>?_)
   ·obtain⟨XG,Cr,Lv,rfl,mM,wF,XJ,Tr⟩:=hp;have rt:=pN.ext mM wF Tr;refine wpAny_list_append_plain ⟨_,rt.hl⟩ (fun Zb At Ke=>?_) (by rw[fH,<- aG.vs.1];exact iB hZ);refine aM At fun s4 At=>?_;have jT:=rt.app c (n':=s4) Ke.2 (by rw[At];simp) XJ;exact(hn _ ⟨i+1,Cr,Lv,ys++[XG],us++[u],_,s4,rfl,eB,jT,I.but _ _ _ _ _ (I.frame _ _ _ _ _ _ KD mM fun J J=>ew) rt.ha Ke.2,bV,by rw[cN];exact Nat.succ_le_succ oV⟩).2 _
   ·obtain⟨j,Cr,rfl,_⟩:=hx;exact absurd bV.symm hc
 ·obtain⟨j,Cr,rfl,_⟩:=hx;exact absurd bV.symm hc
theorem No{iter:Expr}{it:Value}{w:Option (Nat×aV)}
  {c5:H->af->ah Bool} {eC:H->af->ah H} {ba:Bool} {o:ah H} (c:pG P) (I:gH P.K A false P.own it xs w St) (hx:P.cenv.scope.names[P.t]?=some (x,.local)) (jD:mX P.cenv.scope.names) (hc:o≠.stuck)
  (oS:∀v s σ α,a1 P.cenv (P.ρc.set P.t (some v)) s.heap α->aq P.K.hb s.heap σ α ->
   av P.K hh A (forIn ifs true fun c r=>if r=true then do let ok <- isTrue c P.cenv (eval c P.cenv);pure (ForInStep.yield ok)else pure (ForInStep.yield r)) (c5 v σ) s α)
  (oI:∀v s σ α,a1 P.cenv (P.ρc.set P.t (some v)) s.heap α->aq P.K.hb s.heap σ α->av P.K aj A (eval elt P.cenv) (eC v σ) s α)
  (aG:f9 P [] [] n ρ σ s α) (st:St 0 s.heap α) (bV:iw xs.length ba w c5 eC [] xs σ=o) :
  codeAny (model P.K.prog P.K.w) A (.compLoop (.ListComp elt [⟨.Name x h3,iter,ifs,0⟩] scope pos) 0 it (.ref P.D) P.cenv) (tK P.K P.s P.α o (.ref P.D) P.cenv.locals) s:=by
 refine codeAny_compLoop_tests (xl P xs St (iw xs.length ba w c5 eC) o) (fun n s₁ nk=>?_) _ ⟨0,σ,α,[],[],ρ,n,rfl,gN _,aG,st,bV,dz _⟩;clear bV st aG;obtain⟨i,ac,bc,ys,us,b4,Bd,rfl,hi,aG,st,bV,oV⟩:=nk;by_cases eB:i<xs.length
 ·exact Nq c I hx jD hc oS oI eB aG st bV oV (fun J J h=>h) (fun J h=>h) (fun J h=>h) (fun J J h=>h) fun J h=>⟨⟨_,Nat.sub_succ_lt_self _ _ eB,h⟩,fun J=>⟨_,Nat.sub_succ_lt_self _ _ eB,h⟩⟩
 ·have e:=Nat.le_antisymm hi (Nat.not_lt.mp eB);rw[e,List.drop_length]at bV;have hw:=Hq (bV.symm▸hc);have hZ:=Hp (e▸oV) (bV.symm▸hc);refine I.done s₁ ac bc (e▸st) aG.r hw _ _ fun bb nQ g0 hI=>?_
  have Qi:ah.ok (if ba then H.fl ys else .ref ac.length) (if ba then ac else ac++[.lst ys])=o:=by
   rw[<- bV];unfold iw;rw[show ea w (jB c5 eC) [] ac=.ok [] ac from aE hw];show _=fb ba (ys++[]) ac;rw[iP];unfold fb;rw[aE hZ];cases ba <;> rfl
  exact Qi▸(aG.item c nQ g0 hI).done c ba
end
section
variable {t:Nat}
noncomputable abbrev gQ(scope:Scope)(C:Addr)(env:Env):Env:=compEnvC scope (gP env.cells scope.names []) C env
noncomputable abbrev oj(scope:Scope)(env:Env)(ρ:aB):aB:=dg (ip env.scope.names (dD env.scope.names scope.names)) ρ
noncomputable def oe(ba:Bool)(c5:H->af->ah Bool)(eC:H->af->ah H)(kG:ah (List H×Option (Nat×aV))):ah H:=
 kG.bind fun p σ=>iw p.1.length ba p.2 c5 eC [] p.1 σ
theorem Dt{iter:Expr}{kG:ah (List H×Option (Nat×aV))}
  {c5:H->af->ah Bool} {eC:H->af->ah H} {ba:Bool} {RR:Value->Addr->Result->Shared->Prop} {E:Value->Shared->Prop}
  (c:kr env.scope.names scope t x) (nU:a1 env ρ s.heap α) (bZ:ju K A false (eval iter env) kG s α) (hc:oe ba c5 eC kG≠.stuck)
  (oS:∀C v s σ α,cR K.hb (gQ scope C env)->a1 (gQ scope C env) ((oj scope env ρ).set t (some v)) s.heap α->aq K.hb s.heap σ α ->
   av K hh A (forIn ifs true fun c r=>if r=true then do let ok <- isTrue c (gQ scope C env) (eval c (gQ scope C env));pure (ForInStep.yield ok)else pure (ForInStep.yield r)) (c5 v σ) s α)
  (oI:∀C v s σ α,cR K.hb (gQ scope C env)->a1 (gQ scope C env) ((oj scope env ρ).set t (some v)) s.heap α->aq K.hb s.heap σ α->av K aj A (eval elt (gQ scope C env)) (eC v σ) s α)
  (bU:fE K A) (aw:cR K.hb env) (mD:∃σ,aq K.hb s.heap σ α)
  (gB:∀e s',dh K A kG s α e s'->E e s') (PI:∀acc C r s',tK K s α (oe ba c5 eC kG) acc C r s'->RR acc C r s') :
  wpAny (model K.prog K.w) A (eval iter env) (fun nR s₁=>wpAny (model K.prog K.w) A (pyIter nR) (fun it bb=>wpAny (model K.prog K.w) A (newList []) (fun acc e3 =>
   wpAny (model K.prog K.w) A (newFunctionEnv scope env.globals (gP env.cells scope.names []) [] env.qual none .none (some env)) (fun cenv nH =>
    codeAny (model K.prog K.w) A (.compStart (.ListComp elt [⟨.Name x h3,iter,ifs,0⟩] scope pos) 0 it acc { cenv with scope:=relabel scope env }) (RR acc cenv.locals) nH) E e3) E bb) E s₁) E s:=by
 have P4:kG≠.stuck:=by rintro rfl;exact hc rfl
 refine cB (bZ P4) (fun nR s₁ cY=>cB cY (fun it bb h₂=>?_) gB) gB;obtain⟨xs,w,au,α₂,own,St,P5,iI,g0,hI,I,st,ho⟩:=h₂;have cell:∀y∈scope.names,y.2≠.cell:=c.nocell;refine wpAny_newObj_type (wpAny_newFunctionEnv cell (by intro y hy;(exact nomatch hy)) (fun cY Au vQ=>?_) c.kind);dsimp only at Au vQ ⊢;generalize z8:bb.heap.push { cls:=.type "list",dict:=none,data:=.seq ([]:List Value).toArray }=eh at Au vQ ⊢
 have z6:eh.objs.size=bb.heap.objs.size+1:=by rw[<- z8,Heap.size_push]
 have Hz:bb.heap.objs.size≠eh.objs.size:=by rw[z6];exact ik (Nat.lt_succ_self _)
 have hJ:∀b o,bb.heap.get? b=some o->cY.get? b=some o:=fun b o e=>vQ.extBut b o (z6.symm▸(ik (Nat.lt_succ_of_lt (fi e)))) (c8 _ (z8▸c8 _ e));have Ag:cY.get? bb.heap.objs.size=some { cls:=.type "list",data:=.seq ([]:List Value).toArray }:=vQ.extBut _ _ Hz (c8 _ (z8▸eJ _ rfl))
 have fresh:∀a,bb.heap.objs.size<=a->bb.heap.get? a=none:=fun a ha=>by
  cases e:bb.heap.get? a with
  | none=>rfl
  | some aP=>exact absurd (fi e) (Nat.not_lt.mpr ha)
 have qg:=fresh bb.heap.objs.size (dz _);have lv:bb.heap.get? eh.objs.size=none:=fresh _ (by rw[z6];exact Nat.le_succ _)
 have t9:∀a,bb.heap.get? a=none->s.heap.get? a=none:=fun a ha=>by
  cases e:s.heap.get? a with
  | none=>rfl
  | some o=>obtain⟨aP,aF⟩:=iI.alive a o ((ew)) e;rw[ha]at aF;contradiction
 have base:∀a,bb.heap.get? a=none->K.hb.get? a=none:=fun a ha=>by
  cases e:K.hb.get? a with
  | none=>rfl
  | some o=>rw[g0.base a o e]at ha;contradiction
 have pI:=nU.ext iI .nil;have jH:aq K.hb cY au ⟨α₂.ix,bb.heap.objs.size::α₂.hid,α₂.fr⟩:=g0.hide qg hJ Ag;have mR:a1 env ρ cY ⟨α₂.ix,bb.heap.objs.size::α₂.hid,α₂.fr⟩:=(pI.hide qg).ext (.keeps (F:=[]) hJ) .nil
 have cells:∀y a,env.cells.lookup y=some a->∃o,s.heap.get? a=some o:=fun y a ha=>by
  refine d4 (nU.ca y a ha) fun J J bi=>?_;refine c1 bi fun v o e J=>?_;exact⟨o,e⟩
 have z5:eh.objs.size∉(⟨α₂.ix,bb.heap.objs.size::α₂.hid,α₂.fr⟩:ay).all:=fun q=>by
  rcases dH.mp q with q | q
  ·refine aM (g0.live q) fun o e=>?_;rw[lv]at e;contradiction
  ·rcases cE.mp q with q | q
   ·exact Hz q.symm
   ·refine aM ((g0.hidden _ q).2) fun o e=>?_;rw[lv]at e;contradiction
 have de:∀y a,env.cells.lookup y=some a->a≠eh.objs.size:=fun y a ha q=>by
  refine aM (cells y a ha) fun o e=>?_;rw[q,t9 _ lv]at e;contradiction
 have LB:=Nn c mR Au z5 de;have jF:=uh c nU
 have apart:mQ (gQ scope eh.objs.size env) own:=by
  refine⟨fun q=>?_,fun y a ha q=>?_⟩
  ·refine aM (I.live _ _ _ st _ q) fun o e=>?_;have aF:bb.heap.get? eh.objs.size=some o:=e;rw[lv]at aF;contradiction
  ·refine aM (cells y a (p0 jF ha)) fun o e=>?_;rw[(ho a q).1]at e;contradiction
 have HD:cR K.hb (gQ scope eh.objs.size env):=⟨base _ lv,fun y a ha=>aw.c y a (p0 jF ha),aw.f⟩
 have hCf:eh.objs.size∉K.hb.fr:=fun q=>by
  obtain⟨_,o,e,_⟩:=g0.frs _ q;rw[lv]at e;contradiction
 have fA:(gQ scope eh.objs.size env).scope.names=dD env.scope.names scope.names:=BD nU.ok.kind;have ra:St 0 cY ⟨α₂.ix,bb.heap.objs.size::α₂.hid,α₂.fr⟩:=I.frame _ [] _ _ _ _ (I.hide _ _ _ _ st qg) (.keeps hJ) (by simp)
 have Jf:∀e3:Shared,e3={ bb with heap:=cY,toks:=bb.toks+([]:List (Str×Value)).length } ->
   codeAny (model K.prog K.w) A (.compLoop (.ListComp elt [⟨.Name x h3,iter,ifs,0⟩] scope pos) 0 it (.ref bb.heap.objs.size) (compEnvC scope (gP env.cells scope.names []) eh.objs.size env))
    (RR (.ref bb.heap.objs.size) eh.objs.size) e3:=by
  rintro e3 rfl
  refine codeAny_mono (No (P:=⟨K,s,α,bb.heap.objs.size,gQ scope eh.objs.size env,t,oj scope env ρ,own⟩) (ba:=ba) (ρ:=oj scope env ρ) (α:=⟨α₂.ix,bb.heap.objs.size::α₂.hid,α₂.fr⟩) (n:=0)
   ⟨fun b hb=>(ho b hb).1,t9 _ qg,t9 _ lv,base _ qg,base _ lv,?_,apart,hCf⟩ I (fA.symm▸c.tgt) (fA.symm▸c.sc.uniq) hc
   (fun v s σ α=>oS _ v s σ α HD) (fun v s σ α=>oI _ v s σ α HD) ⟨by show _::α₂.hid=_;rw[iI.hid],?_,jH,LB,fun v=>rfl,Ag,.nil,hI.gens,hI.os⟩ ra ?_) (fun r s'=>PI _ _ r s')
  ·refine aM mD fun σ mD=>?_;intro q;refine aM ((mD.hidden _ q).2) fun o e=>?_;rw[t9 _ qg]at e;contradiction
  ·have ax:a4 [] α s.heap ⟨α₂.ix,α.hid,α₂.fr⟩ bb.heap:=by
    have:=iI.rehid α.hid;exact this
   exact ax.trans (.keeps hJ)
  ·rw[P5];rfl
 exact codeAny_compStart_list (Jf _ rfl) (I.self 0 _ _ ra _ _ (Jf _ rfl))
theorem Sx{iter:Expr}{kG:ah (List H×Option (Nat×aV))}
  {c5:H->af->ah Bool} {eC:H->af->ah H} {ba:Bool}
  (c:kr env.scope.names scope t x) (nU:a1 env ρ s.heap α) (bZ:ju K A false (eval iter env) kG s α)
  (oS:∀C v s σ α,cR K.hb (gQ scope C env)->a1 (gQ scope C env) ((oj scope env ρ).set t (some v)) s.heap α->aq K.hb s.heap σ α ->
   av K hh A (forIn ifs true fun c r=>if r=true then do let ok <- isTrue c (gQ scope C env) (eval c (gQ scope C env));pure (ForInStep.yield ok)else pure (ForInStep.yield r)) (c5 v σ) s α)
  (oI:∀C v s σ α,cR K.hb (gQ scope C env)->a1 (gQ scope C env) ((oj scope env ρ).set t (some v)) s.heap α->aq K.hb s.heap σ α->av K aj A (eval elt (gQ scope C env)) (eC v σ) s α)
  (bU:fE K A) (aw:cR K.hb env) (mD:aq K.hb s.heap σ α) (hs:∀x,foldedSetIterable iter env x=pure x) :
  av K aj A (eval (.ListComp elt [⟨.Name x h3,iter,ifs,0⟩] scope pos) env) (oe ba c5 eC kG) s α:=by
 intro hc;rw[eval_ListComp];refine wpAny_comprehension_free (use:=none) rfl hs (Dn (uh c nU)) c.kind c.names (Dt (ba:=ba) (RR:=fun acc C=>compPost (model K.prog K.w) A _ none _ acc C) c nU bZ hc oS oI bU aw ⟨_,mD⟩ (fun e s' hx=>?_) ?_)
 ·obtain⟨i,σ',V,eU⟩:=hx;exact⟨i,σ',by rw[V];rfl,eU⟩
 ·rintro acc C r s' ⟨rfl,v,σ',α',m,e,aQ,aJ,vr,mG,ns,ha,hC,hbC,hCf⟩
  ·refine⟨m,ns,fun h' dJ=>?_⟩
   obtain⟨By,tI⟩:=aJ.but ha hbC (fun b o hb e=>(dJ.2 b hb).trans e) (fun o e=>by
    refine l8 (id ns) fun aP es ez aF d J=>?_;rw[e]at aF;obtain rfl:=oi aF
    exact gX.notSolid ⟨_,_,d⟩) fun q=>absurd q hCf
   exact⟨v,σ',α',e,aQ.sameBut hC (fun b hb=>dJ.2 b hb),By,vr.ext tI,mG.trans ⟨rfl,rfl⟩⟩
end
noncomputable def jm:Expr->Bool
 | .Set ..=>false
 | .Starred ..=>false
 | _=>true
theorem J6(h:jm e=true):behindInMarks gF e=false:=by
 cases e <;> first | rfl | contradiction
theorem Bs(h:jm e=true)(x:Value):foldedSetIterable e env x=pure x:=by
 cases e <;> first | rfl | contradiction
theorem iE{rest:List Expr}(h:jm e=true):starEach (e::rest) env=(false,eval e env)::starEach rest env:=by
 cases e <;> first | rfl | contradiction
inductive Cy(h:Heap)(c:Nat)(up:List Nat):Prop
 | mk (nm q:Str) (N:Addr) (bs:List Value) (hdct:Bool) (sn:List Str) (sub:List Value) (ab:Bool) (col:Option Bool) (dd:Option Addr) (k0 k1 k2 k3 k5:Option Value)
   (ho:h.get? c=some (excClassObj nm q c N bs (up.map Value.ref++[.type "ValueError",.type "Exception",.type "BaseException",.type "object"]) hdct sn sub ab col dd k0 k1 k2 k3 k5 "ValueError.__new__"))
   (mN:Str->Option Value) (aw:h.Ns N mN) (hi:mN "__init__" = none):Cy h c up
structure pH(K:a3)(x:Str)(c:Nat)(up:List Nat):Prop where
 mg:K.mg x=some (.ref c)
 ob:Cy K.hb.h c up
 tail:OwnTail K.hb.h [.type "ValueError",.type "Exception",.type "BaseException",.type "object"] (up.map Value.ref++[.type "ValueError",.type "Exception",.type "BaseException",.type "object"])
open PySem.W in
structure kq(K:a3)(F:Frag)(b:Str)(c:Addr):Prop where
 mg:K.mg b=some (.ref c)
 inn:F.In K.hb.h
 keep:keepIn F (.ref c)=true
 makes:makesIn F c=true
 plain:plainOver F c=true
 hasd:(clsIn F c).any (·.hasDict)=true
 seta:findIn F (.ref c) "__setattr__" = some (some (.builtin "object.__setattr__"))
 free:∀n∈ll,takerIn F c n=some none
 geta:findIn F (.ref c) "__getattribute__" = some (some (.builtin "object.__getattribute__"))
 getr:findIn F (.ref c) "__getattr__" = some none
 none:∀n∈ll,findIn F (.ref c) n=some none
noncomputable def xf(K:a3)(A:Around):Prop:=∃(a:Addr) (o:Obj) (vs:Array Value),A.handled=some (.ref a)/\K.hb.get? a=some o/\o.data=.fields vs/\vs[2]?=some .none
structure cn(K:a3)(A:Around)(T:bl)(C:bq):Prop where
 hK:K.Ok
 hA:eF A
 hd:C.hd=false->A.handled=none
 ph:K.ph=C.hd
 rz:C.rz=true->C.hd=true->xf K A
 fr:fE K A
 exc:∃F:PySem.W.Frag,F.In K.hb.h/\∀p∈T.excs,pH K p.1 p.2.1 p.2.2/\ov F T p.2.1=true
 cst:∀x v,T.cst.lookup x=some v->∃u,K.mg x=some u/\∀h σ α,aq K.hb h σ α->aj h α v u
 fn:∀f x,T.fns[f]?=some x->∃a o fd,K.mg x=some (.ref a)/\K.hb.get? a=some o/\o.data=.func fd/\∀vs us s σ α,aq K.hb s.heap σ α->bj s.heap α vs us->av K aj A (call (.ref a) us) (C.call f vs σ) s α
 bin:∀x,x∈T.bins->K.mg x=none/\∃v,lm x=some v/\K.mb x=some v
 brd:∀b c,T.brd=some (b,c)->∃F,kq K F b c/\(∀j,T.meths[j]?=some ("__init__" : Str)->∀vs us s σ α,aq K.hb s.heap σ α->bj s.heap α vs us->av K aj A (call (.ref c) us) (my C c (T.fns.length+j) vs σ) s α)
  /\ ∀j n,T.meths[j]?=some n->∃a o fd,PySem.W.findIn F (.ref c) n=some (some (.ref a))/\PySem.W.typeIn F (.ref a)=some (.type "function")/\K.hb.get? a=some o/\o.data=.func fd/\∀vs us s σ α,aq K.hb s.heap σ α->bj s.heap α vs us->av K aj A (call (.ref a) us) (C.call (T.fns.length+j) vs σ) s α
noncomputable def jQ(K:a3)(A:Around)(C:bq)(N:List (Str×NameKind))(e:Expr)(x:X):Prop:=
 ∀env ρ σ s α,env.scope.names=N->cR K.hb env->a1 env ρ s.heap α->aq K.hb s.heap σ α ->
  av K aj A (eval e env) (ev C x ρ σ) s α/\av K hh A (isTrue e env (eval e env)) (tst C x ρ σ) s α
noncomputable def cf(K:a3)(A:Around)(C:bq)(f:List (Str×NameKind)->Expr->Option X):Prop:=
 ∀N e x,f N e=some x->jm e=true/\jQ K A C N e x
section
variable {β γ lV ro:Type}{dW:Heap->ay->β->γ->Prop}{tV:Heap->ay->lV->ro->Prop}
theorem av.operate{t:Sem Value}{dW:Heap->ay->β->Value->Prop}{c:ah β}(ar:av K dW A t c s α):av K dW A (operate vs t) c s α:=
 fun h=>wpAny_operating (ar h)
theorem O3{t:Sem Value}{c:ah H}{p:Pos}(ar:av K aj A t c s α):av K hh A (do let v <- t;standAt p;holding [v] (truthy v)) (c.bind i0) s α:=
 av.bind ar fun b σ' α' y s' J x r v m=>av.standAt (av.holding (wW r v))
theorem eO.vr{b:Bool}(v:eO h α b y):aj h α (.bool b) y:=by
 have:y=.bool b:=v;subst this;exact .bool b
end
theorem Dw{c:Const}{v:H}{k:Nat}{p:Pos}(h:wT c=some v)(r:aq K.hb s.heap σ α):av K aj A (eval (.Constant c k p) env) (.ok v σ) s α:=by
 intro _
 cases c with
 | none=>obtain rfl:=oi h;exact wpAny_Constant_none (cz.here (tk:=s.toks) r .none)
 | bool b=>obtain rfl:=oi h;exact wpAny_Constant_bool (cz.here (tk:=s.toks) r (.bool b))
 | int i=>obtain rfl:=oi h;exact wpAny_Constant_int (cz.here r (.int i _))
 | str x =>
  change cm _ _=_ at h
  exact cU h fun hx h=>by obtain rfl:=oi h;exact wpAny_Constant_str (cz.here r (.str x _ hx))
 | _=>contradiction
theorem fI{y:X}(he:∀env tH,isTrue e env tH=(do let v <- tH;standAt e.pos;holding [v] (truthy v)))(aO:∀ρ σ,tst C y ρ σ=(ev C y ρ σ).bind i0)
  (ar:∀{env ρ σ s α},env.scope.names=N->cR K.hb env->a1 env ρ s.heap α->aq K.hb s.heap σ α->av K aj A (eval e env) (ev C y ρ σ) s α):jQ K A C N e y:=fun env ρ σ s α aw hn E r =>
 ⟨ar aw hn E r,by rw[he,aO];exact O3 (ar aw hn E r)⟩
theorem ID{q:Str×NameKind}(hi:N.findIdx? (·.1 == x)=some i)(hq:N[i]?=some q):q.1=x:=by
 refine az (List.findIdx?_eq_some_iff_getElem.mp hi) fun L O J=>?_;obtain rfl:=oi ((dA L).symm.trans hq);exact eq_of_beq O
theorem W7{y:X}{p:Pos}(c:cn K A T C)(h:B3 T N x=some y):jQ K A C N (.Name x p) y:=by
 unfold B3 at h;refine cF h fun i hi h=>cF h fun q hq h=>?_;have hx:=ID hi hq;obtain⟨z,k⟩:=q;dsimp only at hx;subst hx
 cases k with
 | «local»=>obtain rfl:=oi h;exact fI (fun J J=>rfl) (fun J J=>rfl) fun aw J E r=>JB r E (by rw[aw];exact hq)
 | cell=>obtain rfl:=oi h;exact fI (fun J J=>rfl) (fun J J=>rfl) fun aw J E r=>JB r E (by rw[aw];exact hq)
 | globalImplicit =>
  change(T.cst.lookup z).map X.k=_ at h;refine fR h fun v hv=>?_;refine az (c.cst z v hv) fun u L O=>?_;exact fI (fun J J=>rfl) (fun J J=>rfl) fun{env ρ σ s α} aw _ E r _=>qJ c.hK r E.ok (aw.symm▸hq) L ⟨v,σ,α,rfl,.refl,r,O _ _ _ r,.refl s⟩
 | _=>contradiction
theorem nL{g:Expr->Option X}{es:List Expr}{xs:X}(h:fW g (e::es)=some xs):∃a b,g e=some a/\fW g es=some b/\xs=.cons a b:=by
 change bR _ _ _=_ at h;exact gf (M:=fun xs=>∃a b,g e=some a/\fW g es=some b/\xs=.cons a b) h fun a b L O=>⟨a,b,L,O,rfl⟩
theorem p7{es:List Expr}{xs:X}(S:cf K A C f)(h:fW (f N) es=some xs)(aw:env.scope.names=N)(hn:cR K.hb env) :
  ∀{σ s α},a1 env ρ s.heap α->aq K.hb s.heap σ α->av K bj A (spliced (backTo pos (starEach es env))) (evs C xs ρ σ) s α:=by
 induction es generalizing xs with
 | nil =>
  obtain rfl:=oi h;intro σ s α E r;simp only[hV,lq];exact fun J=>wpAny_items_nil ⟨[],σ,α,rfl,.refl,r,.nil,.refl s⟩
 | cons e es ao =>
  obtain⟨a,b,ha,hb,rfl⟩:=nL h
  ·skip
   intro σ s α E r;obtain⟨hp,ar⟩:=S N e a ha;have ar:=(ar env ρ σ s α aw hn E r).1;simp only[hV,lq];intro hc;refine wpAny_items_cons ?_ (iE hp)
   have L:ev C a ρ σ≠.stuck:=by intro q;rw[q]at hc;exact hc rfl
   refine cB (ar L) (fun v s₁ hp=>?_) fun e s₁ hx=>?_
   ·obtain⟨pv,ac,bc,V,aZ,aY,a0,a6⟩:=hp;rw[V]at hc ⊢
    have O:evs C b ρ ac≠.stuck:=by intro q;simp[ah.bind,q]at hc
    refine cB (ao hb (E.ext aZ .nil) aY O) (fun vs bb hp=>?_) fun e bb hx=>?_
    ·obtain⟨UU,au,α₂,ak,bz,r2,bN,cP⟩:=hp;refine⟨pv::UU,au,α₂,by simp[ah.bind,ak],aZ.trans bz,r2,.cons (a0.ext bz) bN,a6.trans cP⟩
    ·obtain⟨i,au,ak,d5,eU⟩:=hx;exact⟨i,au,by simp[ah.bind,ak],d5,eU.lift aZ a6⟩
   ·obtain⟨i,ac,V,d5,eU⟩:=hx;exact⟨i,ac,by rw[V];rfl,d5,eU⟩
theorem Ma{es:List Expr}{xs:X}(S:cf K A C f)(h:fW (f N) es=some xs)(aw:env.scope.names=N)(hn:cR K.hb env) :
  ∀{σ s α},a1 env ρ s.heap α->aq K.hb s.heap σ α->av K aj A (boolOp pos .And (evalEach es env)) (evAnd C xs ρ σ) s α/\av K hh A (allTrue .And es env) (tstAnd C xs ρ σ) s α:=by
 induction es generalizing xs with
 | nil =>
  obtain rfl:=oi h;intro σ s α E r;refine⟨fun hc=>absurd (by simp only[x6,x7,rY]) hc,?_⟩;simp only[K6,rg];exact fun J=>wpAny_allTrue_And_nil ⟨true,σ,α,rfl,.refl,r,rfl,.refl s⟩
 | cons e es ao =>
  obtain⟨a,b,ha,hb,rfl⟩:=nL h
  ·skip
   intro σ s α E r;obtain⟨hp,ar⟩:=S N e a ha;have ar:=ar env ρ σ s α aw hn E r;constructor
   ·cases es with
    | nil =>
     obtain rfl:=oi hb;simp only[x6,x7,rY];exact ar.1
    | cons ak N3 =>
     have Ah:∃b1 dR,b=.cons b1 dR:=by
      obtain⟨b1,dR,_,_,rfl⟩:=nL hb;exact⟨_,_,rfl⟩
     obtain⟨b1,dR,rfl⟩:=Ah;simp only[x6,x7,rY];refine av.bind ar.1 fun v ac bc y s₁ V aZ aY a0 a6=>av.standAt ?_;refine av.bind (av.holding (wW aY a0)) fun t au α₂ h9 bb ak bz r2 bN cP=>?_;have:h9=t:=bN;subst this
     cases h9 with
     | false=>simp only[Bool.false_eq_true,if_false];exact av.pure r2 (a0.ext bz)
     | true=>simp only[if_true];exact(ao hb ((E.ext aZ .nil).ext bz .nil) r2).1
   ·simp only[K6,rg];refine av.bind ar.2 fun t ac bc y s₁ V aZ aY a0 a6=>?_;have:y=t:=a0;subst this
    cases y with
    | false=>simp only[Bool.false_eq_true,if_false];exact av.pure aY rfl
    | true=>simp only[if_true];exact(ao hb (E.ext aZ .nil) aY).2
theorem Ui{es:List Expr}{xs:X}(S:cf K A C f)(h:fW (f N) es=some xs)(aw:env.scope.names=N)(hn:cR K.hb env) :
  ∀{σ s α},a1 env ρ s.heap α->aq K.hb s.heap σ α->av K aj A (boolOp pos .Or (evalEach es env)) (evOr C xs ρ σ) s α/\av K hh A (allTrue .Or es env) (tstOr C xs ρ σ) s α:=by
 induction es generalizing xs with
 | nil =>
  obtain rfl:=oi h;intro σ s α E r;refine⟨fun hc=>absurd (by simp only[x9,ya,ut]) hc,?_⟩;simp only[K7,rh];exact fun J=>wpAny_allTrue_Or_nil ⟨false,σ,α,rfl,.refl,r,rfl,.refl s⟩
 | cons e es ao =>
  obtain⟨a,b,ha,hb,rfl⟩:=nL h
  ·skip
   intro σ s α E r;obtain⟨hp,ar⟩:=S N e a ha;have ar:=ar env ρ σ s α aw hn E r;constructor
   ·cases es with
    | nil =>
     obtain rfl:=oi hb;simp only[x9,ya,ut];exact ar.1
    | cons ak N3 =>
     have Ah:∃b1 dR,b=.cons b1 dR:=by
      obtain⟨b1,dR,_,_,rfl⟩:=nL hb;exact⟨_,_,rfl⟩
     obtain⟨b1,dR,rfl⟩:=Ah;simp only[x9,ya,ut];refine av.bind ar.1 fun v ac bc y s₁ V aZ aY a0 a6=>av.standAt ?_;refine av.bind (av.holding (wW aY a0)) fun t au α₂ h9 bb ak bz r2 bN cP=>?_;have:h9=t:=bN;subst this
     cases h9 with
     | true=>simp only[if_true];exact av.pure r2 (a0.ext bz)
     | false=>simp only[Bool.false_eq_true,if_false];exact(ao hb ((E.ext aZ .nil).ext bz .nil) r2).1
   ·simp only[K7,rh];refine av.bind ar.2 fun t ac bc y s₁ V aZ aY a0 a6=>?_;have:y=t:=a0;subst this
    cases y with
    | true=>simp only[if_true];exact av.pure aY rfl
    | false=>simp only[Bool.false_eq_true,if_false];exact(ao hb (E.ext aZ .nil) aY).2
set_option maxRecDepth 100000
section
open PySem.W
section
variable {prog:Program}{w:World}{g:Array GenState}{d:Drawn}{t:Nat}{os:OsState}{c:Addr}{ce:Frag}
theorem X9{aq:Result->Shared->Prop}(X:ce.In h)(hx:h.get? a=some o)(hc:o.cls=.ref c)(ho:subIn ce (.ref c) (.type "object")=some true)(hq:aq (.ok (.ret (.ref c))) ⟨h,g,d,t,os⟩) :
  codeAny (model prog w) A (.call (.builtin "getset_descriptor.__get__") ⟨[.builtin "object.__class__",.ref a,.ref c],[]⟩) aq ⟨h,g,d,t,os⟩:=by
 have HE:(⟨h,g,d,t,os⟩:Shared).TypeIs (.builtin "object.__class__") "getset_descriptor" := F.typeOf_object_class
 have sF:subIn ce (.ref c) (.type (".".intercalate ("object.__class__".cutAt '.').dropLast))=some true:=by exact F.owner_object_class.symm▸ho
 have aG:=looks_subIn (M:=model prog w) X sF;refine codeAny_call_builtin F.slot_gs_get.plain F.entry_gs_get (F.slot_gs_get.check _ _ _ _ _ _ _ _ HE (F.args_gs_get _ _ _) ?_)
 repeat (any_goals (first | assumption | (with_reducible refine wpAny_loadPart_at hx ?_;rw[hc]) | with_reducible refine aG.at ?_ | wp_step))
 refine⟨Code.quiet_builtin _ (by decide +kernel),codeAny_builtin F.entry_object_class ?_⟩
 repeat (any_goals (first | assumption | (with_reducible refine wpAny_loadPart_at hx ?_;rw[hc]) | wp_step))
theorem X8{tk:Tok}{Q:Fin->Shared->Prop}(X:ce.In h)(hx:h.get? a=some o)(hc:o.cls=.ref c)(ho:subIn ce (.ref c) (.type "object")=some true)(hl:findIn ce (.ref c) "__class__" = some (some (.builtin "object.__class__")))
  (hq:Q (.done (.ret (.ref c))) ⟨h,g,d,t,os⟩):wpAny (model prog w) A (Builtin.«object.__getattribute__» ⟨[.ref a,.str "__class__" tk],[]⟩) Q E ⟨h,g,d,t,os⟩:=by
 have HE:(⟨h,g,d,t,os⟩:Shared).TypeIs (.builtin "object.__class__") "getset_descriptor" := F.typeOf_object_class;have ox:=F.typeOf_object_class;have DV:=F.slot_gs_get.lookup;have YS:=F.slot_gs_set.lookup;have aG:=looks_findIn (M:=model prog w) X hl
 repeat (any_goals (first | assumption | (with_reducible refine wpAny_loadPart_at hx ?_;rw[hc]) | with_reducible refine aG.at ?_ | wp_step))
 refine X9 X hx hc ho ?_
 repeat (any_goals (first | assumption | wp_step))
theorem X5{M:Model}{JA:Value}{Q:Unit->Shared->Prop}(X:ce.In h)(hx:h.get? a=some o)(hc:o.cls=.ref c)(hb:subIn ce (.ref c) (.type "BaseException")=some true)(hq:Q () ⟨h,g,d,t,os⟩) :
  wpAny M A (checkBuiltinCall "BaseException.__getattribute__" ⟨[.ref a,JA],[]⟩) Q E ⟨h,g,d,t,os⟩:=by
 have hk:builtinKind "BaseException.__getattribute__" = some .slot:=by decide +kernel
 have Q0:splitId "BaseException.__getattribute__" = some ("BaseException", "__getattribute__"):=by decide +kernel
 have aG:=looks_subIn (M:=M) X hb;have ha:=F.args_bexc_ga (.ref a) JA;simp only[checkBuiltinCall,hk,Q0];refine aN ?_
 ·unfold isInstance
  repeat (first | (with_reducible refine wpAny_loadPart_at hx ?_;rw[hc]) | with_reducible refine aG.at ?_ | wp_step)
  exact hq
theorem X7{tk:Tok}(X:ce.In h)(hx:h.get? a=some o)(hc:o.cls=.ref c)(hb:subIn ce (.ref c) (.type "BaseException")=some true)(ho:subIn ce (.ref c) (.type "object")=some true)
  (hl:findIn ce (.ref c) "__class__" = some (some (.builtin "object.__class__"))) (Aq:findIn ce (.ref c) "__getattribute__" = some (some (.builtin "BaseException.__getattribute__"))) (oJ:findIn ce (.ref c) "__getattr__" = some none)
  (hq:Q (.ref c) ⟨h,g,d,t,os⟩):wpAny (model prog w) A (getAttrBy (.ref a) (.str "__class__" tk) false) Q E ⟨h,g,d,t,os⟩:=by
 have r0:=F.attr_ValueError.ga.bind (.ref a)
 have Re:(Value.builtin "BaseException.__getattribute__" == Value.builtin "object.__getattribute__")=false:=by decide +kernel
 have qm:(onTheHeap (Value.ref c)&&Value.builtin "BaseException.__getattribute__" == Value.builtin "object.__getattribute__")=false:=by rw[Re];rfl
 have LI:=looks_findIn (M:=model prog w) X Aq;have tR:=looks_findIn (M:=model prog w) X oJ
 repeat (any_goals (first | assumption | (with_reducible refine wpAny_loadPart_at hx ?_;rw[hc]) | with_reducible refine LI.at ?_ | with_reducible refine tR.at ?_ | wp_step))
 refine codeAny_call_builtin F.attr_ValueError.ga.plain F.entry_bexc_ga (X5 X hx hc hb (X8 X hx hc ho hl ?_))
 repeat (any_goals (first | assumption | wp_step))
theorem X6{Q:Option Value->Shared->Prop}(X:ce.In h)(hx:h.get? a=some o)(hc:o.cls=.ref c)(hb:subIn ce (.ref c) (.type "BaseException")=some true)(ho:subIn ce (.ref c) (.type "object")=some true)
  (hl:findIn ce (.ref c) "__class__" = some (some (.builtin "object.__class__"))) (Aq:findIn ce (.ref c) "__getattribute__" = some (some (.builtin "BaseException.__getattribute__"))) (oJ:findIn ce (.ref c) "__getattr__" = some none)
  (hq:Q (some (.ref c)) ⟨h,g,d,t+1,os⟩):wpAny (model prog w) A (getAttr? (.ref a) "__class__") Q E ⟨h,g,d,t,os⟩:=by
 unfold getAttr? getAttrBy?
 repeat (any_goals (first | assumption | with_reducible apply X7 X hx hc hb ho hl Aq oJ | wp_step))
end
theorem uv{ce:Frag}(e:ov ce T c=true):findIn ce (.ref c) "__getattribute__" = some (some (.builtin "BaseException.__getattribute__"))/\findIn ce (.ref c) "__getattr__" = some none/\findIn ce (.ref c) "__class__" = some (some (.builtin "object.__class__")) ∧
  subIn ce (.ref c) (.type "BaseException")=some true/\subIn ce (.ref c) (.type "object")=some true/\(clsIn ce c).isSome=true/\(∀q∈T.excs,kitOne ce (.ref c) (.ref q.2.1)=some ((kZ T q.2.1).contains c))/\kitOne ce (.ref c) (.type "ValueError")=some true:=by
 unfold ov at e;simp only[eW,fy,fZ]at e;obtain⟨⟨⟨⟨⟨⟨⟨L,O⟩,ax⟩,aT⟩,c2⟩,gA⟩,sh⟩,si⟩:=e;exact⟨L,O,ax,aT,c2,gA,fun q hq=>by have:=sh q hq;exact this,si⟩
set_option tactic.hygienic true in
theorem Sb{ce:Frag}{c:Addr}(e:ov ce T c=true):KitX ce (.ref a) (.ref c) (fun h=>∃o,h.get? a=some o/\o.cls=.ref c) where
 ty:=fun M h J p=>by
  refine az p fun o L O=>?_;exact O▸(Looks.ld L).andThen .now
 it:=fun J J X J=>by
  have hc:=(uv e).2.2.2.2.2.1;unfold clsIn at hc
  split at hc
  ·rename_i cC fj M5 pu ho;intro Ct nZ dP s' k q;unfold isType loadHead;exact aN (wpAny_loadPart (k _ _ (X _ _ ho)) (bO q))
  ·contradiction
 ne:=fun h tp dd Zc n cQ X Q4=>by
  have hc:=(uv e).2.2.2.2.2.1;refine Bool.eq_false_iff.mpr fun q=>?_;have e:c=tp:=Value.ref.inj (fy.mp q);subst e;unfold clsIn at hc
  split at hc
  ·rename_i cC fj M5 pu ho;have z:=(X _ _ ho).symm.trans Q4;cases z
  ·contradiction
 ca:=fun{_ _ _ _ _ s} X p k=>by
  refine az p fun o L O=>?_;refine uq (uv e) fun q1 q2 q3 q4 q5 J=>?_;obtain⟨h,g,d,t,os⟩:=s;exact X6 X L O q4 q5 q3 q1 q2 k
set_option tactic.hygienic true in
theorem RE{a:H}{x cv:Value}(gR:cn K A T C)(Al:(∃q∈T.excs,cv=.ref q.2.1/\eN=kZ T q.2.1)\/(cv=.type "ValueError" /\ eN=T.excs.map (·.2.1)))
  (r:aq K.hb s.heap σ α) (aA:aj s.heap α a x):av K eO A (call (.builtin "isinstance") [x,cv]) (v5 a eN (T.excs.map (·.2.1)) σ) s α:=by
 intro hc
 cases a with
 | exc c =>
  have bP:v5 (.exc c) eN (T.excs.map (·.2.1)) σ=if(T.excs.map (·.2.1)).contains c then .ok (eN.contains c) σ else .stuck:=rfl
  rw[bP]at hc ⊢
  split at hc
  ·rename_i hd;rw[aE hd]
   cases aA with
   | exc e jF _ _ =>
    refine az (cL.mp (mY.mp hd)) fun p hp QJ=>?_;refine az gR.exc fun ce X ar=>?_;have he:=(ar p hp).2;rw[QJ]at he;refine NM (uv he) fun J J J J J J q7 q8=>?_
    have hk:kitOne ce (.ref c) cv=some (eN.contains c):=by
     rcases Al with⟨q,hq,rfl,rfl⟩ | ⟨rfl,rfl⟩
     ·exact q7 q hq
     ·exact hd.symm▸q8
    exact kia_one (Sb he) (X.keeps r.base) ⟨_,e,jF⟩ hk (by(intro q;exact nomatch q)) fun tk=>⟨_,σ,α,rfl,.refl,r,rfl,⟨rfl,rfl⟩⟩
  ·exact absurd rfl hc
 | _=>exact absurd rfl hc
end
section
variable {β γ lV ro:Type}{dW:Heap->ay->β->γ->Prop}{tV:Heap->ay->lV->ro->Prop}
theorem MG{a:β}{f:β->af->ah lV}:(ah.ok a σ).bind f=f a σ:=rfl
theorem cz.lift{c:ah β}{y:γ}(x:a4 [] α s.heap bc s₁.heap)(m:cA s s₁)(p:cz K dW c s₁ bc y s'):cz K dW c s α y s':=by
 obtain⟨b,σ',α',e,aQ,r,v,bJ⟩:=p;exact⟨b,σ',α',e,x.trans aQ,r,v,m.trans bJ⟩
theorem dh.bind{c:ah β}{f:β->af->ah lV}(p:dh K A c s α y s'):dh K A (c.bind f) s α y s':=by
 obtain⟨i,σ',e,eU⟩:=p;exact⟨i,σ',by rw[e];rfl,eU⟩
theorem av.useL{t:Sem γ}{c:ah β}{f:β->af->ah lV}{W:γ->Shared->Prop}(w6:a4 [] js s₀.heap α s.heap)(wm:cA s₀ s)(ar:av K dW A t c s α)(hc:c.bind f≠.stuck)
  (N:∀b σ' α' y s',c=.ok b σ'->f b σ'≠.stuck->a4 [] α s.heap α' s'.heap->aq K.hb s'.heap σ' α'->dW s'.heap α' b y->cA s s'->W y s'):wpAny (model K.prog K.w) A t W (dh K A (c.bind f) s₀ js) s:=by
 have L:c≠.stuck:=by rintro rfl;exact hc rfl
 refine cB (ar L) (fun y s' hp=>?_) fun e s' hx=>(hx.lift w6 wm).bind;obtain⟨b,σ',α',rfl,x,r,v,m⟩:=hp;exact N b σ' α' y s' rfl hc x r v m
theorem av.endL{t:Sem γ}{c:ah β}(w6:a4 [] js s₀.heap α s.heap)(wm:cA s₀ s)(ar:av K dW A t c s α)(hc:c≠.stuck):wpAny (model K.prog K.w) A t (cz K dW c s₀ js) (dh K A c s₀ js) s:=
 cB (ar hc) (fun J J h=>h.lift w6 wm) fun J J h=>h.lift w6 wm
theorem av.use{t:Sem γ}{c:ah β}{f:β->af->ah lV}{W:γ->Shared->Prop}(ar:av K dW A t c s α)(hc:c.bind f≠.stuck)
  (N:∀b σ' α' y s',c=.ok b σ'->f b σ'≠.stuck->a4 [] α s.heap α' s'.heap->aq K.hb s'.heap σ' α'->dW s'.heap α' b y->cA s s'->W y s'):wpAny (model K.prog K.w) A t W (dh K A (c.bind f) s α) s:=ar.useL .refl (.refl s) hc N
theorem av.boolV{t:Sem Value}{c:ah Bool}(ar:av K eO A t c s α):av K aj A t (c.bind fun b σ=>.ok (.bool b) σ) s α:=by
 intro hc
 have L:c≠.stuck:=by rintro rfl;exact hc rfl
 refine cB (ar L) (fun y s' hp=>?_) fun e s' hx=>hx.bind;obtain⟨b,σ',α',rfl,x,r,v,m⟩:=hp;exact⟨_,_,_,rfl,x,r,v.vr,m⟩
end
theorem qu(h:fQ N g=true):∃i:Nat,N[i]?=some (g,NameKind.globalImplicit):=by
 unfold fQ at h;obtain⟨i,_,hi⟩:=AO (by simpa using h);exact⟨i,hi⟩
theorem kF{mZ:Value}{p:Pos}{X:Value->Shared->Prop}(c:cn K A T C)(hg:fQ N g=true)(hY:g∈T.bins)(hv:lm g=some mZ)(aw:env.scope.names=N)(E:tO env)(r:aq K.hb s.heap σ α)(h:Q mZ s):wpAny (model K.prog K.w) A (eval (.Name g p) env) Q X s:=by
 obtain⟨hm,v,Q6,Qz⟩:=c.bin _ hY;refine aM (qu hg) fun j a8=>?_;obtain rfl:=oi (hv.symm.trans Q6);exact Tu c.hK r E (aw▸a8) hm Qz h
theorem MS{p:Pos}{xs:X}(c:cn K A T C)(S:cf K A C f)(hi:T.fns[i]?=some g)(hg:fQ N g=true)(de:args≠[])(h:fW (f N) args=some xs)
  (aw:env.scope.names=N) (hn:cR K.hb env) (E:a1 env ρ s.heap α) (r:aq K.hb s.heap σ α) :
  av K aj A (eval (.Call (.Name g p) args [] pos) env) ((evs C xs ρ σ).bind fun vs σ=>C.call i vs σ) s α:=by
 intro hc;refine ur (c.fn i g hi) fun a o fd hm ho hd kb=>?_;refine aM (qu hg) fun j a8=>?_;refine kC (qJ c.hK r E.ok (aw.symm▸a8) hm ?_)
 cases args with
 | nil=>exact absurd rfl de
 | cons e es =>
  have ar:=p7 (pos:=pos) S h aw hn E r;refine l7 (nL h) fun eu cO ka gC J=>?_;rw[iE (S N e eu ka).1]at ar ⊢;refine Calls.callWith_function (o:=o) (fd:=fd) (Calls.evalArgs_plain (av.use ar hc fun vs σ' α' us s' V cy aQ aJ dL bJ=>?_));refine⟨⟨aJ.base _ _ ho,hd⟩,?_⟩;exact V.symm▸((kb vs us s' σ' α' aJ dL).endL aQ bJ cy)
theorem MA{b:eG}(h:t8 ba g=some b):lm g=some (n9 b):=
 (show ∀p∈xI ba,lm p.1=some (n9 p.2)from(by repeat (first | refine List.forall_mem_cons.mpr ⟨rfl,?_⟩ | exact fun J h=>nomatch h))) _ (o3 h)
theorem MB{t:jZ}(h:Ce g=some t):lm g=Cf t:=
 (show ∀p∈Lc,lm p.1=Cf p.2 from(by repeat (first | refine List.forall_mem_cons.mpr ⟨rfl,?_⟩ | exact fun J h=>nomatch h))) _ (o3 h)
noncomputable def IN(b:eG):Bool:=
 match n9 b with
 | .none=>true
 | _=>false
theorem xH{b:eG}(h:t8 ba g=some b):n9 b≠.none:=by
 have h:=(show ∀p∈xI ba,IN p.2=false from(by repeat (first | refine List.forall_mem_cons.mpr ⟨rfl,?_⟩ | exact fun J h=>nomatch h))) _ (o3 h);intro e;unfold IN at h;rw[e]at h;contradiction
theorem C9{hd:Bool}{b:eG}{a:H}(h:i8 hd b a σ≠.stuck):(vH b=true->hd=false)/\i8 hd b a σ=dx b a σ:=by
 unfold i8 at h ⊢
 cases hd with
 | false=>exact⟨fun J=>rfl,rfl⟩
 | true =>
  cases hb:vH b with
  | false=>exact⟨fun q=>(by contradiction),rfl⟩
  | true=>rw[hb]at h;exact absurd rfl h
theorem Mw{a:Expr}{p:Pos}{b:eG}{x:X}(c:cn K A T C)(S:cf K A C f)(hb:t8 ba g=some b)(hg:fQ N g=true)(hY:g∈T.bins)(h:f N a=some x)
  (aw:env.scope.names=N) (hn:cR K.hb env) (E:a1 env ρ s.heap α) (r:aq K.hb s.heap σ α) :
  av K aj A (eval (.Call (.Name g p) [a] [] pos) env) ((ev C x ρ σ).bind fun v σ=>i8 C.hd b v σ) s α:=by
 intro hc;refine aW (S N a x h) fun hp ar=>?_;have ar:=(ar env ρ σ s α aw hn E r).1;refine kC (kF c hg hY (MA hb) aw E.ok r ?_);rw[iE hp]
 have fin:wpAny (model K.prog K.w) A (eval a env) (fun y s'=>wpAny (model K.prog K.w) A (call (n9 b) [y]) (cz K aj ((ev C x ρ σ).bind fun v σ=>i8 C.hd b v σ) s α) (dh K A ((ev C x ρ σ).bind fun v σ=>i8 C.hd b v σ) s α) s') (dh K A ((ev C x ρ σ).bind fun v σ=>i8 C.hd b v σ) s α) s:=by
  refine av.use ar hc fun v σ' α' y s' V cy aQ aJ dL bJ=>?_;rw[V];refine aW (C9 cy) fun dM ef=>?_;show wpAny _ _ _ (cz K aj (i8 C.hd b v σ') s α) (dh K A (i8 C.hd b v σ') s α) _;rw[ef]at cy ⊢;exact(My (xH hb) c.hA (fun q=>c.hd (dM q)) aJ dL).endL aQ bJ cy
 cases b with
 | lenset=>exact absurd rfl (xH hb)
 | dict=>exact absurd rfl (xH hb)
 | len=>exact PySem.callWith_builtin1 fin
 | sum=>exact PySem.callWith_builtin1 fin
 | min=>exact PySem.callWith_builtin1 fin
 | max=>exact PySem.callWith_builtin1 fin
 | sorted=>exact PySem.callWith_builtin1 fin
 | all=>exact PySem.callWith_builtin1 fin
 | list _=>exact PySem.callWith_type1 fin
 | tuple=>exact PySem.callWith_type1 fin
 | int=>exact PySem.callWith_type1 fin
 | str=>exact PySem.callWith_type1 fin
theorem RM{t:Str}{ty:jZ}{a:Expr}{p bX:Pos}{x:X}(c:cn K A T C)(S:cf K A C f)(hb:Ce t=some ty)(hg:fQ N "isinstance" = true)(hY:("isinstance" : Str)∈T.bins)
  (oJ:fQ N t=true) (vE:t∈T.bins) (h:f N a=some x)
  (aw:env.scope.names=N) (hn:cR K.hb env) (E:a1 env ρ s.heap α) (r:aq K.hb s.heap σ α) :
  av K aj A (eval (.Call (.Name "isinstance" p) [a,.Name t bX] [] pos) env) ((ev C x ρ σ).bind fun v σ=>(kN v ty σ).bind fun b σ=>.ok (.bool b) σ) s α:=by
 intro hc;obtain⟨_,bN,Ia,_⟩:=c.bin _ vE;have mj:=(MB hb).symm.trans Ia;refine aW (S N a x h) fun hp ar=>?_;have ar:=(ar env ρ σ s α aw hn E r).1;refine kC (kF c hg hY rfl aw E.ok r ?_);rw[iE hp];refine Calls.callWith_builtin rfl (Calls.evalArgs_plain (Calls.spliced_cons ?_));refine av.use ar hc fun v σ' α' y s' V cy aQ aJ dL bJ=>?_;exact V.symm▸(Calls.spliced_cons (kF c oJ vE Ia aw E.ok aJ (Calls.spliced_nil ((RN mj aJ dL).boolV.endL aQ bJ cy))))
theorem yc(h:m5 T N x=some c):fQ N x=true/\∃q∈T.excs,q.1=x/\q.2.1=c:=by
 unfold m5 at h;refine cU h fun hg h=>⟨hg,?_⟩;exact fR (M:=fun c=>∃q∈T.excs,q.1=x/\q.2.1=c) h fun q hq=>⟨(x,q),o3 hq,rfl,rfl⟩
theorem RD{t:Str}{a:Expr}{p bX:Pos}{x:X}(c:cn K A T C)(S:cf K A C f)(lA:yd T N t=some eN)(hg:fQ N "isinstance" = true)(hY:("isinstance" : Str)∈T.bins)
  (h:f N a=some x) (aw:env.scope.names=N) (hn:cR K.hb env) (E:a1 env ρ s.heap α) (r:aq K.hb s.heap σ α) :
  av K aj A (eval (.Call (.Name "isinstance" p) [a,.Name t bX] [] pos) env) ((ev C x ρ σ).bind fun v σ=>(v5 v eN (T.excs.map (·.2.1)) σ).bind fun b σ=>.ok (.bool b) σ) s α:=by
 intro hc
 have nm:∃cv,((∃q∈T.excs,cv=.ref q.2.1/\eN=kZ T q.2.1)\/(cv=.type "ValueError" /\ eN=T.excs.map (·.2.1))) ∧
   ∀{s':Shared} {σ':af} {α':ay} {Q X:Value->Shared->Prop},aq K.hb s'.heap σ' α'->Q cv s'->wpAny (model K.prog K.w) A (eval (.Name t bX) env) Q X s':=by
  unfold yd at lA;refine kj lA (fun cC cy lA=>?_) fun J lA=>cU lA fun hb lA=>?_
  ·obtain rfl:=oi lA;obtain⟨hg',q,hq,rfl,rfl⟩:=yc cy;refine aM (qu hg') fun Zd Qn=>?_;refine az c.exc fun ce X ar=>?_;exact⟨_,.inl ⟨q,hq,rfl,rfl⟩,fun aJ k=>qJ c.hK aJ E.ok (aw.symm▸Qn) (ar q hq).1.mg k⟩
  ··obtain rfl:=oi lA;simp only[mq,eW,fy]at hb;obtain⟨rfl,hg',gC⟩:=hb;exact⟨_,.inr ⟨rfl,rfl⟩,fun aJ k=>kF c hg' (by simpa using gC) rfl aw E.ok aJ k⟩
 refine az nm fun cv Al nm=>?_;refine aW (S N a x h) fun hp ar=>?_;have ar:=(ar env ρ σ s α aw hn E r).1;refine kC (kF c hg hY rfl aw E.ok r ?_);rw[iE hp];refine Calls.callWith_builtin rfl (Calls.evalArgs_plain (Calls.spliced_cons ?_));refine av.use ar hc fun v σ' α' y s' V cy aQ aJ dL bJ=>?_;exact V.symm▸(Calls.spliced_cons (nm aJ (Calls.spliced_nil ((RE c Al aJ dL).boolV.endL aQ bJ cy))))
theorem MC{o:mT}{l:Expr}{gF:Operator}{a b:X}(c:cn K A T C)(S:cf K A C f)(ho:K4 gF=some o)(L:f N l=some a)(O:f N aJ=some b)
  (aw:env.scope.names=N) (hn:cR K.hb env) (E:a1 env ρ s.heap α) (r:aq K.hb s.heap σ α) :
  av K aj A (eval (.BinOp l gF aJ pos) env) (ev C (.bin o a b) ρ σ) s α:=by
 have sG:gF=JV o:=by cases gF <;> cases ho <;> rfl
 subst sG;rw[arm_eval_BinOp];refine av.bind ((S N l a L).2 env ρ σ s α aw hn E r).1 fun aA ac bc y s₁ V aZ aY a0 a6=>?_;refine av.bind (av.holding ((S N aJ b O).2 env ρ ac s₁ bc aw hn (E.ext aZ .nil) aY).1) fun br au α₂ h9 bb ak bz r2 bN cP=>?_;exact av.standAt (av.operate (MH c.hA r2 (a0.ext bz) bN))
theorem Ng{o:iJ}{l:Expr}{a b:X}(c:cn K A T C)(S:cf K A C f)(ho:rd gF=some o)(L:f N l=some a)(O:f N aJ=some b)
  (aw:env.scope.names=N) (hn:cR K.hb env) (E:a1 env ρ s.heap α) (r:aq K.hb s.heap σ α) :
  av K aj A (eval (.Compare l [gF] [aJ] pos) env) (ev C (.cmp a o b) ρ σ) s α/\av K hh A (isTrue (.Compare l [gF] [aJ] pos) env (eval (.Compare l [gF] [aJ] pos) env)) (tst C (.cmp a o b) ρ σ) s α:=by
 have sG:gF=iq o:=by cases gF <;> cases ho <;> rfl
 subst sG;refine aW (S N aJ b O) fun ng eh=>?_
 have sB:markedBehindIn (iq o) aJ (eval aJ env)=eval aJ env:=by unfold markedBehindIn;rw[J6 ng]
 constructor
 ·rw[arm_eval_Compare];refine av.bind ((S N l a L).2 env ρ σ s α aw hn E r).1 fun aA ac bc y s₁ V aZ aY a0 a6=>?_;show av K aj A (do let gj <- holding [y] (markedBehindIn (iq o) aJ (eval aJ env));standAt pos;operate [y,gj] (compareOp (iq o) y gj)) _ _ _;rw[sB];refine av.bind (av.holding (eh env ρ ac s₁ bc aw hn (E.ext aZ .nil) aY).1) fun br au α₂ h9 bb ak bz r2 bN cP=>av.standAt (av.operate ?_);exact(p2 c.hK c.hA r2 (a0.ext bz) bN).boolV
 ·rw[arm_isTrue_Compare];refine av.bind ((S N l a L).2 env ρ σ s α aw hn E r).1 fun aA ac bc y s₁ V aZ aY a0 a6=>?_;show av K hh A (do let gj <- holding [y] (markedBehindIn (iq o) aJ (eval aJ env));standAt pos;let c <- operate [y,gj] (compareOp (iq o) y gj);holding [c] (truthy c)) _ _ _;rw[sB];refine av.bind (av.holding (eh env ρ ac s₁ bc aw hn (E.ext aZ .nil) aY).1) fun br au α₂ h9 bb ak bz r2 bN cP=>av.standAt ?_;intro hc;refine aN (wpAny_operating (cB (p2 c.hK c.hA r2 (a0.ext bz) bN hc) (fun y kY hp=>?_) fun e kY hx=>hx));obtain⟨im,pE,jM,bK,fv,h4,iF,iX⟩:=hp;have:y=.bool im:=iF;subst this;exact hT (wpAny_truthy_bool ⟨im,pE,jM,bK,fv,h4,rfl,iX⟩)
theorem av.release{ks:List Value}{β γ:Type}{dW:Heap->ay->β->γ->Prop}{t:Sem γ}{c:ah β}
  (ar:av K dW A t c s α):av K dW A (do PySem.release vs ks;t) c s α:=
 fun h=>aN (wpAny_release' (ar h))
theorem Nf{o bR:iJ}{l kk:Expr}{qN:CmpOp}{a b dR:X}(c:cn K A T C)(S:cf K A C f)(ho:rd gF=some o)(kJ:rd qN=some bR)(L:f N l=some a)(O:f N aJ=some b)(ax:f N kk=some dR)
  (aw:env.scope.names=N) (hn:cR K.hb env) (E:a1 env ρ s.heap α) (r:aq K.hb s.heap σ α) :
  av K aj A (eval (.Compare l [gF,qN] [aJ,kk] pos) env) (ev C (.cmp2 a o b bR dR) ρ σ) s α/\av K hh A (isTrue (.Compare l [gF,qN] [aJ,kk] pos) env (eval (.Compare l [gF,qN] [aJ,kk] pos) env)) (tst C (.cmp2 a o b bR dR) ρ σ) s α:=by
 have sG:gF=iq o:=by cases gF <;> cases ho <;> rfl
 subst sG
 have QH:qN=iq bR:=by cases qN <;> cases kJ <;> rfl
 subst QH;refine aW (S N aJ b O) fun ng eh=>?_;refine aW (S N kk dR ax) fun QI pL=>?_
 have sB:markedBehindIn (iq bR) kk (eval kk env)=eval kk env:=by unfold markedBehindIn;rw[J6 QI]
 constructor
 ·rw[arm_eval_Compare];refine av.bind ((S N l a L).2 env ρ σ s α aw hn E r).1 fun aA ac bc y s₁ V aZ aY a0 a6=>?_;show av K aj A (do let gj <- holding [y] (eval aJ env);standAt pos;let c <- holding [y,gj] (compareOp (iq o) y gj);release [y,gj] [c];if <- holding [c,gj] (truthy c)then(do let tn <- holding [gj] (markedBehindIn (iq bR) kk (eval kk env));standAt pos;operate [gj,tn] (compareOp (iq bR) gj tn))else pure c) _ _ _;rw[sB];refine av.bind (av.holding (eh env ρ ac s₁ bc aw hn (E.ext aZ .nil) aY).1) fun br au α₂ h9 bb ak bz r2 bN cP=>av.standAt ?_;refine av.bind (av.holding (p2 c.hK c.hA r2 (a0.ext bz) bN)) fun im gq pD Cp e3 bK fv h4 iF iX=>av.release ?_;have:Cp=.bool im:=iF;subst this;intro hc;refine aN (hT (wpAny_truthy_bool ?_))
  cases im with
  | false=>exact bO ⟨_,_,_,rfl,.refl,h4,.bool _,.refl _⟩
  | true =>
   refine(av.bind (av.holding (pL env ρ gq e3 pD aw hn (((E.ext aZ .nil).ext bz .nil).ext fv .nil) h4).1) fun wZ rp xc Yc nH gT k7 nx Ci np=>av.standAt (av.operate ?_)) hc;exact(p2 c.hK c.hA nx ((bN.ext fv).ext k7) Ci).boolV
 ·rw[arm_isTrue_Compare];refine av.bind ((S N l a L).2 env ρ σ s α aw hn E r).1 fun aA ac bc y s₁ V aZ aY a0 a6=>?_;show av K hh A (do let gj <- holding [y] (eval aJ env);standAt pos;let c <- holding [y,gj] (compareOp (iq o) y gj);release [y,gj] [c];if <- holding [c,gj] (truthy c)then(do let tn <- holding [gj] (markedBehindIn (iq bR) kk (eval kk env));standAt pos;let c <- operate [gj,tn] (compareOp (iq bR) gj tn);holding [c] (truthy c))else pure false) _ _ _;rw[sB];refine av.bind (av.holding (eh env ρ ac s₁ bc aw hn (E.ext aZ .nil) aY).1) fun br au α₂ h9 bb ak bz r2 bN cP=>av.standAt ?_;refine av.bind (av.holding (p2 c.hK c.hA r2 (a0.ext bz) bN)) fun im gq pD Cp e3 bK fv h4 iF iX=>av.release ?_;have:Cp=.bool im:=iF;subst this;intro hc;refine aN (hT (wpAny_truthy_bool ?_))
  cases im with
  | false=>exact bO ⟨_,_,_,rfl,.refl,h4,rfl,.refl _⟩
  | true =>
   refine(av.bind (av.holding (pL env ρ gq e3 pD aw hn (((E.ext aZ .nil).ext bz .nil).ext fv .nil) h4).1) fun wZ rp xc Yc nH gT k7 nx Ci np=>av.standAt ?_) hc;intro hc;refine aN (wpAny_operating (cB (p2 c.hK c.hA nx ((bN.ext fv).ext k7) Ci hc) (fun y kY hp=>?_) fun e kY hx=>hx));obtain⟨im,pE,jM,bK,fv,h4,iF,iX⟩:=hp;have:y=.bool im:=iF;subst this;exact hT (wpAny_truthy_bool ⟨im,pE,jM,bK,fv,h4,rfl,iX⟩)
theorem T2{x:X}(S:cf K A C f)(L:f N e=some x)
  (aw:env.scope.names=N) (hn:cR K.hb env) (E:a1 env ρ s.heap α) (r:aq K.hb s.heap σ α) :
  av K aj A (eval (.UnaryOp .Not e pos) env) (ev C (.not x) ρ σ) s α/\av K hh A (isTrue (.UnaryOp .Not e pos) env (eval (.UnaryOp .Not e pos) env)) (tst C (.not x) ρ σ) s α:=by
 have ar:=(S N e x L).2 env ρ σ s α aw hn E r;constructor
 ·rw[arm_eval_UnaryOp];refine av.bind ar.1 fun v ac bc y s₁ V aZ aY a0 a6=>av.standAt (av.holding ?_);intro hc
  have ax:i0 v ac≠.stuck:=by intro q;rw[q]at hc;exact hc rfl
  refine not_value (cB (wW aY a0 ax) (fun b kY hp=>?_) fun e kY hx=>hx.bind);obtain⟨im,pE,jM,bK,fv,h4,iF,iX⟩:=hp;have:b=im:=iF;subst this;exact⟨.bool (!b),pE,jM,by simp[ah.bind,bK],fv,h4,.bool _,iX⟩
 ·rw[arm_isTrue_UnaryOp];refine av.bind ar.2 fun b ac bc y s₁ V aZ aY a0 a6=>?_;have:y=b:=a0;subst this;exact av.pure aY rfl
theorem TO{x:X}(S:cf K A C f)(L:f N e=some x)
  (aw:env.scope.names=N) (hn:cR K.hb env) (E:a1 env ρ s.heap α) (r:aq K.hb s.heap σ α) :
  av K aj A (eval (.UnaryOp .USub e pos) env) (ev C (.neg x) ρ σ) s α:=by
 rw[arm_eval_UnaryOp];exact av.bind ((S N e x L).2 env ρ σ s α aw hn E r).1 fun v ac bc y s₁ V aZ aY a0 a6=>av.standAt (av.holding (TP aY a0))
theorem Sy{es:List Expr}{xs:X}(S:cf K A C f)(h:fW (f N) es=some xs)
  (aw:env.scope.names=N) (hn:cR K.hb env) (E:a1 env ρ s.heap α) (r:aq K.hb s.heap σ α) :
  av K aj A (eval (.List es pos) env) (ev C (.lst ba xs) ρ σ) s α:=by
 rw[arm_eval_List];exact av.standAt (av.bind (p7 S h aw hn E r) fun vs ac bc us s₁ V aZ aY a0 a6=>TQ aY a0)
theorem Xw{es:List Expr}{k:Nat}{xs:X}(S:cf K A C f)(h:fW (f N) es=some xs)
  (aw:env.scope.names=N) (hn:cR K.hb env) (E:a1 env ρ s.heap α) (r:aq K.hb s.heap σ α) :
  av K aj A (eval (.Tuple es k pos) env) (ev C (.tup xs) ρ σ) s α:=by
 rw[arm_eval_Tuple];exact av.standAt (av.bind (p7 S h aw hn E r) fun vs ac bc us s₁ V aZ aY a0 a6=>TR aY a0)
theorem Wp{o i:Expr}{x y:X}(c:cn K A T C)(S:cf K A C f)(sE:∀l u st p,i≠.Slice l u st p)(L:f N o=some x)(O:f N i=some y)
  (aw:env.scope.names=N) (hn:cR K.hb env) (E:a1 env ρ s.heap α) (r:aq K.hb s.heap σ α) :
  av K aj A (eval (.Subscript o i pos) env) (ev C (.sub x y) ρ σ) s α:=by
 rw[arm_eval_Subscript];refine av.bind ((S N o x L).2 env ρ σ s α aw hn E r).1 fun aA ac bc g5 s₁ V aZ aY a0 a6=>?_;refine av.bind (av.holding ((S N i y O).2 env ρ ac s₁ bc aw hn (E.ext aZ .nil) aY).1) fun br au α₂ h9 bb ak bz r2 bN cP=>av.standAt ?_;exact Wu c.hA (fun l u p=>sE l u none p) r2 (a0.ext bz) bN
theorem xK{o:Expr}{m:Str}{tH:Sem Value}(h:qL o=true):attributeBase o m env tH=tH:=by
 cases o with
 | Call f a k p =>
  cases a with
  | nil=>contradiction
  | cons x r=>cases f <;> rfl
 | _=>rfl
theorem Md{v:H}(mW:aq K.hb s.heap σ α)(b0:α.ix[r]?=some a)(hs:σ[r]?=some (.lst xs))(hl:xs.length<aI)(dq:aj s.heap α v u){X:Value->Shared->Prop} :
  wpAny (model K.prog K.w) A (call (.builtin "list.append") [.ref a,u]) (cz K aj (.ok .none (σ.set r (.lst (xs++[v])))) s α) X s:=by
 refine c1 (mW.obj r _ a hs b0) fun items n V w=>?_;refine wpAny_list_append_plain ⟨n,V⟩ (fun h' ql fT=>?_) (by simp;exact w.1▸(iB (Nat.le_of_lt hl)));refine aM ql fun n' aF=>?_;obtain⟨aJ,aQ⟩:=mW.set (m:=.lst (xs++[v])) b0 (fun b o hb e=>(fT.2 b hb).trans e) aF fun aQ=>⟨items++[u],n',by rw[aF];simp,(w.snoc dq).ext aQ⟩;exact⟨.none,_,α,rfl,aQ,aJ,.none,⟨rfl,rfl⟩⟩
noncomputable def wj:ie->String
 | .get => "dict"
 | _ => "list"
noncomputable def wi:ie->String
 | .append => "list.append" | .extend => "list.extend"
 | .pop => "list.pop"
 | .get => "dict.get"
noncomputable def A3:ie->Str
 | .append => "append" | .extend => "extend"
 | .pop => "pop"
 | .get => "get"
theorem S1{m:ie}(h:A4 x=some m):x=A3 m:=
 (show ∀p∈Jk,p.1=A3 p.2 from(by repeat (first | refine List.forall_mem_cons.mpr ⟨rfl,?_⟩ | exact fun J h=>nomatch h))) _ (o3 h)
theorem Wj{c:Nat}(h:PyData.strOk x=true){a:Str}(ha:∀d∈a.cps.toList,d∈x.cps.toList):PyData.strOk a=true:=by
 unfold PyData.strOk at h ⊢;simp only[Array.all_eq_true']at h ⊢;intro d hd;exact h d (by simpa using ha d (by simpa using hd))
theorem bj.eraseIdx:∀{xs:List H} {vs:List Value} (k:Nat),bj h α xs vs->bj h α (xs.eraseIdx k) (vs.eraseIdx k)
 | [],vs,k,v=>by
  have:vs=[]:=ii v.1.symm;subst this;simpa using v
 | x::xs,vs,0,v=>by
  refine c1 v.inv_cons fun u us ag bi=>?_;obtain rfl:=ag;refine aW bi fun a0 bN=>?_;exact bN
 | x::xs,vs,k+1,v=>by
  refine c1 v.inv_cons fun u us ag bi=>?_;obtain rfl:=ag;refine aW bi fun a0 bN=>?_;exact .cons a0 (bN.eraseIdx k)
theorem Lf{items:Array Value}{g:Array Value->Array Value}(e:h.get? a=some { cls:=.type "list",data:=.seq items n }) :
  ∃n',(h.update a (Obj.mapSeq g)).get? a=some { cls:=.type "list",data:=.seq (g items) n' }:=by
 exact⟨_,Heap.get?_update_self (Obj.mapSeq g) e rfl⟩
theorem Lg{g:Obj->Obj}(hb:b≠a):(h.update a g).get? b=h.get? b:=Heap.get?_update_ne h b a g hb
theorem UH{i:Int}{t:Tok}{v:H}(mW:aq K.hb s.heap σ α)(b0:α.ix[r]?=some a)(hs:σ[r]?=some (.lst xs))(h0:0<=i)(hl:xs.length<=aI)(hv:xs[i.toNat]?=some v){X:Value->Shared->Prop} :
  wpAny (model K.prog K.w) A (call (.builtin "list.pop") [.ref a,.int i t]) (cz K aj (.ok v (σ.set r (.lst (xs.eraseIdx i.toNat)))) s α) X s:=by
 refine c1 (mW.obj r _ a hs b0) fun items n V w=>?_;refine az (w.get hv) fun u hu dq=>?_;have hi:=(dS hv).1;have Y0:=o2 hl;have da:=w.1;refine call_meets F.slot_list_pop ⟨_,V,rfl⟩ F.entry_list_pop (F.args_list_pop_2 _ _) (MeetsSeq.list_pop_at a items.toArray n i t i.toNat u ?_ ?_ (by simpa using hu) (fH.symm▸w.1▸(iB hl))) ⟨V,?_⟩
 ·unfold Builtin.List.listFitsIndex;simp;(grind)
 ·rw[<- BG];unfold fD;rw[aE h0,aE (by simp;(grind))]
 ·refine aM (Lf (g:=fun xs=>xs.eraseIdxIfInBounds i.toNat) V) fun n' aF=>?_
  have ak:(items.toArray.eraseIdxIfInBounds i.toNat)=(items.eraseIdx i.toNat).toArray:=by
   simp
  rw[ak]at aF;refine aW (mW.set (m:=.lst (xs.eraseIdx i.toNat)) b0 (fun b o hb e=>(Lg hb).trans e) aF fun aQ=>⟨_,n',aF,(w.eraseIdx _).ext aQ⟩) fun aJ aQ=>?_;exact⟨v,_,α,rfl,aQ,aJ,dq.ext aQ,⟨rfl,rfl⟩⟩
theorem DU{m:Nat}{T:String}(dY:T = "tuple" \/ T = "list")(mW:aq K.hb s.heap σ α)(b0:α.ix[r]?=some a)(hs:σ[r]?=some (.lst xs))(hl:xs.length+ys.length<=aI)
  (ak:s.heap.get? b=some { cls:=.type T,data:=.seq vs.toArray m }) (lT:bj s.heap α ys vs) {X:Value->Shared->Prop} :
  wpAny (model K.prog K.w) A (call (.builtin "list.extend") [.ref a,.ref b]) (cz K aj (.ok .none (σ.set r (.lst (xs++ys)))) s α) X s:=by
 refine c1 (mW.obj r _ a hs b0) fun items n V w=>?_;have da:=w.1;have Qt:=lT.1;have Qu:=iB hl;have Y2:=o2 hl
 have Dz:¬(!items.toArray.isEmpty&&Builtin.List.listTooLong (items.toArray.size+vs.toArray.size))=true:=by
  rw[fH,fH,<- da,<- Qt]
  have:Builtin.List.listTooLong (xs.length+ys.length)=false:=by unfold Builtin.List.listTooLong;simpa using Qu
  rw[this];simp
 have fin:cz K aj (.ok .none (σ.set r (.lst (xs++ys)))) s α .none { s with heap:=s.heap.update a (Obj.mapSeq fun x=>x++vs.toArray) }:=by
  refine aM (Lf (g:=fun x=>x++vs.toArray) V) fun n' aF=>?_
  have bK:items.toArray++vs.toArray=(items++vs).toArray:=by simp
  simp only[bK]at aF;refine aW (mW.set (m:=.lst (xs++ys)) b0 (fun b o hb e=>(Lg hb).trans e) aF fun aQ=>⟨_,n',aF,(w.append lT).ext aQ⟩) fun aJ aQ=>?_;exact⟨.none,_,α,rfl,aQ,aJ,.none,⟨rfl,rfl⟩⟩
 rcases dY with rfl | rfl
 ·exact call_meets F.slot_list_extend ⟨_,V,rfl⟩ F.entry_list_extend (F.args_list_extend_2 _ _) (AutoSeq1.list_extend_list_tuple_0 a items.toArray n b vs.toArray m Dz (by rw[fH];(grind)) (by rw[fH,fH];(grind))) ⟨V,ak,fin⟩
 ·exact call_meets F.slot_list_extend ⟨_,V,rfl⟩ F.entry_list_extend (F.args_list_extend_2 _ _) (AutoSeq1.list_extend_list_list_0 a items.toArray n b vs.toArray m Dz (by rw[fH];(grind)) (by rw[fH,fH];(grind))) ⟨V,ak,fin⟩
section
variable {v:H}{P:H->ah H->Prop}
theorem Mc(h0:∀o,P o .stuck)(L:∀r xs,σ[r]?=some (.lst xs)->xs.length<aI->P (.ref r) (.ok .none (σ.set r (.lst (xs++[v]))))):∀o,P o (kE o v σ):=by
 intro o
 cases o with
 | ref r =>
  unfold kE;dsimp only
  cases hs:σ[r]? with
  | none=>exact h0 _
  | some m =>
   cases m with
   | lst xs =>
    dsimp only;by_cases hl:xs.length<aI
    ·rw[aE hl];exact L r xs hs hl
    ·rw[a5 hl];exact h0 _
   | _=>exact h0 _
 | _=>exact h0 _
theorem Ov{Q:H->H->ah H->Prop}(h0:∀o v,Q o v .stuck)(L:∀r xs ys,σ[r]?=some (.lst xs)->xs.length+ys.length<=aI->Q (.ref r) (.tup ys) (.ok .none (σ.set r (.lst (xs++ys)))))(O:∀r xs ys,σ[r]?=some (.lst xs)->xs.length+ys.length<=aI->Q (.ref r) (.fl ys) (.ok .none (σ.set r (.lst (xs++ys))))):∀o v,Q o v (ma o v σ):=by
 intro o v
 cases o with
 | ref r =>
  unfold ma;dsimp only
  cases hs:σ[r]? with
  | none=>exact h0 _ _
  | some m =>
   cases m with
   | lst xs =>
    cases v with
    | tup ys =>
     dsimp only;by_cases hl:xs.length+ys.length<=aI
     ·rw[aE hl];exact L r xs ys hs hl
     ·rw[a5 hl];exact h0 _ _
    | fl ys =>
     dsimp only;by_cases hl:xs.length+ys.length<=aI
     ·rw[aE hl];exact O r xs ys hs hl
     ·rw[a5 hl];exact h0 _ _
    | _=>exact h0 _ _
   | _=>exact h0 _ _
 | _=>exact h0 _ _
theorem UF{Q:H->H->ah H->Prop}(h0:∀o v,Q o v .stuck)(L:∀r xs i w,σ[r]?=some (.lst xs)->0<=i->xs.length<=aI->xs[i.toNat]?=some w->Q (.ref r) (.int i) (.ok w (σ.set r (.lst (xs.eraseIdx i.toNat))))):∀o v,Q o v (pg o v σ):=by
 intro o v
 cases o with
 | ref r =>
  unfold pg;dsimp only
  cases hs:σ[r]? with
  | none=>exact h0 _ _
  | some m =>
   cases m with
   | lst xs =>
    cases v with
    | int i =>
     dsimp only;by_cases hl:0<=i/\xs.length<=aI
     ·rw[aE hl]
      cases hw:xs[i.toNat]? with
      | none=>exact h0 _ _
      | some w=>exact L r xs i w hs hl.1 hl.2 hw
     ·rw[a5 hl];exact h0 _ _
    | _=>exact h0 _ _
   | _=>exact h0 _ _
 | _=>exact h0 _ _
theorem O8{Q:H->H->ah H->Prop}(h0:∀o v,Q o v .stuck)(L:∀r es k,σ[r]?=some (.ds es)->Q (.ref r) (.str k) (.ok ((aC k es).getD .none) σ))(O:∀r es v k,σ[r]?=some (.dp es)->hH v=some k->Q (.ref r) v (.ok ((aC k es).getD .none) σ)):∀o v,Q o v (sd o v σ):=by
 intro o v
 cases o with
 | ref r =>
  unfold sd;dsimp only
  cases hs:σ[r]? with
  | none=>exact h0 _ _
  | some m =>
   cases m with
   | ds es =>
    cases v with
    | str k=>exact L r es k hs
    | _=>exact h0 _ _
   | dp es =>
    dsimp only
    cases hk:hH v with
    | none=>exact h0 _ _
    | some k=>exact O r es v k hs hk
   | _=>exact h0 _ _
 | _=>exact h0 _ _
end
theorem Ta{m:ie}{o v:H}{x:Value}(hK:K.Ok)(hA:eF A)(r:aq K.hb s.heap σ α)(aA:aj s.heap α o x)(cI:aj s.heap α v u):av K aj A (call (.builtin (wi m)) [x,u]) (jk m o [v] σ) s α:=by
 cases m with
 | append =>
  exact Mc (P:=fun o c=>aj s.heap α o x->av K aj A (call (.builtin "list.append") [x,u]) c s α) (fun J J hc=>absurd rfl hc) (fun q xs hs hl aA J=>by
   refine az aA.refE fun a ag b0=>?_;obtain rfl:=ag;exact Md r b0 hs hl cI) o aA
 | extend =>
  exact Ov (Q:=fun o v c=>aj s.heap α o x->aj s.heap α v u->av K aj A (call (.builtin "list.extend") [x,u]) c s α) (fun J J J J hc=>absurd rfl hc)
   (fun q xs ys hs hl aA cI J=>by
    refine az aA.refE fun a ag b0=>?_;obtain rfl:=ag;obtain⟨b,vs,n,rfl,V,_,w⟩:=cI.tupE
    exact DU (.inl rfl) r b0 hs hl V w)
   (fun q xs ys hs hl aA cI J=>by
    refine az aA.refE fun a ag b0=>?_;obtain rfl:=ag;obtain⟨b,vs,n,rfl,V,_,w⟩:=cI.flE
    exact DU (.inr rfl) r b0 hs hl V w) o v aA cI
 | pop =>
  exact UF (Q:=fun o v c=>aj s.heap α o x->aj s.heap α v u->av K aj A (call (.builtin "list.pop") [x,u]) c s α) (fun J J J J hc=>absurd rfl hc) (fun q xs i w hs h0 hl hw aA cI J=>by
   refine az aA.refE fun a ag b0=>?_;obtain rfl:=ag;refine aM cI.intE fun J ag=>?_;obtain rfl:=ag
   exact UH r b0 hs h0 hl hw) o v aA cI
 | get =>
  exact O8 (Q:=fun o v c=>aj s.heap α o x->aj s.heap α v u->av K aj A (call (.builtin "dict.get") [x,u]) c s α) (fun J J J J hc=>absurd rfl hc)
   (fun q es k hs aA cI J=>by
    refine az aA.refE fun a ag b0=>?_;obtain rfl:=ag
    refine az cI.strE fun J ag J=>?_;obtain rfl:=ag;exact O7 hK r hs b0)
   (fun q es w k hs hk aA cI J=>by
    refine az aA.refE fun a ag b0=>?_;obtain rfl:=ag
    exact O6 hK hA r hs b0 hk cI) o v aA cI
theorem S3(m:ie):PlainAttrs (wj m)/\Slot (wj m) (A3 m) (wi m)/\typeOf (.builtin (wi m))=pure (.type "method_descriptor"):=by
 cases m
 ·exact⟨F.plainAttrs_list,F.slot_list_append,F.type_list_append⟩
 ·exact⟨F.plainAttrs_list,F.slot_list_extend,F.type_list_extend⟩
 ·exact⟨F.plainAttrs_list,F.slot_list_pop,F.type_list_pop⟩
 ·exact⟨F.plainAttrs_dict,F.slot_dict_get,F.type_dict_get⟩
set_option tactic.hygienic true in
theorem S2{m:ie}{o:H}{x:Value}(r:aq K.hb s.heap σ α)(aA:aj s.heap α o x)(h:o6 m o σ=true):s.TypeIs x (wj m)/\∀a,x=.ref a->∃ob,s.heap.get? a=some ob/\ob.dict=none:=by
 have lst:∀xs,cx σ o=some xs->s.TypeIs x "list" /\ ∀a,x=.ref a->∃ob,s.heap.get? a=some ob/\ob.dict=none:=fun xs e=>by
  obtain⟨l,vs,n,rfl,V,_⟩:=l2 r aA e;exact⟨⟨_,V,rfl⟩,fun a ha=>by cases ha;exact⟨_,V,rfl⟩⟩
 have A9:jh o σ=true->∃xs,cx σ o=some xs:=fun h=>by
  unfold jh at h
  split at h
  ·split at h
   ·rename_i xs hs;exact⟨xs,by simp[cx,hs]⟩
   ·contradiction
  ·contradiction
 have ZC:RC o=true->s.TypeIs x "str" /\ ∀a,x=.ref a->∃ob,s.heap.get? a=some ob/\ob.dict=none:=fun h=>by
  cases o with
  | str z=>refine az aA.strE fun J ag J=>?_;obtain rfl:=ag;exact⟨typeIs_str _ _ _,fun a ha=>by cases ha⟩
  | _=>contradiction
 cases m with
 | append=>refine aM (A9 h) fun xs e=>?_;exact lst xs e
 | extend=>refine aM (A9 h) fun xs e=>?_;exact lst xs e
 | pop=>refine aM (A9 h) fun xs e=>?_;exact lst xs e
 | get =>
  change sX o σ=true at h;unfold sX at h
  split at h
  ·refine az aA.refE fun a ag b0=>?_;obtain rfl:=ag
   split at h
   ·rename_i hs;refine az (p4 r hs b0) fun el L J=>?_;exact⟨L.typeIs,L.mapOf.noDict⟩
   ·rename_i hs;refine az (p3 r hs b0) fun xs L J=>?_;exact⟨L.typeIs,dictOfH_noDict L⟩
   ·contradiction
  ·contradiction
set_option tactic.hygienic true in
theorem S0{m:ie}{mn:Str}{o a:Expr}{x y:X}(c:cn K A T C)(S:cf K A C f)(hm:A4 mn=some m)(oK:(f3.endLine == pos.line)=true)(sC:qL o=true)(L:f N o=some x)(O:f N a=some y)
  (aw:env.scope.names=N) (hn:cR K.hb env) (E:a1 env ρ s.heap α) (r:aq K.hb s.heap σ α) :
  av K aj A (eval (.Call (.Attribute o mn f3) [a] [] pos) env) (ev C (.me m x #v[y]) ρ σ) s α:=by
 rw[S1 hm,DQ];intro hc;refine aW (S N a y O) fun hp eh=>?_;refine Call_method1 (xK sC) (iE hp) oK ?_;refine av.use ((S N o x L).2 env ρ σ s α aw hn E r).1 hc fun aA ac bc g5 s₁ V c9 aZ aY a0 a6=>?_;rw[V]
 split at c9
 ·rename_i c3;refine d4 (S3 m) fun q1 q2 q3=>?_;refine aW (S2 aY a0 c3) fun q4 q5=>?_;refine⟨wj m,wi m,q1,q2,q3,q4,q5,?_⟩;refine Calls.callWith_builtin (by cases m <;> rfl) (Calls.evalArgs_plain (Calls.spliced_cons ?_))
  have uo:∀{σ:af},((evs C #v[y] ρ σ).bind fun vs σ=>jk m aA vs σ)=(ev C y ρ σ).bind fun v σ=>jk m aA [v] σ:=fun{σ}=>by
   show((ev C y ρ σ).bind fun v σ=>.ok [v] σ).bind _=_;cases ev C y ρ σ <;> rfl
  rw[MG,aE c3,uo];rw[uo]at c9;refine av.useL aZ a6 (f:=fun v σ=>jk m aA [v] σ) (eh env ρ ac s₁ bc aw hn (E.ext aZ .nil) aY).1 c9 fun pv au α₂ u bb ak e0 bz r2 bN cP=>Calls.spliced_nil ?_;show wpAny _ _ _ (cz K aj ((ev C y ρ ac).bind fun v σ=>jk m aA [v] σ) _ _) (dh K A ((ev C y ρ ac).bind fun v σ=>jk m aA [v] σ) _ _) _;exact ak.symm▸((Ta c.hK c.hA r2 (a0.ext bz) bN).endL (aZ.trans bz) (a6.trans cP) e0)
 ·exact absurd rfl c9
theorem bj.drop:∀{xs:List H} {vs:List Value} (k:Nat),bj h α xs vs->bj h α (xs.drop k) (vs.drop k)
 | _,_,0,v=>v
 | [],vs,k+1,v=>by
  have:vs=[]:=ii v.1.symm;subst this;exact .nil
 | x::xs,vs,k+1,v=>by
  refine c1 v.inv_cons fun u us ag bi=>?_;obtain rfl:=ag;refine aW bi fun a0 bN=>?_;exact bN.drop k
theorem bj.take:∀{xs:List H} {vs:List Value} (k:Nat),bj h α xs vs->bj h α (xs.take k) (vs.take k)
 | _,_,0,v=>.nil
 | [],vs,k+1,v=>by
  have:vs=[]:=ii v.1.symm;subst this;exact .nil
 | x::xs,vs,k+1,v=>by
  refine c1 v.inv_cons fun u us ag bi=>?_;obtain rfl:=ag;refine aW bi fun a0 bN=>?_;exact .cons a0 (bN.take k)
theorem J0{p:H}{v:Value}{k:Option Int}(h:pc p=some k)(r:aj s.heap α p v):IsPart v k:=by
 cases p with
 | none=>obtain rfl:=oi h;obtain rfl:=r.noneE;exact .none
 | int i=>obtain rfl:=oi h;refine aM r.intE fun J ag=>?_;obtain rfl:=ag;exact .int _ _
 | _=>contradiction
theorem bj.slice(v:bj h α xs vs)(lo hi:Option Int):bj h α (ep xs lo hi) (ep vs lo hi):=by
 unfold ep;exact v.1▸((v.drop _).take _)
theorem Ux{hi:Option Int}:slicePick vs.toArray lo hi none=(ep vs lo hi).toArray:=by
 rw[slicePick_plain];simp[ep]
theorem Ko{v:Value}{k:Option Int}{Q:Option Int->Shared->Prop}(p:IsPart v k)(h:Q k s):wpAny (model K.prog K.w) A (Builtin.Slice.slicePartIndex v) Q E s:=by
 cases p with
 | none=>exact slicePart_none h
 | int i t=>exact slicePart_int h
noncomputable def ft(lo:Option Int)(n:Nat):Nat:=lo.elim 0 (clipAt n)
noncomputable def iU(hi:Option Int)(n:Nat):Nat:=hi.elim n (clipAt n)
theorem Nd{i:Int}:clipAt n i<=n:=Int.toNat_le.mpr (Int.max_le.mpr ⟨d8 n,Int.min_le_right _ _⟩)
theorem Nc(n:Nat)(i:Int):(if i<0 then max (i+n) 0 else min i n)=((clipAt n i:Nat):Int):=by
 rw[clipAt_cast];by_cases h:i<0
 ·rw[aE h,aE h];(grind)
 ·rw[a5 h,a5 h];(grind)
theorem LX(lo hi:Option Int)(n:Nat):Builtin.Slice.sliceAdjust lo hi 1 (n:Int)=(((ft lo n:Nat):Int),((iU hi n:Nat):Int)):=by
 unfold Builtin.Slice.sliceAdjust ft iU
 have L:¬((1:Int)<0):=by decide
 simp only[L,if_false];cases lo <;> cases hi <;> simp only[Option.elim,Nc] <;> rfl
theorem Uz(a b:Nat):Builtin.Slice.slicePlaces (a:Int) (b:Int) 1=b-a:=by
 unfold Builtin.Slice.slicePlaces
 have L:(1:Int) > 0:=by decide
 simp only[L,if_true,Int.ediv_one]
 split <;> (grind)
theorem VL{cQ:Addr}{vl dq:Value}{hi:Option Int}{Q:Int×Int×Nat->Shared->Prop}(hs:s.heap.IsSliceOf cQ vl dq .none)(pl:IsPart vl lo)(Bv:IsPart dq hi)
  (h:Q (((ft lo n:Nat):Int),1,iU hi n-ft lo n) s):wpAny (model K.prog K.w) A (Builtin.Slice.sliceApplied (.ref cQ) (pure (n:Int))) Q E s:=by
 refine bL (id hs) fun os sH sv vG=>?_;unfold Builtin.Slice.sliceApplied Builtin.Slice.sliceFields;refine aN (aN (gM sH vG (x:=vl) rfl (aN (gM sH vG (x:=dq) rfl (aN (gM sH vG (x:=.none) rfl (bO ?_)))))));refine aN (slicePart_none ?_);show wpAny _ _ (if((1:Int) == 0)=true then _ else _) _ _ s;rw[a5 (by decide)];refine aN (Ko pl (aN (Ko Bv (aN (bO ?_)))));show wpAny _ _ (match Builtin.Slice.sliceAdjust lo hi 1 (n:Int)with | (lo,hi)=>pure (lo,(1:Int),Builtin.Slice.slicePlaces lo hi 1)) _ _ s;rw[LX];show wpAny _ _ (pure (((ft lo n:Nat):Int),(1:Int),Builtin.Slice.slicePlaces ((ft lo n:Nat):Int) ((iU hi n:Nat):Int) 1)) _ _ s;rw[Uz];exact bO h
theorem Uw(xs:List Value)(a k:Nat):((List.range k).filterMap fun(j:Nat)=>xs.toArray[((a:Int)+(j:Int)*1).toNat]?).toArray=((xs.drop a).take k).toArray:=by
 have e:(fun(j:Nat)=>xs.toArray[((a:Int)+(j:Int)*1).toNat]?)=fun j=>xs.toArray[a+j]?:=by
  funext j
  have:((a:Int)+(j:Int)*1).toNat=a+j:=((Nat.add_assoc _ _ _).symm);rw[this]
 rw[e];have:=pick_run xs.toArray a k;rw[List.filterMap_map]at this;have ak:((fun x=>xs.toArray[x]?)∘fun x=>a+x)=fun j=>xs.toArray[a+j]?:=rfl;rw[ak]at this;rw[this]
theorem Kq{β:Type}(xs:List β)(lo hi:Option Int):(ep xs lo hi).length<=xs.length:=by
 unfold ep;exact aK (List.length_take_le' _ _) (by rw[List.length_drop];exact Nat.sub_le _ _)
theorem Xy{t cQ:Addr}{vl dq:Value}{hi:Option Int}(aO:s.heap.get? t=some { cls:=.type "tuple",data:=.seq vs.toArray n })
  (hs:s.heap.IsSliceOf cQ vl dq .none) (pl:IsPart vl lo) (Bv:IsPart dq hi) (hsz:vs.length<=sizeLine)
  (L:ep vs lo hi=vs->Q (.ref t) s) (O:Q (.ref s.heap.objs.size) { s with heap:=s.heap.push { cls:=.type "tuple",data:=.seq (ep vs lo hi).toArray } }) :
  wpAny (model K.prog K.w) A (getItem (.ref t) (.ref cQ)) Q E s:=by
 have oR:=v4 aO;refine bL (id hs) fun os sH sv vG=>?_;have Af:s.TypeIs (.ref cQ) "slice" := ⟨os,sH,sv⟩
 have c3:sizeOk (.seq (ep vs lo hi).toArray):=by
  show(ep vs lo hi).toArray.size<=sizeLine;rw[fH];exact aK (Kq vs lo hi) hsz
 unfold getItem
 try with_reducible refine hT ?_
 first | refine aN (bO ?_) | skip
 refine aN (wpAny_sequenceKey oR.typeIs (by decide) ?_)
 refine aN (wpAny_callSpecial?_slot (name:=Str.ofString "__getitem__") oR.typeIs slot_tuple_getitem
  (wpAny_call_entry slot_tuple_getitem oR.typeIs entry_tuple_getitem ?_ (args_tuple_getitem _ _)))
 show wpAny _ _ (Builtin.Tuple.tupleItemsOf (.ref t) >>= _) _ _ s;refine aN (tupleItemsOf_ oR ?_);refine aN (wpAny_typeOf Af ?_);rw[aE (by decide)];refine aN (VL (n:=vs.toArray.size) hs pl Bv ?_);rw[fH]
 have fin:∀(B:Around),wpAny (model K.prog K.w) B (Builtin.Tuple.tupleExact ((List.range (iU hi vs.length-ft lo vs.length)).filterMap fun(k:Nat)=>vs.toArray[(((ft lo vs.length:Nat):Int)+(k:Int)*1).toNat]?).toArray) (fun v s'=>v=.ref s.heap.objs.size/\s'={ s with heap:=s.heap.push { cls:=.type "tuple",data:=.seq (ep vs lo hi).toArray } }) (fun J J=>False) s:=fun B=>by
  rw[Uw];exact wpAny_newObj_type ⟨rfl,rfl⟩ c3
 show wpAny _ _ (if(((ft lo vs.length:Nat):Int) == 0&&(1:Int) == 1&&(iU hi vs.length-ft lo vs.length) == vs.length)=true then _ else _) _ _ s;by_cases hc:(((ft lo vs.length:Nat):Int) == 0&&(1:Int) == 1&&(iU hi vs.length-ft lo vs.length) == vs.length)=true
 ·rw[aE hc];simp only[eW,fy]at hc
  have hw:ep vs lo hi=vs:=by
   have dM:ft lo vs.length=0:=by have:=hc.1.1;(grind)
   have ef:iU hi vs.length=vs.length:=by have:=hc.2;rw[dM]at this;(assumption)
   show(vs.drop (ft lo vs.length)).take (iU hi vs.length-ft lo vs.length)=vs;rw[dM,ef];simp
  unfold Builtin.Tuple.tupleIsExact;refine aN (aN (wpAny_typeOf oR.typeIs (bO ?_)));rw[aE (by decide)]
  first
   | exact aN (wpAny_rule (bO ⟨_,rfl,bO (L hw)⟩))
   | exact aN (aN (wpAny_rule (bO (bO ⟨_,rfl,bO (L hw)⟩))))
   | exact aN (wpAny_rule (aN (bO (bO ⟨_,rfl,bO (L hw)⟩))))
 ·rw[a5 hc]
  first
   | exact aN (cB (fin _) (fun v s' e=>by obtain⟨rfl,rfl⟩:=e;exact bO ⟨_,rfl,bO O⟩) fun J J e=>e.elim)
   | exact aN (cB (fin _) (fun v s' e=>by obtain⟨rfl,rfl⟩:=e;exact aN (bO (bO ⟨_,rfl,bO O⟩))) fun J J e=>e.elim)
   | exact aN (aN (cB (fin _) (fun v s' e=>by obtain⟨rfl,rfl⟩:=e;exact bO (bO ⟨_,rfl,bO O⟩)) fun J J e=>e.elim))
theorem Wk(x:Str)(lo hi:Option Int):Builtin.Str.strSliceIndices lo hi 1 x.length=(List.range (iU hi x.length-ft lo x.length)).map (ft lo x.length+·):=by
 rw[<- sliceRange_one];unfold Builtin.Str.strSliceIndices ft iU
 have L:(1:Int) > 0:=by decide
 simp only[L,if_true];cases lo <;> cases hi <;> simp only[Option.elim,clipAt_cast] <;> rfl
set_option tactic.hygienic true in
theorem VN{t:Tok}{l u:Option (Int×Tok)}(hx:x.length<=aI)(a7:∀bt k,Q (.str (nD x (l.map (·.1)) (u.map (·.1))) bt) { s with toks:=k }):(sliceMade x t l u none).post Q s:=by
 have V:slicePicked x l u none=(List.range (iU (u.map (·.1)) x.length-ft (l.map (·.1)) x.length)).map (ft (l.map (·.1)) x.length+·):=Wk x _ _
 have ak:(slicePicked x l u none).filterMap (x.cps[·]?)=ep x.cps.toList (l.map (·.1)) (u.map (·.1)):=by
  rw[V,pick_run];show(x.cps.toList.drop (ft _ x.length)).take _=(x.cps.toList.drop (ft _ x.cps.toList.length)).take _;rw[show x.cps.toList.length=x.length from by simp[Str.length]];rfl
 unfold sliceMade;refine post_val_or_str ?_
 have bK:(if((Option.map (fun(q:Int×Tok)=>q.1) none).getD 1 == 1&&(slicePicked x l u none).length == x.length)=true then x else⟨((slicePicked x l u none).filterMap (x.cps[·]?)).toArray⟩)=nD x (l.map (·.1)) (u.map (·.1)):=by
  split
  ·rename_i hc;simp only[eW,fy]at hc;have hl:=hc.2;rw[V,bh,List.length_range]at hl
   have bp:ep x.cps.toList (l.map (·.1)) (u.map (·.1))=x.cps.toList:=by
    have hn:x.cps.toList.length=x.length:=by simp[Str.length]
    have HX:iU (u.map (·.1)) x.length<=x.length:=by
     unfold iU
     cases u with
     | none=>exact dz _
     | some q=>exact Nd
    show(x.cps.toList.drop (ft _ x.cps.toList.length)).take (iU _ x.cps.toList.length-ft _ x.cps.toList.length)=_;rw[hn,hl];by_cases h0:x.length=0
    ·have:x.cps.toList=[]:=ii (hn.trans h0);rw[this];simp
    ·have z:ft (l.map (·.1)) x.length=0:=by
      have ax:=Nat.le_of_lt (Nat.lt_of_sub_ne_zero (hl▸h0));rw[(Nat.sub_eq_iff_eq_add ax).mp hl]at HX;exact Nat.le_zero.mp (Nat.le_of_add_le_add_left HX)
     rw[z,List.drop_zero,<- hn,List.take_length]
   unfold nD;rw[bp]
  ·unfold nD;rw[ak]
 rw[bK];refine⟨?_,a7⟩;show(ep x.cps.toList _ _).toArray.size<=sizeLine;exact fH.symm▸(aK (Kq _ _ _) (iB (by simpa[Str.length]using hx)))
theorem Wi{hi:Option Int}(h:PyData.strOk x=true):PyData.strOk (nD x lo hi)=true:=by
 refine Wj (c:=0) h fun d hd=>?_
 have:d∈ep x.cps.toList lo hi:=by simpa[nD]using hd
 unfold ep at this;exact List.mem_of_mem_drop (List.mem_of_mem_take this)
theorem J2{v:Value}{k:Option Int}(p:IsPart v k):∃q:Option (Int×Tok),v=partValue q/\q.map (·.1)=k:=by
 cases p with
 | none=>exact⟨none,rfl,rfl⟩
 | int i t=>exact⟨some (i,t),rfl,rfl⟩
noncomputable def i1(s:Shared)(y z:Value):Shared:={ s with heap:=s.heap.push { cls:=.type "slice",data:=.fields #[y,z,.none] } }
section
variable {a v:H}{hi:Option Int}{x z:Value}{l u:Option Expr}{p:Pos}
theorem w3(e:s.heap.get? b=some o):(i1 s y z).heap.get? b=some o:=c8 _ e
theorem VF(r:aq K.hb s.heap σ α)(aA:aj s.heap α a x)(mz:IsPart y lo)(mA:IsPart z hi)(e:cx σ a=some xs)(hl:xs.length<=aI) :
  wpAny (model K.prog K.w) A (subscriptTail value (.Slice l u none p) x (.ref s.heap.objs.size)) (cz K aj (.ok (.fl (ep xs lo hi)) σ) (i1 s y z) α) E (i1 s y z):=by
 obtain⟨ad,vs,n,rfl,V,w⟩:=l2 r aA e;have k:∀b o,s.heap.get? b=some o->(i1 s y z).heap.get? b=some o:=fun J J=>w3;have fO:(i1 s y z).heap.IsList ad vs.toArray:=⟨_,k _ _ V,rfl,n,rfl⟩;refine tail_any fO.typeIs slot_list_getitem.lookup (wpAny_getItem_list_slice fO (Heap.IsSliceOf.new ..) mz mA .none (by trivial) ?_ (fH.symm▸w.1▸(iB hl))) rfl;exact Ux.symm▸(cz.fl (r.keeps k) ((w.ext (.keeps (F:=[]) k)).slice lo hi))
theorem VH(r:aq K.hb s.heap σ α)(aA:aj s.heap α (.tup xs) x)(mz:IsPart y lo)(mA:IsPart z hi)(hl:xs.length<=aI) :
  wpAny (model K.prog K.w) A (subscriptTail value (.Slice l u none p) x (.ref s.heap.objs.size)) (cz K aj (.ok (.tup (ep xs lo hi)) σ) (i1 s y z) α) E (i1 s y z):=by
 obtain⟨t,vs,n,rfl,V,hn,w⟩:=aA.tupE;have k:∀b o,s.heap.get? b=some o->(i1 s y z).heap.get? b=some o:=fun J J=>w3;have xW:=k _ _ V;have dL:=w.ext (.keeps (F:=[]) k);refine tail_any ⟨_,xW,rfl⟩ slot_tuple_getitem.lookup (Xy xW (Heap.IsSliceOf.new ..) mz mA (w.1▸(iB hl)) (fun hw=>?_) ?_) rfl
 ·refine⟨_,σ,α,rfl,.refl,r.keeps k,?_,.refl _⟩;have Q9:ep xs lo hi=xs:=((List.take_sublist _ _).trans (List.drop_sublist _ _)).eq_of_length (((dL.slice lo hi).1.trans (congrArg List.length hw)).trans w.1.symm);exact Q9.symm▸(aj.tupI xW hn dL)
 ·exact cz.tup (r.keeps k) (dL.slice lo hi)
theorem VG{w:Str}(r:aq K.hb s.heap σ α)(aA:aj s.heap α (.str w) x)(mz:IsPart y lo)(mA:IsPart z hi)(hl:w.length<=aI) :
  wpAny (model K.prog K.w) A (subscriptTail value (.Slice l u none p) x (.ref s.heap.objs.size)) (cz K aj (.ok (.str (nD w lo hi)) σ) (i1 s y z) α) E (i1 s y z):=by
 refine az aA.strE fun t ag hw=>?_;obtain rfl:=ag;refine az (J2 mz) fun q1 ag dM=>?_;obtain rfl:=ag;refine az (J2 mA) fun q2 ag ef=>?_;obtain rfl:=ag;refine tail_any (typeIs_str _ w _) F.slot_str_getitem.lookup (wpAny_getItem_str_slice (l:=q1) (u:=q2) (st:=none) ⟨_,eJ _ rfl,rfl,rfl⟩ rfl (VN hl fun bt pz=>?_)) rfl;exact dM.symm▸ef.symm▸(⟨_,σ,α,rfl,.refl,r.keeps fun J J=>w3,.str _ _ (Wi hw),⟨rfl,rfl⟩⟩)
theorem VI(h:tt σ a lo hi=some v)(r:aq K.hb s.heap σ α)(aA:aj s.heap α a x)(mz:IsPart y lo)(mA:IsPart z hi) :
  wpAny (model K.prog K.w) A (subscriptTail value (.Slice l u none p) x (.ref s.heap.objs.size)) (cz K aj (.ok v σ) (i1 s y z) α) E (i1 s y z):=by
 have gen:((cx σ a).bind fun xs=>if xs.length<=aI then some (H.fl (ep xs lo hi))else none)=some v->wpAny (model K.prog K.w) A (subscriptTail value (.Slice l u none p) x (.ref s.heap.objs.size)) (cz K aj (.ok v σ) (i1 s y z) α) E (i1 s y z):=fun h =>
  cF h fun xs e h=>qw h fun hl h=>oi h▸VF r aA mz mA e hl
 cases a with
 | tup xs=>exact qw h fun hl h=>oi h▸VH r aA mz mA hl
 | str w=>exact qw h fun hl h=>oi h▸VG r aA mz mA hl
 | _=>exact gen h
end
theorem VO{l u:Option Expr}{p:Pos}{a b c:H}{x z:Value}(r:aq K.hb s.heap σ α)(aA:aj s.heap α a x)(br:aj s.heap α b y)(wZ:aj s.heap α c z) :
  av K aj A (subscriptTail value (.Slice l u none p) x (.ref s.heap.objs.size)) (kl a b c σ) (i1 s y z) α:=by
 intro hc
 cases h:(pc b).bind fun lo=>(pc c).bind fun hi=>tt σ a lo hi with
 | none=>unfold kl at hc;rw[h]at hc;exact absurd rfl hc
 | some v =>
  unfold kl;rw[h];exact cF h fun lo L h=>cF h fun hi O h=>VI h r aA (J0 L br) (J0 O wZ)
set_option tactic.hygienic true in
theorem Te{a b:H}{x:Value}(hA:eF A)(aR:A.handled=none)(r:aq K.hb s.heap σ α)(aA:aj s.heap α a x)(br:aj s.heap α b y):av K aj A (call (.builtin "min") [x,y]) (qF a b σ) s α:=by
 intro hc
 cases a with
 | int i =>
  cases b with
  | int j =>
   refine aM aA.intE fun J ag=>?_;obtain rfl:=ag;refine aM br.intE fun J ag=>?_;obtain rfl:=ag;refine min_two_ints aR fun h' tk k=>?_;have:∀{q:H} {w:Value},q=.int (min i j)->aj h' α q w->cz K aj (qF (.int i) (.int j) σ) s α w { s with heap:=h',toks:=tk }:=fun{q w} e v=>⟨q,σ,α,by rw[e];rfl,.keeps k,r.keeps k,v,⟨rfl,rfl⟩⟩
   split
   ·rename_i h;exact this (by congr 1;(grind)) (.int j _)
   ·rename_i h;exact this (by congr 1;(grind)) (.int i _)
  | _=>exact absurd rfl hc
 | _=>exact absurd rfl hc
theorem J1{o:Option Expr}{x:X}(S:cf K A C f)(h:tC (f N) o=some x)(aw:env.scope.names=N)(hn:cR K.hb env)(E:a1 env ρ s.heap α)(r:aq K.hb s.heap σ α) :
  av K aj A (valueOrNone (evalOpt o env)) (ev C x ρ σ) s α:=by
 cases o with
 | none=>obtain rfl:=oi h;exact av.pure r .none
 | some e=>exact((S N e x h).2 env ρ σ s α aw hn E r).1
theorem VM{o:Expr}{lo hi:Option Expr}{p:Pos}{x y z:X}(S:cf K A C f)(L:f N o=some x)(O:tC (f N) lo=some y)(ax:tC (f N) hi=some z)
  (aw:env.scope.names=N) (hn:cR K.hb env) (E:a1 env ρ s.heap α) (r:aq K.hb s.heap σ α) :
  av K aj A (eval (.Subscript o (.Slice lo hi none p) pos) env) (ev C (.slice x y z) ρ σ) s α:=by
 rw[DT,arm_eval_Subscript];refine av.bind ((S N o x L).2 env ρ σ s α aw hn E r).1 fun aA ac bc wY s₁ V aZ aY a0 a6=>?_;rw[arm_eval_Slice];intro hc;refine aN (hT (aN ?_));refine av.use (J1 S O aw hn (E.ext aZ .nil) aY) hc fun br au α₂ Ld bb ak e0 bz r2 bN cP=>?_;refine aN (hT ?_);rw[ak];show wpAny _ _ _ _ (dh K A ((ev C z ρ au).bind fun b σ=>kl aA br b σ) _ _) _;refine av.useL bz cP (J1 S ax aw hn ((E.ext aZ .nil).ext bz .nil) r2) e0 fun wZ gq pD ZE e3 bK Aj fv h4 iF iX=>?_;refine aN (hT (bO ?_));refine wpAny_newObj_type ?_ (by size_fits);refine aN (wpAny_standAt ?_);show wpAny _ _ _ (cz K aj ((ev C z ρ au).bind _) _ _) (dh K A ((ev C z ρ au).bind _) _ _) _;rw[bK];have o8:=cP.trans iX;exact(VO (value:=o) (l:=lo) (u:=hi) (p:=p) h4 ((a0.ext bz).ext fv) (bN.ext fv) iF).endL ((bz.trans fv).trans (.keeps fun J J=>w3)) ⟨o8.gens,o8.os⟩ Aj
theorem Td{a b:Expr}{p:Pos}{x y:X}(c:cn K A T C)(S:cf K A C f)(hg:fQ N "min" = true)(hY:("min" : Str)∈T.bins)(L:f N a=some x)(O:f N b=some y)
  (aw:env.scope.names=N) (hn:cR K.hb env) (E:a1 env ρ s.heap α) (r:aq K.hb s.heap σ α) :
  av K aj A (eval (.Call (.Name "min" p) [a,b] [] pos) env) (ev C (.min2 x y) ρ σ) s α:=by
 rw[DR]
 cases dn:C.hd with
 | true=>exact fun hc=>absurd rfl hc
 | false =>
 simp only[cond_false];intro hc;refine aW (S N a x L) fun Ax jS=>?_;refine aW (S N b y O) fun ng eh=>?_;refine kC (kF c hg hY rfl aw E.ok r ?_);rw[iE Ax,iE ng];refine Calls.callWith_builtin rfl (Calls.evalArgs_plain (Calls.spliced_cons ?_));refine av.use (jS env ρ σ s α aw hn E r).1 hc fun a0 ac bc wY s₁ V c9 aZ aY jq a6=>?_;rw[V];refine Calls.spliced_cons ?_;show wpAny _ _ _ _ (dh K A ((ev C y ρ ac).bind fun y σ=>qF a0 y σ) _ _) _;refine av.useL aZ a6 (eh env ρ ac s₁ bc aw hn (E.ext aZ .nil) aY).1 c9 fun bN au α₂ Ld bb ak e0 bz r2 lT cP=>Calls.spliced_nil ?_;show wpAny _ _ _ (cz K aj ((ev C y ρ ac).bind _) _ _) (dh K A ((ev C y ρ ac).bind _) _ _) _;exact ak.symm▸((Te c.hA (c.hd dn) r2 (jq.ext bz) lT).endL (aZ.trans bz) (a6.trans cP) e0)
set_option tactic.hygienic true in
theorem Sr{a:Expr}{p bX Bu:Pos}{x:X}(c:cn K A T C)(S:cf K A C f)(hg:fQ N "len" = true)(hY:("len" : Str)∈T.bins)(Ap:fQ N "set" = true)(PX:("set" : Str)∈T.bins)(h:f N a=some x)
  (aw:env.scope.names=N) (hn:cR K.hb env) (E:a1 env ρ s.heap α) (r:aq K.hb s.heap σ α) :
  av K aj A (eval (.Call (.Name "len" p) [.Call (.Name "set" bX) [a] [] Bu] [] pos) env) (ev C (.b1 .lenset x) ρ σ) s α:=by
 rw[DP];intro hc;refine aW (S N a x h) fun hp ar=>?_;refine kC (kF c hg hY rfl aw E.ok r ?_);rw[iE (e:=.Call (.Name "set" bX) [a] [] Bu) rfl];refine PySem.callWith_builtin1 ?_;refine kC (kF c Ap PX rfl aw E.ok r ?_);rw[iE hp];refine PySem.callWith_type1 ?_;refine av.use (ar env ρ σ s α aw hn E r).1 hc fun a0 ac bc wY s₁ V c9 aZ aY jq a6=>?_;rw[V]
 have q:dx .lenset a0 ac=match(eM ac a0).bind kD with
   | some l=>if l.length<=1000 then .ok (.int (gS l).length) ac else .stuck
   | none=>.stuck:=by cases a0 <;> rfl
 refine aW (C9 c9) fun dM ef=>?_;have dn:=dM rfl;show wpAny _ _ _ (fun v s₁=>wpAny _ _ _ (cz K aj (i8 C.hd .lenset a0 ac) s α) (dh K A (i8 C.hd .lenset a0 ac) s α) s₁) _ _;rw[ef,q]at c9 ⊢
 split at c9
 ·rename_i l hl
  split at c9
  ·rename_i H1;rw[aE H1];refine Su c.hA (c.hd dn) aY jq hl H1 fun D h' tk k da=>da _ _ fun t pz=>?_;exact⟨_,ac,bc,rfl,aZ.trans (.keeps k),aY.keeps k,.int _ _,⟨a6.gens,a6.os⟩⟩
  ·exact absurd rfl c9
 ·exact absurd rfl c9
theorem Br{es:List Expr}{xs:X}(S:cf K A C f)(h:fW (f N) es=some xs):(backTo pos (starEach es env)).all (fun x=>!x.1)=true/\(backTo pos (starEach es env)).any (·.1)=false:=by
 have:∀{es:List Expr} {xs:X},fW (f N) es=some xs->∀x∈starEach es env,x.1=false:=by
  intro es
  induction es with
  | nil=>intro xs h x hx;contradiction
  | cons e es ao =>
   intro xs h x hx;refine l7 (nL h) fun a b ha hb J=>?_;rw[iE (S N e a ha).1]at hx
   rcases cE.mp hx with q | q
   ·rw[q]
   ·exact ao hb x q
 have key:∀x∈backTo pos (starEach es env),x.1=false:=by
  intro x hx;unfold backTo at hx
  first
   | (refine az (cL.mp hx) fun y hy ag=>?_;obtain rfl:=ag;exact this h y hy)
   | (split at hx <;> first | (obtain⟨y,hy,rfl⟩:=cL.mp hx;exact this h y hy) | exact this h x hx)
 exact⟨fZ.mpr fun x hx=>by rw[key x hx];rfl,List.any_eq_false.mpr fun x hx=>by rw[key x hx];(trivial)⟩
theorem C1{F:Value}{es:List Expr}{Q:Args->Shared->Prop}(h:wpAny (model K.prog K.w) A (spliced (backTo pos (starEach es env))) (fun vs s₁=>Q ⟨vs,[]⟩ s₁) E s)
  (pl:(backTo pos (starEach es env)).any (·.1)=false):wpAny (model K.prog K.w) A (evalArgs F true (backTo pos (starEach es env)) []) Q E s:=by
 cases hq:backTo pos (starEach es env)with
 | nil =>
  rw[hq]at h;unfold evalArgs;show wpAny _ A (spliced [] >>= _) Q E s;refine aN (cB h (fun vs s' h'=>?_) fun J J x=>x);refine aN (bO (hT ?_));exact aN (bO (aN (bO (bO h'))))
 | cons p r =>
  rw[hq]at h pl;obtain⟨b,t⟩:=p;rw[List.any_cons,Bool.or_eq_false_iff]at pl;obtain rfl:b=false:=pl.1;exact Calls.evalArgs_plain h
theorem MD{mZ:Value}{es:List Expr}{xs:X}{p:Pos}{β:Type}{F:List H->af->ah β}{W:Value->Shared->Prop}(c:cn K A T C)(S:cf K A C f)(hg:fQ N g=true)(hY:g∈T.bins)(hv:lm g=some mZ)(aO:(∃t,mZ=.type t)\/∃b,mZ=.builtin b)
  (h:fW (f N) es=some xs) (aw:env.scope.names=N) (hn:cR K.hb env) (E:a1 env ρ s.heap α) (r:aq K.hb s.heap σ α) (hc:(evs C xs ρ σ).bind F≠.stuck)
  (k:∀vs σ' α' us s',evs C xs ρ σ=.ok vs σ'->F vs σ'≠.stuck->a4 [] α s.heap α' s'.heap->aq K.hb s'.heap σ' α'->bj s'.heap α' vs us->cA s s'->wpAny (model K.prog K.w) A (call mZ us) W (dh K A ((evs C xs ρ σ).bind F) s α) s') :
  wpAny (model K.prog K.w) A (eval (.Call (.Name g p) es [] pos) env) W (dh K A ((evs C xs ρ σ).bind F) s α) s:=by
 refine aW (Br (env:=env) (pos:=pos) S h) fun J tg=>?_;refine kC (kF c hg hY hv aw E.ok r ?_);have ar:=p7 (pos:=pos) S h aw hn E r
 have CE:∀{O0:Value},wpAny (model K.prog K.w) A (evalArgs O0 true (backTo pos (starEach es env)) []) (fun a s₁=>wpAny (model K.prog K.w) A (call mZ ([]++a.pos) a.kw) W (dh K A ((evs C xs ρ σ).bind F) s α) s₁) (dh K A ((evs C xs ρ σ).bind F) s α) s:=
  C1 (av.use ar hc fun vs σ' α' us s' V cy aQ aJ dL bJ=>k vs σ' α' us s' V cy aQ aJ dL bJ) tg
 rcases aO with⟨t,rfl⟩ | ⟨b,rfl⟩
 ·exact PySem.callWith_type tg CE
 ·exact Calls.callWith_builtin tg CE
noncomputable def tQ(ck:List Str)(cI:List H)(us:List (Value×Value)):Prop:=
 us.length=ck.length/\∀(i:Nat) k v,ck[i]?=some k->cI[i]?=some v->∃t u,us[i]?=some (Value.str k t,u)/\∀h α,aj h α v u
theorem tQ.cons{us:List (Value×Value)}{k:Str}{v:H}{t:Tok}(hu:∀h α,aj h α v u)(ar:tQ ck cI us):tQ (k::ck) (v::cI) ((.str k t,u)::us):=by
 refine⟨congrArg Nat.succ ar.1,fun i bW dL V ak=>?_⟩
 cases i with
 | zero=>obtain rfl:=oi V;obtain rfl:=oi ak;exact⟨t,u,rfl,hu⟩
 | succ i=>exact ar.2 i bW dL V ak
theorem SF{v:H}(h:Ja e=some v){X:Value->Shared->Prop}(a7:∀u tk,(∀h α,aj h α v u)->Q u { s with toks:=tk }):wpAny (model K.prog K.w) A (eval e env) Q X s:=by
 cases e with
 | Constant c l4 rO =>
  change wT c=_ at h
  cases c with
  | none=>obtain rfl:=oi h;exact wpAny_Constant_none (a7 _ s.toks fun h α=>.none)
  | bool b=>obtain rfl:=oi h;exact wpAny_Constant_bool (a7 _ s.toks fun h α=>.bool b)
  | int i=>obtain rfl:=oi h;exact wpAny_Constant_int (a7 _ _ fun h α=>.int i _)
  | str z =>
   change cm _ _=_ at h
   exact cU h fun bp h=>by obtain rfl:=oi h;exact wpAny_Constant_str (a7 _ _ fun h α=>.str z _ bp)
  | _=>contradiction
 | _=>contradiction
theorem Jb(h:AZ e=some x):∃k p,e=.Constant (.str x) k p/\PyData.strOk x=true:=by
 cases e with
 | Constant c k p =>
  cases c with
  | str z =>
   change cm _ _=_ at h
   exact cU h fun bp h=>by obtain rfl:=oi h;exact⟨_,_,rfl,bp⟩
  | _=>contradiction
 | _=>contradiction
noncomputable def CJ(K:a3)(A:Around)(env:Env)(pos:Pos)(ks:List (Option Expr))(vs:List Expr)(ck:List Str)(cI:List H):Prop:=
 ∃qQ:List (Sem Value×Sem Value),(evalEachOpt ks env).zip ((evalEach vs env).map fun v=>do let x <- v;standAt pos;pure x)=qQ.map (fun p=>(some p.1,p.2))/\qQ.length=ck.length/\cI.length=ck.length ∧
   ∀{s:Shared} {Q:List (Value×Value)->Shared->Prop} {X:Value->Shared->Prop},(∀us tk,tQ ck cI us->Q us { s with toks:=tk })->wpAny (model K.prog K.w) A (evalPairs qQ) Q X s
theorem Uu:∀{vs:List Expr} {ck:List Str} {cI:List H},rQ ks=some ck->AY vs=some cI->vs.length=ks.length->CJ K A env pos ks vs ck cI:=by
 induction ks with
 | nil =>
  intro vs ck cI L O hl;obtain rfl:=oi L;obtain rfl:=ii hl;obtain rfl:=oi O;exact⟨[],rfl,rfl,rfl,fun a7=>evalPairs_nil (a7 [] _ ⟨rfl,fun i k v e=>nomatch e⟩)⟩
 | cons k ks ao =>
  intro vs ck cI L O hl
  cases vs with
  | nil=>contradiction
  | cons e es =>
   change bR _ _ _=_ at L O;refine gf (M:=fun ck=>CJ K A env pos (k::ks) (e::es) ck cI) L fun ed IZ hs hr=>?_;refine gf O fun v ZL hc hv=>?_;refine cF hs fun Zj hk hs=>?_;obtain⟨lF,p,rfl,c3⟩:=Jb hs;subst hk;obtain⟨qQ,V,ak,bK,ar⟩:=ao hr hv (Nat.succ.inj hl);refine⟨(eval (.Constant (.str ed) lF p) env,do let x <- eval e env;standAt pos;pure x)::qQ,?_,congrArg Nat.succ ak,congrArg Nat.succ bK,fun a7=>?_⟩
   ·rw[dw,<- V];rfl
   ·exact evalPairs_cons (wpAny_Constant_str (aN (SF hc fun u tk hu=>aN (wpAny_standAt (bO (ar fun us pz hk=>a7 _ pz (hk.cons hu)))))))
theorem Vy:∀{ks:List Str} {vals:List H} {us:List (Value×Value)} {el:List (Str×Value)} {k:Str},ks.length=us.length->vals.length=ks.length->el=(ks.zip us).map (fun p=>(p.1,p.2.2)) ->
  (∀(i:Nat) k v,ks[i]?=some k->vals[i]?=some v->∃t u,us[i]?=some (Value.str k t,u)/\∀h α,aj h α v u) ->
  (∀v,jn k (ks.zip vals)=some v->∃u,valueAt el k=some u/\∀h α,aj h α v u)/\(jn k (ks.zip vals)=none->valueAt el k=none):=by
 intro ks
 induction ks with
 | nil =>
  intro vals us el k L O ax aT;subst ax;exact⟨fun v e=>(by contradiction),fun J=>rfl⟩
 | cons a ks ao =>
  intro vals us el k L O ax aT
  cases vals with
  | nil=>contradiction
  | cons v vals =>
   cases us with
   | nil=>contradiction
   | cons u us =>
    subst ax;obtain⟨t,jo,q1,q2⟩:=aT 0 a v rfl rfl;obtain rfl:=oi q1;have ao:=ao (vals:=vals) (us:=us) (k:=k) (Nat.succ.inj L) (Nat.succ.inj O) rfl (fun i k v V ak=>aT (i+1) k v V ak);rw[List.zip_cons_cons,List.zip_cons_cons,dw,Lh];show(∀w,(if a=k then some v else jn k (ks.zip vals))=some w->_)/\((if a=k then some v else jn k (ks.zip vals))=none->_);by_cases hk:a=k
    ·rw[aE hk,aE hk];exact⟨fun w hw=>by obtain rfl:=oi hw;exact⟨jo,rfl,q2⟩,fun hw=>nomatch hw⟩
    ·rw[a5 hk,a5 hk];exact ao
theorem M3:∀{ks:List Str} {vals:List H} {us:List (Value×Value)},ks.length=us.length->vals.length=ks.length ->
  (∀(i:Nat) k v,ks[i]?=some k->vals[i]?=some v->∃t u,us[i]?=some (Value.str k t,u)/\∀h α,aj h α v u)->Carries (strKind K.prog K.w) us ((ks.zip us).map fun p=>(p.1,p.2.2)):=by
 intro ks
 induction ks with
 | nil =>
  intro vals us L O aT
  cases us with
  | nil=>trivial
  | cons u us=>contradiction
 | cons a ks ao =>
  intro vals us L O aT
  cases vals with
  | nil=>contradiction
  | cons v vals =>
   cases us with
   | nil=>contradiction
   | cons u us =>
    obtain⟨t,jo,q1,q2⟩:=aT 0 a v (by rfl) (by rfl);simp at q1;subst q1;refine⟨?_,rfl,ao (vals:=vals) (by simpa using L) (by simpa using O) fun i k v V ak=>by have:=aT (i+1) k v (by simpa using V) (by simpa using ak);simpa using this⟩;show Value.isStrOf a (.str a t)=true;simp[Value.isStrOf]
theorem T3(hK:K.Ok)(r:aq K.hb s.heap σ α):(s.heap.objs.size == sysModules)=false:=by
 refine j8 hK.g fun o es ez e J=>?_;have L:=fi (r.base _ _ e);have O:mainGlobals<s.heap.objs.size:=L
 have ax:sysModules<=mainGlobals:=by decide
 have:s.heap.objs.size≠sysModules:=dc (fY ax O);simpa using this
theorem V3{a b:Expr}(L:jm a=true)(O:jm b=true):starEach [a,b] env=[(false,eval a env),(false,eval b env)]:=by
 rw[iE L,iE O];rfl
theorem Oz{vs:List Expr}{X:Value->Shared->Prop}(hk:rQ ks=some ck)(hv:xU ks.length vs=some cI)(oN:ck.Nodup)(da:ck.length<=15)(de:ck≠[])
  (a7:∀s₀ el,(∀b o,s.heap.get? b=some o->s₀.heap.get? b=some o)->cA s s₀->s₀.heap.DictOf (strKind K.prog K.w) s.heap.objs.size el->(∀k,(∀v,jn k (ck.zip cI)=some v->∃u,valueAt el k=some u/\∀h α,aj h α v u)/\(jn k (ck.zip cI)=none->valueAt el k=none))->Q (.ref s.heap.objs.size) s₀) :
  wpAny (model K.prog K.w) A (eval (.Dict ks vs pos) env) Q X s:=by
 refine cU hv fun Q8 hv=>?_;refine op (Uu (K:=K) (A:=A) (env:=env) (pos:=pos) hk hv (eq_of_beq Q8)) fun qQ BI pl vl ar=>?_;refine wpAny_Dict_pairs (knd:=strKind K.prog K.w) BI (fun q=>de (ii (pl.symm.trans (congrArg List.length q)))) (pl.symm▸da) (ar fun us tk sY=>⟨_,M3 (K:=K) sY.1.symm vl sY.2,Heap.DictOf.new _,fun h' fo fT=>?_⟩)
 have Qp:((ck.zip us).map fun p=>(p.1,p.2.2)).map (·.1)=ck:=by
  rw[gL];exact List.map_fst_zip (Nat.le_of_eq sY.1.symm)
 exact a7 _ _ (fun b o e=>(fT.2 b (ik (fi e))).trans (c8 _ e)) ⟨rfl,rfl⟩ (merged_nil_of_nodup _ (Qp.symm▸oN)▸fo) fun k=>Vy sY.1.symm vl rfl sY.2
theorem OB{k d:H}(h:sb ck cI k d σ≠.stuck)(g:∀q,k=.str q->P):P:=by
 cases k with
 | str q=>exact g q rfl
 | _=>exact absurd rfl h
theorem OA{vs:List Expr}{xV:Pos}{k d:Expr}{x y:X}(c:cn K A T C)(S:cf K A C f)(oK:(f3.endLine == pos.line)=true)
  (hk:rQ ks=some ck) (hv:xU ks.length vs=some cI) (oN:ck.Nodup) (da:ck.length<=15) (de:ck≠[]) (L:f N k=some x) (O:f N d=some y)
  (aw:env.scope.names=N) (hn:cR K.hb env) (E:a1 env ρ s.heap α) (r:aq K.hb s.heap σ α) :
  av K aj A (eval (.Call (.Attribute (.Dict ks vs xV) "get" f3) [k,d] [] pos) env) ((ev C x ρ σ).bind fun k σ=>(ev C y ρ σ).bind fun d σ=>sb ck cI k d σ) s α:=by
 intro hc;refine aW (S N k x L) fun Ax jS=>?_;refine aW (S N d y O) fun ng eh=>?_;refine Call_method2 rfl (V3 Ax ng) oK (Oz hk hv oN da de fun s₀ el lF qC hd g=>?_);have hm:=T3 c.hK r;have hD:=lK s;generalize s.heap.objs.size=D at hd hm hD;have k6:a4 [] α s.heap α s₀.heap:=.keeps lF;refine⟨"dict", "dict.get",F.plainAttrs_dict,F.slot_dict_get,F.type_dict_get,hd.typeIs,hd.mapOf.noDict,?_⟩;refine wpAny_dict_get2 (knd:=strKind K.prog K.w) hm (av.useL k6 qC (jS env ρ σ s₀ α aw hn (E.ext k6 .nil) (r.keeps lF)).1 hc fun pk ac bc ZG s₁ V c9 aZ aY a0 a6=>?_);rw[V];refine av.useL (f:=fun d σ=>sb ck cI pk d σ) (k6.trans aZ) (qC.trans a6) (eh env ρ ac s₁ bc aw hn ((E.ext k6 .nil).ext aZ .nil) aY).1 c9 fun Zv au α₂ ZF bb ak e0 bz r2 bN cP=>?_;refine OB e0 fun qy QL=>?_;subst QL;refine az a0.strE fun WN ag hq=>?_;obtain rfl:=ag;refine j8 hd fun lL es ez p5 uj=>?_;have nc:D∉α.ix:=fun q=>aM (r.live q) fun o e=>nomatch hD.symm.trans e
 have HA:D∉α.fr:=fun q=>by
  obtain⟨_,o,e,_⟩:=r.frs _ (r.fe▸q);exact nomatch hD.symm.trans e
 have NF:=(aZ.rest _ _ nc ew p5).not HA;have NG:=(bz.rest _ _ (aZ.notMem nc p5) ew NF).not (aZ.fre▸HA);refine⟨qy,_,by show Value.isStrOf qy (.str qy WN)=true;simp[Value.isStrOf],Heap.DictOf.mapOf ⟨_,es,ez,NG,uj⟩,?_⟩;show cz K aj ((ev C y ρ ac).bind _) _ _ _ _;rw[ak];refine⟨_,au,α₂,rfl,(k6.trans aZ).trans bz,r2,?_,(qC.trans a6).trans ⟨cP.gens,cP.os⟩⟩
 cases vN:jn qy (ck.zip cI)with
 | none=>exact((g qy).2 vN).symm▸bN
 | some w=>exact az ((g qy).1 w vN) fun u q1 q2=>q1.symm▸(q2 _ _)
theorem RA{x:X}(h:AR x=false):evIt C x ρ σ=(ev C x ρ σ).bind eD:=by
 cases x <;> first | (contradiction;done) | (rfl)
theorem RV{x:X}(c:cn K A T C)(dn:C.hd=false)(S:cf K A C f)(h:f N e=some x)(hi:AR x=false)(aw:env.scope.names=N)(hn:cR K.hb env)(E:a1 env ρ s.heap α)(r:aq K.hb s.heap σ α) :
  ju K A en (eval e env) (evIt C x ρ σ) s α:=by
 rw[RA hi];intro hc;refine av.use ((S N e x h).2 env ρ σ s α aw hn E r).1 hc fun v ac bc y s₁ V c9 aZ aY a0 a6=>?_;exact V.symm▸(cB (R3 c.hA (c.hd dn) aY a0 c9) (fun it bb hp=>hp.lift aZ a6) fun J J e=>e)
noncomputable def pT(K:a3)(A:Around)(t:Sem Value)(c:ah (List H×Option (Nat×aV)))(s:Shared)(α:ay):Prop:=c≠.stuck->wpAny (model K.prog K.w) A t (mV K c s α) (dh K A c s α) s
theorem RW{a:Expr}{p:Pos}{x:X}(c:cn K A T C)(S:cf K A C f)(h:f N a=some x)(hg:fQ N "range" = true)(hY:("range" : Str)∈T.bins)(aw:env.scope.names=N)(hn:cR K.hb env)(E:a1 env ρ s.heap α)(r:aq K.hb s.heap σ α) :
  pT K A (eval (.Call (.Name "range" p) [a] [] pos) env) (evIt C (.range1 x) ρ σ) s α:=by
 show pT K A _ ((ev C x ρ σ).bind ny) s α;intro hc;refine aW (S N a x h) fun hp ar=>?_;refine kC (kF c hg hY rfl aw E.ok r ?_);rw[iE hp];refine PySem.callWith_type1 (av.use (ar env ρ σ s α aw hn E r).1 hc fun v ac bc y s₁ V c9 aZ aY a0 a6=>?_);exact V.symm▸(cB (MY aY a0 c9) (fun it bb hp=>hp.lift aZ a6) fun J J e=>e)
theorem RU{a:Expr}{p:Pos}{x:X}(c:cn K A T C)(dn:C.hd=false)(S:cf K A C f)(h:f N a=some x)(hg:fQ N "enumerate" = true)(hY:("enumerate" : Str)∈T.bins)(aw:env.scope.names=N)(hn:cR K.hb env)(E:a1 env ρ s.heap α)(r:aq K.hb s.heap σ α) :
  ju K A true (eval (.Call (.Name "enumerate" p) [a] [] pos) env) (evIt C (.enum x) ρ σ) s α:=by
 show ju K A true _ ((ev C x ρ σ).bind ou) s α;intro hc;refine aW (S N a x h) fun hp ar=>?_;refine kC (kF c hg hY rfl aw E.ok r ?_);rw[iE hp];refine PySem.callWith_type1 (av.use (ar env ρ σ s α aw hn E r).1 hc fun v ac bc y s₁ V c9 aZ aY a0 a6=>?_);exact V.symm▸(cB (R1 (c.hd dn) aY a0 c9) (fun it bb hp=>cB hp (fun y e3 hp=>hp.lift aZ a6) fun J J e=>e) fun J J e=>e)
theorem nn{q:Str×Pos}(h:nl e=some q):e=.Name q.1 q.2:=qE (o:=Jz e) h
theorem Dk{α:Type}{g:{ q:Cu // e=.Call q.f q.as q.ks q.pos }->Option α}{a:α}{M:Prop}(h:(ud e).bind g=some a)(k:∀c,g c=some a->M):M:=by
 cases hc:ud e with
 | none=>rw[hc]at h;exact nomatch h
 | some c=>rw[hc]at h;exact k c h
theorem uc{q:xd}(h:rN e=some q):e=.Call (.Name q.g q.p) [q.a] [] q.pos:=by
 refine Dk h fun c h=>?_;refine cU h fun h0 h=>gf (M:=fun q:xd=>e=.Call (.Name q.g q.p) [q.a] [] q.pos) h fun n a L O=>?_;refine c.2.trans ?_;rw[nn L,s8 O,hz.mp h0]
theorem MV{q:xe}(h:callN? e=some q):e=.Call (.Name q.g q.p) q.as [] q.pos:=by
 refine Dk h fun c h=>?_;refine cU h fun h0 h=>fR (M:=fun q:xe=>e=.Call (.Name q.g q.p) q.as [] q.pos) h fun n L=>?_;refine c.2.trans ?_;rw[nn L,hz.mp h0]
theorem WR{k:Nat}{xs:X}(h:BX T N (f N) g k e=some xs)(ck:∀p as pos,e=.Call (.Name g p) as [] pos->fQ N g=true->g∈T.bins->as.length=k->fW (f N) as=some xs->P):P:=by
 refine cF h fun q hq h'=>cU h' fun hc gA=>?_;refine aW (dk hc) fun hc ax=>?_;refine aW (dk hc) fun L O=>?_;refine aW (dk O) fun aT c2=>?_;obtain rfl:=eq_of_beq L;exact ck q.p q.as q.pos (MV hq) aT (by simpa using c2) (eq_of_beq ax) gA
theorem Ye{vs:List H}(h:w7 vs σ≠.stuck)(k:∀a b,vs=[a,b]->P):P:=by
 cases vs with
 | nil=>exact absurd rfl h
 | cons a l =>
  cases l with
  | nil=>exact absurd rfl h
  | cons b l =>
   cases l with
   | nil=>exact k a b rfl
   | cons c l=>exact absurd rfl h
theorem RY{xs:X}(c:cn K A T C)(dn:C.hd=false)(S:cf K A C f)(h:BX T N (f N) "zip" 2 e=some xs)(aw:env.scope.names=N)(hn:cR K.hb env)(E:a1 env ρ s.heap α)(r:aq K.hb s.heap σ α) :
  ju K A true (eval e env) (evIt C (.zip xs) ρ σ) s α/\jm e=true:=by
 refine WR h fun p as pos he hg hb hl gA=>?_;subst he;refine⟨?_,rfl⟩;show ju K A true _ ((evs C xs ρ σ).bind w7) s α;intro hc;refine MD c S hg hb rfl (.inl ⟨_,rfl⟩) gA aw hn E r hc fun vs ac bc us s₁ V c9 aZ aY a0 a6=>?_;rw[V];refine Ye c9 fun a b hv=>?_;subst hv;refine c1 a0.inv_cons fun x ZI ag bi=>?_;obtain rfl:=ag;obtain⟨aA,a0⟩:=bi;refine c1 a0.inv_cons fun y ZJ ag bi=>?_;obtain rfl:=ag;obtain⟨br,a0⟩:=bi;obtain rfl:=ii a0.1.symm;exact cB (R4 (c.hd dn) aY aA br c9) (fun it bb hp=>cB hp (fun y e3 hp=>hp.lift aZ a6) fun J J e=>e) fun J J e=>e
theorem Xb{x:X}{P:X->Prop}(h:B7 T N (f N) e=some x)(k:∀p a pos y,e=.Call (.Name "range" p) [a] [] pos->fQ N "range" = true->("range" : Str)∈T.bins->f N a=some y->P (.range1 y)):P x:=by
 unfold B7 at h;refine cF h fun q hq h=>cU h fun hc h=>?_;refine aW (dk hc) fun L O=>?_;refine aW (dk O) fun aT c2=>?_;have he:=uc hq;rw[eq_of_beq L]at he aT c2;exact fR h fun y hy=>k q.p q.a q.pos y he aT (by simpa using c2) hy
theorem Xc{x:X}(c:cn K A T C)(S:cf K A C f)(h:B8 T N (f N) e=some x)(aw:env.scope.names=N)(hn:cR K.hb env)(E:a1 env ρ s.heap α)(r:aq K.hb s.heap σ α) :
  pT K A (eval e env) (evIt C x ρ σ) s α/\jm e=true:=by
 unfold B8 at h
 exact Xb (P:=fun x=>pT K A (eval e env) (evIt C x ρ σ) s α/\jm e=true) h fun p a pos y he hg hb gA=>by subst he;exact⟨RW c S gA hg hb aw hn E r,rfl⟩
theorem pT.it{i9:ah (List H×Option (Nat×aV))}(c:cn K A T C)(dn:C.hd=false)(ar:pT K A (eval e env) i9 s α):ju K A en (eval e env) i9 s α:=fun hc =>
 cB (ar hc) (fun J J p=>p.iter c.hA (c.hd dn)) fun J J e=>e
theorem wV{x:X}(c:cn K A T C)(dn:C.hd=false)(S:cf K A C f)(h:pB T N (f N) e=some x)(aw:env.scope.names=N)(hn:cR K.hb env)(E:a1 env ρ s.heap α)(r:aq K.hb s.heap σ α) :
  ju K A en (eval e env) (evIt C x ρ σ) s α/\jm e=true:=by
 unfold pB at h;refine kj h (fun y hy h=>?_) fun J h=>?_
 ·obtain rfl:=oi h;refine aW (Xc c S hy aw hn E r) fun q1 q2=>?_;exact⟨q1.it c dn,q2⟩
 ·unfold K3 at h;refine cF h fun y hq h=>cU h fun hi h=>?_;obtain rfl:=oi h;exact⟨RV c dn S hq (by simpa using hi) aw hn E r,(S N e _ hq).1⟩
theorem W2{x:X}(c:cn K A T C)(dn:C.hd=false)(S:cf K A C f)(h:wU T N (f N) e=some x)(aw:env.scope.names=N)(hn:cR K.hb env)(E:a1 env ρ s.heap α)(r:aq K.hb s.heap σ α) :
  ∃en,ju K A en (eval e env) (evIt C x ρ σ) s α/\jm e=true:=by
 unfold wU at h;refine kj h (fun y hy h=>?_) fun J h=>?_
 ·obtain rfl:=oi h;unfold K2 at hy;refine cF hy fun q hq vU=>cU vU fun hg Rg=>?_;clear vU hy;simp only[eW,mq,fy]at hg;have hq:=uc hq;obtain⟨g,p,a,pos⟩:=q;refine d4 hg fun L hg hb=>?_;dsimp only at L;subst L hq;refine fR (M:=fun y=>∃en,ju K A en (eval (.Call (.Name "enumerate" p) [a] [] pos) env) (evIt C y ρ σ) s α/\jm (.Call (.Name "enumerate" p) [a] [] pos)=true) Rg fun z bp=>⟨true,RU c dn S bp hg (by simpa using hb) aw hn E r,rfl⟩
 refine kj h (fun y hy h=>?_) fun J h=>?_
 ·obtain rfl:=oi h;exact fR (M:=fun y=>∃en,ju K A en (eval e env) (evIt C y ρ σ) s α/\jm e=true) hy fun xs hx=>⟨true,RY c dn S hx aw hn E r⟩
 exact⟨false,wV c dn S h aw hn E r⟩
theorem NA{pk:Bool}(r:aq K.hb s.heap σ α):av K aj A (eval (.Dict [] [] pos) env) (ev C (.dnew pk) ρ σ) s α:=by
 intro hc;refine wpAny_Dict_empty ?_;have k:∀b o,s.heap.get? b=some o->(s.heap.push { cls:=.type "dict",data:=.dict #[] }).get? b=some o:=fun b o e=>c8 _ e
 cases pk with
 | true =>
  refine aW (r.add (D:=s.heap.objs.size) (m:=.dp []) k (lK s) ⟨[],Heap.DictOfH.new _,rfl,(fun x hx=>nomatch hx),.nil⟩) fun aJ x=>?_;refine⟨_,_,_,rfl,x,aJ,.ref ?_,⟨rfl,rfl⟩⟩;rw[r.len];simp[ay.add]
 | false =>
  refine aW (r.add (D:=s.heap.objs.size) (m:=.ds []) k (lK s) ⟨[],Heap.DictOf.new _,rfl,.nil⟩) fun aJ x=>?_;refine⟨_,_,_,rfl,x,aJ,.ref ?_,⟨rfl,rfl⟩⟩;rw[r.len];simp[ay.add]
theorem W8{p:Pos}{x:X}(c:cn K A T C)(S:cf K A C f)(hg:fQ N g=true)(h:B4 T (f N) g args=some x):jQ K A C N (.Call (.Name g p) args [] pos) x:=by
 unfold B4 at h;refine cF h fun q hb h=>cU h fun hc h=>cF h fun j a8 h=>fR h fun xs Ig=>fI (fun J J=>rfl) (fun J J=>rfl) fun{env ρ σ s α} aw hn E r cy=>?_;obtain⟨b,cl⟩:=q;rw[DS]at cy ⊢;refine aW (dk hc) fun L O=>?_;obtain rfl:=eq_of_beq L
 have sx:T.meths[j]?=some ("__init__" : Str):=by
  refine az (List.findIdx?_eq_some_iff_getElem.mp a8) fun L O J=>?_;rw[dA L,eq_of_beq O]
 refine bL (c.brd _ cl hb) fun F B kb J=>?_;have kb:=kb j sx;refine aM (qu hg) fun i hi=>?_;refine kC (qJ c.hK r E.ok (by rw[aw];exact hi) B.mg ?_)
 cases args with
 | nil=>contradiction
 | cons e es =>
  have ar:=p7 (pos:=pos) S Ig aw hn E r;refine l7 (nL Ig) fun eu cO ka gC J=>?_;refine PySem.W.callWith_K B.inn B.keep ?_ (iE (S N e eu ka).1) (Br S gC).2;refine av.use ar cy fun vs σ' α' us s' V c9 aQ aJ dL bJ=>⟨fun a o e=>aJ.base a o (B.inn a o e),?_⟩;show wpAny (model K.prog K.w) A (call (.ref cl) us) (cz K aj ((evs C xs ρ σ).bind fun vs σ=>my C cl (T.fns.length+j) vs σ) s α) (dh K A ((evs C xs ρ σ).bind fun vs σ=>my C cl (T.fns.length+j) vs σ) s α) s';rw[V];exact cB (kb vs us s' σ' α' aJ dL c9) (fun y kY hp=>hp.lift aQ bJ) fun e kY hx=>hx.lift aQ bJ
section
open PySem.W
theorem aq.frag{F:Frag}(x:F.In K.hb.h)(r:aq K.hb h σ α):F.In h:=fun a o e=>r.base a o (x a o e)
theorem II{x:Value}(v:aj s.heap α (.inst c i) x):∃a D,x=.ref a/\s.heap.get? a=some (instObj c D)/\a∉α.all/\α.ix[i]?=some D:=by
 cases v with | inst e hn hi=>exact⟨_,_,rfl,e,hn,hi⟩
theorem SJ{es:Array DictEntry}{ez:Nat}{n:Str}(hd:o.data=.dict es ez)(hk:StrKeys es):lookIn n o=some (nsFind es n):=by
 unfold lookIn;rw[hd];dsimp only;unfold nsFind findBy
 have h0:(es.toList.any fun x=>x.refKey)=false:=by
  rw[List.any_eq_false];intro e he;obtain⟨m,t,h⟩:=hk e (by simpa using he);simp[DictEntry.refKey,h]
 rw[h0,<- Array.find?_toList];cases es.toList.find? (fun e=>e.key.isStr n) <;> rfl
theorem IH{x:Value}(r:aq K.hb s.heap σ α)(nN:aj s.heap α (.inst c i) x)(hs:σ[i]?=some (.ns fs)) :
  ∃a D lL,x=.ref a/\InstAt s.heap a (instObj c D) c (some lL)/\∀n,∃q,lookIn n lL=some q/\(∀v,aC n fs=some v->∃u,q=some u/\aj s.heap α v u)/\(aC n fs=none->q=none):=by
 refine c1 (II nN) fun a D ag bi=>?_;obtain rfl:=ag;refine d4 bi fun b0 ha hi=>?_;refine bL (r.obj i _ D hs hi) fun m wv iD bR=>?_;refine rW wv fun lL N4 NX p5 uj R6 J Ow=>?_;refine⟨a,D,lL,rfl,⟨b0,rfl,rfl,p5⟩,fun n=>⟨m n,?_,iD n,bR n⟩⟩;rw[SJ uj R6,Ow]
theorem PS{v:H}(h:aj s.heap α v u):handedIn u=true:=by cases h <;> rfl
theorem Mu{F:Frag}{b n:Str}{o:H}{x:Value}(B:kq K F b c)(hn:n∈ll)(r:aq K.hb s.heap σ α)(nN:aj s.heap α o x):av K aj A (getAttr x n true) (rJ c o n σ) s α:=by
 intro hc;unfold rJ at hc ⊢
 cases o with
 | inst cC i =>
  dsimp only at hc ⊢;by_cases q:cC=c
  ·subst q;rw[aE rfl]at hc ⊢
   cases hs:σ[i]? with
   | none=>rw[hs]at hc;exact absurd rfl hc
   | some o9 =>
    rw[hs]at hc
    cases o9 with
    | ns fs =>
     dsimp only at hc ⊢
     cases hv:aC n fs with
     | none=>rw[hv]at hc;exact absurd rfl hc
     | some v =>
      refine j8 (IH r nN hs) fun a D lL ag bi=>?_;obtain rfl:=ag;refine aW bi fun I ar=>?_;refine bL (ar n) fun q L O J=>?_;refine az (O v hv) fun u ag dq=>?_;obtain rfl:=ag;exact get_value (r.frag B.inn) I B.geta (findObj_own B.hasd (B.none n hn) rfl L) (PS dq) (.here r dq)
    | _=>exact absurd rfl hc
  ·rw[a5 q]at hc;exact absurd rfl hc
 | _=>exact absurd rfl hc
theorem Mt{o:Expr}{n:Str}{x:X}{b:Str}{cl:Nat}(c:cn K A T C)(S:cf K A C f)(hb:T.brd=some (b,cl))(sC:qL o=true)(hm:n∈ll)(L:f N o=some x)
  (aw:env.scope.names=N) (hn:cR K.hb env) (E:a1 env ρ s.heap α) (r:aq K.hb s.heap σ α):av K aj A (eval (.Attribute o n pos) env) (ev C (.attr cl x n) ρ σ) s α:=by
 refine az (c.brd b cl hb) fun F B J=>?_;rw[DO,arm_eval_Attribute,xK sC];refine av.bind ((S N o x L).2 env ρ σ s α aw hn E r).1 fun aA ac bc wY s₁ V aZ aY a0 a6=>av.standAt ?_;intro hc;exact aN (hT (cB (Mu B hm aY a0 hc) (fun u s' hp=>aN (wpAny_letTemporaryGo (bO hp))) fun J J e=>e))
theorem MX{prog:Program}{w:World}{o:Expr}{name:Str}
  (su:attributeBase o name env (eval o env)=eval o env)
  (Qe:methodCallForm (args.length+([]:List Keyword).length) (backTo pos (starEach args env)) (backToKw pos (keywordEach [] env))=true) (oK:(f3.endLine == pos.line)=true)
  (h:wpAny (model prog w) A (eval o env) (fun kW s₁=>∀pl,wpAny (model prog w) A (getMethod kW name pl) (fun q bb=>wpAny (model prog w) A (callWith pos q.1 q.2 (backTo pos (starEach args env)) []) Q E bb) E s₁) E s) :
  wpAny (model prog w) A (eval (.Call (.Attribute o name f3) args [] pos) env) Q E s:=by
 rw[arm_eval_Call,su];refine aN (cB h (fun kW s₁ cY=>aN (wpAny_standAt ?_)) fun J J e=>e)
 have vM:methodCallPos true o env f3 pos=pure pos:=by unfold methodCallPos;simp[oK]
 unfold methodCall;rw[Qe];refine aN (hT ?_);exact cB (cY _) (fun q bb h₂=>aN (wpAny_of_eq vM h₂)) fun J J e=>e
theorem S8{es:List Expr}(h:(backTo pos (starEach es env)).all (fun x=>!x.1)=true)(hl:es.length<20):methodCallForm (es.length+([]:List Keyword).length) (backTo pos (starEach es env)) (backToKw pos (keywordEach [] env))=true:=by
 show((backTo pos (starEach es env)).all (fun x=>!x.1)&&true&&decide (es.length<30))=true;rw[h];exact dI (jx hl (by decide))
theorem S9{n:Str}{x:H}{g:af->ah (List H)}{M:ah H->Prop}(h:o7 C c j n x g σ≠.stuck)
  (k:∀i fs,x=.inst c i->σ[i]?=some (.ns fs)->aC n fs=none->((g σ).bind fun vs σ=>C.call j (.inst c i::vs) σ)≠.stuck->M ((g σ).bind fun vs σ=>C.call j (.inst c i::vs) σ)):M (o7 C c j n x g σ):=by
 unfold o7 at h ⊢
 cases x with
 | inst cC i =>
  dsimp only at h ⊢;by_cases q:cC=c
  ·subst q;rw[aE rfl]at h ⊢
   cases hs:σ[i]? with
   | none=>rw[hs]at h;exact absurd rfl h
   | some o9 =>
    rw[hs]at h
    cases o9 with
    | ns fs =>
     dsimp only at h ⊢
     cases hv:aC n fs with
     | some v=>rw[hv]at h;exact absurd rfl h
     | none=>rw[hv]at h;exact k i fs rfl hs hv h
    | _=>exact absurd rfl h
  ·rw[a5 q]at h;exact absurd rfl h
 | _=>exact absurd rfl h
theorem S7{o:Expr}{es:List Expr}{mn:Str}{x xs:X}{b:Str}{cl:Nat}(c:cn K A T C)(S:cf K A C f)(hb:T.brd=some (b,cl))(a8:T.meths[j]?=some mn)(sC:qL o=true)(oK:(f3.endLine == pos.line)=true)(da:es.length<20)
  (L:f N o=some x) (O:fW (f N) es=some xs) (aw:env.scope.names=N) (hn:cR K.hb env) (E:a1 env ρ s.heap α) (r:aq K.hb s.heap σ α) :
  av K aj A (eval (.Call (.Attribute o mn f3) es [] pos) env) ((ev C x ρ σ).bind fun v σ=>o7 C cl (T.fns.length+j) mn v (fun σ=>evs C xs ρ σ) σ) s α:=by
 refine bL (c.brd b cl hb) fun F B J LD=>?_;refine rW (LD j mn a8) fun Zp o9 fd q1 q2 q3 q4 kb=>?_;intro hc;refine aW (Br (env:=env) (pos:=pos) S O) fun Uy tg=>?_;refine MX (xK sC) (S8 Uy da) oK (av.use ((S N o x L).2 env ρ σ s α aw hn E r).1 hc fun aA ac bc g5 s₁ V c9 aZ aY a0 a6 pl=>?_);rw[V];refine S9 (M:=fun o=>wpAny (model K.prog K.w) A (getMethod g5 mn pl) (fun q bb=>wpAny (model K.prog K.w) A (callWith pos q.1 q.2 (backTo pos (starEach es env)) []) (cz K aj o s α) (dh K A o s α) bb) (dh K A o s α) s₁) c9 fun i fs Q7 hs hv de=>?_;subst Q7;refine j8 (IH aY a0 hs) fun a D lL ag bi=>?_;obtain rfl:=ag;refine aW bi fun I ar=>bL (ar mn) fun q g1 J g2=>?_;obtain rfl:=g2 hv;refine method_fn (aY.frag B.inn) I B.geta B.getr q1 q2 (by show(lookIn mn lL).map (·.isSome)=_;rw[g1];rfl) (Calls.callWith_function (o:=o9) (fd:=fd) (C1 ?_ tg));refine av.useL aZ a6 (p7 (pos:=pos) S O aw hn (E.ext aZ .nil) aY) de fun vs au α₂ us bb ak e0 bz r2 bN cP=>⟨⟨r2.base _ _ q3,q4⟩,?_⟩;exact ak.symm▸((kb (.inst cl i::vs) _ bb au α₂ r2 (.cons (a0.ext bz) bN)).endL (aZ.trans bz) (a6.trans cP) e0)
end
theorem tq:∀{names:List (Str×NameKind)},ps names=true->xv names:=by
 intro r
 induction r with
 | nil =>
  intro _;exact⟨fun i j x k bW h=>(nomatch h),fun i x k h=>(nomatch h),fun i x k h=>(nomatch h)⟩
 | cons bP r ao =>
  obtain⟨y,k0⟩:=bP;intro h;simp only[ps,eW,Bool.not_eq_true',Bool.or_eq_true,fy]at h;obtain⟨⟨⟨L,O⟩,ax⟩,aT⟩:=h;have ao:=ao aT
  have no:∀(i:Nat) (k:NameKind),r[i]?≠some (y,k):=fun i k e=>by
   have hm:=eI e;rw[List.any_eq_false]at L;exact L _ hm (by simp)
  refine⟨fun i j x k bW V ak=>?_,fun i x k e=>?_,fun i x k e=>?_⟩
  ·cases i with
   | zero =>
    cases j with
    | zero=>rfl
    | succ j =>
     simp at V ak;obtain⟨rfl,rfl⟩:=V;exact absurd ak (no j bW)
   | succ i =>
    cases j with
    | zero =>
     simp at V ak;obtain⟨rfl,rfl⟩:=ak;exact absurd V (no i k)
    | succ j =>
     simp at V ak;rw[ao.uniq i j x k bW V ak]
  ·cases i with
   | zero=>simp at e;obtain⟨rfl,rfl⟩:=e;exact O
   | succ i=>simp at e;exact ao.nodbg i x k e
  ·cases i with
   | zero =>
    simp at e;obtain⟨rfl,rfl⟩:=e
    rcases ax with(ax | ax) | ax
    ·exact .inl ax
    ·exact .inr (.inl ax)
    ·exact .inr (.inr ax)
   | succ i=>simp at e;exact ao.kinds i x k e
theorem Dr{t:Nat}{elt it:X}(dn:C.hd=false):ev C (.comp ba t cap elt cond it) ρ σ =
  oe ba (fun v σ=>tst C cond ((dg cap ρ).set t (some v)) σ) (fun v σ=>ev C elt ((dg cap ρ).set t (some v)) σ) (evIt C it ρ σ):=by
 rw[lp,dn];unfold oe iw;rw[cond_false];congr 1
structure rr(T:bl)(N:List (Str×NameKind))(f:List (Str×NameKind)->Expr->Option X)(elt:Expr)(x:Str)(iter:Expr)(ifs:List Expr)(scope:Scope)(ba:Bool)(t:Nat)(e c i:X):Prop where
 kind:scope.kind=.function
 sc:ps (dD N scope.names)=true
 cells:∀p∈scope.names,p.2≠.cell
 tgt:(dD N scope.names)[t]?=some (x,NameKind.local)
 it:pB T N (f N) iter=some i
 elt:f (dD N scope.names) elt=some e
 cond:B1 (f (dD N scope.names)) ifs=some c
theorem K1{iter:Expr}{y:X}{P:X->Prop}(h:wS T N f elt x iter ifs scope pos=some y)
  (k:∀t e c i,rr T N f elt x iter ifs scope (!(T.muts.contains (pos.line,pos.col))) t e c i->P (.comp (!(T.muts.contains (pos.line,pos.col))) t (ip N (dD N scope.names)) e c i)):P y:=by
 unfold wS at h;refine cU h fun hk h=>cF h fun t J h=>cU h fun aO h=>kT h fun i e c L O ax=>k t e c i ?_;refine aW (dk hk) fun hk Qo=>?_;refine aW (dk hk) fun kd lx=>?_;exact⟨eq_of_beq kd,lx,fun p hp=>bne_iff_ne.mp (fZ.mp Qo p hp),eq_of_beq aO,L,O,ax⟩
theorem rr.ok{iter:Expr}{t:Nat}{e c i:X}(q:rr T N f elt x iter ifs scope ba t e c i)(aw:env.scope.names=N):kr env.scope.names scope t x:=by
 subst aw;exact⟨q.kind,tq q.sc,q.cells,q.tgt⟩
theorem ui{jR:Addr}(aw:env.scope.names=N)(E:a1 env ρ s.heap α):(gQ scope jR env).scope.names=dD N scope.names:=by exact aw▸(BD E.ok.kind)
theorem ug(aw:env.scope.names=N):oj scope env ρ=dg (ip N (dD N scope.names)) ρ:=by rw[<- aw]
theorem Dv{M:List (Str×NameKind)}{cenv:Env}(S:cf K A C f)(h:B1 (f M) ifs=some cond)(PG:cenv.scope.names=M)(n':cR K.hb cenv)(dP:a1 cenv ρ s.heap α)(aJ:aq K.hb s.heap σ α) :
  av K hh A (forIn ifs true fun c r=>if r=true then do let ok <- isTrue c cenv (eval c cenv);pure (ForInStep.yield ok)else pure (ForInStep.yield r)) (tst C cond ρ σ) s α:=by
 cases ifs with
 | nil =>
  obtain rfl:=oi h;exact fun J=>wpAny_tests_nil ⟨true,σ,α,rfl,.refl,aJ,rfl,.refl _⟩
 | cons cr ol =>
  change cm _ _=_ at h;refine cU h fun h0 h=>?_;exact(hz.mp h0).symm▸(fun hc=>wpAny_tests_one (((S _ cr cond h).2 _ _ σ s α PG n' dP aJ).2 hc))
theorem Dp{iter:Expr}{t:Nat}{e i9 i:X}(c:cn K A T C)(S:cf K A C f)(q:rr T N f elt x iter ifs scope ba t e i9 i)
  (aw:env.scope.names=N) (hn:cR K.hb env) (E:a1 env ρ s.heap α) (r:aq K.hb s.heap σ α) :
  av K aj A (eval (.ListComp elt [⟨.Name x h3,iter,ifs,0⟩] scope pos) env) (ev C (.comp ba t (ip N (dD N scope.names)) e i9 i) ρ σ) s α:=by
 cases dn:C.hd with
 | true=>rw[lp,dn];exact fun hc=>absurd rfl hc
 | false =>
 rw[Dr dn];obtain⟨fq,hpl⟩:=wV c dn S q.it aw hn E r;refine Sx (q.ok aw) E fq (fun jR v s' σ' α' n' dP aJ=>?_) (fun jR v s' σ' α' n' dP aJ=>?_) c.fr hn r (Bs hpl)
 ·rw[ug aw]at dP;exact Dv S q.cond (ui aw E) n' dP aJ
 ·rw[ug aw]at dP;exact((S _ elt e q.elt).2 _ _ σ' s' α' (ui aw E) n' dP aJ).1
theorem WU{l:Expr}{os:List CmpOp}{gZ:List Expr}{x:X}(c:cn K A T C)(S:cf K A C f)(h:BZ (f N) l os gZ=some x):jQ K A C N (.Compare l os gZ pos) x:=by
 unfold BZ at h
 cases os with
 | nil=>contradiction
 | cons o os =>
  cases gZ with
  | nil=>contradiction
  | cons aY gZ =>
   cases os with
   | nil =>
    change cm _ _=_ at h;refine cU h fun h0 h=>?_;exact(hz.mp h0).symm▸(kT h fun aP a b L O ax env ρ σ s α aw hn E r=>Ng c S L O ax aw hn E r)
   | cons bR os =>
    cases gZ with
    | nil=>contradiction
    | cons r2 gZ =>
     change cm _ _=_ at h;refine cU h fun h0 h=>cF h fun aP L h=>?_;refine aW (dk h0) fun h0 Pm=>?_;exact(hz.mp h0).symm▸(hz.mp Pm).symm▸(Ub h fun a b Zr dR O ax aT c2 env ρ σ s α aw hn E r=>Nf c S L aT O ax c2 aw hn E r)
theorem W9{a:Expr}{p:Pos}{x:X}(c:cn K A T C)(S:cf K A C f)(hg:fQ N g=true)(gC:g∈T.bins)(h:B5 T N (f N) pos g a=some x):jQ K A C N (.Call (.Name g p) [a] [] pos) x:=by
 unfold B5 at h;refine kj h (fun y As h'=>?_) fun J h=>?_
 rotate_left
 ·exact gf h fun b1 aZ jE qm=>fI (fun J J=>rfl) (fun J J=>rfl) fun aw hn E r=>Mw c S jE hg gC qm aw hn E r
 unfold I7 at As;clear h;refine cF As fun q hq HZ=>cU HZ fun iy Qv=>?_;clear HZ As;have hq:=uc hq;obtain⟨g2,bX,aU,Bu⟩:=q;obtain rfl:=oi Qv;simp only[eW,fy,mq]at iy;obtain⟨⟨L,O⟩,Ap,qi⟩:=iy;subst L O hq;exact fR h' fun z bp=>fI (fun J J=>rfl) (fun J J=>rfl) fun aw hn E r=>Sr c S hg gC Ap (by simpa using qi) bp aw hn E r
theorem Xj{a b:Expr}{p:Pos}{x:X}(c:cn K A T C)(S:cf K A C f)(hg:fQ N g=true)(gC:g∈T.bins)(h:Cc T N (f N) g a b=some x):jQ K A C N (.Call (.Name g p) [a,b] [] pos) x:=by
 unfold Cc at h;refine Du h (fun iy h=>?_) fun h=>cU h fun iy h=>?_
 ·obtain rfl:=eq_of_beq iy;refine cF h fun q hq h=>?_;rw[nn hq];refine kj h (fun eN lA h=>fR h fun z bp=>fI (fun J J=>rfl) (fun J J=>rfl) fun aw hn E r=>RD c S lA hg gC bp aw hn E r) fun J h=>?_;refine cU h fun iy h=>?_;refine aW (dk iy) fun oJ vE=>?_;exact gf h fun aZ ty qm mj=>fI (fun J J=>rfl) (fun J J=>rfl) fun aw hn E r=>RM c S mj hg gC oJ (by simpa using vE) qm aw hn E r
 ·obtain rfl:=eq_of_beq iy;exact gf h fun aZ g5 qm vU=>fI (fun J J=>rfl) (fun J J=>rfl) fun aw hn E r=>Td c S hg gC qm vU aw hn E r
theorem WT{p:Pos}{x:X}(c:cn K A T C)(S:cf K A C f)(h:BY T N (f N) pos g args=some x):jQ K A C N (.Call (.Name g p) args [] pos) x:=by
 unfold BY at h;refine cU h fun hg h=>kj h (fun i hi h=>cU h fun de h=>fR h fun xs hq=>fI (fun J J=>rfl) (fun J J=>rfl) fun aw hn E r=>?_) fun J h=>kj h (fun y hy h=>by obtain rfl:=oi h;exact W8 c S hg hy) fun J h=>cU h fun hb h=>?_
 ·have Qk:T.fns[i]?=some g:=by
   refine az (List.findIdx?_eq_some_iff_getElem.mp hi) fun L O J=>?_;rw[dA L,eq_of_beq O]
  exact MS c S Qk hg (fun q=>by subst q;contradiction) hq aw hn E r
 ·have gC:g∈T.bins:=by simpa using hb
  cases args with
  | nil=>contradiction
  | cons a r =>
   cases r with
   | nil=>exact W9 c S hg gC h
   | cons b r =>
    change cm _ _=_ at h;refine cU h fun h0 h=>?_;rw[hz.mp h0];exact Xj c S hg gC h
theorem Rz{q:List (Option Expr)×List Expr×Pos}(h:IM e=some q):e=.Dict q.1 q.2.1 q.2.2:=qE (o:=Dx e) h
theorem WZ{vs:List Expr}{m:Str}{xV:Pos}{x:X}(c:cn K A T C)(S:cf K A C f)(hl:(f3.endLine == pos.line)=true)(h:B0 (f N) ks vs m args=some x):jQ K A C N (.Call (.Attribute (.Dict ks vs xV) m f3) args [] pos) x:=by
 unfold B0 at h
 cases args with
 | nil=>contradiction
 | cons k aY =>
  dsimp only at h;refine cF h fun d h0 h=>cU h fun hm h=>cF h fun l L h=>cU h fun hc h'=>?_;obtain rfl:=eq_of_beq hm;obtain rfl:=s8 h0;simp only[eW,i5,Bool.not_eq_true',List.isEmpty_eq_false_iff]at hc;obtain⟨⟨q1,q2⟩,q3⟩:=hc;exact kT h' fun cI Zm YO O ax aT=>fI (fun J J=>rfl) (fun J J=>rfl) fun aw hn E r=>OA c S hl L O q1 q2 q3 ax aT aw hn E r
theorem W5{o:Expr}{m:Str}{x:X}(c:cn K A T C)(S:cf K A C f)(hl:(f3.endLine == pos.line)=true)(h:B2 T (f N) o m args=some x):jQ K A C N (.Call (.Attribute o m f3) args [] pos) x:=by
 unfold B2 at h;refine kj h (fun q hd h=>?_) fun J h=>cU h fun H2 h=>?_
 ·rw[Rz hd];exact WZ c S hl h
 ·refine Du h (fun hm h=>cF h fun q hb h=>cF h fun j a8 h=>cU h fun da h=>gf h fun Bo xs L O=>fI (fun J J=>rfl) (fun J J=>rfl) fun aw hn E r=>?_) fun h=>?_
  ·have sx:T.meths[j]?=some m:=by
    refine az (List.findIdx?_eq_some_iff_getElem.mp a8) fun g1 g2 J=>?_;rw[dA g1,eq_of_beq g2]
   exact S7 (b:=q.1) c S hb sx H2 hl (ht da) L O aw hn E r
  cases args with
  | nil=>contradiction
  | cons a r =>
   cases r with
   | nil=>exact kT h fun o8 Bo YE h0 L O=>fI (fun J J=>rfl) (fun J J=>rfl) fun aw hn E r=>S0 c S h0 hl H2 L O aw hn E r
   | cons b r =>
    contradiction
theorem Mf{q:Option Expr×Option Expr×Option Expr×Pos}(h:C3 e=some q):e=.Slice q.1 q.2.1 q.2.2.1 q.2.2.2:=qE (o:=Kp e) h
theorem Xh{o i:Expr}{x:X}(c:cn K A T C)(S:cf K A C f)(h:Ca (f N) o i=some x):jQ K A C N (.Subscript o i pos) x:=by
 unfold Ca at h;refine kj h (fun q hi h=>?_) fun hi h=>gf h fun a b L O=>fI (fun J J=>rfl) (fun J J=>rfl) fun aw hn E r=>Wp c S (fun l u st p q=>by subst q;contradiction) L O aw hn E r;have hi:=Mf hi;obtain⟨lo,hi,st,p⟩:=q;subst hi
 cases st with
 | none=>exact kT h fun Bo wg hx L O ax=>fI (fun J J=>rfl) (fun J J=>rfl) fun aw hn E r=>VM S L O ax aw hn E r
 | some st=>contradiction
theorem K0{gens:List Comprehension}{x:X}(h:tB T N f elt gens scope pos=some x):∃z p iter ifs,gens=[⟨.Name z p,iter,ifs,0⟩]/\wS T N f elt z iter ifs scope pos=some x:=by
 unfold tB at h;refine cF h fun g hg h=>cU h fun ha h=>cF h fun q hq h=>?_;obtain⟨mL,iter,ifs,YD⟩:=g;obtain rfl:=nn hq;obtain rfl:=eq_of_beq ha;exact⟨q.1,q.2,iter,ifs,s8 hg,h⟩
theorem WV{gens:List Comprehension}{x:X}(c:cn K A T C)(S:cf K A C f)(h:tB T N f elt gens scope pos=some x):jQ K A C N (.ListComp elt gens scope pos) x:=by
 refine x3 (K0 h) fun z p iter ifs ag h=>?_;obtain rfl:=ag;exact K1 h fun t e i9 i q=>fI (fun J J=>rfl) (fun J J=>rfl) fun aw hn E r=>Dp c S q aw hn E r
theorem Xg(c:cn K A T C)(S:cf K A C f):cf K A C (K5 T f):=by
 intro N e x h
 cases e with
 | Constant i9 _ _=>exact⟨rfl,fR h fun v hq=>fI (fun J J=>rfl) (fun J J=>rfl) fun J J J r=>Dw hq r⟩
 | Name z p=>exact⟨rfl,W7 c h⟩
 | BoolOp o es pos =>
  cases o with
  | And=>exact⟨rfl,fR h fun v hq env ρ σ s α aw hn E r=>Ma S hq aw hn E r⟩
  | Or=>exact⟨rfl,fR h fun v hq env ρ σ s α aw hn E r=>Ui S hq aw hn E r⟩
 | UnaryOp o a pos =>
  cases o with
  | Not=>exact⟨rfl,fR h fun v hq env ρ σ s α aw hn E r=>T2 S hq aw hn E r⟩
  | USub=>exact⟨rfl,fR h fun v hq=>fI (fun J J=>rfl) (fun J J=>rfl) fun aw hn E r=>TO S hq aw hn E r⟩
  | _=>contradiction
 | BinOp l o aJ pos=>exact⟨rfl,kT h fun J J J ho ha hb=>fI (fun J J=>rfl) (fun J J=>rfl) fun aw hn E r=>MC c S ho ha hb aw hn E r⟩
 | Compare l os gZ pos=>exact⟨rfl,WU c S h⟩
 | List es pos=>exact⟨rfl,fR h fun v hq=>fI (fun J J=>rfl) (fun J J=>rfl) fun aw hn E r=>Sy S hq aw hn E r⟩
 | Tuple es k pos=>exact⟨rfl,fR h fun v hq=>fI (fun J J=>rfl) (fun J J=>rfl) fun aw hn E r=>Xw S hq aw hn E r⟩
 | Call fn args I0 pos =>
  refine⟨rfl,?_⟩;change cm _ _=_ at h;refine cU h fun hk h=>?_;rw[hz.mp hk]
  cases fn with
  | Name g p=>exact WT c S h
  | Attribute o m f3 =>
   change cm _ _=_ at h;exact cU h fun hl h=>W5 c S hl h
  | _=>contradiction
 | Attribute o n pos =>
  refine⟨rfl,cF h fun q hb h=>cU h fun hc h=>fR h fun Bo L=>?_⟩;refine aW (dk hc) fun c9 e0=>?_;exact fI (fun J J=>rfl) (fun J J=>rfl) fun aw hn E r=>Mt (b:=q.1) c S hb c9 (mY.mp e0) L aw hn E r
 | Subscript o i pos=>exact⟨rfl,Xh c S h⟩
 | Dict ks vs pos =>
  change cm _ _=_ at h;refine⟨rfl,cU h fun hc h=>?_⟩;refine aW (dk hc) fun L O=>?_;rw[hz.mp L,hz.mp O];obtain rfl:=oi h;exact fI (fun J J=>rfl) (fun J J=>rfl) fun J J J r=>NA r
 | ListComp elt gens scope pos=>exact⟨rfl,WV c S h⟩
 | _=>contradiction
theorem WW(c:cn K A T C):∀n,cf K A C (rf T n):=by
 intro n
 induction n with
 | zero =>
  exact fun N e x h=>by contradiction
 | succ n ao =>
  exact Xg c (ao)
noncomputable def e8(env:Env):List Addr:=env.locals::env.cells.map (·.2)
theorem mi(E:a1 env ρ h α)(hd:∀p∈env.cells,env.cells.lookup p.1=some p.2):∀b∈e8 env,∃o,h.get? b=some o:=by
 intro b hb
 rcases cE.mp hb with q | q
 ·subst q;obtain⟨m,⟨o,_,_,e,_⟩,_⟩:=E.ns;exact⟨o,e⟩
 ·refine az (cL.mp q) fun p hp ag=>?_;obtain rfl:=ag;refine d4 (E.ca p.1 p.2 (hd p hp)) fun J J bi=>?_;refine c1 bi fun v o e J=>?_;exact⟨o,e⟩
structure dv(hb:f8)(env:Env):Prop where
 sc:xv env.scope.names
 new:cR hb env
 cl:∀p∈env.cells,env.cells.lookup p.1=some p.2
 inter:interactive env=false
inductive pJ(h:Heap)(α:ay)(ρ:aB)(σ:af):b3->Flow->Prop
 | next:pJ h α ρ σ (.next ρ σ) .next
 | brk:pJ h α ρ σ (.brk ρ σ) .brk
 | cont:pJ h α ρ σ (.cont ρ σ) .cont
 | ret {v:H} {u:Value} (r:aj h α v u):pJ h α ρ σ (.ret v ρ σ) (.ret u)
inductive g9(K:a3)(env:Env)(c:b3)(s:Shared)(α:ay)(fl:Flow)(s':Shared):Prop where
 | mk (ρ':aB) (σ':af) (α':ay) (x:a4 (e8 env) α s.heap α' s'.heap) (r:aq K.hb s'.heap σ' α') (N0:a1 env ρ' s'.heap α') (m:cA s s') (iv:pJ s'.heap α' ρ' σ' c fl):g9 K env c s α fl s'
inductive iL(K:a3)(xy:Around)(env:Env)(c:b3)(s:Shared)(α:ay)(e:Value)(s':Shared):Prop where
 | mk (i:Nat) (ρ:aB) (σ':af) (s₁:Shared) (bc:ay) (d5:Bool) (h:c=.exc i ρ σ') (x:a4 (e8 env) α s.heap bc s₁.heap) (N0:a1 env ρ s₁.heap bc) (m:cA s s₁) (eU:gG K s₁ bc i σ' d5 e s'):iL K xy env c s α e s'
noncomputable def e5(K:a3)(env:Env)(A:Around)(t:Sem Flow)(c:b3)(s:Shared)(α:ay):Prop:=
 c≠.stuck->wpAny (model K.prog K.w) A t (g9 K env c s α) (iL K A env c s α) s
theorem g9.lift{c:b3}{fl:Flow}(x:a4 (e8 env) α s.heap bc s₁.heap)(m:cA s s₁)(p:g9 K env c s₁ bc fl s'):g9 K env c s α fl s':=by
 obtain⟨ρ',σ',α',aQ,r,E,bJ,iv⟩:=p;exact⟨ρ',σ',α',x.trans aQ,r,E,m.trans bJ,iv⟩
theorem iL.lift{c:b3}{e:Value}(x:a4 (e8 env) α s.heap bc s₁.heap)(m:cA s s₁)(p:iL K A env c s₁ bc e s'):iL K A env c s α e s':=by
 obtain⟨i,ρ,σ',bb,α₂,d5,h,aQ,E,bJ,eU⟩:=p;exact⟨i,ρ,σ',bb,α₂,d5,h,x.trans aQ,E,m.trans bJ,eU⟩
theorem dh.toS{β:Type}{c:ah β}{f:β->af->b3}{e:Value}(E:a1 env ρ s.heap α)(p:dh K A c s α e s'):iL K A env (c.toS ρ f) s α e s':=by
 obtain⟨i,σ',h,d5,eU⟩:=p;exact⟨i,ρ,σ',s,α,d5,by rw[h];rfl,.refl,E,.refl s,eU⟩
theorem hF(F:dv K.hb env)(E:a1 env ρ s.heap α)(x:a4 [] α s.heap α' h'):a4 (e8 env) α s.heap α' h':=
 x.mono ((fun J q=>absurd q ew)) (mi E F.cl)
theorem av.useS{β γ:Type}{dW:Heap->ay->β->γ->Prop}{t:Sem γ}{c:ah β}{f:β->af->b3}{W:γ->Shared->Prop}(E:a1 env ρ s.heap α)(ar:av K dW A t c s α)(hc:c.toS ρ f≠.stuck)
  (N:∀b σ' α' y s',c=.ok b σ'->f b σ'≠.stuck->a4 [] α s.heap α' s'.heap->aq K.hb s'.heap σ' α'->dW s'.heap α' b y->cA s s'->W y s'):wpAny (model K.prog K.w) A t W (iL K A env (c.toS ρ f) s α) s:=by
 have L:c≠.stuck:=by rintro rfl;exact hc rfl
 refine cB (ar L) (fun y s' hp=>?_) fun e s' hx=>hx.toS E;obtain⟨b,σ',α',rfl,x,r,v,m⟩:=hp;exact N b σ' α' y s' rfl hc x r v m
theorem qZ{k:NameKind}{v:H}{Q:Unit->Shared->Prop}{X:Value->Shared->Prop}(F:dv K.hb env)(r:aq K.hb s.heap σ α)(E:a1 env ρ s.heap α)
  (hn:env.scope.names[i]?=some (x,k)) (hk:k=.local\/k=.cell) (dq:aj s.heap α v u)
  (a7:∀s',aq K.hb s'.heap σ α->a1 env (ρ.set i (some v)) s'.heap α->a4 (e8 env) α s.heap α s'.heap->cA s s'->Q () s') :
  wpAny (model K.prog K.w) A (storeName env x u) Q X s:=by
 rcases hk with rfl | rfl
 ·refine Ky F.sc.uniq r E F.new.l hn dq fun s' aJ dP aQ J bJ=>a7 s' aJ dP (aQ.mono (by simp[e8]) (mi E F.cl)) bJ
 ·refine Wd F.sc.uniq r E F.new hn dq fun c s' hc aJ dP aQ bJ=>a7 s' aJ dP (aQ.mono ?_ (mi E F.cl)) bJ;intro b hb;simp at hb;subst hb;exact bQ _ (cL.mpr ⟨_,mem_of_lookup hc,rfl⟩)
theorem wO{t:Option Expr}{line:Nat}(h:mu e=false):swapsWith e t line env=pure false:=by
 cases e <;> first | rfl | contradiction
theorem Mm{p:Pos}{k:NameKind}{y:X}(F:dv K.hb env)(jG:mu e=false)(hn:env.scope.names[i]?=some (x,k))(hk:k=.local\/k=.cell)
  (ar:av K aj A (eval e env) (ev C y ρ σ) s α) (E:a1 env ρ s.heap α) {n:Nat} :
  e5 K env A (exec (.Assign [.Name x p] e pos) env) (ex C n (.asg i y) ρ σ) s α:=by
 change e5 K env A _ ((ev C y ρ σ).toS ρ fun v σ=>.next (ρ.set i (some v)) σ) s α;intro hc;refine wpAny_Assign_Name (av.useS E ar hc fun v ac bc u s₁ V c9 aZ aY a0 a6=>?_) (wO jG);refine qZ F aY (E.ext aZ .nil) hn hk a0 fun bb r2 lf bz cP=>?_;exact V.symm▸(⟨_,_,_,(hF F E aZ).trans bz,r2,lf,a6.trans cP,.next⟩)
theorem Ou{y:X}(F:dv K.hb env)(jG:mu e=false)
  (ar:av K aj A (eval e env) (ev C y ρ σ) s α) (E:a1 env ρ s.heap α) {n:Nat} :
  e5 K env A (exec (.Expr e pos) env) (ex C n (.expr y) ρ σ) s α:=by
 change e5 K env A _ ((ev C y ρ σ).toS ρ fun J σ=>.next ρ σ) s α;intro hc;refine wpAny_Expr_any (av.useS E ar hc fun v ac bc u s₁ V c9 aZ aY a0 a6=>?_) F.inter (wO jG);exact V.symm▸(⟨ρ,ac,bc,hF F E aZ,aY,E.ext aZ .nil,a6,.next⟩)
theorem U9{y:X}(F:dv K.hb env)
  (ar:av K aj A (eval e env) (ev C y ρ σ) s α) (E:a1 env ρ s.heap α) {n:Nat} :
  e5 K env A (exec (.Return (some e) pos) env) (ex C n (.ret y) ρ σ) s α:=by
 change e5 K env A _ ((ev C y ρ σ).toS ρ fun v σ=>.ret v ρ σ) s α;intro hc;refine wpAny_Return_some (av.useS E ar hc fun v ac bc u s₁ V c9 aZ aY a0 a6=>?_);exact V.symm▸(⟨ρ,ac,bc,hF F E aZ,aY,E.ext aZ .nil,a6,.ret a0⟩)
theorem Wa{q:Nat}{l:Addr}{p v:H}{k:Str×Int}{x:Value}{Q:Unit->Shared->Prop}{X:Value->Shared->Prop}(hA:eF A)(r:aq K.hb s.heap σ α)(hs:σ[q]?=some (.dp es))(dZ:α.ix[q]?=some l)
  (hk:hH p=some k) (lS:aj s.heap α p x) (cI:aj s.heap α v u) (hl:es.length<aI)
  (a7:∀s',aq K.hb s'.heap (σ.set q (.dp (eK k v es))) α->a4 [] α s.heap α s'.heap->cA s s'->Q () s'):wpAny (model K.prog K.w) A (setItem (.ref l) x u) Q X s:=by
 refine op (p3 r hs dZ) fun xs L O ax aT=>?_;refine az (v9 (K:=K) hk lS) fun b ag bi=>?_;obtain rfl:=ag;refine aW bi fun hb PY=>?_
 have da:xs.length<=sizeLine:=by
  have e:=congrArg List.length O;simp only[bh,kvsOf]at e;exact e.symm▸(iB (Nat.le_of_lt hl))
 refine wpAny_setItem_heap (hsz:=da) (tl hA) hb L fun h' fo fT=>?_;refine j8 (id fo) fun aP es' NW aF J=>?_;have sA:=C0 v8 (k:=k) O aT cI
 obtain⟨aJ,aQ⟩:=r.set (m:=.dp (eK k v es)) dZ (fun b o hb e=>(fT.2 b hb).trans e) aF fun aQ=>⟨storedH xs (lE k) b u,fo,by
   have:=sA.1;rw[<- kvsOf_storedH,kvsOf,gL]at this
   exact this,fun y hy=>by
   rcases mem_storedH hy with⟨z,bp,_,ak⟩ | ⟨_,ak⟩
   ·exact ak.symm▸(ax z bp)
   ·exact ak.symm▸PY,by
   have:=sA.2;rw[<- kvsOf_storedH,kvsOf,gL]at this
   exact this.ext aQ⟩
 exact a7 _ aJ aQ ⟨rfl,rfl⟩
theorem Wb{q:Nat}{l:Addr}{es:List (Str×H)}{v:H}{k:Str}{t:Tok}{Q:Unit->Shared->Prop}{X:Value->Shared->Prop}(r:aq K.hb s.heap σ α)(hs:σ[q]?=some (.ds es))(dZ:α.ix[q]?=some l)
  (cI:aj s.heap α v u) (hl:es.length<aI)
  (a7:∀s',aq K.hb s'.heap (σ.set q (.ds (eK k v es))) α->a4 [] α s.heap α s'.heap->cA s s'->Q () s'):wpAny (model K.prog K.w) A (setItem (.ref l) (.str k t) u) Q X s:=by
 refine bL (p4 r hs dZ) fun el L O aT=>?_
 have da:el.length<=sizeLine:=by
  have e:=congrArg List.length O;simp only[bh]at e;exact e.symm▸(iB (Nat.le_of_lt hl))
 refine wpAny_setItem_pairs (hsz:=da) tw L fun h' fo fT=>?_;refine j8 (id fo) fun aP es' NW aF J=>?_;have sA:=C0 (g:=id) (fun J J h=>h) (k:=k) O aT cI;refine aW (r.set (m:=.ds (eK k v es)) dZ (fun b o hb e=>(fT.2 b hb).trans e) aF fun aQ=>⟨stored el k u,fo,sA.1,sA.2.ext aQ⟩) fun aJ aQ=>?_;exact a7 _ aJ aQ ⟨rfl,rfl⟩
theorem V9{q:Nat}{l:Addr}{i v:H}{x:Value}{Q:Unit->Shared->Prop}{X:Value->Shared->Prop}(hA:eF A)(r:aq K.hb s.heap σ α)(hs:σ[q]?=some m)(dZ:α.ix[q]?=some l)
  (h:qY m i v=some bJ) (w0:aj s.heap α i x) (cI:aj s.heap α v u)
  (a7:∀s',aq K.hb s'.heap (σ.set q bJ) α->a4 [] α s.heap α s'.heap->cA s s'->Q () s'):wpAny (model K.prog K.w) A (setItem (.ref l) x u) Q X s:=by
 cases m with
 | ds es =>
  cases i with
  | str k =>
   refine qw h fun hl h=>?_;obtain rfl:=oi h;refine az w0.strE fun J ag J=>?_;obtain rfl:=ag;exact Wb r hs dZ cI hl a7
  | _=>contradiction
 | dp es =>
  refine cF h fun k hk h=>qw h fun hl h=>?_;obtain rfl:=oi h;exact Wa hA r hs dZ hk w0 cI hl a7
 | _=>contradiction
theorem Wc{o i v:H}(h:hN o i v ρ σ≠.stuck)(k:∀q m bJ,o=.ref q->σ[q]?=some m->qY m i v=some bJ->hN o i v ρ σ=.next ρ (σ.set q bJ)->P):P:=by
 cases o with
 | ref q =>
  cases hm:(σ[q]?).bind fun m=>qY m i v with
  | none=>exact absurd (by unfold hN;dsimp only;rw[hm]) h
  | some bJ=>exact cF hm fun m L O=>k q m bJ rfl L O (by unfold hN;dsimp only;rw[hm])
 | _=>exact absurd rfl h
theorem Mk{o i v:Expr}{p:Pos}{x y z:X}(hA:eF A)(F:dv K.hb env)(jG:mu v=false)
  (jS:∀{σ s α},a1 env ρ s.heap α->aq K.hb s.heap σ α->av K aj A (eval v env) (ev C z ρ σ) s α)
  (eh:∀{σ s α},a1 env ρ s.heap α->aq K.hb s.heap σ α->av K aj A (eval o env) (ev C x ρ σ) s α)
  (pL:∀{σ s α},a1 env ρ s.heap α->aq K.hb s.heap σ α->av K aj A (eval i env) (ev C y ρ σ) s α) (E:a1 env ρ s.heap α) (r:aq K.hb s.heap σ α) :
  e5 K env A (exec (.Assign [.Subscript o i p] v pos) env) (ex C n (.asgSub x y z) ρ σ) s α:=by
 change e5 K env A _ ((ev C z ρ σ).toS ρ fun v σ=>(ev C x ρ σ).toS ρ fun o σ=>(ev C y ρ σ).toS ρ fun i σ=>hN o i v ρ σ) s α;intro hc;refine wpAny_Assign_Subscript (av.useS E (jS E r) hc fun cI ac bc u s₁ V c9 aZ aY a0 a6=>?_) (wO jG);rw[V];have fx:=E.ext aZ .nil;refine cB (av.useS (env:=env) (s:=s₁) (α:=bc) fx (eh fx aY) c9 fun Lk au α₂ Ch bb ak e0 bz r2 bN cP=>?_) (fun J J q=>q) (fun J J q=>iL.lift (hF F E aZ) a6 q);have lf:=fx.ext bz .nil
 refine cB (av.useS (env:=env) (s:=bb) (α:=α₂) lf (pL lf r2) e0 fun w0 gq pD XC e3 bK Aj fv h4 iF iX=>?_) (fun J J q=>q) (fun J J q=>by
  show iL K A env ((ev C x ρ ac).toS ρ _) s α _ _
  exact ak.symm▸(iL.lift (hF F E (aZ.trans bz)) (a6.trans cP) q))
 show wpAny (model K.prog K.w) A (setItem Ch XC u) _ _ e3;refine Wc Aj fun q m bJ ho hs hm he=>?_;subst ho;refine az bN.refE fun l ag dZ=>?_;obtain rfl:=ag;refine V9 hA h4 hs (fv.get dZ) hm iF ((a0.ext bz).ext fv) fun s' aJ aQ bJ=>?_;show g9 K env ((ev C x ρ ac).toS ρ _) _ _ _ _;rw[ak];show g9 K env ((ev C y ρ au).toS ρ _) _ _ _ _;rw[bK];show g9 K env (hN (.ref q) w0 cI ρ gq) _ _ _ _;exact he.symm▸(⟨ρ,_,pD,hF F E (((aZ.trans bz).trans fv).trans aQ),aJ,(lf.ext fv .nil).ext aQ .nil,((a6.trans cP).trans iX).trans bJ,.next⟩)
theorem IS{q:Prop}{_:Decidable q}{a b:b3}(h:(if q then a else .stuck)=b)(hb:b≠.stuck):q/\a=b:=by
 by_cases hq:q
 ·rw[aE hq]at h;exact⟨hq,h⟩
 ·rw[a5 hq]at h;exact absurd h.symm hb
theorem OX(E:a1 env ρ h α)(F:dv K.hb env)(ho:∀b∈own,h.get? b=none):mQ env own/\∀b∈own,b∉e8 env:=by
 have al:=mi E F.cl;refine⟨⟨fun q=>?_,fun x c hc q=>?_⟩,fun b hb q=>?_⟩
 ·refine aM (al env.locals bu) fun o e=>?_;rw[ho _ q]at e;contradiction
 ·refine d4 (E.ca x c hc) fun J J bi=>?_;refine c1 bi fun v o e J=>?_;rw[ho _ q]at e;contradiction
 ·refine aM (al b q) fun o e=>?_;rw[ho _ hb]at e;contradiction
noncomputable def pU(K:a3)(A:Around)(en:Bool)(env:Env)(target:Expr)(bind:H->aB->Option aB):Prop:=
 ((en=false/\∀it v,letOwnedTupleGo target it v=pure ())\/∃m4 k pos,target=.Tuple m4 k pos)/\∀(s:Shared) (σ:af) (α:ay) (ρ ρ':aB) (p:H) (u:Value),bind p ρ=some ρ'->a1 env ρ s.heap α->aq K.hb s.heap σ α->aj s.heap α p u ->
  ∀(Q:Unit->Shared->Prop) (X:Value->Shared->Prop),(∀s',aq K.hb s'.heap σ α->a1 env ρ' s'.heap α->a4 (e8 env) α s.heap α s'.heap->cA s s'->Q () s')->wpAny (model K.prog K.w) A (assign target env u) Q X s
theorem WE{k:NameKind}{p:Pos}(F:dv K.hb env)(hn:env.scope.names[i]?=some (x,k))(hk:k=.local\/k=.cell):pU K A false env (.Name x p) (dm i):=
 ⟨.inl ⟨rfl,fun J J=>rfl⟩,fun s σ α ρ ρ' pv u hb E r v Q X a7=>by
  obtain rfl:=oi hb
  exact wpAny_assign_Name (qZ F r E hn hk v a7)⟩
theorem WF{bind:H->aB->Option aB}{eD v:Value}{P:Shared->Prop}{Q:Unit->Shared->Prop}{X:Value->Shared->Prop}(mL:pU K A en env target bind)(L:en=false->P s)(O:xm K A eD v P s)(a7:∀s',P s'->Q () s'):wpAny (model K.prog K.w) A (letOwnedTupleGo target eD v) Q X s:=by
 rcases mL.1 with⟨he,bV⟩ | ⟨m4,k,pos,rfl⟩
 ·exact wpAny_of_eq (bV eD v) (a7 s (L he))
 ·exact O m4 k pos _ _ a7
set_option tactic.hygienic true in
structure CI(B:Flow->Shared->Prop)(I:Shared->Prop)(P:Flow->Shared->Prop):Prop where
 next:∀s,I s->B .next s
 cont:∀s,I s->B .cont s
 brk:∀s,P .next s->B .brk s
 ret:∀u s,P (.ret u) s->B (.ret u) s
structure tS where
 K:a3
 env:Env
 own:List Addr
 St:Nat->Heap->ay->Prop
 s:Shared
 α:ay
 h₂:Heap
 α₂:ay
structure nX(P:tS)(A:Around)(en:Bool)(eD:Value)(xs:List H)(w:Option (Nat×aV)):Prop where
 I:gH P.K A en P.own eD xs w P.St
 F:dv P.K.hb P.env
 ap:mQ P.env P.own
 apF:∀b∈P.own,b∉e8 P.env
 x:a4 [] P.α P.s.heap P.α₂ P.h₂
 new:∀b∈P.own,P.s.heap.get? b=none
 al:∀b∈e8 P.env,∃o,P.s.heap.get? b=some o
structure kx(P:tS)(i:Nat)(ρ:aB)(σ:af)(s:Shared)(α:ay):Prop where
 x:a4 (P.own++e8 P.env) P.α₂ P.h₂ α s.heap
 r:aq P.K.hb s.heap σ α
 st:P.St i s.heap α
 E:a1 P.env ρ s.heap α
 m:cA P.s s
inductive xj(P:tS)(xs:List H)(go:List H->aB->af->b3)(c:b3)(k:Nat)(s:Shared):Prop
 | mk (i:Nat) (σ:af) (α:ay) (ρ:aB) (hk:k=xs.length-i) (hi:i<=xs.length) (aG:kx P i ρ σ s α) (bV:go (xs.drop i) ρ σ=c):xj P xs go c k s
section
variable {P:tS}{eD:Value}{w:Option (Nat×aV)}
theorem kx.more(aG:kx P i ρ σ s α)(c:nX P A en eD xs w){F:List Addr}(bU:∀b∈F,b∈P.own++e8 P.env)(x:a4 F α s.heap α' h'):a4 (P.own++e8 P.env) P.α₂ P.h₂ α' h':=
 aG.x.trans (x.mono bU fun b hb=>(dH.mp hb).elim (c.I.live _ _ _ aG.st b) (mi aG.E c.F.cl b))
theorem kx.step(aG:kx P i ρ σ s α)(c:nX P A en eD xs w)(x:a4 P.own α s.heap α s'.heap)(r:aq P.K.hb s'.heap σ α)(st:P.St (i+1) s'.heap α)(m:cA s s'):kx P (i+1) ρ σ s' α:=
 ⟨aG.more c (fun J=>hj _) x,r,st,aG.E.ext x c.ap,aG.m.trans m⟩
theorem kx.go(aG:kx P i ρ σ s α)(c:nX P A en eD xs w)(x:a4 (e8 P.env) α s.heap α' s'.heap)(r:aq P.K.hb s'.heap σ' α')(E:a1 P.env ρ' s'.heap α')(m:cA s s'):kx P i ρ' σ' s' α':=
 ⟨aG.more c (fun J=>e6 _) x,r,c.I.frame _ _ _ _ _ _ aG.st x c.apF,E,aG.m.trans m⟩
theorem nX.post(c:nX P A en eD xs w){o:b3}{fl:Flow}(x:a4 (P.own++e8 P.env) P.α₂ P.h₂ α s.heap)(r:aq P.K.hb s.heap σ α)(E:a1 P.env ρ s.heap α)(m:cA P.s s)(iv:pJ s.heap α ρ σ o fl):g9 P.K P.env o P.s P.α fl s:=
 ⟨ρ,σ,α,a4.drop c.x c.new c.al x,r,E,m,iv⟩
theorem SQ{bind:H->aB->Option aB}{f:aB->af->b3}{o:b3}{Q:Option Value->Shared->Prop}{rv:Value->Unit->Shared->Prop}{pO:Unit->Shared->Prop}{B:Flow->Shared->Prop}{X:Value->Shared->Prop}(c:nX P A en eD xs w)(mL:pU P.K A en P.env target bind)
  (hb:∀{ρ σ s α},a1 P.env ρ s.heap α->aq P.K.hb s.heap σ α->e5 P.K P.env A (execs body P.env) (f ρ σ) s α) (hc:o≠.stuck) (eB:i<xs.length) (aG:kx P i ρ σ s α) (bV:ch w bind f (xs.drop i) ρ σ=o)
  (L:∀v s,wpAny (model P.K.prog P.K.w) A (letOwnedTupleGo target eD v) (rv v) X s->Q (some v) s) (O:∀v s,wpAny (model P.K.prog P.K.w) A (assign target P.env v) pO X s->rv v () s) (ax:∀s,wpAny (model P.K.prog P.K.w) A (execs body P.env) B X s->pO () s)
  (bf:CI B (xj P xs (ch w bind f) o (xs.length-(i+1))) (g9 P.K P.env o P.s P.α)):wpAny (model P.K.prog P.K.w) A (pyNext eD) Q X s:=by
 rw[List.drop_eq_getElem_cons eB]at bV;refine aW (IS bV hc) fun hw bV=>?_
 cases nf:bind xs[i] ρ with
 | none=>rw[nf]at bV;exact absurd bV.symm hc
 | some Cq =>
 rw[nf]at bV;change kP _ (f Cq σ)=o at bV;refine c.I.item i s σ α xs[i] (dA eB) aG.st aG.r hw _ _ fun v e3 vr ra tb nQ jH lI=>L _ _ (WF mL (fun he=>⟨vr,ra he,.refl,jH,.refl _⟩) tb fun nH q=>?_);refine x2 q fun vr st k7 nx np=>?_;have pN:=aG.step c (nQ.trans k7) nx st (lI.trans np);refine O _ _ (mL.2 nH σ α ρ Cq xs[i] v nf pN.E nx vr _ _ fun tx wF Cz mM qD=>?_);have rt:=pN.go c mM wF Cz qD;have jE:=hb Cz wF;generalize f Cq σ=Dm at bV jE;refine ax _ (cB (jE fun q=>hc (by rw[<- bV,q];rfl)) (fun fl BR hp=>?_) fun e BR hx=>?_)
 ·obtain⟨Yv,Yw,Yu,Cm,Vh,LC,Ts,iv⟩:=hp;have jT:=rt.go c Cm Vh LC Ts
  cases iv with
  | next=>exact bf.next _ ⟨i+1,_,_,_,rfl,eB,jT,bV⟩
  | cont=>exact bf.cont _ ⟨i+1,_,_,_,rfl,eB,jT,bV⟩
  | brk=>exact bf.brk _ (bV▸c.post jT.x jT.r jT.E jT.m .next)
  | ret dq=>exact bf.ret _ _ (bV▸c.post jT.x jT.r jT.E jT.m (.ret dq))
 ·obtain⟨j,ρ',σ',_,_,_,rfl,_⟩:=hx;exact absurd bV.symm hc
theorem SP{bind:H->aB->Option aB}{f:aB->af->b3}{o:b3}{pS:Result->Shared->Prop}(c:nX P A en eD xs w)(mL:pU P.K A en P.env target bind)
  (hb:∀{ρ σ s α},a1 P.env ρ s.heap α->aq P.K.hb s.heap σ α->e5 P.K P.env A (execs body P.env) (f ρ σ) s α) (aG:kx P 0 ρ σ s α) (bV:ch w bind f xs ρ σ=o) (hc:o≠.stuck) (hr:∀fl s',g9 P.K P.env o P.s P.α fl s'->pS (.ok fl) s') :
  codeAny (model P.K.prog P.K.w) A (.forLoop target eD body [] P.env) pS s:=by
 refine codeAny_forLoop_any (xj P xs (ch w bind f) o) (fun k s₁ nk=>?_) _ ⟨0,σ,α,ρ,rfl,gN _,aG,bV⟩;clear aG bV;obtain⟨i,ac,bc,b4,rfl,hi,aG,bV⟩:=nk;by_cases eB:i<xs.length
 ·exact SQ c mL hb hc eB aG bV (fun J J h=>h) (fun J J h=>h) (fun J h=>h) ⟨fun J h=>⟨_,Nat.sub_succ_lt_self _ _ eB,h⟩,fun J h=>⟨_,Nat.sub_succ_lt_self _ _ eB,h⟩,fun J h=>hr _ _ h,fun J J h=>hr _ _ h⟩
 ·have e:=Nat.le_antisymm hi (Nat.not_lt.mp eB);rw[e,List.drop_length]at bV;refine aW (IS bV hc) fun hw bV=>?_;exact c.I.done s₁ ac bc (e▸aG.st) aG.r hw _ _ fun e3 nQ jH lI=>wpAny_execs_nil (hr _ _ (bV▸c.post (aG.more c (fun J=>hj _) nQ) jH (aG.E.ext nQ c.ap) (aG.m.trans lI) .next))
end
theorem Ha{it:Expr}{bind:H->aB->Option aB}{ix:X}{b:S}{c:b3}(F:dv K.hb env)(mL:pU K A en env target bind)(hpl:jm it=true)
  (bZ:ju K A en (eval it env) (evIt C ix ρ σ) s α) (hb:∀{ρ σ s α},a1 env ρ s.heap α->aq K.hb s.heap σ α->e5 K env A (execs body env) (ex C n b ρ σ) s α) (E:a1 env ρ s.heap α)
  (lw:c=(evIt C ix ρ σ).toS ρ fun p σ=>ch p.2 bind (fun ρ σ=>ex C n b ρ σ) p.1 ρ σ) :
  e5 K env A (exec (.For target it body [] pos) env) c s α:=by
 subst lw;intro hc;generalize evIt C ix ρ σ=kG at bZ hc ⊢;refine wpAny_For (cB (bZ fun q=>hc (q▸rfl)) (fun nR s₁ cY=>cB cY (fun eD bb h₂=>?_) fun J J q=>q.toS E) fun J J q=>q.toS E) (Bs hpl);obtain⟨xs,w,au,α₂,own,St,rfl,iI,g0,hI,I,st,ho⟩:=h₂;refine aW (OX E F fun b hb=>(ho b hb).1) fun ap apF=>?_;exact SP (P:=⟨K,env,own,St,s,α,bb.heap,α₂⟩) ⟨I,F,ap,apF,iI,fun b hb=>(ho b hb).1,mi E F.cl⟩ mL hb ⟨.refl,g0,st,E.ext iI .nil,hI⟩ rfl hc fun J J h=>h
inductive tW(K:a3)(env:Env)(s:Shared)(α:ay)(go:Nat->aB->af->b3)(c:b3)(k:Nat)(s₁:Shared):Prop
 | mk (ac:af) (bc:ay) (b4:aB) (x:a4 (e8 env) α s.heap bc s₁.heap) (r:aq K.hb s₁.heap ac bc) (E:a1 env b4 s₁.heap bc) (m:cA s s₁) (bV:go k b4 ac=c):tW K env s α go c k s₁
set_option tactic.hygienic true in
theorem XV{nK:Expr}{lQ:X}{f:aB->af->b3}{c:b3}{k:Nat}{Q:Bool->Shared->Prop}{B:Flow->Shared->Prop}{X:Value->Shared->Prop}(F:dv K.hb env)
  (aO:∀{ρ σ s α},a1 env ρ s.heap α->aq K.hb s.heap σ α->av K hh A (isTrue nK env (eval nK env)) (tst C lQ ρ σ) s α) (hb:∀{ρ σ s α},a1 env ρ s.heap α->aq K.hb s.heap σ α->e5 K env A (execs body env) (f ρ σ) s α)
  (hc:c≠.stuck) (nk:tW K env s α (iH (fun ρ σ=>tst C lQ ρ σ) f) c (k+1) s₁) (L:∀s',wpAny (model K.prog K.w) A (execs body env) B X s'->Q true s') (h0:∀s',g9 K env c s α .next s'->Q false s')
  (bf:CI B (tW K env s α (iH (fun ρ σ=>tst C lQ ρ σ) f) c k) (g9 K env c s α)):wpAny (model K.prog K.w) A (isTrue nK env (eval nK env)) Q X s₁:=by
 obtain⟨ac,bc,b4,Yb,Vg,xi,Tp,bV⟩:=nk;have H8:=aO xi Vg;change w2 b4 (fun σ=>kP (iH (fun ρ σ=>tst C lQ ρ σ) f k) (f b4 σ)) (tst C lQ b4 ac)=c at bV;generalize tst C lQ b4 ac=i9 at bV H8;refine cB (H8 fun q=>hc (by rw[<- bV,q];rfl)) (fun y bb hp=>?_) fun e bb hx=>?_
 ·obtain⟨t,au,α₂,rfl,bz,g0,bN,hI⟩:=hp;obtain rfl:y=t:=bN;have pI:=xi.ext bz .nil;have iI:=Yb.trans (hF F xi bz);have hI:=Tp.trans hI
  cases y with
  | false=>exact h0 _ (bV▸⟨_,_,_,iI,g0,pI,hI,.next⟩)
  | true =>
   have jE:=hb pI g0;change kP _ (f b4 au)=c at bV;generalize f b4 au=Dm at bV jE;refine L _ (cB (jE fun q=>hc (by rw[<- bV,q];rfl)) (fun fl e3 hp=>?_) fun e e3 hx=>?_)
   ·obtain⟨ZO,gq,pD,fv,jH,mR,lI,iv⟩:=hp
    cases iv with
    | next=>exact bf.next _ ⟨_,_,_,iI.trans fv,jH,mR,hI.trans lI,bV⟩
    | cont=>exact bf.cont _ ⟨_,_,_,iI.trans fv,jH,mR,hI.trans lI,bV⟩
    | brk=>exact bf.brk _ (bV▸⟨_,_,_,iI.trans fv,jH,mR,hI.trans lI,.next⟩)
    | ret dq=>exact bf.ret _ _ (bV▸⟨_,_,_,iI.trans fv,jH,mR,hI.trans lI,.ret dq⟩)
   ·obtain⟨j,ρ',σ',_,_,_,rfl,_⟩:=hx;exact absurd bV.symm hc
 ·obtain⟨j,σ',rfl,_⟩:=hx;exact absurd bV.symm hc
theorem XU{nK:Expr}{lQ:X}{b:S}(F:dv K.hb env)
  (aO:∀{ρ σ s α},a1 env ρ s.heap α->aq K.hb s.heap σ α->av K hh A (isTrue nK env (eval nK env)) (tst C lQ ρ σ) s α) (hb:∀{ρ σ s α},a1 env ρ s.heap α->aq K.hb s.heap σ α->e5 K env A (execs body env) (ex C n b ρ σ) s α)
  (E:a1 env ρ s.heap α) (r:aq K.hb s.heap σ α) :
  e5 K env A (exec (.While nK body [] pos) env) (iH (fun ρ σ=>tst C lQ ρ σ) (fun ρ σ=>ex C n b ρ σ) n ρ σ) s α:=fun hc =>
 wpAny_While (codeAny_whileLoop (tW K env s α (iH (fun ρ σ=>tst C lQ ρ σ) fun ρ σ=>ex C n b ρ σ) _) (fun k s₁ nk=>by
  cases k with
  | zero=>obtain⟨_,_,_,_,_,_,_,bV⟩:=nk;exact absurd bV.symm hc
  | succ k=>exact XV F aO hb hc nk (fun J h=>h) (fun J h=>wpAny_execs_nil h) ⟨fun J h=>⟨k,Nat.lt_succ_self k,h⟩,fun J h=>⟨k,Nat.lt_succ_self k,h⟩,fun J h=>h,fun J J h=>h⟩) n ⟨σ,α,ρ,.refl,r,E,.refl s,rfl⟩)
noncomputable def a3.wx(K:a3)(h:Heap):a3:={ K with hb:={ K.hb with h:=h },ph:=true }
noncomputable def ru(K:a3)(h:Heap)(a:Addr)(C:bq):Prop:=
 (∀b o,K.hb.h.get? b=some o->h.get? b=some o)/\(C.hd=false->∃(o:Obj) (vs:Array Value),h.get? a=some o/\o.data=.fields vs/\vs[2]?=some .none)
theorem X2{hb:Heap}(base:∀b o,hb.get? b=some o->h.get? b=some o)(e:h.get? a=some o) :
  ∃h':Heap,(∀b o,hb.get? b=some o->h'.get? b=some o)/\h'.get? a=some o/\∀b aP,h'.get? b=some aP->b=a\/hb.get? b=some aP:=by
 refine⟨PySem.W.hideAll h ((List.range h.objs.size).filter fun b=>b != a&&(hb.get? b).isNone),fun b aP q=>PySem.W.hideAll_get _ (base b aP q) fun z=>?_,PySem.W.hideAll_get _ e fun z=>?_,fun b aP q=>?_⟩
 ·have:=(List.mem_filter.mp z).2;rw[q]at this;simp at this
 ·have:=(List.mem_filter.mp z).2;simp at this
 ·have nw:=PySem.W.of_hideAll _ q;by_cases qj:b=a
  ·exact .inl qj
  ·right
   cases hq:hb.get? b with
   | some bR=>rw[base b bR hq]at nw;exact nw
   | none =>
    have:b∈(List.range h.objs.size).filter fun b=>b != a&&(hb.get? b).isNone:=List.mem_filter.mpr ⟨List.mem_range.mpr (fi nw),by simp[qj,hq]⟩;rw[PySem.W.hideAll_none _ this]at q;contradiction
theorem et.wx(o:et K.hb h α m a):et (K.wx h').hb h α m a:=by cases m <;> exact o
theorem et.unwx(o:et (K.wx h').hb h α m a):et K.hb h α m a:=by cases m <;> exact o
theorem aq.wx{vs:Array Value}(r:aq K.hb h σ α)(e:h.get? a=some o)(hd:o.data=.fields vs)(ha:a∉α.all)(aF:h'.get? a=some o)(only:∀b aP,h'.get? b=some aP->b=a\/K.hb.h.get? b=some aP):aq (K.wx h').hb h σ α:=by
 have no:∀{b:Addr},b≠a->K.hb.get? b=none->(K.wx h').hb.get? b=none:=fun{b} hb hn=>by
  cases q:(K.wx h').hb.get? b with
  | none=>rfl
  | some aP =>
   rcases only b aP q with z | z
   ·exact absurd z hb
   ·rw[show K.hb.get? b=some aP from z]at hn;contradiction
 refine⟨fun b aP q=>?_,fun b hb=>no (fun z=>ha (z▸hj _ hb)) (r.fresh b hb),r.nodup,r.len,r.hidden,fun i m b V ak=>(r.obj i m b V ak).wx,fun b hb=>no (fun z=>ha (z▸e6 _ hb)) (r.hfr b hb),r.fe,fun b hb=>?_,r.frNot⟩
 ·rcases only b aP q with z | z
  ·subst z;rw[show(K.wx h').hb.get? b=some o from aF]at q;obtain rfl:=oi q;exact e
  ·exact r.base b aP z
 ·obtain⟨q1,aP,q2,q3⟩:=r.frs b hb;refine⟨no (fun z=>?_) q1,aP,q2,q3⟩;rw[z,e]at q2;obtain rfl:=oi q2;refine jb q3 fun es n d=>?_;rw[hd]at d;contradiction
theorem aq.unwx(k:∀b o,K.hb.h.get? b=some o->h'.get? b=some o)(r:aq (K.wx h').hb h σ α):aq K.hb h σ α:=by
 have no:∀{b:Addr},(K.wx h').hb.get? b=none->K.hb.get? b=none:=fun{b} hn=>by
  cases q:K.hb.get? b with
  | none=>rfl
  | some aP=>rw[show(K.wx h').hb.get? b=some aP from k b aP q]at hn;contradiction
 exact⟨fun b o q=>r.base b o (k b o q),fun b hb=>no (r.fresh b hb),r.nodup,r.len,r.hidden,fun i m b V ak=>(r.obj i m b V ak).unwx,fun b hb=>no (r.hfr b hb),r.fe,fun b hb=>let⟨q1,q2⟩:=r.frs b hb;⟨no q1,q2⟩,r.frNot⟩
theorem dv.wx{vs:Array Value}(F:dv K.hb env)(E:a1 env ρ s.heap α)(e:s.heap.get? a=some o)(hd:o.data=.fields vs)(only:∀b aP,h'.get? b=some aP->b=a\/K.hb.h.get? b=some aP):dv (K.wx h').hb env:=by
 have no:∀{b:Addr},b≠a->K.hb.get? b=none->(K.wx h').hb.get? b=none:=fun{b} hb hn=>by
  cases q:(K.wx h').hb.get? b with
  | none=>rfl
  | some aP =>
   rcases only b aP q with z | z
   ·exact absurd z hb
   ·rw[show K.hb.get? b=some aP from z]at hn;contradiction
 refine⟨F.sc,⟨no (fun z=>?_) F.new.l,fun x c hc=>no (fun z=>?_) (F.new.c x c hc),F.new.f⟩,F.cl,F.inter⟩
 ·obtain⟨m,⟨aP,es,ez,aF,d,_⟩,_⟩:=E.ns;rw[z,e]at aF;obtain rfl:=oi aF;rw[hd]at d;contradiction
 ·refine d4 (E.ca x c hc) fun J J bi=>?_;refine c1 bi fun v aP aF d=>?_;rw[z,e]at aF;obtain rfl:=oi aF;rw[hd]at d;contradiction
theorem NV:entryFor table "proto.unchain" = some Builtin.«proto.unchain»:=entryFor_of_fast (by kernel_rfl)
theorem UY{prog:Program}{w:World}{β:Type}{e h:Addr}{fu oh:Obj}{Li Lj:Array Value}{Q:β->Shared->Prop}(aR:A.handled=some (.ref h))(de:h≠e)(L:s.heap.get? h=some oh)(O:oh.data=.fields Lj)(ax:Lj[2]?=some .none)
  (V:s.heap.get? e=some fu) (ak:fu.data=.fields Li) (bK:2<Li.size) (gB:E (.ref e) { s with heap:=s.heap.update e (Obj.mapFields (·.setIfInBounds 2 (.ref h))) }):wpAny (model prog w) A (raiseNew (.ref e):Sem β) Q E s:=by
 unfold raiseNew;refine aN (wpAny_handled ?_);rw[aR];dsimp only;rw[aE (show(Value.ref h != Value.ref e)=true by simpa using de)];refine aN (hT (wpAny_runValue (codeAny_builtin NV ?_)));show wpAny _ _ (field (.ref h) 2 >>= _) _ _ s;refine aN (gM L O ax ?_);rw[aE (by decide)];refine aN (bO (bO ?_));show wpAny _ A (setField (.ref e) 2 (.ref h) >>= fun J=>throw (.ref e)) Q E s;exact aN (wpAny_setField V ak bK (wpAny_throw gB))
section
variable {prog:Program}{w:World}
variable {nm q:Str}{C N:Addr}{bs bm bmB:List Value}{hdct:Bool}{sn:List Str}{sub:List Value}{ab:Bool}{col:Option Bool}{dd:Option Addr}{k0 k1 k2 k3 k5:Option Value}{B newId Rr:String}
theorem U0{x:Sem Value}{Q:Flow->Shared->Prop}(su:bm.contains (.type "BaseException")=true)
  (h:wpAny (model prog w) A x (fun v s₁=>∃e t,v=.ref e/\s₁.heap.get? C=some (excClassObj nm q C N bs bm hdct sn sub ab col dd k0 k1 k2 k3 k5 newId) ∧
   s₁.heap.get? e=some { cls:=.ref C,data:=.fields #[.ref t,.none,.none,.none,.bool false,.none] }/\wpAny (model prog w) A (raiseNew (.ref e):Sem Flow) Q E s₁) E s):wpAny (model prog w) A (raiseStmt env (some x) none) Q E s:=by
 have Ak:(Value.ref C::bm).contains (.type "BaseException")=true:=by rw[List.contains_cons,su,Bool.or_true]
 unfold raiseStmt;refine aN (cB h (fun v s₁ cY=>?_) fun J J x=>x);refine c1 cY fun e t ag bi=>?_;obtain rfl:=ag;refine d4 bi fun hC he gB=>?_;obtain⟨hp,g,d,tk,os⟩:=s₁
 repeat (first | with_reducible refine wpAny_loadPart_at he ?_ | with_reducible refine wpAny_loadPart_at hC ?_ | (with_reducible refine wpAny_isSubtype_exc hC ?_;rw[Ak]) | wp_step)
 exact gB
theorem UZ(F:ExcBaseFacts B newId Rr bmB){mN:Str->Option Value}{wu xS:Pos}{Q:Flow->Shared->Prop}
  (su:bm.contains (.type "BaseException")=true) (QM:(backTo xS (starEach args env)).any (·.1)=false) (sD:mN "__init__" = none)
  (h:wpAny (model prog w) A (eval (.Name x wu) env) (fun f s₁=>f=.ref C/\wpAny (model prog w) A (evalArgs (.ref C) true (backTo xS (starEach args env)) [])
   (fun a bb=>a.kw=[]/\a.pos.length<=sizeLine/\bb.heap.get? C=some (excClassObj nm q C N bs bm hdct sn sub ab col dd k0 k1 k2 k3 k5 newId)/\bb.heap.Ns N mN/\OwnTail bb.heap bmB bm ∧
    ∀h' e,Heap.MadeExcOf bb.heap h' e (.ref C) a.pos->wpAny (model prog w) A (raiseNew (.ref e):Sem Flow) Q E { bb with heap:=h' }) E s₁) E s) :
  wpAny (model prog w) A (exec (.Raise (some (.Call (.Name x wu) args [] xS)) none pos) env) Q E s:=by
 rw[arm_exec_Raise];refine aN (wpAny_standAt (U0 (C:=C) (nm:=nm) (q:=q) (N:=N) (bs:=bs) (bm:=bm) (hdct:=hdct) (sn:=sn) (sub:=sub) (ab:=ab) (col:=col) (dd:=dd) (k0:=k0) (k1:=k1) (k2:=k2) (k3:=k3) (k5:=k5) (newId:=newId) su (aN (cB (wpAny_Call_ofName (cB h (fun f s₁ cY=>?_) fun J J x=>x)) (fun v e3 kL=>aN (wpAny_standAt (bO kL))) fun J J x=>x))));obtain⟨rfl,cY⟩:=cY;unfold callWith;refine aN (hT (cB cY (fun a bb h₂=>aN (wpAny_standAt ?_)) fun J J x=>x));obtain⟨f3,L3⟩:=a;refine uq h₂ fun Qq da hC hn T h₂=>?_;obtain rfl:L3=[]:=Qq;obtain⟨hp,g,d,tk,os⟩:=bb;simp only[QM];refine aN (wpAny_keeperOf_exc hC ?_);refine aN (wpAny_call_exc_subT (hrest:=da) F T hC hn sD fun h' e hm=>aN (hT (wpAny_point (bO ?_))));refine bL hm.there fun t aO J J=>?_;exact⟨e,t,rfl,hm.keeps _ _ hC,aO,h₂ h' e hm⟩
end
theorem a1.wipe{m:Str->Option Value}(E:a1 env ρ h α)(n:h'.Ns env.locals m)(fT:∀b,b≠env.locals->h'.get? b=h.get? b):a1 env (ρ.map fun J=>none) h' α:=by
 have no:∀(i:Nat) (v:H),(ρ.map fun J=>(none:Option H))[i]?≠some (some v):=fun i v e=>by
  rw[fg]at e;cases hq:ρ[i]? <;> rw[hq]at e <;> (first | contradiction | (obtain rfl:=oi e) | cases e)
 refine⟨E.ok,E.la,⟨m,n,fun i x v J e=>absurd e (no i v)⟩,fun x c hc=>?_,E.cd,fun i x V=>?_,fun i v e=>absurd e (no i v)⟩
 ·refine d4 (E.ca x c hc) fun L O bi=>?_;refine c1 bi fun v o e d=>?_;exact⟨L,O,v,o,(fT c O).trans e,d⟩
 ·refine az (E.cv i x V) fun c hc J=>?_;exact⟨c,hc,fun v e=>absurd e (no i v)⟩
theorem gG.made{args:List Value}(r:aq K.hb s.heap σ α)(m:Heap.MadeExcOf s.heap h' a (.ref c) args):gG K s α c σ false (.ref a) { s with heap:=h' }:=by
 refine bL m.there fun t V ak bK=>?_;exact⟨a,s.heap,α,rfl,.refl,r,.keeps m.keeps,⟨m.new,_,_,.none,V,rfl,rfl,rfl,.inl rfl rfl,.none,rfl,fun J=>rfl⟩,⟨rfl,rfl⟩⟩
theorem gG.made2{x:Addr}{args:List Value}(hp:K.ph=true)(r:aq K.hb s.heap σ α)(m:Heap.MadeExcOf s.heap h' a (.ref c) args):gG K s α c σ false (.ref a) { s with heap:=h'.update a (Obj.mapFields (·.setIfInBounds 2 (.ref x))) }:=by
 refine bL m.there fun t V ak bK=>?_;refine⟨a,s.heap,α,rfl,.refl,r,.keeps fun b o e=>?_,⟨m.new,_,_,.none,Heap.get?_update_self _ V rfl,rfl,rfl,rfl,.inl rfl rfl,.ref x,rfl,fun z=>?_⟩,⟨rfl,rfl⟩⟩
 ·have qj:a≠b:=fun z=>by rw[<- z,m.new]at e;contradiction
  exact(Heap.get?_update_other _ _ qj).trans (m.keeps b o e)
 ·rw[hp]at z;contradiction
theorem U1{wu rO:Pos}{z:Str}{k:Nat}{Lu:Pos}(gR:cn K A T C)(hx:m5 T N x=some c)(bp:PyData.strOk z=true)(aw:env.scope.names=N)(E:a1 env ρ s.heap α)(r:aq K.hb s.heap σ α) :
  e5 K env A (exec (.Raise (some (.Call (.Name x wu) [.Constant (.str z) k Lu] [] rO)) none pos) env) (ex C n (.raise c) ρ σ) s α:=by
 have bP:ex C n (.raise c) ρ σ=bif C.rz then .exc c ρ σ else .stuck:=rfl
 rw[bP]
 cases oQ:C.rz with
 | false=>exact fun hc=>absurd rfl hc
 | true =>
 intro _;obtain⟨hg,q,hq,rfl,rfl⟩:=yc hx;refine aM (qu hg) fun j a8=>?_;refine az gR.exc fun ce X ar=>?_;obtain⟨⟨hmg,QF,H9⟩,_⟩:=ar q hq;obtain⟨nm,wC,tT,bs,hdct,sn,sub,ab,col,dd,k0,k1,k2,k3,k5,hC,mN,z9,sD⟩:=QF;refine UZ (mN:=mN) (C:=q.2.1) (nm:=nm) (q:=wC) (N:=tT) (bs:=bs) (hdct:=hdct) (sn:=sn) (sub:=sub) (ab:=ab) (col:=col) (dd:=dd) (k0:=k0) (k1:=k1) (k2:=k2) (k3:=k3) (k5:=k5) F.excBase_ValueError (H9.hasType rfl) rfl sD ?_;refine qJ gR.hK r E.ok (aw.symm▸a8) hmg ⟨rfl,?_⟩;refine Calls.evalArgs_plain (Calls.spliced_cons (cB (Dw (c:=.str z) (v:=.str z) (k:=k) (p:=Lu) (env:=env) (by show cm (PyData.strOk z) (some (H.str z))=_;rw[bp];rfl) r (by(intro q;exact nomatch q))) (fun v s₁ hp=>Calls.spliced_nil ?_) fun e s₁ hx=>?_))
 ·obtain⟨b,ac,bc,V,aZ,aY,_,a6⟩:=hp
  (first | contradiction | (obtain rfl:=oi V) | cases V)
  refine⟨rfl,by show 1<=sizeLine;decide,aY.base _ _ hC,z9.keeps aY.base,H9.keeps aY.base,fun h' e hm=>?_⟩
  cases dn:C.hd with
  | false=>exact wpAny_raiseNew_none (gR.hd dn) ⟨_,_,_,s,α,_,rfl,.refl,E,.refl s,gG.lift aZ a6 (gG.made aY hm)⟩
  | true =>
   refine ur (gR.rz oQ dn) fun ha Bi aA QO vN QP QQ=>?_;refine bL hm.there fun t V ak bK=>?_;have hb:=aY.base _ _ vN;refine UY (s:={ s₁ with heap:=h' }) QO (fun z=>?_) (hm.keeps _ _ hb) QP QQ V rfl (show 2<6 by decide) ⟨_,_,_,s,α,_,rfl,.refl,E,.refl s,gG.lift aZ a6 (gG.made2 (gR.ph.trans dn) aY hm)⟩;rw[z,hm.new]at hb;contradiction
 ·obtain⟨i,ac,V,_⟩:=hx
  (first | contradiction | (obtain rfl:=oi V) | cases V)
theorem Wx(h:(kZ T d).contains c=true):∃p∈T.excs,p.2.1=c/\(c=d\/d∈p.2.2):=by
 refine az (cL.mp (mY.mp h)) fun p hp ag=>?_;obtain rfl:=ag;refine aW (List.mem_filter.mp hp) fun L O=>?_;refine⟨p,L,rfl,?_⟩;simp only[Bool.or_eq_true,fy,mY]at O;exact O
theorem SW{Q:Bool->Shared->Prop}{X:Value->Shared->Prop}(gR:cn K A T C)(r:aq K.hb s.heap σ α)(he:s.heap.get? a=some o)(jF:o.cls=.ref c)(hd:∃q∈T.excs,q.2.1=d)
  (hs:(kZ T d).contains c=true) (a7:Q true s) {Ct:Around}:wpAny (model K.prog K.w) Ct (excMatches (.ref a) (.ref d)) Q X s:=by
 refine az gR.exc fun ce LN ar=>?_;refine bL (Wx hs) fun p hp ag QK=>?_;obtain rfl:=ag;refine az hd fun q hq ag=>?_;obtain rfl:=ag;obtain⟨⟨_,⟨nm,wC,tT,bs,hdct,sn,sub,ab,col,dd,k0,k1,k2,k3,k5,hC,_⟩,t1⟩,_⟩:=ar p hp;obtain⟨⟨_,⟨lJ,Zx,YB,YG,YY,Zy,Zz,YC,YJ,YK,Ze,Zf,Zg,Zh,Zi,hD,_⟩,cH⟩,_⟩:=ar q hq;have Py:=r.base _ _ hC;have Hy:=r.base _ _ hD
 have Ak:(Value.ref q.2.1::(q.2.2.map Value.ref++[.type "ValueError",.type "Exception",.type "BaseException",.type "object"])).contains (.type "BaseException")=true:=by
  rw[List.contains_cons,cH.hasType (X := "BaseException") (b:=true) (by decide),Bool.or_true]
 have P1:(Value.ref p.2.1::(p.2.2.map Value.ref++[.type "ValueError",.type "Exception",.type "BaseException",.type "object"])).contains (.ref q.2.1)=true:=by
  rw[mY]
  rcases QK with e | e
  ·exact e▸bu
  ·exact bQ _ (hj _ (cL.mpr ⟨_,e,rfl⟩))
 have f:=tc_notTuple;obtain⟨h,g,um,t,os⟩:=s;unfold excMatches
 repeat (first | (with_reducible refine wpAny_loadPart_at he ?_;rw[jF]) | with_reducible refine wpAny_loadPart_at Hy ?_ | (with_reducible refine wpAny_isSubtype_exc Hy ?_;rw[Ak]) | (with_reducible refine wpAny_isSubtype_exc Py ?_;rw[P1]) | wp_step)
 exact a7
theorem M4{y:Str}{Co:Pos}{dB:Stmt}{bs:List Stmt}{cC:Nat}{e:Value}{Q:Flow->Shared->Prop}{X:Value->Shared->Prop}(gR:cn K A T C)(F:dv K.hb env)(hx:m5 T N x=some c)(aw:env.scope.names=N)(hi:N[i]?=some (y,.local))(hs:(kZ T c).contains cC=true)
  (E:a1 env ρ s.heap α) (eU:gG K s α cC σ d5 e s')
  (k:∀(a:Addr) (s₁:Shared) (bc:ay) (fu:Obj) (vs:Array Value),a4 (e8 env) α s.heap bc s₁.heap->aq K.hb s₁.heap σ bc->a1 env (ρ.set i (some (.exc cC))) s₁.heap bc->cA s s₁->s₁.heap.get? a=some fu->fu.data=.fields vs->a∉bc.all->(∃v,vs[2]?=some v/\(K.ph=false->v=.none)) ->
   wpAny (model K.prog K.w) (A.mark (some (.ref a))) (execs (dB::bs) env) (fun f bb=>wpAny (model K.prog K.w) A (do bindName env y .none;unbindBehindTheSuite env y pos) (fun J e3=>Q f e3) X bb) (fun J J=>False) s₁) :
  wpAny (model K.prog K.w) A (noteFrame e env) (fun J bb=>wpAny (model K.prog K.w) A (setFlight e none) (fun J e3=>wpAny (model K.prog K.w) A (handleBy e env [.ExceptHandler (some (.Name x Co)) (some y) (dB::bs) pos]) Q X e3) X bb) X s':=by
 obtain⟨a,h₀,α',rfl,aQ,aJ,u,b0,bJ⟩:=eU;obtain⟨hg,q,hq,rfl,rfl⟩:=yc hx;refine aM (qu hg) fun j a8=>?_;refine az gR.exc fun ce LN LF=>?_;refine JO gR.fr F.new aJ u b0 fun h₂ jp NJ=>zS (s:={ s' with heap:=h₂ }) aJ jp NJ fun kL kp DE=>?_;obtain⟨_,fu,vs,nR,he,jF,hd,_,_,_⟩:=id DE;refine wpAny_handleBy_cons (codeAny_handlers_test (qJ (s:={ s' with heap:=kL }) gR.hK (aJ.up kp) E.ok (aw.symm▸a8) (LF q hq).1.mg (SW (s:={ s' with heap:=kL }) gR (aJ.up kp) he jF ⟨q,hq,rfl⟩ hs ?_))) (fun z=>nomatch z);refine codeAny_handlers_suite_as (zS (s:={ s' with heap:=kL }) aJ kp DE fun AF ri DF=>?_);obtain⟨_,JT,XK,ZM,HP,HM,Am,_,_,Nu⟩:=id DF;have ha:a∉α'.all:=fun z=>aM (aJ.liveAll z) fun o e=>nomatch DF.new.symm.trans e;have k7:=aQ.trans (aJ.upExt ri);refine qZ (s:={ s' with heap:=AF }) F (aJ.up ri) (E.ext k7 .nil) (aw.symm▸hi) (.inl rfl) (.exc HP HM Am ha) fun tx qS tM mM qD=>?_;exact cB (k a tx α' JT XK ((hF F E k7).trans mM) qS tM ⟨qD.gens.trans bJ.gens,qD.os.trans bJ.os⟩ (mM.seqs a JT (ay.not_ix ha) HP (.inr (.inl ⟨_,_,HM,Am⟩))) Am ha Nu) (fun J J q=>q) fun J J q=>q.elim
theorem X0{y:Str}{Q:Shared->Prop}{X:Value->Shared->Prop}(F:dv K.hb env)(sw:env.scope.names[i]?=some (y,.local))(r:aq K.hb s.heap σ α)(E:a1 env ρ s.heap α)
  (a7:∀s',aq K.hb s'.heap σ α->a1 env (ρ.map fun J=>none) s'.heap α->a4 (e8 env) α s.heap α s'.heap->cA s s'->Q s'):wpAny (model K.prog K.w) A (do bindName env y .none;unbindBehindTheSuite env y pos) (fun J s'=>Q s') X s:=by
 refine az (id E.ns) fun m ns J=>?_;refine wpAny_nameGoes (E.ok.ws i y _ sw) ns (by rw[E.ok.kind];rfl) fun Ik o8 JP Kd=>?_
 refine aW (r.but E.la F.new.l (fun b o hb e=>(Kd.2 b hb).trans e) (fun o e=>by
  refine l8 (id ns) fun aP es ez aF d J=>?_;rw[e]at aF;obtain rfl:=oi aF
  exact gX.notSolid ⟨_,_,d⟩) fun J o e J=>by
  refine l8 (id JP) fun aP es ez aF d J=>?_
  exact⟨aP,aF,es,ez,d⟩) fun wD w5=>?_
 exact a7 _ wD (E.wipe JP fun b hb=>Kd.2 b hb) (w5.mono (by simp[e8]) (mi E F.cl)) ⟨rfl,rfl⟩
theorem Xo{b:Bool}{q:Prop}{_:Decidable q}{x:b3}{M:b3->Prop}(h:(bif b then(if q then x else .stuck)else .stuck)≠.stuck)(k:b=true->q->x≠.stuck->M x):M (bif b then(if q then x else .stuck)else .stuck):=by
 cases b with
 | false=>exact absurd rfl h
 | true =>
  change M (if q then x else .stuck);change(if q then x else .stuck)≠_ at h;by_cases hq:q
  ·rw[aE hq]at h ⊢;exact k rfl hq h
  ·rw[a5 hq]at h;exact absurd rfl h
theorem Xp{y:Str}{Co vM:Pos}{b hb:List Stmt}{h':S}(gR:cn K A T C)(F:dv K.hb env)(hx:m5 T N x=some c)(aw:env.scope.names=N)(hi:N[i]?=some (y,.local))(de:hb≠[])
  (ar:e5 K env A (execs b env) (ex C n cO ρ σ) s α)
  (rs:C.rz=true->∀(hx:Heap) (a:Addr),ru K hx a C->dv (K.wx hx).hb env->∀{ρ σ s α},a1 env ρ s.heap α->aq (K.wx hx).hb s.heap σ α->e5 (K.wx hx) env (A.mark (some (.ref a))) (execs hb env) (ex C.inH n h' ρ σ) s α) :
  e5 K env A (exec (.Try b [.ExceptHandler (some (.Name x Co)) (some y) hb vM] [] [] pos) env) (ex C n (.tryE cO (kZ T c) i h') ρ σ) s α:=by
 change e5 K env A _ (wX (fun cC ρ σ=>bif C.rz then(if(kZ T c).contains cC/\i<ρ.length then p1 (ex C.inH n h' (ρ.set i (some (.exc cC))) σ)else .stuck)else .stuck) (ex C n cO ρ σ)) s α;intro hc;generalize ex C n cO ρ σ=Dm at hc ar ⊢
 cases hb with
 | nil=>exact absurd rfl de
 | cons dB bs =>
 refine wpAny_Try_except (cB (ar fun q=>hc (by rw[q];rfl)) (fun fl s₁ hp=>?_) fun e s₁ AD=>?_)
 ·obtain⟨b4,ac,bc,aZ,aY,fx,a6,iv⟩:=hp
  cases iv with
  | next=>exact wpAny_execs_nil ⟨_,_,_,aZ,aY,fx,a6,.next⟩
  | brk=>exact⟨_,_,_,aZ,aY,fx,a6,.brk⟩
  | cont=>exact⟨_,_,_,aZ,aY,fx,a6,.cont⟩
  | ret v=>exact⟨_,_,_,aZ,aY,fx,a6,.ret v⟩
 ·obtain⟨cC,b4,ac,s₀,bc,d5,rfl,aZ,fx,a6,eU⟩:=AD;refine Xo (M:=fun o=>wpAny _ A _ (fun J bb=>wpAny _ A _ (fun J e3=>wpAny _ A _ (g9 K env o s α) (iL K A env o s α) e3) (iL K A env o s α) bb) (iL K A env o s α) s₁) hc fun oQ iy hc=>?_;refine M4 gR F hx aw hi iy.1 fx eU fun a tx Lv fu vs mM qS tM qD he hd ha j5=>?_;refine bL (X2 (hb:=K.hb.h) (fun b o e=>qS.base b o e) he) fun hx Ic Ib Ie=>?_;have aR:=rs oQ hx a ⟨Ic,fun dn=>az j5 fun y g5 h9=>⟨fu,vs,Ib,hd,h9 (gR.ph.trans dn)▸g5⟩⟩ (F.wx tM he hd Ie) tM (qS.wx he hd ha Ib Ie);generalize ex C.inH n h' (b4.set i (some (.exc cC))) ac=YI at aR hc ⊢;refine cB (aR fun q=>hc (by rw[q];rfl)) (fun fl BR hp=>?_) fun e BR AD=>?_
  ·obtain⟨Yv,Yw,Yu,Cm,UX,LA,SS,iv⟩:=hp;refine X0 F (aw.symm▸hi) (UX.unwx Ic) LA fun ZA wD Cx w5 SU=>?_;have tJ:=(aZ.trans mM).trans (Cm.trans w5);have o8:=(a6.trans qD).trans (SS.trans SU)
   cases iv with
   | next=>exact⟨_,_,_,tJ,wD,Cx,o8,.next⟩
   | ret dq=>exact⟨_,_,_,tJ,wD,Cx,o8,.ret (dq.ext w5)⟩
   | brk=>exact absurd rfl hc
   | cont=>exact absurd rfl hc
  ·obtain⟨_,_,_,_,_,_,rfl,_⟩:=AD;exact hc rfl
theorem VQ(h:mF N x=some i):∃k,N[i]?=some (x,k)/\(k=NameKind.local\/k=.cell):=by
 unfold mF at h;refine cF h fun j a8 L=>cF L fun q hq O=>cU O fun hk ax=>?_;clear h L O;have hx:=ID a8 hq;obtain⟨z,k⟩:=q;dsimp only at hx;subst hx;obtain rfl:=oi ax;refine⟨k,hq,?_⟩
 cases k with
 | «local»=>exact .inl rfl
 | cell=>exact .inr rfl
 | _=>contradiction
theorem wJ(aw:env.scope.names=N)(h:mF N x=some i):∃k,env.scope.names[i]?=some (x,k)/\(k=NameKind.local\/k=.cell):=by
 subst aw;exact VQ h
section
open PySem.W
theorem Vv{F:Frag}{b n:Str}{x:Value}{v:H}{Q:Unit->Shared->Prop}(B:kq K F b c)(hn:n∈ll)(r:aq K.hb s.heap σ α)(nN:aj s.heap α (.inst c i) x)(cI:aj s.heap α v u)
  (hs:σ[i]?=some (.ns fs)) (hl:fs.length<100) (a7:∀s',aq K.hb s'.heap (σ.set i (.ns (eK n v fs))) α->a4 [] α s.heap α s'.heap->cA s s'->Q () s'):wpAny (model K.prog K.w) A (setAttr x n u) Q E s:=by
 refine c1 (II nN) fun a D ag bi=>?_;obtain rfl:=ag;refine d4 bi fun b0 ha hi=>?_;refine bL (r.obj i _ D hs hi) fun m wv iD bR=>?_;refine l8 (id wv) fun lL N4 NX p5 uj J=>?_;have X:F.In s.heap:=r.frag B.inn;have I:InstAt s.heap a (instObj c D) c (some lL):=⟨b0,rfl,rfl,p5⟩;refine az (any_some B.hasd) fun cd hc fo=>?_;refine set_plain X I B.seta (osa_open (s:={ s with toks:=s.toks+1 }) X I B.plain (B.free n hn) fun im=>?_);refine aN (bO (aN (aN (wpAny_loadPart b0 (aN (Looks.here (s:={ s with toks:=s.toks+1 }) (looks_clsIn X hc) ?_))))));rw[fo];refine bO (a:=some D) (aN (bO (aN (wpAny_nsSet1 (s:={ s with toks:=s.toks+1 }) wv fun h' oL vP=>?_))))
 have hw:Within m (fs.map (·.1)):=fun y hy=>by
  cases hg:aC y fs with
  | none=>exact absurd (bR y hg) hy
  | some w =>
   refine az (Option.map_eq_some_iff.mp hg) fun e he J=>?_;exact cL.mpr ⟨e,List.mem_of_find?_eq_some he,by simpa using List.find?_some he⟩
 refine l8 (oL.count (Within.cons n u hw)) fun Zs YR YQ H4 P7 P2=>?_;refine aN (wpAny_lookBehind H4 (by rw[P7];exact pastItsLine_dict (aK P2 (by rw[dj,bh,sizeLine_eq];(exact aK (by assumption) (by decide))))) ?_);refine bO ?_
 have key:∀aQ:a4 [] α s.heap α h',et K.hb h' α (.ns (eK n v fs)) D:=fun aQ=>by
  refine⟨_,oL,fun n' dL e=>?_,fun n' e=>?_⟩
  ·rw[xB]at e;by_cases q:n'=n
   ·rw[aE q]at e ⊢;obtain rfl:=oi e;exact⟨u,rfl,cI.ext aQ⟩
   ·rw[a5 q]at e ⊢;refine az (iD n' dL e) fun w jq lT=>?_;exact⟨w,jq,lT.ext aQ⟩
  ·rw[xB]at e;by_cases q:n'=n
   ·rw[aE q]at e;contradiction
   ·rw[a5 q]at e ⊢;exact bR n' e
 refine aW (r.set (m:=.ns (eK n v fs)) hi (fun b o hb e=>(vP.2 b hb).trans e) H4 key) fun aJ aQ=>?_;exact a7 _ aJ aQ ⟨rfl,rfl⟩
theorem Mh{o v:Expr}{n b:Str}{p:Pos}{x z:X}{k:Nat}{ce:Frag}(B:kq K ce b c)(hn:n∈ll)(F:dv K.hb env)(jG:mu v=false)
  (jS:∀{σ s α},a1 env ρ s.heap α->aq K.hb s.heap σ α->av K aj A (eval v env) (ev C z ρ σ) s α)
  (eh:∀{σ s α},a1 env ρ s.heap α->aq K.hb s.heap σ α->av K aj A (eval o env) (ev C x ρ σ) s α) (E:a1 env ρ s.heap α) (r:aq K.hb s.heap σ α) :
  e5 K env A (exec (.Assign [.Attribute o n p] v pos) env) (ex C k (.asgAttr c x n z) ρ σ) s α:=by
 change e5 K env A _ ((ev C z ρ σ).toS ρ fun v σ=>(ev C x ρ σ).toS ρ fun o σ=>tu c o n v ρ σ) s α;intro hc;refine plainObj_wpAny_Assign_Attribute (av.useS E (jS E r) hc fun cI ac bc u s₁ V c9 aZ aY a0 a6=>?_) (wO jG);rw[V]at hc ⊢;have fx:=E.ext aZ .nil;refine cB (av.useS (env:=env) (s:=s₁) (α:=bc) fx (eh fx aY) c9 fun Lk au α₂ Ch bb ak e0 bz r2 bN cP=>?_) (fun J J q=>q) (fun J J q=>iL.lift (hF F E aZ) a6 q);have lf:=fx.ext bz .nil;show wpAny (model K.prog K.w) A (setAttr Ch n u) _ _ bb;simp only[ah.toS,ak]at hc ⊢
 cases Lk with
 | inst cC i =>
  unfold tu at e0 ⊢;dsimp only at e0 ⊢;by_cases lw:cC=c
  ·subst lw;rw[aE rfl]at e0 ⊢
   cases hs:au[i]? with
   | none=>rw[hs]at e0;exact absurd rfl e0
   | some o9 =>
    rw[hs]at e0
    cases o9 with
    | ns fs =>
     dsimp only at e0 ⊢;by_cases hl:fs.length<100
     ·rw[aE hl];exact Vv B hn r2 bN (a0.ext bz) hs hl fun s' aJ aQ bJ=>⟨ρ,_,α₂,hF F E ((aZ.trans bz).trans aQ),aJ,lf.ext aQ .nil,(a6.trans cP).trans bJ,.next⟩
     ·rw[a5 hl]at e0;exact absurd rfl e0
    | _=>exact absurd rfl e0
  ·rw[a5 lw]at e0;exact absurd rfl e0
 | _=>exact absurd rfl e0
end
theorem Mr(F:dv K.hb env)(aw:env.scope.names=N):∀{is:List Nat} {xs:List H} {us:List Value} {ρ ρ':aB} {s:Shared} {Q:Unit->Shared->Prop} {X:Value->Shared->Prop},nE N ts=some is->qW is xs ρ=some ρ'->bj s.heap α xs us->a1 env ρ s.heap α->aq K.hb s.heap σ α ->
  (∀s',aq K.hb s'.heap σ α->a1 env ρ' s'.heap α->a4 (e8 env) α s.heap α s'.heap->cA s s'->Q () s')->wpAny (model K.prog K.w) A (assignInOrder ((assignEach ts env).map (·.2)) us) Q X s:=by
 induction ts with
 | nil =>
  intro is xs us ρ ρ' s Q X L O v E r a7;obtain rfl:=oi L
  cases xs with
  | nil=>obtain rfl:=oi O;exact assignInOrder_nil (a7 s r E .refl (.refl s))
  | cons _ _=>contradiction
 | cons t ts ao =>
  intro is xs us ρ ρ' s Q X L O v E r a7;change bR _ _ _=_ at L;refine gf (M:=fun is=>qW is xs ρ=some ρ'->wpAny (model K.prog K.w) A (assignInOrder ((assignEach (t::ts) env).map (·.2)) us) Q X s) L (fun i l hi hl O=>?_) O;refine cF hi fun q hq hi=>?_;obtain rfl:=nn hq
  cases xs with
  | nil=>contradiction
  | cons p bk =>
   refine c1 v.inv_cons fun u ZH ag bi=>?_;obtain rfl:=ag;refine aW bi fun a0 bN=>?_;refine az (wJ aw hi) fun k kd lx=>?_;refine assignInOrder_cons (wpAny_assign_Name (qZ F r E kd lx a0 fun s₁ aY fx aZ a6=>?_));exact ao hl O (bN.ext aZ) fx aY fun s' aJ dP aQ bJ=>a7 s' aJ dP (aZ.trans aQ) (a6.trans bJ)
theorem TD:∀{is:List Nat},nE N ts=some is->(assignEach ts env).length=is.length/\(assignEach ts env).findIdx? (·.1)=none:=by
 induction ts with
 | nil=>intro is h;obtain rfl:=oi h;exact⟨rfl,rfl⟩
 | cons t ts ao =>
  intro is h;change bR _ _ _=_ at h;refine gf (M:=fun is=>(assignEach (t::ts) env).length=List.length is/\(assignEach (t::ts) env).findIdx? (·.1)=none) h fun i l hi hl=>?_;refine cF hi fun q hq hi=>?_;obtain rfl:=nn hq;refine aW (ao hl) fun L O=>?_;refine⟨congrArg Nat.succ L,?_⟩;show((false,assign (.Name q.1 q.2) env)::assignEach ts env).findIdx? (·.1)=none;rw[List.findIdx?_cons,O];rfl
theorem Kh:∀{is:List Nat} {xs:List H} {ρ ρ':aB},qW is xs ρ=some ρ'->is.length=xs.length
 | [],[],_,_,_=>rfl
 | i::is,x::xs,_,_,h=>congrArg Nat.succ (Kh (is:=is) (xs:=xs) h)
 | [],_::_,_,_,h=>nomatch h
 | _::_,[],_,_,h=>nomatch h
theorem KQ{ck:Nat}{is:List Nat}(aR:A.handled=none)(F:dv K.hb env)(aw:env.scope.names=N)(L:nE N ts=some is):pU K A en env (.Tuple ts ck pp) (gO is):=
 ⟨.inr ⟨_,_,_,rfl⟩,fun s σ α ρ ρ' pv u hb E r v Q X a7=>by
  cases pv with
  | tup xs =>
   obtain⟨t,us,k,rfl,aO,Y7,vs⟩:=v.tupE
   have NK:gO is (.tup xs) ρ=if xs.length<=100 then qW is xs ρ else none:=rfl
   rw[NK]at hb;by_cases hl:xs.length<=100
   ·rw[aE hl]at hb;refine aW (TD (env:=env) L) fun g1 g2=>?_;refine wpAny_assign_Tuple aR ⟨_,aO,rfl,k,rfl⟩ (by rw[g1,Kh hb,vs.1];rfl) g2 fun h' hx=>?_;have lF:∀b o,s.heap.get? b=some o->h'.get? b=some o:=fun b o e=>hx b o (ik (fi e)) e;have bz:a4 [] α s.heap α h':=.keeps lF;exact Mr (s:={ s with heap:=h' }) F aw L hb (vs.ext bz) (E.ext bz .nil) (r.keeps lF) fun s' aJ dP aQ bJ=>a7 s' aJ dP ((hF F E bz).trans aQ) ⟨bJ.gens,bJ.os⟩
   ·rw[a5 hl]at hb;contradiction
  | _=>contradiction⟩
set_option tactic.hygienic true in
theorem Ml{ff:Expr}{ck:Nat}{is:List Nat}{x:X}(c:cn K A T C)(F:dv K.hb env)(aw:env.scope.names=N)(L:nE N ts=some is)(hv:J5 ff=true)
  (ar:av K aj A (eval ff env) (ev C x ρ σ) s α) (E:a1 env ρ s.heap α) :
  e5 K env A (exec (.Assign [.Tuple ts ck pp] ff pos) env) (ex C n (.asgT is x) ρ σ) s α:=by
 have bP:ex C n (.asgT is x) ρ σ=bif C.hd then .stuck else(ev C x ρ σ).toS ρ fun v σ=>match gO is v ρ with
  | some ρ=>.next ρ σ
  | none=>.stuck:=rfl
 rw[bP]
 cases dn:C.hd with
 | true=>exact fun hc=>absurd rfl hc
 | false =>
 rw[cond_false];intro hc;refine Assign_Tuple (av.useS E ar hc fun v ac bc u s₁ V c9 aZ aY a0 a6=>?_) (by cases ff <;> first | rfl | contradiction) (by cases ff <;> first | rfl | contradiction);rw[V]
 cases hb:gO is v ρ with
 | none=>rw[hb]at c9;exact absurd rfl c9
 | some ρ' =>
  refine(KQ (en:=true) (c.hd dn) F aw L).2 s₁ ac bc ρ ρ' v u hb (E.ext aZ .nil) aY a0 _ _ fun s' aJ dP aQ bJ=>?_
  show g9 K env (match gO is v ρ with | some ρ=>.next ρ ac | none=>.stuck) s α .next s'
  exact hb.symm▸(⟨ρ',ac,bc,(hF F E aZ).trans aQ,aJ,dP,a6.trans bJ,.next⟩)
set_option tactic.hygienic true in
theorem Mi{iter:Expr}{z:Str}{kX:Pos}{t:Nat}{oq it:X}{k:NameKind}(c:cn K A T C)(S:cf K A C f)(F:dv K.hb env)(h:rr T N f elt x iter ifs scope ba t oq cond it)
  (hn:env.scope.names[i]?=some (z,k)) (hk:k=.local\/k=.cell)
  (aw:env.scope.names=N) (E:a1 env ρ s.heap α) (r:aq K.hb s.heap σ α) (Q2:swapsWith (.ListComp elt [⟨.Name x h3,iter,ifs,0⟩] scope pos) (some (.Name z kX)) nF.line env=pure true) :
  e5 K env A (exec (.Assign [.Name z kX] (.ListComp elt [⟨.Name x h3,iter,ifs,0⟩] scope pos) nF) env) (ex C n (.asg i (.comp ba t (ip N (dD N scope.names)) oq cond it)) ρ σ) s α:=by
 have bP:ex C n (.asg i (.comp ba t (ip N (dD N scope.names)) oq cond it)) ρ σ=(ev C (.comp ba t (ip N (dD N scope.names)) oq cond it) ρ σ).toS ρ fun v σ=>.next (ρ.set i (some v)) σ:=rfl
 rw[bP];intro hc
 cases dn:C.hd with
 | true=>rw[lp,dn]at hc;exact absurd rfl hc
 | false =>
 rw[Dr dn]at hc ⊢;have co:=h.ok aw;refine aW (wV (en:=false) c dn S h.it aw F.new E r) fun fq hpl=>?_;rw[exec_Assign_Name_used _ _ _ _ Q2];refine aN (wpAny_standAt (aN ?_));show wpAny _ A (do let _ <- comprehension (.ListComp elt [⟨.Name x h3,iter,ifs,0⟩] scope pos) scope env _ (newList []) false (eval iter env) (some (assign (.Name z kX) env))) _ _ s;generalize qk:oe ba (fun v σ=>tst C cond ((dg (ip N (dD N scope.names)) ρ).set t (some v)) σ) (fun v σ=>ev C oq ((dg (ip N (dD N scope.names)) ρ).set t (some v)) σ) (evIt C it ρ σ)=i9 at hc ⊢
 have lw:i9≠.stuck:=by intro q;rw[q]at hc;exact hc rfl
 refine aN (cB (wpAny_comprehension_free (use:=some (assign (.Name z kX) env)) (Q:=fun J s'=>g9 K env (i9.toS ρ fun v σ=>.next (ρ.set i (some v)) σ) s α .next s')
  rfl (Bs hpl) (Dn (uh co E)) co.kind co.names
  (Dt (ba:=ba) (t:=t) (ρ:=ρ) (c5:=fun v σ=>tst C cond ((dg (ip N (dD N scope.names)) ρ).set t (some v)) σ) (eC:=fun v σ=>ev C oq ((dg (ip N (dD N scope.names)) ρ).set t (some v)) σ) (RR:=fun acc jR=>compPost (model K.prog K.w) A _ (some (assign (.Name z kX) env)) _ acc jR)
   co E fq (by rw[qk];exact lw) (fun jR v s' σ' α' n' dP aJ=>?_) (fun jR v s' σ' α' n' dP aJ=>?_) c.fr F.new ⟨_,r⟩ (fun e s' hx=>?_) ?_)) (fun J s' hq=>bO (bO hq)) fun J J e=>e)
 ·rw[ug aw]at dP;exact Dv S h.cond (ui aw E) n' dP aJ
 ·rw[ug aw]at dP;exact((S _ elt oq h.elt).2 _ _ σ' s' α' (ui aw E) n' dP aJ).1
 ·obtain⟨nj,σ',V,d5,eU⟩:=hx;refine⟨nj,ρ,σ',s,α,d5,?_,.refl,E,.refl s,eU⟩;rw[<- qk];show(oe _ _ _ _).toS ρ _=_;rw[V];rfl
 ·rw[qk]
  rintro acc jR bi s' ⟨rfl,v,σ',α',m,e,aQ,aJ,vr,mG,ns,ha,hC,hbC,Pz⟩
  subst e;have dP:=E.ext aQ .nil;show wpAny _ A (assign (.Name z kX) env acc) _ _ _;refine wpAny_assign_Name (qZ F aJ dP hn hk vr fun bb g0 pI iI hI=>?_)
  have hCf:jR∉e8 env:=fun q=>by
   refine aM (mi E F.cl jR q) fun o gV=>?_;rw[hC]at gV;contradiction
  have JQ:bb.heap.Ns jR m:=Bh iI (ay.not_ix ha) hCf ns;refine⟨m,JQ,fun h' dJ=>?_⟩
  obtain⟨By,tI⟩:=g0.but ha hbC (fun b o hb e=>(dJ.2 b hb).trans e) (fun o e=>by
   refine l8 (id JQ) fun aP es ez aF d J=>?_;rw[e]at aF;obtain rfl:=oi aF
   exact gX.notSolid ⟨_,_,d⟩) fun q=>absurd q Pz
  have ap:mQ env [jR]:=⟨fun q=>by simp at q;exact hCf (q▸bu),fun y cC cy q=>by
   simp at q;subst q
   exact hCf (bQ _ (cL.mpr ⟨_,mem_of_lookup cy,rfl⟩))⟩
  exact⟨_,_,_,((hF F E aQ).trans iI).sameBut hC (fun b hb=>dJ.2 b hb),By,pI.ext tI ap,(mG.trans hI).trans ⟨rfl,rfl⟩,.next⟩
theorem Me{q:Expr×List Comprehension×Scope×Pos}(h:C2 e=some q):e=.ListComp q.1 q.2.1 q.2.2.1 q.2.2.2:=qE (o:=Ds e) h
noncomputable def g6(K:a3)(A:Around)(C:bq)(n:Nat)(env:Env)(t:Sem Flow)(b:S):Prop:=
 ∀ρ σ s α,a1 env ρ s.heap α->aq K.hb s.heap σ α->e5 K env A t (ex C n b ρ σ) s α
noncomputable def n3(K:a3)(A:Around)(C:bq)(n:Nat)(env:Env)(g:Stmt->Option S):Prop:=
 ∀st b,g st=some b->g6 K A C n env (exec st env) b
theorem nM{g:Stmt->Option S}(ar:n3 K A C n env g){wM:List Stmt}:∀{b:S},ko g wM=some b->g6 K A C n env (execs wM env) b:=by
 induction wM with
 | nil =>
  intro b h ρ σ s α E r;obtain rfl:=oi h;exact fun J=>wpAny_execs_nil ⟨ρ,σ,α,.refl,r,E,.refl s,.next⟩
 | cons st wM ao =>
  intro b h;change bR _ _ _=_ at h;refine gf h fun a cO ha hb ρ σ s α E r hc=>?_;change nB (fun ρ σ=>ex C n cO ρ σ) (ex C n a ρ σ)≠_ at hc;show wpAny _ A _ (g9 K env (nB (fun ρ σ=>ex C n cO ρ σ) (ex C n a ρ σ)) s α) (iL K A env (nB (fun ρ σ=>ex C n cO ρ σ) (ex C n a ρ σ)) s α) s;have jS:=ar st a ha _ _ _ _ E r;generalize ex C n a ρ σ=c at hc jS ⊢;refine wpAny_execs_cons (cB (jS fun q=>hc (by rw[q];rfl)) (fun fl s₁ hp=>?_) fun e s₁ hx=>?_)
  ·obtain⟨b4,ac,bc,aZ,aY,fx,a6,iv⟩:=hp
   cases iv with
   | next=>exact cB (ao hb _ _ _ _ fx aY hc) (fun J J q=>q.lift aZ a6) fun J J q=>q.lift aZ a6
   | brk=>exact⟨b4,ac,bc,aZ,aY,fx,a6,.brk⟩
   | cont=>exact⟨b4,ac,bc,aZ,aY,fx,a6,.cont⟩
   | ret v=>exact⟨b4,ac,bc,aZ,aY,fx,a6,.ret v⟩
  ·obtain⟨i,ρ',σ',bb,α₂,d5,rfl,q1,q2,q3,q4⟩:=hx;exact⟨i,ρ',σ',bb,α₂,d5,rfl,q1,q2,q3,q4⟩
section
variable {g:Stmt->Option S}
theorem cf.val(ej:cf K A C f)(F:dv K.hb env)(aw:env.scope.names=N){x:X}(h:f N e=some x){ρ σ s α}(E:a1 env ρ s.heap α)(r:aq K.hb s.heap σ α):av K aj A (eval e env) (ev C x ρ σ) s α:=
 ((ej N _ _ h).2 env ρ σ s α aw F.new E r).1
theorem cf.tst(ej:cf K A C f)(F:dv K.hb env)(aw:env.scope.names=N){x:X}(h:f N e=some x){ρ σ s α}(E:a1 env ρ s.heap α)(r:aq K.hb s.heap σ α):av K hh A (isTrue e env (eval e env)) (tst C x ρ σ) s α:=
 ((ej N _ _ h).2 env ρ σ s α aw F.new E r).2
theorem Mj{z:Str}{kX:Pos}{v:Expr}{b:S}(c:cn K A T C)(ej:cf K A C f)(F:dv K.hb env)(aw:env.scope.names=N)(h:wR T N f (f N) (.Name z kX) v=some b):g6 K A C n env (exec (.Assign [.Name z kX] v nF) env) b:=by
 change jl _ _ _=_ at h;refine kj h (fun q PO h=>?_) fun J h=>cU h fun jG h=>gf h fun i y hi hy=>?_
 ·rw[Me PO];refine gf h fun i y hi hy=>?_;refine x3 (K0 hy) fun x h3 iter ifs hg hy=>?_;rw[hg];refine az (wJ aw hi) fun k kd lx=>?_;refine K1 (P:=fun y=>g6 K A C n env _ (.asg i y)) hy fun t e i9 it ag ρ σ s α E r=>?_
  cases hq:(env.blockKind == .function&&env.kindOf z == some .local&&kX.line == q.2.2.2.line&&!(q.2.2.1.names.any fun(n,k)=>n == z&&(k == .local||k == .cell)))with
  | true=>exact Mi c ej F ag kd lx aw E r (congrArg pure hq)
  | false =>
   intro hc;refine wpAny_Assign_Name (av.useS E (Dp c ej ag aw F.new E r) hc fun v ac bc u s₁ V c9 aZ aY a0 a6=>?_) (congrArg pure hq);refine qZ F aY (E.ext aZ .nil) kd lx a0 fun bb r2 lf bz cP=>?_;show g9 K env (ah.toS _ _ _) _ _ _ _;exact V.symm▸(⟨_,_,_,(hF F E aZ).trans bz,r2,lf,a6.trans cP,.next⟩)
 ·refine az (wJ aw hi) fun k kd lx=>?_;exact fun J J J J E r=>Mm F (by simpa using jG) kd lx (ej.val F aw hy E r) E
theorem W1{t:Expr}{kS:List Stmt}{bt:X}{aP:S}(ej:cf K A C f)(F:dv K.hb env)(aw:env.scope.names=N)(L:f N t=some bt)(O:g6 K A C n env (execs dB env) cO)(ax:g6 K A C n env (execs kS env) aP) :
  g6 K A C n env (exec (.If t dB kS pos) env) (.ife bt cO aP):=fun ρ σ s α E r hc=>by
 have bP:ex C n (.ife bt cO aP) ρ σ=(tst C bt ρ σ).toS ρ fun t σ=>if t then ex C n cO ρ σ else ex C n aP ρ σ:=rfl
 rw[bP]at hc ⊢;refine wpAny_If (av.useS E (ej.tst F aw L E r) hc fun t ac bc y s₁ V c9 aZ aY a0 a6=>?_);have:y=t:=a0;subst this;rw[V];have fx:=E.ext aZ .nil
 cases y with
 | true=>exact cB (O _ _ _ _ fx aY c9) (fun J J q=>q.lift (hF F E aZ) a6) fun J J q=>q.lift (hF F E aZ) a6
 | false=>exact cB (ax _ _ _ _ fx aY c9) (fun J J q=>q.lift (hF F E aZ) a6) fun J J q=>q.lift (hF F E aZ) a6
theorem WY{it:Expr}{nj:Nat}{kO:X}(c:cn K A T C)(ej:cf K A C f)(F:dv K.hb env)(aw:env.scope.names=N)(L:mF N x=some nj)(O:pB T N (f N) it=some kO)(ax:g6 K A C n env (execs dB env) cO) :
  g6 K A C n env (exec (.For (.Name x h3) it dB [] pos) env) (.for1 nj kO cO):=fun ρ σ s α E r=>by
 refine az (wJ aw L) fun k kd lx=>?_
 have bP:ex C n (.for1 nj kO cO) ρ σ=bif C.hd then .stuck else(evIt C kO ρ σ).toS ρ fun p σ=>ch p.2 (dm nj) (fun ρ σ=>ex C n cO ρ σ) p.1 ρ σ:=rfl
 rw[bP]
 cases dn:C.hd with
 | true=>exact fun hc=>absurd rfl hc
 | false =>
 obtain⟨q1,q2⟩:=wV c dn ej O aw F.new E r;exact Ha F (WE F kd lx) q2 q1 (ax _ _ _ _) E rfl
theorem WX{ck:Nat}{it:Expr}{is:List Nat}{kO:X}(c:cn K A T C)(ej:cf K A C f)(F:dv K.hb env)(aw:env.scope.names=N)(L:nE N ts=some is)(O:wU T N (f N) it=some kO)(ax:g6 K A C n env (execs dB env) cO) :
  g6 K A C n env (exec (.For (.Tuple ts ck pp) it dB [] pos) env) (.forT is kO cO):=fun ρ σ s α E r=>by
 have bP:ex C n (.forT is kO cO) ρ σ=bif C.hd then .stuck else(evIt C kO ρ σ).toS ρ fun p σ=>ch p.2 (gO is) (fun ρ σ=>ex C n cO ρ σ) p.1 ρ σ:=rfl
 rw[bP]
 cases dn:C.hd with
 | true=>exact fun hc=>absurd rfl hc
 | false =>
 refine az (W2 c dn ej O aw F.new E r) fun en q1 q2=>?_;exact Ha F (KQ (c.hd dn) F aw L) q2 q1 (ax _ _ _ _) E rfl
theorem Xa{e:Option Expr}{b:S}(c:cn K A T C)(aw:env.scope.names=N)(h:B6 T N e=some b):g6 K A C n env (exec (.Raise e none pos) env) b:=by
 unfold B6 at h;refine cF h fun q hq h=>cF h fun z bp h=>fR h fun cC hc=>?_;refine cF hq fun V he hq=>?_;subst he;rw[uc hq];refine c1 (Jb bp) fun k p bp c3=>?_;exact bp.symm▸(fun J J J J E r=>U1 c hc c3 aw E r)
theorem Xi{hs:List ExceptHandler}{b:S}(c:cn K A T C)(F:dv K.hb env)(aw:env.scope.names=N)(ar:n3 K A C n env g)(rs:C.rz=true->∀(hx:Heap) (a:Addr),ru K hx a C->dv (K.wx hx).hb env->n3 (K.wx hx) (A.mark (some (.ref a))) C.inH n env g)(h:Cb T N g dB hs=some b) :
  g6 K A C n env (exec (.Try dB hs [] [] pos) env) b:=by
 unfold Cb at h;refine cF h fun hd h0 h=>?_;rw[s8 h0];obtain⟨t,y,hb,vM⟩:=hd;change Option.bind _ _=_ at h;refine cF h fun q hq h=>cF h fun b6 hy h=>cF h fun cC hc h=>cF h fun i hi h=>cU h fun iy h=>gf h fun b1 L jE Qj=>?_;refine cF hq fun bt aO hq=>?_;subst aO hy;rw[nn hq];simp only[eW,fy,Bool.not_eq_true',List.isEmpty_eq_false_iff]at iy;exact fun J J J J E r=>Xp c F hc aw iy.1 iy.2 (nM ar jE _ _ _ _ E r) fun oQ hx a kW nV {_ _ _ _} dP aJ=>nM (rs oQ hx a kW nV) Qj _ _ _ _ dP aJ
end
theorem WP{t v:Expr}{b:S}(c:cn K A T C)(ej:cf K A C f)(F:dv K.hb env)(aw:env.scope.names=N):wR T N f (f N) t v=some b->g6 K A C n env (exec (.Assign [t] v nF) env) b:=by
 apply @PySem.Expr.casesOn (fun t=>wR T N f (f N) t v=some b->g6 K A C n env (exec (.Assign [t] v nF) env) b) t
 case Name=>exact fun z kX h=>Mj c ej F aw h
 case Subscript=>exact fun o i pp h=>cU h fun jG h=>kT h fun aP nj dL L O ax J J J J E r=>Mk c.hA F (by simpa using jG) (ej.val F aw ax) (ej.val F aw L) (ej.val F aw O) E r
 case Attribute=>exact fun o nm pp h=>cF h fun q hb h=>cU h fun hc h=>gf h fun aP dL L ax=>az (c.brd q.1 q.2 hb) fun ce B J J J J J E r=>Mh B (mY.mp (dk hc).2) F (by simpa using(dk hc).1) (ej.val F aw ax) (ej.val F aw L) E r
 case Tuple=>exact fun ts ck pp h=>cU h fun hc h=>gf h fun is dL L ax J J J J E r=>Ml c F aw L hc (ej.val F aw ax E r) E
 all_goals (intros;exact JJ ‹_›)
theorem Xk{t:Expr}{bt:X}(ej:cf K A C f)(F:dv K.hb env)(aw:env.scope.names=N)(L:f N t=some bt)(ax:g6 K A C n env (execs dB env) cO):g6 K A C n env (exec (.While t dB [] pos) env) (.whl bt cO):=by
 intro ρ σ s α E r;change e5 K env A _ (bif C.hd then .stuck else iH (fun ρ σ=>tst C bt ρ σ) (fun ρ σ=>ex C n cO ρ σ) n ρ σ) s α
 cases C.hd with
 | true=>exact fun hc=>absurd rfl hc
 | false=>exact XU F (fun dP aJ=>ej.tst F aw L dP aJ) (ax _ _ _ _) E r
theorem Xd{g:Stmt->Option S}(c:cn K A T C)(ej:cf K A C f)(F:dv K.hb env)(aw:env.scope.names=N)(ar:n3 K A C n env g)
  (rs:C.rz=true->∀(hx:Heap) (a:Addr),ru K hx a C->dv (K.wx hx).hb env->n3 (K.wx hx) (A.mark (some (.ref a))) C.inH n env g)
  : n3 K A C n env (B9 T N f (f N) g):=by
 intro st b;apply @PySem.Stmt.casesOn (fun st=>B9 T N f (f N) g st=some b->g6 K A C n env (exec st env) b) st
 case Assign=>exact fun ts v nF h=>cF h fun t h0 h=>(s8 h0).symm▸WP c ej F aw h
 case Expr=>exact fun e pos h=>cU h fun jG h=>fR h fun y hq J J J J E r=>Ou F (by simpa using jG) (ej.val F aw hq E r) E
 case Return =>
  intro v pos h
  cases v with
  | some e=>exact fR h fun y hq J J J J E r=>U9 F (ej.val F aw hq E r) E
  | none=>exact oi h▸fun ρ σ s α E r J=>wpAny_Return_none ⟨ρ,σ,α,.refl,r,E,.refl s,.ret .none⟩
 case If=>exact fun t dB kS pos h=>kT h fun bt cO aP L O ax=>W1 ej F aw L (nM ar O) (nM ar ax)
 case For=>exact fun t it dB o pos h=>cU h fun ho h=>(hz.mp ho).symm▸kj h (fun q hq h=>kT h fun nj kO cO L O ax=>(nn hq).symm▸WY c ej F aw L O (nM ar ax)) fun J h=>cF h fun ts aO h=>kT h fun is kO cO L O ax=>(qE (o:=La t) aO).symm▸WX c ej F aw L O (nM ar ax)
 case While=>exact fun t dB o pos h=>cU h fun ho h=>(hz.mp ho).symm▸gf h fun bt cO L ax=>Xk ej F aw L (nM ar ax)
 case Break=>exact fun pos h=>oi h▸fun ρ σ s α E r J=>wpAny_Break ⟨ρ,σ,α,.refl,r,E,.refl s,.brk⟩
 case Raise=>exact fun V ak pos h=>cU h fun he h=>(n7.mp he).symm▸Xa c aw h
 case Try =>
  intro rL hs o G4 pos h;refine cU h fun iy h=>?_;refine aW (dk iy) fun L O=>?_;rw[hz.mp L,hz.mp O];exact Xi c F aw ar rs h
 all_goals (intros;exact JJ ‹_›)
theorem Xe{Good:a3->Around->bq->Prop}(aw:env.scope.names=N)
  (G:∀K A C,Good K A C->cn K A T C/\cf K A C f/\(C.rz=true->∀(hx:Heap) (a:Addr),ru K hx a C->Good (K.wx hx) (A.mark (some (.ref a))) C.inH)):∀m {K:a3} {A:Around} {C:bq},dv K.hb env->Good K A C->n3 K A C n env (tD T N f m):=by
 intro m
 induction m with
 | zero =>
  intro _ _ _ _ _
  exact fun st b h=>by contradiction
 | succ m ao =>
  intro K A C F g;exact Xd (G K A C g).1 (G K A C g).2.1 F aw (ao F g) fun oQ hx a kW nV=>ao nV ((G K A C g).2.2 oQ hx a kW)
structure f7(d:Nat)(A:Around):Prop where
 depth:A.depth+2*d+200<recursionLimit
 units:A.units+20*d+200<cLine
theorem f7.ok(h:f7 d A):eF A:=⟨by have:=h.depth;(grind),by have:=h.units;(grind)⟩
theorem f7.deeper(h:f7 (d+1) A):f7 d (A.deeper env):=by
 refine⟨?_,?_⟩
 ·have:=h.depth;show A.depth+1+2*d+200<recursionLimit
  (grind)
 ·have:=h.units;show A.units+3+20*d+200<cLine
  (grind)
theorem f7.mark{e:Option Value}(h:f7 d A):f7 d (A.mark e):=⟨h.depth,h.units⟩
theorem aj.refr{p:H}{v:Value}(r:aj h α p v):aj h ⟨α.ix,α.hid,fr⟩ p v:=aj.re (α:=α) (α':=⟨α.ix,α.hid,fr⟩) (fun J J e=>e) (fun J h=>h) r
noncomputable def a3.wf(K:a3)(fr:List Addr):a3:={ K with hb:=⟨K.hb.h,fr,K.hb.prog,K.hb.w⟩ }
theorem fE.push(h:fE (K.wf fr) A)(bf:env.frame=some aG)(hk:env.scope.kind=.function):fE (K.wf (aG::fr)) (A.deeper env):=by
 refine bL h.ex fun l L O ax=>?_;refine⟨env::l,?_,?_,fun e he=>?_⟩
 ·show A.frames.map (env::·)=_;rw[L];rfl
 ·show(env::l).map (·.frame)=(aG::fr).map some;rw[dw,dw,bf,O];rfl
 ·rcases cE.mp he with q | q
  ·rw[q,hk];decide
  ·exact ax e q
theorem fE.mark{e:Option Value}(h:fE K A):fE K (A.mark e):=⟨h.ex⟩
theorem et.wf{mh:List Addr}(o:et (K.wf fr).hb h α m a):et (K.wf mh).hb h α m a:=by
 cases m <;> exact o
theorem aq.pushFr(r:aq (K.wf fr).hb h σ α)(fO:K.hb.get? aG=none)(e:h.get? aG=some o)(d:gX o)(PE:aG∉α.ix):aq (K.wf (aG::fr)).hb h σ ⟨α.ix,α.hid,aG::fr⟩:=
 ⟨r.base,r.fresh,r.nodup,r.len,r.hidden,fun j m a V ak=>((r.obj j m a V ak).wf (mh:=aG::fr)).re (α:=α) (α':=⟨α.ix,α.hid,aG::fr⟩) (fun J J e=>e) (fun J h=>h),r.hfr,rfl,fun a ha=>by
  rcases cE.mp ha with q | q
  ·subst q;exact⟨fO,o,e,d⟩
  ·exact r.frs a q,fun a ha=>by
  rcases cE.mp ha with q | q
  ·subst q;exact PE
  ·exact r.frNot a q⟩
theorem aq.popFr(r:aq (K.wf (aG::fr)).hb h σ α):aq (K.wf fr).hb h σ ⟨α.ix,α.hid,fr⟩:=
 ⟨r.base,r.fresh,r.nodup,r.len,r.hidden,fun j m a V ak=>((r.obj j m a V ak).wf (mh:=fr)).re (α:=α) (α':=⟨α.ix,α.hid,fr⟩) (fun J J e=>e) (fun J h=>h),r.hfr,rfl,fun a ha=>r.frs a (bQ _ ha),fun a ha=>r.frNot a (bQ _ ha)⟩
theorem a4.ofCall{α₂:ay}{cY h₂:Heap}(hfr:α.fr=fr)(k:∀b o,h.get? b=some o->cY.get? b=some o)(hown:∀b∈own,h.get? b=none)(fO:h.get? aG=none)
  (y:a4 own ⟨α.ix,α.hid,aG::fr⟩ cY α₂ h₂):a4 [] α h ⟨α₂.ix,α₂.hid,fr⟩ h₂:=by
 have no:∀b o,h.get? b=some o->b∉own:=fun b o e q=>by rw[hown b q]at e;contradiction
 refine az y.pre fun β q1 q2=>?_;refine⟨y.hid,⟨β,q1,fun x hx=>⟨?_,(ew)⟩⟩,fun b o hb e hs=>y.seqs b o hb (k b o e) hs,fun b o hb J e=>?_,fun b o J e=>y.alive b o (no b o e) (k b o e),hfr.symm⟩
 ·cases e:h.get? x with
  | none=>rfl
  | some o=>have:=k x o e;rw[(q2 x hx).1]at this;contradiction
 ·rcases y.rest b o hb (no b o e) (k b o e)with q | ⟨f,d,cQ,q⟩
  ·exact .inl q
  ·refine .inr ⟨?_,d,cQ,q⟩
   rcases cE.mp f with z | z
   ·rw[z,fO]at e;contradiction
   ·exact hfr.symm▸z
theorem gG.leave{bb:Shared}{e:Value}{Q:Unit->Shared->Prop}(hA:fE (K.wf (aG::fr)) A)(bU:dv (K.wf (aG::fr)).hb env)
  (hfr:α.fr=fr) (k:∀b o,s.heap.get? b=some o->s₁.heap.get? b=some o) (hown:∀b∈e8 env,s.heap.get? b=none) (hl:env.locals=aG) (mD:∃σ,aq (K.wf fr).hb s.heap σ α) (m:cA s s₀)
  (y:a4 (e8 env) ⟨α.ix,α.hid,aG::fr⟩ s₁.heap js s₀.heap) (tN:a1 env ρ s₀.heap js) (f:gG (K.wf (aG::fr)) s₀ js i σ d5 e bb)
  (a7:∀s',gG (K.wf fr) s α i σ true e s'->Q () s'):wpAny (model K.prog K.w) A (leaving env e) Q E bb:=by
 obtain⟨a,h₀,α',rfl,aQ,aJ,u,b0,bJ⟩:=f;subst hl;have fO:s.heap.get? env.locals=none:=hown _ bu
 have PD:env.locals∉fr:=fun q=>by
  refine aM mD fun σ' UW=>?_;obtain⟨_,o,e,_⟩:=UW.frs _ q;rw[fO]at e;contradiction
 have Qs:=(tN.ext aQ .nil).la;have keep:∀b,b≠env.locals->(PySem.W.hideAll h₀ [env.locals]).get? b=h₀.get? b:=fun b hb=>Ql hb
 have JL:∀b,h₀.get? b=none->(PySem.W.hideAll h₀ [env.locals]).get? b=none:=fun b hb=>by
  cases q:(PySem.W.hideAll h₀ [env.locals]).get? b with
  | none=>rfl
  | some o=>rw[PySem.W.of_hideAll _ q]at hb;contradiction
 have aY:=aJ.popFr
 obtain⟨r2,_⟩:=aY.but (h':=PySem.W.hideAll h₀ [env.locals]) (I:=env.locals) Qs bU.new.l (fun b o hb e=>(keep b hb).trans e) (fun o e=>by
  obtain⟨_,aP,aF,d⟩:=aJ.frs env.locals bu
  rw[e]at aF;obtain rfl:=oi aF;exact d.notSolid) fun q=>absurd q PD
 have aZ:a4 [] α s.heap ⟨α'.ix,α'.hid,fr⟩ h₀:=a4.ofCall hfr k hown fO (y.trans (aQ.mono ((fun J q=>absurd q ew)) (mi tN bU.cl)));have bz:=aZ.sameBut fO keep;refine Si (K:=K.wf (env.locals::fr)) hA bU.new aJ u b0 fun hX Cg NI=>a7 _ ⟨a,_,_,rfl,bz,r2,fun b o hb=>?_,?_,⟨(m.trans bJ).gens,(m.trans bJ).os⟩⟩
 ·have PV:b≠env.locals:=fun q=>by rw[q,PySem.W.hideAll_none _ ((bu))]at hb;contradiction
  rcases Cg b o (PySem.W.of_hideAll _ hb)with q | ⟨f,cQ,q⟩
  ·exact .inl q
  ·rcases cE.mp f with z | z
   ·exact absurd z PV
   ·exact .inr ⟨z,cQ,q⟩
 ·obtain⟨new,fu,vs,nR,he,hc,hd,L,aO,j5⟩:=NI;refine⟨JL a new,fu,vs,nR,he,hc,hd,L,?_,j5⟩
  rcases aO with⟨q,nw⟩ | ⟨T,nu,ts,q,oF,dM,ef,pC,rk,Yd⟩
  ·exact .inl q nw
  ·exact .inr T nu ts q (JL T oF) dM ef pC rk Yd
theorem ue:∀{names:List (Str×NameKind)} {n:Nat} {acc:List (Str×Addr)} {x:Str},(x,NameKind.cell)∈names->∃c,(x,c)∈cellsFrom n names acc
 | (y,k)::r,n,acc,x,h=>by
  have keep:∀{r:List (Str×NameKind)} {n:Nat} {acc:List (Str×Addr)} {p:Str×Addr},p∈acc->p∈cellsFrom n r acc:=by
   intro r
   induction r with
   | nil=>intro n acc p hp;exact hp
   | cons q r ao =>
    intro n acc p hp;obtain⟨y,k⟩:=q;unfold cellsFrom
    split
    ·exact ao (bQ _ hp)
    ·exact ao hp
  unfold cellsFrom
  rcases cE.mp h with e | h
  ·cases e;rw[aE (by rfl)];exact⟨n,keep bu⟩
  ·split
   ·exact ue h
   ·exact ue h
theorem M7:∀{names:List (Str×NameKind)} {n:Nat} {acc:List (Str×Addr)},mX names->(acc.map (·.1)).Nodup->(∀p∈acc,∀k,(p.1,k)∉names)->((cellsFrom n names acc).map (·.1)).Nodup:=by
 intro r
 induction r with
 | nil =>
  intro _ _ _ h _;exact h
 | cons bP r ao =>
  obtain⟨y,k⟩:=bP;intro n acc jD h hd
  have HJ:mX r:=fun i j x k bW L O=>by have:=jD (i+1) (j+1) x k bW (by simpa using L) (by simpa using O);(exact Nat.succ.inj (by assumption))
  have hy:∀bW,(y,bW)∉r:=fun bW hm=>by
   refine aM (List.mem_iff_getElem?.mp hm) fun i hi=>?_;have:=jD 0 (i+1) y k bW (by rfl) (by simpa using hi)
   (grind)
  unfold cellsFrom
  split
  ·refine ao HJ ?_ fun p hp bW hm=>?_
   ·simp only[dw,hS];refine⟨fun q=>?_,h⟩;refine az (cL.mp q) fun p hp ag=>?_;obtain rfl:=ag;exact hd p hp k bu
   ·rcases cE.mp hp with e | hp
    ·subst e;exact hy bW hm
    ·exact hd p hp bW (bQ _ hm)
  ·exact ao HJ h fun p hp bW hm=>hd p hp bW (bQ _ hm)
theorem SK:∀{l:List (Str×Addr)},(l.map (·.1)).Nodup->∀p∈l,l.lookup p.1=some p.2:=by
 intro r
 induction r with
 | nil =>
  intro _ p hp
  (exact nomatch hp)
 | cons bP r ao =>
  obtain⟨k,v⟩:=bP;intro h p hp;simp only[dw,hS]at h;rw[List.lookup_cons]
  rcases cE.mp hp with e | hp
  ·subst e;simp
  ·have:(p.1 == k)=false:=by
    cases hb:p.1 == k with
    | false=>rfl
    | true =>
     have:p.1=k:=by simpa using hb
     exact absurd (cL.mpr ⟨p,hp,this⟩) h.1
   exact this.symm▸(ao h.2 p hp)
theorem Df{ji:Str->Option NameKind}:∀{bk:List Str} {vals:List Value} {m:Str->Option Value} {y:Str},y∉bk->bindL ji (bk.zip vals) m y=m y
 | [],vals,m,y,h=>by simp[bindL]
 | p::bk,[],m,y,h=>by simp[bindL]
 | p::bk,v::vals,m,y,h=>by
  simp only[cE,not_or]at h;simp only[List.zip_cons_cons,bindL];rw[Df h.2]
  split
  ·simp[h.1]
  ·rfl
theorem Dd{ji:Str->Option NameKind}:∀{bk:List Str} {vals:List Value} {m:Str->Option Value} {y:Str},y∉bk->bindC ji (bk.zip vals) m y=m y
 | [],vals,m,y,h=>by simp[bindC]
 | p::bk,[],m,y,h=>by simp[bindC]
 | p::bk,v::vals,m,y,h=>by
  simp only[cE,not_or]at h;simp only[List.zip_cons_cons,bindC];rw[Dd h.2]
  split
  ·rfl
  ·simp[h.1]
theorem De{ji:Str->Option NameKind}:∀{bk:List Str} {vals:List Value} {m:Str->Option Value} {i:Nat} {y:Str} {v:Value},bk.Nodup->bk[i]?=some y->vals[i]?=some v->ji y=some .local->bindL ji (bk.zip vals) m y=some v
 | [],vals,m,i,y,v,_,h,_,_=>(nomatch h)
 | p::bk,[],m,i,y,v,_,_,h,_=>(nomatch h)
 | p::bk,w::vals,m,i,y,v,hn,L,O,hk=>by
  rw[hS]at hn;simp only[List.zip_cons_cons,bindL]
  cases i with
  | zero =>
   simp at L O;subst L O;rw[Df hn.1,aE hk];simp
  | succ i=>exact De hn.2 (by simpa using L) (by simpa using O) hk
theorem Dc{ji:Str->Option NameKind}:∀{bk:List Str} {vals:List Value} {m:Str->Option Value} {i:Nat} {y:Str} {v:Value},bk.Nodup->bk[i]?=some y->vals[i]?=some v->ji y=some .cell->bindC ji (bk.zip vals) m y=some v
 | [],vals,m,i,y,v,_,h,_,_=>(nomatch h)
 | p::bk,[],m,i,y,v,_,_,h,_=>(nomatch h)
 | p::bk,w::vals,m,i,y,v,hn,L,O,hk=>by
  rw[hS]at hn;simp only[List.zip_cons_cons,bindC]
  cases i with
  | zero =>
   simp at L O;subst L O;rw[Dd hn.1,a5 (by rw[hk];decide)];simp
  | succ i=>exact Dc hn.2 (by simpa using L) (by simpa using O) hk
structure ku(K:a3)(T:bl)(fn:bI)(a:Addr)(o:Obj)(fd:FuncData)(body:List Stmt)(bk:List Str)(n1 n2:Nat):Prop where
 ho:K.hb.get? a=some o
 hd:o.data=.func fd
 code:K.hb.h.CodeRec fd.code fd.qualname
 hbody:fd.body=.stmts body
 glob:fd.globals=mainGlobals
 bins:fd.builtins=builtinsNs
 clo:fd.closure=[]
 kind:fd.scope.kind=.function
 co:fd.scope.isCoroutine=false
 gen:fd.scope.isGenerator=false
 sc:ps fd.scope.names=true
 tr:ko (tD T fd.scope.names (rf T n1) n2) body=some fn.body
 params:fn.params=bk.length
 slots:fn.slots=fd.scope.names.length
 pk:∀(i:Nat) (p:Str),bk[i]?=some p->∃k,fd.scope.names[i]?=some (p,k)/\(k=NameKind.local\/k=.cell)
 bind:∀vals:List Value,vals.length=bk.length->bindArgs fd ⟨vals,[]⟩=pure (bk.zip vals)
theorem ku.nodup{K T fn a o fd body bk n1 n2}(f:ku K T fn a o fd body bk n1 n2):bk.Nodup:=by
 rw[List.Nodup,List.pairwise_iff_getElem];intro i j hi a8 HV e;obtain⟨k,L,_⟩:=f.pk i bk[i] (by simp[hi]);obtain⟨bW,O,_⟩:=f.pk j bk[j] (by simp[a8]);rw[e]at L;have:=(tq f.sc).uniq i j _ _ _ L O
 (grind)
theorem MW{fd:FuncData}(f:ku K T fn a o fd body bk n1 n2){vs:List H}
  (hl:vs.length=bk.length) (r:aq (K.wf fr).hb s.heap σ α) (v:bj s.heap α vs us)
  (I:InCallC s (callEnvC fd s.heap.objs.size a).locals (bindL (callEnvC fd s.heap.objs.size a).kindOf (bk.zip us) fun J=>none) (callEnvC fd s.heap.objs.size a).cells (bindC (callEnvC fd s.heap.objs.size a).kindOf (bk.zip us) fun J=>none) s₁) :
  a1 (callEnvC fd s.heap.objs.size a) (vs.map some++List.replicate (fn.slots-fn.params) none) s₁.heap ⟨α.ix,α.hid,s.heap.objs.size::fr⟩/\dv (K.wf (s.heap.objs.size::fr)).hb (callEnvC fd s.heap.objs.size a)/\aq (K.wf (s.heap.objs.size::fr)).hb s₁.heap σ ⟨α.ix,α.hid,s.heap.objs.size::fr⟩/\cA s s₁/\(∀b o,s.heap.get? b=some o->s₁.heap.get? b=some o)/\∀b∈e8 (callEnvC fd s.heap.objs.size a),s.heap.get? b=none:=by
 have sc:=tq f.sc;have keep:=I.toInCall.keep;have fA:(callEnvC fd s.heap.objs.size a).scope=fd.scope:=rfl;have YW:(callEnvC fd s.heap.objs.size a).cells=cellsFrom (s.heap.objs.size+1) fd.scope.names []:=rfl;have Y3:(callEnvC fd s.heap.objs.size a).locals=s.heap.objs.size:=rfl
 have fresh:∀b,s.heap.objs.size<=b->s.heap.get? b=none:=fun b hb=>by
  cases e:s.heap.get? b with
  | none=>rfl
  | some aP=>exact absurd (fi e) (Nat.not_lt.mpr hb)
 have notAll:∀b,s.heap.get? b=none->b∉α.all:=fun b hb q=>by refine aM (r.liveAll q) fun o e=>?_;rw[hb]at e;contradiction
 have base:∀b,s.heap.get? b=none->K.hb.get? b=none:=fun b hb=>by
  cases e:K.hb.get? b with
  | none=>rfl
  | some o=>rw[r.base b o e]at hb;contradiction
 have xN:∀n c,(n,c)∈(callEnvC fd s.heap.objs.size a).cells->s.heap.get? c=none:=fun n c h=>fresh c (Nat.le_of_lt (I.above n c h));have ji:∀(i:Nat) (y:Str) (k:NameKind),fd.scope.names[i]?=some (y,k)->(callEnvC fd s.heap.objs.size a).kindOf y=some k:=fun i y k h=>s1 sc.uniq h;have oN:=M7 (n:=s.heap.objs.size+1) (acc:=[]) sc.uniq (by trivial) ((fun J q=>absurd q ew));have cl:∀p∈(callEnvC fd s.heap.objs.size a).cells,(callEnvC fd s.heap.objs.size a).cells.lookup p.1=some p.2:=SK oN;have Ls:a4 [] α s.heap α s₁.heap:=.keeps keep
 have Ay:∀(i:Nat) (w:H),(vs.map some++List.replicate (fn.slots-fn.params) (none:Option H))[i]?=some (some w)->vs[i]?=some w:=fun i w e=>by
  by_cases hi:i<vs.length
  ·rw[iN (by simpa using hi)]at e;simpa using e
  ·rw[hP (by simpa using hi)]at e;rw[List.getElem?_replicate]at e
   split at e <;> cases e
 have arg:∀(i:Nat) (w:H),vs[i]?=some w->∃p k u,bk[i]?=some p/\fd.scope.names[i]?=some (p,k)/\(k=.local\/k=.cell)/\us[i]?=some u/\aj s.heap α w u:=fun i w e=>by
  have hi:i<vs.length:=(dS e).1;have hp:i<bk.length:=(Nat.lt_of_lt_of_eq (by assumption) (by assumption));obtain⟨k,L,O⟩:=f.pk i bk[i] (by simp[hp])
  have hu:i<us.length:=by exact v.1▸hi
  exact⟨bk[i],k,us[i],by simp[hp],L,O,by simp[hu],v.2 i w us[i] e (by simp[hu])⟩
 refine⟨⟨⟨f.kind,f.glob,f.bins,ji,sc.nodbg⟩,notAll _ (fresh _ (dz _)),⟨_,I.toInCall.ns,fun i y w V ak=>?_⟩,fun y c hc=>?_,fun y z c L O=>?_,fun i y V=>?_,fun i w e=>?_⟩,
  ⟨sc,⟨base _ (fresh _ (dz _)),fun y c hc=>base _ (xN y c (mem_of_lookup hc)),⟨_,_,rfl,rfl⟩⟩,cl,?_⟩,?_,?_,keep,fun b hb=>?_⟩
 ·refine rW (arg i w (Ay i w ak)) fun p k u q1 q2 q3 q4 q5=>?_;rw[fA]at V;rw[q2]at V;cases V;exact⟨u,De f.nodup q1 q4 (ji i _ _ q2),(q5.ext Ls).refr⟩
 ·have hm:=mem_of_lookup hc;exact⟨notAll _ (xN y c hm),dc (I.above y c hm),_,I.cell y c hc⟩
 ·exact name_of_addr I.apart (mem_of_lookup L) (mem_of_lookup O)
 ·rw[fA]at V;refine aM (ue (n:=s.heap.objs.size+1) (acc:=[]) (eI V)) fun c hc=>?_;have cy:=cl (y,c) hc;refine⟨c,cy,fun w ak=>?_⟩;refine rW (arg i w (Ay i w ak)) fun p k u q1 q2 q3 q4 q5=>?_;rw[q2]at V;cases V;refine⟨u,?_,(q5.ext Ls).refr⟩;have:=I.cell _ c cy;rw[Dc f.nodup q1 q4 (ji i _ _ q2)]at this;exact this
 ·refine rW (arg i w (Ay i w e)) fun p k u q1 q2 q3 q4 q5=>?_;exact⟨p,k,q2,q3⟩
 ·show(fd.scope.kind == .module&&_)=false;rw[f.kind];rfl
 ·refine l8 I.toInCall.ns fun aP es ez aF d J=>?_;exact(r.keeps keep).pushFr (base _ (fresh _ (dz _))) aF ⟨es,ez,d⟩ (ay.not_ix (notAll _ (fresh _ (dz _))))
 ·refine jb I.toInCall.same fun h' tk ag=>?_;obtain rfl:=ag;exact⟨rfl,rfl⟩
 ·rcases cE.mp hb with q | q
  ·exact q.symm▸(fresh _ (dz _))
  ·refine az (cL.mp q) fun p hp ag=>?_;obtain rfl:=ag;exact xN p.1 p.2 hp
inductive pK(K:a3)(T:bl)(P:gI)(f:Nat)(aG:Addr->Prop):Prop
 | mk (fn:bI) (a:Addr) (o:Obj) (fd:FuncData) (body:List Stmt) (bk:List Str) (n1 n2:Nat) (bf:P.fns[f]?=some fn) (hl:aG a) (F:ku K T fn a o fd body bk n1 n2):pK K T P f aG
structure PrgOk(K:a3)(T:bl)(P:gI):Prop where
 hK:K.Ok
 cst:∀x v,T.cst.lookup x=some v->∃u,K.mg x=some u/\∀fr h σ α,aq (K.wf fr).hb h σ α->aj h α v u
 bin:∀x,x∈T.bins->K.mg x=none/\∃v,lm x=some v/\K.mb x=some v
 exc:∃F:PySem.W.Frag,F.In K.hb.h/\∀p∈T.excs,pH K p.1 p.2.1 p.2.2/\ov F T p.2.1=true
 fns:∀(f:Nat) (x:Str),T.fns[f]?=some x->pK K T P f fun a=>K.mg x=some (.ref a)
 brd:∀b c,T.brd=some (b,c)->∃F:PySem.W.Frag,kq K F b c/\∀(j:Nat) (n:Str),T.meths[j]?=some n->pK K T P (T.fns.length+j) fun a=>PySem.W.findIn F (.ref c) n=some (some (.ref a))/\PySem.W.typeIn F (.ref a)=some (.type "function")
theorem pK.wx{P:gI}{f:Nat}{aG:Addr->Prop}(k:∀b o,K.hb.h.get? b=some o->h'.get? b=some o)(q:pK K T P f aG):pK (K.wx h') T P f aG:=by
 obtain⟨fn,a,o,fd,body,bk,n1,n2,bf,hl,F⟩:=q;exact⟨fn,a,o,fd,body,bk,n1,n2,bf,hl,⟨k _ _ F.ho,F.hd,F.code.keeps k,F.hbody,F.glob,F.bins,F.clo,F.kind,F.co,F.gen,F.sc,F.tr,F.params,F.slots,F.pk,F.bind⟩⟩
theorem PrgOk.wx{P:gI}(k:∀b o,K.hb.h.get? b=some o->h'.get? b=some o)(p:PrgOk K T P):PrgOk (K.wx h') T P:=by
 refine⟨⟨p.hK.g.keeps k,p.hK.b.keeps k,p.hK.nolimit.keeps k,let⟨o,e⟩:=p.hK.mods;⟨o,k _ _ e⟩⟩,
  fun x v h=>let⟨u,L,O⟩:=p.cst x v h;⟨u,L,fun fr h σ α r=>O fr h σ α (aq.unwx (K:=K.wf fr) k r)⟩,p.bin,?_,fun f x hx=>(p.fns f x hx).wx k
  ,fun b c hb=>?_
  ⟩
 ·refine az p.exc fun ce X ar=>?_;refine⟨ce,fun a o e=>k a o (X a o e),fun q hq=>⟨⟨(ar q hq).1.mg,?_,(ar q hq).1.tail.keeps k⟩,(ar q hq).2⟩⟩;obtain⟨nm,wC,tT,bs,hdct,sn,sub,ab,col,dd,k0,k1,k2,k3,k5,hC,mN,z9,sD⟩:=(ar q hq).1.ob;exact⟨nm,wC,tT,bs,hdct,sn,sub,ab,col,dd,k0,k1,k2,k3,k5,k _ _ hC,mN,z9.keeps k,sD⟩
 ·refine az (p.brd b c hb) fun ce B ar=>?_
  exact⟨ce,⟨B.mg,fun a o e=>k a o (B.inn a o e),B.keep,B.makes,B.plain,B.hasd,B.seta,B.free
   ,B.geta,B.getr,B.none
   ⟩,fun j n a8=>(ar j n a8).wx k⟩
structure iK(K:a3)(A:Around)(m:Nat):Prop where
 hd:m=0->A.handled=none
 ph:K.ph=(m != 0)
 rz:m=1->xf K A
theorem iK.ctx{m N:Nat}{P:gI}(h:iK K A m):((fK P N m d).hd=false->A.handled=none)/\K.ph=(fK P N m d).hd/\((fK P N m d).rz=true->(fK P N m d).hd=true->xf K A):=
 ⟨fun q=>h.hd (by simpa[bq.hd,fK]using q),h.ph,fun q1 q2=>h.rz (by
  have dM:m<=1:=Nat.le_of_ble_eq_true q1
  have ef:m≠0:=by simpa[bq.hd,fK]using q2
  omega)⟩
theorem iK.mark{m N:Nat}{P:gI}{hx:Heap}(kW:ru K hx a (fK P N m d)):iK (K.wx hx) (A.mark (some (.ref a))) (m+1):=
 ⟨fun q=>by contradiction,by show true=_;(rfl),fun q=>by
  obtain⟨o,vs,L,O,ax⟩:=kW.2 (by show(m != 0)=false;rw[Nat.succ.inj q];rfl)
  exact⟨a,o,vs,rfl,L,O,ax⟩⟩
theorem pH.wf{up fr:List Nat}(e:pH K x c up):pH (K.wf fr) x c up:=⟨e.mg,e.ob,e.tail⟩
theorem MT{P:gI}{N m f:Nat}{vs:List H}(bf:P.fns[f]?=some fn):hE P N m (d+1) f vs σ=if vs.length=fn.params then(match ex (fK P N m d) N fn.body (vs.map some++List.replicate (fn.slots-fn.params) none) σ with
  | .next _ σ=>.ok .none σ
  | .ret v _ σ=>.ok v σ
  | .exc i _ σ=>.exc i σ
  | _=>.stuck)else .stuck:=by
 show(match P.fns[f]? with
  | some fn=>if vs.length=fn.params then(match ex (fK P N m d) N fn.body (vs.map some++List.replicate (fn.slots-fn.params) none) σ with
   | .next _ σ=>ah.ok H.none σ
   | .ret v _ σ=>.ok v σ
   | .exc i _ σ=>.exc i σ
   | _=>.stuck)else .stuck
  | none=>.stuck)=_
 rw[bf]
theorem Dl{P:gI}(p:PrgOk K T P){N:Nat}{hd:Nat}(QR:A.depth<recursionLimit)(hA:∀env,f7 d (A.deeper env))(aR:iK K A hd)(bU:fE (K.wf fr) A)
  (oc:∀{K:a3} (p:PrgOk K T P) (m:Nat) (A:Around) (fr:List Addr),f7 d A->iK K A m->fE (K.wf fr) A->cn (K.wf fr) A T (fK P N m d))
  {f:Nat} {fn:bI} {a:Addr} {o:Obj} {fd:FuncData} {body:List Stmt} {bk:List Str} {n1 n2:Nat} (bf:P.fns[f]?=some fn) (F:ku K T fn a o fd body bk n1 n2)
  {vs:List H} {us:List Value} {s:Shared} {σ:af} {α:ay} (r:aq (K.wf fr).hb s.heap σ α) (v:bj s.heap α vs us) (hc:hE P N hd (d+1) f vs σ≠.stuck)
  {pS:Result->Shared->Prop} (c3:∀v s',cz (K.wf fr) aj (hE P N hd (d+1) f vs σ) s α v s'->pS (.ok (.ret v)) s') (vI:∀e s',dh (K.wf fr) A (hE P N hd (d+1) f vs σ) s α e s'->pS (.error e) s') :
  codeAny (model K.prog K.w) A (.call (.ref a) ⟨us,[]⟩) pS s:=by
 rw[MT bf]at hc c3 vI;by_cases hl:vs.length=fn.params
 ·rw[aE hl]at hc c3 vI;rw[F.params]at hl;have sc:=tq F.sc;refine codeAny_call_cells QR (r.base _ _ F.ho) F.hd (p.hK.nolimit.keeps r.base) (F.code.keeps r.base) F.hbody (F.bind us (by rw[<- v.1];exact hl)) F.clo (fun q hq=>?_) (fun s₁ I=>?_) F.co F.gen F.kind
  ·refine aM (List.mem_iff_getElem?.mp hq) fun i hi=>?_;refine aW (List.getElem?_zip_eq_some.mp hi) fun L O=>?_;refine az (F.pk i q.1 L) fun k ax aT=>?_
   rcases aT with rfl | rfl
   ·exact .inl (s1 sc.uniq ax)
   ·refine .inr ⟨s1 sc.uniq ax,?_⟩;refine aM (ue (n:=s.heap.objs.size+1) (acc:=[]) (eI ax)) fun c cy=>?_;refine aM (Je cy) fun cC PZ=>?_;rw[PZ];rfl
  ·refine uq (MW F hl r v I) fun E Fr aY a6 lF own=>?_;have Px:f7 d (A.deeper (callEnvC fd s.heap.objs.size a)):=hA _;have HB:fE (K.wf (s.heap.objs.size::fr)) (A.deeper (callEnvC fd s.heap.objs.size a)):=bU.push rfl F.kind
   have Dh:=nM (n:=N) (Xe (T:=T) (f:=rf T n1) (Good:=fun CF rq Cv=>∃fF mh m,CF=a3.wf fF mh/\Cv=fK P N m d/\PrgOk fF T P/\f7 d rq/\iK fF rq m/\fE (a3.wf fF mh) rq) rfl (fun CF rq Cv g=>by
    refine j8 g fun fF mh m ag bi=>?_;obtain rfl:=ag;obtain⟨rfl,td,eu,h',ow⟩:=bi;have ctx:=oc td m rq mh eu h' ow
    exact⟨ctx,WW ctx n1,fun J hx a kW=>⟨fF.wx hx,mh,m+1,rfl,rfl,td.wx kW.1,eu.mark,iK.mark (K:=fF) kW,⟨ow.ex⟩⟩⟩) n2 Fr ⟨K,_,hd,rfl,rfl,p,Px,⟨aR.hd,aR.ph,aR.rz⟩,HB⟩) F.tr _ _ _ _ E aY
   generalize qk:ex (fK P N hd d) N fn.body (vs.map some++List.replicate (fn.slots-fn.params) none) σ=i9 at hc Dh c3 vI
   have lw:i9≠.stuck:=by rintro rfl;exact hc rfl
   have hfr:α.fr=fr:=r.fe;have PF:s.heap.get? s.heap.objs.size=none:=own _ bu;refine cB (Dh lw) (fun fl bb hp=>?_) fun e bb hx=>?_
   ·obtain⟨fw,au,α₂,bz,r2,lf,cP,iv⟩:=hp;have tJ:a4 [] α s.heap ⟨α₂.ix,α₂.hid,fr⟩ bb.heap:=a4.ofCall hfr lF own PF bz
    cases iv with
    | next=>exact c3 _ _ ⟨.none,_,_,rfl,tJ,r2.popFr,.none,a6.trans cP⟩
    | ret dq=>exact c3 _ _ ⟨_,_,_,rfl,tJ,r2.popFr,dq.refr,a6.trans cP⟩
    | brk=>exact absurd rfl hc
    | cont=>exact absurd rfl hc
   ·obtain⟨i,ρ',σ',s₀,js,d5,V,y,tN,qC,eU⟩:=hx;subst V;exact gG.leave HB Fr hfr lF own rfl ⟨_,r⟩ (a6.trans qC) y tN eU fun s' f=>vI _ _ ⟨i,σ',rfl,_,f⟩
 ·rw[a5 hl]at hc;exact absurd rfl hc
theorem M0{P:gI}(p:PrgOk K T P){N:Nat}{hd:Nat}(hA:f7 (d+1) A)(aR:iK K A hd)(bU:fE (K.wf fr) A)
  (oc:∀{K:a3} (p:PrgOk K T P) (m:Nat) (A:Around) (fr:List Addr),f7 d A->iK K A m->fE (K.wf fr) A->cn (K.wf fr) A T (fK P N m d))
  {f:Nat} {fn:bI} {a:Addr} {o:Obj} {fd:FuncData} {body:List Stmt} {bk:List Str} {n1 n2:Nat} (bf:P.fns[f]?=some fn) (F:ku K T fn a o fd body bk n1 n2)
  {vs:List H} {us:List Value} {s:Shared} {σ:af} {α:ay} (r:aq (K.wf fr).hb s.heap σ α) (v:bj s.heap α vs us) (hc:hE P N hd (d+1) f vs σ≠.stuck) :
  wpAny (model K.prog K.w) A (call (.ref a) us) (cz (K.wf fr) aj (hE P N hd (d+1) f vs σ) s α) (dh (K.wf fr) A (hE P N hd (d+1) f vs σ) s α) s:=
 wpAny_call (Dl p (by have:=hA.depth;(grind)) (fun J=>hA.deeper) aR bU oc bf F r v hc (fun J J h=>h) fun J J h=>h)
open PySem.W in
theorem WC{c:Addr}(h:f7 (d+1) A):(A.under (.builtin "type.__call__" ⟨.ref c::us,[]⟩)).depth<recursionLimit/\∀env,f7 d ((A.under (.builtin "type.__call__" ⟨.ref c::us,[]⟩)).deeper env):=by
 have w:(Code.builtin "type.__call__" ⟨.ref c::us,[]⟩).weight<=1:=Nat.le_of_ble_eq_true (by kernel_rfl);have u:(Code.builtin "type.__call__" ⟨.ref c::us,[]⟩).cUnits<=4:=Nat.le_of_ble_eq_true rfl;have L:=h.depth;have O:=h.units;refine⟨?_,fun env=>⟨?_,?_⟩⟩
 ·show A.depth+(Code.builtin "type.__call__" ⟨.ref c::us,[]⟩).weight<recursionLimit;(grind)
 ·show A.depth+(Code.builtin "type.__call__" ⟨.ref c::us,[]⟩).weight+1+2*d+200<recursionLimit;(grind)
 ·show A.units+(Code.builtin "type.__call__" ⟨.ref c::us,[]⟩).cUnits+3+20*d+200<cLine;(grind)
theorem kq.wf{F:PySem.W.Frag}{b:Str}{c:Addr}(B:kq K F b c):kq (K.wf fr) F b c:=⟨B.mg,B.inn,B.keep,B.makes,B.plain,B.hasd,B.seta,B.free
  ,B.geta,B.getr,B.none
  ⟩
open PySem.W in
theorem TS{P:gI}(p:PrgOk K T P){N:Nat}{hd:Nat}(hA:f7 (d+1) A)(aR:iK K A hd)(bU:fE (K.wf fr) A)
  (oc:∀{K:a3} (p:PrgOk K T P) (m:Nat) (A:Around) (fr:List Addr),f7 d A->iK K A m->fE (K.wf fr) A->cn (K.wf fr) A T (fK P N m d))
  {f:Nat} {fn:bI} {a:Addr} {o:Obj} {fd:FuncData} {body:List Stmt} {bk:List Str} {n1 n2:Nat} (bf:P.fns[f]?=some fn) (F:ku K T fn a o fd body bk n1 n2)
  {ce:Frag} {b:Str} {c:Addr} (B:kq K ce b c) (hi:findIn ce (.ref c) "__init__" = some (some (.ref a))) (mj:typeIn ce (.ref a)=some (.type "function"))
  {vs:List H} {us:List Value} {s:Shared} {σ:af} {α:ay} (r:aq (K.wf fr).hb s.heap σ α) (v:bj s.heap α vs us) :
  av (K.wf fr) aj A (call (.ref c) us) (my (fK P N hd (d+1)) c f vs σ) s α:=by
 intro hc;have X:ce.In s.heap:=fun x o e=>r.base x o (B.inn x o e);obtain⟨h,g,um,t,os⟩:=s;refine wpAny_call (make_core (makes_of X B.makes) (looks_findIn X hi) (fun self=>bind_fn X self mj) (.inl rfl) ?_);have k:∀b o,h.get? b=some o->((h.push emptyDict).push (instObj c h.objs.size)).get? b=some o:=fun b o e=>c8 _ (c8 _ e)
 have hn:∀b,h.objs.size<=b->h.get? b=none:=fun b hb=>by
  cases e:h.get? b with
  | none=>rfl
  | some o=>exact absurd (fi e) (Nat.not_lt.mpr hb)
 have hD:((h.push emptyDict).push (instObj c h.objs.size)).get? h.objs.size=some emptyDict:=c8 _ (eJ _ rfl)
 have hx:((h.push emptyDict).push (instObj c h.objs.size)).get? (h.objs.size+1)=some (instObj c h.objs.size):=by
  have:=eJ (h.push emptyDict) (o:=instObj c h.objs.size) rfl
  rwa [Heap.size_push]at this
 have T7:((h.push emptyDict).push (instObj c h.objs.size)).Ns1 h.objs.size fun J=>none:=
  Heap.Ns1.of_empty ⟨_,#[],_,hD,rfl,fun e he=>absurd he (by(intro q;exact nomatch q)),fun J=>rfl⟩
 refine aW (r.add (D:=h.objs.size) (m:=.ns []) k (hn _ (dz _)) ⟨_,T7,fun n v e=>(nomatch e),fun J J=>rfl⟩) fun aJ aQ=>?_
 have Qm:(α.add h.objs.size).ix[σ.length]?=some h.objs.size:=by rw[r.len];simp[ay.add]
 have Rf:h.objs.size+1∉(α.add h.objs.size).all:=fun q=>by
  refine aM (aJ.liveAll q) fun o e=>?_
  rcases dH.mp q with q | q
  ·rcases dH.mp q with q | q
   ·refine aM (r.liveAll (hj _ q)) fun o e=>?_;rw[hn _ (Nat.le_succ _)]at e;contradiction
   ·exact absurd (df.mp q) (Nat.succ_ne_self _)
  ·refine aM (r.liveAll (e6 _ q)) fun o e=>?_;rw[hn _ (Nat.le_succ _)]at e;contradiction
 have nN:aj ((h.push emptyDict).push (instObj c h.objs.size)) (α.add h.objs.size) (.inst c σ.length) (.ref (h.objs.size+1)):=.inst hx Rf Qm;refine aW (WC (c:=c) (us:=us) hA) fun g1 g2=>?_;unfold my at hc ⊢
 have lw:hE P N hd (d+1) f (.inst c σ.length::vs) (σ++[.ns []])≠.stuck:=fun q=>hc (by
  show(hE P N hd (d+1) f (.inst c σ.length::vs) (σ++[.ns []])).bind _=_
  rw[q];rfl)
 refine Dl p (s:=⟨(h.push emptyDict).push (instObj c h.objs.size),g,um,t,os⟩) g1 g2 ⟨aR.hd,aR.ph,aR.rz⟩ ⟨bU.ex⟩ oc bf F (vs:=.inst c σ.length::vs) aJ (.cons nN (v.ext aQ)) lw (fun w s' hp=>?_) fun e s' hp=>?_
 ·obtain⟨im,σ',α',e,bz,r2,bN,cP⟩:=hp;change(hE P N hd (d+1) f (.inst c σ.length::vs) (σ++[.ns []])).bind _≠_ at hc;rw[e]at hc
  cases im with
  | none =>
   obtain rfl:=bN.noneE;refine⟨rfl,?_⟩;show cz (K.wf fr) aj ((hE P N hd (d+1) f (.inst c σ.length::vs) (σ++[.ns []])).bind _) _ _ _ _;rw[e];exact⟨_,σ',α',rfl,aQ.trans bz,r2,nN.ext bz,⟨cP.gens,cP.os⟩⟩
  | _=>exact absurd rfl hc
 ·have ng:dh (K.wf fr) (A.under (.builtin "type.__call__" ⟨.ref c::us,[]⟩)) (hE P N hd (d+1) f (.inst c σ.length::vs) (σ++[.ns []])) ⟨h,g,um,t,os⟩ α e s':=hp.lift (s₁:=⟨(h.push emptyDict).push (instObj c h.objs.size),g,um,t,os⟩) aQ ⟨rfl,rfl⟩;obtain⟨i,σ',V,eU⟩:=ng;show dh (K.wf fr) A ((hE P N hd (d+1) f (.inst c σ.length::vs) (σ++[.ns []])).bind _) _ _ _ _;rw[V];exact⟨i,σ',rfl,eU⟩
theorem Jr{P:gI}{N m:Nat}(p:PrgOk K T P)(hA:f7 d A)(aR:iK K A m)(bU:fE (K.wf fr) A)
  (kb:∀{f fn a o fd body bk n1 n2},P.fns[f]?=some fn->ku K T fn a o fd body bk n1 n2->∀vs us s σ α,aq (K.wf fr).hb s.heap σ α->bj s.heap α vs us->av (K.wf fr) aj A (call (.ref a) us) (hE P N m d f vs σ) s α)
  (QC:∀{f fn a o fd body bk n1 n2},P.fns[f]?=some fn->ku K T fn a o fd body bk n1 n2->∀{ce b c},kq K ce b c->PySem.W.findIn ce (.ref c) "__init__" = some (some (.ref a))->PySem.W.typeIn ce (.ref a)=some (.type "function") ->
   ∀vs us s σ α,aq (K.wf fr).hb s.heap σ α->bj s.heap α vs us->av (K.wf fr) aj A (call (.ref c) us) (my (fK P N m d) c f vs σ) s α)
  : cn (K.wf fr) A T (fK P N m d):=by
 refine⟨⟨p.hK.g,p.hK.b,p.hK.nolimit,p.hK.mods⟩,hA.ok,
  aR.ctx.1,aR.ctx.2.1,aR.ctx.2.2,bU,?_,
  fun x v h=>?_,fun f x hx=>?_,p.bin
  ,fun b c hb=>?_
  ⟩
 ·refine az p.exc fun ce X ar=>?_;exact⟨ce,X,fun q hq=>⟨(ar q hq).1.wf,(ar q hq).2⟩⟩
 ·refine az (p.cst x v h) fun u L O=>?_;exact⟨u,L,fun h σ α r=>O fr h σ α r⟩
 ·obtain⟨fn,a,o,fd,body,bk,n1,n2,bf,hmg,F⟩:=p.fns f x hx;exact⟨a,o,fd,hmg,F.ho,F.hd,kb bf F⟩
 ·refine az (p.brd b c hb) fun ce B ar=>?_
  refine⟨ce,B.wf,fun j a8=>?_
   ,fun j n a8=>?_
   ⟩
  ·obtain⟨fn,a,o,fd,body,bk,n1,n2,bf,⟨q1,q2⟩,F⟩:=ar j _ a8;exact QC bf F B q1 q2
  ·obtain⟨fn,a,o,fd,body,bk,n1,n2,bf,⟨q1,q2⟩,F⟩:=ar j n a8;exact⟨a,o,fd,q1,q2,F.ho,F.hd,kb bf F⟩
theorem oc{P:gI}{N:Nat}(d:Nat):∀{K:a3} (p:PrgOk K T P) (m:Nat) (A:Around) (fr:List Addr),f7 d A->iK K A m->fE (K.wf fr) A->cn (K.wf fr) A T (fK P N m d):=by
 induction d with
 | zero =>
  exact fun p m A fr hA aR bU=>Jr p hA aR bU (fun J J J J J J J J J hc=>absurd rfl hc)
   (fun J J J J J J J J J J J J J J J hc=>absurd rfl hc)
 | succ d ao =>
  exact fun p m A fr hA aR bU=>Jr p hA aR bU (fun bf F vs us s σ α r v hc=>M0 p hA aR bU ao bf F r v hc)
   (fun bf F J J J B q1 q2 vs us s σ α r v=>TS p hA aR bU ao bf F B q1 q2 r v)
section
open PySem.W
theorem A1:∀{bk:List Str} {vals:List Value} {i:Nat} {p:Str} {v:Value},bk.Nodup->bk[i]?=some p->vals[i]?=some v->(bk.zip vals).lookup p=some v
 | [],_,_,_,_,_,h,_=>(nomatch h)
 | _::_,[],_,_,_,_,_,h=>(nomatch h)
 | q::bk,w::vals,i,p,v,hn,L,O=>by
  rw[hS]at hn;rw[List.zip_cons_cons,List.lookup_cons]
  cases i with
  | zero=>simp at L O;subst L O;simp
  | succ i =>
   have sg:bk[i]?=some p:=by simpa using L
   have:(p == q)=false:=by
    cases hb:p == q with
    | false=>rfl
    | true =>
     have:p=q:=by simpa using hb
     subst this;exact absurd (eI sg) hn.1
   exact this.symm▸(A1 hn.2 sg (by simpa using O))
theorem OC{vals:List Value}(hn:bk.Nodup)(hl:vals.length=bk.length):(bk.filterMap fun n=>((bk.zip vals).lookup n).map (n,·))=bk.zip vals:=by
 have key:∀(pj:List Str) (ws:List Value),pj.length=ws.length->(∀(i:Nat) q w,pj[i]?=some q->ws[i]?=some w->(bk.zip vals).lookup q=some w)->(pj.filterMap fun n=>((bk.zip vals).lookup n).map (n,·))=pj.zip ws:=by
  intro pj
  induction pj with
  | nil=>intro ws _ _;(rfl)
  | cons q pj ao =>
   intro ws hl h
   cases ws with
   | nil=>contradiction
   | cons w ws =>
    have h0:=h 0 q w (by rfl) (by rfl);simp only[List.filterMap_cons,h0,Option.map_some,List.zip_cons_cons];rw[ao ws (by simpa using hl) fun i q w L O=>h (i+1) q w (by simpa using L) (by simpa using O)]
 exact key bk vals hl.symm fun i q w L O=>A1 hn L O
theorem MF{fd:FuncData}(hp:fd.params.posonlyargs=[])(ha:fd.params.args.map (·.arg)=bk)(hk:fd.params.kwonlyargs=[])(hv:fd.params.vararg=none)(hw:fd.params.kwarg=none)(vF:fd.defaults=.none)
  (hn:bk.Nodup) {vals:List Value} (hl:vals.length=bk.length):bindArgs fd ⟨vals,[]⟩=pure (bk.zip vals):=by
 obtain⟨nm,q,⟨Zw,n8,aA,Zk,ji,kw,YL⟩,body,sc,g,cl,YM,Zl,doc,pm,an,code,gR,YF⟩:=fd;dsimp only at hp ha hk hv hw vF;subst hp hk hv hw vF;refine(a5 ?_).trans ((a5 ?_).trans ?_)
 ·show ¬(decide (vals.length > (n8.map (·.arg)).length)&&true)=true;exact ha▸hl▸(f0 (Nat.lt_irrefl _))▸nofun
 ·show ¬(!(((n8.map (·.arg)).take ((n8.map (·.arg)).length-(List.drop (0-(n8.map (·.arg)).length) ([]:List Value)).length)).filter fun n=>(((n8.map (·.arg)).zip vals).lookup n).isNone).isEmpty)=true;rw[ha,List.drop_nil,List.length_nil,Nat.sub_zero,List.take_length,List.filter_eq_nil_iff.mpr]
  ·exact nofun
  intro a ka;obtain⟨i,hi,rfl⟩:=List.mem_iff_getElem.mp ka;rw[A1 hn (i:=i) (v:=vals[i]) (dA hi) (dA _)];exact nofun
 ·have bp:∀(l:List Str),l.zip ([]:List Value)=[]:=fun l=>List.zip_nil_right;dsimp only;rw[show(none.getD #[]:Array Value).toList=[]from rfl,List.drop_nil,bp];show(pure:_->Sem _) ((List.map (fun x:Arg=>x.arg) n8++[]).filterMap fun n=>(((List.map (fun x:Arg=>x.arg) n8).zip vals).lookup n).map (n,·))=_;rw[ha,iP,OC hn hl]
theorem Kb{v:Value}(h:BC v=some a):v=.ref a:=by
 cases v with
 | ref b=>rw[oi h]
 | _=>contradiction
theorem Ru{v:Value}{i:Int}(h:IJ v=some i):∃t,v=.int i t:=by
 cases v with
 | int j t=>exact⟨t,by rw[oi h]⟩
 | _=>contradiction
theorem Wf{v:Value}{s:Str}(h:Kz v=some s):∃t,v=.str s t:=by
 cases v with
 | str j t=>exact⟨t,by rw[oi h]⟩
 | _=>contradiction
theorem OZ{d:Data}{fd:FuncData}(h:Hd d=some fd):d=.func fd:=by
 cases d with
 | func f=>rw[oi h]
 | _=>contradiction
theorem Vu{d:Data}{q:Array Value×Nat}(h:Kg d=some q):d=.seq q.1 q.2:=by
 cases d with
 | seq f n=>rw[<- oi h]
 | _=>contradiction
theorem V8{d:FuncBody}{b:List Stmt}(h:Kx d=some b):d=.stmts b:=by
 cases d with
 | stmts f=>rw[oi h]
 | _=>contradiction
theorem Yg{α β:Type}{xs:List α}{ys:List β}{x:α}(hl:xs.length<=ys.length)(h:xs[i]?=some x):∃y,ys[i]?=some y/\(x,y)∈xs.zip ys:=by
 have hi:=(dS h).1;have a8:i<ys.length:=jx hi hl;exact⟨ys[i],dA a8,eI (List.getElem?_zip_eq_some.mpr ⟨h,dA a8⟩)⟩
theorem VP{k:NameKind}(h:BK k=true):k=.local\/k=.cell:=by
 cases k with
 | «local»=>exact .inl rfl
 | cell=>exact .inr rfl
 | _=>contradiction
theorem Bp{names:List (Str×NameKind)}(h:JZ bk names=true)(i:Nat)(p:Str)(O:bk[i]?=some p):∃k,names[i]?=some (p,k)/\(k=NameKind.local\/k=.cell):=by
 refine aW (dk h) fun h0 L=>?_;refine az (Yg (ht h0) O) fun y ax aT=>?_;refine aW (dk (fZ.mp L _ aT)) fun c2 gA=>?_;obtain rfl:p=y.1:=eq_of_beq c2;exact⟨y.2,ax,VP gA⟩
inductive CD(K:a3)(T:bl)(n1 n2:Nat)(q:Option (Option Value))(fn:bI):Prop
 | mk (a:Addr) (o:Obj) (fd:FuncData) (body:List Stmt) (bk:List Str) (h:q=some (some (.ref a))) (F:ku K T fn a o fd body bk n1 n2):CD K T n1 n2 q fn
theorem Oy{fF:Frag}{fd:FuncData}{b:S}(X:fF.In K.hb.h)(O:fF.lookup a=some o)(ax:o.data=.func fd)(hb:fd.body=.stmts body)(c3:zM fF fd=true)
  (aO:ko (tD T fd.scope.names (rf T n1) n2) body=some b):ku K T ⟨fd.params.args.length,fd.scope.names.length,b⟩ a o fd body (fd.params.args.map (·.arg)) n1 n2:=by
 unfold zM at c3;refine aW (dk c3) fun c3 q14=>?_;refine aW (dk c3) fun c3 q13=>?_;refine aW (dk c3) fun c3 q12=>?_;refine aW (dk c3) fun c3 q11=>?_;refine aW (dk c3) fun c3 q10=>?_;refine aW (dk c3) fun c3 q9=>?_;refine aW (dk c3) fun c3 q8=>?_;refine aW (dk c3) fun c3 q7=>?_;refine aW (dk c3) fun c3 q6=>?_;refine aW (dk c3) fun c3 q5=>?_;refine aW (dk c3) fun c3 q4=>?_;refine aW (dk c3) fun c3 q3=>?_;refine aW (dk c3) fun q1 q2=>?_
 have vF:fd.defaults=.none:=by
  cases hd:fd.defaults with
  | none=>rfl
  | _=>rw[hd]at q13;contradiction
 refine⟨X _ _ O,ax,codeRec_of X q1,hb,eq_of_beq q2,eq_of_beq q3,hz.mp q4,eq_of_beq q5,by simpa using q6,by simpa using q7,q8,aO,(bh _).symm,rfl,Bp q14,fun vals hl=>?_⟩;refine MF (hz.mp q9) rfl (hz.mp q10) (n7.mp q11) (n7.mp q12) vF ?_ hl;rw[List.Nodup,List.pairwise_iff_getElem];intro i j hi a8 HV e;refine az (Bp q14 i (fd.params.args.map (·.arg))[i] (dA hi)) fun k L J=>?_;refine az (Bp q14 j (fd.params.args.map (·.arg))[j] (dA a8)) fun bW O J=>?_;rw[e]at L;exact absurd ((tq q8).uniq i j _ _ _ L O) (ik HV)
theorem Jp{fF:Frag}{q:Option (Option Value)}(X:fF.In K.hb.h)(h:qH T n1 n2 fF q=some fn):CD K T n1 n2 q fn:=by
 unfold qH at h;refine cF h fun q1 h0 h=>cF h fun v L h=>cF h fun a O h=>cF h fun o ax h=>cF h fun fd aT h=>cF h fun body c2 h=>cU h fun c3 h=>fR h fun b aO=>?_;refine⟨a,o,fd,body,_,?_,Oy X ax (OZ aT) (V8 c2) c3 aO⟩;rw[h0,L,Kb O]
theorem Jq{K:Frag}{xs:List (Option (Option Value))}:∀{fs:List bI},ke T n1 n2 K xs=some fs->∀(i:Nat) (x:Option (Option Value)),xs[i]?=some x->∃fn,fs[i]?=some fn/\qH T n1 n2 K x=some fn:=by
 induction xs with
 | nil=>intro fs _ i x h;exact nomatch h
 | cons y r ao =>
  intro fs h i x O;change bR _ _ _=_ at h;refine gf (M:=fun fs=>∃fn,fs[i]?=some fn/\qH T n1 n2 K x=some fn) h fun f YT ax aT=>?_
  cases i with
  | zero=>exact⟨f,rfl,oi O▸ax⟩
  | succ i=>exact ao aT i x O
theorem JU{v:Value}{x:H}(e:Bj (v,x)=true):aj h α x v:=by
 cases x with
 | str s =>
  refine aW (dk e) fun L O=>?_;refine aM (Wf (eq_of_beq L)) fun t ag=>?_;obtain rfl:=ag;exact .str _ _ O
 | _=>contradiction
theorem Xx(e:K9 o xs=true)(ho:hb.get? a=some o)(r:aq hb h σ α):aj h α (.tup xs) (.ref a):=by
 refine aW (dk e) fun e gT=>?_;refine aW (dk e) fun e bK=>?_;refine aW (dk e) fun V ak=>?_;refine az ((Option.any_eq_true _ _).mp gT) fun q j6 rR=>?_;refine aW (dk rR) fun rS rT=>?_;obtain⟨c,d,DB,cQ⟩:=o;obtain rfl:=eq_of_beq V;obtain rfl:=n7.mp ak;obtain rfl:=Array.isEmpty_iff.mp bK;obtain rfl:=Vu j6;have hl:=eq_of_beq rS;refine aj.tupI (items:=q.1.toList) (n:=q.2) (r.base _ _ ho) (fun q=>?_) ⟨hl.symm,fun i x v L O=>?_⟩
 ·rcases dH.mp q with q | q
  ·rw[r.fresh a q]at ho;contradiction
  ·rw[r.hfr a q]at ho;contradiction
 ·exact JU (fZ.mp rT _ (eI (List.getElem?_zip_eq_some.mpr ⟨O,L⟩)))
theorem MR{K:Frag}(X:K.In hb.h){v:H}(e:Dj K v u=true)(r:aq ⟨hb.h,fr,hb.prog,hb.w⟩ h σ α):aj h α v u:=by
 cases v with
 | int i=>refine aM (Ru (eq_of_beq e)) fun t ag=>?_;obtain rfl:=ag;exact .int _ _
 | str s=>exact JU e
 | tup xs =>
  refine az ((Option.any_eq_true _ _).mp e) fun o L O=>?_;refine cF L fun a ax aT=>?_;exact(Kb ax).symm▸(Xx (hb:=⟨_,fr,_,_⟩) O (X _ _ aT) r)
 | _=>contradiction
theorem Nt{K:Frag}(X:K.In hb.h){l:List (Str×H)}(h:rP K l=true)(x:Str)(v:H)(hx:l.lookup x=some v):∃u,nsIn K mainGlobals x=some (some u)/\∀fr h σ α,aq ⟨hb.h,fr,hb.prog,hb.w⟩ h σ α->aj h α v u:=by
 refine az ((Option.any_eq_true _ _).mp (fZ.mp h _ (o3 hx))) fun u L O=>?_;exact cF L fun q ax aT=>⟨u,ax.trans (congrArg some aT),fun J J J J r=>MR X O r⟩
theorem ML{v:Value}(h:lm x=some v):bootBuiltins x=some v:=
 (show ∀p∈Db,bootBuiltins p.1=some p.2 from(by repeat (first | refine List.forall_mem_cons.mpr ⟨(by dsimp only;boot_by_name),?_⟩ | exact fun J h=>nomatch h))) _ (o3 h)
theorem Ot{F:Frag}(k:∀b o,h₀.get? b=some o->K.hb.h.get? b=some o)(X:F.In K.hb.h)(hg:K.hb.h.Ns mainGlobals K.mg)(e:uw h₀ F T=true) :
  ∃F:Frag,F.In K.hb.h/\∀p∈T.excs,pH K p.1 p.2.1 p.2.2/\ov F T p.2.1=true:=by
 unfold uw at e;have ar:=fZ.mp e;refine⟨F,X,fun p hp=>?_⟩;have L:=ar p hp;simp only[eW]at L;refine aW L fun L O=>?_;unfold yb at L;simp only[eW,fy]at L;obtain⟨⟨⟨⟨q1,q2⟩,q3⟩,q4⟩,q5⟩:=L;refine DG (Heap.ownExc_of_ok q1) fun C N nm q bs hdct sn bi=>?_;refine DG bi fun sub ab col dd k0 k1 k2 bi=>?_;refine NO bi fun k3 k5 dM ef pC rk=>?_;rw[q3]at dM;cases dM;rw[q4]at ef;refine⟨⟨mg_of X hg q2,⟨nm,q,N,bs,hdct,sn,sub,ab,col,dd,k0,k1,k2,k3,k5,k _ _ ef,_,pC.keeps k,rk⟩,?_⟩,O⟩
 have:=OwnTail.of_chain (h:=h₀) (bmB:=[.type "ValueError",.type "Exception",.type "BaseException",.type "object"]) (uf T p.2.2) fun n hn=>by
  have hq:=fZ.mp q5 n hn;refine az (List.any_eq_true.mp hq) fun r hr Az=>?_
  have Az:r.1=n:=by simpa using Az
  have ax:=ar r hr;simp only[eW]at ax;have ax:=ax.1;unfold yb at ax;simp only[eW]at ax;rw[Az]at ax;exact⟨_,_,_,ax.1.1.1.1⟩
 rw[q4]at this;exact this.keeps k
theorem WL{F:Frag}(e:tA h F T=true):uw h F T=true:=(dk e).1
theorem XH{F:Frag}{f:Nat}(h:T.fns[f]?=some x):(mf T F)[f]?=some (nsIn F mainGlobals x):=by
 unfold mf;rw[iN (by rw[bh];exact(dS h).1),fg,h];rfl
theorem XI{F:Frag}{n:Str}(h:T.meths[j]?=some n):(mf T F)[T.fns.length+j]?=some (T.brd.bind fun q=>findIn F (.ref q.2) n):=by
 unfold mf;rw[hP (by rw[bh];exact fh _ _),bh,Nat.add_sub_cancel_left,fg,h];rfl
theorem MN{F:Frag}{b:Str}(X:F.In K.hb.h)(hg:K.hb.h.Ns mainGlobals K.mg)(e:xL F T=true)(hb:T.brd=some (b,c)):kq K F b c/\∀n∈T.meths,(findIn F (.ref c) n).join.bind (typeIn F)=some (.type "function"):=by
 unfold xL at e;rw[hb]at e;simp only[eW,fy]at e;obtain⟨⟨⟨⟨⟨⟨⟨⟨⟨⟨V,ak⟩,bK⟩,gT⟩,j6⟩,rR⟩,rS⟩,g1⟩,g2⟩,g3⟩,rT⟩:=e;exact⟨⟨mg_of X hg V,X,ak,bK,gT,j6,rR,fun n hn=>eq_of_beq (fZ.mp rS n hn),g1,g2,fun n hn=>eq_of_beq (fZ.mp g3 n hn)⟩,fun n hn=>eq_of_beq (fZ.mp rT n hn)⟩
theorem prgOk{fF:Frag}{P:gI}{p:Program}{loose:List Str}(lZ:TopRead p loose K.mg K.mb K.hb.h)(X:fF.In K.hb.h)(k₀:∀b o,h₀.get? b=some o->K.hb.h.get? b=some o)(bp:tA h₀ fF T=true)(L:rP fF T.cst=true)(O:rM fF T.bins=true)(ax:ke T n1 n2 fF (mf T fF)=some P.fns):PrgOk K T P:=by
 unfold rM at O;refine aW (dk O) fun Ps O=>?_;refine aM (Option.isSome_iff_exists.mp Ps) fun Ue QG=>?_;have h0:=WL bp;have hK:K.Ok:=⟨lZ.g,lZ.b,lZ.nolimit,Ue,X _ _ QG⟩
 refine⟨hK,fun x v hx=>?_,fun x hx=>?_,
  Ot k₀ X lZ.g h0,
  fun f x hx=>?_
  ,fun b c hb=>?_
  ⟩
 ·refine az (Nt X L x v hx) fun u q1 q2=>?_;exact⟨u,mg_of X lZ.g q1,q2⟩
 ·have:=fZ.mp O x hx;simp only[eW,Bool.not_eq_true',lj]at this;obtain⟨⟨q1,q2⟩,q3⟩:=this;refine aM (Option.isSome_iff_exists.mp q2) fun v hv=>?_;refine⟨?_,v,hv,(lZ.builtins x q3).trans (ML hv)⟩;refine az ((Option.any_eq_true _ _).mp q1) fun q ax aT=>?_;exact mg_none_of X lZ.g (ax.trans (congrArg some (n7.mp aT)))
 ·refine az (Jq ax f _ (XH hx)) fun fn q1 q2=>?_;obtain⟨a,o,fd,body,bk,hq,F⟩:=Jp X q2;exact⟨fn,a,o,fd,body,bk,n1,n2,q1,mg_of X lZ.g hq,F⟩
 ·refine aW (MN X lZ.g (dk bp).2 hb) fun B mj=>?_;refine⟨fF,B,fun j n a8=>?_⟩;refine az (Jq ax _ _ (XI a8)) fun fn q1 q2=>?_;obtain⟨a,o,fd,body,bk,hq,F⟩:=Jp X q2
  have hq:findIn fF (.ref c) n=some (some (.ref a)):=by rw[hb]at hq;exact hq
  have:=mj n (eI a8);rw[hq]at this;exact⟨fn,a,o,fd,body,bk,n1,n2,q1,⟨hq,this⟩,F⟩
theorem XR{P:Params}:∀{l:List Int} {vs:List Value},WellAll P h vs (ofPys (l.map .int))->bj h ⟨[],[],[]⟩ (l.map .int) vs:=by
 intro l
 induction l with
 | nil =>
  intro vs W;cases(show WellAll P h vs []from W);exact .nil
 | cons i l ao =>
  intro vs W
  cases(show WellAll P h vs (ofPy (.int i)::ofPys (l.map .int))from W)with
  | cons a b =>
   cases a;exact .cons (.int i _) (ao b)
theorem Vn{P:Params}(W:Well P h (.ref a) (ofPy (.list (l.map .int)))):aj h ⟨[],[],[]⟩ (.fl (l.map .int)) (.ref a):=by
 simp only[ofPy]at W
 cases W with
 | list e w=>exact aj.flI e (by simp[ay.all]) (XR w)
theorem M2(h:d<=100):f7 d callerA:=by
 have L:callerA.depth+2*100+200<recursionLimit:=by decide
 have O:callerA.units+20*100+200<cLine:=by decide
 exact⟨by omega,by omega⟩
theorem P6{prog:Program}{w:World}{mg mb:Str->Option Value}:iK ⟨⟨h,fr,prog,w⟩,mg,mb,false⟩ callerA 0:=
 ⟨fun J=>rfl,rfl,fun z=>by contradiction⟩
theorem law_end{prog:Program}{w:World}{mg mb:Str->Option Value}{P:gI}{f N:Nat}{name:Str}{fa:Addr}(p:PrgOk ⟨⟨s₁.heap,[],prog,w⟩,mg,mb,false⟩ T P)(hx:T.fns[f]?=some name)
  (hmg:mg name=some (.ref fa)) (hd:d<=100) (W:Well w.params s₁.heap (.ref a) (ofPy (.list (l.map .int)))) (hrun:bv P N d f [.fl (l.map .int)] []=.ok (.bool true) σ)
  {Q:Value->Shared->Prop} {E:Value->Shared->Prop} (a7:∀s',(∀b o,s₁.heap.get? b=some o->s'.heap.get? b=some o)->s'.os=s₁.os->s'.gens=s₁.gens->Q (.bool true) s') :
  wpAny (model prog w) callerA (call (.ref fa) [.ref a]) Q E s₁:=by
 have ctx:=oc (N:=N) d p 0 callerA [] (M2 hd) P6 ⟨[],rfl,rfl,fun e he=>(nomatch he)⟩;refine ur (ctx.fn f name hx) fun eu o fd L O ax ar=>?_
 have e:eu=fa:=by
  have sg:mg name=some (.ref eu):=L;rw[hmg]at sg;cases sg;rfl
 subst e;have mD:aq ⟨s₁.heap,[],prog,w⟩ s₁.heap [] ⟨[],[],[]⟩:=⟨fun J J e=>e,fun J h=>(nomatch h),List.nodup_nil,rfl,fun J h=>(nomatch h),fun i m a e=>(nomatch e),fun J h=>(nomatch h),rfl,fun J h=>(nomatch h),fun J h=>(nomatch h)⟩;have ar:=ar [.fl (l.map .int)] [.ref a] s₁ [] ⟨[],[],[]⟩ mD #v[(Vn W)];have QT:(fK P N 0 d).call f [.fl (l.map .int)] []=.ok (.bool true) σ:=hrun;rw[QT]at ar;refine cB (ar (by(intro q;exact nomatch q))) (fun v s' hp=>?_) fun e s' hx=>?_
 ·obtain⟨b,σ',α',e,x,r,vr,m⟩:=hp;cases e;obtain rfl:=vr.boolE;exact a7 s' (fun b o e=>r.base b o e) m.os m.gens
 ·obtain⟨i,σ',e,eU⟩:=hx;contradiction
theorem SM{f:Nat->Option Obj}:∀{l:List Nat},(l.filterMap fun a=>(f a).map fun o=>(a,o)).lookup a=some o->f a=some o:=by
 intro l
 induction l with
 | nil =>
  intro h
  (exact nomatch h)
 | cons b l ao =>
  intro h;rw[List.filterMap_cons]at h
  cases hb:f b with
  | none=>rw[hb]at h;exact ao h
  | some p =>
   rw[hb]at h;simp only[Option.map_some,List.lookup_cons]at h
   cases hq:(a == b)with
   | true =>
    rw[hq]at h
    have:a=b:=by simpa using hq
    subst this;exact hb.symm▸h
   | false=>rw[hq]at h;exact ao h
theorem OT(h:Heap):(jc h).In h:=fun a o e=>SM (f:=h.get?) e
structure Says(T:bl)(n1 n2:Nat)(fns:List bI)(h:Heap):Prop where
 ex:∃(K:Frag) (h₀:Heap),K.In h/\(∀b o,h₀.get? b=some o->h.get? b=some o)/\tA h₀ K T=true/\rP K T.cst=true/\rM K T.bins=true/\ke T n1 n2 K (mf T K)=some fns
noncomputable def topHook(T:bl)(n1 n2:Nat)(fns:List bI):Hook where
 α:=Bool×Bool×Bool×Option (List bI)
 obs:=fun s=>(tA s.heap (jc s.heap) T,rP (jc s.heap) T.cst,rM (jc s.heap) T.bins,ke T n1 n2 (jc s.heap) (mf T (jc s.heap)))
 val:=fun J=>(true,true,true,some fns)
 says:=fun J h=>Says T n1 n2 fns h
 of:=fun J s e=>⟨⟨jc s.heap,s.heap,OT _,fun J J e=>e,congrArg (·.1) e,congrArg (·.2.1) e,congrArg (·.2.2.1) e,congrArg (·.2.2.2) e⟩⟩
 keeps:=fun J h h' q k=>by
  refine l7 q.ex fun K h₀ a eu b=>?_;exact⟨⟨K,h₀,fun x o e=>k x o (a x o e),fun x o e=>k x o (eu x o e),b⟩⟩
end
section
open PySem.W PySem.Calls
theorem V5:stepT=PySem.W.Fast.tw10156331382660048174:=PySem.W.Fast.te10156331382660048174
theorem Ny:denote=PySem.W.Fast.tw11892475500146522536:=PySem.W.Fast.te11892475500146522536
theorem WA:treeTable=PySem.W.Fast.tw14364793385576792824:=PySem.W.Fast.te14364793385576792824
theorem V4:stepOk=PySem.W.Fast.tw6613529449190102663:=PySem.W.Fast.te6613529449190102663
theorem WM{p:Program}{w:World}{qM:Nat}{pZ:Option Value}:∀{n:Nat} {s s':SharedT} {t:Thread},wQ p w qM pZ n s t=some s'->topRun treeTable p w qM pZ n s.abs t=some s'.abs:=by
 intro n
 induction n with
 | zero=>intro s s' t h;exact nomatch h
 | succ n ao =>
  intro s s' t h;unfold wQ at h;unfold topRun;rw[<- V4,<- V5,<- Ny,<- WA]at h
  cases he:through t with
  | true=>rw[he]at h;cases h;rfl
  | false =>
   rw[he]at h
   cases hk:stepOk qM pZ t with
   | false=>rw[hk]at h;cases h
   | true =>
    rw[hk]at h
    cases hs:stepT (denote treeTable) p w s t with
    | none=>rw[hs]at h;cases h
    | some r=>obtain⟨bb,ZD⟩:=r;rw[hs]at h;exact(stepT_spec hs).symm▸(ao h)
theorem Xm:∀{l:List Obj} {n:Nat} {t bt:BT},tE l n t=some bt->absHeap bt (n+l.length) life=l.foldl Heap.push (absHeap t n life):=by
 intro l
 induction l with
 | nil =>
  intro n t bt h;cases h;rfl
 | cons o l ao =>
  intro n t bt h;unfold tE at h
  cases hs:((t.ins n o).get n).isSome with
  | false=>rw[hs]at h;cases h
  | true =>
   rw[hs]at h;rw[dj,show n+(l.length+1)=n+1+l.length by grind,ao h,absHeap_ins hs];rfl
theorem OR:∀(l:List Obj) (a:Array Obj),l.foldl Heap.push ⟨a,life⟩=⟨a++l.toArray,life⟩:=by
 intro l
 induction l with
 | nil =>
  intro a
  (rfl)
 | cons o l ao =>
  intro a;show l.foldl Heap.push ⟨a.push o,life⟩=_;rw[ao (a.push o)];simp
theorem Xn{l:List Obj}{t:BT}(h:tE l 0 .nil=some t):absHeap t l.length life=⟨l.toArray,life⟩:=by
 have:=Xm (life:=life) h;rw[ij]at this;rw[this];show l.foldl Heap.push ⟨#[],life⟩=_;rw[OR];simp
theorem Sn{p:Program}{w:World}{os:OsState}{N:Nat}(h:sZ p w os N=some s₁):topFrom treeTable p w N ⟨boot_heap w.params,#[],boot_drawn,boot_toks,os⟩=some s₁:=by
 unfold sZ at h;refine az (Option.bind_eq_some_iff.mp h) fun T dY h=>?_
 have aR:absHeap T (boot_heap w.params).objs.toList.length (boot_heap w.params).life=boot_heap w.params:=by
  rw[Xn dY]
 cases hn:(boot_heap w.params).isNs mainGlobals with
 | false=>rw[hn]at h;cases h
 | true =>
  rw[hn]at h;refine az (Option.bind_eq_some_iff.mp h) fun s hs h=>?_;have hr:=WM hs
  have ha:(SharedT.abs ⟨T,(boot_heap w.params).objs.toList.length,(boot_heap w.params).life,#[],boot_drawn,boot_toks,os⟩)=⟨boot_heap w.params,#[],boot_drawn,boot_toks,os⟩:=by
   show(⟨absHeap T _ _,#[],boot_drawn,boot_toks,os⟩:Shared)=_;rw[aR]
  rw[ha,Array.length_toList]at hr;unfold topFrom
  have hb:((boot_heap w.params).isNs mainGlobals&&(#[]:Array GenState).size == 0)=true:=by rw[hn];rfl
  show(match((boot_heap w.params).isNs mainGlobals&&(#[]:Array GenState).size == 0)with | true=>_ | false=>_)=_;rw[hb];dsimp only;rw[hr];exact h
theorem Vs:openSeen=PySem.W.Fast.tw4187177175401517315:=PySem.W.Fast.te4187177175401517315
theorem Sp{p q:Program}{loose:List Str}{Xt:Shared->Bool}{α:Type}{Yf:Shared->α}{Ya:World->α}{N:Nat}(e:opening p=plainProg p.main.scope.names)(aw:Nat.ble 600 N=true)(f:∀s,fenceModules? p s=some s)
  (h:∀w os,(sZ p w os N).map (fun s=>(PySem.W.Fast.tw4187177175401517315 q loose (importedModules p.main.body) Xt true s,Yf s))=some (openGood q loose,Ya w)):LeftO p q loose Xt Yf Ya N:=fun w=>by
 rw[<- Vs]at h;refine az (Option.map_eq_some_iff.mp (boot_open e aw f w)) fun s hs hv=>?_;obtain⟨hp,g,d,t,os⟩:=s;simp only[Prod.mk.injEq]at hv;obtain⟨rfl,rfl,rfl,rfl⟩:=hv;unfold openEnds;rw[hs];refine az (Option.map_eq_some_iff.mp (h w os)) fun s₁ L O=>?_;show(topFrom treeTable p w N _).map _=_;have:=Sn L;rw[show(⟨boot_heap w.params,{ toList:=[] },boot_drawn,boot_toks,os⟩:Shared)=⟨boot_heap w.params,#[],boot_drawn,boot_toks,os⟩from rfl,this];exact congrArg some O
theorem Tj{K:Frag}{ys:List (Option (Option Value))}{b:List bI}(O:ke T n1 n2 K ys=some b)(xs:List (Option (Option Value))):∀{a:List bI},ke T n1 n2 K xs=some a->ke T n1 n2 K (xs++ys)=some (a++b):=by
 induction xs with
 | nil=>intro a h;obtain rfl:=oi h;exact O
 | cons x r ao =>
  intro a h;change bR _ _ _=_ at h;refine gf (M:=fun a=>ke T n1 n2 K (x::r++ys)=some (a++b)) h fun f fs ax aT=>?_;show bR (qH T n1 n2 K x) (ke T n1 n2 K (r++ys)) List.cons=_;rw[ax,ao aT];rfl
theorem OO{o:Option Shared}{k:Nat}{a b:List bI}(L:o.map (vv T (List.take k))=some (some a))(O:o.map (vv T (List.drop k))=some (some b)):o.map (fun s=>ke T 40 30 (jc s.heap) (mf T (jc s.heap)))=some (some (a++b)):=by
 cases o with
 | none=>exact nomatch L
 | some s =>
  have h:=Tj (oi O) _ (oi L);rw[List.take_append_drop]at h;exact congrArg some h
noncomputable def a9:b3->ah H
 | .next _ σ=>.ok .none σ
 | .ret v _ σ=>.ok v σ
 | .exc i _ σ=>.exc i σ
 | _=>.stuck
section
variable {α β:Type}
theorem cg{a:α}{f:α->af->ah β}:(ah.ok a σ).bind f=f a σ:=rfl
theorem fV{a:α}{f:α->af->b3}:(ah.ok a σ).toS ρ f=f a σ:=rfl
theorem p6{a b:Str}:cX .eq (.str a) (.str b) σ=.ok (a == b) σ:=rfl
theorem JG{a b:Str}:cX .ne (.str a) (.str b) σ=.ok (!(a == b)) σ:=rfl
theorem l9{a b:Int}:cX .eq (.int a) (.int b) σ=.ok (a == b) σ:=rfl
theorem Bb{a b:Int}:cX .ne (.int a) (.int b) σ=.ok (!(a == b)) σ:=rfl
theorem lt_int{a b:Int}:cX .lt (.int a) (.int b) σ=.ok (decide (a<b)) σ:=rfl
theorem le_int{a b:Int}:cX .le (.int a) (.int b) σ=.ok (decide (a<=b)) σ:=rfl
theorem gt_int{a b:Int}:cX .gt (.int a) (.int b) σ=.ok (decide (a > b)) σ:=rfl
theorem add_int{a b:Int}:j3 .add (.int a) (.int b) σ=.ok (.int (a+b)) σ:=rfl
theorem sub_int{a b:Int}:j3 .sub (.int a) (.int b) σ=.ok (.int (a-b)) σ:=rfl
theorem mul_int{a b:Int}(h:a.natAbs<2 ^ 60\/b.natAbs<2 ^ 60):j3 .mul (.int a) (.int b) σ=.ok (.int (a*b)) σ:=by
 show(if qI a b=true then ah.ok (H.int (a*b)) σ else .stuck)=_;exact aE (dI h)
theorem gd{a b:Int}(h:0<b):j3 .mod (.int a) (.int b) σ=.ok (.int (a%b)) σ:=aE h
theorem zN{a b:Int}(h:0<b)(O:b<1073741824):j3 .fdiv (.int a) (.int b) σ=.ok (.int (a/b)) σ:=aE ⟨h,O⟩
theorem add_str{a b:Str}(h:a.length+b.length<=aI):j3 .add (.str a) (.str b) σ=.ok (.str (a++b)) σ:=by
 show(if a.length+b.length<=aI then ah.ok (H.str (a++b)) σ else .stuck)=_;exact aE h
theorem CQ{a b:List H}(h:a.length+b.length<=aI):j3 .add (.fl a) (.fl b) σ=.ok (.fl (a++b)) σ:=by
 show(if a.length+b.length<=aI then ah.ok (H.fl (a++b)) σ else .stuck)=_;exact aE h
theorem s7{f:List H->ah H}{a:H}(h:eM σ a=some xs):ki f a σ=f xs:=by unfold ki;rw[h]
theorem s6{γ:Type}{g:List H->Option γ}{f:γ->ah H}{a:H}{l:γ}(h:(cx σ a).bind g=some l):gh g f a σ=f l:=by unfold gh;rw[h]
theorem len_str{s:Str}(h:s.length<=aI):dx .len (.str s) σ=.ok (.int s.length) σ:=by
 show(if s.length<=aI then ah.ok (H.int s.length) σ else .stuck)=_;exact aE h
theorem AX(h:xs.length<=aI):dx .len (.tup xs) σ=.ok (.int xs.length) σ:=by
 show(if xs.length<=aI then ah.ok (H.int xs.length) σ else .stuck)=_;exact aE h
theorem AW(h:xs.length<=aI):dx .len (.fl xs) σ=.ok (.int xs.length) σ:=by
 show(if xs.length<=aI then ah.ok (H.int xs.length) σ else .stuck)=_;exact aE h
theorem SE(h:xs.length<=aI):dx (.list true) (.tup xs) σ=.ok (.fl xs) σ:=by
 show(if xs.length<=aI then ah.ok (H.fl xs) σ else .stuck)=_;exact aE h
theorem Lb(h:xs.length<=aI):dx .tuple (.fl xs) σ=.ok (.tup xs) σ:=by
 show(if xs.length<=aI then ah.ok (H.tup xs) σ else .stuck)=_;exact aE h
theorem int_bool{b:Bool}:dx .int (.bool b) σ=.ok (.int (if b then 1 else 0)) σ:=rfl
theorem nq(h:xs.length<=aI):fb true xs σ=.ok (.fl xs) σ:=aE h
theorem Tl(h:xs.length<=aI):fb false xs σ=.ok (.ref σ.length) (σ++[.lst xs]):=aE h
theorem v2{i:Int}{m:Nat}(h0:0<=i)(h:i.toNat<m):fD i m=some i.toNat:=by
 unfold fD;rw[aE h0,aE h]
theorem km{i:Int}{x:H}(hl:xs.length<=aI)(h0:0<=i)(h:xs[i.toNat]?=some x):f6 (.fl xs) (.int i) σ=.ok x σ:=by
 have hi:=(dS h).1;show(if xs.length<=aI then ah.ofOpt ((fD i xs.length).bind (xs[·]?)) σ else .stuck)=_;rw[aE hl,v2 h0 hi];show ah.ofOpt xs[i.toNat]? σ=_;rw[h];rfl
theorem BQ{i:Int}{x:H}(hl:xs.length<=aI)(h0:0<=i)(h:xs[i.toNat]?=some x):f6 (.tup xs) (.int i) σ=.ok x σ:=by
 have hi:=(dS h).1;show(if xs.length<=aI then ah.ofOpt ((fD i xs.length).bind (xs[·]?)) σ else .stuck)=_;rw[aE hl,v2 h0 hi];show ah.ofOpt xs[i.toNat]? σ=_;rw[h];rfl
theorem wN{i:Int}{x:H}(hr:σ[r]?=some (.lst xs))(hl:xs.length<=aI)(h0:0<=i)(h:xs[i.toNat]?=some x):f6 (.ref r) (.int i) σ=.ok x σ:=by
 have hi:=(dS h).1
 have e:cx σ (.ref r)=some xs:=by unfold cx;dsimp only;rw[hr]
 show(match cx σ (.ref r)with
  | some xs=>lD xs i σ
  | none=>.stuck)=_
 rw[e];show(if xs.length<=aI then ah.ofOpt ((fD i xs.length).bind (xs[·]?)) σ else .stuck)=_;rw[aE hl,v2 h0 hi];show ah.ofOpt xs[i.toNat]? σ=_;rw[h];rfl
theorem KJ{s:Str}{i:Int}(hl:s.cps.size<=aI)(h0:0<=i)(h:s.cps.toList[i.toNat]?=some c):f6 (.str s) (.int i) σ=.ok (.str ⟨#[c]⟩) σ:=by
 have hi:=(dS h).1
 have h':s.cps[i.toNat]?=some c:=by exact(Array.getElem?_toList)▸h
 show(if s.cps.size<=aI then(match(fD i s.cps.size).bind (s.cps[·]?)with
   | some c=>ah.ok (H.str ⟨#[c]⟩) σ
   | none=>.stuck)
  else .stuck)=_
 rw[aE hl,v2 h0 (by simpa using hi)]
 show(match s.cps[i.toNat]? with
   | some c=>ah.ok (H.str ⟨#[c]⟩) σ
   | none=>.stuck)=_
 rw[h']
theorem rF{P:Nat->Prop}:∀k,k<0->P k:=fun J h=>absurd h (Nat.not_lt_zero _)
theorem d9{P:Nat->Prop}(h:∀k,k<n->P k)(q:P n):∀k,k<n+1->P k:=fun k hk=>(Nat.lt_succ_iff_lt_or_eq.mp hk).elim (h k) fun e=>e▸q
theorem sW{P:Int->Prop}(h:∀k:Nat,k<n->P k){w:Int}(h0:0<=w)(L:w<n):P w:=by
 refine aM (iO h0) fun k ag=>?_;obtain rfl:=ag;exact h k (d3.mp L)
theorem BW{w:Int}(h0:0<=w)(L:w<n):w.toNat<n:=sW (P:=fun w=>w.toNat<n) (fun J h=>h) h0 L
theorem CR{a:Int}{k N:Nat}(aw:N≠0):((a+k)%N).toNat=((a%N).toNat+k)%N:=by
 have bp:(N:Int)≠0:=Int.ofNat_ne_zero.mpr aw;rw[<- Int.emod_add_emod];refine aM (iO (ey a bp)) fun m hm=>?_;rw[hm,jy,<- Int.natCast_add,<- Int.natCast_emod,jy]
theorem eL:aI=1000000:=rfl
theorem Dq{f:H->af->ah (Option H)}{g:H->H}:∀(xs:List H),(∀x∈xs,f x σ=.ok (some (g x)) σ)->ea none f xs σ=.ok (xs.map g) σ:=by
 intro xs
 induction xs with
 | nil =>
  intro _;exact aE trivial
 | cons x xs ao =>
  intro h;refine(aE trivial).trans ?_;rw[h x bu];show(ea none f xs σ).bind _=_;rw[ao fun y hy=>h y (bQ _ hy)];rfl
theorem m0{t:Nat}{elt it:X}(g:H->H)(bZ:evIt C it ρ σ=.ok (xs,none) σ)(hl:xs.length<=aI)
  (h:∀x∈xs,ev C elt ((dg cap ρ).set t (some x)) σ=.ok (g x) σ) (aR:C.hd=false:=by first | rfl | assumption):ev C (.comp true t cap elt (.k (.bool true)) it) ρ σ=.ok (.fl (xs.map g)) σ:=by
 rw[lp,aR,bZ];show ir xs.length (ea none (fun x σ=>((ah.ok true σ).bind fun b σ=>if b=true then(ev C elt ((dg cap ρ).set t (some x)) σ).bind fun v σ=>.ok (some v) σ else .ok none σ)) xs σ) _=_
 rw[Dq (g:=g) xs fun x hx=>by
  show(ev C elt ((dg cap ρ).set t (some x)) σ).bind _=_
  rw[h x hx];rfl]
 exact nq (by simpa using hl)
section
variable {a b c r:X}{gq:af}{x y z:H}
theorem cp{o:mT}{v:ah H}(ha:ev C a ρ σ=.ok x ac)(hb:ev C b ρ ac=.ok y au)(h:j3 o x y au=v):ev C (.bin o a b) ρ σ=v:=by
 rw[N7,ha,cg,hb,cg,h]
theorem cM{v:ah H}(ha:ev C a ρ σ=.ok x ac)(hb:ev C b ρ ac=.ok y au)(h:f6 x y au=v):ev C (.sub a b) ρ σ=v:=by
 rw[Og,ha,cg,hb,cg,h]
theorem BJ{o lo hi v:H}{a b:Option Int}(L:pc lo=some a)(O:pc hi=some b)(h:tt σ o a b=some v):kl o lo hi σ=.ok v σ:=by
 unfold kl;rw[L,O];show ah.ofOpt (tt σ o a b) σ=_;rw[h];rfl
theorem rU{v:ah H}(ha:ev C a ρ σ=.ok x ac)(hb:ev C b ρ ac=.ok y au)(hc:ev C c ρ au=.ok z gq)(h:kl x y z gq=v):ev C (.slice a b c) ρ σ=v:=by
 rw[DT,ha,cg,hb,cg,hc,cg,h]
theorem Mx{k:eG}:i8 false k x σ=dx k x σ:=rfl
theorem c0{k:eG}{v:ah H}(ha:ev C a ρ σ=.ok x ac)(h:dx k x ac=v)(aR:C.hd=false:=by first | rfl | assumption):ev C (.b1 k a) ρ σ=v:=by
 rw[DP,ha,cg,aR,Mx,h]
theorem DD{v:ah H}(ha:ev C a ρ σ=.ok x ac)(hb:ev C b ρ ac=.ok y au)(h:qF x y au=v)(aR:C.hd=false:=by first | rfl | assumption):ev C (.min2 a b) ρ σ=v:=by
 rw[DR,aR];show(ev C a ρ σ).bind _=_;rw[ha,cg,hb,cg,h]
theorem eb{f:Nat}{v:ah H}(ha:ev C a ρ σ=.ok x ac)(h:C.call f [x] ac=v):ev C (.call f #v[a]) ρ σ=v:=by
 rw[uu,lq,ha,cg,hV];exact h
theorem iu{f:Nat}{v:ah H}(ha:ev C a ρ σ=.ok x ac)(hb:ev C b ρ ac=.ok y au)(h:C.call f [x,y] au=v):ev C (.call f #v[a,b]) ρ σ=v:=by
 rw[uu,lq,ha,cg,lq,hb,cg,hV];exact h
theorem m3{f:Nat}{v:ah H}(ha:ev C a ρ σ=.ok x ac)(hb:ev C b ρ ac=.ok y au)(hc:ev C c ρ au=.ok z gq)(h:C.call f [x,y,z] gq=v):ev C (.call f #v[a,b,c]) ρ σ=v:=by
 rw[uu,lq,ha,cg,lq,hb,cg,lq,hc,cg,hV];exact h
theorem gU{m:ie}{v:ah H}(ha:ev C a ρ σ=.ok x ac)(hm:o6 m x ac=true)(hb:ev C b ρ ac=.ok y au)(h:jk m x [y] au=v):ev C (.me m a #v[b]) ρ σ=v:=by
 rw[DQ,ha,cg,aE hm,lq,hb,cg,hV];exact h
theorem x0{t:jZ}(ha:ev C a ρ σ=.ok x ac)(h:kN x t ac=.ok q ac):ev C (.isinst a t) ρ σ=.ok (.bool q) ac:=by
 rw[Ob,ha,cg,h];rfl
theorem fm{o:iJ}(ha:ev C a ρ σ=.ok x ac)(hb:ev C b ρ ac=.ok y au)(h:cX o x y au=.ok q gq):ev C (.cmp a o b) ρ σ=.ok (.bool q) gq:=by
 rw[N8,ha,cg,hb,cg,h];rfl
theorem ln{xs:X}{v:ah H}(h:evAnd C xs ρ σ=v):ev C (.and xs) ρ σ=v:=h
theorem l5{v:ah H}(h:ev C a ρ σ=v):evAnd C #v[a] ρ σ=v:=h
theorem jI{xs:X}{v:ah Bool}(h:tstAnd C xs ρ σ=v):tst C (.and xs) ρ σ=v:=h
theorem h6{xs:X}{v:ah Bool}(h:tstOr C xs ρ σ=v):tst C (.or xs) ρ σ=v:=h
theorem l6{v:ah H}(ha:ev C a ρ σ=.ok (.bool true) ac)(hb:evAnd C (.cons b r) ρ ac=v):evAnd C (.cons a (.cons b r)) ρ σ=v:=by
 rw[rY,ha];exact hb
theorem b7{o:iJ}{v:ah Bool}(ha:ev C a ρ σ=.ok x ac)(hb:ev C b ρ ac=.ok y au)(h:cX o x y au=v):tst C (.cmp a o b) ρ σ=v:=by
 rw[Xs,ha,cg,hb,cg,h]
theorem fU(ha:tst C a ρ σ=.ok q ac):tst C (.not a) ρ σ=.ok (!q) ac:=by
 rw[Xv,ha];rfl
theorem h5{f:Nat}{args:X}(h:ev C (.call f args) ρ σ=.ok (.bool q) ac):tst C (.call f args) ρ σ=.ok q ac:=by
 rw[Xr,h];rfl
theorem Wz{k:eG}(h:ev C (.b1 k a) ρ σ=.ok (.bool q) ac):tst C (.b1 k a) ρ σ=.ok q ac:=by
 rw[Xq,h];rfl
theorem BV{t:jZ}(h:ev C (.isinst a t) ρ σ=.ok (.bool q) ac):tst C (.isinst a t) ρ σ=.ok q ac:=by
 rw[Xu,h];rfl
theorem h7{v:ah Bool}(ha:tst C a ρ σ=.ok false ac)(h:tstOr C r ρ ac=v):tstOr C (.cons a r) ρ σ=v:=by
 rw[rh,ha];exact h
theorem KP(ha:tst C a ρ σ=.ok true ac):tstOr C (.cons a r) ρ σ=.ok true ac:=by
 rw[rh,ha];rfl
theorem BU{v:ah Bool}(ha:tst C a ρ σ=.ok true ac)(h:tstAnd C r ρ ac=v):tstAnd C (.cons a r) ρ σ=v:=by
 rw[rg,ha];exact h
theorem KN(ha:tst C a ρ σ=.ok false ac):tstAnd C (.cons a r) ρ σ=.ok false ac:=by
 rw[rg,ha];rfl
theorem rc{p:Bool}(ha:tst C a ρ σ=.ok q ac)(h:q=false->tstOr C r ρ ac=.ok p ac):tstOr C (.cons a r) ρ σ=.ok (q||p) ac:=by
 rw[rh,ha,cg];cases q
 ·exact h rfl
 ·rfl
theorem iZ(ha:tst C a ρ σ=.ok q ac):tstOr C #v[a] ρ σ=.ok q ac:=by
 rw[rh,ha,cg];cases q <;> rfl
theorem nJ{p:Bool}(ha:tst C a ρ σ=.ok q ac)(h:q=true->tstAnd C r ρ ac=.ok p ac):tstAnd C (.cons a r) ρ σ=.ok (q&&p) ac:=by
 rw[rg,ha,cg];cases q
 ·rfl
 ·exact h rfl
theorem k4(ha:tst C a ρ σ=.ok q ac):tstAnd C #v[a] ρ σ=.ok q ac:=by
 rw[rg,ha,cg];cases q <;> rfl
theorem un{p:Bool}(ha:ev C a ρ σ=.ok (.bool q) ac)(h:q=true->evAnd C (.cons b r) ρ ac=.ok (.bool p) ac):evAnd C (.cons a (.cons b r)) ρ σ=.ok (.bool (q&&p)) ac:=by
 rw[rY,ha];cases q
 ·rfl
 ·exact h rfl
theorem xZ{i j k:Int}(ha:ev C a ρ σ=.ok (.int i) σ)(hb:ev C b ρ σ=.ok (.int j) σ)(hc:ev C c ρ σ=.ok (.int k) σ):ev C (.cmp2 a .le b .le c) ρ σ=.ok (.bool (decide (i<=j)&&decide (j<=k))) σ:=by
 rw[N9,ha,cg,hb,cg,le_int,cg];cases decide (i<=j)
 ·rfl
 ·rw[aE rfl,hc,cg,le_int];rfl
theorem KO{i j k:Int}(ha:ev C a ρ σ=.ok (.int i) σ)(hb:ev C b ρ σ=.ok (.int j) σ)(hc:ev C c ρ σ=.ok (.int k) σ):tst C (.cmp2 a .le b .le c) ρ σ=.ok (decide (i<=j)&&decide (j<=k)) σ:=by
 rw[K8,ha,cg,hb,cg,le_int,cg];cases decide (i<=j)
 ·rfl
 ·rw[aE rfl,hc,cg,le_int];rfl
theorem c4{vs:List H}(ha:ev C a ρ σ=.ok x ac)(h:evs C r ρ ac=.ok vs au):evs C (.cons a r) ρ σ=.ok (x::vs) au:=by
 rw[lq,ha,cg,h];rfl
theorem j7{xs:X}{vs:List H}(h:evs C xs ρ σ=.ok vs ac)(hl:vs.length<=aI):ev C (.tup xs) ρ σ=.ok (.tup vs) ac:=by
 rw[Oh,h,cg,aE hl]
theorem NH{xs:X}{vs:List H}(h:evs C xs ρ σ=.ok vs ac)(hl:vs.length<=aI):ev C (.lst true xs) ρ σ=.ok (.fl vs) ac:=by
 rw[Oc,h,cg,nq hl]
theorem DC{ks:List Str}{vals:List H}{k:Str}(ha:ev C a ρ σ=.ok (.str k) ac)(hb:ev C b ρ ac=.ok y au):ev C (.fdget ks vals a b) ρ σ=.ok ((jn k (ks.zip vals)).getD y) au:=by
 rw[Oa,ha,cg,hb,cg];rfl
end
theorem ai{a r:S}(h:ex C n a ρ σ=.next ρ' σ'):ex C n (.cons a r) ρ σ=ex C n r ρ' σ':=by
 show nB (fun ρ σ=>ex C n r ρ σ) (ex C n a ρ σ)=_;rw[h];rfl
theorem be{a r:S}{v:H}(h:ex C n a ρ σ=.ret v ρ' σ'):ex C n (.cons a r) ρ σ=.ret v ρ' σ':=by
 show nB (fun ρ σ=>ex C n r ρ σ) (ex C n a ρ σ)=_;rw[h];rfl
theorem Ol{a r:S}(h:ex C n a ρ σ=.brk ρ' σ'):ex C n (.cons a r) ρ σ=.brk ρ' σ':=by
 show nB (fun ρ σ=>ex C n r ρ σ) (ex C n a ρ σ)=_;rw[h];rfl
theorem bH{x:X}{v:H}(h:ev C x ρ σ=.ok v σ'):ex C n (.asg i x) ρ σ=.next (ρ.set i (some v)) σ':=by
 show(ev C x ρ σ).toS ρ _=_;rw[h];rfl
theorem cT{x:X}{v:H}(h:ev C x ρ σ=.ok v σ'):ex C n (.ret x) ρ σ=.ret v ρ σ':=by
 show(ev C x ρ σ).toS ρ _=_;rw[h];rfl
theorem fM{x:X}(h:ev C x ρ σ=.ok .none σ'):ex C n (.expr x) ρ σ=.next ρ σ':=by
 show(ev C x ρ σ).toS ρ _=_;rw[h];rfl
theorem cj{c:X}{a b:S}(h:tst C c ρ σ=.ok true σ'):ex C n (.ife c a b) ρ σ=ex C n a ρ σ':=by
 show(tst C c ρ σ).toS ρ _=_;rw[h];rfl
theorem rZ{c:X}{a b:S}(h:tst C c ρ σ=.ok false σ'):ex C n (.ife c a b) ρ σ=ex C n b ρ σ':=by
 show(tst C c ρ σ).toS ρ _=_;rw[h];rfl
theorem bE:ex C n .nil ρ σ=.next ρ σ:=rfl
theorem bx{c:X}{a:S}(h:tst C c ρ σ=.ok false σ'):ex C n (.ife c a .nil) ρ σ=.next ρ σ':=(rZ h).trans bE
theorem Oo{b h:S}{o:b3}(e:ex C n b ρ σ=o)(ho:∀c ρ σ,o≠.exc c ρ σ):ex C n (.tryE b eN i h) ρ σ=o:=by
 show wX (fun c ρ σ=>bif C.rz then(if eN.contains c/\i<ρ.length then p1 (ex C.inH n h (ρ.set i (some (.exc c))) σ)else b3.stuck)else .stuck) (ex C n b ρ σ)=_;rw[e]
 cases o <;> first | rfl | exact absurd rfl (ho _ _ _)
theorem Op{b h:S}(e:ex C n b ρ σ=.exc c ρ' σ')(hc:eN.contains c=true)(hi:i<ρ'.length)(aR:C.rz=true:=by first | rfl | assumption) :
  ex C n (.tryE b eN i h) ρ σ=p1 (ex C.inH n h (ρ'.set i (some (.exc c))) σ'):=by
 show wX (fun c ρ σ=>bif C.rz then(if eN.contains c/\i<ρ.length then p1 (ex C.inH n h (ρ.set i (some (.exc c))) σ)else b3.stuck)else .stuck) (ex C n b ρ σ)=_;rw[e];show(bif C.rz then _ else _)=_;rw[aR];exact aE ⟨hc,hi⟩
theorem p9{a r:S}(h:ex C n a ρ σ=.exc c ρ' σ'):ex C n (.cons a r) ρ σ=.exc c ρ' σ':=by
 show nB (fun ρ σ=>ex C n r ρ σ) (ex C n a ρ σ)=_;rw[h];rfl
theorem Oj{x:X}(h:ev C x ρ σ=.exc c σ'):ex C n (.asg i x) ρ σ=.exc c ρ σ':=by
 show(ev C x ρ σ).toS ρ _=_;rw[h];rfl
theorem On{x:X}(h:ev C x ρ σ=.exc c σ'):ex C n (.ret x) ρ σ=.exc c ρ σ':=by
 show(ev C x ρ σ).toS ρ _=_;rw[h];rfl
section
variable {f:aB->af->b3}{x:H}
theorem eS:ch none iQ f [] ρ σ=.next ρ σ:=aE trivial
theorem ek(hb:iQ x ρ=some b4)(h:f b4 σ=.next fw au):ch none iQ f (x::xs) ρ σ=ch none iQ f xs fw au:=by
 refine(aE trivial).trans ?_;rw[hb];show kP _ (f b4 σ)=_;rw[h];rfl
theorem OS(hb:iQ x ρ=some b4)(h:f b4 σ=.brk fw au):ch none iQ f (x::xs) ρ σ=.next fw au:=by
 refine(aE trivial).trans ?_;rw[hb];show kP _ (f b4 σ)=_;rw[h];rfl
theorem eY{it:X}{body:S}{o:b3}(bZ:evIt C it ρ σ=.ok (ys,none) ac)(h:ch none (dm i) (fun ρ σ=>ex C n body ρ σ) ys ρ ac=o)(aR:C.hd=false:=by first | rfl | assumption):ex C n (.for1 i it body) ρ σ=o:=by
 show(bif C.hd then b3.stuck else(evIt C it ρ σ).toS ρ _)=_;exact aR.symm▸bZ.symm▸h
end
theorem MU{P:gI}{f:Nat}{vs:List H}(bf:P.fns[f]?=some fn)(hl:vs.length=fn.params) :
  bv P n (d+1) f vs σ=a9 (ex (fK P n 0 d) n fn.body (vs.map some++List.replicate (fn.slots-fn.params) none) σ):=by
 show(match P.fns[f]? with
  | some fn=>if vs.length=fn.params then
    match ex (fK P n 0 d) n fn.body (vs.map some++List.replicate (fn.slots-fn.params) none) σ with
    | .next _ σ=>ah.ok H.none σ
    | .ret v _ σ=>.ok v σ
    | .exc i _ σ=>.exc i σ
    | _=>.stuck
   else .stuck
  | none=>.stuck)=_
 rw[bf];dsimp only;rw[aE hl];cases ex (fK P n 0 d) n fn.body (vs.map some++List.replicate (fn.slots-fn.params) none) σ <;> rfl
end
noncomputable def CC(d:Nat):bq:=fK PP topN 0 d
theorem cs{f:Nat}{vs:List H}(bf:PP.fns[f]?=some fn)(hl:vs.length=fn.params) :
  bv PP topN (d+1) f vs σ=a9 (ex (CC d) topN fn.body (vs.map some++List.replicate (fn.slots-fn.params) none) σ):=MU bf hl
noncomputable def iV:List Nat:=("abcdefghijklmnopqrstuvwxyz" : Str).cps.toList
noncomputable def zQ:List Nat:=("0123456789" : Str).cps.toList
structure g8(s:Str):Prop where
 pos:1<=s.length
 len:s.length<=8
 fst:∀c,s.cps.toList[0]?=some c->c∈iV
 all:∀c∈s.cps.toList,c∈iV\/c∈zQ
noncomputable def pt(c:Nat):Bool:=iV.contains c||zQ.contains c
noncomputable def iY(s:Str):Bool:=decide (1<=s.length)&&decide (s.length<=8)&&(s.cps.toList.take 1).all (fun c=>iV.contains c)&&s.cps.toList.all pt
theorem Ba{s:Str}(h:iY s=true):g8 s:=by
 simp only[iY,pt,eW,i5,fZ,Bool.or_eq_true,mY]at h;refine⟨h.1.1.1,h.1.1.2,fun c hc=>?_,h.2⟩;refine h.1.2 c ?_
 cases hq:s.cps.toList with
 | nil=>rw[hq]at hc;cases hc
 | cons x r=>rw[hq]at hc;simp at hc;subst hc;(exact bu)
theorem Jy{s:Str}(h:g8 s):iY s=true:=by
 simp only[iY,pt,eW,i5,fZ,Bool.or_eq_true,mY];refine⟨⟨⟨h.pos,h.len⟩,fun c hc=>h.fst c ?_⟩,h.all⟩
 cases hq:s.cps.toList with
 | nil=>rw[hq]at hc;(exact nomatch hc)
 | cons x r=>rw[hq]at hc;simp at hc;simp[hc]
theorem h0{i:Int}:bv PP topN (d+1) sR [.int i] σ=.ok (.bool (decide (0<=i)&&decide (i<=999999))) σ:=by
 rw[cs (fn:=uZ) rfl rfl]
 have:ex (CC d) topN uZ.body [ae i,none,none,none,none] σ=.ret (.bool (decide (0<=i)&&decide (i<=999999))) [ae i,none,none,none,none] σ:=
  be (cT (ln (l6 (ac:=σ) rfl (l6 (ac:=σ) rfl (l5 (xZ rfl rfl rfl))))))
 show a9 (ex (CC d) topN uZ.body [ae i,none,none,none,none] σ)=_;rw[this];rfl
theorem T6{y:Str}:cX .notin (.str ⟨#[c]⟩) (.str y) σ=.ok (!(y.cps.toList.contains c)) σ:=rfl
theorem L7{α:Type}{xs:List α}{g:α->Bool}:dx .all (.fl (xs.map fun x=>.bool (g x))) σ=.ok (.bool (xs.all g)) σ:=by
 have e:∀xs:List α,l1 (xs.map fun x=>.bool (g x))=some (xs.map g):=by
  intro xs
  induction xs with
  | nil=>rfl
  | cons x xs ao =>
   show(l1 (xs.map fun x=>.bool (g x))).map (g x::·)=_;rw[ao];rfl
 refine(s6 (σ:=σ) (a:=.fl _) (l:=xs.map g) (g:=l1) (e xs)).trans ?_;rw[List.all_map];rfl
theorem xD{α:Type}{t:Nat}{elt it:X}{xs:List α}{w:α->H}{g:α->Bool}(bZ:evIt C it ρ σ=.ok (xs.map w,none) σ)(hl:xs.length<=aI)
  (h:∀x∈xs,ev C elt ((dg cap ρ).set t (some (w x))) σ=.ok (.bool (g x)) σ) (aR:C.hd=false:=by first | rfl | assumption):ev C (.b1 .all (.comp true t cap elt (.k (.bool true)) it)) ρ σ=.ok (.bool (xs.all g)) σ:=by
 refine c0 (x:=.fl (xs.map fun x=>.bool (g x))) (ac:=σ) ?_ L7 aR;rw[lp,aR,bZ];show ir xs.length (ea none (fun x σ=>((ah.ok true σ).bind fun b σ=>if b=true then(ev C elt ((dg cap ρ).set t (some x)) σ).bind fun v σ=>.ok (some v) σ else .ok none σ)) (xs.map w) σ) _=_
 have e:∀ys:List α,(∀x∈ys,ev C elt ((dg cap ρ).set t (some (w x))) σ=.ok (.bool (g x)) σ)->ea none (fun x σ=>((ah.ok true σ).bind fun b σ=>if b=true then(ev C elt ((dg cap ρ).set t (some x)) σ).bind fun v σ=>.ok (some v) σ else .ok none σ)) (ys.map w) σ=.ok (ys.map fun x=>.bool (g x)) σ:=by
  intro ys
  induction ys with
  | nil=>intro _;exact aE trivial
  | cons y ys ao =>
   intro hy;refine(aE trivial).trans ?_;dsimp only;rw[cg,aE rfl,hy y bu,cg,cg];rw[ao fun x hx=>hy x (bQ _ hx)];rfl
 exact(e xs h).symm▸(nq (by simpa using hl))
theorem L{s:Str}(da:s.length<=aI):bv PP topN (d+1) vY [.str s] σ=.ok (.bool (iY s)) σ:=by
 rw[cs (fn:=Ez) rfl rfl];show a9 (ex (CC d) topN #v[uR,yz] [aS s,none,none,none,none,none,none] σ)=_
 have hsz:s.length=s.cps.toList.length:=by simp[Str.length]
 have bP:tst (CC d) (.or #v[(.not (.isinst (.v 0) .str)),(.not (.cmp2 (aa 1) .le (.b1 .len (.v 0)) .le (aa 8))),(.cmp (.sub (.v 0) (aa 0)) .notin (.k (.str "abcdefghijklmnopqrstuvwxyz")))]) [aS s,none,none,none,none,none,none] σ =
   .ok (!(decide (1<=s.length)&&decide (s.length<=8))||!(s.cps.toList.take 1).all (fun c=>iV.contains c)) σ:=by
  refine h6 (h7 (ac:=σ) rfl (rc ((fU (KO rfl (c0 rfl (len_str da)) rfl)).trans ?_) fun hq=>iZ ?_))
  ·rw[show decide ((1:Int)<=(s.length:Int))=decide (1<=s.length)from decide_eq_decide.mpr (by grind),show decide ((s.length:Int)<=8)=decide (s.length<=8)from decide_eq_decide.mpr (by grind)]
  ·simp only[Bool.not_eq_false',eW,i5]at hq
   cases hx:s.cps.toList with
   | nil=>rw[hsz,hx]at hq;(exact nomatch hq)
   | cons c r =>
    refine(b7 (cM rfl rfl (KJ (c:=c) (i:=0) da ((d8 _)) (by rw[hx];rfl))) rfl T6).trans ?_;show ah.ok (!iV.contains c) σ=_;simp
 have V:ex (CC d) topN yz [aS s,none,none,none,none,none,none] σ=.ret (.bool (s.cps.toList.all pt)) [aS s,none,none,none,none,none,none] σ:=by
  refine cT (xD (xs:=s.cps.toList) (w:=fun c=>.str ⟨#[c]⟩) (g:=pt) rfl (hsz▸da) fun c hc=>?_);rw[Of,ut];show(if iV.contains c=true then ah.ok (H.bool (iV.contains c)) σ else _)=_;unfold pt
  cases q:iV.contains c with
  | true=>rfl
  | false=>rfl
 cases hq:(!(decide (1<=s.length)&&decide (s.length<=8))||!(s.cps.toList.take 1).all (fun c=>iV.contains c))with
 | true =>
  rw[hq]at bP;rw[be (a:=uR) ((cj bP).trans rfl)]
  have:iY s=false:=by
   unfold iY;revert hq;cases(decide (1<=s.length)&&decide (s.length<=8)) <;> cases((s.cps.toList.take 1).all fun c=>iV.contains c) <;> simp
  rw[this];rfl
 | false =>
  rw[hq]at bP;rw[ai (a:=uR) (bx bP),be V]
  have:iY s=s.cps.toList.all pt:=by
   unfold iY;revert hq;cases(decide (1<=s.length)&&decide (s.length<=8)) <;> cases((s.cps.toList.take 1).all fun c=>iV.contains c) <;> simp
  rw[this];rfl
noncomputable def nr(l:List Str)(m:Nat):Bool:=(decide (1<=l.length)&&decide (l.length<=m))&&l.all iY
theorem uk{a b:Nat}:decide ((a:Int)<=(b:Int))=decide (a<=b):=decide_eq_decide.mpr (by grind)
theorem O{l:List Str}{m:Nat}(h:∀n∈l,n.length<=aI)(hl:l.length<=aI):bv PP topN (d+2) mm [.tup (l.map .str),.int m] σ=.ok (.bool (nr l m)) σ:=by
 have hZ:(l.map H.str).length<=aI:=by rw[bh];exact hl
 rw[cs (fn:=uL) rfl rfl]
 have:ex (CC (d+1)) topN uL.body [some (.tup (l.map .str)),ae m,none,none,none,none] σ=.ret (.bool (nr l m)) [some (.tup (l.map .str)),ae m,none,none,none,none] σ:=by
  refine be (cT (ln (l6 rfl (un ?_ fun J=>l5 ?_))))
  ·refine(xZ (i:=((1:Nat):Int)) (k:=(m:Int)) rfl (c0 rfl (AX hZ)) rfl).trans ?_;rw[bh,uk,uk]
  ·exact xD (xs:=l) (w:=.str) (g:=iY) rfl hl fun n hn=>eb rfl (L (h n hn))
 show a9 (ex (CC (d+1)) topN uL.body [some (.tup (l.map .str)),ae m,none,none,none,none] σ)=_;rw[this];rfl
theorem L6:∀l:List Str,kD (l.map .str)=some l:=by
 intro l
 induction l with
 | nil =>
  exact rfl
 | cons x l ao =>
  show(kD (l.map .str)).map (x::·)=_;rw[ao];rfl
theorem Nw:∀(l a:List Str),a.Nodup->(l.foldl (fun a x=>if a.any (· == x)then a else a++[x]) a).length<=a.length+l.length ∧
  ((l.foldl (fun a x=>if a.any (· == x)then a else a++[x]) a).length=a.length+l.length ↔ (a++l).Nodup):=by
 intro l
 induction l with
 | nil =>
  intro a h;simpa using h
 | cons x l ao =>
  intro a h;rw[i7]
  cases hx:a.any (· == x)with
  | true =>
   rw[aE rfl];refine aW (ao a h) fun L O=>?_;rw[dj];refine⟨(Nat.le_succ_of_le (by assumption)),⟨fun q=>absurd q (by grind),fun q=>?_⟩⟩;refine az (List.any_eq_true.mp hx) fun y hy e=>?_
   have e:y=x:=by simpa using e
   subst e;rw[hQ]at q;exact absurd rfl (q.2.2 y hy y ((bu)))
  | false =>
   rw[a5 (by trivial)]
   have hn:(a++[x]).Nodup:=by
    rw[hQ];refine⟨h,by simp,fun y hy z bp e=>?_⟩;rw[df]at bp;subst bp;subst e;rw[List.any_eq_false]at hx;exact hx y hy (by simp)
   refine aW (ao (a++[x]) hn) fun L O=>?_;rw[cN,List.length_singleton]at L O;rw[dj];refine⟨by grind,?_⟩;rw[eQ,List.singleton_append]at O;rw[<- O]
   (grind)
theorem Nx{l:List Str}:(gS l).length=l.length ↔ l.Nodup:=by
 have:=(Nw l [] (by trivial)).2;rw[List.length_nil,ij,List.nil_append]at this;exact this
noncomputable def jK(l:List Str):Bool:=(gS l).length == l.length
theorem Le{l:List Str}:jK l=true ↔ l.Nodup:=by
 unfold jK;rw[fy];exact Nx
theorem Ss{v:H}{l:List Str}(hv:eM σ v=some (l.map .str))(hl:l.length<=1000):dx .lenset v σ=.ok (.int (gS l).length) σ:=by
 have e:dx .lenset v σ=match(eM σ v).bind kD with
  | some l=>if l.length<=1000 then .ok (.int (gS l).length) σ else .stuck
  | none=>.stuck:=by cases v <;> rfl
 rw[e,hv]
 show(match kD (l.map .str)with
  | some l=>if l.length<=1000 then ah.ok (H.int (gS l).length) σ else .stuck
  | none=>.stuck)=_
 rw[L6];dsimp only;rw[aE hl]
theorem I9{v:H}(hv:eM σ v=some xs)(hn:∀s,v≠.str s)(hl:xs.length<=aI):dx .len v σ=.ok (.int xs.length) σ:=by
 have e:dx .len v σ=ki (fun xs=>if xs.length<=aI then .ok (.int xs.length) σ else .stuck) v σ:=by cases v <;> first | rfl | exact absurd rfl (hn _)
 rw[e,s7 hv,aE hl]
theorem ax{v:H}{l:List Str}(hv:eM σ v=some (l.map .str))(hn:∀s,v≠.str s)(hl:l.length<=1000):bv PP topN (d+1) oZ [v] σ=.ok (.bool (jK l)) σ:=by
 rw[cs (fn:=uM) rfl rfl]
 have:ex (CC d) topN uM.body [some v,none,none] σ=.ret (.bool (jK l)) [some v,none,none] σ:=by
  refine be (cT ?_);refine fm (q:=jK l) (c0 rfl (Ss hv hl)) (c0 rfl (I9 hv hn (by rw[bh];exact aK hl (by decide)))) ?_;rw[l9,bh];unfold jK;congr 1;rw[Bool.eq_iff_iff];simp only[fy];(grind)
 show a9 (ex (CC d) topN uM.body [some v,none,none] σ)=_;rw[this];rfl
inductive c7 where
 | word (w:Str)
 | fixed (v:Int)
noncomputable def c7.pv:c7->H
 | .word w=>.tup [.str w]
 | .fixed v=>.tup [.str "fixed",.int v]
inductive fG:c7->Nat->Nat->Prop where
 | sum (n g:Nat):fG (.word "sum") n g
 | times (n g:Nat):fG (.word "times") n g
 | least (n g:Nat):fG (.word "least") n g
 | most (n g:Nat):fG (.word "most") n g
 | later (g:Nat):fG (.word "later") 1 g
 | way:fG (.word "way") 2 2
 | choose (g:Nat):fG (.word "choose") 3 g
 | fixed (v:Int) (n g:Nat):0<=v->v<=999999->fG (.fixed v) n g
noncomputable def mC:c7->Nat->Nat->Bool
 | .fixed v,_,_=>decide (0<=v)&&decide (v<=999999)
 | .word w,n,g=>if w == ("fixed" : Str)then false else if w == ("later" : Str)then n == 1 else if w == ("way" : Str)then(n == 2&&g == 2)else if w == ("choose" : Str)then n == 3 else
   [("sum" : Str), "times", "least", "most"].any fun y=>y == w
set_option tactic.hygienic true in
theorem Vf{r:c7}{g:Nat}(h:mC r n g=true):fG r n g:=by
 cases r with
 | fixed v =>
  simp only[mC,eW,i5]at h;exact .fixed v n g h.1 h.2
 | word w =>
  simp only[mC]at h
  split at h
  ·cases h
  ·split at h
   ·rename_i q;rw[fy]at q h;subst q;subst h;exact .later g
   ·split at h
    ·rename_i q;rw[eW]at h;rw[fy]at q h;refine aW h fun L O=>?_;rw[fy]at O;subst q;subst L;subst O;exact .way
    ·split at h
     ·rename_i q;rw[fy]at q h;subst q;subst h;exact .choose g
     ·simp only[List.any_cons,List.any_nil,Bool.or_false,Bool.or_eq_true,fy]at h
      rcases h with q | q | q | q
      ·rw[<- q];exact .sum n g
      ·rw[<- q];exact .times n g
      ·rw[<- q];exact .least n g
      ·rw[<- q];exact .most n g
theorem Ve{r:c7}{g:Nat}(h:fG r n g):mC r n g=true:=by
 cases h with
 | fixed v n g q1 q2=>simp[mC,q1,q2]
 | _=>rfl
theorem ua{k:Nat}:((n:Int) == ((k:Nat):Int))=(n == k):=by
 rw[Bool.eq_iff_iff];simp only[fy];(grind)
theorem S5{w:Str}:cX .isin (.str w) (.tup [.str "sum",.str "times",.str "least",.str "most"]) σ=.ok ([("sum" : Str), "times", "least", "most"].any fun y=>y == w) σ:=rfl
theorem aT{r:c7}{n g:Nat}:bv PP topN (d+2) Ip [r.pv,.int n,.int g] σ=.ok (.bool (mC r n g)) σ:=by
 rw[cs (fn:=uT) rfl rfl]
 cases r with
 | fixed v =>
  have:ex (CC (d+1)) topN uT.body [some (.tup [.str "fixed",.int v]),ae n,ae g,none,none,none,none,none,none] σ=.ret (.bool (mC (.fixed v) n g)) [some (.tup [.str "fixed",.int v]),ae n,ae g,none,none,none,none,none,none] σ:=by
   refine(ai (a:=uU) (ρ':=[some (.tup [.str "fixed",.int v]),ae n,ae g,none,none,none,none,none,none]) (σ':=σ) rfl).trans (be (a:=r3) ?_);refine(cj (σ':=σ) rfl).trans (be (cT ?_));exact ln (l6 rfl (l5 (eb rfl h0)))
  show a9 (ex (CC (d+1)) topN uT.body [some (.tup [.str "fixed",.int v]),ae n,ae g,none,none,none,none,none,none] σ)=_;rw[this];rfl
 | word w =>
  show a9 (ex (CC (d+1)) topN #v[uU,r3,yD,uV,uW,uX,yE] [some (.tup [.str w]),ae n,ae g,none,none,none,none,none,none] σ)=_;have ts:∀k:Str,tst (CC (d+1)) (.cmp (.sub (.v 0) (aa 0)) .eq (.k (.str k))) [some (.tup [.str w]),ae n,ae g,none,none,none,none,none,none] σ=.ok (w == k) σ:=fun k=>rfl;rw[ai (a:=uU) (ρ':=[some (.tup [.str w]),ae n,ae g,none,none,none,none,none,none]) (σ':=σ) rfl];simp only[mC]
  cases L:w == ("fixed" : Str)with
  | true =>
   rw[be (a:=r3) ((cj (σ':=σ) (by rw[ts,L])).trans (be (cT (ln (v:=.ok (.bool false) σ) rfl))))];rfl
  | false =>
   rw[ai (a:=r3) (bx (σ':=σ) (by rw[ts,L]))];rw[ai (a:=yD) (ρ':=[some (.tup [.str w]),ae n,ae g,none,none,none,none,none,none]) (σ':=σ) rfl]
   cases O:w == ("later" : Str)with
   | true =>
    rw[be (a:=uV) ((cj (σ':=σ) (by rw[ts,O])).trans (be (cT (fm (x:=.int n) (y:=.int ((1:Nat):Int)) (ac:=σ) (au:=σ) rfl rfl (l9.trans (by rw[ua]))))))];rfl
   | false =>
    rw[ai (a:=uV) (bx (σ':=σ) (by rw[ts,O]))]
    cases ax:w == ("way" : Str)with
    | true =>
     rw[be (a:=uW) ((cj (σ':=σ) (by rw[ts,ax])).trans (be (cT (ln (un (q:=n == 2) (p:=g == 2) (fm (x:=.int n) (y:=.int ((2:Nat):Int)) (ac:=σ) (au:=σ) rfl rfl (l9.trans (by rw[ua]))) fun J=>l5 (fm (x:=.int g) (y:=.int ((2:Nat):Int)) (ac:=σ) (au:=σ) rfl rfl (l9.trans (by rw[ua]))))))))];rfl
    | false =>
     rw[ai (a:=uW) (bx (σ':=σ) (by rw[ts,ax]))]
     cases aT:w == ("choose" : Str)with
     | true =>
      rw[be (a:=uX) ((cj (σ':=σ) (by rw[ts,aT])).trans (be (cT (fm (x:=.int n) (y:=.int ((3:Nat):Int)) (ac:=σ) (au:=σ) rfl rfl (l9.trans (by rw[ua]))))))];rfl
     | false =>
      rw[ai (a:=uX) (bx (σ':=σ) (by rw[ts,aT]))];rw[be (a:=yE) (cT (fm (x:=.str w) (y:=.tup [.str "sum",.str "times",.str "least",.str "most"]) (ac:=σ) (au:=σ) rfl rfl S5))];rfl
structure am where
 name:Str
 rule:c7
 needs:List Str
 gives:List Str
noncomputable def am.pv(s:am):H:=.tup [.str s.name,s.rule.pv,.tup (s.needs.map .str),.tup (s.gives.map .str)]
structure gK(s:am):Prop where
 name:g8 s.name
 needs:∀n∈s.needs,g8 n
 needs1:1<=s.needs.length
 needs4:s.needs.length<=4
 gives:∀n∈s.gives,g8 n
 gives1:1<=s.gives.length
 gives3:s.gives.length<=3
 unlike:s.gives.Nodup
 rule:fG s.rule s.needs.length s.gives.length
structure dG(p:List am):Prop where
 pos:1<=p.length
 most:p.length<=20
 steps:∀s∈p,gK s
 names:(p.map (·.name)).Nodup
 gives:(p.flatMap (·.gives)).Nodup
noncomputable def bg(p:List am):H:=.tup (p.map am.pv)
noncomputable def nG(s:am):Bool:=iY s.name&&(nr s.needs 4&&(nr s.gives 3&&(jK s.gives&&mC s.rule s.needs.length s.gives.length)))
noncomputable def th(p:List am):Bool:=(decide (1<=p.length)&&decide (p.length<=20))&&(p.all nG&&(jK (p.map (·.name))&&jK (p.flatMap (·.gives))))
theorem JC{l:List Str}{m:Nat}:nr l m=true ↔ (∀n∈l,g8 n)/\1<=l.length/\l.length<=m:=by
 simp only[nr,eW,i5,fZ];exact⟨fun h=>⟨fun n hn=>Ba (h.2 n hn),h.1⟩,fun h=>⟨h.2,fun n hn=>Jy (h.1 n hn)⟩⟩
theorem Kv{s:am}:nG s=true ↔ gK s:=by
 simp only[nG,eW,JC,Le];constructor
 ·rintro⟨a,b,c,e,f⟩
  exact⟨Ba a,b.1,b.2.1,b.2.2,c.1,c.2.1,c.2.2,e,Vf f⟩
 ·intro h;exact⟨Jy h.name,⟨h.needs,h.needs1,h.needs4⟩,⟨h.gives,h.gives1,h.gives3⟩,h.unlike,Ve h.rule⟩
theorem UA{p:List am}:th p=true ↔ dG p:=by
 simp only[th,eW,Le,i5,fZ,Kv];constructor
 ·rintro⟨⟨a,b⟩,c,e,f⟩
  exact⟨a,b,c,e,f⟩
 ·intro h;exact⟨⟨h.pos,h.most⟩,h.steps,h.names,h.gives⟩
structure tP(s:am):Prop where
 name:s.name.length<=aI
 needs:∀n∈s.needs,n.length<=aI
 needsl:s.needs.length<=aI
 gives:∀n∈s.gives,n.length<=aI
 givesl:s.gives.length<=aI
theorem wd{xs:List Str}(h:xs.length<=aI):dx .len (.tup (xs.map .str)) σ=.ok (.int xs.length) σ:=by
 rw[AX (by rw[bh];exact h),bh]
theorem MI{a b:Bool}:(!a||!b)=!(a&&b):=by cases a <;> cases b <;> rfl
theorem c2{s:am}(h:tP s):bv PP topN (d+3) Iq [s.pv] σ=.ok (.bool (nG s)) σ:=by
 rw[cs (fn:=EE) rfl rfl];show a9 (ex (CC (d+2)) topN #v[uY,qb,yF] [some s.pv,none,none,none,none,none,none,none,none,none] σ)=_
 have bP:tst (CC (d+2)) (.or #v[(.not (.isinst (.v 0) .tuple)),(.cmp (.b1 .len (.v 0)) .ne (aa 4)),(.not (.call vY #v[(.sub (.v 0) (aa 0))]))]) [some s.pv,none,none,none,none,none,none,none,none,none] σ=.ok (!iY s.name) σ:=
  h6 (h7 (ac:=σ) rfl (h7 (ac:=σ) rfl (iZ (fU (h5 (eb (x:=.str s.name) (ac:=σ) rfl (L h.name)))))))
 unfold nG
 cases hM:iY s.name with
 | false =>
  rw[hM]at bP;rw[be (a:=uY) ((cj bP).trans rfl)];rfl
 | true =>
  rw[hM]at bP;rw[ai (a:=uY) (bx bP)]
  cases q1:nr s.needs 4 with
  | false =>
   have V:tst (CC (d+2)) (.or #v[(.not (.call mm #v[(.sub (.v 0) (aa 2)),(aa 4)])),(.not (.call mm #v[(.sub (.v 0) (aa 3)),(aa 3)])),(.not (.call oZ #v[(.sub (.v 0) (aa 3))]))]) [some s.pv,none,none,none,none,none,none,none,none,none] σ=.ok true σ:=
    h6 (KP (fU (q:=false) (h5 (iu (x:=.tup (s.needs.map .str)) (y:=.int ((4:Nat):Int)) (ac:=σ) (au:=σ) rfl rfl ((O h.needs h.needsl).trans (by rw[q1]))))))
   rw[be (a:=qb) ((cj V).trans rfl)];rfl
  | true =>
   cases q2:nr s.gives 3 with
   | false =>
    have V:tst (CC (d+2)) (.or #v[(.not (.call mm #v[(.sub (.v 0) (aa 2)),(aa 4)])),(.not (.call mm #v[(.sub (.v 0) (aa 3)),(aa 3)])),(.not (.call oZ #v[(.sub (.v 0) (aa 3))]))]) [some s.pv,none,none,none,none,none,none,none,none,none] σ=.ok true σ:=
     h6 (h7 (fU (q:=true) (h5 (iu (x:=.tup (s.needs.map .str)) (y:=.int ((4:Nat):Int)) (ac:=σ) (au:=σ) rfl rfl ((O h.needs h.needsl).trans (by rw[q1]))))) (KP (fU (q:=false) (h5 (iu (x:=.tup (s.gives.map .str)) (y:=.int ((3:Nat):Int)) (ac:=σ) (au:=σ) rfl rfl ((O h.gives h.givesl).trans (by rw[q2])))))))
    rw[be (a:=qb) ((cj V).trans rfl)];rfl
   | true =>
    have g3:=(JC.mp q2).2.2
    have V:tst (CC (d+2)) (.or #v[(.not (.call mm #v[(.sub (.v 0) (aa 2)),(aa 4)])),(.not (.call mm #v[(.sub (.v 0) (aa 3)),(aa 3)])),(.not (.call oZ #v[(.sub (.v 0) (aa 3))]))]) [some s.pv,none,none,none,none,none,none,none,none,none] σ=.ok (!jK s.gives) σ:=
     h6 (h7 (fU (q:=true) (h5 (iu (x:=.tup (s.needs.map .str)) (y:=.int ((4:Nat):Int)) (ac:=σ) (au:=σ) rfl rfl ((O h.needs h.needsl).trans (by rw[q1]))))) (h7 (fU (q:=true) (h5 (iu (x:=.tup (s.gives.map .str)) (y:=.int ((3:Nat):Int)) (ac:=σ) (au:=σ) rfl rfl ((O h.gives h.givesl).trans (by rw[q2])))))
      (iZ (fU (h5 (eb (x:=.tup (s.gives.map .str)) (ac:=σ) rfl (ax rfl (fun J q=>by cases q) (aK g3 (by decide)))))))))
    cases q3:jK s.gives with
    | false =>
     rw[q3]at V;rw[be (a:=qb) ((cj V).trans rfl)];rfl
    | true =>
     rw[q3]at V;rw[ai (a:=qb) (bx V)];rw[be (a:=yF) (cT (m3 (x:=s.rule.pv) (ac:=σ) rfl (c0 (x:=.tup (s.needs.map .str)) (ac:=σ) rfl (wd h.needsl)) (c0 (x:=.tup (s.gives.map .str)) (ac:=σ) rfl (wd h.givesl)) aT))];rfl
theorem Hl{pl:H}{eg:af}{d:Nat}:∀(p:List am) (y:Option H) (acc:List Str),acc.length+3*p.length<=1000->(∀s∈p,s.gives.length<=3) ->
  ∃b6,ch none (dm 1) (fun ρ σ=>ex (CC d) topN ED ρ σ) (p.map am.pv) [some pl,y,aH eg.length,none,none,none,none,none,none] (eg++[.lst (acc.map .str)]) =
   .next [some pl,b6,aH eg.length,none,none,none,none,none,none] (eg++[.lst ((acc++p.flatMap (·.gives)).map .str)])
 | [],y,acc,_,_=>⟨y,by simpa using eS⟩
 | s::p,y,acc,h,hs=>by
  have hg:=hs s ((bu));obtain⟨b6,ao⟩:=Hl (pl:=pl) (eg:=eg) (d:=d) p (some s.pv) (acc++s.gives) (by rw[cN];rw[dj]at h;(grind)) fun t aO=>hs t (bQ _ aO);refine⟨b6,(ek (b4:=[some pl,some s.pv,aH eg.length,none,none,none,none,none,none]) (fw:=[some pl,some s.pv,aH eg.length,none,none,none,none,none,none]) (au:=eg++[.lst ((acc++s.gives).map .str)]) rfl ?_).trans (ao.trans (by simp[i6]))⟩
  have je:(eg++[aV.lst (acc.map .str)])[eg.length]?=some (.lst (acc.map .str)):=by simp
  refine(ai (fM (gU (m:=.extend) (x:=.ref eg.length) (ac:=eg++[.lst (acc.map .str)]) (au:=eg++[.lst (acc.map .str)]) rfl ?_ (y:=.tup (s.gives.map .str)) rfl ?_))).trans bE
  ·show jh (.ref eg.length) _=true;unfold jh;dsimp only;rw[je]
  ·show ma (.ref eg.length) (.tup (s.gives.map .str)) _=_;unfold ma;dsimp only;rw[je];dsimp only;rw[aE (by rw[bh,bh,eL];(grind))];simp
theorem OM:∀(q:List am),(∀s∈q,s.gives.length<=3)->(q.flatMap (·.gives)).length<=3*q.length:=by
 intro q
 induction q with
 | nil =>
  intro _
  (trivial)
 | cons s q ao =>
  intro hs;have L:=ao fun t aO=>hs t (bQ _ aO);have O:=hs s ((bu));rw[i6,cN,dj];(grind)
theorem Hw{p:List am}(h:∀s∈p,tP s)(hl:p.length<=aI):∃τ,bv PP topN (d+4) vZ [bg p] σ=.ok (.bool (th p)) (σ++τ):=by
 have hZ:(p.map am.pv).length<=aI:=by rw[bh];exact hl
 have da:∀{σ:af},dx .len (bg p) σ=.ok (.int p.length) σ:=fun{σ}=>by
  show dx .len (.tup (p.map am.pv)) σ=_;rw[AX hZ,bh]
 rw[cs (fn:=EA) rfl rfl];show ∃τ,a9 (ex (CC (d+3)) topN #v[uS,yA,yB,yC] [some (bg p),none,none,none,none,none,none,none,none] σ)=_
 have bP:tst (CC (d+3)) (.or #v[(.not (.isinst (.v 0) .tuple)),(.not (.cmp2 (aa 1) .le (.b1 .len (.v 0)) .le (aa 20))),(.not (.b1 .all EB))]) [some (bg p),none,none,none,none,none,none,none,none] σ=.ok (!(decide (1<=p.length)&&decide (p.length<=20))||!p.all nG) σ:=by
  refine h6 (h7 (ac:=σ) rfl (rc ((fU (KO (i:=((1:Nat):Int)) (k:=((20:Nat):Int)) rfl (c0 rfl da) rfl)).trans (by rw[uk,uk])) fun J=>iZ (fU (Wz (xD (xs:=p) (w:=am.pv) (g:=nG) rfl hl fun s hs=>?_)))));exact eb rfl (c2 (h s hs))
 rw[MI]at bP;unfold th;rw[<- Bool.and_assoc]
 cases hM:((decide (1<=p.length)&&decide (p.length<=20))&&p.all nG)with
 | false =>
  rw[hM]at bP;exact⟨[],by rw[be (a:=uS) ((cj bP).trans rfl),iP];rfl⟩
 | true =>
  rw[hM]at bP;simp only[eW,i5,fZ,Kv]at hM;obtain⟨⟨bF,Ur⟩,hs⟩:=hM
  have V:ex (CC (d+3)) topN yA [some (bg p),none,none,none,none,none,none,none,none] σ=.next [some (bg p),none,aH σ.length,none,none,none,none,none,none] (σ++[.lst []]):=rfl
  obtain⟨b6,ak⟩:=Hl (pl:=bg p) (eg:=σ) (d:=d+3) p none [] (by simp;(grind)) fun s hq=>(hs s hq).gives3
  have m2:ex (CC (d+3)) topN yB [some (bg p),none,aH σ.length,none,none,none,none,none,none] (σ++[.lst []])=.next [some (bg p),b6,aH σ.length,none,none,none,none,none,none] (σ++[.lst ((p.flatMap (·.gives)).map .str)]):=
   eY (ys:=p.map am.pv) (ac:=σ++[.lst []]) rfl ak
  have vK:(p.flatMap (·.gives)).length<=60:=by
   have L:=OM p fun s hq=>(hs s hq).gives3
   (grind)
  have bK:ex (CC (d+3)) topN yC [some (bg p),b6,aH σ.length,none,none,none,none,none,none] (σ++[.lst ((p.flatMap (·.gives)).map .str)])=.ret (.bool (jK (p.map (·.name))&&jK (p.flatMap (·.gives)))) [some (bg p),b6,aH σ.length,none,none,none,none,none,none] (σ++[.lst ((p.flatMap (·.gives)).map .str)]):=by
   have je:(σ++[aV.lst ((p.flatMap (·.gives)).map .str)])[σ.length]?=some (.lst ((p.flatMap (·.gives)).map .str)):=by simp
   have cr:ev (CC (d+3)) EC [some (bg p),b6,aH σ.length,none,none,none,none,none,none] (σ++[.lst ((p.flatMap (·.gives)).map .str)])=.ok (.fl ((p.map (·.name)).map .str)) (σ++[.lst ((p.flatMap (·.gives)).map .str)]):=by
    refine(m0 (fun x=>match x with | .tup (.str n::_)=>.str n | _=>.none) (xs:=p.map am.pv) rfl hZ fun x hx=>?_).trans ?_
    ·refine az (cL.mp hx) fun s hs ag=>?_;obtain rfl:=ag;rfl
    ·rw[gL,gL];rfl
   refine cT (ln (un (eb cr (ax rfl (fun J q=>by cases q) (by rw[bh];exact aK Ur (by decide)))) fun J=>(l5 (eb rfl (ax ?_ (fun J q=>by cases q) (aK vK (by decide)))))));unfold eM;dsimp only;rw[je]
  refine⟨[.lst ((p.flatMap (·.gives)).map .str)],?_⟩;rw[ai (a:=uS) (bx bP),ai V,ai m2,be bK];rfl
theorem gA{p:List am}(h:∀s∈p,tP s)(hl:p.length<=aI):∃σ',bv PP topN (d+4) vZ [bg p] σ=.ok (.bool (th p)) σ':=let⟨_,e⟩:=Hw h hl;⟨_,e⟩
theorem qT(h:n<=100){a:X}(ha:ev C a ρ σ=.ok (.int n) σ):evIt C (.range1 a) ρ σ=.ok (cZ 0 1 n,none) σ:=by
 rw[x8,ha,cg];show(if 0<=(n:Int)/\(n:Int)<=aI then ah.ok (cZ 0 1 (n:Int).toNat,none) σ else .stuck)=_;rw[aE ⟨(d8 _),by rw[eL];(exact Int.ofNat_le.mpr (aK (by assumption) (by decide)))⟩];rfl
theorem BA{x:H}(h:x∈cZ 0 1 n):∃i:Nat,i<n/\x=.int i:=by
 refine az (cL.mp h) fun i hi ag=>?_;obtain rfl:=ag;exact⟨i,List.mem_range.mp hi,by simp⟩
theorem mH{ws:List Str}(h:ws.length<=100):(ws.map H.str).length<=aI:=by rw[bh];exact aK h (by decide)
theorem J8{p:List am}(hl:p.length<=20):(p.map am.pv).length<=aI:=by rw[bh];exact aK hl (by decide)
theorem oE(hl:l.length<=63){k:Nat}:bv PP topN (d+1) fP [.fl (l.map .int),.int k] σ=.ok (.int (l.getD k 0)) σ:=by
 rw[cs (fn:=r4) rfl rfl]
 have hZ:(l.map H.int).length<=aI:=by rw[bh];exact aK hl (by decide)
 have da:dx .len (.fl (l.map .int)) σ=.ok (.int l.length) σ:=by rw[AW hZ,bh]
 show a9 (ex (CC d) topN r4.body [some (.fl (l.map .int)),ae k,none] σ)=_;by_cases h:k<l.length
 ·have:ex (CC d) topN r4.body [some (.fl (l.map .int)),ae k,none] σ=.ret (.int (l.getD k 0)) [some (.fl (l.map .int)),ae k,none] σ:=by
   refine be ((cj (σ':=σ) (b7 (x:=.int k) (ac:=σ) rfl (c0 (x:=.fl (l.map .int)) (ac:=σ) rfl da) ?_)).trans (be (cT (cM (x:=.fl (l.map .int)) (y:=.int k) (ac:=σ) (au:=σ) rfl rfl (km hZ ((d8 _)) ?_)))))
   ·rw[lt_int,dI ((d3.mpr (by assumption)))]
   ·simp[h]
  rw[this];rfl
 ·have:ex (CC d) topN r4.body [some (.fl (l.map .int)),ae k,none] σ=.ret (.int 0) [some (.fl (l.map .int)),ae k,none] σ:=by
   refine(ai (ρ':=[some (.fl (l.map .int)),ae k,none]) (σ':=σ) (bx (σ':=σ) (b7 (x:=.int k) (ac:=σ) rfl (c0 (x:=.fl (l.map .int)) (ac:=σ) rfl da) ?_))).trans rfl;rw[lt_int,f0 ((fun q=>(by assumption:¬_) (d3.mp q)))]
  have e:l.getD k 0=0:=by simp[List.getD,Nat.not_lt.mp h]
  rw[this,e];rfl
noncomputable def eo(p:Int):Int:=(p*48271+11)%2147483647*((p*48271+11)%2147483647)%2147483629
theorem lu{p:Int}:bv PP topN (d+1) jg [.int p] σ=.ok (.int (eo p)) σ:=by
 rw[cs (fn:=vb) rfl rfl]
 have:ex (CC d) topN vb.body [ae p,none] σ=.ret (.int (eo p)) [ae p,ae ((p*48271+11)%2147483647)] σ:=by
  refine(ai (ρ':=[ae p,ae ((p*48271+11)%2147483647)]) (σ':=σ) (bH (cp (cp (cp (x:=.int p) (y:=.int 48271) (ac:=σ) (au:=σ) rfl rfl (mul_int (.inr (by decide)))) (y:=.int 11) (au:=σ) rfl add_int) (y:=.int 2147483647) (au:=σ) rfl (gd (by decide))))).trans (be (cT (cp (cp (x:=.int ((p*48271+11)%2147483647)) (y:=.int ((p*48271+11)%2147483647)) (ac:=σ) (au:=σ) rfl rfl (mul_int (.inl ?_))) (y:=.int 2147483629) (au:=σ) rfl (gd (by decide)))));have L:=ey (p*48271+11) (show(2147483647:Int)≠0 by decide);have O:=e7 (p*48271+11) (show(0:Int)<2147483647 by decide);refine aM (iO L) fun w hw=>?_;rw[hw]at O ⊢;exact eR (d3.mp O) (by decide)
 show a9 (ex (CC d) topN vb.body [ae p,none] σ)=_;rw[this];rfl
theorem zO{p a b:Int}(ha:0<a)(sm:a<1073741824)(hb:0<b){x:X}(hx:ev C x ρ σ=.ok (.int p) σ):ev C (.bin .mod (.bin .fdiv x (aa a)) (aa b)) ρ σ=.ok (.int (p/a%b)) σ:=
 cp (cp hx (y:=.int a) (au:=σ) rfl (zN ha sm)) (y:=.int b) (au:=σ) rfl (gd hb)
theorem z3{p:Int}:∃v,0<=v/\v<=999999/\∀{d:Nat} {σ:af},bv PP topN (d+1) sV [.int p] σ=.ok (.int v) σ:=by
 have np:∀{d:Nat} {σ:af} (c:Int),tst (CC d) (.cmp (.bin .mod (.v 0) (aa 4)) .eq (aa c)) [ae p] σ=.ok (p%4 == c) σ:=fun{d σ} c =>
  b7 rfl (y:=.int c) (au:=σ) rfl l9
 have fS:=ey (p/4) (show(4:Int)≠0 by decide);have n1:=e7 (p/4) (show(0:Int)<4 by decide)
 have fin:∀{d:Nat} {σ:af} {v:Int},ex (CC d) topN vn.body [ae p] σ=.ret (.int v) [ae p] σ->bv PP topN (d+1) sV [.int p] σ=.ok (.int v) σ:=fun{d σ v} h=>by
  rw[cs (fn:=vn) rfl rfl];show a9 (ex (CC d) topN vn.body [ae p] σ)=_;rw[h];rfl
 by_cases h0:p%4=0
 ·have hx:∃v,0<=v/\v<=999999/\([H.int 0,.int 0,.int 1,.int 999999])[(p/4%4).toNat]?=ae v:=by
   refine sW (n:=4) (P:=fun w=>∃v,0<=v/\v<=999999/\([H.int 0,.int 0,.int 1,.int 999999])[w.toNat]?=ae v) (d9 (d9 (d9 (d9 rF ?_) ?_) ?_) ?_) fS n1
   ·exact⟨0,by decide,by decide,rfl⟩
   ·exact⟨0,by decide,by decide,rfl⟩
   ·exact⟨1,by decide,by decide,rfl⟩
   ·exact⟨999999,by decide,by decide,rfl⟩
  refine bL hx fun v ff a0 hv=>?_;refine⟨v,ff,a0,fun{d σ}=>fin (be ((cj (σ':=σ) ((np 0).trans (by rw[h0];rfl))).trans (be (cT (cM (x:=.fl [H.int 0,.int 0,.int 1,.int 999999]) (ac:=σ) rfl (zO (by decide) (by decide) (by decide) rfl) (km (by decide) fS hv))))))⟩
 ·have k0:∀{d:Nat} {σ:af},tst (CC d) (.cmp (.bin .mod (.v 0) (aa 4)) .eq (aa 0)) [ae p] σ=.ok false σ:=fun{d σ}=>(np 0).trans (by rw[show(p%4 == 0)=false from lj.mpr h0]);by_cases L:p%4=1
  ·have pW:=ey (p/4) (show(1000000:Int)≠0 by decide);have aD:=e7 (p/4) (show(0:Int)<1000000 by decide);refine⟨p/4%1000000,pW,by grind,fun{d σ}=>fin ((ai (ρ':=[ae p]) (σ':=σ) (bx (σ':=σ) k0)).trans (be ((cj (σ':=σ) ((np 1).trans (by rw[L];rfl))).trans rfl)))⟩
  ·have pW:=ey (p/4) (show(5:Int)≠0 by decide);have aD:=e7 (p/4) (show(0:Int)<5 by decide);refine⟨p/4%5,pW,by grind,fun{d σ}=>fin ((ai (ρ':=[ae p]) (σ':=σ) (bx (σ':=σ) k0)).trans ((ai (ρ':=[ae p]) (σ':=σ) (bx (σ':=σ) ((np 1).trans (by rw[show(p%4 == 1)=false from lj.mpr L])))).trans rfl))⟩
inductive jt:c7->Prop where
 | sum:jt (.word "sum")
 | times:jt (.word "times")
 | least:jt (.word "least")
 | most:jt (.word "most")
 | later:jt (.word "later")
 | way:jt (.word "way")
 | choose:jt (.word "choose")
 | fixed (v:Int):0<=v->v<=999999->jt (.fixed v)
theorem Po{p w:Int}(h0:0<=w)(L:w<12):∃r:c7,jt r/\∀{d:Nat} {σ:af},bv PP topN (d+2) AL [.int p,.int w] σ=.ok r.pv σ:=by
 refine sW (n:=12) (P:=fun w=>∃r:c7,jt r/\∀{d:Nat} {σ:af},bv PP topN (d+2) AL [.int p,.int w] σ=.ok r.pv σ) (d9 (d9 (d9 (d9 (d9 (d9 (d9 (d9 (d9 (d9 (d9 (d9 rF ?_) ?_) ?_) ?_) ?_) ?_) ?_) ?_) ?_) ?_) ?_) ?_) h0 L
 ·exact⟨_,.sum,rfl⟩
 ·exact⟨_,.times,rfl⟩
 ·exact⟨_,.least,rfl⟩
 ·exact⟨_,.most,rfl⟩
 ·obtain⟨v,ff,a0,hv⟩:=z3 (p:=p);refine⟨_,.fixed v ff a0,fun{d σ}=>?_⟩;rw[cs (fn:=vf) rfl rfl]
  have:ex (CC (d+1)) topN vf.body [ae p,ae 4,none,none] σ=.ret (.tup [.str "fixed",.int v]) [ae p,ae 4,aS "fixed",none] σ:=
   (ai (ρ':=[ae p,ae 4,aS "fixed",none]) (σ':=σ) rfl).trans (be (rfl.trans (be (cT (j7 (vs:=[.str "fixed",.int v]) (c4 (x:=.str "fixed") (ac:=σ) rfl (c4 (x:=.int v) (ac:=σ) (eb (x:=.int p) (ac:=σ) rfl hv) rfl)) (show(2:Nat)<=aI by decide))))))
  show a9 (ex (CC (d+1)) topN vf.body [ae p,ae 4,none,none] σ)=_;rw[this];rfl
 ·exact⟨_,.later,rfl⟩
 ·exact⟨_,.later,rfl⟩
 ·exact⟨_,.way,rfl⟩
 ·exact⟨_,.choose,rfl⟩
 ·exact⟨_,.way,rfl⟩
 ·exact⟨_,.choose,rfl⟩
 ·exact⟨_,.sum,rfl⟩
noncomputable def mI:List Str:=["sum", "later", "way", "fixed", "a9", "b", "times", "choose", "least", "most", "z0", "put"]
noncomputable def wn(b k:Nat):Str:=(mI.getD ((b+k)%12) "")++(if k/12=0 then("" : Str)else "x")
noncomputable def qK(b:Nat):List Str:=(List.range 24).map (wn b)
noncomputable def wp:List Str->Bool
 | []=>true
 | x::r=>!(r.any (· == x))&&wp r
theorem T0:∀{l:List Str},wp l=true->l.Nodup:=by
 intro r
 induction r with
 | nil =>
  intro _;exact .nil
 | cons x r ao =>
  intro h;simp only[wp,eW,Bool.not_eq_true',List.any_eq_false,fy]at h;exact hS.mpr ⟨fun q=>h.1 x q rfl,ao h.2⟩
noncomputable def wB(s:Str):Bool:=!(s.cps.toList.take 2 == [122,122])&&!(s.cps.toList.take 2 == [121,121])
noncomputable def jV(s:Str):Prop:=wB s=true
theorem Tx:∀b:Nat,b<12->(qK b).all wB=true:=by decide +kernel
theorem Tw:∀b:Nat,b<12->(wp (qK b)&&(qK b).all iY)=true:=by decide +kernel
theorem Jt:(Txt.mul "m" (n:Int)).cps.toList=List.replicate n 109:=by
 have hm:("m" : Str)=⟨#[109]⟩:=by decide +kernel
 rw[hm];unfold Txt.mul;by_cases L:(n:Int)<1
 ·have:n=0:=by grind
  subst this;rw[aE L];rfl
 ·rw[a5 L];by_cases O:n=1
  ·subst O;rfl
  ·rw[a5 (by
    have:((n:Int) == 1)=false:=lj.mpr (by grind)
    rw[this];decide)]
   have key:∀(k:Nat) (acc:Array Nat),((List.replicate k (#[109]:Array Nat)).foldl (·++·) acc).toList=acc.toList++List.replicate k 109:=by
    intro k
    induction k with
    | zero=>intro acc;simp
    | succ k ao =>
     intro acc;rw[List.replicate_succ,i7,ao];simp[List.replicate_succ]
   have:=key n #[];simpa using this
noncomputable def gm:List Nat:=("abcdefghijklmnopqrstuvwxyz0123456789" : Str).cps.toList
noncomputable def jC(p q N b k:Nat):List Nat:=List.replicate p 109++gm.getD ((b+k)%N) 0::List.replicate q 109
noncomputable def kg(p q N b k:Nat):Str:=⟨(jC p q N b k).toArray⟩
noncomputable def nt(p q N b:Nat):List Str:=(List.range 24).map (kg p q N b)
theorem BL:gm.length=36/\gm.Nodup/\(∀c∈gm,c∈iV\/c∈zQ)/\(∀i,i<26->gm.getD i 0∈iV)/\109∈iV:=by decide +kernel
theorem Tc{p q:Nat}{x y:Nat}(h:List.replicate p 109++x::List.replicate q 109=List.replicate p 109++y::List.replicate q 109):x=y:=
 (List.cons.inj (List.append_cancel_left h)).1
theorem VB(hi:i<36)(a8:j<36)(h:gm.getD i 0=gm.getD j 0):i=j:=by
 refine d4 BL fun L O J=>?_
 have V:gm.getD i 0=gm[i]'((aK (by assumption) (by decide))):=by simp[List.getD,L,hi]
 have ak:gm.getD j 0=gm[j]'((aK (by assumption) (by decide))):=by simp[List.getD,L,a8]
 rw[V,ak]at h
 have bK:gm[i]?=gm[j]?:=by rw[dA ((aK (by assumption) (by decide))),dA ((aK (by assumption) (by decide))),h]
 exact(List.getElem?_inj (by assumption) O).mp bK
theorem Tz{p q N b:Nat}(hs:p+1+q<=8)(aw:(p=0/\N=26)\/(0<p/\N=36)):(nt p q N b).Nodup/\∀n∈nt p q N b,g8 n:=by
 have vA:24<=N/\N<=36:=by
  rcases aw with⟨_,rfl⟩ | ⟨_,rfl⟩
  ·decide
  ·decide
 have sj:0<N:=jx (by decide) vA.1;refine x2 BL fun f1 f2 r0 ux ox=>?_;constructor
 ·unfold nt;rw[List.Nodup,List.pairwise_map];refine List.Pairwise.imp_of_mem ?_ (List.nodup_range (n:=24));intro i j hi a8 de e;have hi:=List.mem_range.mp hi;have a8:=List.mem_range.mp a8
  have V:jC p q N b i=jC p q N b j:=by
   have:=congrArg (fun s:Str=>s.cps.toList) e;simpa[kg]using this
  have ak:=Tc V;have Jh:∀{k:Nat},(b+k)%N<36:=jx (Nat.mod_lt _ sj) vA.2;have bK:=VB Jh Jh ak
  have key:∀i j,j<24->(b+i)%N=(b+j)%N->j<=i:=fun i j a8 e=>by
   rcases Nat.le_total j i with h | h
   ·exact h
   ·have z:=Nat.sub_mod_eq_zero_of_mod_eq e.symm;rw[Nat.add_sub_add_left,Nat.mod_eq_of_lt (fY (Nat.sub_le _ _) (jx a8 vA.1))]at z;exact Nat.le_of_sub_eq_zero z
  exact de (Nat.le_antisymm (key j i hi bK.symm) (key i j a8 bK))
 ·intro n hn;refine az (cL.mp hn) fun k hk ag=>?_;obtain rfl:=ag;have a6:(b+k)%N<N:=Nat.mod_lt _ sj
  have sw:gm.getD ((b+k)%N) 0∈gm:=by
   have eB:(b+k)%N<gm.length:=by rw[f1];exact jx a6 vA.2
   rw[li,dA eB];exact List.getElem_mem eB
  have hl:(kg p q N b k).length=p+1+q:=by
   show(jC p q N b k).toArray.size=_;simp[jC];(grind)
  refine⟨by rw[hl];exact aK (Nat.le_add_left 1 p) (fh _ q),by rw[hl];exact hs,fun c hc=>?_,fun c hc=>?_⟩
  ·have cy:(jC p q N b k)[0]?=some c:=by simpa[kg]using hc
   rcases aw with⟨rfl,rfl⟩ | ⟨hp,rfl⟩
   ·simp[jC]at cy;subst cy;have:=ux _ a6;simpa[List.getD]using this
   ·obtain⟨td,rfl⟩:∃td,p=td+1:=⟨p-1,by grind⟩;simp[jC,List.replicate_succ]at cy;subst cy;exact ox
  ·have cy:c∈jC p q N b k:=by simpa[kg]using hc
   simp only[jC,dH,cE,List.mem_replicate]at cy
   rcases cy with⟨_,rfl⟩ | rfl | ⟨_,rfl⟩
   ·exact .inl ox
   ·exact r0 _ sw
   ·exact .inl ox
theorem Bt{x y:Nat}{r:List Nat}{s:Str}(h:s.cps.toList=x::y::r)(q:x=109\/y=109):jV s:=by
 unfold jV wB;rw[h]
 rcases q with rfl | rfl
 ·rfl
 ·show(!(x == 122&&(false&&true))&&!(x == 121&&(false&&true)))=true;rw[Bool.false_and,Bool.and_false,Bool.and_false];rfl
theorem TA{p q N b:Nat}:∀n∈nt p q N b,jV n:=by
 intro n hn;refine az (cL.mp hn) fun k hk ag=>?_;obtain rfl:=ag;have e:(kg p q N b k).cps.toList=jC p q N b k:=rfl;generalize kg p q N b k=s at e;unfold jC at e
 cases p with
 | zero =>
  cases q with
  | zero=>unfold jV wB;rw[e];show(!(_&&false)&&!(_&&false))=true;rw[Bool.and_false,Bool.and_false];rfl
  | succ q=>exact Bt e (.inr rfl)
 | succ p =>
  cases p with
  | zero=>exact Bt e (.inl rfl)
  | succ p=>exact Bt e (.inl rfl)
theorem Bz{g:H->H}{f:Nat->Str}(h:∀k,k<n->g (.int k)=.str (f k)):(cZ 0 1 n).map g=((List.range n).map f).map .str:=by
 unfold cZ;rw[gL,gL];refine List.map_congr_left fun k hk=>?_;show g (.int (0+(k:Int)*1))=.str (f k);exact(show(0+(k:Int)*1)=k by grind).symm▸(h k (List.mem_range.mp hk))
theorem VY:∀i,i<12->(mI.map H.str)[i]?=aS (mI.getD i ""):=fun i hi=>by
 rw[fg];have:mI.length=12:=rfl;simp[List.getD,this,hi]
theorem VZ:∀i,i<12->(mI.getD i ("" : Str)).length<=8:=by decide +kernel
noncomputable abbrev gb(a b c e f g h:Option H):aB:=[a,b,c,e,f,g,h,none,none]
theorem Tv{c:Int}:ev (CC d) Fj (gb (ae c) (some (.fl (mI.map .str))) none none none none none) σ=.ok (.fl ((qK (c/9%12).toNat).map .str)) σ:=by
 have fS:=ey (c/9) (show(12:Int)≠0 by decide);have n1:=e7 (c/9) (show(0:Int)<12 by decide);refine(m0 (fun x=>match x with | .int i=>.str (wn (c/9%12).toNat i.toNat) | _=>.none) (qT (n:=24) (by decide) rfl) (by rw[show(cZ 0 1 24).length=24 by simp[cZ]];decide) fun x hx=>?_).trans (by rw[Bz (f:=wn (c/9%12).toNat) fun k hk=>by rfl];rfl);refine az (BA hx) fun k hk ag=>?_;obtain rfl:=ag;show _=ah.ok (H.str (wn (c/9%12).toNat ((k:Int).toNat))) σ;have hi:((c/9+k)%12).toNat=((c/9%12).toNat+k)%12:=CR (N:=12) (by decide);have eB:((c/9%12).toNat+k)%12<12:=Nat.mod_lt _ (by decide)
 have O:([H.str "",.str "x"])[((k:Int)/12).toNat]?=aS (if k/12=0 then("" : Str)else "x"):=by
  have e:((k:Int)/12).toNat=k/12:=rfl;exact e.symm▸(d9 (P:=fun i=>([H.str "",.str "x"])[i]?=aS (if i=0 then("" : Str)else "x")) (d9 rF rfl) rfl _ (Nat.div_lt_of_lt_mul hk))
 refine cp (x:=.str (mI.getD (((c/9%12).toNat+k)%12) "")) (y:=.str (if k/12=0 then("" : Str)else "x")) (ac:=σ) (au:=σ) ?_ ?_ ?_
 ·refine cM (x:=.fl (mI.map .str)) (ac:=σ) rfl rfl (km (show(12:Nat)<=aI by decide) (ey _ (by decide)) ?_);exact hi.symm▸(VY _ eB)
 ·exact cM (x:=.fl [.str "",.str "x"]) (ac:=σ) rfl rfl (km (show(2:Nat)<=aI by decide) ((d8 _)) O)
 ·have fB:=VZ _ eB
  have o1:(if k/12=0 then("" : Str)else "x").length<=1:=by split <;> decide +kernel
  rw[add_str (by rw[eL];(grind))];rfl
theorem Ju{n:Int}(h0:0<=n)(L:n<=100):j3 .mul (.str "m") (.int n) σ=.ok (.str (Txt.mul "m" n)) σ:=by
 show(if("m" : Str).length<=100/\0<=n/\n<=100 then ah.ok (H.str (Txt.mul "m" n)) σ else .stuck)=_;exact aE ⟨by decide +kernel,h0,L⟩
theorem xF{v:H}(h:xs.length<1000):jk .append (.ref eg.length) [v] (eg++[.lst xs])=.ok .none (eg++[.lst (xs++[v])]):=by
 have je:(eg++[aV.lst xs])[eg.length]?=some (.lst xs):=by simp
 show kE (.ref eg.length) v (eg++[.lst xs])=_;unfold kE;dsimp only;rw[je];dsimp only;rw[aE (by rw[eL];(exact aK (by assumption) (by decide)))];simp
theorem mw{m:ie}(hm:m=.append\/m=.extend\/m=.pop):o6 m (.ref eg.length) (eg++.lst xs::τ)=true:=by
 have je:(eg++aV.lst xs::τ)[eg.length]?=some (.lst xs):=by simp
 have:jh (.ref eg.length) (eg++.lst xs::τ)=true:=by unfold jh;dsimp only;rw[je]
 rcases hm with rfl | rfl | rfl <;> exact this
theorem XB{c:Int}{p q N k:Nat}(hs:p+1+q<=8)(aw:(p=0/\N=26)\/(0<p/\N=36))(acc:List Str)(Ag:acc.length<100){z:Option H} :
  ex (CC d) topN yX (gb (ae c) (aS "abcdefghijklmnopqrstuvwxyz0123456789") (ae k) (ae ((p+1+q:Nat):Int)) (ae p) (aH σ.length) z) (σ++[.lst (acc.map .str)]) =
   .next (gb (ae c) (aS "abcdefghijklmnopqrstuvwxyz0123456789") (ae k) (ae ((p+1+q:Nat):Int)) (ae p) (aH σ.length) (aS ⟨#[gm.getD (((c/64%N).toNat+k)%N) 0]⟩)) (σ++[.lst ((acc++[kg p q N (c/64%N).toNat k]).map .str)]):=by
 refine x2 BL fun f1 f2 r0 ux ox=>?_
 have sj:0<N:=by grind
 have fS:=ey (c/64) (show(N:Int)≠0 by(exact Int.ofNat_ne_zero.mpr (dc (by assumption))));have n1:=e7 (c/64) (show(0:Int)<N by(exact d3.mpr (by assumption)));have hi:((c/64+k)%N).toNat=((c/64%N).toNat+k)%N:=CR (dc sj);have eB:((c/64%N).toNat+k)%N<N:=Nat.mod_lt _ sj
 have QV:([H.int 26,.int 36])[((if decide ((p:Int) > 0)=true then 1 else 0:Int)).toNat]?=ae N:=by
  rcases aw with⟨rfl,rfl⟩ | ⟨hp,rfl⟩
  ·rfl
  ·rw[dI (by grind)];rfl
 have QW:(0:Int)<=(if decide ((p:Int) > 0)=true then 1 else 0:Int):=by split <;> decide
 have ed:ex (CC d) topN (.asg 6 (.sub (.v 1) (.bin .mod (.bin .add (.bin .fdiv (.v 0) (aa 64)) (.v 2)) (.sub (.lst true #v[(aa 26),(aa 36)]) (.b1 .int (.cmp (.v 4) .gt (aa 0))))))) (gb (ae c) (aS "abcdefghijklmnopqrstuvwxyz0123456789") (ae k) (ae ((p+1+q:Nat):Int)) (ae p) (aH σ.length) z) (σ++[.lst (acc.map .str)]) =
   .next (gb (ae c) (aS "abcdefghijklmnopqrstuvwxyz0123456789") (ae k) (ae ((p+1+q:Nat):Int)) (ae p) (aH σ.length) (aS ⟨#[gm.getD (((c/64%N).toNat+k)%N) 0]⟩)) (σ++[.lst (acc.map .str)]):=by
  generalize jd:σ++[aV.lst (acc.map .str)]=S;refine bH (cM (x:=.str "abcdefghijklmnopqrstuvwxyz0123456789") (ac:=S) rfl (cp rfl (y:=.int N) (au:=S) (cM (x:=.fl [.int 26,.int 36]) (ac:=S) rfl (c0 (fm (x:=.int p) (y:=.int 0) (ac:=S) (au:=S) rfl rfl gt_int) int_bool) (km (show(2:Nat)<=aI by decide) QW QV)) (gd ((d3.mpr (by assumption))))) (KJ (by decide +kernel) (ey _ ((Int.ofNat_ne_zero.mpr (dc (by assumption))))) ?_));rw[hi];show gm[((c/64%N).toNat+k)%N]?=_;simp[List.getD,f1,show((c/64%N).toNat+k)%N<36 by grind]
 refine(ai ed).trans ?_;refine(ai (fM (gU (m:=.append) (x:=.ref σ.length) (ac:=σ++[.lst (acc.map .str)]) rfl (mw (.inl rfl)) (y:=.str (kg p q N (c/64%N).toNat k)) (au:=σ++[.lst (acc.map .str)]) ?_ (xF (by rw[bh];(exact aK (by assumption) (by decide))))))).trans (by rw[bE,eX];rfl);generalize σ++[aV.lst (acc.map .str)]=S;have hp:Txt.mul "m" (p:Int)=⟨(List.replicate p 109).toArray⟩:=Str.ext' (Array.toList_inj.mp (by rw[Jt]))
 have hq:Txt.mul "m" (((p+1+q:Nat):Int)-1-p)=⟨(List.replicate q 109).toArray⟩:=by
  rw[show((p+1+q:Nat):Int)-1-p=(q:Int) by grind];exact Str.ext' (Array.toList_inj.mp (by rw[Jt]))
 refine cp (cp (cp (x:=.str "m") (y:=.int p) (ac:=S) (au:=S) rfl rfl (Ju ((d8 _)) (by grind))) (y:=.str ⟨#[gm.getD (((c/64%N).toNat+k)%N) 0]⟩) (au:=S) rfl (add_str ?_)) (cp (x:=.str "m") (ac:=S) rfl rfl (Ju (by grind) (by grind))) ?_
 ·rw[hp,eL];show(List.replicate p 109).toArray.size+1<=_;simp;(grind)
 ·rw[hp,hq,add_str]
  ·congr 1;refine congrArg H.str (Str.ext' ?_);simp[Str.cps_append,kg,jC]
  ·rw[Str.length_append,eL];show(List.replicate p 109).toArray.size+1+(List.replicate q 109).toArray.size<=_;simp;(exact aK (by assumption) (by decide))
theorem SO{c:Int}{p q N:Nat}(hs:p+1+q<=8)(aw:(p=0/\N=26)\/(0<p/\N=36)):∀(n k:Nat) (acc:List Str) (y z:Option H),acc.length=k->k+n<=24->∃b6 bA,
  ch none (dm 2) (fun ρ σ=>ex (CC d) topN yX ρ σ) ((List.range' k n).map fun(i:Nat)=>H.int i) (gb (ae c) (aS "abcdefghijklmnopqrstuvwxyz0123456789") y (ae ((p+1+q:Nat):Int)) (ae p) (aH σ.length) z) (σ++[.lst (acc.map .str)]) =
   .next (gb (ae c) (aS "abcdefghijklmnopqrstuvwxyz0123456789") b6 (ae ((p+1+q:Nat):Int)) (ae p) (aH σ.length) bA) (σ++[.lst ((acc++(List.range' k n).map (kg p q N (c/64%N).toNat)).map .str)]):=by
 intro n
 induction n with
 | zero =>
  intro k acc y z _ _;exact⟨y,z,by simpa using eS⟩
 | succ n ao =>
  intro k acc y z L O;obtain⟨b6,bA,ao⟩:=ao (k+1) (acc++[kg p q N (c/64%N).toNat k]) (ae k) (aS ⟨#[gm.getD (((c/64%N).toNat+k)%N) 0]⟩) (by rw[cN,L];rfl) (by grind);refine⟨b6,bA,?_⟩;rw[j1,dw];refine(ek (b4:=gb (ae c) (aS "abcdefghijklmnopqrstuvwxyz0123456789") (ae k) (ae ((p+1+q:Nat):Int)) (ae p) (aH σ.length) z) rfl (XB hs aw acc (by grind))).trans (ao.trans ?_);simp[eQ]
theorem Pn(c:Int):∃names:List Str,names.length=24/\names.Nodup/\(∀n∈names,g8 n)/\(∀n∈names,jV n) ∧
  ((∀d,bv PP topN (d+1) sS [.int c] []=.ok (.fl (names.map .str)) [])\/(∀d,bv PP topN (d+1) sS [.int c] []=.ok (.ref 0) [.lst (names.map .str)])):=by
 have t0:∀d,tst (CC d) (.cmp (.bin .mod (.v 0) (aa 9)) .eq (aa 8)) (gb (ae c) none none none none none none) []=.ok (c%9 == 8) []:=fun d =>
  b7 rfl (y:=.int 8) (au:=[]) rfl l9
 have fin:∀{d:Nat} {v:H} {ρ:aB} {σ:af},ex (CC d) topN va.body (gb (ae c) none none none none none none) []=.ret v ρ σ->bv PP topN (d+1) sS [.int c] []=.ok v σ:=fun{d v ρ σ} h=>by
  rw[cs (fn:=va) rfl rfl];show a9 (ex (CC d) topN va.body (gb (ae c) none none none none none none) [])=_;rw[h];rfl
 by_cases Hx:c%9=8
 ·have fS:=ey (c/9) (show(12:Int)≠0 by decide);have n1:=e7 (c/9) (show(0:Int)<12 by decide);have g:=Tw (c/9%12).toNat (BW (n:=12) fS n1);rw[eW]at g;refine⟨qK (c/9%12).toNat,by simp[qK],T0 g.1,fun n hn=>Ba (fZ.mp g.2 n hn),fun n hn=>fZ.mp (Tx (c/9%12).toNat (BW (n:=12) fS n1)) n hn,.inl fun d=>fin (be (a:=yW) ((cj (σ':=[]) ((t0 d).trans (by rw[Hx];rfl))).trans ((ai (ρ':=gb (ae c) (some (.fl (mI.map .str))) none none none none none) (σ':=[]) rfl).trans (be (cT Tv)))))⟩
 ·have pW:=ey c (show(8:Int)≠0 by decide);have aD:=e7 c (show(0:Int)<8 by decide);have dR:(0:Int)<1+c%8:=Int.lt_of_lt_of_le (by decide) (Int.le_add_of_nonneg_right pW);have dB:=ey (c/8) (Int.ne_of_gt dR);have b1:=e7 (c/8) dR;refine aM (iO dB) fun p hp=>?_;refine aM (iO pW) fun e he=>?_;rw[hp,he]at b1;rw[he]at aD;have H5:p<1+e:=d3.mp b1;rw[Nat.add_comm]at H5
  have hq:1+c%8=((p+1+(e-p):Nat):Int):=by
   rw[he,Nat.add_right_comm,Nat.add_sub_cancel' (Nat.le_of_lt_succ H5),Nat.add_comm];rfl
  generalize e-p=q at hq
  have hs:p+1+q<=8:=by rw[he]at hq;exact(Int.ofNat.inj hq:1+e=p+1+q)▸kB (Nat.le_of_lt_succ (d3.mp aD)) 1
  obtain⟨N,aw⟩:∃N:Nat,(p=0/\N=26)\/(0<p/\N=36):=by
   rcases Nat.eq_zero_or_pos p with q | q
   ·exact⟨26,.inl ⟨q,rfl⟩⟩
   ·exact⟨36,.inr ⟨q,rfl⟩⟩
  have Hr:=Tz (b:=(c/64%N).toNat) hs aw;refine⟨nt p q N (c/64%N).toNat,by simp[nt],Hr.1,Hr.2,TA,.inr fun d=>?_⟩;obtain⟨b6,bA,hl⟩:=SO (d:=d) (σ:=[]) (c:=c) hs aw 24 0 [] none none rfl (by decide);refine fin (ρ:=gb (ae c) (aS "abcdefghijklmnopqrstuvwxyz0123456789") b6 (ae ((p+1+q:Nat):Int)) (ae p) (aH 0) bA) ?_
  have bP:ex (CC d) topN yW (gb (ae c) none none none none none none) []=.next (gb (ae c) none none none none none none) []:=(bx (σ':=[]) ((t0 d).trans (by rw[show(c%9 == 8)=false from lj.mpr Hx])))
  have V:ex (CC d) topN Fk (gb (ae c) none none none none none none) []=.next (gb (ae c) none none (ae ((p+1+q:Nat):Int)) none none none) []:=by
   refine bH ((cp (x:=.int 1) (ac:=[]) rfl rfl add_int).trans ?_);rw[hq]
  have ak:ex (CC d) topN Fl (gb (ae c) none none (ae ((p+1+q:Nat):Int)) none none none) []=.next (gb (ae c) none none (ae ((p+1+q:Nat):Int)) (ae p) none none) []:=by
   refine bH ((cp rfl (y:=.int ((p+1+q:Nat):Int)) (au:=[]) rfl (gd (by grind))).trans ?_);rw[<- hq,hp]
  have j6:ex (CC d) topN Fm (gb (ae c) (aS "abcdefghijklmnopqrstuvwxyz0123456789") none (ae ((p+1+q:Nat):Int)) (ae p) (aH 0) none) [.lst []] =
    .next (gb (ae c) (aS "abcdefghijklmnopqrstuvwxyz0123456789") b6 (ae ((p+1+q:Nat):Int)) (ae p) (aH 0) bA) [.lst ((nt p q N (c/64%N).toNat).map .str)]:=by
   refine eY (ys:=(List.range' 0 24).map fun(i:Nat)=>H.int i) (ac:=[.lst []]) ((qT (n:=24) (by decide) rfl).trans ?_) (hl.trans ?_)
   ·have:cZ 0 1 24=(List.range' 0 24).map fun(i:Nat)=>H.int i:=by
     unfold cZ;rw[j0];refine List.map_congr_left fun i J=>?_;congr 1;(grind)
    rw[this]
   ·simp[nt,j0]
  exact(ai bP).trans ((ai V).trans ((ai ak).trans (rfl.trans (rfl.trans ((ai j6).trans rfl)))))
noncomputable abbrev xp(s nm many room pl k fr sp pick rule more nd gv wt md:Option H):aB:=
 [s,ae 0,nm,many,room,pl,k,fr,sp,pick,rule,more,nd,gv,wt,md,none,none,none,none,none,none,none,none,none,none]
structure nY where
 pk:Option H
 rl:Option H
 mr:Option H
 nd:Option H
 gv:Option H
 wt:Option H
 md:Option H
noncomputable def gx(aL:af)(l:List Int)(cb:H)(many room:Option H)(cG:List Str)(k:Option H)(v:nY):aB:=xp (some (.fl (l.map .int))) (some cb) many room (aH aL.length) k (aH (aL.length+1)) (some (.fl (cG.map .str))) v.pk v.rl v.mr v.nd v.gv v.wt v.md
noncomputable abbrev bG(aL:af)(p:List H)(f:List Str):af:=aL++[.lst p,.lst (f.map .str)]
theorem DM:∀(f:List Str) (i:Nat),(f.map H.str).eraseIdx i=(f.eraseIdx i).map .str
 | [],_=>rfl
 | _::_,0=>rfl
 | x::f,i+1=>by
  show H.str x::(f.map H.str).eraseIdx i=H.str x::(f.eraseIdx i).map .str;rw[DM f i]
theorem DN:∀(f:List Str) (i:Nat) (h:i<f.length),(f[i]::f.eraseIdx i).Perm f
 | [],_,h=>(nomatch h)
 | _::_,0,_=>.refl _
 | x::f,i+1,h=>by
  have hi:i<f.length:=by simpa using h
  have:=DN f i hi;show(f[i]'hi::x::f.eraseIdx i).Perm (x::f);exact(List.Perm.swap x _ _).trans (.cons x this)
theorem t7{p:List H}{f:List Str}:(bG aL p f)[aL.length+1]?=some (.lst (f.map .str)):=by simp[bG,hP]
theorem rI{p:List H}{f:List Str}:(bG aL p f)[aL.length]?=some (.lst p):=by simp[bG,hP]
theorem I8{p:List H}{f:List Str}(h:f.length<=100):dx .len (.ref (aL.length+1)) (bG aL p f)=.ok (.int f.length) (bG aL p f):=by
 have hs:eM (bG aL p f) (.ref (aL.length+1))=some (f.map .str):=by unfold eM;dsimp only;rw[t7]
 rw[I9 hs (fun J q=>by cases q) (mH h),bh]
theorem UG{p:List H}{f:List Str}{i:Int}(h:f.length<=100)(h0:0<=i)(hx:f[i.toNat]?=some x) :
  jk .pop (.ref (aL.length+1)) [.int i] (bG aL p f)=.ok (.str x) (bG aL p (f.eraseIdx i.toNat)):=by
 show pg (.ref (aL.length+1)) (.int i) (bG aL p f)=_;unfold pg;dsimp only;rw[t7];dsimp only;rw[aE ⟨h0,mH h⟩,fg,hx];dsimp only[Option.map_some];congr 1
 have e:bG aL p f=(aL++[.lst p])++[.lst (f.map .str)]:=by simp[bG]
 rw[e,List.set_append_right _ _ (by simp)];simp[bG,DM]
theorem Nm{f:H->af->ah (Option H)}{x v:H}(L:f x σ=.ok (some v) ac)(O:ea none f xs ac=.ok ys au):ea none f (x::xs) σ=.ok (v::ys) au:=by
 refine(aE trivial).trans ?_;rw[L];show(ea none f xs ac).bind _=_;rw[O];rfl
theorem NB{p:List H}{more:Int}:∀(qx:List Nat) (f:List Str),qx.length<=f.length->f.length<=100->∃made ow,made.length=qx.length/\(made++ow).Perm f ∧
  ea none (fun x σ=>(tst (CC (d+1)) (.k (.bool true)) (([none,none,none,none,aH (aL.length+1),ae more]:aB).set 1 (some x)) σ).bind fun b σ=>if b then(ev (CC (d+1)) (.me .pop (.v 4) #v[(.bin .mod (.call jg #v[(.bin .add (.bin .add (.v 5) (.bin .mul (aa 31) (.v 1))) (aa 5))]) (.b1 .len (.v 4)))]) (([none,none,none,none,aH (aL.length+1),ae more]:aB).set 1 (some x)) σ).bind fun v σ=>.ok (some v) σ else .ok none σ) (qx.map fun(j:Nat)=>H.int j) (bG aL p f) =
   .ok (made.map .str) (bG aL p ow):=by
 intro qx
 induction qx with
 | nil=>intro f _ _;exact⟨[],f,rfl,.refl _,aE trivial⟩
 | cons j qx ao =>
  intro f L O
  have bf:0<f.length:=by rw[dj]at L;(grind)
  have fS:=ey (eo (more+31*j+5)) (show((f.length:Nat):Int)≠0 by(exact Int.ofNat_ne_zero.mpr (dc (by assumption))));have n1:=e7 (eo (more+31*j+5)) (show(0:Int)<((f.length:Nat):Int) by(exact d3.mpr (by assumption)))
  have hi:(eo (more+31*j+5)%((f.length:Nat):Int)).toNat<f.length:=by grind
  generalize bd:(eo (more+31*j+5)%((f.length:Nat):Int)).toNat=i at hi
  have hx:f[i]?=some f[i]:=by simp[hi]
  obtain⟨made,ow,a6,cP,iX⟩:=ao (f.eraseIdx i) (by rw[List.length_eraseIdx,aE hi];rw[dj]at L;(grind)) (aK (List.length_eraseIdx_le f i) O);refine⟨f[i]::made,ow,by rw[dj,a6,dj],?_,?_⟩
  ·rw[List.cons_append];exact(List.Perm.cons _ cP).trans (DN f i hi)
  ·have e:ev (CC (d+1)) (.me .pop (.v 4) #v[(.bin .mod (.call jg #v[(.bin .add (.bin .add (.v 5) (.bin .mul (aa 31) (.v 1))) (aa 5))]) (.b1 .len (.v 4)))]) (([none,none,none,none,aH (aL.length+1),ae more]:aB).set 1 (ae j)) (bG aL p f)=.ok (.str f[i]) (bG aL p (f.eraseIdx i)):=by
    refine gU (m:=.pop) (x:=.ref (aL.length+1)) (ac:=bG aL p f) rfl ?_ (y:=.int (eo (more+31*j+5)%((f.length:Nat):Int))) (au:=bG aL p f) ?_ ?_
    ·show jh (.ref (aL.length+1)) (bG aL p f)=true;unfold jh;dsimp only;rw[t7]
    ·exact cp (eb rfl lu) (c0 (x:=.ref (aL.length+1)) (ac:=bG aL p f) rfl (I8 O)) (gd ((d3.mpr (by assumption))))
    ·rw[UG O fS (by rw[bd];exact hx),bd]
   refine Nm (ac:=bG aL p (f.eraseIdx i)) ?_ iX;show((ev _ _ _ _).bind fun v σ=>ah.ok (some v) σ)=_;rw[e];rfl
theorem XQ{more:Int}{nd:Nat}(hs:1<=cG.length)(hl:cG.length<=100)(hn:nd<=4){s pl k fr pick rule gv wt md:Option H} :
  ∃jr:List Str,jr.length=nd/\(∀w∈jr,w∈cG)/\ev (CC (d+1)) Fw (xp s nm many room pl k fr (some (.fl (cG.map .str))) pick rule (ae more) (ae nd) gv wt md) σ=.ok (.fl (jr.map .str)) σ:=by
 have hZ:=mH hl;refine⟨(List.range nd).map fun(j:Nat)=>cG.getD (eo (more+7*(j:Int))%((cG.length:Nat):Int)).toNat "",by simp,fun w hw=>?_,?_⟩
 ·refine az (cL.mp hw) fun j a8 ag=>?_;obtain rfl:=ag;have fS:=ey (eo (more+7*j)) (show((cG.length:Nat):Int)≠0 by(exact Int.ofNat_ne_zero.mpr (dc (by assumption))));have n1:=e7 (eo (more+7*j)) (show(0:Int)<((cG.length:Nat):Int) by(exact d3.mpr (by assumption)))
  have hi:(eo (more+7*j)%((cG.length:Nat):Int)).toNat<cG.length:=by grind
  have:cG.getD (eo (more+7*j)%((cG.length:Nat):Int)).toNat "" = cG[(eo (more+7*j)%((cG.length:Nat):Int)).toNat]:=by simp[List.getD,hi]
  rw[this];exact List.getElem_mem hi
 ·refine(m0 (fun x=>match x with | .int i=>.str (cG.getD (eo (more+7*i)%((cG.length:Nat):Int)).toNat "") | _=>.none) (qT (n:=nd) ((aK (by assumption) (by decide))) rfl) (by rw[show(cZ 0 1 nd).length=nd by simp[cZ]];exact aK hn (by decide)) fun x hx=>?_).trans (by rw[Bz (f:=fun(j:Nat)=>cG.getD (eo (more+7*(j:Int))%((cG.length:Nat):Int)).toNat "") fun k hk=>rfl]);refine az (BA hx) fun j a8 ag=>?_;obtain rfl:=ag;have fS:=ey (eo (more+7*j)) (show((cG.length:Nat):Int)≠0 by(exact Int.ofNat_ne_zero.mpr (dc (by assumption))));have n1:=e7 (eo (more+7*j)) (show(0:Int)<((cG.length:Nat):Int) by(exact d3.mpr (by assumption)))
  have hi:(eo (more+7*j)%((cG.length:Nat):Int)).toNat<cG.length:=by grind
  have da:dx .len (.fl (cG.map .str)) σ=.ok (.int cG.length) σ:=by rw[AW hZ,bh]
  refine cM (x:=.fl (cG.map .str)) (ac:=σ) rfl (cp (eb rfl lu) (c0 (x:=.fl (cG.map .str)) (ac:=σ) rfl da) (gd ((d3.mpr (by assumption))))) (km hZ fS ?_);rw[fg];simp[List.getD,hi]
noncomputable def c7.head:c7->Str
 | .word w=>w
 | .fixed _ => "fixed"
noncomputable def na(more:Int):Nat:=[1,1,1,2,3].getD (more/4%5).toNat 1
theorem Hi(more:Int):([H.int 1,.int 1,.int 1,.int 2,.int 3])[(more/4%5).toNat]?=ae (na more)/\1<=na more/\na more<=3:=by
 have fS:=ey (more/4) (show(5:Int)≠0 by decide);have n1:=e7 (more/4) (show(0:Int)<5 by decide);unfold na;generalize more/4%5=x at fS n1;refine sW (n:=5) (P:=fun x=>([H.int 1,.int 1,.int 1,.int 2,.int 3])[x.toNat]?=ae ([1,1,1,2,3].getD x.toNat 1:Nat)/\1<=[1,1,1,2,3].getD x.toNat 1/\[1,1,1,2,3].getD x.toNat 1<=3) ?_ fS n1;refine d9 (d9 (d9 (d9 (d9 rF ?_) ?_) ?_) ?_) ?_ <;> exact⟨rfl,by decide,by decide⟩
theorem HQ{r:c7}(h:jt r):f6 r.pv (.int 0) σ=.ok (.str r.head) σ:=by cases h <;> rfl
structure xk(r:c7)(more:Int)(nd gv:Nat):Prop where
 n1:1<=nd
 n4:nd<=4
 g1:1<=gv
 g3:gv<=3
 ok:∀g:Nat,((r.head == ("way" : Str))=true->g=2)->fG r nd g
 way:(r.head == ("way" : Str))=true->gv=2
 nd_eq:(jn r.head ((["way", "choose"]:List Str).zip [.int 2,.int 3])).getD (.int (if(r.head == ("later" : Str))=true then 1 else 1+more%4))=.int nd
 gv_eq:(jn r.head ((["way"]:List Str).zip [.int 2])).getD (.int (na more))=.int gv
theorem Sa{r:c7}(h:jt r)(more:Int):∃nd gv,xk r more nd gv:=by
 have qC:=ey more (show(4:Int)≠0 by decide);have a6:=e7 more (show(0:Int)<4 by decide);refine d4 (Hi more) fun J g1 g3=>?_
 have hn:(1+more%4)=(((1+more%4).toNat:Nat):Int):=by grind
 have ta:∀(r:c7),(r.head == ("way" : Str))=false->(r.head == ("later" : Str))=false->(∀n g,fG r n g)->jn r.head ((["way", "choose"]:List Str).zip [H.int 2,.int 3])=none->jn r.head ((["way"]:List Str).zip [H.int 2])=none->∃nd gv,xk r more nd gv:=by
  intro r a b c e f;refine⟨(1+more%4).toNat,na more,by grind,by grind,g1,g3,fun g J=>c _ _,fun q=>(by rw[a]at q;cases q),?_,?_⟩
  ·rw[e,b];show H.int (1+more%4)=_;rw[<- hn]
  ·rw[f];rfl
 cases h with
 | sum=>exact ta _ (by decide +kernel) (by decide +kernel) (fun n g=>.sum n g) rfl rfl
 | times=>exact ta _ (by decide +kernel) (by decide +kernel) (fun n g=>.times n g) rfl rfl
 | least=>exact ta _ (by decide +kernel) (by decide +kernel) (fun n g=>.least n g) rfl rfl
 | most=>exact ta _ (by decide +kernel) (by decide +kernel) (fun n g=>.most n g) rfl rfl
 | fixed v ff a0=>exact ta _ (show(("fixed" : Str) == "way")=false by decide +kernel) (show(("fixed" : Str) == "later")=false by decide +kernel) (fun n g=>.fixed v n g ff a0) rfl rfl
 | later =>
  refine⟨1,na more,by decide,by decide,g1,g3,fun g J=>.later g,fun q=>(by rw[show(c7.head (.word "later") == ("way" : Str))=false by decide +kernel]at q;cases q),?_,rfl⟩;rw[show(c7.head (.word "later") == ("later" : Str))=true by decide +kernel];rfl
 | way=>exact⟨2,2,by decide,by decide,by decide,by decide,fun g hg=>by rw[hg (by decide +kernel)];exact .way,fun J=>rfl,rfl,rfl⟩
 | choose=>exact⟨3,na more,by decide,by decide,g1,g3,fun g J=>.choose g,fun q=>(by rw[show(c7.head (.word "choose") == ("way" : Str))=false by decide +kernel]at q;cases q),rfl,rfl⟩
theorem Jn(a b:Nat):min (a:Int) (b:Int)=((min a b:Nat):Int):=by
 rcases Nat.le_total a b with h | h
 ·rw[Int.min_eq_left (Int.ofNat_le.mpr h),Nat.min_eq_left h]
 ·rw[Int.min_eq_right (Int.ofNat_le.mpr h),Nat.min_eq_right h]
theorem OY(hl:l.length<=63){k fl:Nat}{v:nY}{S:af}(bf:dx .len (.ref (aL.length+1)) S=.ok (.int (fl:Nat)) S) :
  ∃(pick more:Int) (r:c7) (n g:Nat),jt r/\xk r more n g/\∀rest,ex (CC (d+2)) topN (.cons y4 (.cons y5 (.cons y6 (.cons y7 (.cons y8 (.cons y9 (.cons za rest)))))))
   (gx aL l cb many room cG (ae (k:Nat)) v) S=ex (CC (d+2)) topN rest (gx aL l cb many room cG (ae (k:Nat)) ⟨ae pick,some r.pv,ae more,ae (n:Nat),ae ((min g fl:Nat):Int),v.wt,v.md⟩) S:=by
 have bP:ev (CC (d+2)) (.call jg #v[(.bin .add (.call fP #v[(.v 0),(.bin .add (.bin .add (.v 1) (aa 3)) (.bin .mod (.v 6) (aa 8)))]) (.bin .mul (aa 977) (.v 6)))]) (gx aL l cb many room cG (ae (k:Nat)) v) S=_:=
  eb (cp (iu (x:=.fl (l.map .int)) (y:=.int ((3+k%8:Nat):Int)) (ac:=S) (au:=S) rfl (by rw[Int.natCast_add,Int.natCast_emod];rfl) (oE (d:=d+1) hl)) (y:=.int (977*(k:Int))) (au:=S) rfl add_int) (lu (d:=d+1))
 generalize eo (l.getD (3+k%8) 0+977*(k:Int))=pick at bP;refine az (Po (p:=eo pick) (ey (pick/5) (show(12:Int)≠0 by decide)) (e7 (pick/5) (show(0:Int)<12 by decide))) fun r sJ QS=>?_;have ak:=fun{σ:af}=>lu (d:=d+1) (σ:=σ) (p:=pick+1);generalize eo (pick+1)=more at ak;refine jb (Sa sJ more) fun n g K=>?_;have hd:∀{ρ:aB},ev (CC (d+2)) (.v 10) ρ S=.ok r.pv S->ev (CC (d+2)) (.sub (.v 10) (aa 0)) ρ S=.ok (.str r.head) S:=fun h=>cM h (y:=.int 0) (au:=S) rfl (HQ sJ)
 have Rl:∀b:Bool,f6 (.fl [.int (1+more%4),.int 1]) (.int (if b then 1 else 0)) S=.ok (.int (if b=true then 1 else 1+more%4)) S:=fun b=>by cases b <;> rfl
 refine⟨pick,more,r,n,g,sJ,K,fun rest=>?_⟩;refine cS (ai (a:=y4) (bH bP)) ?_;refine cS (ai (a:=y5) (bH (iu (eb (x:=.int pick) (ac:=S) rfl lu) (y:=.int (pick/5%12)) (au:=S) rfl QS))) ?_;refine cS (ai (a:=y6) (bH (eb (x:=.int (pick+1)) (ac:=S) rfl ak))) ?_;refine cS (ai (a:=y7) (bH (cM (x:=.fl [.int (1+more%4),.int 1]) (ac:=S) rfl (c0 (fm (hd rfl) (y:=.str "later") (au:=S) rfl p6) int_bool) (Rl _)))) ?_;refine cS (ai (a:=y8) (bH ((DC (hd rfl) (y:=.int (if(r.head == ("later" : Str))=true then 1 else 1+more%4)) (au:=S) rfl).trans (congrArg (fun x=>ah.ok x S) K.nd_eq)))) ?_;refine cS (ai (a:=y9) (bH ((DC (hd rfl) (cM (x:=.fl [.int 1,.int 1,.int 1,.int 2,.int 3]) (ac:=S) rfl (y:=.int (more/4%5)) (au:=S) rfl (km (show(5:Nat)<=aI by decide) (ey (more/4) (show(5:Int)≠0 by decide)) (Hi more).1))).trans (congrArg (fun x=>ah.ok x S) K.gv_eq)))) ?_;exact cS (ai (a:=za) (bH (DD (x:=.int (g:Nat)) (ac:=S) rfl (c0 (x:=.ref (aL.length+1)) (ac:=S) rfl bf) (congrArg (fun x=>ah.ok (H.int x) S) (Jn g fl))))) rfl
theorem XA(hl:l.length<=63){names free:List Str}{steps:List am}(hk:steps.length<20)
  (fA:∀τ (i:Nat),i<24->f6 cb (.int i) (aL++τ)=.ok (.str (names.getD i "")) (aL++τ)) (kK:1<=cG.length) (AB:cG.length<=100) (Ao:free.length<=100)
  (oM:∀i,i<24->g8 (names.getD i "")) (AC:∀n∈cG,g8 n) (Qh:∀n∈free,g8 n) (oN:free.Nodup) (v:nY) :
  ∃dL:nY,
   (ex (CC (d+2)) topN ve (gx aL l cb many room cG (ae steps.length) v) (bG aL (steps.map am.pv) free) =
    .brk (gx aL l cb many room cG (ae steps.length) dL) (bG aL (steps.map am.pv) free)) ∨
   ∃s fN,gK s/\s.name=names.getD (23-steps.length) "" /\ (s.gives++fN).Perm free ∧
    ex (CC (d+2)) topN ve (gx aL l cb many room cG (ae steps.length) v) (bG aL (steps.map am.pv) free) =
    .next (gx aL l cb many room cG (ae steps.length) dL) (bG aL ((steps++[s]).map am.pv) fN):=by
 obtain⟨pick,more,r,n,g,sJ,K,zT⟩:=OY (d:=d) (aL:=aL) hl (cG:=cG) (cb:=cb) (many:=many) (room:=room) (k:=steps.length) (v:=v) (I8 (p:=steps.map am.pv) Ao);have gl:min g free.length<=free.length:=Nat.min_le_right _ _;have zX:min g free.length<=g:=Nat.min_le_left _ _;generalize min g free.length=gg at zT gl zX;have He:gg<=100:=aK gl Ao
 have cond:tst (CC (d+2)) (.or #v[(.cmp (.v 13) .eq (aa 0)),(.and #v[(.cmp (.sub (.v 10) (aa 0)) .eq (.k (.str "way"))),(.cmp (.v 13) .lt (aa 2))])]) (gx aL l cb many room cG (ae steps.length) ⟨ae pick,some r.pv,ae more,ae (n:Nat),ae (gg:Nat),v.wt,v.md⟩) (bG aL (steps.map am.pv) free)=.ok (((gg:Int) == 0)||((r.head == ("way" : Str))&&decide ((gg:Int)<2))) (bG aL (steps.map am.pv) free):=
  h6 (rc (q:=(gg:Int) == 0) (ac:=bG aL (steps.map am.pv) free) rfl fun J=>iZ (jI (nJ (b7 (cM (x:=r.pv) (y:=.int 0) (ac:=bG aL (steps.map am.pv) free) (au:=bG aL (steps.map am.pv) free) rfl rfl (HQ sJ)) (y:=.str "way") (au:=bG aL (steps.map am.pv) free) rfl p6) fun J=>k4 rfl)))
 cases hb:(((gg:Int) == 0)||((r.head == ("way" : Str))&&decide ((gg:Int)<2)))with
 | true =>
  rw[hb]at cond;exact⟨_,.inl ((zT _).trans (Ol (a:=zb) ((cj cond).trans rfl)))⟩
 | false =>
  rw[hb]at cond;refine aW (Bool.or_eq_false_iff.mp hb) fun jE qi=>?_;have Pj:1<=gg:=Nat.pos_of_ne_zero fun q=>lj.mp jE (by rw[q];rfl)
  have Pl:(r.head == ("way" : Str))=true->gg=2:=fun q=>by
   rw[q,Bool.true_and]at qi;exact Nat.le_antisymm (K.way q▸zX) (Int.ofNat_le.mp (Int.not_lt.mp (of_decide_eq_false qi)))
  refine bL (XQ (d:=d+1) (σ:=bG aL (steps.map am.pv) free) (more:=more) kK AB K.n4 (s:=some (.fl (l.map .int))) (nm:=some cb) (many:=many) (room:=room) (pl:=aH aL.length) (k:=ae steps.length) (fr:=aH (aL.length+1)) (pick:=ae pick) (rule:=some r.pv) (gv:=ae (gg:Nat)) (wt:=v.wt) (md:=v.md)) fun jr w4 XZ Rb=>?_;refine l7 (NB (d:=d+1) (aL:=aL) (p:=steps.map am.pv) (more:=more) (List.range' 0 gg) free (by rw[List.length_range'];exact gl) Ao) fun made fN dl dp P8=>?_;rw[List.length_range']at dl
  have hr:cZ 0 1 gg=(List.range' 0 gg).map fun(j:Nat)=>H.int j:=by
   unfold cZ;rw[j0];exact List.map_congr_left fun i J=>by rw[Int.mul_one,Int.zero_add]
  have NE:ev (CC (d+2)) Fx (gx aL l cb many room cG (ae steps.length) ⟨ae pick,some r.pv,ae more,ae (n:Nat),ae (gg:Nat),some (.fl (jr.map .str)),v.md⟩) (bG aL (steps.map am.pv) free)=.ok (.fl (made.map .str)) (bG aL (steps.map am.pv) fN):=by
   show ev (CC (d+2)) (.comp true 1 _ _ _ _) _ _=_;rw[lp,show(CC (d+2)).hd=false from rfl,qT (n:=gg) He rfl,cg,hr];exact(congrArg (fun o:ah (List H)=>ir ((List.range' 0 gg).map fun(j:Nat)=>H.int j).length o fun ys σ=>fb true ys σ) P8).trans (nq (mH (by rw[dl];exact He)))
  have Lp:jr.length<=4:=w4▸K.n4;have Dy:made.length<=3:=dl▸aK zX K.g3;have R5:23-((steps.length:Nat):Int)=((23-steps.length:Nat):Int):=(Int.ofNat_sub (aK (Nat.le_of_lt hk) (by decide))).symm
  have NC:ex (CC (d+2)) topN FD (gx aL l cb many room cG (ae steps.length) ⟨ae pick,some r.pv,ae more,ae (n:Nat),ae (gg:Nat),some (.fl (jr.map .str)),some (.fl (made.map .str))⟩) (bG aL (steps.map am.pv) fN)=.next (gx aL l cb many room cG (ae steps.length) ⟨ae pick,some r.pv,ae more,ae (n:Nat),ae (gg:Nat),some (.fl (jr.map .str)),some (.fl (made.map .str))⟩) (bG aL ((steps++[am.mk (names.getD (23-steps.length) "") r jr made]).map am.pv) fN):=by
   refine fM (gU (m:=.append) (x:=.ref aL.length) (ac:=bG aL (steps.map am.pv) fN) rfl (mw (.inl rfl)) (y:=am.pv (am.mk (names.getD (23-steps.length) "") r jr made)) (au:=bG aL (steps.map am.pv) fN) (j7 (vs:=[.str (names.getD (23-steps.length) ""),r.pv,.tup (jr.map .str),.tup (made.map .str)]) (c4 (cM (x:=cb) (y:=.int (23-((steps.length:Nat):Int))) (ac:=bG aL (steps.map am.pv) fN) (au:=bG aL (steps.map am.pv) fN) rfl rfl (R5▸fA _ _ (fY (Nat.sub_le _ _) (by decide)))) (c4 (x:=r.pv) (ac:=bG aL (steps.map am.pv) fN) rfl (c4 (c0 (x:=.fl (jr.map .str)) (ac:=bG aL (steps.map am.pv) fN) rfl (Lb (mH (aK Lp (by decide))))) (c4 (c0 (x:=.fl (made.map .str)) (ac:=bG aL (steps.map am.pv) fN) rfl (Lb (mH (aK Dy (by decide))))) rfl)))) (show(4:Nat)<=aI by decide)) ?_);show kE (.ref aL.length) _ _=_;have je:(bG aL (steps.map am.pv) fN)[aL.length]?=some (.lst (steps.map am.pv)):=rI;unfold kE;dsimp only;rw[je];dsimp only;rw[aE (by rw[bh];exact aK (Nat.succ_le_of_lt hk) (by decide)),eX];show ah.ok H.none ((aL++[aV.lst (steps.map am.pv),.lst (fN.map .str)]).set aL.length _)=_;rw[List.set_append_right _ _ (dz _),Nat.sub_self];rfl
  refine⟨_,.inr ⟨⟨names.getD (23-steps.length) "",r,jr,made⟩,fN,⟨oM _ (fY (Nat.sub_le _ _) (by decide)),fun w hw=>AC w (XZ w hw),w4.symm▸K.n1,Lp,fun w hw=>Qh w (dp.subset (hj _ hw)),dl.symm▸Pj,Dy,(hQ.mp (dp.nodup_iff.mpr oN)).1,?_⟩,rfl,dp,(zT _).trans ((ai (a:=zb) (bx cond)).trans ((ai (a:=FE) (bH Rb)).trans ((ai (a:=FF) (bH NE)).trans ((ai NC).trans bE))))⟩⟩;show fG r jr.length made.length;exact w4.symm▸dl.symm▸(K.ok gg Pl)
structure pM(names:List Str)(steps:List am)(free:List Str):Prop where
 ok:∀s∈steps,gK s
 nm:steps.map (·.name)=(List.range steps.length).map fun j=>names.getD (23-j) ""
 nd:(steps.flatMap (·.gives)++free).Nodup
 fr:∀n∈free,g8 n
 len:free.length<=100
 fp:∀n∈free,jV n
 gp:∀s∈steps,∀g∈s.gives,jV g
theorem SN(hl:l.length<=63){names:List Str}
  (fA:∀τ (i:Nat),i<24->f6 cb (.int i) (aL++τ)=.ok (.str (names.getD i "")) (aL++τ)) (kK:1<=cG.length) (AB:cG.length<=100)
  (oM:∀i,i<24->g8 (names.getD i "")) (AC:∀n∈cG,g8 n):∀(n:Nat) (steps:List am) (free:List Str) (ck:Option H) (v:nY),steps.length+n<=20->pM names steps free ->
  ∃(BO:List am) (fN:List Str) (IZ:Option H) (dL:nY),BO.length<=20/\pM names BO fN ∧
   ch none (dm 6) (fun ρ σ=>ex (CC (d+2)) topN ve ρ σ) ((List.range' steps.length n).map fun(i:Nat)=>H.int i) (gx aL l cb many room cG ck v) (bG aL (steps.map am.pv) free) =
    .next (gx aL l cb many room cG IZ dL) (bG aL (BO.map am.pv) fN):=by
 intro n
 induction n with
 | zero=>intro steps free ck v h I;exact⟨steps,free,ck,v,h,I,eS⟩
 | succ n ao =>
  intro steps free ck v h I;rw[j1,dw];obtain⟨dL,T⟩:=XA (d:=d) (aL:=aL) hl (many:=many) (room:=room) (steps:=steps) ((fY (fh _ _) (by assumption))) fA kK AB I.len oM AC I.fr (hQ.mp I.nd).2.1 v
  rcases T with T | ⟨s,fN,d6,sn,sp,T⟩
  ·exact⟨steps,free,ae steps.length,dL,aK (fh _ _) h,I,OS rfl T⟩
  ·have LG:pM names (steps++[s]) fN:=by
    refine⟨fun x hx=>?_,?_,?_,fun x hx=>I.fr x (sp.subset (e6 _ hx)),?_,fun x hx=>I.fp x (sp.subset (e6 _ hx)),fun x hx g hg=>?_⟩
    ·rcases dH.mp hx with q | q
     ·exact I.ok x q
     ·rw[df.mp q];exact d6
    ·rw[eX,I.nm,cN,List.length_singleton,List.range_succ,eX,List.map_singleton,List.map_singleton,sn]
    ·have:((steps++[s]).flatMap (·.gives)++fN).Perm (steps.flatMap (·.gives)++free):=by
      rw[List.flatMap_append,eQ];refine List.Perm.append_left _ ?_;simpa using sp
     exact this.nodup_iff.mpr I.nd
    ·have:=sp.length_eq;rw[cN]at this;have:=I.len
     (grind)
    ·rcases dH.mp hx with q | q
     ·exact I.gp x q g hg
     ·rw[df.mp q]at hg;exact I.fp g (sp.subset (hj _ hg))
   obtain⟨V7,OV,Sc,bN,q1,q2,q3⟩:=ao (steps++[s]) fN (ae steps.length) dL (by rw[cN,List.length_singleton];(grind)) LG;refine⟨V7,OV,Sc,bN,q1,q2,(ek rfl T).trans ?_⟩;rw[cN,List.length_singleton]at q3;exact q3
theorem s3{f:H->Option PyData}:∀{xs:List H},(∀x∈xs,∃d,f x=some d)->∃ds,xs.mapM f=some ds/\ds.length=xs.length
 | [],_=>⟨[],rfl,rfl⟩
 | x::xs,h=>by
  obtain⟨e,he⟩:=h x ((bu));refine az (s3 (xs:=xs) fun y hy=>h y (bQ _ hy)) fun es Qa hl=>?_;exact⟨e::es,by rw[List.mapM_cons,he,Qa];rfl,by simp[hl]⟩
theorem KY{m:Nat}(l:List Str):∃e,cK (m+2) σ (.tup (l.map .str))=some e:=by
 obtain⟨ds,h,_⟩:=s3 (f:=cK (m+1) σ) (xs:=l.map .str) fun x hx=>by refine az (cL.mp hx) fun w J ag=>?_;obtain rfl:=ag;exact⟨.str w,rfl⟩
 exact⟨.tuple ds,by show((l.map H.str).mapM (cK (m+1) σ)).map PyData.tuple=_;rw[h];rfl⟩
theorem KW{m:Nat}(s:am):∃e,cK (m+3) σ s.pv=some e:=by
 obtain⟨ds,h,_⟩:=s3 (f:=cK (m+2) σ) (xs:=[.str s.name,s.rule.pv,.tup (s.needs.map .str),.tup (s.gives.map .str)]) fun x hx=>by
  simp only[cE,ew,or_false]at hx
  rcases hx with q | q | q | q
  ·subst q;exact⟨.str s.name,rfl⟩
  ·subst q;cases s.rule with
   | word w=>exact⟨.tuple [.str w],rfl⟩
   | fixed v=>exact⟨.tuple [.str "fixed",.int v],rfl⟩
  ·subst q;exact KY _
  ·subst q;exact KY _
 exact⟨.tuple ds,by show(([H.str s.name,s.rule.pv,.tup (s.needs.map .str),.tup (s.gives.map .str)]).mapM (cK (m+2) σ)).map PyData.tuple=_;rw[h];rfl⟩
theorem DI{steps:List am}(je:σ[i]?=some (.lst (steps.map am.pv))):cX .eq (.ref i) (.fl []) σ=.ok (decide (steps=[])) σ:=by
 obtain⟨ds,h,hl⟩:=s3 (f:=cK 15 σ) (xs:=steps.map am.pv) fun x hx=>by refine az (cL.mp hx) fun s J ag=>?_;obtain rfl:=ag;exact KW (m:=12) s
 have e:cK 16 σ (.ref i)=some (.list ds):=by
  show(match σ[i]? with | some (.lst xs)=>(xs.mapM (cK 15 σ)).map PyData.list | _=>none)=_;rw[je];dsimp only;rw[h];rfl
 show ah.ofOpt (eqv σ (.ref i) (.fl [])) σ=_;unfold eqv;rw[e];show ah.ok (PyData.eqv (.list ds) (.list [])) σ=_;rw[bh]at hl
 cases steps with
 | nil =>
  have:ds=[]:=ii hl;subst this;rfl
 | cons s steps =>
  cases ds with
  | nil=>(exact nomatch hl)
  | cons x ds=>rw[show decide (s::steps=[])=false from f0 (by(intro q;exact nomatch q))];rfl
theorem vy{names:List Str}(h:i<names.length):names.getD i "" = names[i]:=by rw[li,dA h];rfl
theorem qB{names:List Str}(hl:names.length=24)(i:Nat):23-i<names.length:=hl▸fY (Nat.sub_le _ _) (by decide)
theorem Rx{names:List Str}(hn:names.Nodup)(hl:names.length=24){steps:List am}{free:List Str}(I:pM names steps free)(L:1<=steps.length)(O:steps.length<=20):dG steps:=by
 refine⟨L,O,I.ok,?_,(hQ.mp I.nd).1⟩;rw[I.nm,List.Nodup,List.pairwise_map];refine List.Pairwise.imp_of_mem ?_ (List.nodup_range (n:=steps.length));intro i j hi a8 de e;have up:∀{i:Nat},i∈List.range steps.length->i<=23:=fun h=>aK (Nat.le_of_lt (List.mem_range.mp h)) (aK O (by decide));rw[vy (qB hl i),vy (qB hl j)]at e;have e:=(List.getElem?_inj (qB hl i) hn).mp (show names[23-i]?=names[23-j]? by rw[dA (qB hl i),dA (qB hl j),e]);exact de (by rw[<- Nat.sub_sub_self (up hi),e,Nat.sub_sub_self (up a8)])
theorem Rw{names:List Str}(hl:names.length=24){steps:List am}{free:List Str}(I:pM names steps free){s:am}(hs:s∈steps):s.name∈names:=by
 have h:s.name∈steps.map (·.name):=cL.mpr ⟨s,hs,rfl⟩;rw[I.nm]at h;refine az (cL.mp h) fun j J e=>?_;exact e▸(vy (qB hl j)).symm▸(List.getElem_mem _)
theorem TB{names:List Str}(hl:names.length=24){v:H}(h:(v=.fl (names.map .str)/\aL=[])\/(v=.ref 0/\aL=[.lst (names.map .str)])):∀τ (i:Nat),i<24->f6 v (.int i) (aL++τ)=.ok (.str (names.getD i "")) (aL++τ):=by
 intro τ i hi;have il:i<names.length:=hl▸hi
 have hg:(names.map H.str)[(i:Int).toNat]?=aS (names.getD i ""):=by
  rw[fg,vy il,jy,dA il];rfl
 have hZ:(names.map H.str).length<=aI:=mH (hl▸(by decide))
 rcases h with⟨rfl,rfl⟩ | ⟨rfl,rfl⟩
 ·exact km hZ ((d8 _)) hg
 ·exact wN (by rfl) hZ ((d8 _)) hg
theorem cell_call(hl:l.length<=63){a:X}(h0:ev (CC (d+2)) (.v 0) ρ σ=.ok (.fl (l.map .int)) σ)(ha:ev (CC (d+2)) a ρ σ=.ok (.int j) σ):ev (CC (d+2)) (.call fP #v[(.v 0),a]) ρ σ=.ok (.int (l.getD j 0)) σ:=
 iu h0 ha (oE hl)
theorem O4{xs:List Int}{lo hi:Nat}(h:xs.all (fun x=>decide ((lo:Int)<=x)&&decide (x<=(hi:Int)))=true)(HU:i<xs.length):∃q:Nat,lo<=q/\q<=hi/\xs.getD i 0=q:=by
 rw[li,dA HU];have m:=fZ.mp h _ (List.getElem_mem HU);refine aW (dk m) fun a6 cP=>?_;have a6:=ht a6;refine aM (iO (Int.le_trans (d8 lo) a6)) fun q hq=>?_;rw[hq]at a6 cP;exact⟨q,Int.ofNat_le.mp a6,Int.ofNat_le.mp (ht cP),hq⟩
theorem J3{xs:List Int}{lo hi:Nat}{a b:X}{c:Int}(h:xs.all (fun x=>decide ((lo:Int)<=x)&&decide (x<=(hi:Int)))=true)(h0:0<xs.length)(hl:xs.length<=100)(ha:ev C a ρ σ=.ok (.fl (xs.map .int)) σ)(hb:ev C b ρ σ=.ok (.int (c%(xs.length:Nat))) σ):∃q:Nat,lo<=q/\q<=hi/\ev C (.sub a b) ρ σ=.ok (.int (q:Nat)) σ:=by
 have oX:=ey c (Int.ofNat_ne_zero.mpr (dc h0));have bM:=BW oX (e7 c (d3.mpr h0));refine bL (O4 h bM) fun q q1 q2 hq=>?_;refine⟨q,q1,q2,cM ha hb (km (by rw[bh];exact aK hl (by decide)) oX ?_)⟩;rw[fg,dA bM,<- hq,li,dA bM];rfl
theorem Hh{xs:List Str}(h:i<xs.length):xs.getD i "" ∈ xs:=by
 rw[li,dA h];exact List.getElem_mem h
noncomputable abbrev ky(l:List Int)(cb:H)(a b c e f:Option H):aB:=xp (some (.fl (l.map .int))) (some cb) a b c none e f none none none none none none none
theorem SV(hl:l.length<=63):∃many:Nat,1<=many/\many<=20/\∀r,ex (CC (d+2)) topN (.cons vc (.cons vd r)) (ky l cb none none none none none) σ=ex (CC (d+2)) topN r (ky l cb (ae (many:Nat)) none none none none) σ:=by
 have cell:∀{a:Option H},ev (CC (d+2)) (.call fP #v[(.v 0),(.bin .add (.v 1) (aa 1))]) (ky l cb a none none none none) σ=.ok (.int (l.getD 1 0)) σ:=fun{a}=>cell_call hl (j:=1) rfl rfl;refine bL (J3 (lo:=1) (hi:=20) (xs:=[1,2,3,4,6,8]) (c:=l.getD 1 0) (ρ:=ky l cb none none none none none) (a:=.lst true #v[(aa 1),(aa 2),(aa 3),(aa 4),(aa 6),(aa 8)]) rfl (by decide) (by decide) rfl (cp cell (b:=.k (.int 6)) (y:=.int 6) (au:=σ) rfl (gd (by decide)))) fun q q1 q2 V=>?_
 have cH:tst (CC (d+2)) (.cmp (.bin .mod (.bin .fdiv (.call fP #v[(.v 0),(.bin .add (.v 1) (aa 1))]) (aa 6)) (aa 10)) .eq (aa 1)) (ky l cb (ae (q:Nat)) none none none none) σ=.ok (l.getD 1 0/6%10 == 1) σ:=
  b7 (zO (by decide) (by decide) (by decide) cell) (y:=.int 1) (au:=σ) rfl l9
 cases Hv:(l.getD 1 0/6%10 == 1)with
 | true =>
  rw[Hv]at cH;have jq:=e7 (l.getD 1 0/60) (show(0:Int)<12 by decide);refine aM (iO (ey (l.getD 1 0/60) (show(12:Int)≠0 by decide))) fun w hw=>?_;have ak:=zO (a:=60) (b:=12) (by decide) (by decide) (by decide) (cell (a:=ae (q:Nat)));rw[hw]at jq ak;exact⟨9+w,aK (by decide) (fh 9 w),kB (Nat.le_of_lt_succ (d3.mp jq)) 9,fun r=>(ai (a:=vc) (bH V)).trans (ai (a:=vd) ((cj cH).trans ((ai (a:=Fz) (bH (cp (x:=.int 9) (ac:=σ) rfl ak add_int))).trans bE)))⟩
 | false =>
  rw[Hv]at cH;exact⟨q,q1,q2,fun r=>(ai (a:=vc) (bH V)).trans (ai (a:=vd) (bx cH))⟩
theorem Vd{a:Option H}(hl:l.length<=63):∃room:Nat,2<=room/\room<=9/\∀r,ex (CC (d+2)) topN (.cons y1 (.cons FA r)) (ky l cb a none none none none) σ=ex (CC (d+2)) topN r (ky l cb a (ae (room:Nat)) (aH σ.length) none none) (σ++[.lst []]):=by
 refine bL (J3 (lo:=2) (hi:=9) (xs:=[2,4,6,9]) (c:=l.getD 2 0) (ρ:=ky l cb a none none none none) (a:=.lst true #v[(aa 2),(aa 4),(aa 6),(aa 9)]) rfl (by decide) (by decide) rfl (cp (cell_call (d:=d) (a:=.bin .add (.v 1) (aa 2)) hl (j:=2) rfl rfl) (b:=.k (.int 4)) (y:=.int 4) (au:=σ) rfl (gd (by decide)))) fun q q1 q2 V=>?_;exact⟨q,q1,q2,fun r=>(ai (a:=y1) (bH V)).trans rfl⟩
section
variable {names:List Str}(fA:∀τ (i:Nat),i<24->f6 cb (.int i) (aL++τ)=.ok (.str (names.getD i "")) (aL++τ))(gE:names.length=24)
include fA gE
theorem OW{many room t:Nat}(aO:min (24:Int) ((room:Int)+many)=t)(O:t<=24):∀r,ex (CC (d+2)) topN (.cons y2 (.cons y3 r)) (ky l cb (ae (many:Nat)) (ae (room:Nat)) (aH aL.length) none none) (aL++[.lst []])=ex (CC (d+2)) topN r (gx aL l cb (ae (many:Nat)) (ae (room:Nat)) (names.take t) none ⟨none,none,none,none,none,none,none⟩) (bG aL [] (names.take t)):=fun r=>by
 have kn:(names.take t).length<=100:=by rw[List.length_take,gE];exact aK (Nat.min_le_right _ _) (by decide)
 have QB:ev (CC (d+2)) (.min2 (aa 24) (.bin .add (.v 4) (.v 3))) (ky l cb (ae (many:Nat)) (ae (room:Nat)) (aH aL.length) none none) (aL++[.lst []])=.ok (.int (t:Nat)) (aL++[.lst []]):=by
  refine DD (x:=.int 24) (y:=.int ((room:Int)+many)) (ac:=aL++[.lst []]) (au:=aL++[.lst []]) rfl rfl ?_;show ah.ok (H.int (min (24:Int) ((room:Int)+many))) _=_;rw[aO]
 have io:ev (CC (d+2)) Fv (ky l cb (ae (many:Nat)) (ae (room:Nat)) (aH aL.length) none none) (aL++[.lst []])=.ok (.ref (aL.length+1)) (bG aL [] (names.take t)):=by
  show ev (CC (d+2)) (.comp false 1 _ _ _ _) _ _=_;rw[lp,qT (n:=t) (aK O (by decide)) QB,cg];dsimp only;rw[Dq (g:=fun x=>match x with | .int i=>.str (names.getD i.toNat "") | _=>.none) _ fun x hx=>?_]
  ·show fb false _ _=_
   have Qy:(List.range t).map (fun k=>names.getD k "")=names.take t:=by
    refine List.ext_getElem (by rw[bh,List.length_range,List.length_take,gE,Nat.min_eq_left O]) fun i L J=>?_;rw[bh,List.length_range]at L;rw[List.getElem_map,List.getElem_range,List.getElem_take,li,dA (gE▸jx L O)];rfl
   rw[Bz (f:=fun k=>names.getD k "") fun k hk=>by rfl,Qy,Tl (mH kn),cN,eQ];rfl
  ·refine az (BA hx) fun k hk ag=>?_;obtain rfl:=ag;show((ev _ _ _ _).bind fun v σ=>ah.ok (some v) σ)=_;rw[cM (x:=cb) (y:=.int k) (ac:=aL++[.lst []]) (au:=aL++[.lst []]) rfl rfl (fA [.lst []] k (jx hk O))];rfl
 have BM:eM (bG aL [] (names.take t)) (.ref (aL.length+1))=some ((names.take t).map .str):=by unfold eM;dsimp only;rw[t7]
 exact(ai (a:=y2) (bH io)).trans ((ai (a:=y3) (bH (c0 (x:=.ref (aL.length+1)) (ac:=bG aL [] (names.take t)) rfl ((s7 BM).trans (nq (mH kn)))))).trans rfl)
theorem Ug{m o k:Option H}{sp free:List Str}{v:nY}:ex (CC (d+2)) topN zc (gx aL l cb m o sp k v) (bG aL [] free)=.next (gx aL l cb m o sp k v) (bG aL [am.pv (am.mk (names.getD 0 "") (.word "sum") [names.getD 0 ""] [names.getD 1 ""])] free):=by
 have fS:∀i:Nat,i<24->ev (CC (d+2)) (.sub (.v 2) (aa (i:Nat))) (gx aL l cb m o sp k v) (bG aL [] free)=.ok (.str (names.getD i "")) (bG aL [] free):=fun i hi =>
  cM (x:=cb) (y:=.int (i:Nat)) (ac:=bG aL [] free) (au:=bG aL [] free) rfl rfl (fA _ i hi)
 have n1:∀i:Nat,i<24->ev (CC (d+2)) (.tup #v[(.sub (.v 2) (aa (i:Nat)))]) (gx aL l cb m o sp k v) (bG aL [] free)=.ok (.tup [.str (names.getD i "")]) (bG aL [] free):=fun i hi=>j7 (vs:=[.str (names.getD i "")]) (c4 (fS i hi) rfl) (show(1:Nat)<=aI by decide);refine(cj (σ':=bG aL [] free) (b7 (x:=.ref aL.length) (y:=.fl []) (ac:=bG aL [] free) (au:=bG aL [] free) rfl rfl (DI (steps:=[]) rI))).trans ((ai (a:=FG) (fM (gU (m:=.append) (x:=.ref aL.length) (ac:=bG aL [] free) rfl (mw (.inl rfl)) (y:=am.pv (am.mk (names.getD 0 "") (.word "sum") [names.getD 0 ""] [names.getD 1 ""])) (au:=bG aL [] free) (j7 (vs:=[.str (names.getD 0 ""),.tup [.str "sum"],.tup [.str (names.getD 0 "")],.tup [.str (names.getD 1 "")]]) (c4 (fS 0 (by decide)) (c4 (x:=.tup [.str "sum"]) (ac:=bG aL [] free) rfl (c4 (n1 0 (by decide)) (c4 (n1 1 (by decide)) rfl)))) (show(4:Nat)<=aI by decide)) ?_))).trans bE);show kE (.ref aL.length) _ _=_;have je:(bG aL [] free)[aL.length]?=some (.lst []):=rI;unfold kE;dsimp only;rw[je];dsimp only;rw[aE (by decide)];show ah.ok H.none ((aL++[aV.lst [],.lst (free.map .str)]).set aL.length _)=_;rw[List.set_append_right _ _ (dz _),Nat.sub_self];rfl
end
theorem Uh{a b:Str}(ha:g8 a)(hb:g8 b):dG [am.mk a (.word "sum") [a] [b]]:=by
 refine⟨dz 1,(by show(1:Nat)<=20;decide),fun s hs=>?_,by simp,by simp⟩;rw[df.mp hs];exact⟨ha,fun n hn=>by rw[df.mp hn];exact ha,dz 1,(by show(1:Nat)<=4;decide),fun n hn=>by rw[df.mp hn];exact hb,dz 1,(by show(1:Nat)<=3;decide),by simp,.sum _ _⟩
theorem Pp(hl:l.length<=63):∃p σ',dG p/\(∀s∈p,jV s.name/\∀g∈s.gives,jV g)/\bv PP topN (d+3) Iu [.fl (l.map .int),.int 0] []=.ok (bg p) σ':=by
 refine NN (Pn (l.getD 0 0)) fun names gE Bd Be Bg kb=>?_
 obtain⟨cb,aL,P0,Qg⟩:∃cb aL,(∀d,bv PP topN (d+1) sS [.int (l.getD 0 0)] []=.ok cb aL)/\((cb=.fl (names.map .str)/\aL=[])\/(cb=.ref 0/\aL=[.lst (names.map .str)])):=by
  rcases kb with h | h
  ·exact⟨_,_,h,.inl ⟨rfl,rfl⟩⟩
  ·exact⟨_,_,h,.inr ⟨rfl,rfl⟩⟩
 have fA:=TB (aL:=aL) gE Qg;have oM:∀i,i<24->g8 (names.getD i ""):=fun i hi=>Be _ (Hh (gE▸hi));have hpl:∀i,i<24->jV (names.getD i ""):=fun i hi=>Bg _ (Hh (gE▸hi));refine bL (SV (d:=d) (σ:=aL) (cb:=cb) hl) fun many Qx H0 V=>?_;refine bL (Vd (d:=d) (σ:=aL) (cb:=cb) (a:=ae (many:Nat)) hl) fun room Y9 Za bK=>?_;have t1:1<=min 24 (room+many):=Nat.le_min.mpr ⟨by decide,aK Qx (Nat.le_add_left _ _)⟩;have cH:min 24 (room+many)<=24:=Nat.min_le_left _ _;have j6:=OW (d:=d) fA gE (l:=l) (many:=many) (room:=room) (Jn 24 (room+many)) cH;generalize min 24 (room+many)=t at t1 cH j6
 have kn:(names.take t).length=t:=by rw[List.length_take,gE];exact Nat.min_eq_left cH
 have tk:∀n∈names.take t,n∈names:=fun n hn=>List.mem_of_mem_take hn;have LH:pM names [] (names.take t):=⟨fun s hs=>(nomatch hs),rfl,Bd.sublist (List.take_sublist _ _),fun n hn=>Be n (tk n hn),aK (Nat.le_of_eq kn) (aK cH (by decide)),fun n hn=>Bg n (tk n hn),fun s hs=>(nomatch hs)⟩;obtain⟨steps,free,ck,v,cQ,I,HY⟩:=SN (d:=d) (aL:=aL) hl (cb:=cb) (many:=ae (many:Nat)) (room:=ae (room:Nat)) (cG:=names.take t) fA (by rw[kn];exact t1) (by rw[kn];exact aK cH (by decide)) oM (fun n hn=>Be n (tk n hn)) many [] (names.take t) none ⟨none,none,none,none,none,none,none⟩ (by rw[List.length_nil,ij];exact H0) LH
 have Ry:cZ 0 1 many=(List.range' 0 many).map fun(i:Nat)=>H.int i:=by
  unfold cZ;rw[j0];exact List.map_congr_left fun i J=>by rw[Int.mul_one,Int.zero_add]
 rw[List.length_nil,<- Ry]at HY;have rS:=eY (C:=CC (d+2)) (n:=topN) (i:=6) (it:=.range1 (.v 3)) (qT (n:=many) (aK H0 (by decide)) rfl) HY
 obtain⟨p,hp,QN,rT⟩:∃p,dG p/\(∀s∈p,jV s.name/\∀g∈s.gives,jV g)/\ex (CC (d+2)) topN zc (gx aL l cb (ae (many:Nat)) (ae (room:Nat)) (names.take t) ck v) (bG aL (steps.map am.pv) free)=.next (gx aL l cb (ae (many:Nat)) (ae (room:Nat)) (names.take t) ck v) (bG aL (p.map am.pv) free):=by
  cases steps with
  | nil=>exact⟨_,Uh (oM 0 (by decide)) (oM 1 (by decide)),fun s hs=>by
    rw[df.mp hs]
    exact⟨hpl 0 (by decide),fun g hg=>by rw[df.mp hg];exact hpl 1 (by decide)⟩,Ug fA gE⟩
  | cons dE wK=>exact⟨dE::wK,Rx Bd gE I (Nat.succ_pos _) cQ,fun s hs=>⟨Bg _ (Rw gE I hs),I.gp s hs⟩,bx (b7 (x:=.ref aL.length) (y:=.fl []) (ac:=bG aL ((dE::wK).map am.pv) free) (au:=bG aL ((dE::wK).map am.pv) free) rfl rfl ((DI (steps:=dE::wK) rI).trans rfl))⟩
 have BM:eM (bG aL (p.map am.pv) free) (.ref aL.length)=some (p.map am.pv):=by unfold eM;dsimp only;rw[rI]
 refine⟨p,bG aL (p.map am.pv) free,hp,QN,?_⟩;rw[cs (fn:=Fu) rfl rfl];exact(congrArg a9 ((ai (a:=Fy) (bH (eb (cell_call hl (j:=0) rfl rfl) (P0 (d+1))))).trans ((V _).trans ((bK _).trans ((j6 _).trans ((ai (a:=FC) rS).trans ((ai rT).trans (be (a:=FH) (cT (c0 (x:=.ref aL.length) (ac:=bG aL (p.map am.pv) free) rfl ((s7 BM).trans (aE (J8 hp.most))))))))))))).trans rfl
theorem xJ{i a b:Int}:bv PP topN (d+1) lB [.int i,.int a,.int b] σ=.ok (.bool (decide (a<=i)&&decide (i<=b))) σ:=by
 rw[cs (fn:=yy) rfl rfl]
 have:ex (CC d) topN yy.body [ae i,ae a,ae b,none,none,none] σ=.ret (.bool (decide (a<=i)&&decide (i<=b))) [ae i,ae a,ae b,none,none,none] σ:=
  be (cT (ln (l6 (ac:=σ) rfl (l6 (ac:=σ) rfl (l5 (xZ rfl rfl rfl))))))
 exact(congrArg a9 this).trans rfl
theorem hB:(τ++m::cJ)[τ.length]?=some m:=by simp
theorem mE:(τ++m::cJ).set τ.length bJ=τ++bJ::cJ:=by simp
theorem L1{es:List (Str×H)}{k:Str}:k∉es.map (·.1)->aC k es=none:=by
 intro h;unfold aC;rw[List.find?_eq_none.mpr]
 ·rfl
 ·intro e he q;exact h (cL.mpr ⟨e,he,ht q⟩)
theorem CZ{es:List (Str×H)}{k:Str}{v:H}(h:k∉es.map (·.1)):eK k v es=es++[(k,v)]:=by
 unfold eK;rw[a5];intro q;refine az (List.any_eq_true.mp q) fun e he q=>?_;exact h (cL.mpr ⟨e,he,ht q⟩)
theorem L2{es:List (Str×H)}{k:Str}:(aC k es).isSome=decide (k∈es.map (·.1)):=by
 by_cases h:k∈es.map (·.1)
 ·rw[dI h];refine az (cL.mp h) fun e he q=>?_;unfold aC;rw[Option.isSome_map,List.find?_isSome];exact⟨e,he,dI q⟩
 ·rw[f0 h,L1 h];rfl
noncomputable def e9(p:List am):List (Str×H):=p.flatMap fun s=>s.gives.map fun g=>(g,s.pv)
theorem Hn(p:List am):(e9 p).map (·.1)=p.flatMap (·.gives):=by
 unfold e9;rw[List.map_flatMap];congr 1
 funext s
 rw[gL];exact List.map_id _
theorem We{es:List (Str×H)}{k:Str}{v:H}(hr:σ[r]?=some (.ds es))(hl:es.length<aI):hN (.ref r) (.str k) v ρ σ=.next ρ (σ.set r (.ds (eK k v es))):=by
 have e:((σ[r]?).bind fun m=>qY m (.str k) v)=some (.ds (eK k v es)):=by rw[hr];exact aE hl
 unfold hN;dsimp only;rw[e]
theorem q0{j:Int}{v:H}(hr:σ[r]?=some (.dp es))(hl:es.length<aI):hN (.ref r) (.tup [.str x,.int j]) v ρ σ=.next ρ (σ.set r (.dp (eK (x,j) v es))):=by
 have e:((σ[r]?).bind fun m=>qY m (.tup [.str x,.int j]) v)=some (.dp (eK (x,j) v es)):=by rw[hr];exact aE hl
 unfold hN;dsimp only;rw[e]
theorem Pa{s:H}:∀(gs:List Str) (y:Option H) (es:List (Str×H)),es.length+gs.length<=1000->(es.map (·.1)++gs).Nodup ->
  ∃b6,ch none (dm 3) (fun ρ σ=>ex (CC d) topN Ey ρ σ) (gs.map .str) [some pl,aH τ.length,some s,y] (τ++[.ds es]) =
   .next [some pl,aH τ.length,some s,b6] (τ++[.ds (es++gs.map fun g=>(g,s))]):=by
 intro gs
 induction gs with
 | nil=>intro y es _ _;exact⟨y,by simpa using eS⟩
 | cons g gs ao =>
  intro y es hl hn;have hk:g∉es.map (·.1):=fun q=>(hQ.mp hn).2.2 g q g ((bu)) rfl;rw[dj]at hl;obtain⟨b6,e⟩:=ao (aS g) (es++[(g,s)]) (by rw[cN];show es.length+1+gs.length<=1000;(grind)) (by simpa using hn);refine⟨b6,(ek (b4:=[some pl,aH τ.length,some s,aS g]) (fw:=[some pl,aH τ.length,some s,aS g]) (au:=τ++[.ds (es++[(g,s)])]) rfl ?_).trans (e.trans (by simp))⟩;refine(ai ?_).trans bE;show hN (.ref τ.length) (.str g) s _ (τ++[.ds es])=_;rw[We hB (by rw[eL];(grind)),mE,CZ hk]
theorem Pb:∀(p:List am) (x y:Option H) (es:List (Str×H)),es.length+3*p.length<=1000->(∀s∈p,s.gives.length<=3)->(es.map (·.1)++p.flatMap (·.gives)).Nodup ->
  ∃aQ b6,ch none (dm 2) (fun ρ σ=>ex (CC d) topN Ex ρ σ) (p.map am.pv) [some pl,aH τ.length,x,y] (τ++[.ds es]) =
   .next [some pl,aH τ.length,aQ,b6] (τ++[.ds (es++e9 p)]):=by
 intro p
 induction p with
 | nil=>intro x y es _ _ _;exact⟨x,y,by simpa[e9]using eS⟩
 | cons s p ao =>
  intro x y es hl ax hn;have hs:=ax s ((bu));rw[dj]at hl;rw[i6,<- eQ]at hn;obtain⟨g5,V⟩:=Pa (d:=d) (pl:=pl) (s:=s.pv) (τ:=τ) s.gives y es (by grind) (hQ.mp hn).1
  have hk:(es++s.gives.map fun g=>(g,s.pv)).map (·.1)=es.map (·.1)++s.gives:=by
   rw[eX,gL];congr 1;exact List.map_id _
  obtain⟨aQ,b6,ak⟩:=ao (some s.pv) g5 (es++s.gives.map fun g=>(g,s.pv)) (by rw[cN,bh];(grind)) (fun t aO=>ax t (bQ _ aO)) (hk.symm▸hn);refine⟨aQ,b6,(ek (b4:=[some pl,aH τ.length,some s.pv,y]) (fw:=[some pl,aH τ.length,some s.pv,g5]) (au:=τ++[.ds (es++s.gives.map fun g=>(g,s.pv))]) rfl ?_).trans (ak.trans (by simp[e9]))⟩;exact(ai (eY (ys:=s.gives.map .str) (ac:=τ++[.ds es]) rfl V)).trans bE
theorem Ho{p:List am}(h:dG p):bv PP topN (d+1) vX [bg p] σ=.ok (.ref σ.length) (σ++[.ds (e9 p)]):=by
 rw[cs (fn:=yx) rfl rfl];obtain⟨aQ,b6,e⟩:=Pb (d:=d) (pl:=bg p) (τ:=σ) p none none [] (by show 0+3*p.length<=1000;have:=h.most;(grind)) (fun s hs=>(h.steps s hs).gives3) (by simpa using h.gives)
 have:ex (CC d) topN yx.body [some (bg p),none,none,none] σ=.ret (.ref σ.length) [some (bg p),aH σ.length,aQ,b6] (σ++[.ds (e9 p)]):=by
  refine rfl.trans ((ai (eY (ys:=p.map am.pv) (ac:=σ++[.ds []]) rfl e)).trans ?_);exact rfl
 exact(congrArg a9 this).trans rfl
theorem WK{ns:List Str}:(ns.map H.str).mapM (cK 16 σ)=some (ns.map PyData.str):=by
 induction ns with
 | nil=>rfl
 | cons n ns ao=>rw[dw,List.mapM_cons,ao];rfl
theorem Jl{ns:List Str}:iC σ (.str g) (ns.map .str)=some (decide (g∈ns)):=by
 unfold iC;rw[WK];show some ((ns.map PyData.str).any fun y=>PyData.eqv y (.str g))=_;congr 1;rw[List.any_map]
 induction ns with
 | nil=>rfl
 | cons n ns ao =>
  rw[List.any_cons,ao];show(n == g||decide (g∈ns))=_;by_cases q:n=g
  ·subst q;simp
  ·rw[lj.mpr q];by_cases q2:g∈ns
   ·simp[q2]
   ·rw[f0 q2,f0 (by simp[q2];exact fun z=>q z.symm)];rfl
theorem wq{ns:List Str}(h:σ[r]?=some (.lst (ns.map .str))):cX .notin (.str g) (.ref r) σ=.ok (!decide (g∈ns)) σ:=by
 show ah.ofOpt ((d0 (.str g) (.ref r) σ).map (!·)) σ=_
 have:d0 (.str g) (.ref r) σ=some (decide (g∈ns)):=by
  unfold d0;dsimp only;exact h.symm▸Jl
 rw[this];rfl
theorem JN{es:List (Str×H)}(h:σ[r]?=some (.ds es)):cX .notin (.str g) (.ref r) σ=.ok (!decide (g∈es.map (·.1))) σ:=by
 show ah.ofOpt ((d0 (.str g) (.ref r) σ).map (!·)) σ=_
 have:d0 (.str g) (.ref r) σ=some (decide (g∈es.map (·.1))):=by
  unfold d0;dsimp only;exact h.symm▸(congrArg some L2)
 rw[this];rfl
noncomputable def fC(G acc:List Str)(n:Str):List Str:=if(!decide (n∈G)&&!decide (n∈acc))=true then acc++[n]else acc
noncomputable def qO(G ns:List Str):List Str:=ns.foldl (fC G) []
theorem Bl{acc:List Str}{n:Str}:(fC G acc n).length<=acc.length+1:=by
 unfold fC;split
 ·simp
 ·(exact fh _ _)
theorem Bm:∀(ns acc:List Str),(ns.foldl (fC G) acc).length<=acc.length+ns.length:=by
 intro ns
 induction ns with
 | nil=>intro acc;exact dz _
 | cons n ns ao =>
  intro acc;rw[i7,dj];have L:=ao (fC G acc n);have O:=Bl (G:=G) (acc:=acc) (n:=n)
  (grind)
theorem CX{v:H}(h:xs.length<1000):jk .append (.ref τ.length) [v] (τ++[.lst xs])=.ok .none (τ++[.lst (xs++[v])]):=xF h
theorem Uk{s:H}{es:List (Str×H)}{w:Option H}(hr:τ[r]?=some (.ds es)):∀(ns:List Str) (y:Option H) (acc:List Str),acc.length+ns.length<=900 ->
  ∃b6,ch none (dm 4) (fun ρ σ=>ex (CC d) topN GP ρ σ) (ns.map .str) [some pl,aH r,aH τ.length,some s,y,w] (τ++[.lst (acc.map .str)]) =
   .next [some pl,aH r,aH τ.length,some s,b6,w] (τ++[.lst ((ns.foldl (fC (es.map (·.1))) acc).map .str)]):=by
 intro ns
 induction ns with
 | nil=>intro y acc _;exact⟨y,eS⟩
 | cons n ns ao =>
  intro y acc hl;rw[dj]at hl;obtain⟨b6,e⟩:=ao (aS n) (fC (es.map (·.1)) acc n) (by have:=Bl (G:=es.map (·.1)) (acc:=acc) (n:=n);(grind));refine⟨b6,(ek (b4:=[some pl,aH r,aH τ.length,some s,aS n,w]) (fw:=[some pl,aH r,aH τ.length,some s,aS n,w]) (au:=τ++[.lst ((fC (es.map (·.1)) acc n).map .str)]) rfl ?_).trans e⟩
  have sI:(τ++[aV.lst (acc.map .str)])[r]?=some (.ds es):=by
   rw[iN (dS hr).1];exact hr
  have t:tst (CC d) (.and #v[(.cmp (.v 4) .notin (.v 1)),(.cmp (.v 4) .notin (.v 2))]) [some pl,aH r,aH τ.length,some s,aS n,w] (τ++[.lst (acc.map .str)])=.ok (!decide (n∈es.map (·.1))&&!decide (n∈acc)) (τ++[.lst (acc.map .str)]):=
   jI (nJ (b7 (x:=.str n) (y:=.ref r) (ac:=τ++[.lst (acc.map .str)]) (au:=τ++[.lst (acc.map .str)]) rfl rfl (JN sI)) fun J=>k4 (b7 (x:=.str n) (y:=.ref τ.length) (ac:=τ++[.lst (acc.map .str)]) (au:=τ++[.lst (acc.map .str)]) rfl rfl (wq hB)))
  unfold fC
  cases hq:(!decide (n∈es.map (·.1))&&!decide (n∈acc))with
  | false =>
   rw[hq]at t;exact(ai (bx t)).trans bE
  | true =>
   rw[hq]at t;rw[aE rfl];refine(ai ((cj t).trans ((ai (fM (gU (m:=.append) (x:=.ref τ.length) (ac:=τ++[.lst (acc.map .str)]) rfl ?_ (y:=.str n) (au:=τ++[.lst (acc.map .str)]) rfl (CX (by rw[bh];(grind)))))).trans ?_))).trans bE
   ·exact mw (.inl rfl)
   ·rw[eX];exact rfl
theorem Un{es:List (Str×H)}{w:Option H}(hr:τ[r]?=some (.ds es)):∀(p:List am) (x y:Option H) (acc:List Str),acc.length+4*p.length<=900->(∀s∈p,s.needs.length<=4) ->
  ∃aQ b6,ch none (dm 3) (fun ρ σ=>ex (CC d) topN GO ρ σ) (p.map am.pv) [some pl,aH r,aH τ.length,x,y,w] (τ++[.lst (acc.map .str)]) =
   .next [some pl,aH r,aH τ.length,aQ,b6,w] (τ++[.lst (((p.flatMap (·.needs)).foldl (fC (es.map (·.1))) acc).map .str)]):=by
 intro p
 induction p with
 | nil=>intro x y acc _ _;exact⟨x,y,eS⟩
 | cons s p ao =>
  intro x y acc hl aT;have hs:=aT s ((bu));rw[dj]at hl;obtain⟨g5,V⟩:=Uk (d:=d) (pl:=pl) (s:=s.pv) (w:=w) hr s.needs y acc (by grind);obtain⟨aQ,b6,ak⟩:=ao (some s.pv) g5 (s.needs.foldl (fC (es.map (·.1))) acc) (by have:=Bm (G:=es.map (·.1)) s.needs acc;(grind)) fun t aO=>aT t (bQ _ aO);refine⟨aQ,b6,(ek (b4:=[some pl,aH r,aH τ.length,some s.pv,y,w]) (fw:=[some pl,aH r,aH τ.length,some s.pv,g5,w]) (au:=τ++[.lst ((s.needs.foldl (fC (es.map (·.1))) acc).map .str)]) rfl ?_).trans (ak.trans (by rw[i6,List.foldl_append]))⟩;exact(ai (eY (ys:=s.needs.map .str) (ac:=τ++[.lst (acc.map .str)]) rfl V)).trans bE
theorem Uq{p:List am}(h:dG p):bv PP topN (d+2) AN [bg p] σ=.ok (.ref (σ.length+1)) (σ++[.ds (e9 p),.lst ((qO (p.flatMap (·.gives)) (p.flatMap (·.needs))).map .str)]):=by
 rw[cs (fn:=zA) rfl rfl]
 have hr:(σ++[aV.ds (e9 p)])[σ.length]?=some (.ds (e9 p)):=by simp
 obtain⟨aQ,b6,e⟩:=Un (d:=d+1) (pl:=bg p) (w:=none) hr p none none [] (by show 0+4*p.length<=900;have:=h.most;(grind)) fun s hs=>(h.steps s hs).needs4;rw[Hn]at e
 have hl:(σ++[aV.ds (e9 p)]).length=σ.length+1:=by simp
 rw[hl]at e
 have:ex (CC (d+1)) topN zA.body [some (bg p),none,none,none,none,none] σ=.ret (.ref (σ.length+1)) [some (bg p),aH σ.length,aH (σ.length+1),aQ,b6,none] (σ++[.ds (e9 p),.lst ((qO (p.flatMap (·.gives)) (p.flatMap (·.needs))).map .str)]):=by
  refine(ai (a:=GL) (ρ':=[some (bg p),aH σ.length,none,none,none,none]) (σ':=σ++[.ds (e9 p)]) (bH (eb (x:=bg p) (ac:=σ) rfl (Ho h)))).trans ?_;refine(ai (a:=GN) (ρ':=[some (bg p),aH σ.length,aH (σ++[aV.ds (e9 p)]).length,none,none,none]) (σ':=σ++[.ds (e9 p)]++[.lst []]) rfl).trans ?_;rw[hl];refine(ai (eY (ys:=p.map am.pv) (ac:=σ++[.ds (e9 p)]++[.lst []]) rfl e)).trans (rfl.trans ?_);rw[eQ];rfl
 exact(congrArg a9 this).trans rfl
theorem SG{u w:Option H}:∀(p:List am) (x:Option H) (acc:List Str),acc.length+3*p.length<=900->(∀s∈p,s.gives.length<=3) ->
  ∃aQ,ch none (dm 2) (fun ρ σ=>ex (CC d) topN Fp ρ σ) (p.map am.pv) [some pl,aH τ.length,x,u,w] (τ++[.lst (acc.map .str)]) =
   .next [some pl,aH τ.length,aQ,u,w] (τ++[.lst ((acc++p.flatMap (·.gives)).map .str)]):=by
 intro p
 induction p with
 | nil=>intro x acc _ _;exact⟨x,by simpa using eS⟩
 | cons s p ao =>
  intro x acc hl ax;have hg:=ax s ((bu));rw[dj]at hl;obtain⟨aQ,e⟩:=ao (some s.pv) (acc++s.gives) (by rw[cN];(grind)) fun t aO=>ax t (bQ _ aO);refine⟨aQ,(ek (b4:=[some pl,aH τ.length,some s.pv,u,w]) (fw:=[some pl,aH τ.length,some s.pv,u,w]) (au:=τ++[.lst ((acc++s.gives).map .str)]) rfl ?_).trans (e.trans (by simp[i6]))⟩;refine(ai (fM (gU (m:=.extend) (x:=.ref τ.length) (ac:=τ++[.lst (acc.map .str)]) (au:=τ++[.lst (acc.map .str)]) rfl (mw (.inr (.inl rfl))) (y:=.tup (s.gives.map .str)) rfl ?_))).trans bE;show ma (.ref τ.length) (.tup (s.gives.map .str)) _=_;unfold ma;dsimp only;rw[hB];dsimp only;rw[aE (by rw[bh,bh,eL];(grind)),mE,eX]
theorem SH{s:H}(hr:τ[r]?=some (.lst (G.map .str))):∀(ns:List Str) (y:Option H) (acc:List Str),acc.length+ns.length<=900 ->
  ∃b6,ch none (dm 4) (fun ρ σ=>ex (CC d) topN Ft ρ σ) (ns.map .str) [some pl,aH r,some s,aH τ.length,y] (τ++[.lst (acc.map .str)]) =
   .next [some pl,aH r,some s,aH τ.length,b6] (τ++[.lst ((ns.foldl (fC G) acc).map .str)]):=by
 intro ns
 induction ns with
 | nil=>intro y acc _;exact⟨y,eS⟩
 | cons n ns ao =>
  intro y acc hl;rw[dj]at hl;obtain⟨b6,e⟩:=ao (aS n) (fC G acc n) (by have:=Bl (G:=G) (acc:=acc) (n:=n);(grind));refine⟨b6,(ek (b4:=[some pl,aH r,some s,aH τ.length,aS n]) (fw:=[some pl,aH r,some s,aH τ.length,aS n]) (au:=τ++[.lst ((fC G acc n).map .str)]) rfl ?_).trans e⟩
  have sI:(τ++[aV.lst (acc.map .str)])[r]?=some (.lst (G.map .str)):=by
   rw[iN (dS hr).1];exact hr
  have t:tst (CC d) (.and #v[(.cmp (.v 4) .notin (.v 1)),(.cmp (.v 4) .notin (.v 3))]) [some pl,aH r,some s,aH τ.length,aS n] (τ++[.lst (acc.map .str)])=.ok (!decide (n∈G)&&!decide (n∈acc)) (τ++[.lst (acc.map .str)]):=
   jI (nJ (b7 (x:=.str n) (y:=.ref r) (ac:=τ++[.lst (acc.map .str)]) (au:=τ++[.lst (acc.map .str)]) rfl rfl (wq sI)) fun J=>k4 (b7 (x:=.str n) (y:=.ref τ.length) (ac:=τ++[.lst (acc.map .str)]) (au:=τ++[.lst (acc.map .str)]) rfl rfl (wq hB)))
  unfold fC
  cases hq:(!decide (n∈G)&&!decide (n∈acc))with
  | false =>
   rw[hq]at t;exact(ai (bx t)).trans bE
  | true =>
   rw[hq]at t;rw[aE rfl];refine(ai ((cj t).trans ((ai (fM (gU (m:=.append) (x:=.ref τ.length) (ac:=τ++[.lst (acc.map .str)]) rfl ?_ (y:=.str n) (au:=τ++[.lst (acc.map .str)]) rfl (CX (by rw[bh];(grind)))))).trans ?_))).trans bE
   ·exact mw (.inl rfl)
   ·rw[eX];exact rfl
theorem SI(hr:τ[r]?=some (.lst (G.map .str))):∀(p:List am) (x y:Option H) (acc:List Str),acc.length+4*p.length<=900->(∀s∈p,s.needs.length<=4) ->
  ∃aQ b6,ch none (dm 2) (fun ρ σ=>ex (CC d) topN Fs ρ σ) (p.map am.pv) [some pl,aH r,x,aH τ.length,y] (τ++[.lst (acc.map .str)]) =
   .next [some pl,aH r,aQ,aH τ.length,b6] (τ++[.lst (((p.flatMap (·.needs)).foldl (fC G) acc).map .str)]):=by
 intro p
 induction p with
 | nil=>intro x y acc _ _;exact⟨x,y,eS⟩
 | cons s p ao =>
  intro x y acc hl aT;have hs:=aT s ((bu));rw[dj]at hl;obtain⟨g5,V⟩:=SH (d:=d) (pl:=pl) (s:=s.pv) hr s.needs y acc (by grind);obtain⟨aQ,b6,ak⟩:=ao (some s.pv) g5 (s.needs.foldl (fC G) acc) (by have:=Bm (G:=G) s.needs acc;(grind)) fun t aO=>aT t (bQ _ aO);refine⟨aQ,b6,(ek (b4:=[some pl,aH r,some s.pv,aH τ.length,y]) (fw:=[some pl,aH r,some s.pv,aH τ.length,g5]) (au:=τ++[.lst ((s.needs.foldl (fC G) acc).map .str)]) rfl ?_).trans (ak.trans (by rw[i6,List.foldl_append]))⟩;exact(ai (eY (ys:=s.needs.map .str) (ac:=τ++[.lst (acc.map .str)]) rfl V)).trans bE
theorem I6{p:List am}(h:dG p):bv PP topN (d+1) mo [bg p] σ=.ok (.ref (σ.length+1)) (σ++[.lst ((p.flatMap (·.gives)).map .str),.lst ((qO (p.flatMap (·.gives)) (p.flatMap (·.needs))).map .str)]):=by
 rw[cs (fn:=y0) rfl rfl];obtain⟨aZ,V⟩:=SG (d:=d) (pl:=bg p) (τ:=σ) (u:=none) (w:=none) p none [] (by show 0+3*p.length<=900;have:=h.most;(grind)) fun s hs=>(h.steps s hs).gives3;rw[List.nil_append]at V;generalize YU:p.flatMap (·.gives)=G at V
 have hr:(σ++[aV.lst (G.map .str)])[σ.length]?=some (.lst (G.map .str)):=by simp
 obtain⟨aQ,b6,e⟩:=SI (d:=d) (pl:=bg p) hr p aZ none [] (by show 0+4*p.length<=900;have:=h.most;(grind)) fun s hs=>(h.steps s hs).needs4
 have hl:(σ++[aV.lst (G.map .str)]).length=σ.length+1:=by simp
 rw[hl]at e
 have:ex (CC d) topN y0.body [some (bg p),none,none,none,none] σ=.ret (.ref (σ.length+1)) [some (bg p),aH σ.length,aQ,aH (σ.length+1),b6] (σ++[.lst (G.map .str),.lst ((qO G (p.flatMap (·.needs))).map .str)]):=by
  refine rfl.trans ?_;refine(ai (eY (ys:=p.map am.pv) (ac:=σ++[.lst []]) rfl V)).trans ?_;refine(ai (a:=Fq) (ρ':=[some (bg p),aH σ.length,aZ,aH (σ++[aV.lst (G.map .str)]).length,none]) (σ':=σ++[.lst (G.map .str)]++[.lst []]) rfl).trans ?_;rw[hl];refine(ai (eY (ys:=p.map am.pv) (ac:=σ++[.lst (G.map .str)]++[.lst []]) rfl e)).trans (rfl.trans ?_);rw[eQ];rfl
 exact(congrArg a9 this).trans rfl
theorem OL{s:am}(h:gK s):tP s:=by
 have k:∀n,g8 n->n.length<=aI:=fun n q=>aK q.len (by decide);exact⟨k _ h.name,fun n hn=>k n (h.needs n hn),aK h.needs4 (by decide),fun n hn=>k n (h.gives n hn),aK h.gives3 (by decide)⟩
theorem UB{p:List am}(h:dG p):∃τ,bv PP topN (d+4) vZ [bg p] σ=.ok (.bool true) (σ++τ):=by
 obtain⟨τ,e⟩:=Hw (d:=d) (σ:=σ) (fun s hs=>OL (h.steps s hs)) (aK h.most (by decide));rw[UA.mpr h]at e;exact⟨τ,e⟩
noncomputable def zP(p:List am)(n:Nat)(g o h gn od:Nat):List (Str×H):=[("plan",bg p),("turns",.int n),("givers",.ref g),("outer",.ref o),("here",.ref h),("gone",.ref gn),("order",.ref od)]
noncomputable def ec(p:List am):List Str:=qO (p.flatMap (·.gives)) (p.flatMap (·.needs))
structure k9(p:List am)(n:Nat)(es:List ((Str×Int)×H))(i g o h gn od:Nat)(σ:af):Prop where
 ns:σ[i]?=some (.ns (zP p n g o h gn od))
 gv:σ[g]?=some (.ds (e9 p))
 ot:σ[o]?=some (.lst ((ec p).map .str))
 hr:σ[h]?=some (.dp es)
 ne:h≠i/\h≠g/\h≠o
theorem k9.more{p:List am}{g o h od:Nat}(b:k9 p n es i g o h gn od σ):k9 p n es i g o h gn od (σ++τ):=by
 have k:∀{j:Nat} {m:aV},σ[j]?=some m->(σ++τ)[j]?=some m:=fun{j m} e=>by exact(iN (dS e).1).symm▸e
 exact⟨k b.ns,k b.gv,k b.ot,k b.hr,b.ne⟩
theorem k9.other{p:List am}{g o h od:Nat}(b:k9 p n es i g o h gn od σ)(a8:j≠i/\j≠g/\j≠o/\j≠h):k9 p n es i g o h gn od (σ.set j m):=by
 have k:∀{a:Nat},j≠a->(σ.set j m)[a]?=σ[a]?:=fun{a} e=>List.getElem?_set_ne e;exact⟨(k a8.1).trans b.ns,(k a8.2.1).trans b.gv,(k a8.2.2.1).trans b.ot,(k a8.2.2.2).trans b.hr,b.ne⟩
theorem k9.put{p:List am}{es':List ((Str×Int)×H)}{g o h od:Nat}(b:k9 p n es i g o h gn od σ):k9 p n es' i g o h gn od (σ.set h (.dp es')):=by
 have k:∀{a:Nat},h≠a->(σ.set h (.dp es'))[a]?=σ[a]?:=fun{a} e=>List.getElem?_set_ne e;exact⟨(k b.ne.1).trans b.ns,(k b.ne.2.1).trans b.gv,(k b.ne.2.2).trans b.ot,List.getElem?_set_self (dS b.hr).1,b.ne⟩
theorem TC:(("turns" : Str)∉(["plan"]:List Str))/\(("givers" : Str)∉(["plan", "turns"]:List Str))/\(("outer" : Str)∉(["plan", "turns", "givers"]:List Str))/\(("here" : Str)∉(["plan", "turns", "givers", "outer"]:List Str)) ∧
  (("gone" : Str)∉(["plan", "turns", "givers", "outer", "here"]:List Str))/\(("order" : Str)∉(["plan", "turns", "givers", "outer", "here", "gone"]:List Str)):=by decide +kernel
noncomputable def dt(σ:af)(i:Nat)(fs:List (Str×H))(cJ:af):af:=σ.set i (.ns fs)++cJ
theorem dt.len:(dt σ i fs cJ).length=σ.length+cJ.length:=by unfold dt;rw[cN,List.length_set]
section
variable {N:Nat}{w:af}{k:Str}{o x:X}
theorem dt.at_(h:cJ[j]?=some m):(dt σ i fs cJ)[σ.length+j]?=some m:=by
 unfold dt;rw[hP (by rw[List.length_set];exact fh _ _),List.length_set,Nat.add_sub_cancel_left];exact h
theorem dt.put{v:H}(hi:i<σ.length)(ho:∀{σ:af},ev C o ρ σ=.ok (.inst c i) σ)(hx:ev C x ρ (dt σ i fs cJ)=.ok v (dt σ i fs cJ++w))(hk:k∉fs.map (·.1))(hl:Nat.ble fs.length 99=true):ex C N (.asgAttr c o k x) ρ (dt σ i fs cJ)=.next ρ (dt σ i (fs++[(k,v)]) (cJ++w)):=by
 have g:(dt σ i fs cJ++w)[i]?=some (.ns fs):=by
  unfold dt;rw[eQ,iN (by rw[List.length_set];exact hi)];exact List.getElem?_set_self hi
 show(ev C x ρ (dt σ i fs cJ)).toS ρ (fun v σ=>(ev C o ρ σ).toS ρ fun o σ=>tu c o k v ρ σ)=_;rw[hx,fV,ho,fV];unfold tu;dsimp only;rw[aE rfl,g];dsimp only;rw[aE (Nat.lt_succ_of_le (Nat.le_of_ble_eq_true hl)),CZ hk];unfold dt;rw[eQ,List.set_append_left _ _ (by rw[List.length_set];exact hi),List.set_set]
theorem dt.ref(hi:i<σ.length)(ho:∀{σ:af},ev C o ρ σ=.ok (.inst c i) σ)(hx:ev C x ρ (dt σ i fs cJ)=.ok (.ref ((dt σ i fs cJ).length+j)) (dt σ i fs cJ++w))(hk:k∉fs.map (·.1))(hl:Nat.ble fs.length 99=true):ex C N (.asgAttr c o k x) ρ (dt σ i fs cJ)=.next ρ (dt σ i (fs++[(k,.ref (σ.length+cJ.length+j))]) (cJ++w)):=
 dt.put hi ho (by rw[dt.len]at hx;exact hx) hk hl
end
theorem Rs{p:List am}(h:dG p)(hi:i<σ.length)(e:σ[i]?=some (.ns []))(kS:∀{σ:af},ev (CC (d+4)) (.v 0) ρ σ=.ok (.inst bw i) σ)(iD:∀{σ:af},ev (CC (d+4)) (.v 1) ρ σ=.ok (bg p) σ)(bR:∀{σ:af},ev (CC (d+4)) (.v 2) ρ σ=.ok (.int n) σ) :
  ex (CC (d+4)) topN #v[uy,uz,uA,uB,uC,uD,uE] ρ σ=.next ρ (dt σ i (zP p n σ.length (σ.length+2) (σ.length+3) (σ.length+4) (σ.length+5)) [.ds (e9 p),.ds (e9 p),.lst ((ec p).map .str),.dp [],.dp [],.lst []]):=by
 have s:σ=dt σ i [] []:=by
  unfold dt;rw[iP,<- oi ((dA hi).symm.trans e)];exact(List.set_getElem_self hi).symm
 have nil:∀{x:X} {v:H} {fs:List (Str×H)},ev (CC (d+4)) x ρ (dt σ i fs [])=.ok v (dt σ i fs [])->ev (CC (d+4)) x ρ (dt σ i fs [])=.ok v (dt σ i fs []++[]):=fun h=>by rw[iP];exact h
 refine uq TC fun f1 f2 r0 ux ox DV=>?_;refine(congrArg _ s).trans ?_;refine cS (ai (a:=uy) (dt.put hi kS (nil iD) ew rfl)) ?_;refine cS (ai (a:=uz) (dt.put hi kS (nil bR) f1 rfl)) ?_;refine cS (ai (a:=uA) (dt.ref (j:=0) (w:=[.ds (e9 p)]) hi kS (eb (f:=vX) iD (Ho (d:=d+3) h)) f2 rfl)) ?_;refine cS (ai (a:=uB) (dt.ref (j:=1) (w:=[.ds (e9 p),.lst ((ec p).map .str)]) hi kS (eb (f:=AN) iD (Uq (d:=d+2) h)) r0 rfl)) ?_;refine cS (ai (a:=uC) (dt.ref (j:=0) (w:=[.dp []]) hi kS rfl ux rfl)) ?_;refine cS (ai (a:=uD) (dt.ref (j:=0) (w:=[.dp []]) hi kS rfl ox rfl)) ?_;exact cS (ai (a:=uE) (dt.ref (j:=0) (w:=[.lst []]) hi kS rfl DV rfl)) rfl
theorem Rt{p:List am}(h:dG p)(L:1<=n)(O:n<=200):∃(cJ:af) (g o hr gn od:Nat),bv PP topN (d+5) AG [.inst bw σ.length,bg p,.int n] (σ++[.ns []])=.ok .none (σ++cJ)/\k9 p n [] σ.length g o hr gn od (σ++cJ)/\σ.length<g/\σ.length<o/\σ.length<hr/\(σ.length<g/\g<o/\o<hr/\hr<gn/\gn<od)/\(σ++cJ)[gn]?=some (.dp [])/\(σ++cJ)[od]?=some (.lst []):=by
 refine aM (UB (d:=d) (σ:=σ++[.ns []]) h) fun τ hp=>?_
 have V:(σ++[aV.ns []]++τ)[σ.length]?=some (.ns []):=by rw[eQ];exact hB
 have eq:∀{fs:List (Str×H)} {cJ:af},dt (σ++[aV.ns []]++τ) σ.length fs cJ=σ++(.ns fs::τ++cJ):=fun{fs cJ}=>by
  unfold dt;rw[eQ σ,List.singleton_append,mE,eQ]
 have dE:=ai (n:=topN) (a:=DX) (r:=.cons ye #v[uy,uz,uA,uB,uC,uD,uE]) (ρ:=[bD σ.length,some (bg p),ae n,none,none,none,none,none,none,none]) (bx (fU (q:=true) (h5 (eb (C:=CC (d+4)) (x:=bg p) rfl hp))));have il:σ.length<(σ++[aV.ns []]++τ).length:=(dS V).1
 have at_:=fun(fs:List (Str×H)) (cJ:af) {j:Nat} {m:aV}=>dt.at_ (σ:=σ++[aV.ns []]++τ) (i:=σ.length) (fs:=fs) (cJ:=cJ) (j:=j) (m:=m)
 generalize σ++[aV.ns []]++τ=a2 at dE V eq il at_
 have ed:ex (CC (d+4)) topN ye [bD σ.length,some (bg p),ae n,none,none,none,none,none,none,none] a2=.next [bD σ.length,some (bg p),ae n,none,none,none,none,none,none,none] a2:=by
  refine bx (fU (q:=true) (h5 (m3 (f:=lB) (x:=.int n) (y:=.int 1) (z:=.int 200) (ac:=a2) (au:=a2) (gq:=a2) rfl rfl rfl ?_)));show bv PP topN (d+4) lB [.int n,.int 1,.int 200] a2=_;rw[xJ,dI (show(1:Int)<=n from Int.ofNat_le.mpr L),dI (show(n:Int)<=200 from Int.ofNat_le.mpr O)];rfl
 have body:=dE.trans ((ai ed).trans (Rs h il V rfl rfl rfl));rw[eq]at body;have lt:∀j,σ.length<a2.length+j:=fun j=>jx il (fh _ _);have up:∀{j k:Nat},j<k->a2.length+j<a2.length+k:=fun h=>Nat.add_lt_add_left h _;rw[cs (fn:=DW) rfl rfl];refine⟨_,a2.length+0,a2.length+2,a2.length+3,a2.length+4,a2.length+5,(congrArg a9 body).trans rfl,?_⟩;rw[<- eq];refine⟨⟨?_,at_ _ _ rfl,at_ _ _ rfl,at_ _ _ rfl,dc (lt 3),dc (up (by decide)),dc (up (by decide))⟩,lt 0,lt 2,lt 3,⟨lt 0,up (by decide),up (by decide),up (by decide),up (by decide)⟩,at_ _ _ rfl,at_ _ _ rfl⟩;rw[eq];exact hB
theorem Uj{acc:List Str}{n:Str}:x∈fC G acc n ↔ x∈acc\/(x=n/\n∉G):=by
 unfold fC;by_cases L:n∈G
 ·rw[dI L];exact⟨.inl,fun h=>h.elim id fun z=>absurd L z.2⟩
 ·rw[f0 L];by_cases O:n∈acc
  ·rw[dI O];exact⟨.inl,fun h=>h.elim id fun z=>z.1▸O⟩
  ·rw[f0 O];show x∈acc++[n] ↔ _;rw[dH,df];exact⟨fun h=>h.imp id fun z=>⟨z,L⟩,fun h=>h.imp id fun z=>z.1⟩
theorem Ul:∀(ns acc:List Str),x∈ns.foldl (fC G) acc ↔ x∈acc\/(x∈ns/\x∉G):=by
 intro ns
 induction ns with
 | nil=>intro acc;exact⟨.inl,fun h=>h.elim id fun z=>nomatch z.1⟩
 | cons n ns ao =>
  intro acc;rw[i7,ao,Uj,cE];constructor
  ·rintro((h | ⟨rfl,h⟩) | h)
   ·exact .inl h
   ·exact .inr ⟨.inl rfl,h⟩
   ·exact .inr ⟨.inr h.1,h.2⟩
  ·rintro(h | ⟨rfl | h,h'⟩)
   ·exact .inl (.inl h)
   ·exact .inl (.inr ⟨rfl,h'⟩)
   ·exact .inr ⟨h,h'⟩
theorem JX{p:List am}:x∈ec p ↔ x∈p.flatMap (·.needs)/\x∉p.flatMap (·.gives):=by
 unfold ec qO;rw[Ul];exact⟨fun h=>h.elim (fun z=>nomatch z) id,.inr⟩
theorem AV{α:Type}{l:List α}(h:l.length=2):∃a b,l=[a,b]:=by
 cases l with
 | nil=>contradiction
 | cons a l =>
  cases l with
  | nil=>exact nomatch Nat.succ.inj h
  | cons b l =>
   cases l with
   | nil=>exact⟨a,b,rfl⟩
   | cons c l=>exact nomatch Nat.succ.inj (Nat.succ.inj h)
theorem qz{α:Type}{l:List α}(h:l.length=3):∃a b c,l=[a,b,c]:=by
 cases l with
 | nil=>contradiction
 | cons a l =>
  refine jb (AV (Nat.succ.inj h)) fun b c ag=>?_;obtain rfl:=ag;exact⟨a,b,c,rfl⟩
theorem hU{o:X}{n:Str}{v:H}(ho:ev C o ρ σ=.ok (.inst c i) ac)(hs:ac[i]?=some (.ns fs))(hv:aC n fs=some v):ev C (.attr c o n) ρ σ=.ok v ac:=by
 rw[DO,ho,cg];unfold rJ;dsimp only;rw[aE rfl,hs];dsimp only;rw[hv];rfl
theorem fL{f:Nat}{o args:X}{n:Str}{vs:List H}{r:ah H}(ho:ev C o ρ σ=.ok (.inst c i) ac)(hs:ac[i]?=some (.ns fs))(hn:aC n fs=none)(ha:evs C args ρ ac=.ok vs au)(h:C.call f (.inst c i::vs) au=r):ev C (.meth c f n o args) ρ σ=r:=by
 rw[Od,ho,cg];unfold o7;dsimp only;rw[aE rfl,hs];dsimp only;rw[hn];dsimp only;exact ha.symm▸h
section
variable {p:List am}{g o h od:Nat}
end
theorem Nj{f:H->af->ah (Option H)}{q:H->Option H}:∀(xs:List H),(∀x∈xs,f x σ=.ok (q x) σ)->ea none f xs σ=.ok (xs.filterMap q) σ:=by
 intro xs
 induction xs with
 | nil=>intro _;exact aE trivial
 | cons x xs ao =>
  intro h;refine(aE trivial).trans ?_;rw[h x bu];show(ea none f xs σ).bind _=_;rw[ao fun y hy=>h y (bQ _ hy)];show ah.ok (xR (q x) (xs.filterMap q)) σ=_;rw[List.filterMap_cons];cases q x <;> rfl
theorem xQ{t:Nat}{elt it:X}(q:H->Option H)(bZ:evIt C it ρ σ=.ok (xs,none) σ)(hl:xs.length<=aI)
  (hc:∀x∈xs,tst C cond ((dg cap ρ).set t (some x)) σ=.ok (q x).isSome σ) (he:∀x∈xs,∀v,q x=some v->ev C elt ((dg cap ρ).set t (some x)) σ=.ok v σ) (aR:C.hd=false:=by first | rfl | assumption) :
  ev C (.comp true t cap elt cond it) ρ σ=.ok (.fl (xs.filterMap q)) σ:=by
 rw[lp,aR,bZ];show ir xs.length (ea none (fun x σ=>((tst C cond ((dg cap ρ).set t (some x)) σ).bind fun b σ=>if b=true then(ev C elt ((dg cap ρ).set t (some x)) σ).bind fun v σ=>.ok (some v) σ else .ok none σ)) xs σ) _=_
 rw[Nj (q:=q) xs fun x hx=>by
  show(tst C cond ((dg cap ρ).set t (some x)) σ).bind _=_;rw[hc x hx,cg]
  cases hq:q x with
  | none=>rfl
  | some v =>
   show(ev C elt ((dg cap ρ).set t (some x)) σ).bind _=_
   rw[he x hx v hq];rfl]
 exact nq (aK (List.length_filterMap_le _ _) hl)
theorem z2{j:Int}(h:σ[r]?=some (.dp es)):jk .get (.ref r) [.tup [.str x,.int j]] σ=.ok ((aC (x,j) es).getD .none) σ:=by
 show sd (.ref r) (.tup [.str x,.int j]) σ=_;unfold sd;dsimp only;rw[h];rfl
theorem zW(h:σ[r]?=some (.dp es)):o6 .get (.ref r) σ=true:=by
 show sX (.ref r) σ=true;unfold sX;dsimp only;rw[h]
theorem v6{j:Int}(h:σ[r]?=some (.dp es)):cX .isin (.tup [.str x,.int j]) (.ref r) σ=.ok (aC (x,j) es).isSome σ:=by
 show ah.ofOpt (d0 (.tup [.str x,.int j]) (.ref r) σ) σ=_
 have:d0 (.tup [.str x,.int j]) (.ref r) σ=some (aC (x,j) es).isSome:=by unfold d0;dsimp only;rw[h];rfl
 rw[this];rfl
theorem KH{j:Int}{v:H}(h:σ[r]?=some (.dp es))(hv:aC (x,j) es=some v):f6 (.ref r) (.tup [.str x,.int j]) σ=.ok v σ:=by
 show mJ (.ref r) (.tup [.str x,.int j]) σ=_;unfold mJ;dsimp only;rw[h];show ah.ofOpt (aC (x,j) es) σ=_;rw[hv];rfl
theorem t3{k:Str×Int}{v:H}(h:aC k es=none):eK k v es=es++[(k,v)]:=by
 unfold eK;rw[a5];intro z;refine az (List.any_eq_true.mp z) fun e he hk=>?_;unfold aC at h;rw[Option.map_eq_none_iff,List.find?_eq_none]at h;exact h e he hk
noncomputable def fz(p:List am)(x:Str):Option am:=p.find? fun s=>decide (x∈s.gives)
noncomputable def f4:c7->Bool
 | .word w=>w == "later"
 | _=>false
noncomputable def jA(p:List am)(x:Str)(j:Int):Bool:=
 match fz p x with
 | some s=>!f4 s.rule||decide (j > 0)
 | none=>false
theorem tY:∀{p:List am},aC x (e9 p)=(fz p x).map am.pv:=by
 intro p
 induction p with
 | nil=>rfl
 | cons s p ao =>
  unfold fz;rw[jz];have e:e9 (s::p)=(s.gives.map fun g=>(g,s.pv))++e9 p:=rfl;unfold aC at ao ⊢;rw[e,List.find?_append];by_cases hx:x∈s.gives
  ·rw[dI hx]
   have:∀(l:List Str),x∈l->(l.map fun g=>(g,s.pv)).find? (fun e=>decide (e.1=x))=some (x,s.pv):=by
    intro l
    induction l with
    | nil=>intro h;contradiction
    | cons a l Rm =>
     intro h;rw[dw,jz];by_cases ha:a=x
     ·subst ha;simp
     ·exact(f0 ha).symm▸(Rm ((cE.mp h).resolve_left fun z=>ha z.symm))
   rw[this _ hx];rfl
  ·rw[f0 hx]
   have:(s.gives.map fun g=>(g,s.pv)).find? (fun e=>decide (e.1=x))=none:=by
    rw[List.find?_eq_none];intro e he;refine az (cL.mp he) fun g hg ag=>?_;obtain rfl:=ag;simp;rintro rfl;exact hx hg
   rw[this];exact ao
theorem RK{es:List (Str×H)}{k:Str}(h:σ[r]?=some (.ds es)):cX .isin (.str k) (.ref r) σ=.ok (aC k es).isSome σ:=by
 show ah.ofOpt (d0 (.str k) (.ref r) σ) σ=_
 have:d0 (.str k) (.ref r) σ=some (aC k es).isSome:=by unfold d0;dsimp only;rw[h]
 rw[this];rfl
theorem KI{es:List (Str×H)}{k:Str}{v:H}(h:σ[r]?=some (.ds es))(hv:aC k es=some v):f6 (.ref r) (.str k) σ=.ok v σ:=by
 show mJ (.ref r) (.str k) σ=_;unfold mJ;dsimp only;rw[h];show ah.ofOpt (aC k es) σ=_;rw[hv];rfl
noncomputable abbrev c6:=List ((Str×Int)×H)
structure d1 where
 i:Nat
 g:Nat
 o:Nat
 h:Nat
 gn:Nat
 od:Nat
structure d1.Lt(X:d1):Prop where
 a:X.i<X.g
 b:X.g<X.o
 c:X.o<X.h
 d:X.h<X.gn
 e:X.gn<X.od
structure dr(p:List am)(n:Nat)(es gs:c6)(os:List H)(X:d1)(σ:af):Prop where
 ns:σ[X.i]?=some (.ns (zP p n X.g X.o X.h X.gn X.od))
 gv:σ[X.g]?=some (.ds (e9 p))
 ot:σ[X.o]?=some (.lst ((ec p).map .str))
 hr:σ[X.h]?=some (.dp es)
 go:σ[X.gn]?=some (.dp gs)
 od:σ[X.od]?=some (.lst os)
 lt:X.Lt
structure ic(X:d1)(σ σ':af):Prop where
 len:σ.length<=σ'.length
 at_:∀(j:Nat) (m:aV),j≠X.h->j≠X.gn->j≠X.od->σ[j]?=some m->σ'[j]?=some m
theorem ic.refl{X:d1}:ic X σ σ:=⟨dz _,fun J J J J J h=>h⟩
theorem ic.trans{X:d1}{a b c:af}(k:ic X a b)(l:ic X b c):ic X a c:=⟨aK k.len l.len,fun j m L O ax h=>l.at_ j m L O ax (k.at_ j m L O ax h)⟩
theorem gW(e:σ[j]?=some m):(σ++τ)[j]?=some m:=by exact(iN (dS e).1).symm▸e
theorem du{k:Nat}(a8:k≠j)(e:σ[j]?=some m):(σ.set k bJ)[j]?=some m:=(List.getElem?_set_ne a8).trans e
theorem m9(e:σ[j]?=some m):(σ.set j bJ)[j]?=some bJ:=List.getElem?_set_self (dS e).1
theorem ic.app{X:d1}:ic X σ (σ++τ):=⟨by exact cN.symm▸(fh _ _),fun J J J J J h=>gW h⟩
theorem ic.set{X:d1}(a8:j=X.h\/j=X.gn\/j=X.od):ic X σ (σ.set j m):=⟨by exact List.length_set.symm▸(dz _),fun k bJ L O ax h=>du (fun q=>by
 subst q
 rcases a8 with q | q | q
 ·exact L q
 ·exact O q
 ·exact ax q) h⟩
section
variable {p:List am}{es gs:c6}{X:d1}
theorem dr.more(b:dr p n es gs os X σ):dr p n es gs os X (σ++τ):=⟨gW b.ns,gW b.gv,gW b.ot,gW b.hr,gW b.go,gW b.od,b.lt⟩
theorem d1.Lt.hi(l:X.Lt):X.h≠X.i:=dc (eR l.a (eR l.b l.c))
theorem d1.Lt.hg(l:X.Lt):X.h≠X.g:=dc (eR l.b l.c)
theorem d1.Lt.gi(l:X.Lt):X.gn≠X.i:=dc (eR l.a (eR l.b (eR l.c l.d)))
theorem d1.Lt.gg(l:X.Lt):X.gn≠X.g:=dc (eR l.b (eR l.c l.d))
theorem d1.Lt.go(l:X.Lt):X.gn≠X.o:=dc (eR l.c l.d)
theorem d1.Lt.oh(l:X.Lt):X.od≠X.h:=dc (eR l.d l.e)
theorem d1.Lt.oo(l:X.Lt):X.od≠X.o:=dc (eR l.c (eR l.d l.e))
theorem d1.Lt.og(l:X.Lt):X.od≠X.g:=dc (eR l.b (eR l.c (eR l.d l.e)))
theorem d1.Lt.oi(l:X.Lt):X.od≠X.i:=dc (eR l.a (eR l.b (eR l.c (eR l.d l.e))))
theorem dr.here{es':c6}(b:dr p n es gs os X σ):dr p n es' gs os X (σ.set X.h (.dp es')):=
 ⟨du b.lt.hi b.ns,du b.lt.hg b.gv,du (dc b.lt.c) b.ot,m9 b.hr,du (ik b.lt.d) b.go,du b.lt.oh.symm b.od,b.lt⟩
theorem dr.gone{Hu:c6}(b:dr p n es gs os X σ):dr p n es Hu os X (σ.set X.gn (.dp Hu)):=
 ⟨du b.lt.gi b.ns,du b.lt.gg b.gv,du b.lt.go b.ot,du (dc b.lt.d) b.hr,m9 b.go,du (ik b.lt.e) b.od,b.lt⟩
theorem dr.order{wz:List H}(b:dr p n es gs os X σ):dr p n es gs wz X (σ.set X.od (.lst wz)):=
 ⟨du b.lt.oi b.ns,du b.lt.og b.gv,du b.lt.oo b.ot,du b.lt.oh b.hr,du (dc b.lt.e) b.go,m9 b.od,b.lt⟩
end
noncomputable def j4:c7->Bool
 | .word w=>w == "choose"
 | _=>false
noncomputable def jL:H->Bool
 | .int i=>i == 0
 | _=>false
noncomputable def j2(es:c6)(s:am)(t:Int):List Str:=
 if j4 s.rule=true then(match s.needs with
  | [a,b,c]=>(match aC (a,t) es with
   | none=>[a]
   | some v=>if jL v=true then[b]else[c])
  | _=>[])
 else s.needs
noncomputable def dT(es:c6)(s:am)(t:Int):Option Str:=(j2 es s t).find? fun x=>(aC (x,t) es).isNone
noncomputable def eE(es gs:c6)(s:am)(t:Int):Bool:=(aC (s.name,t) gs).isNone&&(dT es s t).isNone
noncomputable def pd:Option Str->H
 | some x=>.str x
 | none=>.none
noncomputable def gc(es:c6):Prop:=∀k v,aC k es=some v->∃i:Int,v=.int i/\0<=i/\i<=999999
section
variable {p:List am}{es gs:c6}{X:d1}
theorem so(b:dr p n es gs os X σ):bv PP topN (d+1) ml [.inst bw X.i,.str x,.int t] σ=.ok (.bool (aC (x,t) gs).isSome) σ:=by
 rw[cs (fn:=yi) rfl rfl]
 have:ex (CC d) topN yi.body [bD X.i,aS x,ae t] σ=.ret (.bool (aC (x,t) gs).isSome) [bD X.i,aS x,ae t] σ:=
  be (cT (fm (x:=.tup [.str x,.int t]) (ac:=σ) rfl (hU (i:=X.i) (ac:=σ) (v:=.ref X.gn) rfl b.ns rfl) (v6 b.go)))
 exact(congrArg a9 this).trans rfl
theorem Bf{j:Int}(h:σ[r]?=some (.dp es)):cX .notin (.tup [.str x,.int j]) (.ref r) σ=.ok (aC (x,j) es).isNone σ:=by
 show ah.ofOpt ((d0 (.tup [.str x,.int j]) (.ref r) σ).map (!·)) σ=_
 have:d0 (.tup [.str x,.int j]) (.ref r) σ=some (aC (x,j) es).isSome:=by unfold d0;dsimp only;rw[h];rfl
 rw[this];cases aC (x,j) es <;> rfl
theorem G9{f:aB->af->b3}{x v:H}(hb:iQ x ρ=some b4)(h:f b4 σ=.ret v fw au):ch none iQ f (x::xs) ρ σ=.ret v fw au:=by
 refine(aE trivial).trans ?_;rw[hb];show kP _ (f b4 σ)=_;rw[h];rfl
theorem Ti{y:Option H}(b:dr p n es gs os X σ):∀(ns:List Str) (z:Option H),∃bA,
  ch none (dm 5) (fun ρ σ=>ex (CC d) topN yk ρ σ) (ns.map .str) [bD X.i,some sp,ae t,some pl,y,z] σ =
   match ns.find? fun x=>(aC (x,t) es).isNone with
   | some x=>.ret (.str x) [bD X.i,some sp,ae t,some pl,y,bA] σ
   | none=>.next [bD X.i,some sp,ae t,some pl,y,bA] σ:=by
 intro ns
 induction ns with
 | nil=>intro z;exact⟨z,eS⟩
 | cons x ns ao =>
  intro z
  have b9:tst (CC d) (.cmp (.tup #v[(.v 5),(.v 2)]) .notin (.attr bw (.v 0) "here")) [bD X.i,some sp,ae t,some pl,y,aS x] σ=.ok (aC (x,t) es).isNone σ:=
   b7 (x:=.tup [.str x,.int t]) (ac:=σ) rfl (hU (i:=X.i) (ac:=σ) (v:=.ref X.h) rfl b.ns rfl) (Bf b.hr)
  rw[jz]
  cases hq:(aC (x,t) es).isNone with
  | true =>
   rw[hq]at b9;exact⟨aS x,G9 (b4:=[bD X.i,some sp,ae t,some pl,y,aS x]) rfl (be (a:=yl) ((cj b9).trans (be (cT rfl))))⟩
  | false =>
   rw[hq]at b9;refine aM (ao (aS x)) fun bA e=>?_;exact⟨bA,(ek (b4:=[bD X.i,some sp,ae t,some pl,y,aS x]) (fw:=[bD X.i,some sp,ae t,some pl,y,aS x]) (au:=σ) rfl ((ai (a:=yl) (bx b9)).trans bE)).trans e⟩
theorem A7{y z:Option H}{ns:List Str}(b:dr p n es gs os X σ)(hp:evIt (CC d) (.v 3) [bD X.i,some sp,ae t,some pl,y,z] σ=.ok (ns.map .str,none) σ) :
  a9 (ex (CC d) topN #v[qa,uI] [bD X.i,some sp,ae t,some pl,y,z] σ)=.ok (pd (ns.find? fun x=>(aC (x,t) es).isNone)) σ:=by
 refine aM (Ti (d:=d) (t:=t) (sp:=sp) (pl:=pl) (y:=y) b ns z) fun bA e=>?_;have ak:=eY (C:=CC d) (n:=topN) (i:=5) (body:=yk) hp e
 cases hq:ns.find? fun x=>(aC (x,t) es).isNone with
 | none =>
  rw[hq]at ak;exact(congrArg a9 ((ai (a:=qa) ak).trans rfl)).trans rfl
 | some x =>
  rw[hq]at ak;exact(congrArg a9 (be (a:=qa) ak)).trans rfl
theorem wE{r:c7}{k g:Nat}(h:fG r k g):∃w,(∀σ,f6 r.pv (.int 0) σ=.ok (.str w) σ)/\(w == "choose")=j4 r/\(j4 r=true->k=3):=by
 cases h <;> first | exact⟨_,fun J=>rfl,rfl,fun z=>by contradiction⟩ | exact⟨_,fun J=>rfl,rfl,fun J=>rfl⟩ | exact⟨"fixed",fun J=>rfl,by decide +kernel,fun z=>by contradiction⟩ | skip
 all_goals refine⟨_,fun J=>rfl,rfl,fun z=>?_⟩
 all_goals (revert z;decide +kernel)
noncomputable def lh(_:am):Prop:=True
theorem A8{s:am}(b:dr p n es gs os X σ)(hs:gK s)(hr:lh s)(hv:gc es):bv PP topN (d+1) qp [.inst bw X.i,s.pv,.int t] σ=.ok (pd (dT es s t)) σ:=by
 rw[cs (fn:=Eb) rfl rfl];show a9 (ex (CC d) topN #v[yj,r1,qa,uI] [bD X.i,some s.pv,ae t,none,none,none] σ)=_;refine bL (wE hs.rule) fun w oU sO Ra=>?_;rw[ai (a:=yj) (ρ':=[bD X.i,some s.pv,ae t,some (.tup (s.needs.map .str)),none,none]) (σ':=σ) rfl]
 have b9:tst (CC d) (.cmp (.sub (.sub (.v 1) (aa 1)) (aa 0)) .eq (.k (.str "choose"))) [bD X.i,some s.pv,ae t,some (.tup (s.needs.map .str)),none,none] σ=.ok (j4 s.rule) σ:=by
  rw[<- sO];exact b7 (x:=.str w) (ac:=σ) (cM (x:=s.rule.pv) (ac:=σ) rfl (y:=.int 0) (au:=σ) rfl (oU σ)) (y:=.str "choose") (au:=σ) rfl p6
 unfold dT j2
 cases hc:j4 s.rule with
 | false =>
  rw[hc]at b9;rw[ai (a:=r1) (bx b9),a5 (by decide)];exact A7 b rfl
 | true =>
  rw[hc]at b9;rw[aE rfl];have ax:=Ra hc;obtain⟨nm,rl,ns,gv⟩:=s;dsimp only at ax ⊢;obtain⟨x,y,z,rfl⟩:=qz (show ns.length=3 from ax);dsimp only
  have O2:ev (CC d) (.me .get (.attr bw (.v 0) "here") #v[(.tup #v[(.sub (.v 3) (aa 0)),(.v 2)])]) [bD X.i,some (am.pv ⟨nm,rl,[x,y,z],gv⟩),ae t,some (.tup [.str x,.str y,.str z]),none,none] σ=.ok ((aC (x,t) es).getD .none) σ:=
   gU (hU (i:=X.i) (ac:=σ) (v:=.ref X.h) rfl b.ns rfl) (zW b.hr) (y:=.tup [.str x,.int t]) (au:=σ) rfl (z2 b.hr)
  have ed:∀{o:b3},ex (CC d) topN #v[uG,uH] [bD X.i,some (am.pv ⟨nm,rl,[x,y,z],gv⟩),ae t,some (.tup [.str x,.str y,.str z]),some ((aC (x,t) es).getD .none),none] σ=o->ex (CC d) topN r1 [bD X.i,some (am.pv ⟨nm,rl,[x,y,z],gv⟩),ae t,some (.tup [.str x,.str y,.str z]),none,none] σ=o:=fun{o} ho =>
   (cj b9).trans ((ai (a:=Ec) (bH O2)).trans ho)
  cases hx:aC (x,t) es with
  | none =>
   rw[hx]at ed;refine(congrArg a9 (be (ed (be (a:=uG) ((cj (σ':=σ) rfl).trans (be (a:=Ed) (cT (v:=.str x) (σ':=σ) rfl))))))).trans ?_;show _=ah.ok (pd ([x].find? fun x=>(aC (x,t) es).isNone)) σ;rw[jz,hx];rfl
  | some v =>
   rw[hx]at ed;obtain⟨i,rfl,_⟩:=hv _ _ hx
   have t1:ex (CC d) topN uG [bD X.i,some (am.pv ⟨nm,rl,[x,y,z],gv⟩),ae t,some (.tup [.str x,.str y,.str z]),ae i,none] σ=.next [bD X.i,some (am.pv ⟨nm,rl,[x,y,z],gv⟩),ae t,some (.tup [.str x,.str y,.str z]),ae i,none] σ:=(bx (σ':=σ) rfl)
   have cH:tst (CC d) (.cmp (.v 4) .eq (aa 0)) [bD X.i,some (am.pv ⟨nm,rl,[x,y,z],gv⟩),ae t,some (.tup [.str x,.str y,.str z]),ae i,none] σ=.ok (i == 0) σ:=rfl;show a9 (ex (CC d) topN #v[r1,qa,uI] _ σ)=.ok (pd ((if(i == 0)=true then[y]else[z]).find? _)) σ
   cases hi:(i == 0)with
   | true =>
    rw[hi]at cH;refine(congrArg a9 (ai (ed ((ai t1).trans ((ai (a:=uH) ((cj cH).trans ((ai (a:=Ef) (bH (v:=.tup [.str y]) (σ':=σ) rfl)).trans bE))).trans bE))))).trans ?_;exact A7 (ns:=[y]) b rfl
   | false =>
    rw[hi]at cH;refine(congrArg a9 (ai (ed ((ai t1).trans ((ai (a:=uH) ((rZ cH).trans ((ai (a:=Ee) (bH (v:=.tup [.str z]) (σ':=σ) rfl)).trans bE))).trans bE))))).trans ?_;exact A7 (ns:=[z]) b rfl
theorem BB{s:am}(b:dr p n es gs os X σ)(hs:gK s)(hr:lh s)(hv:gc es):bv PP topN (d+2) sQ [.inst bw X.i,s.pv,.int t] σ=.ok (.bool (eE es gs s t)) σ:=by
 rw[cs (fn:=D9) rfl rfl]
 have V:ev (CC (d+1)) (.meth bw ml "has_fired" (.v 0) #v[(.sub (.v 1) (aa 0)),(.v 2)]) [bD X.i,some s.pv,ae t] σ=.ok (.bool (aC (s.name,t) gs).isSome) σ:=
  fL (i:=X.i) (ac:=σ) (au:=σ) (vs:=[.str s.name,.int t]) rfl b.ns rfl rfl (so b)
 have ak:ev (CC (d+1)) (.meth bw qp "missed" (.v 0) #v[(.v 1),(.v 2)]) [bD X.i,some s.pv,ae t] σ=.ok (pd (dT es s t)) σ:=
  fL (i:=X.i) (ac:=σ) (au:=σ) (vs:=[s.pv,.int t]) rfl b.ns rfl rfl (A8 b hs hr hv)
 have bK:ev (CC (d+1)) (.not (.meth bw ml "has_fired" (.v 0) #v[(.sub (.v 1) (aa 0)),(.v 2)])) [bD X.i,some s.pv,ae t] σ=.ok (.bool (aC (s.name,t) gs).isNone) σ:=by
  rw[Oe,V];cases aC (s.name,t) gs <;> rfl
 have gT:ev (CC (d+1)) (.cmp (.meth bw qp "missed" (.v 0) #v[(.v 1),(.v 2)]) .is (.k .none)) [bD X.i,some s.pv,ae t] σ=.ok (.bool (dT es s t).isNone) σ:=
  fm ak (y:=.none) (au:=σ) rfl (by cases dT es s t <;> rfl)
 exact(congrArg a9 (be (a:=Ea) (cT (ln (un bK fun J=>l5 gT))))).trans rfl
end
noncomputable def iz(vs:List H):List Int:=(gz vs).getD []
noncomputable def qR(l:List Int):Int:=l.foldl (fun a x=>a*x%1000000) 1
noncomputable def lG:List Int->Int
 | []=>0
 | x::l=>l.foldl min x
noncomputable def lH:List Int->Int
 | []=>0
 | x::l=>l.foldl max x
theorem xC:∀l:List Int,gz (l.map .int)=some l:=by
 intro l
 induction l with
 | nil=>rfl
 | cons x l ao=>show(gz (l.map .int)).map (x::·)=_;rw[ao];rfl
theorem lC:iz (l.map .int)=l:=by unfold iz;rw[xC];rfl
theorem UI{w:Option H}:∀(l:List Int) (a:Int) (z:Option H),(0<=a/\a<=999999)->(∀x∈l,0<=x/\x<=999999)->∃bA,ch none (dm 2) (fun ρ σ=>ex (CC d) topN GS ρ σ) (l.map .int) [some pl,ae a,z,w] σ=.next [some pl,ae (l.foldl (fun a x=>a*x%1000000) a),bA,w] σ:=by
 intro l
 induction l with
 | nil=>intro a z _ _;exact⟨z,eS⟩
 | cons x l ao =>
  intro a z ha hl;have hb:0<=a*x%1000000/\a*x%1000000<=999999:=⟨ey _ (by decide),Int.le_of_lt_add_one (e7 _ (by decide))⟩;refine aM (ao (a*x%1000000) (ae x) hb fun y hy=>hl y (bQ _ hy)) fun bA e=>?_;refine⟨bA,(ek (b4:=[some pl,ae a,ae x,w]) (fw:=[some pl,ae (a*x%1000000),ae x,w]) (au:=σ) rfl ?_).trans e⟩;refine(ai (a:=GU) (bH (cp (cp (x:=.int a) (ac:=σ) rfl (y:=.int x) (au:=σ) rfl (mul_int (.inl ?_))) (y:=.int 1000000) (au:=σ) rfl (gd (by decide))))).trans bE
  (grind)
theorem UK(h:∀x∈l,0<=x/\x<=999999):bv PP topN (d+1) IA [.fl (l.map .int)] σ=.ok (.int (qR l)) σ:=by
 rw[cs (fn:=GQ) rfl rfl];obtain⟨z,e⟩:=UI (d:=d) (σ:=σ) (pl:=.fl (l.map .int)) (w:=none) l 1 none (by decide) h;exact(congrArg a9 (rfl.trans ((ai (a:=GR) (eY (ys:=l.map .int) (ac:=σ) rfl e)).trans rfl))).trans rfl
theorem xE:(cx σ (.fl (l.map .int))).bind gz=some l:=xC l
theorem KL(hl:l.length<=1000)(h:∀x∈l,0<=x/\x<=999999):dx .sum (.fl (l.map .int)) σ=.ok (.int l.sum) σ:=by
 show gh gz (fun l=>if l.length<=1000/\l.all (fun x=>decide (x.natAbs<2 ^ 40))then ah.ok (H.int l.sum) σ else .stuck) (.fl (l.map .int)) σ=_;rw[s6 xE];refine aE ⟨hl,fZ.mpr fun x hx=>dI ?_⟩;have:=h x hx
 (grind)
theorem Tf{x:Int}:dx .min (.fl ((x::l).map .int)) σ=.ok (.int (lG (x::l))) σ:=by
 show gh gz (fun l=>match l with
  | x::l=>ah.ok (H.int (l.foldl min x)) σ
  | []=>.stuck) (.fl ((x::l).map .int)) σ=_
 rw[s6 xE];rfl
theorem SX{x:Int}:dx .max (.fl ((x::l).map .int)) σ=.ok (.int (lH (x::l))) σ:=by
 show gh gz (fun l=>match l with
  | x::l=>ah.ok (H.int (l.foldl max x)) σ
  | []=>.stuck) (.fl ((x::l).map .int)) σ=_
 rw[s6 xE];rfl
noncomputable def nC:c7->List H->H
 | .fixed v,_=>.int v
 | .word w,vs =>
  if w == ("sum" : Str)then .int ((iz vs).sum%1000000)else
  if w == ("times" : Str)then .int (qR (iz vs))else
  if w == ("least" : Str)then .int (lG (iz vs))else
  if w == ("most" : Str)then .int (lH (iz vs))else
  if w == ("choose" : Str)then(if jL (vs.getD 0 .none)=true then vs.getD 1 .none else vs.getD 2 .none)else
  vs.getD 0 .none
noncomputable def rj:c7->Bool
 | .word w=>w == "way"
 | _=>false
noncomputable def h1(r:c7)(vs:List H)(k:Nat):List H:=
 if rj r=true then(if jL (vs.getD 1 .none)=true then[vs.getD 0 .none,.none]else[.none,vs.getD 0 .none])else List.replicate k (nC r vs)
noncomputable def dU(v:H):Prop:=∃i:Int,v=.int i/\0<=i/\i<=999999
noncomputable def nS(r:c7)(vs:List H):Prop:=if j4 r=true then dU (vs.getD 0 .none)/\dU (if jL (vs.getD 0 .none)=true then vs.getD 1 .none else vs.getD 2 .none)else ∀v∈vs,dU v
theorem lR:∀{vs:List H},(∀v∈vs,dU v)->∃l:List Int,vs=l.map .int/\∀x∈l,0<=x/\x<=999999:=by
 intro vs
 induction vs with
 | nil=>intro _;exact⟨[],rfl,fun x hx=>by contradiction⟩
 | cons v vs ao =>
  intro h;refine az (ao fun w hw=>h w (bQ _ hw)) fun l ag hl=>?_;obtain rfl:=ag;refine az (h v bu) fun i ag hi=>?_;obtain rfl:=ag
  exact⟨i::l,rfl,fun x hx=>by
   rcases cE.mp hx with rfl | hx
   ·exact hi
   ·exact hl x hx⟩
theorem dU.get{vs:List H}(h:∀v∈vs,dU v)(hi:i<vs.length):∃x:Int,vs.getD i .none=.int x/\vs[i]?=ae x:=by
 refine az (h vs[i] (List.getElem_mem hi)) fun x hx J=>?_;exact⟨x,by rw[li,dA hi];exact hx,by rw[dA hi,hx]⟩
theorem rb{vs:List H}{x:H}(hl:vs.length<=100)(h:vs[i]?=some x):f6 (.fl vs) (.int (i:Nat)) σ=.ok x σ:=
 km (aK hl (by decide)) (d8 i) (by rw[jy];exact h)
theorem M8{a b c:H}(ha:∃i:Int,a=.int i):bv PP topN (d+1) Im [.fl [a,b,c]] σ=.ok (if jL a=true then b else c) σ:=by
 refine aM ha fun i ag=>?_;obtain rfl:=ag;rw[cs (fn:=Eo) rfl rfl];have t:tst (CC d) (.cmp (.sub (.v 0) (aa 0)) .eq (aa 0)) [some (.fl [.int i,b,c])] σ=.ok (i == 0) σ:=rfl;show a9 (ex (CC d) topN #v[uN,Ep] [some (.fl [.int i,b,c])] σ)=.ok (if(i == 0)=true then b else c) σ
 cases hi:(i == 0)with
 | true =>
  rw[hi]at t;exact(congrArg a9 (be (a:=uN) ((cj t).trans rfl))).trans rfl
 | false =>
  rw[hi]at t;exact(congrArg a9 ((ai (a:=uN) (bx t)).trans rfl)).trans rfl
theorem VC{r:c7}{vs:List H}{k:Nat}(h:fG r vs.length k)(hw:rj r=false)(hl:vs.length<=100)(L:1<=vs.length)(he:nS r vs):bv PP topN (d+2) IB [r.pv,.fl vs] σ=.ok (nC r vs) σ:=by
 rw[cs (fn:=GV) rfl rfl];show a9 (ex (CC (d+1)) topN #v[m7,mc,m8,oB,r8,vo,vp,zB] [some r.pv,some (.fl vs),none,none,none,none,none,none,none] σ)=_;generalize hk:vs.length=m at h
 cases h with
 | sum _ _ =>
  refine az (lR (show ∀v∈vs,dU v from he)) fun l ag hv=>?_;obtain rfl:=ag
  have e:ev (CC (d+1)) (.bin .mod (.b1 .sum (.v 1)) (aa 1000000)) [some (c7.pv (.word "sum")),some (.fl (l.map .int)),aS "sum",none,none,none,none,none,none] σ=.ok (.int (l.sum%1000000)) σ:=
   cp (c0 (x:=.fl (l.map .int)) (ac:=σ) rfl (KL (by rw[bh]at hl;(exact aK (by assumption) (by decide))) hv)) (y:=.int 1000000) (au:=σ) rfl (gd (by decide))
  refine(congrArg a9 (rfl.trans (be (a:=mc) (rfl.trans (be (a:=GW) (cT e)))))).trans ?_;show ah.ok (H.int (l.sum%1000000)) σ=ah.ok (.int ((iz (l.map .int)).sum%1000000)) σ;rw[lC]
 | times _ _ =>
  refine az (lR (show ∀v∈vs,dU v from he)) fun l ag hv=>?_;obtain rfl:=ag;refine(congrArg a9 ((ai (a:=m7) rfl).trans ((ai (a:=mc) rfl).trans (be (a:=m8) (rfl.trans (be (a:=GX) (cT (eb (x:=.fl (l.map .int)) (ac:=σ) rfl (UK hv))))))))).trans ?_;show ah.ok (H.int (qR l)) σ=ah.ok (.int (qR (iz (l.map .int)))) σ;rw[lC]
 | least _ _ =>
  refine az (lR (show ∀v∈vs,dU v from he)) fun l ag hv=>?_;obtain rfl:=ag
  cases l with
  | nil=>exact absurd L (by decide)
  | cons x l =>
  refine(congrArg a9 ((ai (a:=m7) rfl).trans ((ai (a:=mc) rfl).trans ((ai (a:=m8) rfl).trans
   (be (a:=oB) (rfl.trans (be (a:=GY) (cT (c0 (x:=.fl ((x::l).map .int)) (ac:=σ) rfl Tf))))))))).trans ?_
  show ah.ok (H.int (lG (x::l))) σ=ah.ok (.int (lG (iz ((x::l).map .int)))) σ;rw[lC]
 | most _ _ =>
  refine az (lR (show ∀v∈vs,dU v from he)) fun l ag hv=>?_;obtain rfl:=ag
  cases l with
  | nil=>exact absurd L (by decide)
  | cons x l =>
  refine(congrArg a9 ((ai (a:=m7) rfl).trans ((ai (a:=mc) rfl).trans ((ai (a:=m8) rfl).trans ((ai (a:=oB) rfl).trans
   (be (a:=r8) (rfl.trans (be (a:=GZ) (cT (c0 (x:=.fl ((x::l).map .int)) (ac:=σ) rfl SX)))))))))).trans ?_
  show ah.ok (H.int (lH (x::l))) σ=ah.ok (.int (lH (iz ((x::l).map .int)))) σ;rw[lC]
 | later _ =>
  have hx:vs[0]?=some (vs.getD 0 .none):=by rw[li,dA (show 0<vs.length from L)];rfl
  exact(congrArg a9 ((ai (a:=m7) rfl).trans ((ai (a:=mc) rfl).trans ((ai (a:=m8) rfl).trans ((ai (a:=oB) rfl).trans ((ai (a:=r8) rfl).trans
   ((ai (a:=vo) rfl).trans ((ai (a:=vp) rfl).trans (be (a:=zB) (cT (cM (x:=.fl vs) (ac:=σ) rfl (y:=.int ((0:Nat):Int)) (au:=σ) rfl (rb hl hx)))))))))))).trans rfl
 | way=>contradiction
 | choose _ =>
  refine az ((show dU (vs.getD 0 .none)from And.left he)) fun i hi J=>?_;refine rV (qz hk) fun a b c ag=>?_;obtain rfl:=ag
  exact(congrArg a9 ((ai (a:=m7) rfl).trans ((ai (a:=mc) rfl).trans ((ai (a:=m8) rfl).trans ((ai (a:=oB) rfl).trans ((ai (a:=r8) rfl).trans
   ((ai (a:=vo) rfl).trans (be (a:=vp) (rfl.trans (be (a:=G0) (cT (eb (x:=.fl [a,b,c]) (ac:=σ) rfl (M8 ⟨i,hi⟩))))))))))))).trans rfl
 | fixed v _ _ _ _ =>
  exact(congrArg a9 ((ai (a:=m7) rfl).trans ((ai (a:=mc) rfl).trans ((ai (a:=m8) rfl).trans ((ai (a:=oB) rfl).trans (rfl.trans
   rfl)))))).trans rfl
theorem Up{r:c7}{vs:List H}{k:Nat}(h:fG r vs.length k)(hl:vs.length<=100)(L:1<=vs.length)(hk:k<=100)(he:nS r vs):bv PP topN (d+3) AM [r.pv,.fl vs,.int (k:Nat)] σ=.ok (.fl (h1 r vs k)) σ:=by
 rw[cs (fn:=GJ) rfl rfl];show a9 (ex (CC (d+2)) topN #v[r7,zy,zz] [some r.pv,some (.fl vs),ae (k:Nat),none,none,none] σ)=_
 have b9:tst (CC (d+2)) (.cmp (.sub (.v 0) (aa 0)) .eq (.k (.str "way"))) [some r.pv,some (.fl vs),ae (k:Nat),none,none,none] σ=.ok (rj r) σ:=by
  generalize vs.length=m at h;cases h <;> rfl
 unfold h1
 cases hw:rj r with
 | true =>
  rw[hw]at b9;rw[aE rfl];generalize hm:vs.length=m at h
  cases h with
  | way =>
   refine jb (AV hm) fun a b ag=>?_;obtain rfl:=ag;obtain⟨j,rfl,_⟩:=(show ∀v∈[a,b],dU v from he) b ((bQ _ bu));have cH:tst (CC (d+2)) (.cmp (.sub (.v 1) (aa 1)) .eq (aa 0)) [some (c7.pv (.word "way")),some (.fl [a,.int j]),ae ((2:Nat):Int),none,none,none] σ=.ok (j == 0) σ:=rfl;show _=ah.ok (H.fl (if(j == 0)=true then[a,.none]else[.none,a])) σ
   cases a8:(j == 0)with
   | true =>
    rw[a8]at cH;exact(congrArg a9 (be (a:=r7) ((cj b9).trans (be (a:=zx) ((cj cH).trans rfl))))).trans rfl
   | false =>
    rw[a8]at cH;exact(congrArg a9 (be (a:=r7) ((cj b9).trans ((ai (a:=zx) (bx cH)).trans rfl)))).trans rfl
  | _=>contradiction
 | false =>
  rw[hw]at b9;rw[a5 (by decide)]
  have ed:ex (CC (d+2)) topN zy [some r.pv,some (.fl vs),ae (k:Nat),none,none,none] σ=.next [some r.pv,some (.fl vs),ae (k:Nat),some (nC r vs),none,none] σ:=
   bH (iu (x:=r.pv) (y:=.fl vs) (ac:=σ) (au:=σ) rfl rfl (VC h hw hl L he))
  have pn:evIt (CC (d+2)) (.range1 (.v 2)) [some r.pv,some (.fl vs),ae (k:Nat),some (nC r vs),none,none] σ=.ok (cZ 0 1 k,none) σ:=by
   show(if 0<=(k:Int)/\(k:Int)<=aI then ah.ok (cZ 0 1 (k:Int).toNat,none) σ else .stuck)=_;rw[aE ⟨(d8 _),by rw[eL];(exact Int.ofNat_le.mpr (aK (by assumption) (by decide)))⟩];rfl
  have c:ev (CC (d+2)) GK [some r.pv,some (.fl vs),ae (k:Nat),some (nC r vs),none,none] σ=.ok (.fl ((cZ 0 1 k).map fun J=>nC r vs)) σ:=
   m0 (fun J=>nC r vs) pn (by rw[eL];simp[cZ];(exact aK (by assumption) (by decide))) fun x J=>rfl
  rw[List.map_const',show(cZ 0 1 k).length=k by simp[cZ]]at c;exact(congrArg a9 ((ai (a:=r7) (bx b9)).trans ((ai ed).trans (be (a:=zz) (cT c))))).trans rfl
section
variable {p:List am}{es gs:c6}{X:d1}
theorem wo(b:dr p n es gs os X σ)(h0:0<=t)(L:t<n):bv PP topN (d+2) qq [.inst bw X.i,.int t] σ=.ok .none σ:=by
 rw[cs (fn:=yq) rfl rfl]
 have c:bv PP topN (d+1) lB [.int t,.int 0,.int ((n:Int)-1)] σ=.ok (.bool true) σ:=by
  rw[xJ,dI h0,dI (show t<=(n:Int)-1 by grind)];rfl
 have b9:tst (CC (d+1)) (.not (.call lB #v[(.v 1),(aa 0),(.bin .sub (.attr bw (.v 0) "turns") (aa 1))])) [bD X.i,ae t,none,none] σ=.ok (!true) σ:=
  fU (h5 (m3 (x:=.int t) (ac:=σ) rfl (y:=.int 0) (au:=σ) rfl (cp (hU (i:=X.i) (ac:=σ) (v:=.int n) rfl b.ns rfl) (y:=.int 1) (au:=σ) rfl sub_int) c))
 exact(congrArg a9 ((ai (a:=uK) (bx b9)).trans bE)).trans rfl
theorem V6{s:am}:∀(q:List am) (z:Option H),s∈q->(q.map (·.name)).Nodup->∃bA,ch none (dm 2) (fun ρ σ=>ex (CC d) topN yp ρ σ) (q.map am.pv) [bD i,aS s.name,z,none,none,none] σ=.ret s.pv [bD i,aS s.name,bA,none,none,none] σ:=by
 intro q
 induction q with
 | nil=>intro z h _;contradiction
 | cons a q ao =>
  intro z h hn;rw[dw,hS]at hn;have b9:tst (CC d) (.cmp (.sub (.v 2) (aa 0)) .eq (.v 1)) [bD i,aS s.name,some a.pv,none,none,none] σ=.ok (a.name == s.name) σ:=rfl;by_cases ha:a.name=s.name
  ·have:a=s:=by
    rcases cE.mp h with rfl | h
    ·rfl
    ·exact absurd (cL.mpr ⟨s,h,ha.symm⟩) hn.1
   subst this;rw[beq_self_eq_true]at b9;exact⟨some a.pv,G9 (b4:=[bD i,aS a.name,some a.pv,none,none,none]) rfl (be (a:=uJ) ((cj b9).trans rfl))⟩
  ·rw[lj.mpr ha]at b9;refine aM (ao (some a.pv) ((cE.mp h).resolve_left fun q=>ha (q▸rfl)) hn.2) fun bA e=>?_;exact⟨bA,(ek (b4:=[bD i,aS s.name,some a.pv,none,none,none]) (fw:=[bD i,aS s.name,some a.pv,none,none,none]) (au:=σ) rfl ((ai (a:=uJ) (bx b9)).trans bE)).trans e⟩
theorem J7{o:Mine.X}(b:dr p n es gs os X σ)(ho:ev (CC d) o ρ σ=.ok (.inst bw X.i) σ):evIt (CC d) (.attr bw o "plan") ρ σ=.ok (p.map am.pv,none) σ:=by
 show(ev (CC d) (.attr bw o "plan") ρ σ).bind eD=_;rw[hU (v:=bg p) ho b.ns rfl];rfl
theorem Bc{s:am}(b:dr p n es gs os X σ)(hs:s∈p)(hn:(p.map (·.name)).Nodup):bv PP topN (d+1) vW [.inst bw X.i,.str s.name] σ=.ok s.pv σ:=by
 rw[cs (fn:=ym) rfl rfl];refine aM (V6 (d:=d) (σ:=σ) (i:=X.i) p none hs hn) fun z e=>?_
 have ak:ex (CC d) topN yo [bD X.i,aS s.name,none,none,none,none] σ=.ret s.pv [bD X.i,aS s.name,z,none,none,none] σ:=
  eY (ys:=p.map am.pv) (ac:=σ) (J7 b rfl) e
 exact(congrArg a9 (be (a:=yn) (rfl.trans (be ak)))).trans rfl
theorem px{f:Nat}{m:Str}{o args:Mine.X}(h:ev C (.meth c f m o args) ρ σ=.ok (.bool q) ac):tst C (.meth c f m o args) ρ σ=.ok q ac:=by
 show(ev C (.meth c f m o args) ρ σ).bind i0=_;rw[h];rfl
noncomputable def dy(es:c6)(s:am)(t:Int):List H:=s.needs.map fun x=>(aC (x,t) es).getD .none
noncomputable def ee(s:am)(t:Int):Int:=t+(if f4 s.rule=true then 1 else 0)
noncomputable def hL(w:Int)(es:c6)(e:Str×H):c6:=if iA e.2=true then es else eK (e.1,w) e.2 es
noncomputable def hW(n:Nat)(es:c6)(s:am)(t:Int):c6:=if ee s t=n then es else(s.gives.zip (h1 s.rule (dy es s t) s.gives.length)).foldl (hL (ee s t)) es
theorem x5{s:am}(hs:gK s)(hv:gc es)(hm:dT es s t=none):nS s.rule (dy es s t):=by
 unfold nS;unfold dT j2 at hm;rw[List.find?_eq_none]at hm
 have z1:∀x,¬(aC (x,t) es).isNone=true->dU ((aC (x,t) es).getD .none):=fun x hx=>by
  cases ha:aC (x,t) es with
  | none=>rw[ha]at hx;exact absurd rfl hx
  | some v=>exact hv _ _ ha
 refine bL (wE hs.rule) fun J J J ax=>?_
 cases hc:j4 s.rule with
 | false =>
  rw[hc,a5 (by decide)]at hm;rw[a5 (by decide)];intro v oT;refine az (cL.mp oT) fun x hx ag=>?_;obtain rfl:=ag;exact z1 x (hm x hx)
 | true =>
  rw[hc,aE rfl]at hm;rw[aE rfl];have ax:=ax hc;obtain⟨nm,rl,ns,gv⟩:=s;dsimp only at ax hm;refine rV (qz (show ns.length=3 from ax)) fun x y z ag=>?_;obtain rfl:=ag;dsimp only at hm
  cases ha:aC (x,t) es with
  | none =>
   rw[ha]at hm;exact absurd (by rw[ha];rfl) (hm x ((bu)))
  | some v =>
   rw[ha]at hm;show dU ((aC (x,t) es).getD .none)/\dU (if jL ((aC (x,t) es).getD .none)=true then(aC (y,t) es).getD .none else(aC (z,t) es).getD .none);rw[ha];refine⟨hv _ _ ha,?_⟩;dsimp only at hm;show dU (if jL v=true then(aC (y,t) es).getD .none else(aC (z,t) es).getD .none)
   cases bp:jL v with
   | true=>rw[bp]at hm;exact z1 y (hm y ((bu)))
   | false=>rw[bp]at hm;exact z1 z (hm z ((bu)))
theorem Bw{w:Int}{e:Str×H}:(hL w es e).length<=es.length+1:=by
 unfold hL
 split
 ·exact Nat.le_succ _
 ·unfold eK
  split
  ·rw[bh];exact Nat.le_succ _
  ·rw[cN];exact dz _
theorem UT{w:Int}:∀(l:List (Str×H)) (es:c6),(l.foldl (hL w) es).length<=es.length+l.length:=by
 intro l
 induction l with
 | nil=>intro es;exact dz _
 | cons e l ao =>
  intro es;rw[i7,dj];have L:=ao (hL w es e);have O:=Bw (w:=w) (es:=es) (e:=e)
  (grind)
theorem vx{w:Option (Nat×aV)}{f:aB->af->b3}(hw:iG w σ):ch w iQ f [] ρ σ=.next ρ σ:=aE hw
theorem vw{w:Option (Nat×aV)}{f:aB->af->b3}{x:H}(hw:iG w σ)(hb:iQ x ρ=some b4)(h:f b4 σ=.next fw au):ch w iQ f (x::xs) ρ σ=ch w iQ f xs fw au:=by
 refine(aE hw).trans ?_;rw[hb];show kP _ (f b4 σ)=_;rw[h];rfl
noncomputable def di(i:Nat)(nm:Str)(t:Int)(sp:H)(pl vs:Option H)(w:Option H)(v:Option H):aB:=[bD i,aS nm,ae t,some sp,pl,vs,w,v,none,none,none,none,none,none]
theorem Pd{nm:Str}{w:Int}{vs:Option H}(a8:j≠X.h):∀(l:List (Str×H)) (es:c6) (σ:af) (y z:Option H),σ[j]?=some .tp->dr p n es gs os X σ->es.length+l.length<900000 ->
  ∃b6 bA σ',ch (some (j,.tp)) (gO [4,7]) (fun ρ σ=>ex (CC d) topN yh ρ σ) (l.map fun e=>.tup [.str e.1,e.2]) (di X.i nm t sp y vs (ae w) z) σ=.next (di X.i nm t sp b6 vs (ae w) bA) σ'/\dr p n (l.foldl (hL w) es) gs os X σ'/\ic X σ σ':=by
 intro l
 induction l with
 | nil=>intro es σ y z hw b _;exact⟨y,z,σ,vx hw,b,.refl⟩
 | cons e l ao =>
  intro es σ y z hw b hl;rw[dj]at hl;obtain⟨x,v⟩:=e;have b9:tst (CC d) (.cmp (.v 7) .isNot (.k .none)) (di X.i nm t sp (aS x) vs (ae w) (some v)) σ=.ok (!iA v) σ:=rfl;have hb:gO [4,7] (.tup [.str x,v]) (di X.i nm t sp y vs (ae w) z)=some (di X.i nm t sp (aS x) vs (ae w) (some v)):=rfl
  have fin:∀{es':c6} {ac:af},es'=hL w es (x,v)->ex (CC d) topN D7 (di X.i nm t sp (aS x) vs (ae w) (some v)) σ=.next (di X.i nm t sp (aS x) vs (ae w) (some v)) ac->dr p n es' gs os X ac->ic X σ ac->ac[j]?=some .tp ->
    ∃b6 bA σ',ch (some (j,.tp)) (gO [4,7]) (fun ρ σ=>ex (CC d) topN yh ρ σ) (((x,v)::l).map fun e=>.tup [.str e.1,e.2]) (di X.i nm t sp y vs (ae w) z) σ=.next (di X.i nm t sp b6 vs (ae w) bA) σ'/\dr p n (((x,v)::l).foldl (hL w) es) gs os X σ'/\ic X σ σ':=fun{es' ac} he h b1 k1 oU=>by
   subst he;obtain⟨b6,bA,σ',e,cO,bW⟩:=ao (hL w es (x,v)) ac (aS x) (some v) oU b1 (by have:=Bw (w:=w) (es:=es) (e:=(x,v));(grind));exact⟨b6,bA,σ',(vw (w:=some (j,.tp)) hw hb ((ai h).trans bE)).trans e,cO,k1.trans bW⟩
  cases hv:iA v with
  | true =>
   rw[hv]at b9;exact fin (es':=es) (by unfold hL;exact(aE hv).symm) (bx b9) b .refl hw
  | false =>
   rw[hv]at b9;refine fin (es':=eK (x,w) v es) (ac:=σ.set X.h (.dp (eK (x,w) v es))) (by unfold hL;exact(a5 (by rw[hv];decide)).symm) ((cj b9).trans ((ai (a:=D8) ?_).trans bE)) b.here (.set (.inl rfl)) (du (Ne.symm a8) hw);have t2:ev (CC d) (.attr bw (.v 0) "here") (di X.i nm t sp (aS x) vs (ae w) (some v)) σ=.ok (.ref X.h) σ:=hU (i:=X.i) (ac:=σ) rfl b.ns rfl;show(ev (CC d) (.v 7) (di X.i nm t sp (aS x) vs (ae w) (some v)) σ).toS _ (fun v σ=>(ev (CC d) (.attr bw (.v 0) "here") (di X.i nm t sp (aS x) vs (ae w) (some v)) σ).toS _ fun o σ=>(ev (CC d) (.tup #v[(.v 4),(.v 6)]) (di X.i nm t sp (aS x) vs (ae w) (some v)) σ).toS _ fun i σ=>hN o i v _ σ)=_;rw[show ev (CC d) (.v 7) (di X.i nm t sp (aS x) vs (ae w) (some v)) σ=.ok v σ from rfl,fV,t2,fV,show ev (CC d) (.tup #v[(.v 4),(.v 6)]) (di X.i nm t sp (aS x) vs (ae w) (some v)) σ=.ok (.tup [.str x,.int w]) σ from rfl,fV];exact q0 b.hr (by rw[eL];(grind))
theorem rG{v:H}(h:σ[r]?=some (.lst xs))(hl:xs.length<900000):jk .append (.ref r) [v] σ=.ok .none (σ.set r (.lst (xs++[v]))):=by
 show kE (.ref r) v σ=_;unfold kE;dsimp only;rw[h];dsimp only;exact aE (by rw[eL];(exact aK (by assumption) (by decide)))
theorem wl(h:σ[r]?=some (.lst xs)):o6 .append (.ref r) σ=true:=by
 show jh (.ref r) σ=true;unfold jh;dsimp only;rw[h]
theorem AU{r:c7}{k g:Nat}(h:fG r k g):∃w,(∀σ,f6 r.pv (.int 0) σ=.ok (.str w) σ)/\(w == "later")=f4 r:=by
 cases h <;> first | exact⟨_,fun J=>rfl,rfl⟩ | exact⟨"fixed",fun J=>rfl,by decide +kernel⟩
theorem Ym:∀(a:List Str) (b:List H),mO (a.map .str) b=(a.zip b).map fun e=>.tup [.str e.1,e.2]:=by
 intro a
 induction a with
 | nil=>intro b;cases b <;> rfl
 | cons x a ao =>
  intro b
  cases b with
  | nil=>rfl
  | cons y b=>exact congrArg (_::·) (ao b)
theorem JY{r:c7}{vs:List H}{k g:Nat}(h:fG r k g):(h1 r vs g).length=g:=by
 unfold h1
 cases hw:rj r with
 | false=>rw[a5 (by decide)];exact List.length_replicate
 | true =>
  rw[aE rfl]
  cases h <;> first | contradiction | (split <;> rfl)
structure Lz(p:List am)(n:Nat)(es gs:c6)(os:List H)(X:d1)(σ:af)(r:ah H)(v:H)(σ':af):Prop where
 e:r=.ok v σ'
 b:dr p n es gs os X σ'
 k:ic X σ σ'
theorem OG{s:am}(hp:dG p)(b:dr p n es gs os X σ)(hs:s∈p)(hr:lh s)(hv:gc es)(h0:0<=t)(L:t<n)(hg:aC (s.name,t) gs=none)(hm:dT es s t=none)
  (fB:es.length<800000) (o1:gs.length<800000) (Zn:os.length<800000) :
  ∃σ',Lz p n (hW n es s t) (gs++[((s.name,t),.bool true)]) (os++[.tup [.str s.name,.int t]]) X σ (bv PP topN (d+4) qo [.inst bw X.i,.str s.name,.int t] σ) .none σ':=by
 have d6:=hp.steps s hs;rw[cs (fn:=yf) rfl rfl]
 have dE:ex (CC (d+3)) topN DZ [bD X.i,aS s.name,ae t,none,none,none,none,none,none,none,none,none,none,none] σ=.next (di X.i s.name t s.pv none none none none) σ:=
  bH (fL (i:=X.i) (ac:=σ) (au:=σ) (vs:=[.str s.name]) rfl b.ns rfl rfl (Bc b hs hp.names))
 have ed:ex (CC (d+3)) topN D0 (di X.i s.name t s.pv none none none none) σ=.next (di X.i s.name t s.pv none none none none) σ:=
  fM (fL (i:=X.i) (ac:=σ) (au:=σ) (vs:=[.int t]) rfl b.ns rfl rfl (wo b h0 L))
 have lO:ex (CC (d+3)) topN D1 (di X.i s.name t s.pv none none none none) σ=.next (di X.i s.name t s.pv none none none none) σ:=by
  have c:=so (d:=d+2) (x:=s.name) (t:=t) b;rw[hg]at c;exact(bx (px (fL (i:=X.i) (ac:=σ) (au:=σ) (vs:=[.str s.name,.int t]) rfl b.ns rfl rfl c)))
 have pr:ex (CC (d+3)) topN D2 (di X.i s.name t s.pv none none none none) σ=.next (di X.i s.name t s.pv none none none none) σ:=by
  have c:=A8 (d:=d+2) (t:=t) b d6 hr hv;rw[hm]at c;exact(bx (b7 (fL (i:=X.i) (ac:=σ) (au:=σ) (vs:=[s.pv,.int t]) rfl b.ns rfl rfl c) (y:=.none) (au:=σ) rfl rfl))
 have qV:ex (CC (d+3)) topN D3 (di X.i s.name t s.pv none none none none) σ=.next (di X.i s.name t s.pv none none none none) (σ.set X.gn (.dp (gs++[((s.name,t),.bool true)]))):=by
  have pX:ev (CC (d+3)) (.attr bw (.v 0) "gone") (di X.i s.name t s.pv none none none none) σ=.ok (.ref X.gn) σ:=hU (i:=X.i) (ac:=σ) rfl b.ns rfl;show(ah.ok (H.bool true) σ).toS _ (fun v σ=>(ev (CC (d+3)) (.attr bw (.v 0) "gone") (di X.i s.name t s.pv none none none none) σ).toS _ fun o σ=>(ev (CC (d+3)) (.tup #v[(.v 1),(.v 2)]) (di X.i s.name t s.pv none none none none) σ).toS _ fun i σ=>hN o i v _ σ)=_;rw[fV,pX,fV,show ev (CC (d+3)) (.tup #v[(.v 1),(.v 2)]) (di X.i s.name t s.pv none none none none) σ=.ok (.tup [.str s.name,.int t]) σ from rfl,fV,q0 b.go (by rw[eL];(exact aK (by assumption) (by decide))),t3 hg]
 have b1:dr p n es (gs++[((s.name,t),.bool true)]) os X (σ.set X.gn (.dp (gs++[((s.name,t),.bool true)]))):=b.gone;have k1:ic X σ (σ.set X.gn (.dp (gs++[((s.name,t),.bool true)]))):=.set (.inr (.inl rfl));generalize σ.set X.gn (.dp (gs++[((s.name,t),.bool true)]))=a2 at qV b1 k1;generalize gs++[((s.name,t),.bool true)]=Pk at b1 ⊢
 have nA:ex (CC (d+3)) topN D4 (di X.i s.name t s.pv none none none none) a2=.next (di X.i s.name t s.pv none none none none) (a2.set X.od (.lst (os++[.tup [.str s.name,.int t]]))):=
  fM (gU (hU (i:=X.i) (ac:=a2) (v:=.ref X.od) rfl b1.ns rfl) (wl b1.od) (y:=.tup [.str s.name,.int t]) (au:=a2) rfl (rG b1.od ((aK (by assumption) (by decide)))))
 have dR:dr p n es Pk (os++[.tup [.str s.name,.int t]]) X (a2.set X.od (.lst (os++[.tup [.str s.name,.int t]]))):=b1.order;have k2:=k1.trans (ic.set (X:=X) (σ:=a2) (m:=.lst (os++[.tup [.str s.name,.int t]])) (.inr (.inr rfl)));generalize a2.set X.od (.lst (os++[.tup [.str s.name,.int t]]))=bB at nA dR k2;generalize os++[.tup [.str s.name,.int t]]=Zu at dR ⊢
 have gE:(s.needs.map H.str).length<=aI:=by rw[bh];exact aK d6.needs4 (by decide)
 have Vj:ex (CC (d+3)) topN D5 (di X.i s.name t s.pv none none none none) bB=.next (di X.i s.name t s.pv none (some (.fl (dy es s t))) none none) bB:=by
  have c:ev (CC (d+3)) DY (di X.i s.name t s.pv none none none none) bB=.ok (.fl ((s.needs.map H.str).map fun v=>match v with | .str x=>(aC (x,t) es).getD .none | _=>.none)) bB:=
   m0 (xs:=s.needs.map .str) _ rfl gE fun v oT=>by
    refine az (cL.mp oT) fun x J ag=>?_;obtain rfl:=ag;exact gU (hU (i:=X.i) (ac:=bB) (v:=.ref X.h) rfl dR.ns rfl) (zW dR.hr) (y:=.tup [.str x,.int t]) (au:=bB) rfl (z2 dR.hr)
  rw[gL]at c;exact bH c
 refine az (AU d6.rule) fun w oU sO=>?_
 have Vk:ex (CC (d+3)) topN D6 (di X.i s.name t s.pv none (some (.fl (dy es s t))) none none) bB=.next (di X.i s.name t s.pv none (some (.fl (dy es s t))) (ae (ee s t)) none) bB:=by
  have c:ev (CC (d+3)) (.cmp (.sub (.sub (.v 3) (aa 1)) (aa 0)) .eq (.k (.str "later"))) (di X.i s.name t s.pv none (some (.fl (dy es s t))) none none) bB=.ok (.bool (f4 s.rule)) bB:=by
   rw[<- sO];exact fm (cM (x:=s.rule.pv) (ac:=bB) rfl (y:=.int 0) (au:=bB) rfl (oU bB)) (y:=.str "later") (au:=bB) rfl p6
  exact bH (cp (x:=.int t) (ac:=bB) rfl (c0 c int_bool) add_int)
 have wP:tst (CC (d+3)) (.cmp (.v 6) .eq (.attr bw (.v 0) "turns")) (di X.i s.name t s.pv none (some (.fl (dy es s t))) (ae (ee s t)) none) bB=.ok (ee s t == (n:Int)) bB:=
  b7 (x:=.int (ee s t)) (ac:=bB) rfl (hU (i:=X.i) (ac:=bB) (v:=.int n) rfl dR.ns rfl) l9
 have pre:∀{o:b3},ex (CC (d+3)) topN #v[uF,yg] (di X.i s.name t s.pv none (some (.fl (dy es s t))) (ae (ee s t)) none) bB=o->ex (CC (d+3)) topN yf.body [bD X.i,aS s.name,ae t,none,none,none,none,none,none,none,none,none,none,none] σ=o:=fun{o} ho =>
  (ai dE).trans ((ai ed).trans ((ai lO).trans ((ai pr).trans ((ai qV).trans ((ai nA).trans ((ai Vj).trans ((ai Vk).trans ho)))))))
 unfold hW;by_cases hw:ee s t=n
 ·rw[fy.mpr hw]at wP;rw[aE hw];exact⟨bB,(congrArg a9 (pre (be (a:=uF) ((cj wP).trans rfl)))).trans rfl,dR,k2⟩
 ·rw[lj.mpr hw]at wP;rw[a5 hw];have vl:(dy es s t).length=s.needs.length:=bh _;have out:=Up (d:=d) (σ:=bB) (r:=s.rule) (vs:=dy es s t) (k:=s.gives.length) (vl.symm▸d6.rule) (vl.symm▸(aK d6.needs4 (by decide))) (by rw[vl];exact d6.needs1) (aK d6.gives3 (by decide)) (x5 d6 hv hm);have lM:(h1 s.rule (dy es s t) s.gives.length).length=s.gives.length:=JY d6.rule;generalize h1 s.rule (dy es s t) s.gives.length=us at out lM ⊢
  have it:evIt (CC (d+3)) (.zip #v[(.sub (.v 3) (aa 3)),(.call AM #v[(.sub (.v 3) (aa 1)),(.v 5),(.b1 .len (.sub (.v 3) (aa 3)))])]) (di X.i s.name t s.pv none (some (.fl (dy es s t))) (ae (ee s t)) none) bB=.ok ((s.gives.zip us).map fun e=>.tup [.str e.1,e.2],some (bB.length,.tp)) (bB++[.tp]):=by
   rw[N6,c4 (x:=.tup (s.gives.map .str)) (ac:=bB) rfl (c4 (m3 (x:=s.rule.pv) (ac:=bB) rfl (y:=.fl (dy es s t)) (au:=bB) rfl (c0 (x:=.tup (s.gives.map .str)) (ac:=bB) rfl (wd (aK d6.gives3 (by decide)))) out) (hV)),cg];show(if(s.gives.map H.str).length=us.length/\us.length<=aI then ah.ok (mO (s.gives.map .str) us,some (bB.length,aV.tp)) (bB++[.tp])else .stuck)=_;rw[aE ⟨by rw[bh,lM],by rw[lM];exact aK d6.gives3 (by decide)⟩,Ym]
  obtain⟨b6,bA,σ',e,cO,bW⟩:=Pd (d:=d+3) (n:=n) (j:=bB.length) (nm:=s.name) (t:=t) (w:=ee s t) (sp:=s.pv) (vs:=some (.fl (dy es s t))) (X:=X) (dc (dS dR.hr).1) (s.gives.zip us) es (bB++[.tp]) none none (by simp) dR.more (by rw[List.length_zip,lM,Nat.min_self];have:=d6.gives3;(grind))
  have Vl:ex (CC (d+3)) topN yg (di X.i s.name t s.pv none (some (.fl (dy es s t))) (ae (ee s t)) none) bB=.next (di X.i s.name t s.pv b6 (some (.fl (dy es s t))) (ae (ee s t)) bA) σ':=by
   show(evIt (CC (d+3)) _ _ bB).toS _ _=_;exact it.symm▸e
  exact⟨σ',(congrArg a9 (pre ((ai (a:=uF) (bx wP)).trans ((ai Vl).trans bE)))).trans rfl,cO,(k2.trans .app).trans bW⟩
end
theorem CT{dF:Type}[DecidableEq dF]{k bW:dF}{v:H}{es:List (dF×H)}:aC k (eK bW v es)=if k=bW then some v else aC k es:=xB
theorem n6{dF:Type}[DecidableEq dF]{k bW:dF}{v:H}{es:List (dF×H)}(h:aC bW es=none):aC k (es++[(bW,v)])=if k=bW then some v else aC k es:=by
 unfold aC at h ⊢;rw[List.find?_append];by_cases hk:k=bW
 ·subst hk;rw[aE rfl,Option.map_eq_none_iff.mp h];simp
 ·rw[a5 hk]
  have:[(bW,v)].find? (fun e=>decide (e.1=k))=none:=by simp[Ne.symm hk]
  rw[this,Option.or_none]
theorem tZ{w:Int}{k:Str×Int}:∀(l:List (Str×H)) (es:c6),k.2≠w\/k.1∉l.map (·.1)->aC k (l.foldl (hL w) es)=aC k es:=by
 intro l
 induction l with
 | nil=>intro es _;rfl
 | cons e l ao =>
  intro es h;rw[i7,ao]
  ·unfold hL
   split
   ·rfl
   ·rw[CT,a5]
    rintro rfl
    rcases h with h | h
    ·exact h rfl
    ·exact h ((bu))
  ·rcases h with h | h
   ·exact .inl h
   ·exact .inr fun q=>h (bQ _ q)
theorem gc.puts{w:Int}:∀(l:List (Str×H)) (es:c6),gc es->(∀e∈l,dU e.2\/e.2=.none)->gc (l.foldl (hL w) es):=by
 intro l
 induction l with
 | nil=>intro es h _;exact h
 | cons e l ao =>
  intro es h hl;refine ao _ ?_ fun x hx=>hl x (bQ _ hx);unfold hL
  rcases hl e bu with hv | hv
  ·split
   ·exact h
   ·intro k v hk;rw[CT]at hk;by_cases hq:k=(e.1,w)
    ·rw[aE hq]at hk;obtain rfl:=oi hk;exact hv
    ·rw[a5 hq]at hk;exact h k v hk
  ·rw[aE (by rw[hv];rfl)];exact h
theorem tG{i:Int}(h0:0<=i)(L:i<=999999):dU (.int i):=⟨i,rfl,h0,L⟩
theorem G7{f:Int->Int->Int}(bf:∀a b:Int,f a b=a\/f a b=b):∀(l:List Int) (a:Int),(0<=a/\a<=999999)->(∀x∈l,0<=x/\x<=999999)->0<=l.foldl f a/\l.foldl f a<=999999:=by
 intro l
 induction l with
 | nil=>intro a h _;exact h
 | cons x l ao =>
  intro a h hl;refine ao _ ?_ fun y hy=>hl y (bQ _ hy)
  rcases bf a x with q | q
  ·rw[q];exact h
  ·rw[q];exact hl x bu
theorem Jo(a b:Int):min a b=a\/min a b=b:=by grind
theorem Jj(a b:Int):max a b=a\/max a b=b:=by grind
theorem Js{i:Int}:dU (.int (i%1000000)):=tG (ey _ (by decide)) (Int.le_of_lt_add_one (e7 _ (by decide)))
theorem UJ:∀(l:List Int) (a:Int),(0<=a/\a<=999999)->dU (.int (l.foldl (fun a x=>a*x%1000000) a)):=by
 intro l
 induction l with
 | nil=>intro a h;exact tG h.1 h.2
 | cons x l ao=>intro a h;refine bL (Js (i:=a*x)) fun i hi h0 L=>?_;cases hi;exact ao _ ⟨h0,L⟩
theorem Km{r:c7}{vs:List H}{k:Nat}(h:fG r vs.length k)(L:1<=vs.length)(he:nS r vs):dU (nC r vs):=by
 have C7:(∀v∈vs,dU v)->dU (vs.getD 0 .none):=fun hv=>by
  rw[li,dA (show 0<vs.length from L)];exact hv _ (List.getElem_mem _)
 generalize hk:vs.length=m at h
 cases h with
 | sum _ _=>exact Js
 | times _ _=>exact UJ _ 1 (by decide)
 | least _ _ =>
  refine az (lR (show ∀v∈vs,dU v from he)) fun l ag hv=>?_;obtain rfl:=ag;show dU (.int (lG (iz (l.map .int))));rw[lC]
  cases l with
  | nil=>exact absurd L (by decide)
  | cons x l=>refine aW (G7 (f:=min) Jo l x (hv x bu) fun y hy=>hv y (bQ _ hy)) fun a b=>?_;exact tG a b
 | most _ _ =>
  refine az (lR (show ∀v∈vs,dU v from he)) fun l ag hv=>?_;obtain rfl:=ag;show dU (.int (lH (iz (l.map .int))));rw[lC]
  cases l with
  | nil=>exact absurd L (by decide)
  | cons x l=>refine aW (G7 (f:=max) Jj l x (hv x bu) fun y hy=>hv y (bQ _ hy)) fun a b=>?_;exact tG a b
 | later _=>exact C7 he
 | way=>exact C7 he
 | choose _=>exact he.2
 | fixed v _ _ a b=>exact tG a b
theorem Uo{r:c7}{vs:List H}{k:Nat}(h:fG r vs.length k)(L:1<=vs.length)(he:nS r vs):∀u∈h1 r vs k,dU u\/u=.none:=by
 unfold h1
 cases hw:rj r with
 | false =>
  rw[a5 (by decide)];intro u hu;rw[List.eq_of_mem_replicate hu];exact .inl (Km h L he)
 | true =>
  rw[aE rfl];have hs:=Km h L he;generalize vs.length=m at h
  cases h with
  | way =>
   have hs:dU (vs.getD 0 .none):=hs;intro u hu
   split at hu
   ·rcases cE.mp hu with rfl | hu
    ·exact .inl hs
    ·exact .inr (df.mp hu)
   ·rcases cE.mp hu with rfl | hu
    ·exact .inr rfl
    ·exact(df.mp hu).symm▸(.inl hs)
  | _=>contradiction
theorem gc.fire{es:c6}{s:am}(hs:gK s)(hv:gc es)(hm:dT es s t=none):gc (hW n es s t):=by
 unfold hW
 split
 ·exact hv
 ·have vl:(dy es s t).length=s.needs.length:=bh _;refine hv.puts _ _ fun e he=>?_;exact Uo (k:=s.gives.length) (by rw[vl];exact hs.rule) (by rw[vl];exact hs.needs1) (x5 hs hv hm) e.2 (List.of_mem_zip he).2
structure bS where
 es:c6
 gs:c6
 os:List H
noncomputable def bS.fire(n:Nat)(B:bS)(s:am)(t:Int):bS:=⟨hW n B.es s t,B.gs++[((s.name,t),.bool true)],B.os++[.tup [.str s.name,.int t]]⟩
noncomputable def bS.rdy(B:bS)(s:am)(t:Int):Bool:=eE B.es B.gs s t
theorem bS.rdy_of{B:bS}{s:am}(h:B.rdy s t=true):aC (s.name,t) B.gs=none/\dT B.es s t=none:=by
 refine aW (dk h) fun a b=>?_;exact⟨n7.mp a,n7.mp b⟩
inductive gr(p:List am)(n:Nat)(A:bS):bS->List (am×Int)->Prop
 | nil:gr p n A A []
 | snoc {B:bS} {l:List (am×Int)} {s:am} {t:Int} (h:gr p n A B l) (hs:s∈p) (h0:0<=t) (L:t<n) (hr:B.rdy s t=true):gr p n A (B.fire n s t) (l++[(s,t)])
section
variable {p:List am}{A B:bS}{l:List (am×Int)}
theorem gr.trans{D:bS}{k:List (am×Int)}(h:gr p n A B l)(O:gr p n B D k):gr p n A D (l++k):=by
 induction O with
 | nil=>rw[iP];exact h
 | snoc O hs h0 L hr ao=>rw[<- eQ];exact .snoc ao hs h0 L hr
theorem gr.val(hp:dG p)(h:gr p n A B l)(hv:gc A.es):gc B.es:=by
 induction h with
 | nil=>exact hv
 | snoc h hs h0 L hr ao=>exact ao.fire (hp.steps _ hs) (bS.rdy_of hr).2
structure fX(B:bS)(m:Nat):Prop where
 es:B.es.length<=3*m
 gs:B.gs.length<=m
 os:B.os.length<=m
theorem Pc{es:c6}{s:am}(hs:gK s):(hW n es s t).length<=es.length+3:=by
 unfold hW
 split
 ·exact fh _ _
 ·refine aK (UT _ _) (kB ?_ _);rw[List.length_zip];exact aK (Nat.min_le_left _ _) hs.gives3
theorem fX.fire{m:Nat}{s:am}(hs:gK s)(h:fX B m):fX (B.fire n s t) (m+1):=
 ⟨by have:=Pc (n:=n) (es:=B.es) (t:=t) hs;have:=h.es;show(hW n B.es s t).length<=_;(grind),by show(B.gs++[_]).length<=_;rw[cN];exact Nat.succ_le_succ h.gs,by show(B.os++[_]).length<=_;rw[cN];exact Nat.succ_le_succ h.os⟩
noncomputable def left(p:List am)(B:bS)(t:Int):Nat:=p.countP fun s=>(aC (s.name,t) B.gs).isNone
theorem Nr{f g:am->Bool}{s:am}(h:∀x,g x=true->f x=true)(bf:f s=true)(hg:g s=false):∀{p:List am},s∈p->p.countP g+1<=p.countP f:=by
 intro p
 induction p with
 | nil=>intro h;contradiction
 | cons a p ao =>
  intro hs;rw[List.countP_cons,List.countP_cons];have le:p.countP g<=p.countP f:=List.countP_mono_left fun x J=>h x
  rcases cE.mp hs with rfl | hs
  ·rw[bf,hg];simp;exact le
  ·have:=ao hs
   cases ha:g a with
   | true=>rw[h a ha];simp;(assumption)
   | false=>simp;(exact aK (by assumption) (fh _ _))
theorem gr.left(h:gr p n A B l)(aO:∀e∈l,e.2=t):left p B t+l.length<=left p A t:=by
 induction h with
 | nil=>exact dz _
 | @snoc B l s bt h hs h0 L hr ao =>
  have:=ao fun e he=>aO e (hj _ he);obtain rfl:bt=t:=aO (s,bt) (e6 _ (df.mpr rfl));have hg:=(bS.rdy_of hr).1
  have key:∀x,aC (x,bt) (B.fire n s bt).gs=if(x,bt)=(s.name,bt)then some (.bool true)else aC (x,bt) B.gs:=fun x=>n6 hg
  have c:Mine.left p (B.fire n s bt) bt+1<=Mine.left p B bt:=by
   refine Nr (s:=s) (fun x hx=>?_) (by rw[hg];rfl) ?_ hs
   ·rw[key]at hx;by_cases q:(x.name,bt)=(s.name,bt)
    ·rw[aE q]at hx;contradiction
    ·rw[a5 q]at hx;exact hx
   ·rw[key,aE rfl];rfl
  rw[cN];show _+(l.length+1)<=_
  (grind)
theorem gr.rdy{s:am}(h:gr p n A B l)(aO:∀e∈l,t<e.2):B.rdy s t=A.rdy s t:=by
 induction h with
 | nil=>rfl
 | @snoc B l s' bt h hs h0 L hr ao =>
  rw[<- ao fun e he=>aO e (hj _ he)];have lt:t<bt:=aO (s',bt) (e6 _ (df.mpr rfl));have hg:=(bS.rdy_of hr).1;have V:∀x,aC (x,t) (B.fire n s' bt).gs=aC (x,t) B.gs:=fun x=>(n6 hg).trans (a5 fun q=>Int.ne_of_lt lt (Prod.mk.inj q).2)
  have ak:∀x,aC (x,t) (B.fire n s' bt).es=aC (x,t) B.es:=fun x=>by
   show aC (x,t) (hW n B.es s' bt)=_;unfold hW
   split
   ·rfl
   ·refine tZ _ _ (.inl (Int.ne_of_lt ?_));unfold ee
    split
    ·exact Int.lt_add_one_of_le (Int.le_of_lt lt)
    ·rw[Int.add_zero];exact lt
  show eE _ _ _ _=eE _ _ _ _;unfold eE dT
  have bK:j2 (B.fire n s' bt).es s t=j2 B.es s t:=by
   unfold j2
   split
   ·split
    ·rw[ak]
    ·rfl
   ·rfl
  rw[V,bK];refine congrArg (fun f=>(aC (s.name,t) B.gs).isNone&&((j2 B.es s t).find? f).isNone) (funext fun x=>?_);rw[ak]
end
noncomputable abbrev lX(p:List am)(n:Nat)(B:bS)(X:d1)(σ:af):Prop:=dr p n B.es B.gs B.os X σ
noncomputable def mB(p:List am)(x:Str):Bool:=decide (x∈p.flatMap (·.gives))||decide (x∈ec p)
section
variable {p:List am}{es gs:c6}{X:d1}
theorem TK(b:dr p n es gs os X σ)(h:mB p x=true):bv PP topN (d+1) Il [.inst bw X.i,.str x] σ=.ok .none σ:=by
 rw[cs (fn:=Eg) rfl rfl]
 have b9:tst (CC d) (.or #v[(.not (.isinst (.v 1) .str)),(.and #v[(.cmp (.v 1) .notin (.attr bw (.v 0) "givers")),(.cmp (.v 1) .notin (.attr bw (.v 0) "outer"))])]) [bD X.i,aS x,none,none,none] σ=.ok (!mB p x) σ:=by
  refine h6 (h7 rfl (iZ ((jI (nJ (b7 (x:=.str x) (ac:=σ) rfl (hU (i:=X.i) (ac:=σ) (v:=.ref X.g) rfl b.ns rfl) (JN b.gv)) fun J=>k4 (b7 (x:=.str x) (ac:=σ) rfl (hU (i:=X.i) (ac:=σ) (v:=.ref X.o) rfl b.ns rfl) (wq b.ot)))).trans ?_)));rw[Hn];unfold mB;rw[Bool.not_or]
 rw[h]at b9;exact(congrArg a9 ((ai (a:=Eh) (bx b9)).trans bE)).trans rfl
theorem UR{j i:Int}(hp:dG p)(b:dr p n es gs os X σ)(L:mB p x=true)(h0:0<=j)(a8:j<n)(hb:jA p x j=false)(hv:0<=i/\i<=999999)(ha:aC (x,j) es=none)(hl:es.length<900000) :
  bv PP topN (d+4) oY [.inst bw X.i,.str x,.int j,.int i] σ=.ok .none (σ.set X.h (.dp (es++[((x,j),.int i)]))):=by
 rw[cs (fn:=yr) rfl rfl];show a9 (ex (CC (d+3)) topN yr.body [bD X.i,aS x,ae j,ae i,none,none,none,none] σ)=_;generalize hρ:([bD X.i,aS x,ae j,ae i,none,none,none,none]:aB)=ρ
 have ff:∀{τ:af},ev (CC (d+3)) (.v 0) ρ τ=.ok (.inst bw X.i) τ:=fun{τ}=>by subst hρ;rfl
 have a0:∀{τ:af},ev (CC (d+3)) (.v 1) ρ τ=.ok (.str x) τ:=fun{τ}=>by subst hρ;rfl
 have bN:∀{τ:af},ev (CC (d+3)) (.v 2) ρ τ=.ok (.int j) τ:=fun{τ}=>by subst hρ;rfl
 have iF:∀{τ:af},ev (CC (d+3)) (.v 3) ρ τ=.ok (.int i) τ:=fun{τ}=>by subst hρ;rfl
 have dE:ex (CC (d+3)) topN Ei ρ σ=.next ρ σ:=fM (fL ff b.ns rfl (c4 a0 rfl) (TK b L))
 have ed:ex (CC (d+3)) topN Ej ρ σ=.next ρ σ:=fM (fL ff b.ns rfl (c4 bN rfl) (wo b h0 a8))
 have CU:=hU (n := "givers") (v:=.ref X.g) (ff (τ:=σ)) b.ns rfl;have t2:=hU (n := "here") (v:=.ref X.h) (ff (τ:=σ)) b.ns rfl;have key:ev (CC (d+3)) (.tup #v[(.v 1),(.v 2)]) ρ σ=.ok (.tup [.str x,.int j]) σ:=j7 (vs:=[.str x,.int j]) (c4 a0 (c4 bN rfl)) (show(2:Nat)<=aI by decide)
 have cH:tst (CC (d+3)) (.and #v[(.cmp (.v 1) .isin (.attr bw (.v 0) "givers")),(.or #v[(.cmp (.sub (.sub (.sub (.attr bw (.v 0) "givers") (.v 1)) (aa 1)) (aa 0)) .ne (.k (.str "later"))),(.cmp (.v 2) .gt (aa 0))])]) ρ σ=.ok (jA p x j) σ:=by
  have cr:=b7 a0 CU (RK (k:=x) b.gv);rw[tY,Option.isSome_map]at cr;unfold jA
  cases hg:fz p x with
  | none =>
   rw[hg]at cr;exact jI (KN cr)
  | some s =>
   rw[hg]at cr;have hs:s∈p:=List.mem_of_find?_eq_some hg;refine az (AU (hp.steps s hs).rule) fun w oU sO=>?_;have fJ:ev (CC (d+3)) (.sub (.attr bw (.v 0) "givers") (.v 1)) ρ σ=.ok s.pv σ:=cM CU a0 (KI b.gv (by rw[tY,hg];rfl));have oa:ev (CC (d+3)) (.sub (.sub (.sub (.attr bw (.v 0) "givers") (.v 1)) (aa 1)) (aa 0)) ρ σ=.ok (.str w) σ:=cM (cM fJ (y:=.int 1) (au:=σ) rfl (v:=.ok s.rule.pv σ) rfl) (y:=.int 0) (au:=σ) rfl (oU σ);have Di:=b7 oa (y:=.str "later") (au:=σ) (b:=.k (.str "later")) rfl JG;rw[sO]at Di;exact jI (BU cr (k4 (h6 (rc Di fun J=>iZ (b7 bN (y:=.int 0) (au:=σ) rfl gt_int)))))
 rw[hb]at cH
 have lO:ex (CC (d+3)) topN Ek ρ σ=.next ρ σ:=(bx cH)
 have lP:tst (CC (d+3)) (.not (.call sR #v[(.v 3)])) ρ σ=.ok (!true) σ:=by
  have c:bv PP topN (d+3) sR [.int i] σ=.ok (.bool (decide (0<=i)&&decide (i<=999999))) σ:=Mine.h0;rw[dI hv.1,dI hv.2]at c;exact fU (h5 (eb iF c))
 have pr:ex (CC (d+3)) topN El ρ σ=.next ρ σ:=(bx lP)
 have nI:=b7 key t2 (v6 (x:=x) (j:=j) b.hr);rw[ha]at nI
 have qV:ex (CC (d+3)) topN Em ρ σ=.next ρ σ:=(bx nI)
 have nA:ex (CC (d+3)) topN En ρ σ=.next ρ (σ.set X.h (.dp (es++[((x,j),.int i)]))):=by
  show(ev (CC (d+3)) (.v 3) ρ σ).toS ρ (fun v σ=>(ev (CC (d+3)) (.attr bw (.v 0) "here") ρ σ).toS ρ fun o σ=>(ev (CC (d+3)) (.tup #v[(.v 1),(.v 2)]) ρ σ).toS ρ fun i σ=>hN o i v ρ σ)=_;rw[iF,fV,t2,fV,key,fV,q0 b.hr (by rw[eL];(exact aK (by assumption) (by decide))),t3 ha]
 exact(congrArg a9 ((ai dE).trans ((ai ed).trans ((ai lO).trans ((ai pr).trans ((ai qV).trans ((ai nA).trans bE))))))).trans rfl
end
theorem se{s:am}(hx:x∈s.gives):∀{p:List am},(p.flatMap (·.gives)).Nodup->s∈p->fz p x=some s:=by
 intro p
 induction p with
 | nil=>intro _ h;contradiction
 | cons a p ao =>
  intro hg hs;rw[i6,hQ]at hg;unfold fz;rw[jz];by_cases ha:x∈a.gives
  ·rw[dI ha]
   rcases cE.mp hs with rfl | hs
   ·rfl
   ·exact absurd rfl (hg.2.2 x ha x (List.mem_flatMap.mpr ⟨s,hs,hx⟩))
  ·rw[f0 ha]
   rcases cE.mp hs with rfl | hs
   ·exact absurd hx ha
   ·exact ao hg.2.1 hs
theorem Yi{g:List Str}{l:List H}(h:x∈(g.zip l).map (·.1)):x∈g:=by
 refine az (cL.mp h) fun e he ag=>?_;obtain rfl:=ag;exact(List.of_mem_zip he).1
section
variable {p:List am}{A B:bS}{l:List (am×Int)}{es:c6}{s:am}
theorem Hj{j:Int}(hp:dG p)(hs:s∈p)(h0:0<=t)(hb:jA p x j=false):aC (x,j) (hW n es s t)=aC (x,j) es:=by
 unfold hW
 split
 ·rfl
 ·refine tZ _ _ ?_;by_cases hx:x∈s.gives
  ·refine .inl fun q=>?_;unfold jA at hb;rw[se hx hp.gives hs]at hb;refine aW (Bool.or_eq_false_iff.mp hb) fun L O=>?_
   have L:f4 s.rule=true:=by cases hl:f4 s.rule <;> rw[hl]at L <;> first | rfl | contradiction
   have q:j=t+(if f4 s.rule=true then 1 else 0):=q;rw[aE L]at q;have:=of_decide_eq_false O
   (grind)
  ·exact .inr fun q=>hx (Yi q)
theorem gr.free{j:Int}(hp:dG p)(h:gr p n A B l)(hb:jA p x j=false):aC (x,j) B.es=aC (x,j) A.es:=by
 induction h with
 | nil=>rfl
 | snoc h hs h0 L hr ao=>exact(Hj hp hs h0 hb).trans ao
theorem sq{dF:Type}[DecidableEq dF]{k:dF}{es:List (dF×H)}:(aC k es).isSome=true ↔ k∈es.map (·.1):=by
 unfold aC;rw[Option.isSome_map,List.find?_isSome,cL];exact⟨fun⟨e,he,q⟩=>⟨e,he,ht q⟩,fun⟨e,he,q⟩=>⟨e,he,dI q⟩⟩
noncomputable def LL(p:List am)(B:bS):Prop:=∀(x:Str) (w:Int) (v:H),aC (x,w) B.es=some v->jA p x w=false\/∃s∈p,x∈s.gives/\∃t,ee s t=w/\(aC (s.name,t) B.gs).isSome=true
theorem Hk{k:Str×Int}:aC k (hW n es s t)=aC k es\/(k.2=ee s t/\k.1∈s.gives):=by
 unfold hW;by_cases h:ee s t=n
 ·rw[aE h];exact .inl rfl
 rw[a5 h];by_cases L:k.2=ee s t
 ·by_cases O:k.1∈s.gives
  ·exact .inr ⟨L,O⟩
  ·refine .inl (tZ _ _ (.inr fun q=>?_));refine az (cL.mp q) fun e he bp=>?_;exact O (bp▸(List.of_mem_zip he).1)
 ·exact .inl (tZ _ _ (.inl L))
structure nW(p:List am)(n:Nat)(B:bS):Prop where
 nodup:(B.gs.map (·.1)).Nodup
 inn:∀k:Str×Int,k∈B.gs.map (·.1)->∃s∈p,k.1=s.name/\0<=k.2/\k.2<(n:Int)
 os:B.os=B.gs.map fun e=>.tup [.str e.1.1,.int e.1.2]
 prv:LL p B
theorem gr.gk(h:gr p n A B l)(g:nW p n A):nW p n B:=by
 induction h with
 | nil=>exact g
 | @snoc B l s t h hs h0 L hr ao =>
  have hg:=(bS.rdy_of hr).1
  have TX:(s.name,t)∉B.gs.map (·.1):=fun q=>by
   have:=sq.mpr q;rw[hg]at this;contradiction
  refine⟨?_,fun k hk=>?_,?_
   ,fun x w v hv=>?_
   ⟩
  ·show((B.gs++[((s.name,t),H.bool true)]).map (·.1)).Nodup;rw[eX,hQ];refine⟨ao.nodup,hS.mpr ⟨ew,List.nodup_nil⟩,fun a ha b hb q=>?_⟩;rw[df.mp hb]at q;have q:a=(s.name,t):=q;rw[q]at ha;exact TX ha
  ·have hk:k∈(B.gs++[((s.name,t),H.bool true)]).map (·.1):=hk;rw[eX]at hk
   rcases dH.mp hk with hk | hk
   ·exact ao.inn k hk
   ·rw[df.mp hk];exact⟨s,hs,rfl,h0,L⟩
  ·show B.os++[_]=(B.gs++[((s.name,t),H.bool true)]).map _;rw[eX,ao.os];rfl
  ·have gs:∀k,aC k (B.fire n s t).gs=if k=(s.name,t)then some (.bool true)else aC k B.gs:=fun k=>n6 hg
   rcases Hk (n:=n) (es:=B.es) (s:=s) (t:=t) (k:=(x,w))with e | e
   ·refine(ao.prv x w v (e▸hv)).imp id fun⟨s',L,O,bt,ax,aT⟩=>⟨s',L,O,bt,ax,?_⟩;rw[gs]
    split
    ·rfl
    ·exact aT
   ·exact .inr ⟨s,hs,e.2,t,e.1.symm,by rw[gs,aE rfl];rfl⟩
theorem gr.count(h:gr p n A B l):B.gs.length=A.gs.length+l.length:=by
 induction h with
 | nil=>rfl
 | @snoc B l s t h hs h0 L hr ao =>
  show(B.gs++[((s.name,t),H.bool true)]).length=_;rw[cN,cN,ao];rfl
end
theorem ZN:((0:Nat):Int)<=0:=Int.le_refl 0
theorem JK{α:Type}[DecidableEq α]:∀(l k:List α),l.Nodup->(∀x∈l,x∈k)->l.length<=k.length:=by
 intro l
 induction l with
 | nil=>intro k _ _;exact gN _
 | cons a l ao =>
  intro k hn hk;rw[hS]at hn;have ha:=hk a bu;have:=ao (k.erase a) hn.2 fun x hx=>(List.mem_erase_of_ne (fun e:x=a=>hn.1 (e▸hx))).mpr (hk x (bQ _ hx));rw[List.length_erase_of_mem ha]at this;have:=List.length_pos_of_mem ha;rw[dj];(grind)
theorem nW.len{p:List am}{B:bS}(g:nW p n B):B.gs.length<=p.length*n:=by
 have:=JK _ ((p.map (·.name)).flatMap fun x=>(List.range n).map fun(t:Nat)=>(x,(t:Int))) g.nodup fun k hk=>by
  refine op (g.inn k hk) fun s hs L O ax=>?_;obtain⟨x,t⟩:=k;refine aM (iO O) fun t ag=>?_;obtain rfl:=ag;rw[List.mem_flatMap];refine⟨x,cL.mpr ⟨s,hs,Eq.symm L⟩,cL.mpr ⟨t,List.mem_range.mpr (by have:(t:Int)<n:=ax;(exact d3.mp (by assumption))),rfl⟩⟩
 rw[bh,List.length_flatMap]at this
 have c:∀l:List Str,(l.map fun x=>((List.range n).map fun(t:Nat)=>(x,(t:Int))).length).sum=l.length*n:=by
  intro l
  induction l with
  | nil=>simp
  | cons a l ao=>rw[dw,List.sum_cons,ao,bh,List.length_range,dj,Nat.succ_mul,Nat.add_comm]
 rw[c,bh]at this;exact this
theorem Hc{p:List am}{j:Int}(h:∀s∈p,x∈s.gives->f4 s.rule=true/\j<=0):jA p x j=false:=by
 unfold jA
 cases hg:fz p x with
 | none=>rfl
 | some s =>
  have hs:=List.mem_of_find?_eq_some hg;have hx:x∈s.gives:=ht (List.find?_some (p:=fun s:am=>decide (x∈s.gives)) hg);refine aW (h s hs hx) fun L O=>?_;show(!f4 s.rule||decide (j > 0))=false;rw[L,f0 (by grind)];rfl
noncomputable def bS.put(B:bS)(x:Str)(j i:Int):bS:=⟨B.es++[((x,j),.int i)],B.gs,B.os⟩
section
variable {es:c6}{s:am}
theorem tm{r:c7}{k g:Nat}(h:fG r k g):cX .eq r.pv (.tup [.str "later"]) σ=.ok (f4 r) σ/\cX .eq r.pv (.tup [.str "choose"]) σ=.ok (j4 r) σ:=by
 have:∀w v:Str,cX .eq (.tup [.str w]) (.tup [.str v]) σ=.ok (w == v) σ:=fun w v=>by
  show ah.ofOpt (some ((w == v)&&true)) σ=_;rw[Bool.and_true];rfl
 cases h <;> first | exact⟨this _ _,this _ _⟩ | exact⟨rfl,rfl⟩
noncomputable def mx(es:c6)(s:am)(t:Int):List Str:=
 if j4 s.rule=true then(match s.needs with
  | [a,b,c]=>(match aC (a,t) es with
   | none=>[a,b,c]
   | some v=>if jL v=true then[b]else[c])
  | l=>l)
 else s.needs
theorem TJ(hs:gK s):((mx es s t).find? fun x=>(aC (x,t) es).isNone)=dT es s t:=by
 refine bL (wE hs.rule) fun J J J ax=>?_;unfold mx dT j2
 cases hc:j4 s.rule with
 | false=>rfl
 | true =>
  have ax:=ax hc;rw[aE rfl,aE rfl];obtain⟨nm,rl,ns,gv⟩:=s;refine rV (qz (show ns.length=3 from ax)) fun a b c ag=>?_;obtain rfl:=ag;dsimp only
  cases ha:aC (a,t) es with
  | none =>
   dsimp only;rw[jz,jz (a:=a) (as:=[]),ha];rfl
  | some v=>rfl
theorem TN(hs:gK s)(h:σ[tk]?=some (.dp es))(hv:gc es):bv PP topN (d+1) sT [s.pv,.ref tk,.int t] σ=.ok (.fl ((mx es s t).map .str)) σ:=by
 rw[cs (fn:=yY) rfl rfl]
 have dE:ex (CC d) topN Fn [some s.pv,aH tk,ae t,none,none,none] σ=.next [some s.pv,aH tk,ae t,some (.fl (s.needs.map .str)),none,none] σ:=
  bH (c0 (x:=.tup (s.needs.map .str)) (ac:=σ) rfl (SE (by rw[bh];exact aK hs.needs4 (by decide))))
 have b9:tst (CC d) (.cmp (.sub (.v 0) (aa 1)) .eq (.tup #v[(.k (.str "choose"))])) [some s.pv,aH tk,ae t,some (.fl (s.needs.map .str)),none,none] σ=.ok (j4 s.rule) σ:=
  b7 (x:=s.rule.pv) (y:=.tup [.str "choose"]) (ac:=σ) (au:=σ) rfl rfl (tm hs.rule).2
 have fin:∀{l:List Str},ex (CC d) topN Fo [some s.pv,aH tk,ae t,some (.fl (s.needs.map .str)),none,none] σ=.next [some s.pv,aH tk,ae t,some (.fl (l.map .str)),none,none] σ->a9 (ex (CC d) topN yY.body [some s.pv,aH tk,ae t,none,none,none] σ)=.ok (.fl (l.map .str)) σ:=fun{l} h =>
  (congrArg a9 ((ai dE).trans ((ai h).trans rfl))).trans rfl
 unfold mx;refine bL (wE hs.rule) fun J J J ax=>?_
 cases hc:j4 s.rule with
 | false =>
  rw[hc]at b9;rw[a5 (by decide)];exact fin (bx (jI (KN b9)))
 | true =>
  rw[hc]at b9;have ax:=ax hc;rw[aE rfl];obtain⟨nm,rl,ns,gv⟩:=s;refine rV (qz (show ns.length=3 from ax)) fun a b c ag=>?_;obtain rfl:=ag;dsimp only;have key:ev (CC d) (.tup #v[(.sub (.v 3) (aa 0)),(.v 2)]) [some (am.pv ⟨nm,rl,[a,b,c],gv⟩),aH tk,ae t,some (.fl [.str a,.str b,.str c]),none,none] σ=.ok (.tup [.str a,.int t]) σ:=rfl;have cH:=b7 key (b:=.v 1) (y:=.ref tk) (au:=σ) rfl (v6 h)
  cases ha:aC (a,t) es with
  | none =>
   rw[ha]at cH;exact fin (l:=[a,b,c]) (bx (jI (BU b9 (k4 cH))))
  | some v =>
   rw[ha]at cH;refine az (hv _ _ ha) fun i ag J=>?_;obtain rfl:=ag;dsimp only
   have V:ev (CC d) (.b1 .int (.cmp (.sub (.v 1) (.tup #v[(.sub (.v 3) (aa 0)),(.v 2)])) .ne (aa 0))) [some (am.pv ⟨nm,rl,[a,b,c],gv⟩),aH tk,ae t,some (.fl [.str a,.str b,.str c]),none,none] σ=.ok (.int (if(!(i == 0))=true then 1 else 0)) σ:=
    c0 (fm (cM (x:=.ref tk) (ac:=σ) rfl key (KH h ha)) (y:=.int 0) (au:=σ) rfl Bb) int_bool
   have ak:ev (CC d) (.sub (.v 3) (.bin .add (aa 1) (.b1 .int (.cmp (.sub (.v 1) (.tup #v[(.sub (.v 3) (aa 0)),(.v 2)])) .ne (aa 0))))) [some (am.pv ⟨nm,rl,[a,b,c],gv⟩),aH tk,ae t,some (.fl [.str a,.str b,.str c]),none,none] σ=.ok (.str (if jL (.int i)=true then b else c)) σ:=by
    refine cM (x:=.fl [.str a,.str b,.str c]) (ac:=σ) rfl (cp (x:=.int 1) (ac:=σ) rfl V add_int) ?_;show _=ah.ok (H.str (if(i == 0)=true then b else c)) σ;cases(i == 0) <;> rfl
   have bK:=(cj (n:=topN) (a:=.cons yZ .nil) (b:=.nil) (jI (BU b9 (k4 cH)))).trans ((ai (a:=yZ) (bH (NH (c4 ak hV) (show(1:Nat)<=aI by decide)))).trans bE)
   cases bp:jL (.int i)with
   | true=>rw[bp]at bK;exact fin (l:=[b]) bK
   | false=>rw[bp]at bK;exact fin (l:=[c]) bK
theorem wk(hs:gK s)(h:σ[tk]?=some (.dp es))(hv:gc es):bv PP topN (d+2) qs [s.pv,.ref tk,.int t] σ=.ok (pd (dT es s t)) σ:=by
 rw[cs (fn:=Ff) rfl rfl,<- TJ hs]
 have gE:(mx es s t).length<=4:=by
  unfold mx
  split
  ·split
   ·split
    ·exact Nat.le_of_ble_eq_true rfl
    ·split <;> exact Nat.le_of_ble_eq_true rfl
   ·exact hs.needs4
  ·exact hs.needs4
 have it:evIt (CC (d+1)) (.call sT #v[(.v 0),(.v 1),(.v 2)]) [some s.pv,aH tk,ae t,none,none] σ=.ok ((mx es s t).map .str,none) σ:=by
  show(ev (CC (d+1)) (.call sT #v[(.v 0),(.v 1),(.v 2)]) [some s.pv,aH tk,ae t,none,none] σ).bind eD=_;rw[show ev (CC (d+1)) (.call sT #v[(.v 0),(.v 1),(.v 2)]) [some s.pv,aH tk,ae t,none,none] σ=.ok (.fl ((mx es s t).map .str)) σ from m3 (x:=s.pv) (y:=.ref tk) (z:=.int t) (ac:=σ) (au:=σ) (gq:=σ) rfl rfl rfl (TN hs h hv)];rfl
 generalize mx es s t=ns at gE it
 have io:ev (CC (d+1)) Fg [some s.pv,aH tk,ae t,none,none] σ=.ok (.fl ((ns.filter fun x=>(aC (x,t) es).isNone).map .str)) σ:=by
  refine(xQ (fun y=>match y with | .str x=>if(aC (x,t) es).isNone=true then aS x else none | _=>none) it (by rw[bh];exact aK gE (by decide)) (fun y hy=>?_) (fun y hy v hv=>?_)).trans ?_
  ·refine az (cL.mp hy) fun x hx ag=>?_;obtain rfl:=ag;refine(b7 (x:=.tup [.str x,.int t]) (y:=.ref tk) (ac:=σ) (au:=σ) rfl rfl (Bf h)).trans ?_;dsimp only;cases(aC (x,t) es).isNone <;> rfl
  ·refine az (cL.mp hy) fun x hx ag=>?_;obtain rfl:=ag;dsimp only at hv
   split at hv
   ·obtain rfl:=oi hv;rfl
   ·contradiction
  ·refine congrArg (fun l=>ah.ok (H.fl l) σ) ?_;rw[List.filterMap_map,<- List.filterMap_eq_filter,List.map_filterMap];refine congrArg (fun f=>ns.filterMap f) (funext fun x=>?_);show(if(aC (x,t) es).isNone=true then some (H.str x)else none)=_;unfold Option.guard
   split <;> rfl
 have V:ev (CC (d+1)) (.sub (.bin .add (.v 3) (.lst true #v[(.k .none)])) (aa 0)) [some s.pv,aH tk,ae t,some (.fl ((ns.filter fun x=>(aC (x,t) es).isNone).map .str)),none] σ=.ok (pd (ns.find? fun x=>(aC (x,t) es).isNone)) σ:=by
  rw[<- List.head?_filter];have fl:=List.length_filter_le (fun x=>(aC (x,t) es).isNone) ns;generalize ns.filter (fun x=>(aC (x,t) es).isNone)=fs at fl;refine cM (cp (x:=.fl (fs.map .str)) (ac:=σ) rfl (y:=.fl [.none]) (au:=σ) rfl (CQ (by rw[bh,eL];show _+1<=_;(grind)))) (y:=.int ((0:Nat):Int)) (au:=σ) rfl (rb (by rw[cN,bh];show _+1<=_;(grind)) ?_);cases fs <;> rfl
 exact(congrArg a9 ((ai (a:=Fh) (bH io)).trans (be (a:=Fi) (cT V)))).trans rfl
end
theorem Ks{x:Int}:(e2 (x::l))[0]?=some (lG (x::l))/\(e2 (x::l))[l.length]?=some (lH (x::l)):=by
 have pm:(e2 (x::l)).Perm (x::l):=List.mergeSort_perm _ _
 have UV:(e2 (x::l)).Pairwise fun a b=>a<=b:=by
  refine(List.pairwise_mergeSort (le:=fun a b=>decide (a<=b)) (fun a b c L O=>?_) (fun a b=>?_) (x::l)).imp fun h=>ht h
  ·exact dI (Int.le_trans (ht L) (ht O))
  ·rw[Bool.or_eq_true,i5,i5];exact Int.le_total a b
 have least:∀(l:List Int) (a:Int),(l.foldl min a=a\/l.foldl min a∈l)/\l.foldl min a<=a/\∀y∈l,l.foldl min a<=y:=by
  intro l
  induction l with
  | nil=>intro a;exact⟨.inl rfl,Int.le_refl _,fun y hy=>nomatch hy⟩
  | cons b l ao =>
   intro a;refine d4 (ao (min a b)) fun L O ax=>?_;rw[i7];refine⟨?_,Int.le_trans O (Int.min_le_left _ _),fun y hy=>?_⟩
   ·rcases L with L | L
    ·rw[L]
     rcases Jo a b with q | q
     ·exact .inl q
     ·rw[q];exact .inr bu
    ·exact .inr (bQ _ L)
   ·rcases cE.mp hy with rfl | hy
    ·exact Int.le_trans O (Int.min_le_right _ _)
    ·exact ax y hy
 have most:∀(l:List Int) (a:Int),(l.foldl max a=a\/l.foldl max a∈l)/\a<=l.foldl max a/\∀y∈l,y<=l.foldl max a:=by
  intro l
  induction l with
  | nil=>intro a;exact⟨.inl rfl,Int.le_refl _,fun y hy=>nomatch hy⟩
  | cons b l ao =>
   intro a;refine d4 (ao (max a b)) fun L O ax=>?_;rw[i7];refine⟨?_,Int.le_trans (Int.le_max_left _ _) O,fun y hy=>?_⟩
   ·rcases L with L | L
    ·rw[L]
     rcases Jj a b with q | q
     ·exact .inl q
     ·rw[q];exact .inr bu
    ·exact .inr (bQ _ L)
   ·rcases cE.mp hy with rfl | hy
    ·exact Int.le_trans (Int.le_max_right _ _) O
    ·exact ax y hy
 refine d4 (least l x) fun aD aU bn=>?_;refine d4 (most l x) fun b1 dR rK=>?_;have len:(e2 (x::l)).length=l.length+1:=pm.length_eq
 have h0:0<(e2 (x::l)).length:=by rw[len];exact Nat.succ_pos _
 have L:l.length<(e2 (x::l)).length:=by rw[len];exact Nat.lt_succ_self _
 rw[dA h0,dA L]
 have at_:∀y,y∈x::l->∃i,∃h:i<(e2 (x::l)).length,(e2 (x::l))[i]=y:=fun y hy=>List.getElem_of_mem (pm.mem_iff.mpr hy)
 have le:∀(i j:Nat) (hi:i<(e2 (x::l)).length) (a8:j<(e2 (x::l)).length),i<=j->(e2 (x::l))[i]<=(e2 (x::l))[j]:=fun i j hi a8 h=>by
  rcases Nat.lt_or_eq_of_le h with h | rfl
  ·exact List.pairwise_iff_getElem.mp UV i j hi a8 h
  ·exact Int.le_refl _
 have IF:∀(i:Nat) (hi:i<(e2 (x::l)).length),(e2 (x::l))[i]∈x::l:=fun i hi=>pm.mem_iff.mp (List.getElem_mem hi);constructor
 ·refine congrArg some (Int.le_antisymm ?_ ?_)
  ·obtain⟨i,hi,e⟩:=at_ (lG (x::l)) (cE.mpr aD)
   exact e▸le 0 i h0 hi (gN _)
  ·rcases cE.mp (IF 0 h0)with q | q
   ·exact q.symm▸aU
   ·exact bn _ q
 ·refine congrArg some (Int.le_antisymm ?_ ?_)
  ·rcases cE.mp (IF l.length L)with q | q
   ·exact q.symm▸dR
   ·exact rK _ q
  ·obtain⟨i,hi,e⟩:=at_ (lH (x::l)) (cE.mpr b1)
   exact e▸le i l.length hi L (by grind)
theorem Kt(hl:l.length<64):dx .sorted (.fl (l.map .int)) σ=.ok (.fl ((e2 l).map .int)) σ:=by
 show gh qX (fun l=>ah.ok (H.fl l) σ) (.fl (l.map .int)) σ=_;refine s6 ?_;show qX (l.map .int)=_;unfold qX;rw[xC];exact aE hl
theorem WG{mn:H}{z:Option H}:∀(l:List Int) (a:Int) (y:Option H),(0<=a/\a<=999999)->(∀x∈l,0<=x/\x<=999999)->∃b6,ch none (dm 4) (fun ρ σ=>ex (CC d) topN E6 ρ σ) (l.map .int) [z,some pl,some mn,ae a,y,none,none,none,none] σ=.next [z,some pl,some mn,ae (l.foldl (fun a x=>a*x%1000000) a),b6,none,none,none,none] σ:=by
 intro l
 induction l with
 | nil=>intro a y _ _;exact⟨y,eS⟩
 | cons x l ao =>
  intro a y ha hl;have hb:0<=a*x%1000000/\a*x%1000000<=999999:=⟨ey _ (by decide),Int.le_of_lt_add_one (e7 _ (by decide))⟩;refine aM (ao (a*x%1000000) (ae x) hb fun y hy=>hl y (bQ _ hy)) fun b6 e=>?_;refine⟨b6,(ek (b4:=[z,some pl,some mn,ae a,ae x,none,none,none,none]) (fw:=[z,some pl,some mn,ae (a*x%1000000),ae x,none,none,none,none]) (au:=σ) rfl ?_).trans e⟩;refine(ai (a:=E7) (bH (cp (cp (x:=.int a) (ac:=σ) rfl (y:=.int x) (au:=σ) rfl (mul_int (.inl ?_))) (y:=.int 1000000) (au:=σ) rfl (gd (by decide))))).trans bE
  (grind)
theorem oD{pq:H}{vs:List H}{v:H}{k:Nat}{y:Option H}(hk:k<=100):a9 (ex (CC d) topN #v[yS] [some pq,some (.fl vs),ae (k:Nat),some v,y,none,none,none,none] σ)=.ok (.fl (List.replicate k v)) σ:=by
 have pn:evIt (CC d) (.range1 (.v 2)) [some pq,some (.fl vs),ae (k:Nat),some v,y,none,none,none,none] σ=.ok (cZ 0 1 k,none) σ:=by
  show(if 0<=(k:Int)/\(k:Int)<=aI then ah.ok (cZ 0 1 (k:Int).toNat,none) σ else .stuck)=_;rw[aE ⟨d8 k,by rw[eL];(exact Int.ofNat_le.mpr (aK (by assumption) (by decide)))⟩];rfl
 have c:ev (CC d) E0 [some pq,some (.fl vs),ae (k:Nat),some v,y,none,none,none,none] σ=.ok (.fl ((cZ 0 1 k).map fun J=>v)) σ:=
  m0 (fun J=>v) pn (by rw[eL];simp[cZ];exact aK hk (by decide)) fun x J=>rfl
 rw[List.map_const',show(cZ 0 1 k).length=k by simp[cZ]]at c;exact(congrArg a9 (be (a:=yS) (cT c))).trans rfl
theorem Sf{r:c7}{vs:List H}{k:Nat}(h:fG r vs.length k)(hl:vs.length<=10)(L:1<=vs.length)(hk:k<=100)(he:nS r vs):bv PP topN (d+1) It [r.pv,.fl vs,.int (k:Nat)] σ=.ok (.fl (h1 r vs k)) σ:=by
 rw[cs (fn:=EZ) rfl rfl];have we:vs.length<=100:=aK hl (by decide)
 have hx:vs[0]?=some (vs.getD 0 .none):=by rw[li,dA (show 0<vs.length from L)];rfl
 have skip:∀{a:S} {b:List S} {ρ:aB} {c:X} {t:S},a=.ife c t .nil->tst (CC d) c ρ σ=.ok false σ->ex (CC d) topN a ρ σ=.next ρ σ:=fun{a b ρ c t} e h=>by exact e.symm▸((bx h))
 have ed:∀{pq:H},ex (CC d) topN E3 [some pq,some (.fl vs),ae (k:Nat),none,none,none,none,none,none] σ=.next [some pq,some (.fl vs),ae (k:Nat),some (vs.getD 0 .none),none,none,none,none,none] σ:=fun{pq} =>
  bH (cM (x:=.fl vs) (ac:=σ) rfl (y:=.int ((0:Nat):Int)) (au:=σ) rfl (rb we hx))
 generalize hm:vs.length=m at h
 cases h with
 | sum _ _ =>
  refine az (lR (show ∀v∈vs,dU v from he)) fun l ag hv=>?_;obtain rfl:=ag
  have e:ev (CC d) (.bin .mod (.b1 .sum (.v 1)) (.bin .pow (aa 10) (aa 6))) [some (c7.pv (.word "sum")),some (.fl (l.map .int)),ae (k:Nat),some ((l.map H.int).getD 0 .none),none,none,none,none,none] σ=.ok (.int (l.sum%1000000)) σ:=
   cp (c0 (x:=.fl (l.map .int)) (ac:=σ) rfl (KL (by rw[bh]at hl;exact aK hl (by decide)) hv)) (y:=.int 1000000) (au:=σ) rfl (gd (by decide))
  refine(congrArg a9 (rfl.trans ((ai ed).trans ((ai (a:=oy) (rfl.trans ((ai (a:=E4) (bH e)).trans bE))).trans
   ((ai (a:=oz) rfl).trans ((ai (a:=oA) rfl).trans (rfl.trans rfl))))))).trans ((oD hk).trans ?_)
  show ah.ok (H.fl (List.replicate k (.int (l.sum%1000000)))) σ=ah.ok (.fl (List.replicate k (.int ((iz (l.map .int)).sum%1000000)))) σ;rw[lC]
 | times _ _ =>
  refine az (lR (show ∀v∈vs,dU v from he)) fun l ag hv=>?_;obtain rfl:=ag;obtain⟨y,e⟩:=WG (d:=d) (σ:=σ) (pl:=.fl (l.map .int)) (mn:=.int (k:Nat)) (z:=some (c7.pv (.word "times"))) l 1 none (by decide) hv
  refine(congrArg a9 (rfl.trans ((ai ed).trans ((ai (a:=oy) rfl).trans
   ((ai (a:=oz) (rfl.trans (rfl.trans ((ai (a:=E5) (eY (ys:=l.map .int) (ac:=σ) rfl e)).trans bE)))).trans ((ai (a:=oA) rfl).trans (rfl.trans rfl))))))).trans ((oD hk).trans ?_)
  show ah.ok (H.fl (List.replicate k (.int (qR l)))) σ=ah.ok (.fl (List.replicate k (.int (qR (iz (l.map .int)))))) σ;rw[lC]
 | least _ _ =>
  refine az (lR (show ∀v∈vs,dU v from he)) fun l ag hv=>?_;obtain rfl:=ag
  cases l with
  | nil=>exact absurd L (by decide)
  | cons x l =>
  have d6:=Ks (x:=x) (l:=l)
  have cQ:((e2 (x::l)).map H.int).length<=100:=by rw[bh,show(e2 (x::l)).length=(x::l).length from(List.mergeSort_perm _ _).length_eq,<- bh (f:=H.int)];exact we
  have e:ev (CC d) (.sub (.b1 .sorted (.v 1)) (.sub (.lst true #v[(aa 0),(.neg (aa 1))]) (.b1 .int (.cmp (.sub (.v 0) (aa 0)) .eq (.k (.str "most")))))) [some (c7.pv (.word "least")),some (.fl ((x::l).map .int)),ae (k:Nat),some (((x::l).map H.int).getD 0 .none),none,none,none,none,none] σ=.ok (.int (lG (x::l))) σ:=
   cM (c0 (x:=.fl ((x::l).map .int)) (ac:=σ) rfl (Kt (by rw[bh]at hl;(exact fY (by assumption) (by decide))))) (y:=.int ((0:Nat):Int)) (au:=σ) rfl (rb cQ (by rw[fg,d6.1];rfl))
  refine(congrArg a9 (rfl.trans ((ai ed).trans ((ai (a:=oy) rfl).trans
   ((ai (a:=oz) rfl).trans ((ai (a:=oA) (rfl.trans ((ai (a:=yR) (bH e)).trans bE))).trans (rfl.trans rfl))))))).trans ((oD hk).trans ?_)
  show ah.ok (H.fl (List.replicate k (.int (lG (x::l))))) σ=ah.ok (.fl (List.replicate k (.int (lG (iz ((x::l).map .int)))))) σ;rw[lC]
 | most _ _ =>
  refine az (lR (show ∀v∈vs,dU v from he)) fun l ag hv=>?_;obtain rfl:=ag
  cases l with
  | nil=>exact absurd L (by decide)
  | cons x l =>
  have d6:=Ks (x:=x) (l:=l)
  have cQ:((e2 (x::l)).map H.int).length=l.length+1:=by rw[bh];exact(List.mergeSort_perm _ _).length_eq
  have Zo:l.length+1<=100:=by rw[bh]at we;exact we
  have e:ev (CC d) (.sub (.b1 .sorted (.v 1)) (.sub (.lst true #v[(aa 0),(.neg (aa 1))]) (.b1 .int (.cmp (.sub (.v 0) (aa 0)) .eq (.k (.str "most")))))) [some (c7.pv (.word "most")),some (.fl ((x::l).map .int)),ae (k:Nat),some (((x::l).map H.int).getD 0 .none),none,none,none,none,none] σ=.ok (.int (lH (x::l))) σ:=by
   refine cM (c0 (x:=.fl ((x::l).map .int)) (ac:=σ) rfl (Kt (by rw[bh]at hl;(grind)))) (y:=.int (-1)) (au:=σ) rfl ?_
   show(match cx σ (.fl ((e2 (x::l)).map H.int))with
    | some xs=>lD xs (-1) σ
    | none=>.stuck)=_
   show(if((e2 (x::l)).map H.int).length<=aI then ah.ofOpt ((fD (-1) ((e2 (x::l)).map H.int).length).bind (((e2 (x::l)).map H.int)[·]?)) σ else .stuck)=_;rw[aE (by rw[cQ,eL];(exact aK (by assumption) (by decide))),cQ,show fD (-1) (l.length+1)=some l.length by unfold fD;rw[a5 (by decide)];simp;(grind)];show ah.ofOpt (((e2 (x::l)).map H.int)[l.length]?) σ=_;rw[fg,d6.2];rfl
  refine(congrArg a9 (rfl.trans ((ai ed).trans ((ai (a:=oy) rfl).trans
   ((ai (a:=oz) rfl).trans ((ai (a:=oA) (rfl.trans ((ai (a:=yR) (bH e)).trans bE))).trans (rfl.trans rfl))))))).trans ((oD hk).trans ?_)
  show ah.ok (H.fl (List.replicate k (.int (lH (x::l))))) σ=ah.ok (.fl (List.replicate k (.int (lH (iz ((x::l).map .int)))))) σ;rw[lC]
 | later _ =>
  exact(congrArg a9 (rfl.trans ((ai ed).trans ((ai (a:=oy) rfl).trans
   ((ai (a:=oz) rfl).trans ((ai (a:=oA) rfl).trans (rfl.trans rfl))))))).trans (oD hk)
 | way =>
  refine jb (AV hm) fun a b ag=>?_;obtain rfl:=ag;obtain⟨j,rfl,_⟩:=(show ∀v∈[a,b],dU v from he) b ((bQ _ bu))
  have e:ev (CC d) (.sub (.lst true #v[(.lst true #v[(.sub (.v 1) (aa 0)),(.k .none)]),(.lst true #v[(.k .none),(.sub (.v 1) (aa 0))])]) (.b1 .int (.cmp (.sub (.v 1) (aa 1)) .ne (aa 0)))) [some (c7.pv (.word "way")),some (.fl [a,.int j]),ae ((2:Nat):Int),none,none,none,none,none,none] σ=.ok (.fl (if jL (.int j)=true then[a,.none]else[.none,a])) σ:=by
   refine cM (x:=.fl [.fl [a,.none],.fl [.none,a]]) (ac:=σ) rfl (c0 (fm (x:=.int j) (y:=.int 0) (ac:=σ) (au:=σ) rfl rfl Bb) int_bool) ?_;show _=ah.ok (H.fl (if(j == 0)=true then[a,.none]else[.none,a])) σ;cases(j == 0) <;> rfl
  exact(congrArg a9 (be (a:=E1) (rfl.trans (be (a:=E2) (cT e))))).trans rfl
 | choose _ =>
  refine az ((show dU (vs.getD 0 .none)from And.left he)) fun i hi J=>?_;refine rV (qz hm) fun a b c ag=>?_;obtain rfl:=ag;obtain rfl:a=.int i:=hi
  have e:ev (CC d) (.sub (.v 1) (.bin .add (aa 1) (.b1 .int (.cmp (.sub (.v 1) (aa 0)) .ne (aa 0))))) [some (c7.pv (.word "choose")),some (.fl [.int i,b,c]),ae (k:Nat),ae i,none,none,none,none,none] σ=.ok (if jL (.int i)=true then b else c) σ:=by
   refine cM (x:=.fl [.int i,b,c]) (ac:=σ) rfl (cp (x:=.int 1) (ac:=σ) rfl (c0 (fm (x:=.int i) (y:=.int 0) (ac:=σ) (au:=σ) rfl rfl Bb) int_bool) add_int) ?_;show _=ah.ok (if(i == 0)=true then b else c) σ;cases(i == 0) <;> rfl
  exact(congrArg a9 (rfl.trans (rfl.trans (rfl.trans
   (rfl.trans (rfl.trans (rfl.trans (ai (a:=E8) (rfl.trans ((ai (a:=E9) (bH e)).trans bE)))))))))).trans (oD hk)
 | fixed v _ _ _ _ =>
  exact(congrArg a9 (rfl.trans ((ai ed).trans ((ai (a:=oy) rfl).trans
   ((ai (a:=oz) rfl).trans ((ai (a:=oA) rfl).trans (rfl.trans rfl))))))).trans (oD hk)
section
variable {es:c6}{s:am}
noncomputable def gw(sp:H)(tk:Nat)(t:Int)(n:Nat)(vs:List H)(w:Int)(us:List H)(z:Option H):aB:=[some sp,aH tk,ae t,ae (n:Nat),some (.fl vs),ae w,some (.fl us),z,none,none,none,none]
theorem OH{w:Int}{vs us:List H}(hu:us.length=s.gives.length)(hg:s.gives.length<=3)(hw:w<n)(hk:tk<σ.length):∀(k a:Nat) (es:c6) (z:Option H),a+k=s.gives.length->es.length+3<900000+a ->
  ∃bA,ch none (dm 7) (fun ρ σ=>ex (CC d) topN u6 ρ σ) ((List.range' a k).map fun(i:Nat)=>H.int (0+(i:Int)*1)) (gw s.pv tk t n vs w us z) (σ.set tk (.dp es))=.next (gw s.pv tk t n vs w us bA) (σ.set tk (.dp (((s.gives.zip us).drop a).foldl (hL w) es))):=by
 intro k
 induction k with
 | zero =>
  intro a es z ha _;refine⟨z,eS.trans ?_⟩;rw[List.drop_eq_nil_of_le (by rw[List.length_zip,hu,Nat.min_self];(grind))];rfl
 | succ k ao =>
  intro a es z ha hl
  have pX:a<s.gives.length:=by grind
  have xG:a<us.length:=by grind
  have hd:(s.gives.zip us).drop a=(s.gives[a],us[a])::(s.gives.zip us).drop (a+1):=by
   rw[List.drop_eq_getElem_cons (by rw[List.length_zip,hu,Nat.min_self];exact pX),List.getElem_zip]
  have aR:(σ.set tk (.dp es))[tk]?=some (.dp es):=List.getElem?_set_self hk;have V:∀{τ:af},ev (CC d) (.sub (.v 6) (.v 7)) (gw s.pv tk t n vs w us (ae (a:Int))) τ=.ok us[a] τ:=fun{τ}=>cM (x:=.fl us) (y:=.int (a:Int)) (ac:=τ) (au:=τ) rfl rfl (rb (by grind) (dA xG))
  have t1:tst (CC d) (.and #v[(.cmp (.sub (.v 6) (.v 7)) .isNot (.k .none)),(.cmp (.v 5) .lt (.v 3))]) (gw s.pv tk t n vs w us (ae (a:Int))) (σ.set tk (.dp es))=.ok (!iA us[a]) (σ.set tk (.dp es)):=by
   refine jI ((nJ (b7 V (y:=.none) (au:=σ.set tk (.dp es)) rfl (v:=.ok (!iA us[a]) (σ.set tk (.dp es))) rfl) fun J=>k4 (b7 (x:=.int w) (y:=.int (n:Nat)) (ac:=σ.set tk (.dp es)) (au:=σ.set tk (.dp es)) rfl rfl lt_int)).trans ?_);rw[dI hw,Bool.and_true]
  have hb:dm 7 (H.int (0+(a:Int)*1)) (gw s.pv tk t n vs w us z)=some (gw s.pv tk t n vs w us (ae (a:Int))):=by
   rw[show(0:Int)+(a:Int)*1=a by grind];rfl
  obtain⟨bA,e⟩:=ao (a+1) (hL w es (s.gives[a],us[a])) (ae (a:Int)) (((Nat.succ_add_eq_add_succ _ _).trans (by assumption))) (by have:=Bw (w:=w) (es:=es) (e:=(s.gives[a],us[a]));(grind));refine⟨bA,?_⟩;rw[j1,dw,hd,i7];refine(ek hb ((ai (a:=yP) ?_).trans bE)).trans e;unfold hL
  cases hv:iA us[a]with
  | true =>
   rw[hv]at t1;rw[aE rfl];exact(bx t1)
  | false =>
   rw[hv]at t1;rw[a5 (by decide)];refine(cj t1).trans ((ai (a:=EX) ?_).trans bE)
   have ak:ev (CC d) (.tup #v[(.sub (.sub (.v 0) (aa 3)) (.v 7)),(.v 5)]) (gw s.pv tk t n vs w us (ae (a:Int))) (σ.set tk (.dp es))=.ok (.tup [.str s.gives[a],.int w]) (σ.set tk (.dp es)):=
    j7 (vs:=[.str s.gives[a],.int w]) (c4 (cM (x:=.tup (s.gives.map .str)) (y:=.int (a:Int)) (ac:=σ.set tk (.dp es)) (au:=σ.set tk (.dp es)) rfl rfl (BQ (by rw[bh,eL];(exact aK (by assumption) (by decide))) (d8 a) (by rw[jy,fg,dA pX];rfl))) rfl) (show(2:Nat)<=aI by decide)
   show(ev (CC d) (.sub (.v 6) (.v 7)) (gw s.pv tk t n vs w us (ae (a:Int))) (σ.set tk (.dp es))).toS _ (fun v σ=>(ev (CC d) (.v 1) (gw s.pv tk t n vs w us (ae (a:Int))) σ).toS _ fun o σ=>(ev (CC d) (.tup #v[(.sub (.sub (.v 0) (aa 3)) (.v 7)),(.v 5)]) (gw s.pv tk t n vs w us (ae (a:Int))) σ).toS _ fun i σ=>hN o i v _ σ)=_;rw[V,fV,show ev (CC d) (.v 1) (gw s.pv tk t n vs w us (ae (a:Int))) (σ.set tk (.dp es))=.ok (.ref tk) (σ.set tk (.dp es))from rfl,fV,ak,fV,q0 aR (by rw[eL];(grind)),List.set_set]
theorem VE{w:Int}{vs us:List H}(hu:us.length<=3)(hw:¬w<n):∀(k a:Nat) (z:Option H),a+k=us.length ->
  ∃bA,ch none (dm 7) (fun ρ σ=>ex (CC d) topN u6 ρ σ) ((List.range' a k).map fun(i:Nat)=>H.int (0+(i:Int)*1)) (gw s.pv tk t n vs w us z) σ=.next (gw s.pv tk t n vs w us bA) σ:=by
 intro k
 induction k with
 | zero=>intro a z _;exact⟨z,eS⟩
 | succ k ao =>
  intro a z ha
  have xG:a<us.length:=by grind
  have t1:tst (CC d) (.and #v[(.cmp (.sub (.v 6) (.v 7)) .isNot (.k .none)),(.cmp (.v 5) .lt (.v 3))]) (gw s.pv tk t n vs w us (ae (a:Int))) σ=.ok false σ:=by
   refine jI ((nJ (b7 (cM (x:=.fl us) (y:=.int (a:Int)) (ac:=σ) (au:=σ) rfl rfl (rb ((aK (by assumption) (by decide))) (dA xG))) (y:=.none) (au:=σ) rfl (v:=.ok (!iA us[a]) σ) rfl) fun J=>k4 (b7 (x:=.int w) (y:=.int (n:Nat)) (ac:=σ) (au:=σ) rfl rfl lt_int)).trans ?_);rw[f0 hw,Bool.and_false]
  have hb:dm 7 (H.int (0+(a:Int)*1)) (gw s.pv tk t n vs w us z)=some (gw s.pv tk t n vs w us (ae (a:Int))):=by
   rw[show(0:Int)+(a:Int)*1=a by grind];rfl
  obtain⟨bA,e⟩:=ao (a+1) (ae (a:Int)) (((Nat.succ_add_eq_add_succ _ _).trans (by assumption)));refine⟨bA,?_⟩;rw[j1,dw];exact(ek hb ((ai (a:=yP) (bx t1)).trans bE)).trans e
theorem Sd(hs:gK s)(h:σ[tk]?=some (.dp es))(hv:gc es)(hm:dT es s t=none)(L:t<n)(hl:es.length<800000):bv PP topN (d+2) qr [s.pv,.ref tk,.int t,.int (n:Nat)] σ=.ok .none (σ.set tk (.dp (hW n es s t))):=by
 rw[cs (fn:=yO) rfl rfl];have vl:(dy es s t).length=s.needs.length:=bh _;have hk:tk<σ.length:=(dS h).1
 have io:ev (CC (d+1)) ES [some s.pv,aH tk,ae t,ae (n:Nat),none,none,none,none,none,none,none,none] σ=.ok (.fl (dy es s t)) σ:=by
  refine(m0 (xs:=s.needs.map .str) (fun y=>match y with | .str x=>(aC (x,t) es).getD .none | _=>.none) rfl (by rw[bh];exact aK hs.needs4 (by decide)) (fun y hy=>?_)).trans ?_
  ·refine az (cL.mp hy) fun x hx ag=>?_;obtain rfl:=ag;exact gU (x:=.ref tk) (ac:=σ) rfl (zW h) (y:=.tup [.str x,.int t]) (au:=σ) rfl (z2 h)
  ·rw[gL];rfl
 have ed:ex (CC (d+1)) topN EU [some s.pv,aH tk,ae t,ae (n:Nat),some (.fl (dy es s t)),none,none,none,none,none,none,none] σ=.next [some s.pv,aH tk,ae t,ae (n:Nat),some (.fl (dy es s t)),ae (ee s t),none,none,none,none,none,none] σ:=
  bH (cp (x:=.int t) (ac:=σ) rfl (c0 (fm (x:=s.rule.pv) (y:=.tup [.str "later"]) (ac:=σ) (au:=σ) rfl rfl (tm hs.rule).1) int_bool) add_int)
 have g:=Sf (d:=d) (σ:=σ) (r:=s.rule) (vs:=dy es s t) (k:=s.gives.length) (by rw[vl];exact hs.rule) (by rw[vl];exact aK hs.needs4 (by decide)) (by rw[vl];exact hs.needs1) (aK hs.gives3 (by decide)) (x5 hs hv hm)
 have lO:ex (CC (d+1)) topN EV [some s.pv,aH tk,ae t,ae (n:Nat),some (.fl (dy es s t)),ae (ee s t),none,none,none,none,none,none] σ=.next (gw s.pv tk t n (dy es s t) (ee s t) (h1 s.rule (dy es s t) s.gives.length) none) σ:=
  bH (m3 (x:=s.rule.pv) (y:=.fl (dy es s t)) (ac:=σ) (au:=σ) rfl rfl (c0 (x:=.tup (s.gives.map .str)) (ac:=σ) rfl (wd (aK hs.gives3 (by decide)))) g)
 have tF:=JY (vs:=dy es s t) hs.rule
 have it:evIt (CC (d+1)) (.range1 (.b1 .len (.v 6))) (gw s.pv tk t n (dy es s t) (ee s t) (h1 s.rule (dy es s t) s.gives.length) none) σ=.ok ((List.range' 0 s.gives.length).map fun(i:Nat)=>H.int (0+(i:Int)*1),none) σ:=by
  rw[x8,c0 (C:=CC (d+1)) (a:=.v 6) (x:=.fl (h1 s.rule (dy es s t) s.gives.length)) (ac:=σ) rfl (AW (by rw[tF,eL];have:=hs.gives3;(exact aK (by assumption) (by decide)))),cg,tF];show(if 0<=(s.gives.length:Int)/\(s.gives.length:Int)<=aI then ah.ok (cZ 0 1 (s.gives.length:Int).toNat,none) σ else .stuck)=_;rw[aE ⟨d8 _,by have:=hs.gives3;rw[eL];(grind)⟩,<- j0];rfl
 have fin:∀{bA:Option H} {σ':af},ch none (dm 7) (fun ρ σ=>ex (CC (d+1)) topN u6 ρ σ) ((List.range' 0 s.gives.length).map fun(i:Nat)=>H.int (0+(i:Int)*1)) (gw s.pv tk t n (dy es s t) (ee s t) (h1 s.rule (dy es s t) s.gives.length) none) σ=.next (gw s.pv tk t n (dy es s t) (ee s t) (h1 s.rule (dy es s t) s.gives.length) bA) σ'->a9 (ex (CC (d+1)) topN yO.body [some s.pv,aH tk,ae t,ae (n:Nat),none,none,none,none,none,none,none,none] σ)=.ok .none σ':=fun{bA σ'} e =>
  (congrArg a9 ((ai (a:=ET) (bH io)).trans ((ai ed).trans ((ai lO).trans ((ai (a:=EW) (eY it e)).trans bE))))).trans rfl
 have self:σ.set tk (.dp es)=σ:=by
  have e:=(dS h).2;rw[<- e];exact List.set_getElem_self hk
 have w4:ee s t<=t+1:=by
  unfold ee
  split <;> (grind)
 unfold hW;by_cases hw:ee s t=n
 ·rw[aE hw,self];obtain⟨bA,e⟩:=VE (d:=d+1) (σ:=σ) (tk:=tk) (s:=s) (n:=n) (t:=t) (w:=ee s t) (vs:=dy es s t) (us:=h1 s.rule (dy es s t) s.gives.length) (by rw[tF];exact hs.gives3) (by grind) s.gives.length 0 none (by rw[tF];(exact ij _));exact fin e
 ·rw[a5 hw];obtain⟨bA,e⟩:=OH (d:=d+1) (σ:=σ) (tk:=tk) (s:=s) (n:=n) (t:=t) (w:=ee s t) (vs:=dy es s t) (us:=h1 s.rule (dy es s t) s.gives.length) tF hs.gives3 (by grind) hk s.gives.length 0 es none ((ij _)) (by grind);rw[self,List.drop_zero]at e;exact fin e
end
noncomputable def b2(k:Str×Int):H:=.tup [.str k.1,.int k.2]
noncomputable def mv(k:Str×Int):PyData:=.tuple [.str k.1,.int k.2]
theorem wb(a b:Str×Int):PyData.eqv (mv a) (mv b)=decide (a=b):=by
 show(a.1 == b.1&&(a.2 == b.2&&true))=_;rw[Bool.and_true,Bool.eq_iff_iff,eW,fy,fy,i5];exact⟨fun h=>Prod.ext h.1 h.2,fun h=>h▸⟨rfl,rfl⟩⟩
theorem KU:∀(l:List (Str×Int)),(l.map b2).mapM (cK (n+2) σ)=some (l.map mv):=by
 intro l
 induction l with
 | nil=>rfl
 | cons q l ao=>rw[dw,List.mapM_cons,ao];rfl
theorem A5{k:Str×Int}{l:List (Str×Int)}:iC σ (b2 k) (l.map b2)=some (decide (k∈l)):=by
 unfold iC;rw[KU (n:=14) l];show some ((l.map mv).any fun y=>PyData.eqv y (mv k))=_;refine congrArg some ?_;rw[List.any_map,Bool.eq_iff_iff,List.any_eq_true,i5]
 exact⟨fun⟨x,hx,e⟩=>by
  have e:PyData.eqv (mv x) (mv k)=true:=e;rw[wb]at e
  exact ht e▸hx,fun h=>⟨k,h,by
  show PyData.eqv (mv k) (mv k)=true
  rw[wb];exact dI rfl⟩⟩
theorem T5{k:Str×Int}{l:List (Str×Int)}(h:σ[r]?=some (.lst (l.map b2))):cX .notin (b2 k) (.ref r) σ=.ok (!decide (k∈l)) σ:=by
 show ah.ofOpt ((d0 (b2 k) (.ref r) σ).map (!·)) σ=_
 have:d0 (b2 k) (.ref r) σ=some (decide (k∈l)):=by unfold d0;dsimp only;exact h.symm▸A5
 rw[this];rfl
theorem SA(h:σ[r]?=some (.lst xs)):kN (.ref r) .list σ=.ok true σ:=by
 have e:cx σ (.ref r)=some xs:=by unfold cx;dsimp only;rw[h]
 show(match cx σ (.ref r)with | some _=>ah.ok true σ | none=>.stuck)=_;rw[e]
theorem RX{x:X}(h:evIt C x ρ σ=(ev C x ρ σ).bind eD)(hx:ev C x ρ σ=.ok (.ref r) σ)(hr:σ[r]?=some (.lst xs)):evIt C x ρ σ=.ok (xs,some (r,.lst xs)) σ:=by
 rw[h,hx];show eD (.ref r) σ=_;unfold eD items nO;dsimp only;rw[hr]
theorem Vm{N:Nat}{E:Option H->Option H->Option H->aB}{ss ts:Nat}{pn:X}{body:S}{pick:am->Nat->List H}(hd:C.hd=false)
  (jE:∀v a b c,dm ss v (E a b c)=some (E (some v) b c)) (qi:∀v a b c,dm ts v (E a b c)=some (E a (some v) c))
  (hr:∀(s:am) b c acc,evIt C pn (E (some s.pv) b c) (τ++[.lst acc])=.ok (cZ 0 1 n,none) (τ++[.lst acc])) (hp:∀s t,(pick s t).length<=1):∀(q:List am),
  (∀s∈q,∀t,t<n->∀acc c,acc.length<900->∃cC,ex C N body (E (some s.pv) (ae (t:Nat)) c) (τ++[.lst acc])=.next (E (some s.pv) (ae (t:Nat)) cC) (τ++[.lst (acc++pick s t)])) ->
  ∀a b c acc,acc.length+q.length*n<900->∃eu cO cC,ch none (dm ss) (fun ρ σ=>ex C N #v[(.for1 ts pn body)] ρ σ) (q.map am.pv) (E a b c) (τ++[.lst acc])=.next (E eu cO cC) (τ++[.lst (acc++q.flatMap fun s=>(List.range n).flatMap (pick s))]):=by
 intro q
 induction q with
 | nil=>intro _ a b c acc _;exact⟨a,b,c,eS.trans (by rw[List.flatMap_nil,iP])⟩
 | cons s q ao =>
  intro hbody a b c acc hl;rw[dj,Nat.succ_mul]at hl
  have AP:∀(k i:Nat) (b c:Option H) (acc:List H),i+k=n->acc.length+k<900->∃cO cC,ch none (dm ts) (fun ρ σ=>ex C N body ρ σ) ((List.range' i k).map fun(i:Nat)=>H.int (0+(i:Int)*1)) (E (some s.pv) b c) (τ++[.lst acc])=.next (E (some s.pv) cO cC) (τ++[.lst (acc++(List.range' i k).flatMap (pick s))])/\(acc++(List.range' i k).flatMap (pick s)).length<=acc.length+k:=by
   intro k
   induction k with
   | zero=>intro i b c acc _ _;exact⟨b,c,eS.trans (by rw[List.range'_zero,List.flatMap_nil,iP]),by rw[List.range'_zero,List.flatMap_nil,iP];exact dz _⟩
   | succ k Rn =>
    intro i b c acc hi hk;obtain⟨cr,V⟩:=hbody s bu i (by grind) acc c ((fY (fh _ _) (by assumption)));have pl:=hp s i
    have al:(acc++pick s i).length<=acc.length+1:=by rw[cN];(exact kB (by assumption) _)
    obtain⟨cO,cC,ak,o1⟩:=Rn (i+1) (ae (i:Nat)) cr (acc++pick s i) (((Nat.succ_add_eq_add_succ _ _).trans (by assumption))) (by grind);rw[j1,i6,<- eQ,dw];refine⟨cO,cC,(ek (b4:=E (some s.pv) (ae (i:Nat)) c) ?_ V).trans ak,by grind⟩;exact(show(0:Int)+(i:Int)*1=i by grind).symm▸(qi _ _ _ _)
  obtain⟨b1,cr,V,fB⟩:=AP n 0 b c acc (ij n) (by grind);rw[<- j0]at V fB;obtain⟨eu,cO,cC,ak⟩:=ao (fun s hs=>hbody s (bQ _ hs)) (some s.pv) b1 cr (acc++(List.range n).flatMap (pick s)) (by grind);refine⟨eu,cO,cC,(ek (jE _ _ _ _) ((ai (eY (hr s b c acc) V)).trans bE)).trans ?_⟩;rw[ak,i6,eQ]
theorem po{x:Mine.X}(h:ev C x ρ σ=.ok (.int (n:Nat)) σ)(hn:n<=200):evIt C (.range1 x) ρ σ=.ok (cZ 0 1 n,none) σ:=by
 rw[x8,h,cg];show(if 0<=(n:Int)/\(n:Int)<=aI then ah.ok (cZ 0 1 (n:Int).toNat,none) σ else .stuck)=_;rw[aE ⟨d8 n,by rw[eL];(exact Int.ofNat_le.mpr (aK (by assumption) (by decide)))⟩];rfl
noncomputable def pe(c:Bool)(s:am)(t:Nat):List H:=if c=true then[b2 (s.name,(t:Int))]else[]
theorem Uv{c:Bool}{s:am}{t:Nat}:(pe c s t).length<=1:=by
 unfold pe
 split
 ·exact dz _
 ·exact gN _
noncomputable def Bq(p:List am)(n:Nat)(f:am->Int->Bool):List H:=p.flatMap fun s=>(List.range n).flatMap fun(t:Nat)=>pe (f s (t:Int)) s t
section
variable {p:List am}{es gs:c6}{X:d1}{gl:Nat}
theorem Mb{N fs:Nat}{x y:Mine.X}{acc:List H}{s:am}{t:Nat}{c:Mine.X}{b:Bool}(hl:acc.length<900)(hc:tst C c ρ (τ++[.lst acc])=.ok b (τ++[.lst acc]))(bf:∀σ,ev C (.v fs) ρ σ=.ok (.ref τ.length) σ)(hx:∀σ,ev C x ρ σ=.ok (.str s.name) σ)(hy:∀σ,ev C y ρ σ=.ok (.int (t:Nat)) σ) :
  ex C N (.ife c #v[(.expr (.me .append (.v fs) #v[(.tup #v[x,y])]))] .nil) ρ (τ++[.lst acc])=.next ρ (τ++[.lst (acc++pe b s t)]):=by
 cases b with
 | false=>exact(rZ hc).trans (bE.trans (by rw[show pe false s t=[]from rfl,iP]))
 | true =>
  refine(cj hc).trans ((ai (fM (gU (bf _) (mw (.inl rfl)) (j7 (vs:=[.str s.name,.int (t:Nat)]) (c4 (hx _) (c4 (hy _) hV)) (show(2:Nat)<=aI by decide)) (xF (by(exact aK (by assumption) (by decide))))))).trans bE)
theorem J9(hp:dG p)(hn:n<=6):p.length*n<900:=fY (Nat.mul_le_mul hp.most hn) (by decide)
theorem Ph(g:os=gs.map fun e=>.tup [.str e.1.1,.int e.1.2])(h:σ[gl]?=some (.lst os)):cX .notin (.tup [.str x,.int t]) (.ref gl) σ=.ok (aC (x,t) gs).isNone σ:=by
 have e:os=(gs.map (·.1)).map b2:=by rw[g,gL];rfl
 rw[e]at h;refine(T5 (k:=(x,t)) h).trans ?_;refine congrArg (ah.ok · σ) ?_;have hi:=sq (k:=(x,t)) (es:=gs)
 cases ha:aC (x,t) gs with
 | none =>
  rw[ha]at hi;rw[f0 fun q=>by have:=hi.mpr q;contradiction];rfl
 | some v =>
  rw[ha]at hi;rw[dI (hi.mp rfl)];rfl
theorem Jg(hp:dG p)(hn:n<=6)(vS:σ[tk]?=some (.dp es))(vK:σ[gl]?=some (.lst os))(g:os=gs.map fun e=>.tup [.str e.1.1,.int e.1.2])(hv:gc es):bv PP topN (d+3) sU [bg p,.ref tk,.ref gl,.int (n:Nat)] σ=.ok (.ref σ.length) (σ++[.lst (Bq p n (eE es gs))]):=by
 rw[cs (fn:=F1) rfl rfl]
 obtain⟨eu,cO,cC,e⟩:=Vm (C:=CC (d+2)) (N:=topN) (n:=n) (E:=fun a b c=>[some (bg p),aH tk,aH gl,ae (n:Nat),aH σ.length,a,b,c,none]) (ss:=5) (ts:=6) (pn:=.range1 (.v 3)) (body:=F4) (τ:=σ) (pick:=fun s t=>pe (eE es gs s (t:Int)) s t) rfl (fun J J J J=>rfl) (fun J J J J=>rfl)
  (fun s cO c acc=>po rfl (by(exact aK (by assumption) (by decide)))) (fun J J=>Uv) p (fun s hs t aO acc c hl=>⟨c,(ai (a:=F5) (Mb (s:=s) (t:=t) hl (jI (nJ (b7 (x:=.tup [.str s.name,.int (t:Nat)]) (y:=.ref gl) (ac:=σ++[.lst acc]) (au:=σ++[.lst acc]) rfl rfl (Ph g (gW vK))) fun J=>k4 (b7 (m3 (x:=s.pv) (y:=.ref tk) (z:=.int (t:Nat)) (ac:=σ++[.lst acc]) (au:=σ++[.lst acc]) (gq:=σ++[.lst acc]) rfl rfl rfl (wk (d:=d) (hp.steps s hs) (gW vS) hv)) (y:=.none) (au:=σ++[.lst acc]) rfl (by cases dT es s (t:Int) <;> rfl)))) (fun J=>rfl) (fun J=>rfl) (fun J=>rfl))).trans bE⟩) none none none [] (by rw[List.length_nil,ij];exact J9 hp hn)
 exact(congrArg a9 ((ai (a:=F2) (ρ':=[some (bg p),aH tk,aH gl,ae (n:Nat),aH σ.length,none,none,none,none]) (σ':=σ++[.lst []]) rfl).trans ((ai (a:=F3) (eY (ys:=p.map am.pv) (ac:=σ++[.lst []]) rfl e)).trans (be (a:=F6) (cT rfl))))).trans rfl
end
noncomputable def e1(p:List am)(n:Nat)(f:am->Int->Bool):List (Str×Int):=p.flatMap fun s=>(List.range n).flatMap fun(t:Nat)=>if f s (t:Int)=true then[(s.name,(t:Int))]else[]
theorem J4{p:List am}{f:am->Int->Bool}:Bq p n f=(e1 p n f).map b2:=by
 unfold Bq e1;rw[List.map_flatMap];refine congrArg (fun g=>p.flatMap g) (funext fun s=>?_);rw[List.map_flatMap];refine congrArg (fun g=>(List.range n).flatMap g) (funext fun t=>?_);unfold pe
 split <;> rfl
theorem IX{p:List am}{f:am->Int->Bool}{k:Str×Int}(h:k∈e1 p n f):∃s∈p,∃t:Nat,t<n/\k=(s.name,(t:Int))/\f s (t:Int)=true:=by
 obtain⟨s,hs,h⟩:=List.mem_flatMap.mp h;obtain⟨t,aO,h⟩:=List.mem_flatMap.mp h
 cases bf:f s (t:Int)with
 | false=>rw[bf]at h;exact absurd h ew
 | true=>rw[bf]at h;exact⟨s,hs,t,List.mem_range.mp aO,df.mp h,bf⟩
theorem IW{p:List am}{f:am->Int->Bool}:(e1 p n f).length<=p.length*n:=by
 induction p with
 | nil=>exact gN _
 | cons s q ao =>
  have AP:∀m:List Nat,(m.flatMap fun(t:Nat)=>if f s (t:Int)=true then[(s.name,(t:Int))]else[]).length<=m.length:=by
   intro m
   induction m with
   | nil=>exact gN _
   | cons x m Ro =>
    rw[i6,cN,dj,Nat.add_comm];refine Nat.add_le_add Ro ?_
    split
    ·exact dz _
    ·exact gN _
  have h:=AP (List.range n);rw[List.length_range]at h;unfold e1;rw[i6,cN,dj,Nat.succ_mul,Nat.add_comm];exact Nat.add_le_add ao h
structure dN where
 p:List am
 n:Nat
 X:d1
 tk:Nat
 gl:Nat
 l:List Int
structure cq(Γ:dN)(B:bS)(σ:af):Prop where
 bo:lX Γ.p Γ.n B Γ.X σ
 tk:σ[Γ.tk]?=some (.dp B.es)
 gl:σ[Γ.gl]?=some (.lst B.os)
 ok:gc B.es
 gk:nW Γ.p Γ.n B
theorem cq.more{Γ:dN}{B:bS}(h:cq Γ B σ):cq Γ B (σ++τ):=⟨h.bo.more,gW h.tk,gW h.gl,h.ok,h.gk⟩
structure dO(Γ:dN):Prop where
 hp:dG Γ.p
 hpl:∀s∈Γ.p,lh s
 hl:Γ.l.length<=63
 hn1:1<=Γ.n
 hn:Γ.n<=6
section
variable {Γ:dN}{B:bS}
theorem fk{f:Nat}{xs:Mine.X}{vs:List H}{v:ah H}(h:evs C xs ρ σ=.ok vs ac)(hc:C.call f vs ac=v):ev C (.call f xs) ρ σ=v:=by
 rw[uu,h];exact hc
end
noncomputable def eZ(p:List am):List Str:=(p.filter fun s=>f4 s.rule).flatMap (·.gives)
theorem Sw:∀(p:List am) (x:Option H) (acc:List Str),acc.length+3*p.length<=900->(∀s∈p,gK s) ->
  ∃aQ,ch none (dm 2) (fun ρ σ=>ex (CC d) topN EY ρ σ) (p.map am.pv) [some pl,aH τ.length,x] (τ++[.lst (acc.map .str)]) =
   .next [some pl,aH τ.length,aQ] (τ++[.lst ((acc++eZ p).map .str)]):=by
 intro p
 induction p with
 | nil=>intro x acc _ _;exact⟨x,by simpa[eZ]using eS⟩
 | cons s p ao =>
  intro x acc hl ax;have hs:=ax s ((bu));have hg:=hs.gives3;rw[dj]at hl
  have t:tst (CC d) (.cmp (.sub (.v 2) (aa 1)) .eq (.tup #v[(.k (.str "later"))])) [some pl,aH τ.length,some s.pv] (τ++[.lst (acc.map .str)])=.ok (f4 s.rule) (τ++[.lst (acc.map .str)]):=
   b7 (x:=s.rule.pv) (y:=.tup [.str "later"]) (ac:=τ++[.lst (acc.map .str)]) (au:=τ++[.lst (acc.map .str)]) rfl rfl (tm hs.rule).1
  cases hq:f4 s.rule with
  | false =>
   rw[hq]at t;obtain⟨aQ,e⟩:=ao (some s.pv) acc (by grind) fun t aO=>ax t (bQ _ aO)
   have bP:eZ (s::p)=eZ p:=by unfold eZ;rw[List.filter_cons,hq,a5 (by decide)]
   rw[bP];refine⟨aQ,(ek (b4:=[some pl,aH τ.length,some s.pv]) (fw:=[some pl,aH τ.length,some s.pv]) (au:=τ++[.lst (acc.map .str)]) rfl ?_).trans e⟩;exact(ai (bx t)).trans bE
  | true =>
   rw[hq]at t;obtain⟨aQ,e⟩:=ao (some s.pv) (acc++s.gives) (by rw[cN];(grind)) fun t aO=>ax t (bQ _ aO)
   have bP:eZ (s::p)=s.gives++eZ p:=by unfold eZ;rw[List.filter_cons,hq,aE rfl,i6]
   rw[bP,<- eQ];refine⟨aQ,(ek (b4:=[some pl,aH τ.length,some s.pv]) (fw:=[some pl,aH τ.length,some s.pv]) (au:=τ++[.lst ((acc++s.gives).map .str)]) rfl ?_).trans e⟩;refine(ai ((cj t).trans ?_)).trans bE;refine(ai (fM (gU (m:=.extend) (x:=.ref τ.length) (ac:=τ++[.lst (acc.map .str)]) (au:=τ++[.lst (acc.map .str)]) rfl (mw (.inr (.inl rfl))) (y:=.tup (s.gives.map .str)) rfl ?_))).trans bE;show ma (.ref τ.length) (.tup (s.gives.map .str)) _=_;unfold ma;dsimp only;rw[hB];dsimp only;rw[aE (by rw[bh,bh,eL];(grind)),mE,eX]
theorem Se{p:List am}(h:dG p):bv PP topN (d+1) AJ [bg p] σ=.ok (.ref σ.length) (σ++[.lst ((eZ p).map .str)]):=by
 rw[cs (fn:=yQ) rfl rfl];obtain⟨aQ,e⟩:=Sw (d:=d) (pl:=bg p) (τ:=σ) p none [] (by show 0+3*p.length<=900;have:=h.most;(grind)) h.steps;rw[List.nil_append]at e
 have:ex (CC d) topN yQ.body [some (bg p),none,none] σ=.ret (.ref σ.length) [some (bg p),aH σ.length,aQ] (σ++[.lst ((eZ p).map .str)]):=
  rfl.trans ((ai (eY (ys:=p.map am.pv) (ac:=σ++[.lst []]) rfl e)).trans rfl)
 exact(congrArg a9 this).trans rfl
theorem G5{p:List am}:x∈eZ p ↔ ∃s∈p,f4 s.rule=true/\x∈s.gives:=by
 unfold eZ;rw[List.mem_flatMap];exact⟨fun⟨s,h,hx⟩=>⟨s,(List.mem_filter.mp h).1,(List.mem_filter.mp h).2,hx⟩,fun⟨s,h,hl,hx⟩=>⟨s,List.mem_filter.mpr ⟨h,hl⟩,hx⟩⟩
theorem OK{p:List am}(h:dG p):(eZ p).Nodup:=by
 have:=h.gives;unfold List.Nodup at this;rw[List.pairwise_flatMap]at this;unfold eZ List.Nodup;rw[List.pairwise_flatMap];exact⟨fun s hs=>this.1 s (List.mem_filter.mp hs).1,this.2.filter _⟩
set_option tactic.hygienic true in
theorem Um:∀(ns acc:List Str),acc.Nodup->(ns.foldl (fC G) acc).Nodup:=by
 intro ns
 induction ns with
 | nil=>intro acc h;exact h
 | cons n ns ao =>
  intro acc h;rw[i7];refine ao _ ?_;unfold fC
  split
  ·rename_i hc;rw[hQ];refine⟨h,hS.mpr ⟨ew,List.nodup_nil⟩,fun a ha b hb e=>?_⟩;rw[df.mp hb]at e;rw[e]at ha;rw[dI ha]at hc;simp at hc
  ·exact h
noncomputable abbrev gJ:=Str×Nat×Int
noncomputable def cD(e:gJ):H:=.tup [.str e.1,.int (e.2.1:Nat),.int e.2.2]
structure xn(p:List am)(n:Nat)(e:gJ):Prop where
 plc:mB p e.1=true
 free:jA p e.1 (e.2.1:Nat)=false
 lt:e.2.1<n
 val:0<=e.2.2/\e.2.2<=999999
structure iM(p:List am)(n:Nat)(l:List gJ):Prop where
 nodup:(l.map fun e=>(e.1,e.2.1)).Nodup
 ok:∀e∈l,xn p n e
theorem iM.snoc{p:List am}{l:List gJ}{e:gJ}(h:iM p n l)(he:xn p n e)(hn:∀q∈l,(q.1,q.2.1)≠(e.1,e.2.1)):iM p n (l++[e]):=by
 refine⟨?_,fun q hq=>?_⟩
 ·rw[eX,hQ];refine⟨h.nodup,hS.mpr ⟨ew,List.nodup_nil⟩,fun a ha b hb=>?_⟩;refine az (cL.mp ha) fun q hq ag=>?_;obtain rfl:=ag;exact(df.mp hb).symm▸(hn q hq)
 ·rcases dH.mp hq with hq | hq
  ·exact h.ok q hq
  ·rw[df.mp hq];exact he
theorem wA{p:List am}{j:Int}(h:x∈ec p):jA p x j=false/\mB p x=true:=by
 refine⟨Hc fun s hs hx=>absurd (List.mem_flatMap.mpr ⟨s,hs,hx⟩) (JX.mp h).2,?_⟩;unfold mB;rw[dI h,Bool.or_true]
theorem OI{p:List am}(hp:dG p)(h:x∈eZ p):jA p x ((0:Nat):Int)=false/\mB p x=true:=by
 refine bL (G5.mp h) fun s hs hl hx=>?_;refine⟨Hc fun s' dJ Rd=>?_,?_⟩
 ·have:=(se Rd hp.gives dJ).symm.trans (se hx hp.gives hs);obtain rfl:=oi this;exact⟨hl,Int.le_refl 0⟩
 ·unfold mB;rw[dI (List.mem_flatMap.mpr ⟨s,hs,hx⟩)];rfl
section
variable {p:List am}{cc at_:Nat}{cV:Int}
noncomputable def d2(l:List Int)(at_:Nat)(p:List am)(n cc:Nat)(cV:Int)(j x t k:Option H):aB:=some (.fl (l.map .int))::ae (at_:Nat)::some (bg p)::ae (n:Nat)::aH cc::ae cV::j::x::t::k::List.replicate 7 none
theorem CY{N f:Nat}{y:X}{e:gJ}{acc:List gJ}(oP:cc<τ.length)(hl:acc.length<900)(bf:∀σ,ev C (.v f) ρ σ=.ok (.ref cc) σ)(hy:ev C y ρ (τ.set cc (.lst (acc.map cD)))=.ok (cD e) (τ.set cc (.lst (acc.map cD)))) :
  ex C N (.expr (.me .append (.v f) #v[y])) ρ (τ.set cc (.lst (acc.map cD)))=.next ρ (τ.set cc (.lst ((acc++[e]).map cD))):=by
 have g:(τ.set cc (.lst (acc.map cD)))[cc]?=some (.lst (acc.map cD)):=List.getElem?_set_self oP;refine(fM (gU (bf _) (wl g) hy (rG g (by rw[bh];(exact aK (by assumption) (by decide)))))).trans ?_;rw[List.set_set,eX];rfl
theorem xM{x:X}{k:Nat}(hl:l.length<=63)(hC:∀vs σ,C.call fP vs σ=bv PP topN (d+1) fP vs σ)(h0:ev C (.v 0) ρ σ=.ok (.fl (l.map .int)) σ)(hx:ev C x ρ σ=.ok (.int (k:Nat)) σ):ev C (.call fP #v[(.v 0),x]) ρ σ=.ok (.int (l.getD k 0)) σ:=iu h0 hx ((hC _ _).trans (oE hl))
theorem UM(hl:l.length<=63)(hx:x∈ec p)(oP:cc<τ.length):∀(k a:Nat) (acc:List gJ) (t z:Option H),a+k=n->acc.length+k<900->iM p n acc->(∀e∈acc,e.1=x->e.2.1<a) ->
  ∃eP bt bA,ch none (dm 8) (fun ρ σ=>ex (CC (d+1)) topN ze ρ σ) ((List.range' a k).map fun(i:Nat)=>H.int (0+(i:Int)*1)) (d2 l at_ p n cc cV (ae (j:Nat)) (aS x) t z) (τ.set cc (.lst (acc.map cD)))=.next (d2 l at_ p n cc cV (ae (j:Nat)) (aS x) bt bA) (τ.set cc (.lst (eP.map cD)))/\iM p n eP/\eP.length<=acc.length+k/\∀e∈eP,e∈acc\/e.1=x:=by
 intro k
 induction k with
 | zero=>intro a acc t z _ _ h _;exact⟨acc,t,z,eS,h,dz _,fun e he=>.inl he⟩
 | succ k ao =>
  intro a acc t z ha hk h hb;refine bL (z3 (p:=eo (eo (l.getD (at_+1+(j+a)%6) 0+31*(j:Int)+1009*(a:Int))))) fun v ff a0 hv=>?_
  have PW:dm 8 (H.int (0+(a:Int)*1)) (d2 l at_ p n cc cV (ae (j:Nat)) (aS x) t z)=some (d2 l at_ p n cc cV (ae (j:Nat)) (aS x) (ae (a:Nat)) z):=by
   rw[show(0:Int)+(a:Int)*1=a by grind];rfl
  have dB:∀{σ:af},ex (CC (d+1)) topN FT (d2 l at_ p n cc cV (ae (j:Nat)) (aS x) (ae (a:Nat)) z) σ=.next (d2 l at_ p n cc cV (ae (j:Nat)) (aS x) (ae (a:Nat)) (ae (eo (l.getD (at_+1+(j+a)%6) 0+31*(j:Int)+1009*(a:Int))))) σ:=fun{σ}=>by
   refine bH (eb (cp (cp (xM (d:=d) hl (fun J J=>rfl) rfl (k:=at_+1+(j+a)%6) (cp (x:=.int ((at_:Int)+1)) (ac:=σ) rfl (cp (x:=.int ((j:Int)+a)) (ac:=σ) rfl (y:=.int 6) (au:=σ) rfl (gd (by decide))) ?_)) (cp (x:=.int 31) (y:=.int (j:Nat)) (ac:=σ) (au:=σ) rfl rfl (mul_int (.inl (by decide)))) add_int) rfl add_int) (lu (d:=d)));rw[add_int];(rfl)
  have b9:∀{σ:af} {q:Int},tst (CC (d+1)) (.or #v[(.cmp (.v 5) .gt (aa 0)),(.cmp (.bin .mod (.v 9) (aa 3)) .gt (aa 0))]) (d2 l at_ p n cc cV (ae (j:Nat)) (aS x) (ae (a:Nat)) (ae q)) σ=.ok (decide (cV > 0)||decide (q%3 > 0)) σ:=fun{σ q} =>
   h6 (rc rfl fun J=>iZ rfl)
  generalize hq:eo (l.getD (at_+1+(j+a)%6) 0+31*(j:Int)+1009*(a:Int))=q at dB hv
  have fin:∀(eH:List gJ),ex (CC (d+1)) topN FU (d2 l at_ p n cc cV (ae (j:Nat)) (aS x) (ae (a:Nat)) (ae q)) (τ.set cc (.lst (acc.map cD)))=.next (d2 l at_ p n cc cV (ae (j:Nat)) (aS x) (ae (a:Nat)) (ae q)) (τ.set cc (.lst (eH.map cD)))->iM p n eH->eH.length<=acc.length+1->(∀e∈eH,e∈acc\/e=(x,a,v)) ->
    ∃eP bt bA,ch none (dm 8) (fun ρ σ=>ex (CC (d+1)) topN ze ρ σ) ((List.range' a (k+1)).map fun(i:Nat)=>H.int (0+(i:Int)*1)) (d2 l at_ p n cc cV (ae (j:Nat)) (aS x) t z) (τ.set cc (.lst (acc.map cD)))=.next (d2 l at_ p n cc cV (ae (j:Nat)) (aS x) bt bA) (τ.set cc (.lst (eP.map cD)))/\iM p n eP/\eP.length<=acc.length+(k+1)/\∀e∈eP,e∈acc\/e.1=x:=fun eH V L fB a6=>by
   obtain⟨eP,bt,bA,ak,O,o1,cP⟩:=ao (a+1) eH (ae (a:Nat)) (ae q) (((Nat.succ_add_eq_add_succ _ _).trans (by assumption))) (by grind) L (fun e he hx=>by
    rcases a6 e he with he | rfl
    ·have:=hb e he hx;(exact aK (by assumption) (fh _ _))
    ·exact Nat.lt_succ_self _)
   refine⟨eP,bt,bA,?_,O,by grind,fun e he=>?_⟩
   ·rw[j1,dw];exact(ek PW ((ai dB).trans ((ai V).trans bE))).trans ak
   ·rcases cP e he with he | he
    ·rcases a6 e he with he | rfl
     ·exact .inl he
     ·exact .inr rfl
    ·exact .inr he
  cases hc:(decide (cV > 0)||decide (q%3 > 0))with
  | false=>exact fin acc (bx (b9.trans (by rw[hc]))) h (Nat.le_succ _) fun e he=>.inl he
  | true =>
   refine fin (acc++[(x,a,v)]) ((cj (b9.trans (by rw[hc]))).trans ((ai (a:=FV) (CY oP (by grind) (fun J=>rfl) ?_)).trans bE)) (h.snoc ⟨(wA (j:=0) hx).2,(wA hx).1,by show a<n;(grind),ff,a0⟩ fun e he q=>?_) (cN.symm▸(dz _)) fun e he=>?_
   ·exact j7 (vs:=[.str x,.int (a:Nat),.int v]) (c4 (x:=.str x) (ac:=τ.set cc (.lst (acc.map cD))) rfl (c4 (x:=.int (a:Nat)) (ac:=τ.set cc (.lst (acc.map cD))) rfl (c4 (eb (eb (x:=.int q) (ac:=τ.set cc (.lst (acc.map cD))) rfl (lu (d:=d))) hv) hV))) (show(3:Nat)<=aI by decide)
   ·refine aW (Prod.mk.inj q) fun q1 q2=>?_;exact Nat.lt_irrefl _ (q2▸hb e he q1)
   ·rcases dH.mp he with he | he
    ·exact .inl he
    ·exact .inr (df.mp he)
end
theorem G6{f:am->List Str}{m:Nat}:∀(q:List am),(∀s∈q,(f s).length<=m)->(q.flatMap f).length<=m*q.length:=by
 intro q
 induction q with
 | nil=>intro _;exact dz _
 | cons s q ao =>
  intro h;have L:=h s bu;have O:=ao fun t aO=>h t (bQ _ aO);rw[i6,cN,dj,Nat.mul_succ];(grind)
theorem JW{p:List am}(h:dG p):(ec p).length<=80:=by
 have L:=Bm (G:=p.flatMap (·.gives)) (p.flatMap (·.needs)) [];have O:=G6 (f:=fun s=>s.needs) p fun s hs=>(h.steps s hs).needs4;exact aK L (aK (by rw[List.length_nil,ij];exact O) (l0 4 h.most))
theorem OJ{p:List am}(h:dG p):(eZ p).length<=60:=by
 unfold eZ;have O:=G6 (f:=fun s=>s.gives) (p.filter fun s=>f4 s.rule) fun s hs=>(h.steps s (List.mem_filter.mp hs).1).gives3;exact aK O (l0 3 (aK (List.length_filter_le _ _) h.most))
section
variable {p:List am}{cc at_:Nat}{cV:Int}
theorem UN(hl:l.length<=63)(hn:n<=6)(oP:cc<τ.length)(hw:∀m,iG wt (τ.set cc m)):∀(xs:List Str) (j:Nat) (acc:List gJ) (a x t z:Option H),xs.Nodup->(∀x∈xs,x∈ec p)->(∀e∈acc,e.1∉xs)->acc.length+6*xs.length<800->iM p n acc ->
  ∃eP eu aQ bt bA,ch wt (gO [6,7]) (fun ρ σ=>ex (CC (d+1)) topN FR ρ σ) (kR j (xs.map .str)) (d2 l at_ p n cc cV a x t z) (τ.set cc (.lst (acc.map cD)))=.next (d2 l at_ p n cc cV eu aQ bt bA) (τ.set cc (.lst (eP.map cD)))/\iM p n eP/\eP.length<=acc.length+6*xs.length/\∀e∈eP,e∈acc\/e.1∈xs:=by
 intro xs
 induction xs with
 | nil=>intro j acc a x t z _ _ _ _ h;exact⟨acc,a,x,t,z,vx (hw _),h,dz _,fun e he=>.inl he⟩
 | cons y xs ao =>
  intro j acc a x t z hd hm ha da h;rw[dj]at da;rw[hS]at hd;obtain⟨eH,t1,dM,V,L,fB,a6⟩:=UM (d:=d) (at_:=at_) (cV:=cV) (x:=y) (j:=j) hl (hm y bu) oP n 0 acc t z (ij n) (by grind) h (fun e he hx=>absurd (hx▸bu) (ha e he))
  obtain⟨eP,eu,aQ,bt,bA,ak,O,o1,cP⟩:=ao (j+1) eH (ae (j:Nat)) (aS y) t1 dM hd.2 (fun x hx=>hm x (bQ _ hx)) (fun e he hx=>by
   rcases a6 e he with he | he
   ·exact ha e he (bQ _ hx)
   ·exact hd.1 (he▸hx)) (by grind) L
  refine⟨eP,eu,aQ,bt,bA,?_,O,by rw[dj];(grind),fun e he=>?_⟩
  ·refine(vw (hw _) (b4:=d2 l at_ p n cc cV (ae (j:Nat)) (aS y) t z) rfl ((ai (a:=FS) (eY (po rfl ((aK (by assumption) (by decide)))) ?_)).trans bE)).trans ak;unfold cZ;exact j0.symm▸V
  ·rcases cP e he with he | he
   ·rcases a6 e he with he | he
    ·exact .inl he
    ·exact .inr (he▸bu)
   ·exact .inr (bQ _ he)
theorem UL(hp:dG p)(hl:l.length<=63)(hn1:1<=n)(oP:cc<τ.length)(hw:∀m,iG wt (τ.set cc m)):∀(xs:List Str) (j:Nat) (acc:List gJ) (a x t z:Option H),xs.Nodup->(∀x∈xs,x∈eZ p)->(∀e∈acc,e.1∉xs)->acc.length+xs.length<900->iM p n acc ->
  ∃eP eu aQ bt bA,ch wt (gO [6,7]) (fun ρ σ=>ex (CC (d+1)) topN zf ρ σ) (kR j (xs.map .str)) (d2 l at_ p n cc cV a x t z) (τ.set cc (.lst (acc.map cD)))=.next (d2 l at_ p n cc cV eu aQ bt bA) (τ.set cc (.lst (eP.map cD)))/\iM p n eP/\eP.length<=acc.length+xs.length:=by
 intro xs
 induction xs with
 | nil=>intro j acc a x t z _ _ _ _ h;exact⟨acc,a,x,t,z,vx (hw _),h,dz _⟩
 | cons y xs ao =>
  intro j acc a x t z hd hm ha da h;rw[dj]at da;rw[hS]at hd;refine bL (z3 (p:=eo (eo (l.getD (at_+1+j%6) 0+7)))) fun v ff a0 hv=>?_
  have dB:∀{σ:af},ex (CC (d+1)) topN FX (d2 l at_ p n cc cV (ae (j:Nat)) (aS y) t z) σ=.next (d2 l at_ p n cc cV (ae (j:Nat)) (aS y) t (ae (eo (l.getD (at_+1+j%6) 0+7)))) σ:=fun{σ}=>by
   refine bH (eb (cp (xM (d:=d) hl (fun J J=>rfl) rfl (k:=at_+1+j%6) (cp (x:=.int ((at_:Int)+1)) (ac:=σ) rfl rfl ?_)) (y:=.int 7) (au:=σ) rfl add_int) (lu (d:=d)));rw[add_int];(rfl)
  have b9:∀{σ:af} {q:Int},tst (CC (d+1)) (.cmp (.bin .mod (.v 9) (aa 5)) .gt (.bin .sub (.v 5) (aa 1))) (d2 l at_ p n cc cV (ae (j:Nat)) (aS y) t (ae q)) σ=.ok (decide (q%5 > cV-1)) σ:=fun{σ q} =>
   b7 rfl (y:=.int (cV-1)) (au:=σ) rfl gt_int
  generalize hq:eo (l.getD (at_+1+j%6) 0+7)=q at dB hv
  have fin:∀(eH:List gJ),ex (CC (d+1)) topN FY (d2 l at_ p n cc cV (ae (j:Nat)) (aS y) t (ae q)) (τ.set cc (.lst (acc.map cD)))=.next (d2 l at_ p n cc cV (ae (j:Nat)) (aS y) t (ae q)) (τ.set cc (.lst (eH.map cD)))->iM p n eH->eH.length<=acc.length+1->(∀e∈eH,e∈acc\/e=(y,0,v)) ->
    ∃eP eu aQ bt bA,ch wt (gO [6,7]) (fun ρ σ=>ex (CC (d+1)) topN zf ρ σ) (kR j ((y::xs).map .str)) (d2 l at_ p n cc cV a x t z) (τ.set cc (.lst (acc.map cD)))=.next (d2 l at_ p n cc cV eu aQ bt bA) (τ.set cc (.lst (eP.map cD)))/\iM p n eP/\eP.length<=acc.length+(y::xs).length:=fun eH V L fB a6=>by
   obtain⟨eP,eu,aQ,bt,bA,ak,O,o1⟩:=ao (j+1) eH (ae (j:Nat)) (aS y) t (ae q) hd.2 (fun x hx=>hm x (bQ _ hx)) (fun e he hx=>by
    rcases a6 e he with he | rfl
    ·exact ha e he (bQ _ hx)
    ·exact hd.1 hx) (by grind) L
   exact⟨eP,eu,aQ,bt,bA,(vw (hw _) (b4:=d2 l at_ p n cc cV (ae (j:Nat)) (aS y) t z) rfl ((ai dB).trans ((ai V).trans bE))).trans ak,O,by rw[dj];(grind)⟩
  cases hc:decide (q%5 > cV-1)with
  | false=>exact fin acc (bx (b9.trans (by rw[hc]))) h (Nat.le_succ _) fun e he=>.inl he
  | true =>
   refine aW (OI hp (hm y bu)) fun f1 f2=>?_;refine fin (acc++[(y,0,v)]) ((cj (b9.trans (by rw[hc]))).trans ((ai (a:=FZ) (CY oP (by grind) (fun J=>rfl) ?_)).trans bE)) (h.snoc ⟨f2,f1,hn1,ff,a0⟩ fun e he q=>?_) (cN.symm▸(dz _)) fun e he=>?_
   ·exact j7 (vs:=[.str y,.int ((0:Nat):Int),.int v]) (c4 (x:=.str y) (ac:=τ.set cc (.lst (acc.map cD))) rfl (c4 (x:=.int ((0:Nat):Int)) (ac:=τ.set cc (.lst (acc.map cD))) rfl (c4 (eb (eb (x:=.int q) (ac:=τ.set cc (.lst (acc.map cD))) rfl (lu (d:=d))) hv) hV))) (show(3:Nat)<=aI by decide)
   ·exact ha e he ((Prod.mk.inj q).1▸bu)
   ·rcases dH.mp he with he | he
    ·exact .inl he
    ·exact .inr (df.mp he)
theorem DK{x:X}(hx:ev C x ρ σ=.ok (.ref r) ac)(hr:ac[r]?=some (.lst xs))(hl:xs.length<=1000):evIt C (.enum x) ρ σ=.ok (kR 0 xs,some (r,.lst xs)) ac:=by
 rw[N5,hx,cg];unfold ou cx nO;dsimp only;rw[hr];exact aE (by rw[eL];(exact aK (by assumption) (by decide)))
theorem Sg(hp:dG p)(hl:l.length<=63)(hn1:1<=n)(hn:n<=6):∃(acc:List gJ) (cJ:af),bv PP topN (d+2) Iw [.fl (l.map .int),.int (at_:Nat),bg p,.int (n:Nat)] σ=.ok (.ref σ.length) (σ++.lst (acc.map cD)::cJ)/\iM p n acc/\acc.length<800:=by
 rw[cs (fn:=FN) rfl rfl];have lM:=JW hp;have fl:=OJ hp
 have ed:∀{σ:af},ex (CC (d+1)) topN FP (some (.fl (l.map .int))::ae (at_:Nat)::some (bg p)::ae (n:Nat)::aH σ.length::List.replicate 12 none) (σ++[.lst []])=.next (d2 l at_ p n σ.length (l.getD at_ 0%3) none none none none) (σ++[.lst []]):=fun{σ} =>
  bH (cp (xM (d:=d) hl (fun J J=>rfl) rfl (k:=at_) rfl) (y:=.int 3) (au:=σ++[.lst []]) rfl (gd (by decide)))
 generalize l.getD at_ 0%3=cV at ed
 have out:=I6 (d:=d) (σ:=σ++[.lst []]) hp;change bv PP topN (d+1) mo [bg p] (σ++[.lst []])=.ok (.ref ((σ++[aV.lst []]).length+1)) (σ++[aV.lst []]++[aV.lst ((p.flatMap (·.gives)).map .str),.lst ((ec p).map .str)])at out;rw[show σ++[aV.lst []]++[aV.lst ((p.flatMap (·.gives)).map .str),.lst ((ec p).map .str)]=σ++.lst []::[.lst ((p.flatMap (·.gives)).map .str),.lst ((ec p).map .str)] by rw[eQ];rfl]at out
 have Vb:σ.length<(σ++.lst []::[aV.lst ((p.flatMap (·.gives)).map .str),.lst ((ec p).map .str)]).length:=by rw[cN];show _<_+3;(grind)
 have g1:(σ++.lst []::[aV.lst ((p.flatMap (·.gives)).map .str),.lst ((ec p).map .str)])[(σ++[aV.lst []]).length+1]?=some (.lst ((ec p).map .str)):=by
  rw[cN,hP (by show _<=_+1+1;(grind)),show σ.length+[aV.lst []].length+1-σ.length=2 by show σ.length+1+1-σ.length=2;(grind)];rfl
 have JE:σ.length≠(σ++[aV.lst []]).length+1:=by rw[cN];show _≠_+1+1;(grind)
 generalize Y8:(σ++[aV.lst []]).length+1=aY at out g1 JE;obtain⟨eH,aD,aZ,t1,dM,V,L,fB,a6⟩:=UN (d:=d) (at_:=at_) (cV:=cV) (wt:=some (aY,.lst ((ec p).map .str))) hl hn Vb (fun m=>du JE g1) (ec p) 0 [] none none none none (Um _ _ List.nodup_nil) (fun x hx=>hx) (fun e he=>nomatch he) (by rw[List.length_nil];(grind)) ⟨List.nodup_nil,fun e he=>nomatch he⟩;rw[List.map_nil,mE,mE]at V
 have lO:ex (CC (d+1)) topN FQ (d2 l at_ p n σ.length cV none none none none) (σ++[.lst []])=.next (d2 l at_ p n σ.length cV aD aZ t1 dM) (σ++.lst (eH.map cD)::[.lst ((p.flatMap (·.gives)).map .str),.lst ((ec p).map .str)]):=by
  show(evIt (CC (d+1)) (.enum (.call mo #v[(.v 2)])) (d2 l at_ p n σ.length cV none none none none) (σ++[.lst []])).toS _ _=_;rw[DK (eb (x:=bg p) (ac:=σ++[.lst []]) rfl out) g1 (by rw[bh];(exact aK (by assumption) (by decide))),fV];exact V
 generalize [aV.lst ((p.flatMap (·.gives)).map .str),.lst ((ec p).map .str)]=jO at lO;have fst:=Se (d:=d) (σ:=σ++.lst (eH.map cD)::jO) hp;rw[show σ++aV.lst (eH.map cD)::jO++[.lst ((eZ p).map .str)]=σ++.lst (eH.map cD)::(jO++[.lst ((eZ p).map .str)]) by rw[eQ];rfl]at fst
 have Vc:σ.length<(σ++aV.lst (eH.map cD)::(jO++[aV.lst ((eZ p).map .str)])).length:=by rw[cN,dj];(grind)
 have g2:(σ++.lst (eH.map cD)::(jO++[.lst ((eZ p).map .str)]))[(σ++aV.lst (eH.map cD)::jO).length]?=some (.lst ((eZ p).map .str)):=by
  rw[<- List.cons_append,<- eQ];exact hB
 have JF:σ.length≠(σ++aV.lst (eH.map cD)::jO).length:=by rw[cN,dj];(grind)
 generalize (σ++aV.lst (eH.map cD)::jO).length=r2 at fst g2 JF
 obtain⟨CP,aU,bz,cH,ef,ak,O,o1⟩:=UL (d:=d) (at_:=at_) (cV:=cV) (wt:=some (r2,.lst ((eZ p).map .str))) hp hl hn1 Vc (fun m=>du JF g2) (eZ p) 0 eH aD aZ t1 dM (OK hp) (fun x hx=>hx) (fun e he hx=>by
  rcases a6 e he with he | he
  ·exact nomatch he
  ·refine bL (G5.mp hx) fun s hs J hg=>?_
   exact(JX.mp he).2 (List.mem_flatMap.mpr ⟨s,hs,hg⟩)) (by rw[List.length_nil]at fB;(grind)) L
 rw[mE,mE]at ak
 have pr:ex (CC (d+1)) topN FW (d2 l at_ p n σ.length cV aD aZ t1 dM) (σ++.lst (eH.map cD)::jO)=.next (d2 l at_ p n σ.length cV aU bz cH ef) (σ++.lst (CP.map cD)::(jO++[.lst ((eZ p).map .str)])):=by
  show(evIt (CC (d+1)) (.enum (.call AJ #v[(.v 2)])) (d2 l at_ p n σ.length cV aD aZ t1 dM) (σ++.lst (eH.map cD)::jO)).toS _ _=_;rw[DK (eb (x:=bg p) (ac:=σ++.lst (eH.map cD)::jO) rfl fst) g2 (by rw[bh];(exact aK (by assumption) (by decide))),fV];exact ak
 refine⟨CP,jO++[.lst ((eZ p).map .str)],?_,O,by rw[List.length_nil]at fB;(grind)⟩
 have dE:ex (CC (d+1)) topN FO (some (.fl (l.map .int))::ae (at_:Nat)::some (bg p)::ae (n:Nat)::List.replicate 13 none) σ=.next (some (.fl (l.map .int))::ae (at_:Nat)::some (bg p)::ae (n:Nat)::aH σ.length::List.replicate 12 none) (σ++[.lst []]):=rfl
 have qV:∀{σ':af},ex (CC (d+1)) topN F0 (d2 l at_ p n σ.length cV aU bz cH ef) σ'=.ret (.ref σ.length) (d2 l at_ p n σ.length cV aU bz cH ef) σ':=fun{σ'}=>cT rfl;have body:=rfl.trans ((ai (ed (σ:=σ))).trans ((ai lO).trans ((ai pr).trans (be (r:=.nil) qV))));exact(congrArg a9 body).trans rfl
end
structure ia(X:d1)(j:Nat):Prop where
 i:j≠X.i
 g:j≠X.g
 o:j≠X.o
 h:j≠X.h
 gn:j≠X.gn
 od:j≠X.od
theorem ia.gt{X:d1}(l:X.Lt)(h:X.od<j):ia X j:=by
 have a:=l.a;have b:=l.b;have c:=l.c;have d:=l.d;have e:=l.e;have gn:=eR e h;have aR:=eR d gn;have o:=eR c aR;have g:=eR b o;exact⟨dc (eR a g),dc g,dc o,dc aR,dc gn,dc h⟩
theorem dr.other{p:List am}{es gs:c6}{X:d1}(b:dr p n es gs os X σ)(a:ia X j):dr p n es gs os X (σ.set j m):=
 ⟨du a.i b.ns,du a.g b.gv,du a.o b.ot,du a.h b.hr,du a.gn b.go,du a.od b.od,b.lt⟩
noncomputable def jY(Γ:dN)(σ σ':af):Prop:=∀j m,ia Γ.X j->j≠Γ.tk->j≠Γ.gl->σ[j]?=some m->σ'[j]?=some m
theorem jY.trans{Γ:dN}{a b c:af}(h:jY Γ a b)(k:jY Γ b c):jY Γ a c:=fun j m q1 q2 q3 e=>k j m q1 q2 q3 (h j m q1 q2 q3 e)
structure jP(Γ:dN):Prop where
 t:ia Γ.X Γ.tk
 g:ia Γ.X Γ.gl
 ne:Γ.tk≠Γ.gl
section
variable {Γ:dN}{B:bS}
theorem Kl{t:Nat}{v:Int}{N:Nat}{a y z w:Mine.X}(ar:dO Γ)(S:cq Γ B σ)(at_:jP Γ)(he:xn Γ.p Γ.n (x,t,v))(ha:aC (x,(t:Int)) B.es=none)(hl:B.es.length<800000)
  (hC:∀vs σ,C.call oY vs σ=bv PP topN (d+4) oY vs σ) (h0:∀σ,ev C a ρ σ=.ok (.inst bw Γ.X.i) σ) (L:∀σ,ev C y ρ σ=.ok (.str x) σ) (O:∀σ,ev C z ρ σ=.ok (.int (t:Nat)) σ) (ax:∀σ,ev C w ρ σ=.ok (.int v) σ) {u:Mine.X} (hu:∀σ,ev C u ρ σ=.ok (.ref Γ.tk) σ) :
  ∃a2 bB,ex C N (.expr (.meth bw oY "put" a #v[y,z,w])) ρ σ=.next ρ a2/\ex C N (.asgSub u (.tup #v[y,z]) w) ρ a2=.next ρ bB/\cq Γ (B.put x t v) bB/\jY Γ σ bB:=by
 have pk:bv PP topN (d+4) oY [.inst bw Γ.X.i,.str x,.int (t:Nat),.int v] σ=.ok .none (σ.set Γ.X.h (.dp (B.es++[((x,(t:Int)),.int v)]))):=UR (d:=d) ar.hp S.bo he.plc (d8 t) (d3.mpr he.lt) he.free he.val ha (eR hl (by decide))
 have KR:(σ.set Γ.X.h (.dp (B.es++[((x,(t:Int)),.int v)])))[Γ.tk]?=some (.dp B.es):=du at_.t.h.symm S.tk
 refine⟨_,(σ.set Γ.X.h (.dp (B.es++[((x,(t:Int)),.int v)]))).set Γ.tk (.dp (B.es++[((x,(t:Int)),.int v)])),fM (fL (h0 σ) S.bo.ns rfl (c4 (L σ) (c4 (O σ) (c4 (ax σ) hV))) ((hC _ _).trans pk)),?_,?_⟩
 ·show(ev C w ρ _).toS ρ (fun v σ=>(ev C u ρ σ).toS ρ fun o σ=>(ev C (.tup #v[y,z]) ρ σ).toS ρ fun i σ=>hN o i v ρ σ)=_;rw[ax,fV,hu,fV,j7 (vs:=[.str x,.int (t:Nat)]) (c4 (L _) (c4 (O _) hV)) (show(2:Nat)<=aI by decide),fV,q0 KR (by rw[eL];(exact aK (by assumption) (by decide))),t3 ha]
 ·refine⟨⟨S.bo.here.other at_.t,m9 KR,du at_.ne (du at_.g.h.symm S.gl),fun k u hu=>?_,⟨S.gk.nodup,S.gk.inn,S.gk.os
   ,fun y w dL hv=>by
    have hv:aC (y,w) (B.es++[((x,(t:Int)),H.int v)])=some dL:=hv;rw[n6 ha]at hv;by_cases q:(y,w)=(x,(t:Int))
    ·rw[(Prod.mk.inj q).1,(Prod.mk.inj q).2];exact .inl he.free
    ·rw[a5 q]at hv;exact S.gk.prv y w dL hv
   ⟩⟩,fun j m q1 q2 q3 e=>du (Ne.symm q2) (du (Ne.symm q1.h) e)⟩
  have hu:aC k (B.es++[((x,(t:Int)),H.int v)])=some u:=hu;rw[n6 ha]at hu;by_cases q:k=(x,(t:Int))
  ·rw[aE q]at hu;obtain rfl:=oi hu;exact⟨v,rfl,he.val⟩
  ·rw[a5 q]at hu;exact S.ok k u hu
noncomputable def BF(n:Str):H->Option H
 | .tup (.str w::r)=>if(w == n)=true then some (.tup (.str w::r))else none
 | _=>none
inductive jU:H->Prop
 | str (x:Str):jU (.str x)
 | none:jU .none
 | int (i:Int):jU (.int i)
noncomputable def j9(p:List am):H->Option am
 | .str x=>p.find? fun s=>s.name == x
 | _=>none
theorem Vt:∀{p:List am},(p.map (·.name)).Nodup->(p.map am.pv).filterMap (BF x)=(j9 p (.str x)).toList.map am.pv:=by
 intro p
 induction p with
 | nil=>intro _;rfl
 | cons a q ao =>
  intro hn;rw[dw,hS]at hn;show _=(((a::q).find? fun s=>s.name == x).toList).map am.pv;rw[dw,List.filterMap_cons,jz,show BF x a.pv=(if(a.name == x)=true then some a.pv else none)from rfl]
  cases hq:a.name == x with
  | false=>exact ao hn.2
  | true =>
   refine congrArg (a.pv::·) (List.filterMap_eq_nil_iff.mpr fun y hy=>?_);obtain⟨b,hb,rfl⟩:=cL.mp hy;show(if(b.name == x)=true then some b.pv else none)=none;exact a5 fun z=>hn.1 (cL.mpr ⟨b,hb,(eq_of_beq z).trans (eq_of_beq hq).symm⟩)
theorem zR{s:am}:∀{p:List am},(p.map (·.name)).Nodup->s∈p->j9 p (.str s.name)=some s:=by
 intro p
 induction p with
 | nil=>intro _ h;contradiction
 | cons a q ao =>
  intro hn h;rw[dw,hS]at hn;show((a::q).find? fun b=>b.name == s.name)=_;rw[jz]
  cases hq:a.name == s.name with
  | false=>exact ao hn.2 ((cE.mp h).resolve_left fun z=>by rw[<- z,beq_self_eq_true]at hq;exact nomatch hq)
  | true =>
   rcases cE.mp h with rfl | h
   ·rfl
   ·exact absurd (cL.mpr ⟨s,h,(eq_of_beq hq).symm⟩) hn.1
theorem Kw{p:List am}{y:Mine.X}(hp:dG p)(QE:jU bC)(hd:C.hd=false)(it:evIt C (.v i) ρ σ=.ok (p.map am.pv,none) σ)(L:∀x,ev C (.v 1) ((dg cap ρ).set 1 (some x)) σ=.ok x σ)(O:∀x,ev C y ((dg cap ρ).set 1 (some x)) σ=.ok bC σ) :
  ev C (.comp true 1 cap (.v 1) (.cmp (.sub (.v 1) (aa 0)) .eq y) (.v i)) ρ σ=.ok (.fl ((j9 p bC).toList.map am.pv)) σ:=by
 have Jc:(p.map am.pv).length<=aI:=by rw[bh];exact aK hp.most (by decide)
 have no:(∀w,cX .eq (.str w) bC σ=.ok false σ)->j9 p bC=none->ev C (.comp true 1 cap (.v 1) (.cmp (.sub (.v 1) (aa 0)) .eq y) (.v i)) ρ σ=.ok (.fl ((j9 p bC).toList.map am.pv)) σ:=fun h e=>by
  rw[e];refine(xQ (fun J=>none) it Jc (fun z bp=>?_) fun z bp v hv=>nomatch hv).trans (congrArg (fun l=>ah.ok (H.fl l) σ) (List.filterMap_eq_nil_iff.mpr fun J J=>rfl));obtain⟨s',_,rfl⟩:=cL.mp bp;exact b7 (cM (L _) (y:=.int 0) (au:=σ) rfl (v:=.ok (.str s'.name) σ) rfl) (O _) (h _)
 cases QE with
 | none=>exact no (fun J=>rfl) rfl
 | int i=>exact no (fun J=>rfl) rfl
 | str x =>
  rw[<- Vt hp.names];refine xQ (BF x) it Jc (fun z bp=>?_) fun z bp v hv=>?_
  ·obtain⟨s',_,rfl⟩:=cL.mp bp;refine(b7 (cM (L _) (y:=.int 0) (au:=σ) rfl (v:=.ok (.str s'.name) σ) rfl) (O _) p6).trans ?_;show _=ah.ok (if(s'.name == x)=true then some s'.pv else none).isSome σ;cases(s'.name == x) <;> rfl
  ·obtain⟨s',_,rfl⟩:=cL.mp bp;have hv:(if(s'.name == x)=true then some s'.pv else none)=some v:=hv
   cases hq:(s'.name == x)with
   | false=>rw[hq]at hv;exact nomatch hv
   | true=>rw[hq]at hv;obtain rfl:=oi hv;exact L _
theorem A0{p:List am}{s:am}{y:Mine.X}(hp:dG p)(hs:s∈p)(hd:C.hd=false)(it:evIt C (.v i) ρ σ=.ok (p.map am.pv,none) σ)(L:∀x,ev C (.v 1) ((dg cap ρ).set 1 (some x)) σ=.ok x σ)(O:∀x,ev C y ((dg cap ρ).set 1 (some x)) σ=.ok (.str s.name) σ) :
  ev C (.sub (.comp true 1 cap (.v 1) (.cmp (.sub (.v 1) (aa 0)) .eq y) (.v i)) (aa 0)) ρ σ=.ok s.pv σ:=by
 have io:=Kw hp (.str s.name) hd it L O;rw[zR hp.names hs]at io;exact cM io (y:=.int 0) (au:=σ) rfl rfl
theorem Kk{s:am}{t:Nat}{N:Nat}{st:S}{a y z u w:Mine.X}(ar:dO Γ)(S:cq Γ B σ)(at_:jP Γ)(hs:s∈Γ.p)(aO:t<Γ.n)(hr:B.rdy s (t:Int)=true)(hl:B.es.length<800000)(hg:B.gs.length<800000)
  (hC:∀vs σ,C.call qo vs σ=bv PP topN (d+4) qo vs σ) (lv:∀vs σ,C.call qr vs σ=bv PP topN (d+2) qr vs σ) (h0:∀σ,ev C a ρ σ=.ok (.inst bw Γ.X.i) σ) (L:∀σ,ev C y ρ σ=.ok (.str s.name) σ) (O:∀σ,ev C z ρ σ=.ok (.int (t:Nat)) σ) (ax:∀σ,ev C u ρ σ=.ok (.ref Γ.gl) σ)
  (aT:∀σ,ex C N st ρ σ=.next ρ' σ) (c2:∀σ,evs C w ρ' σ=.ok [s.pv,.ref Γ.tk,.int (t:Nat),.int (Γ.n:Nat)] σ) :
  ∃a2 bB pF,ex C N (.expr (.meth bw qo "fire" a #v[y,z])) ρ σ=.next ρ a2/\ex C N (.expr (.me .append u #v[(.tup #v[y,z])])) ρ a2=.next ρ bB/\ex C N st ρ bB=.next ρ' bB/\ex C N (.expr (.call qr w)) ρ' bB=.next ρ' pF/\cq Γ (B.fire Γ.n s (t:Int)) pF/\jY Γ σ pF:=by
 refine aW (bS.rdy_of hr) fun aY r2=>?_
 have lM:B.os.length=B.gs.length:=by rw[S.gk.os,bh]
 obtain⟨a2,V,b1,k1⟩:=OG (d:=d) ar.hp S.bo hs (ar.hpl s hs) S.ok (d8 t) (d3.mpr aO) aY r2 hl hg (by rw[lM];exact hg)
 have g1:a2[Γ.gl]?=some (.lst B.os):=k1.at_ Γ.gl _ at_.g.h at_.g.gn at_.g.od S.gl
 have t1:a2[Γ.tk]?=some (.dp B.es):=k1.at_ Γ.tk _ at_.t.h at_.t.gn at_.t.od S.tk
 have cH:(a2.set Γ.gl (.lst (B.os++[.tup [.str s.name,.int (t:Nat)]])))[Γ.tk]?=some (.dp B.es):=du at_.ne.symm t1
 have f2:=Sd (d:=d) (ar.hp.steps s hs) cH S.ok r2 (d3.mpr aO) hl;have fs:gr Γ.p Γ.n B (B.fire Γ.n s (t:Int)) [(s,(t:Int))]:=.snoc .nil hs (d8 t) (d3.mpr aO) hr;refine⟨a2,a2.set Γ.gl (.lst (B.os++[.tup [.str s.name,.int (t:Nat)]])),_,fM (fL (h0 σ) S.bo.ns rfl (c4 (L σ) (c4 (O σ) hV)) ((hC _ _).trans V)),?_,aT _,fM (fk (c2 _) ((lv _ _).trans f2)),?_,?_⟩
 ·exact fM (gU (ax _) (wl g1) (j7 (vs:=[.str s.name,.int (t:Nat)]) (c4 (L _) (c4 (O _) hV)) (show(2:Nat)<=aI by decide)) (rG g1 (by rw[lM];(exact aK (by assumption) (by decide)))))
 ·exact⟨(b1.other at_.g).other at_.t,m9 cH,du at_.ne (m9 g1),fs.val ar.hp S.ok,fs.gk S.gk⟩
 ·exact fun j m q1 q2 q3 e=>du (Ne.symm q2) (du (Ne.symm q3) (k1.at_ j m q1.h q1.gn q1.od e))
end
theorem N2{α:Type}{l:List α}(h:i<l.length):(l[i]::l.eraseIdx i).Perm l:=by
 rw[List.eraseIdx_eq_take_drop_succ]
 have e:l.take i++l[i]::l.drop (i+1)=l:=by rw[<- List.drop_eq_getElem_cons h,List.take_append_drop]
 exact List.perm_middle.symm.trans (by rw[e])
theorem N1{α β:Type}{f:α->β}{l:List α}:(l.map f).eraseIdx i=(l.eraseIdx i).map f:=by
 rw[List.eraseIdx_eq_take_drop_succ,List.eraseIdx_eq_take_drop_succ,eX,List.map_take,List.map_drop]
section
variable {Γ:dN}{B:bS}{cu:Nat}{b5:List gJ}{at_:Nat}
theorem Do{ds:List PyData}(h:σ[r]?=some (.lst xs))(hd:xs.mapM (cK 15 σ)=some ds):cX .eq (.ref r) (.fl []) σ=.ok xs.isEmpty σ/\cX .ne (.ref r) (.fl []) σ=.ok (!xs.isEmpty) σ:=by
 have e:cK 16 σ (.ref r)=some (.list ds):=by
  show(match σ[r]? with | some (.lst xs)=>(xs.mapM (cK 15 σ)).map PyData.list | _=>none)=_;rw[h];show(xs.mapM (cK 15 σ)).map PyData.list=_;rw[hd];rfl
 have q:eqv σ (.ref r) (.fl [])=some xs.isEmpty:=by
  unfold eqv;rw[e]
  cases xs with
  | nil=>obtain rfl:=oi hd;rfl
  | cons x xs =>
   rw[List.mapM_cons]at hd
   cases ds with
   | nil =>
    cases L:cK 15 σ x with
    | none=>rw[L]at hd;contradiction
    | some y =>
     rw[L]at hd
     cases O:xs.mapM (cK 15 σ)with
     | none=>rw[O]at hd;contradiction
     | some ys=>rw[O]at hd;exact nomatch (show some (y::ys)=some []from hd)
   | cons a as=>rfl
 constructor
 ·show ah.ofOpt (eqv σ (.ref r) (.fl [])) σ=_;rw[q];rfl
 ·show ah.ofOpt ((eqv σ (.ref r) (.fl [])).map (!·)) σ=_;rw[q];rfl
theorem WJ:∀(l:List gJ),(l.map cD).mapM (cK 15 σ)=some (l.map fun e=>PyData.tuple [.str e.1,.int (e.2.1:Nat),.int e.2.2]):=by
 intro l
 induction l with
 | nil=>rfl
 | cons q l ao=>rw[dw,List.mapM_cons,ao];rfl
theorem qA(h:σ[r]?=some (.lst xs))(hl:xs.length<=1000):dx .len (.ref r) σ=.ok (.int (xs.length:Nat)) σ:=by
 show ki (fun xs=>if xs.length<=aI then ah.ok (H.int xs.length) σ else .stuck) (.ref r) σ=_;rw[s7 (show eM σ (.ref r)=some xs by unfold eM;dsimp only;rw[h])];exact aE (by rw[eL];(exact aK (by assumption) (by decide)))
theorem p8{N:Nat}{is:List Nat}{x:Mine.X}{v:H}(hd:C.hd=false)(h:ev C x ρ σ=.ok v σ')(hb:gO is v ρ=some ρ'):ex C N (.asgT is x) ρ σ=.next ρ' σ':=by
 show(bif C.hd then b3.stuck else(ev C x ρ σ).toS ρ fun v σ=>match gO is v ρ with
  | some ρ=>.next ρ σ
  | none=>.stuck)=_
 rw[hd,h,cond_false,fV,hb]
structure ih(Γ:dN)(cu:Nat)(B:bS)(b5:List gJ)(c:Nat)(σ:af):Prop where
 sim:cq Γ B σ
 pl:σ[cu]?=some (.lst (b5.map cD))
 apt:jP Γ
 ap:ia Γ.X cu
 tp:Γ.tk≠cu
 gp:Γ.gl≠cu
 ok:iM Γ.p Γ.n b5
 abs:∀e∈b5,aC (e.1,(e.2.1:Int)) B.es=none
 len:b5.length<800
 sz:fX B c
theorem ih.more(h:ih Γ cu B b5 c σ):ih Γ cu B b5 c (σ++τ):=⟨h.sim.more,gW h.pl,h.apt,h.ap,h.tp,h.gp,h.ok,h.abs,h.len,h.sz⟩
theorem ih.mono{cC:Nat}(h:ih Γ cu B b5 c σ)(hc:c<=cC):ih Γ cu B b5 cC σ:=⟨h.sim,h.pl,h.apt,h.ap,h.tp,h.gp,h.ok,h.abs,h.len,⟨aK h.sz.es (l0 3 hc),aK h.sz.gs hc,aK h.sz.os hc⟩⟩
structure ry where
 k:Option H
 q:Option H
 r:Option H
 a:Option H
 t:Option H
 v:Option H
 nm:Option H
 st:Option H
noncomputable def eV(Γ:dN)(cu at_:Nat)(w:ry):aB:=bD Γ.X.i::some (bg Γ.p)::aH Γ.tk::ae (Γ.n:Nat)::some (.fl (Γ.l.map .int))::ae (at_:Nat)::aH Γ.gl::aH cu::w.k::w.q::w.r::w.a::w.t::w.v::w.nm::w.st::List.replicate 7 none
theorem IC{q:Int}{m:Nat}(hm:0<m):∃i:Nat,q/3%(m:Nat)=(i:Nat)/\i<m:=by
 have fS:=ey (q/3) (show(m:Int)≠0 by(exact Int.ofNat_ne_zero.mpr (dc (by assumption))));have n1:=e7 (q/3) (show(0:Int)<m by(exact d3.mpr (by assumption)));obtain⟨i,hi⟩:=iO fS;exact⟨i,hi,by rw[hi]at n1;exact d3.mp n1⟩
theorem Vq{q:Int}{w:ry}(ar:dO Γ)(hc:c<1000)(W:ih Γ cu B b5 c σ)(de:b5≠[]) :
  ∃db lN g4 σ',ex (CC (d+4)) topN #v[zv,GH,GI] (eV Γ cu at_ { w with q:=ae q,r:=aH r }) σ=.next (eV Γ cu at_ g4) σ'/\ih Γ cu db lN (c+1) σ':=by
 have SR:0<b5.length:=List.length_pos_iff.mpr de;obtain⟨i,hi,il⟩:=IC (q:=q) SR;have pl:=W.len;have pm:(b5[i]::b5.eraseIdx i).Perm b5:=N2 il;have nd:=((pm.map fun e:gJ=>(e.1,e.2.1)).nodup_iff.mpr W.ok.nodup);rw[dw,hS]at nd;have em:b5[i]∈b5:=List.getElem_mem il;have gV:=W.ok.ok _ em;have b0:=W.abs _ em
 have t0:ex (CC (d+4)) topN zv (eV Γ cu at_ { w with q:=ae q,r:=aH r }) σ=.next (eV Γ cu at_ { w with q:=ae q,r:=aH r,a:=aS b5[i].1,t:=ae (b5[i].2.1:Nat),v:=ae b5[i].2.2 }) (σ.set cu (.lst ((b5.eraseIdx i).map cD))):=by
  refine p8 rfl (v:=cD b5[i]) (gU (x:=.ref cu) (ac:=σ) rfl (show jh (.ref cu) σ=true by unfold jh;dsimp only;rw[W.pl]) (y:=.int (i:Nat)) (au:=σ) ?_ ?_) rfl
  ·rw[<- hi];refine cp (cp (x:=.int q) (y:=.int 3) (ac:=σ) (au:=σ) rfl rfl (zN (by decide) (by decide))) (c0 (x:=.ref cu) (ac:=σ) rfl (qA W.pl (by rw[bh];(grind)))) ?_;rw[bh];exact gd (by(exact d3.mpr (by assumption)))
  ·show pg (.ref cu) (.int (i:Nat)) σ=_;unfold pg;dsimp only;rw[W.pl];dsimp only;rw[aE ⟨d8 i,by rw[bh,eL];(grind)⟩,jy,fg,dA il];show ah.ok (cD b5[i]) (σ.set cu (.lst ((b5.map cD).eraseIdx i)))=_;rw[N1]
 have ei:cq Γ B (σ.set cu (.lst ((b5.eraseIdx i).map cD))):=⟨W.sim.bo.other W.ap,du W.tp.symm W.sim.tk,du W.gp.symm W.sim.gl,W.sim.ok,W.sim.gk⟩;have bF:(σ.set cu (.lst ((b5.eraseIdx i).map cD)))[cu]?=some (.lst ((b5.eraseIdx i).map cD)):=m9 W.pl;generalize σ.set cu (.lst ((b5.eraseIdx i).map cD))=ZP at t0 ei bF;have hl:=W.sz.es;obtain⟨a2,bB,V,ak,gy,kz⟩:=Kl (d:=d) (C:=CC (d+4)) (N:=topN) (ρ:=eV Γ cu at_ { w with q:=ae q,r:=aH r,a:=aS b5[i].1,t:=ae (b5[i].2.1:Nat),v:=ae b5[i].2.2 }) (a:=.v 0) (y:=.v 11) (z:=.v 12) (w:=.v 13) (u:=.v 2) ar ei W.apt (x:=b5[i].1) (t:=b5[i].2.1) (v:=b5[i].2.2) gV b0 (by(grind)) (fun J J=>rfl) (fun J=>rfl) (fun J=>rfl) (fun J=>rfl) (fun J=>rfl) (fun J=>rfl);refine⟨B.put b5[i].1 b5[i].2.1 b5[i].2.2,b5.eraseIdx i,_,bB,(ai t0).trans ((ai V).trans ((ai ak).trans bE)),gy,kz cu _ W.ap W.tp.symm W.gp.symm bF,W.apt,W.ap,W.tp,W.gp,⟨nd.2,fun e he=>W.ok.ok e (pm.mem_iff.mp (bQ _ he))⟩,fun e he=>?_,fY (List.length_eraseIdx_le _ _) pl,?_,?_,?_⟩
 ·have iT:=pm.mem_iff.mp (bQ _ he);show aC (e.1,(e.2.1:Int)) (B.es++[((b5[i].1,(b5[i].2.1:Int)),H.int b5[i].2.2)])=none;rw[n6 b0,a5]
  ·exact W.abs e iT
  ·intro q;obtain⟨q1,q2⟩:=Prod.mk.inj q;refine nd.1 (cL.mpr ⟨e,he,?_⟩);rw[q1,Int.ofNat_inj.mp q2]
 ·show(B.es++[_]).length<=_;rw[cN];show B.es.length+1<=_
  (grind)
 ·exact Nat.le_succ_of_le W.sz.gs
 ·exact Nat.le_succ_of_le W.sz.os
theorem Vo{q:Int}{w:ry}(ar:dO Γ)(hc:c<1000)(W:ih Γ cu B b5 c σ)(hr:σ[r]?=some (.lst ((e1 Γ.p Γ.n (eE B.es B.gs)).map b2)))(de:e1 Γ.p Γ.n (eE B.es B.gs)≠[]) :
  ∃db g4 σ',ex (CC (d+4)) topN #v[zt,GD,GF,zu,GG] (eV Γ cu at_ { w with q:=ae q,r:=aH r }) σ=.next (eV Γ cu at_ g4) σ'/\ih Γ cu db b5 (c+1) σ':=by
 have o0:(e1 Γ.p Γ.n (eE B.es B.gs)).length<=900:=Nat.le_of_lt (fY IW (J9 ar.hp ar.hn));obtain⟨i,hi,il⟩:=IC (q:=q) (List.length_pos_iff.mpr de);obtain⟨s,hs,u,hu,hk,hrd⟩:=IX (List.getElem_mem il)
 have t0:ex (CC (d+4)) topN zt (eV Γ cu at_ { w with q:=ae q,r:=aH r }) σ=.next (eV Γ cu at_ { w with q:=ae q,r:=aH r,t:=ae (u:Nat),nm:=aS s.name }) σ:=by
  refine p8 rfl (v:=b2 (s.name,(u:Int))) (cM (x:=.ref r) (ac:=σ) rfl (y:=.int (i:Nat)) (au:=σ) ?_ (wN hr (by rw[bh,eL];(exact aK (by assumption) (by decide))) (d8 i) (by rw[jy,fg,dA il,hk];rfl))) rfl;rw[<- hi];refine cp (cp (x:=.int q) (y:=.int 3) (ac:=σ) (au:=σ) rfl rfl (zN (by decide) (by decide))) (c0 (x:=.ref r) (ac:=σ) rfl (qA hr (by rw[bh];(exact aK (by assumption) (by decide))))) ?_;rw[bh];exact gd (by(grind))
 have hl:=W.sz.es;have hg:=W.sz.gs
 obtain⟨a2,bB,pF,V,ak,bK,gT,xt,xq⟩:=Kk (d:=d) (C:=CC (d+4)) (N:=topN) (s:=s) (t:=u) (ρ:=eV Γ cu at_ { w with q:=ae q,r:=aH r,t:=ae (u:Nat),nm:=aS s.name }) (ρ':=eV Γ cu at_ { w with q:=ae q,r:=aH r,t:=ae (u:Nat),nm:=aS s.name,st:=some s.pv }) (st:=zu) (a:=.v 0) (y:=.v 14) (z:=.v 12) (u:=.v 6) (w:=.cons (.v 15) #v[(.v 2),(.v 12),(.v 3)])
  ar W.sim W.apt hs hu hrd (by(grind)) (by(grind)) (fun J J=>rfl) (fun J J=>rfl) (fun J=>rfl) (fun J=>rfl) (fun J=>rfl) (fun J=>rfl) (fun σ=>bH (A0 (i:=1) (cap:=[none,none,some 14]) ar.hp hs rfl rfl (fun J=>rfl) (fun J=>rfl))) (fun J=>rfl)
 refine⟨B.fire Γ.n s (u:Int),_,pF,(ai t0).trans ((ai V).trans ((ai ak).trans ((ai bK).trans ((ai gT).trans bE)))),xt,xq cu _ W.ap W.tp.symm W.gp.symm W.pl,W.apt,W.ap,W.tp,W.gp,W.ok,fun e he=>?_,W.len,W.sz.fire (ar.hp.steps s hs)⟩;exact(Hj ar.hp hs (d8 u) (W.ok.ok e he).free).trans (W.abs e he)
end
section
variable {Γ:dN}{cu:Nat}{at_:Nat}
theorem Vr{B:bS}{b5:List gJ}{k:Nat}{w:ry}(ar:dO Γ)(hc:c<1000)(W:ih Γ cu B b5 c σ) :
  ∃db lN g4 σ',ex (CC (d+4)) topN zr (eV Γ cu at_ { w with k:=ae (k:Nat) }) σ=.next (eV Γ cu at_ g4) σ'/\ih Γ cu db lN (c+1) σ':=by
 have dB:ex (CC (d+4)) topN GB (eV Γ cu at_ { w with k:=ae (k:Nat) }) σ=.next (eV Γ cu at_ { w with k:=ae (k:Nat),q:=ae (eo (Γ.l.getD (at_+8+k%12) 0+31*(k:Int))) }) σ:=by
  refine bH (eb (cp (iu (x:=.fl (Γ.l.map .int)) (y:=.int ((at_+8+k%12:Nat):Int)) (ac:=σ) (au:=σ) rfl (cp (x:=.int ((at_:Int)+8)) (ac:=σ) rfl (cp (x:=.int (k:Int)) (ac:=σ) rfl (y:=.int 12) (au:=σ) rfl (gd (by decide))) ?_) (oE (d:=d+3) ar.hl)) (cp (x:=.int 31) (y:=.int (k:Nat)) (ac:=σ) (au:=σ) rfl rfl (mul_int (.inl (by decide)))) add_int) (lu (d:=d+3)));rw[add_int];simp
 generalize eo (Γ.l.getD (at_+8+k%12) 0+31*(k:Int))=ag at dB;have cr:=Jg (d:=d+1) ar.hp ar.hn W.sim.tk W.sim.gl W.sim.gk.os W.sim.ok;rw[J4]at cr
 have b1:ex (CC (d+4)) topN GC (eV Γ cu at_ { w with k:=ae (k:Nat),q:=ae ag }) σ=.next (eV Γ cu at_ { w with k:=ae (k:Nat),q:=ae ag,r:=aH σ.length }) (σ++[.lst ((e1 Γ.p Γ.n (eE B.es B.gs)).map b2)]):=
  bH (fk (vs:=[bg Γ.p,.ref Γ.tk,.ref Γ.gl,.int (Γ.n:Nat)]) rfl cr)
 have n5:ih Γ cu B b5 c (σ++[.lst ((e1 Γ.p Γ.n (eE B.es B.gs)).map b2)]):=W.more;have hr:(σ++[aV.lst ((e1 Γ.p Γ.n (eE B.es B.gs)).map b2)])[σ.length]?=some (.lst ((e1 Γ.p Γ.n (eE B.es B.gs)).map b2)):=hB;generalize σ++[aV.lst ((e1 Γ.p Γ.n (eE B.es B.gs)).map b2)]=a2 at b1 n5 hr;generalize σ.length=bi at b1 hr;have rO:=Do n5.pl (WJ b5);have xT:=Do hr (KU (n:=13) (e1 Γ.p Γ.n (eE B.es B.gs)));rw[List.isEmpty_map]at rO xT
 have t1:tst (CC (d+4)) (.and #v[(.cmp (.v 7) .ne (.lst true .nil)),(.or #v[(.cmp (.bin .mod (.v 9) (aa 3)) .gt (aa 0)),(.cmp (.v 10) .eq (.lst true .nil))])]) (eV Γ cu at_ { w with k:=ae (k:Nat),q:=ae ag,r:=aH bi }) a2=.ok (!b5.isEmpty&&(decide (ag%3 > 0)||(e1 Γ.p Γ.n (eE B.es B.gs)).isEmpty)) a2:=
  jI (nJ (b7 (x:=.ref cu) (y:=.fl []) (ac:=a2) (au:=a2) rfl rfl rO.2) fun J=>k4 (h6 (rc (b7 (cp (x:=.int ag) (y:=.int 3) (ac:=a2) (au:=a2) rfl rfl (gd (by decide))) (y:=.int 0) (au:=a2) rfl gt_int) fun J=>iZ (b7 (x:=.ref bi) (y:=.fl []) (ac:=a2) (au:=a2) rfl rfl xT.1))))
 have cH:tst (CC (d+4)) (.cmp (.v 10) .ne (.lst true .nil)) (eV Γ cu at_ { w with k:=ae (k:Nat),q:=ae ag,r:=aH bi }) a2=.ok (!(e1 Γ.p Γ.n (eE B.es B.gs)).isEmpty) a2:=b7 (x:=.ref bi) (y:=.fl []) (ac:=a2) (au:=a2) rfl rfl xT.2
 cases L:(!b5.isEmpty&&(decide (ag%3 > 0)||(e1 Γ.p Γ.n (eE B.es B.gs)).isEmpty))with
 | true =>
  rw[L]at t1
  have ne:b5≠[]:=fun q=>by rw[q]at L;exact nomatch L
  obtain⟨db,lN,g4,σ',e,xw⟩:=Vq (d:=d) (at_:=at_) (q:=ag) (r:=bi) (w:={ w with k:=ae (k:Nat) }) ar hc n5 ne;exact⟨db,lN,g4,σ',(ai dB).trans ((ai b1).trans ((ai (a:=vm) ((cj t1).trans e)).trans bE)),xw⟩
 | false =>
  rw[L]at t1
  cases O:(!(e1 Γ.p Γ.n (eE B.es B.gs)).isEmpty)with
  | true =>
   rw[O]at cH
   have ne:e1 Γ.p Γ.n (eE B.es B.gs)≠[]:=fun q=>by rw[q]at O;exact nomatch O
   obtain⟨db,g4,σ',e,xw⟩:=Vo (d:=d) (at_:=at_) (q:=ag) (r:=bi) (w:={ w with k:=ae (k:Nat) }) ar hc n5 hr ne;exact⟨db,b5,g4,σ',(ai dB).trans ((ai b1).trans ((ai (a:=vm) ((rZ t1).trans ((ai (a:=zs) ((cj cH).trans e)).trans bE))).trans bE)),xw⟩
  | false =>
   rw[O]at cH;exact⟨B,b5,_,a2,(ai dB).trans ((ai b1).trans ((ai (a:=vm) ((rZ t1).trans ((ai (a:=zs) (bx cH)).trans bE))).trans bE)),n5.mono (Nat.le_succ _)⟩
theorem Vp(ar:dO Γ):∀(k i:Nat) (B:bS) (b5:List gJ) (σ:af) (c:Nat) (w:ry),c+k<=900->ih Γ cu B b5 c σ ->
  ∃db lN g4 σ',ch none (dm 8) (fun ρ σ=>ex (CC (d+4)) topN zr ρ σ) ((List.range' i k).map fun(i:Nat)=>H.int (0+(i:Int)*1)) (eV Γ cu at_ w) σ=.next (eV Γ cu at_ g4) σ'/\ih Γ cu db lN (c+k) σ':=by
 intro k
 induction k with
 | zero=>intro i B b5 σ c w _ W;exact⟨B,b5,w,σ,eS,W⟩
 | succ k ao =>
  intro i B b5 σ c w hc W;obtain⟨eG,UO,jq,a2,V,n5⟩:=Vr (d:=d) (at_:=at_) (k:=i) (w:=w) ar (by(grind)) W;obtain⟨db,lN,g4,σ',ak,rA⟩:=ao (i+1) eG UO a2 (c+1) jq (by(grind)) n5;refine⟨db,lN,g4,σ',?_,by rw[show c+(k+1)=c+1+k by(grind)];exact rA⟩;rw[j1,dw];refine(ek (b4:=eV Γ cu at_ { w with k:=ae (i:Nat) }) ?_ V).trans ak;rw[show(0:Int)+(i:Int)*1=i by(grind)];rfl
theorem V0{p:List am}{X:d1}(hp:dG p)(hpl:∀s∈p,lh s)(hl:l.length<=63)(hn1:1<=n)(hn:n<=6)(b:dr p n [] [] [] X σ)(vS:σ[tk]?=some (.dp []))(Ms:ia X tk) :
  ∃B gl σ',bv PP topN (d+5) Iy [.inst bw X.i,bg p,.ref tk,.int (n:Nat),.fl (l.map .int),.int (at_:Nat)] σ=.ok (.ref gl) σ'/\cq ⟨p,n,X,tk,gl,l⟩ B σ'/\jP ⟨p,n,X,tk,gl,l⟩/\fX B 40:=by
 rw[cs (fn:=Gz) rfl rfl];have pb:X.od<σ.length:=(dS b.od).1;have tz:tk<σ.length:=(dS vS).1
 have dE:ex (CC (d+4)) topN GA (bD X.i::some (bg p)::aH tk::ae (n:Nat)::some (.fl (l.map .int))::ae (at_:Nat)::List.replicate 17 none) σ=.next (bD X.i::some (bg p)::aH tk::ae (n:Nat)::some (.fl (l.map .int))::ae (at_:Nat)::aH σ.length::List.replicate 16 none) (σ++[.lst []]):=rfl
 have b1:dr p n [] [] [] X (σ++[.lst []]):=b.more;have t1:(σ++[aV.lst []])[tk]?=some (.dp []):=gW vS;have g1:(σ++[aV.lst []])[σ.length]?=some (.lst []):=hB
 have fB:(σ++[aV.lst []]).length=σ.length+1:=by rw[cN];rfl
 generalize σ++[aV.lst []]=a2 at dE b1 t1 g1 fB;obtain⟨b5,cJ,V,UE,UC⟩:=Sg (d:=d+2) (σ:=a2) (l:=l) (at_:=at_) hp hl hn1 hn;generalize vK:σ.length=gl at dE pb tz g1 fB;generalize qn:(⟨p,n,X,tk,gl,l⟩:dN)=Γ
 have ar:dO Γ:=by rw[<- qn];exact⟨hp,hpl,hl,hn1,hn⟩
 have ed:ex (CC (d+4)) topN zp (bD X.i::some (bg p)::aH tk::ae (n:Nat)::some (.fl (l.map .int))::ae (at_:Nat)::aH gl::List.replicate 16 none) a2=.next (eV Γ a2.length at_ ⟨none,none,none,none,none,none,none,none⟩) (a2++.lst (b5.map cD)::cJ):=by
  rw[<- qn];exact bH (fk (vs:=[.fl (l.map .int),.int (at_:Nat),bg p,.int (n:Nat)]) rfl V)
 have W:ih Γ a2.length ⟨[],[],[]⟩ b5 0 (a2++.lst (b5.map cD)::cJ):=by
  rw[<- qn]
  exact⟨⟨b1.more,gW t1,gW g1,(fun k v hv=>nomatch hv),⟨List.nodup_nil,(fun k hk=>absurd hk ew),rfl
   ,fun J J J h=>(nomatch h)
   ⟩⟩,hB,⟨Ms,.gt b.lt pb,ik tz⟩,.gt b.lt (by rw[fB];exact Nat.lt_succ_of_lt pb),by show tk≠a2.length;rw[fB];exact ik (Nat.lt_succ_of_lt tz),by show gl≠a2.length;rw[fB];exact ik (Nat.lt_succ_self _),UE,fun e he=>rfl,UC,⟨gN _,gN _,gN _⟩⟩
 generalize a2++.lst (b5.map cD)::cJ=bB at ed W;have fS:=ey (Γ.l.getD (at_+7) 0) (show(40:Int)≠0 by decide);have n1:=e7 (Γ.l.getD (at_+7) 0) (show(0:Int)<40 by decide);obtain⟨K,hK⟩:=iO fS;rw[hK]at n1;have o0:K<40:=d3.mp n1;obtain⟨db,lN,g4,σ',ak,rA⟩:=Vp (d:=d) (at_:=at_) ar K 0 ⟨[],[],[]⟩ b5 bB 0 ⟨none,none,none,none,none,none,none,none⟩ (by(grind)) W
 have it:evIt (CC (d+4)) (.range1 (.bin .mod (.call fP #v[(.v 4),(.bin .add (.v 5) (aa 7))]) (aa 40))) (eV Γ a2.length at_ ⟨none,none,none,none,none,none,none,none⟩) bB=.ok ((List.range' 0 K).map fun(i:Nat)=>H.int (0+(i:Int)*1),none) bB:=by
  have e:ev (CC (d+4)) (.bin .mod (.call fP #v[(.v 4),(.bin .add (.v 5) (aa 7))]) (aa 40)) (eV Γ a2.length at_ ⟨none,none,none,none,none,none,none,none⟩) bB=.ok (.int (K:Nat)) bB:=by
   rw[<- hK];exact cp (iu (x:=.fl (Γ.l.map .int)) (y:=.int ((at_+7:Nat):Int)) (ac:=bB) (au:=bB) rfl rfl (oE (d:=d+3) ar.hl)) (y:=.int 40) (au:=bB) rfl (gd (by decide))
  refine(po e (by(grind))).trans ?_;unfold cZ;rw[j0]
 have pr:ex (CC (d+4)) topN zw (eV Γ a2.length at_ g4) σ'=.ret (.ref gl) (eV Γ a2.length at_ g4) σ':=by rw[<- qn];exact cT rfl
 refine⟨db,gl,σ',?_,by rw[qn];exact rA.sim,by rw[qn];exact rA.apt,?_⟩
 ·have body:=(ai (r:=.cons zp #v[zq,zw]) dE).trans ((ai ed).trans ((ai (a:=zq) (eY it ak)).trans (be (r:=.nil) pr)));exact(congrArg a9 body).trans rfl
 ·have:=rA.sz;exact⟨by have:=this.es;(grind),by have:=this.gs;(grind),by have:=this.os;(grind)⟩
end
theorem x1{x y:X}{a b:H}(h:ev C x ρ σ=.ok a σ)(O:ev C y ρ σ=.ok b σ):ev C (.tup #v[x,y]) ρ σ=.ok (.tup [a,b]) σ:=j7 (vs:=[a,b]) (c4 h (c4 O hV)) (show(2:Nat)<=aI by decide)
theorem nb{p:List am}{s:am}(h:fz p x=some s):s∈p/\x∈s.gives:=⟨List.mem_of_find?_eq_some h,ht (List.find?_some (p:=fun s:am=>decide (x∈s.gives)) h)⟩
noncomputable def ci(s:am)(t:Int):Int:=if f4 s.rule=true then t-1 else t
section
variable {p:List am}{B:bS}{X:d1}
theorem Hm{s:am}(hp:dG p)(b:lX p n B X σ)(h:fz p x=some s):bv PP topN (d+1) AH [.inst bw X.i,.str x,.int t] σ=.ok (.tup [s.pv,.int (ci s t)]) σ:=by
 rw[cs (fn:=Et) rfl rfl]
 have pX:aC x (e9 p)=some s.pv:=by rw[tY,h];rfl
 refine az (AU (hp.steps s (nb h).1).rule) fun w hw hl=>?_
 have b9:tst (CC d) (.cmp (.sub (.sub (.v 3) (aa 1)) (aa 0)) .eq (.k (.str "later"))) [bD X.i,aS x,ae t,some s.pv] σ=.ok (f4 s.rule) σ:=by
  rw[<- hl];exact b7 (cM (x:=s.rule.pv) (ac:=σ) rfl (y:=.int 0) (au:=σ) rfl (hw σ)) (y:=.str "later") (au:=σ) rfl p6
 have dE:=ai (C:=CC d) (n:=topN) (σ:=σ) (a:=Eu) (r:=.cons uQ #v[Ew]) (ρ:=[bD X.i,aS x,ae t,none]) (bH (cM (hU (i:=X.i) (ac:=σ) (v:=.ref X.g) rfl b.ns rfl) (y:=.str x) (au:=σ) rfl (KI b.gv pX)));unfold ci
 cases hb:f4 s.rule with
 | true=>exact(congrArg a9 (dE.trans (be (a:=uQ) ((cj (hb▸b9)).trans (be (a:=Ev) rfl))))).trans rfl
 | false=>exact(congrArg a9 (dE.trans ((ai (a:=uQ) (bx (hb▸b9))).trans rfl))).trans rfl
inductive i2(p:List am)(B:bS)(ss:c6)(x:Str)(t:Int):H->Prop
 | out (h:fz p x=none):i2 p B ss x t (.tup [.str "outside"])
 | first (s:am) (h:fz p x=some s) (L:ci s t<0):i2 p B ss x t (.tup [.str "first"])
 | left (s:am) (h:fz p x=some s) (L:¬ci s t<0) (O:(aC (s.name,ci s t) B.gs).isSome=true):i2 p B ss x t (.tup [.str "left"])
 | ready (s:am) (h:fz p x=some s) (L:¬ci s t<0) (O:aC (s.name,ci s t) B.gs=none) (ax:dT B.es s (ci s t)=none):i2 p B ss x t (.tup [.str "ready"])
 | ring (s:am) (i:H) (h:fz p x=some s) (L:¬ci s t<0) (aT:aC (s.name,ci s t) ss=some i):i2 p B ss x t (.tup [.str "ring",i])
 | go (s:am) (y:Str) (h:fz p x=some s) (L:¬ci s t<0) (O:aC (s.name,ci s t) B.gs=none) (ax:dT B.es s (ci s t)=some y) (aT:aC (s.name,ci s t) ss=none):i2 p B ss x t .none
noncomputable def pR(i:Nat)(x:Str)(t:Int)(sn:Nat)(a b:Option H):aB:=[bD i,aS x,ae t,aH sn,a,b,none]
theorem NU{sn:Nat}{ss:c6}(hp:dG p)(hpl:∀s∈p,lh s)(hv:gc B.es)(b:lX p n B X σ)(hs:σ[sn]?=some (.dp ss)):∃E,i2 p B ss x t E/\bv PP topN (d+3) Io [.inst bw X.i,.str x,.int t,.ref sn] σ=.ok E σ:=by
 rw[cs (fn:=Er) rfl rfl]
 have t0:tst (CC (d+2)) (.cmp (.v 1) .notin (.attr bw (.v 0) "givers")) (pR X.i x t sn none none) σ=.ok (!(fz p x).isSome) σ:=by
  refine b7 (x:=.str x) (ac:=σ) rfl (hU (i:=X.i) (ac:=σ) (v:=.ref X.g) rfl b.ns rfl) ?_;show ah.ofOpt ((d0 (.str x) (.ref X.g) σ).map (!·)) σ=_
  have:d0 (.str x) (.ref X.g) σ=some (fz p x).isSome:=by unfold d0;dsimp only;rw[b.gv];dsimp only;rw[tY,Option.isSome_map]
  rw[this];rfl
 cases hg:fz p x with
 | none =>
  rw[hg]at t0;exact⟨_,.out hg,(congrArg a9 (be (a:=yt) ((cj t0).trans rfl))).trans rfl⟩
 | some s =>
  rw[hg]at t0;have sp:=(nb hg).1;have d6:=hp.steps s sp;have pre:=fun{r:S}=>(ai (n:=topN) (r:=.cons yu r) (a:=yt) (bx t0)).trans (ai (a:=yu) (p8 rfl (fk (vs:=[.inst bw X.i,.str x,.int t]) rfl (Hm (d:=d+1) hp b hg)) (ρ':=pR X.i x t sn (some s.pv) (ae (ci s t))) rfl));have cH:tst (CC (d+2)) (.cmp (.v 5) .lt (aa 0)) (pR X.i x t sn (some s.pv) (ae (ci s t))) σ=.ok (decide (ci s t<0)) σ:=b7 (x:=.int (ci s t)) (ac:=σ) rfl (y:=.int 0) (au:=σ) rfl lt_int;by_cases L:ci s t<0
  ·rw[dI L]at cH;exact⟨_,.first s hg L,(congrArg a9 (pre.trans (be (a:=uO) ((cj cH).trans rfl)))).trans rfl⟩
  rw[f0 L]at cH;have lP:tst (CC (d+2)) (.meth bw ml "has_fired" (.v 0) #v[(.sub (.v 4) (aa 0)),(.v 5)]) (pR X.i x t sn (some s.pv) (ae (ci s t))) σ=.ok (aC (s.name,ci s t) B.gs).isSome σ:=px (fL (i:=X.i) (ac:=σ) (au:=σ) (vs:=[.str s.name,.int (ci s t)]) rfl b.ns rfl rfl (so (d:=d+1) b))
  cases O:aC (s.name,ci s t) B.gs with
  | some u =>
   rw[O]at lP;exact⟨_,.left s hg L (by rw[O];rfl),(congrArg a9 (pre.trans ((ai (a:=uO) (bx cH)).trans (be (a:=yv) ((cj lP).trans rfl))))).trans rfl⟩
  | none =>
   rw[O]at lP;have nI:tst (CC (d+2)) (.meth bw sQ "is_ready" (.v 0) #v[(.v 4),(.v 5)]) (pR X.i x t sn (some s.pv) (ae (ci s t))) σ=.ok (dT B.es s (ci s t)).isNone σ:=(px (fL (i:=X.i) (ac:=σ) (au:=σ) (vs:=[s.pv,.int (ci s t)]) rfl b.ns rfl rfl (BB (d:=d) b d6 (hpl s sp) hv))).trans (by unfold eE;rw[O];rfl);have bK:=fun{r:S}=>pre.trans ((ai (a:=uO) (bx cH)).trans (ai (r:=r) (a:=yv) (bx lP)))
   cases ax:dT B.es s (ci s t)with
   | none =>
    rw[ax]at nI;exact⟨_,.ready s hg L O ax,(congrArg a9 (bK.trans (be (a:=uP) ((cj nI).trans rfl)))).trans rfl⟩
   | some y =>
    rw[ax]at nI;have mK:tst (CC (d+2)) (.cmp (.tup #v[(.sub (.v 4) (aa 0)),(.v 5)]) .isin (.v 3)) (pR X.i x t sn (some s.pv) (ae (ci s t))) σ=.ok (aC (s.name,ci s t) ss).isSome σ:=b7 (x:=.tup [.str s.name,.int (ci s t)]) (ac:=σ) rfl (y:=.ref sn) (au:=σ) rfl (v6 hs)
    cases ha:aC (s.name,ci s t) ss with
    | some i =>
     rw[ha]at mK;exact⟨_,.ring s i hg L ha,(congrArg a9 (bK.trans ((ai (a:=uP) (bx nI)).trans (be (a:=yw) ((cj mK).trans (be (a:=Es) (cT (x1 (a:=.str "ring") rfl (cM (x:=.ref sn) (ac:=σ) rfl (y:=.tup [.str s.name,.int (ci s t)]) (au:=σ) rfl (KH hs ha)))))))))).trans rfl⟩
    | none =>
     rw[ha]at mK;exact⟨_,.go s y hg L O ax ha,(congrArg a9 (bK.trans ((ai (a:=uP) (bx nI)).trans ((ai (a:=yw) (bx mK)).trans rfl)))).trans rfl⟩
end
inductive i4:H->Prop
 | int (t:Int):i4 (.int t)
 | bool (b:Bool):i4 (.bool b)
 | none:i4 .none
 | str (x:Str):i4 (.str x)
noncomputable def jJ(n:Nat):H->Bool
 | .int t=>decide (0<=t)&&decide (t<=(n:Int)-1)
 | _=>false
theorem OD{p:List am}{s:am}(h:j9 p bC=some s):bC=.str s.name/\s∈p:=by
 cases bC with
 | str x =>
  have h:(p.find? fun s=>s.name == x)=some s:=h;have e:=List.find?_some h;have e:(s.name == x)=true:=e;exact⟨congrArg H.str (eq_of_beq e).symm,List.mem_of_find?_eq_some h⟩
 | _=>exact nomatch h
theorem WH(h:jJ n tv=true):∃t:Nat,tv=.int (t:Int)/\t<n:=by
 cases tv with
 | int t =>
  obtain⟨h0,L⟩:=dk h;obtain⟨t,rfl⟩:=iO (ht h0);exact⟨t,rfl,d3.mp (Int.lt_of_le_sub_one (ht L))⟩
 | _=>exact nomatch h
section
variable {p:List am}{es gs:c6}{X:d1}
theorem MO{a b:Int}(h:i4 tv):bv PP topN (d+1) lB [tv,.int a,.int b] σ=.ok (.bool (match tv with | .int t=>decide (a<=t)&&decide (t<=b) | _=>false)) σ:=by
 cases h with
 | int t=>exact xJ
 | bool b=>rfl
 | none=>rfl
 | str x=>rfl
theorem TM(b:dr p n es gs os X σ)(h:i4 tv):bv PP topN (d+2) qq [.inst bw X.i,tv] σ=if jJ n tv=true then .ok .none σ else .exc Cn σ:=by
 rw[cs (fn:=yq) rfl rfl];have c:bv PP topN (d+1) lB [tv,.int 0,.int ((n:Int)-1)] σ=.ok (.bool (jJ n tv)) σ:=(MO h).trans (by cases h <;> rfl)
 have b9:tst (CC (d+1)) (.not (.call lB #v[(.v 1),(aa 0),(.bin .sub (.attr bw (.v 0) "turns") (aa 1))])) [bD X.i,some tv,none,none] σ=.ok (!jJ n tv) σ:=
  fU (h5 (m3 (x:=tv) (ac:=σ) rfl (y:=.int 0) (au:=σ) rfl (cp (hU (i:=X.i) (ac:=σ) (v:=.int n) rfl b.ns rfl) (y:=.int 1) (au:=σ) rfl sub_int) c))
 cases hq:jJ n tv with
 | true=>rw[hq]at b9;exact(congrArg a9 ((ai (a:=uK) (bx b9)).trans bE)).trans rfl
 | false=>rw[hq]at b9;exact(congrArg a9 (p9 (a:=uK) ((cj b9).trans rfl))).trans rfl
theorem TZ:∀(q:List am) (z:Option H),(q.find? fun s=>s.name == x)=none->∃bA,ch none (dm 2) (fun ρ σ=>ex (CC d) topN yp ρ σ) (q.map am.pv) [bD i,aS x,z,none,none,none] σ=.next [bD i,aS x,bA,none,none,none] σ:=by
 intro q
 induction q with
 | nil=>intro z _;exact⟨z,eS⟩
 | cons a q ao =>
  intro z h;rw[jz]at h;have b9:tst (CC d) (.cmp (.sub (.v 2) (aa 0)) .eq (.v 1)) [bD i,aS x,some a.pv,none,none,none] σ=.ok (a.name == x) σ:=rfl
  cases hq:a.name == x with
  | true=>rw[hq]at h;exact nomatch h
  | false =>
   rw[hq]at h b9;refine aM (ao (some a.pv) h) fun bA e=>?_;exact⟨bA,(ek (b4:=[bD i,aS x,some a.pv,none,none,none]) rfl ((ai (a:=uJ) (bx b9)).trans bE)).trans e⟩
theorem TL(b:dr p n es gs os X σ)(hn:jU bC)(h:j9 p bC=none):bv PP topN (d+1) vW [.inst bw X.i,bC] σ=.exc Lq σ:=by
 rw[cs (fn:=ym) rfl rfl]
 cases hn with
 | str x =>
  refine aM (TZ (d:=d) (σ:=σ) (i:=X.i) p none h) fun z e=>?_;exact(congrArg a9 ((ai (a:=yn) (rfl.trans ((ai (a:=yo) (eY (J7 b rfl) e)).trans bE))).trans rfl)).trans rfl
 | none=>exact(congrArg a9 (rfl.trans rfl)).trans rfl
 | int i=>exact(congrArg a9 (rfl.trans rfl)).trans rfl
end
theorem Ll{c:aB->af->ah Bool}{f:aB->af->b3}(hc:c ρ σ=.ok true σ)(bf:f ρ σ=.next ρ' σ'):iH c f (n+1) ρ σ=iH c f n ρ' σ':=by
 show w2 ρ (fun σ=>kP (iH c f n) (f ρ σ)) (c ρ σ)=_;rw[hc];show kP (iH c f n) (f ρ σ)=_;rw[bf];rfl
theorem XT{c:aB->af->ah Bool}{f:aB->af->b3}(hc:c ρ σ=.ok false σ):iH c f (n+1) ρ σ=.next ρ σ:=by
 show w2 ρ _ (c ρ σ)=_;rw[hc];rfl
theorem Oq{k:Nat}{c:X}{body:S}(aR:C.hd=false):ex C k (.whl c body) ρ σ=iH (fun ρ σ=>tst C c ρ σ) (fun ρ σ=>ex C k body ρ σ) k ρ σ:=by
 show(bif C.hd then b3.stuck else iH (fun ρ σ=>tst C c ρ σ) (fun ρ σ=>ex C k body ρ σ) k ρ σ)=_;rw[aR];rfl
theorem C8{a:aV}:(τ++a::m::cJ)[τ.length+1]?=some m:=by
 rw[hP (fh _ _),Nat.add_sub_cancel_left];rfl
theorem Vx{a:aV}:(τ++a::m::cJ).set (τ.length+1) bJ=τ++a::bJ::cJ:=by
 rw[List.set_append_right _ _ (fh _ _),Nat.add_sub_cancel_left];rfl
theorem Om{N:Nat}{o i x:X}{v:H}{k:Str}{es:c6}(hx:ev C x ρ σ=.ok v σ)(ho:ev C o ρ σ=.ok (.ref r) σ)(hi:ev C i ρ σ=.ok (.tup [.str k,.int t]) σ)(hr:σ[r]?=some (.dp es))(ha:aC (k,t) es=none)(hl:es.length<800000):ex C N (.asgSub o i x) ρ σ=.next ρ (σ.set r (.dp (es++[((k,t),v)]))):=by
 show(ev C x ρ σ).toS ρ (fun v σ=>(ev C o ρ σ).toS ρ fun o σ=>(ev C i ρ σ).toS ρ fun i σ=>hN o i v ρ σ)=_;rw[hx,fV,ho,fV,hi,fV,q0 hr (jx hl (by decide)),t3 ha]
structure aX where
 s:am
 t:Int
 x:Str
noncomputable def aX.pv(l:aX):H:=.tup [.str l.s.name,.int l.t,.str l.x]
noncomputable def aX.key(l:aX):Str×Int:=(l.s.name,l.t)
noncomputable def dK(l:List aX):c6:=l.zipIdx.map fun q=>(q.1.key,.int (q.2:Nat))
theorem VX{l:List aX}{a:aX}:dK (l++[a])=dK l++[(a.key,.int (l.length:Nat))]:=by
 unfold dK;rw[List.zipIdx_append,eX,ij];rfl
theorem Kr{l:List aX}:(dK l).map (·.1)=l.map aX.key:=by
 unfold dK;rw[gL];show(l.zipIdx.map (aX.key∘Prod.fst))=_;rw[<- gL,List.zipIdx_map_fst]
theorem VV{l:List aX}:(dK l).length=l.length:=by unfold dK;rw[bh,List.length_zipIdx]
theorem VW{l:List aX}{k:Str×Int}(h:k∉l.map aX.key):aC k (dK l)=none:=by
 cases e:aC k (dK l)with
 | none=>rfl
 | some v=>exact absurd (Kr▸sq.mp (show(aC k (dK l)).isSome=true by rw[e];rfl)) h
section
variable {p:List am}{B:bS}{X:d1}
structure kv(p:List am)(n:Nat)(B:bS)(l:aX):Prop where
 inn:l.s∈p
 t0:0<=l.t
 t1:l.t<n
 no:aC l.key B.gs=none
 ms:dT B.es l.s l.t=some l.x
noncomputable def tU(p:List am):aX->List aX->Prop
 | _,[]=>True
 | a,b::r=>fz p a.x=some b.s/\b.t=ci b.s a.t/\tU p b r
structure tX(p:List am)(n:Nat)(B:bS)(pre:List aX)(l:aX)(rest:List aX)(E:H):Prop where
 ok:∀a∈pre++l::rest,kv p n B a
 nd:((pre++l::rest).map aX.key).Nodup
 pth:tU p l rest
 fin:∀z,(l::rest).getLast?=some z->i2 p B (dK (pre++l::rest)) z.x z.t E
 ne:iA E=false
inductive CN(p:List am)(n:Nat)(B:bS)(pre:List aX)(l:aX)(P:List aX->H->H->Int->Option H->Prop):Prop
 | mk (rest:List aX) (E sp:H) (w:Int) (pl:Option H) (e:P rest E sp w pl) (W:tX p n B pre l rest E):CN p n B pre l P
theorem wa{l:List aX}(h:∀a∈l,kv p n B a)(nd:(l.map aX.key).Nodup):l.length<=p.length*n:=by
 have:=JK (l.map aX.key) (p.flatMap fun s=>(List.range n).map fun(t:Nat)=>(s.name,(t:Int))) nd fun k hk=>by
  refine az (cL.mp hk) fun a ha e=>?_;have o:=h a ha;refine aM (iO o.t0) fun t aO=>?_;refine List.mem_flatMap.mpr ⟨a.s,o.inn,cL.mpr ⟨t,List.mem_range.mpr (d3.mp (aO▸o.t1)),?_⟩⟩;rw[<- e,<- aO];rfl
 rw[bh]at this;refine aK this (Nat.le_of_eq ?_);clear this h nd
 induction p with
 | nil=>exact(Nat.zero_mul _).symm
 | cons s p ao=>rw[i6,cN,ao,bh,List.length_range,dj,Nat.succ_mul,Nat.add_comm]
theorem Ua{s:am}:ci s t<=t:=by
 unfold ci
 split
 ·exact Int.sub_le_self t (by decide)
 ·exact Int.le_refl t
theorem i2.none{ss:c6}{E:H}(h:i2 p B ss x t E):iA E=true->E=.none/\∃s y,fz p x=some s/\0<=ci s t/\aC (s.name,ci s t) B.gs=none/\dT B.es s (ci s t)=some y/\aC (s.name,ci s t) ss=none:=by
 induction h with
 | go s y h L O ax aT=>exact fun J=>⟨rfl,s,y,h,Int.not_lt.mp L,O,ax,aT⟩
 | _=>exact fun z=>nomatch z
noncomputable def n0(i:Nat)(nm tv sp:H)(j:Nat)(w:Int)(e:H)(pl:Option H):aB:=[bD i,some nm,some tv,some sp,aH j,aH (j+1),ae w,some e,pl,none,none,none,none,none]
theorem XY{nm:H}{pre:List aX}{l:aX}{pl:Option H}(hp:dG p)(hpl:∀s∈p,lh s)(hv:gc B.es)(b:lX p n B X σ)(o:kv p n B l)(hn:l.key∉pre.map aX.key)(hl:pre.length<=1000):∃E,i2 p B (dK (pre++[l])) l.x l.t E/\∀r,
  ex (CC (d+3)) topN (.cons zH (.cons zI (.cons zJ (.cons zK r)))) (n0 X.i nm tv l.s.pv σ.length l.t .none pl) (σ++[.lst (pre.map aX.pv),.dp (dK pre)]) =
   ex (CC (d+3)) topN r (n0 X.i nm tv l.s.pv σ.length l.t E (aS l.x)) (σ++[.lst ((pre++[l]).map aX.pv),.dp (dK (pre++[l]))]):=by
 have d6:=hp.steps l.s o.inn
 have bP:ex (CC (d+3)) topN zH (n0 X.i nm tv l.s.pv σ.length l.t .none pl) (σ++[.lst (pre.map aX.pv),.dp (dK pre)])=.next (n0 X.i nm tv l.s.pv σ.length l.t .none pl) (σ++[.lst (pre.map aX.pv),.dp (dK (pre++[l]))]):=by
  refine(Om (v:=.int (pre.length:Nat)) (r:=σ.length+1) (k:=l.s.name) (t:=l.t) (c0 (x:=.ref σ.length) (ac:=σ++[aV.lst (pre.map aX.pv),aV.dp (dK pre)]) rfl ((qA hB (by rw[bh];exact hl)).trans (by rw[bh]))) rfl rfl C8 (VW hn) (by rw[VV];exact fY hl (by decide))).trans ?_;rw[Vx,VX];rfl
 have dR:lX p n B X (σ++[.lst ((pre++[l]).map aX.pv),.dp (dK (pre++[l]))]):=b.more;refine az (NU (d:=d) (x:=l.x) (t:=l.t) hp hpl hv dR C8) fun E gB uo=>?_;refine⟨E,gB,fun r=>?_⟩;refine(ai bP).trans ?_;have b1:lX p n B X (σ++[.lst (pre.map aX.pv),.dp (dK (pre++[l]))]):=b.more;refine cS (ai (a:=zI) (bH (v:=.str l.x) (fL (i:=X.i) (ac:=σ++[aV.lst (pre.map aX.pv),aV.dp (dK (pre++[l]))]) (vs:=[l.s.pv,.int l.t]) rfl b1.ns rfl rfl ((A8 (d:=d+2) (t:=l.t) b1 d6 (hpl _ o.inn) hv).trans (by rw[o.ms];rfl))))) ?_;refine cS (ai (a:=zJ) ((fM (gU (x:=.ref σ.length) (ac:=σ++[aV.lst (pre.map aX.pv),aV.dp (dK (pre++[l]))]) rfl (mw (.inl rfl)) (y:=l.pv) rfl (rG hB (by rw[bh];exact fY hl (by decide))))).trans (by rw[mE,show pre.map aX.pv++[l.pv]=(pre++[l]).map aX.pv by rw[eX];rfl]))) ?_;exact cS (ai (a:=zK) (bH (fk (vs:=[.inst bw X.i,.str l.x,.int l.t,.ref (σ.length+1)]) rfl uo))) rfl
theorem XX{nm:H}(hp:dG p)(hpl:∀s∈p,lh s)(hv:gc B.es)(b:lX p n B X σ)(vL:p.length*n<=900):∀(k:Nat) (pre:List aX) (l:aX) (pl:Option H),(∀a∈pre++[l],kv p n B a)->((pre++[l]).map aX.key).Nodup->p.length*n+1<pre.length+k ->
  CN p n B pre l fun rest E sp w pf=>iH (fun ρ σ=>tst (CC (d+3)) (.cmp (.v 7) .is (.k .none)) ρ σ) (fun ρ σ=>ex (CC (d+3)) topN G1 ρ σ) k (n0 X.i nm tv l.s.pv σ.length l.t .none pl) (σ++[.lst (pre.map aX.pv),.dp (dK pre)]) =
   .next (n0 X.i nm tv sp σ.length w E pf) (σ++[.lst ((pre++l::rest).map aX.pv),.dp (dK (pre++l::rest))]):=by
 intro k
 induction k with
 | zero =>
  intro pre l pl h nd hk;have:=wa h nd;rw[cN]at this;exact absurd (jx (Nat.lt_of_succ_lt hk) (aK (fh _ _) this)) (Nat.lt_irrefl _)
 | succ k ao =>
  intro pre l pl h nd hk;have o0:=wa h nd;rw[cN,List.length_singleton]at o0;have o:=h l (e6 _ bu);have JD:=nd;rw[eX,hQ]at JD;have hn:l.key∉pre.map aX.key:=fun z=>JD.2.2 _ z _ (List.mem_singleton_self _) rfl;refine az (XY (d:=d) (nm:=nm) (tv:=tv) (pl:=pl) hp hpl hv b o hn (aK (Nat.le_of_succ_le o0) (aK vL (by decide)))) fun Cw io st=>?_;have BS:∀(E:H) {ρ:aB} {τ:af},ev (CC (d+3)) (.v 7) ρ τ=.ok E τ->tst (CC (d+3)) (.cmp (.v 7) .is (.k .none)) ρ τ=.ok (iA E) τ:=fun E {ρ τ} e=>b7 e (y:=.none) (au:=τ) rfl rfl
  cases gB:iA Cw with
  | false =>
   refine⟨[],Cw,l.s.pv,l.t,aS l.x,(Ll rfl ((st _).trans ((ai (a:=zL) (bx ((BS _ rfl).trans (by rw[gB])))).trans bE))).trans ?_,⟨h,nd,trivial,fun z bp=>?_,gB⟩⟩
   ·have k1:1<=k:=Nat.pos_of_ne_zero fun q=>by
     rw[q]at hk;exact absurd (jx hk o0) (Nat.not_lt.mpr (Nat.le_succ _))
    refine aM (Nat.exists_eq_add_of_le' k1) fun bW ag=>?_;rw[ag];exact XT ((BS _ rfl).trans (by rw[gB]))
   ·obtain rfl:=oi bp;exact io
  | true =>
   obtain⟨rfl,g,y,hg,XM,wf,X1,ws⟩:=io.none gB;have inn:=(nb hg).1;have jj:kv p n B ⟨g,ci g l.t,y⟩:=⟨inn,XM,Int.lt_of_le_of_lt Ua o.t1,wf,X1⟩
   have h':∀a∈pre++[l]++[(⟨g,ci g l.t,y⟩:aX)],kv p n B a:=fun a ha=>by
    rcases dH.mp ha with q | q
    ·exact h a q
    ·rw[df.mp q];exact jj
   have TF:((pre++[l]++[(⟨g,ci g l.t,y⟩:aX)]).map aX.key).Nodup:=by
    rw[eX];refine hQ.mpr ⟨nd,List.pairwise_singleton _ _,fun a ha c hc e=>?_⟩;rw[df.mp hc]at e;rw[e,<- Kr]at ha;exact absurd (sq.mpr ha) (by rw[show aC (aX.key ⟨g,ci g l.t,y⟩) (dK (pre++[l]))=none from ws];decide)
   obtain⟨rest,E,sp,w,pf,e,W⟩:=ao (pre++[l]) ⟨g,ci g l.t,y⟩ (aS l.x) h' TF (by rw[cN,List.length_singleton,Nat.add_assoc,Nat.add_comm 1];exact hk)
   have ap:pre++[l]++(⟨g,ci g l.t,y⟩:aX)::rest=pre++l::⟨g,ci g l.t,y⟩::rest:=by rw[eQ];rfl
   rw[ap]at e;have dR:lX p n B X (σ++[.lst ((pre++[l]).map aX.pv),.dp (dK (pre++[l]))]):=b.more;refine⟨⟨g,ci g l.t,y⟩::rest,E,sp,w,pf,(Ll rfl ((st _).trans ((ai (a:=zL) ((cj ((BS _ rfl).trans (by rw[gB]))).trans ((ai (a:=G2) (p8 rfl (fk (vs:=[.inst bw X.i,.str l.x,.int l.t]) rfl (Hm (d:=d+2) hp dR hg)) rfl)).trans bE))).trans bE))).trans ?_,⟨ap▸W.ok,ap▸W.nd,⟨hg,rfl,W.pth⟩,fun z bp=>?_,W.ne⟩⟩
   ·exact e
   ·exact ap▸W.fin z (by rw[List.getLast?_cons_cons]at bp;exact bp)
theorem XW{s:am}(hp:dG p)(hpl:∀s∈p,lh s)(hv:gc B.es)(b:lX p n B X σ)(vL:p.length*n<=900)(o:kv p n B ⟨s,t,x⟩) :
  ∃rest E,bv PP topN (d+4) v1 [.inst bw X.i,.str s.name,.int t] σ=.ok (.tup [.ref σ.length,E]) (σ++[.lst ((⟨s,t,x⟩::rest).map aX.pv),.dp (dK (⟨s,t,x⟩::rest))])/\tX p n B [] ⟨s,t,x⟩ rest E:=by
 obtain⟨rest,E,sp,w,pl,e,W⟩:=XX (d:=d) (nm:=.str s.name) (tv:=.int t) hp hpl hv b vL topN [] ⟨s,t,x⟩ none (fun a ha=>by rw[df.mp ha];exact o) (List.pairwise_singleton _ _) (by rw[List.length_nil,ij];exact fY (Nat.succ_le_succ vL) (by decide));refine⟨rest,E,?_,W⟩;rw[cs (fn:=qd) rfl rfl];have d6:=hp.steps s o.inn;have dE:=ai (C:=CC (d+3)) (n:=topN) (σ:=σ) (ρ:=bD X.i::aS s.name::ae t::List.replicate 11 none) (a:=vq) (r:=.cons r9 #v[sa,vu,zC,zD,zE,zF,zG,G3]) (bH (fL (i:=X.i) (ac:=σ) (au:=σ) (vs:=[.str s.name]) rfl b.ns rfl rfl (Bc (d:=d+2) b o.inn hp.names)));refine(congrArg a9 (a₂:=.ret (.tup [.ref σ.length,E]) (n0 X.i (.str s.name) (.int t) sp σ.length w E pl) (σ++[.lst ((⟨s,t,x⟩::rest).map aX.pv),.dp (dK (⟨s,t,x⟩::rest))])) (dE.trans ?_)).trans rfl;refine cS (ai (a:=r9) (fM (fL (i:=X.i) (ac:=σ) (au:=σ) (vs:=[.int t]) rfl b.ns rfl rfl (wo (d:=d+1) b o.t0 o.t1)))) ?_;refine cS (ai (a:=sa) (bx (px (fL (i:=X.i) (ac:=σ) (au:=σ) (vs:=[.str s.name,.int t]) rfl b.ns rfl rfl ((so (d:=d+2) b).trans (by rw[show aC (s.name,t) B.gs=none from o.no];rfl)))))) ?_;refine cS (ai (a:=vu) (bx (px (fL (i:=X.i) (ac:=σ) (au:=σ) (vs:=[s.pv,.int t]) rfl b.ns rfl rfl ((BB (d:=d+1) b d6 (hpl s o.inn) hv).trans (by unfold eE;rw[show dT B.es s t=some x from o.ms,Bool.and_comm];rfl)))))) ?_;refine cS (ai (a:=zC) (ρ':=bD X.i::aS s.name::ae t::some s.pv::aH σ.length::List.replicate 9 none) (σ':=σ++[.lst []]) rfl) ?_
 have nA:ex (CC (d+3)) topN zD (bD X.i::aS s.name::ae t::some s.pv::aH σ.length::List.replicate 9 none) (σ++[.lst []])=.next (bD X.i::aS s.name::ae t::some s.pv::aH σ.length::aH (σ.length+1)::List.replicate 8 none) (σ++[.lst [],.dp []]):=by
  refine(bH (v:=.ref (σ++[aV.lst []]).length) (σ':=(σ++[.lst []])++[.dp []]) rfl).trans ?_;rw[cN,eQ];rfl
 refine(ai nA).trans ((ai (a:=zE) (bH (v:=.int t) rfl)).trans ((ai (a:=zF) (bH (v:=.none) rfl)).trans ((ai (a:=zG) ((Oq rfl).trans e)).trans rfl)))
end
theorem Nl{α:Type}{f:α->H}{c:α->Bool}{g:H->af->ah (Option H)}:∀(l:List α),(∀a∈l,g (f a) σ=.ok (if c a=true then some (f a)else none) σ)->ea none g (l.map f) σ=.ok ((l.filter c).map f) σ:=by
 intro l
 induction l with
 | nil=>intro _;exact aE trivial
 | cons a l ao =>
  intro h;refine(aE trivial).trans ?_;rw[h a bu];show(ea none g (l.map f) σ).bind _=_;rw[ao fun y hy=>h y (bQ _ hy),List.filter_cons];cases c a <;> rfl
theorem Np{α:Type}{f:α->H}{c:α->Bool}{l:List α}{t:Nat}{elt it:X}(bZ:evIt C it ρ σ=.ok (l.map f,none) σ)(hl:l.length<=1000)(hc:∀a∈l,tst C cond ((dg cap ρ).set t (some (f a))) σ=.ok (c a) σ)(he:∀a∈l,ev C elt ((dg cap ρ).set t (some (f a))) σ=.ok (f a) σ)(aR:C.hd=false):ev C (.comp true t cap elt cond it) ρ σ=.ok (.fl ((l.filter c).map f)) σ:=by
 rw[lp,aR,bZ];show ir (l.map f).length (ea none (fun x σ=>((tst C cond ((dg cap ρ).set t (some x)) σ).bind fun b σ=>if b=true then(ev C elt ((dg cap ρ).set t (some x)) σ).bind fun v σ=>.ok (some v) σ else .ok none σ)) (l.map f) σ) _=_
 rw[Nl (c:=c) l fun a ha=>by
  show(tst C cond ((dg cap ρ).set t (some (f a))) σ).bind _=_;rw[hc a ha,cg]
  cases c a with
  | false=>rfl
  | true =>
   show(ev C elt ((dg cap ρ).set t (some (f a))) σ).bind _=_
   rw[he a ha];rfl]
 exact nq (by rw[bh];exact aK (List.length_filter_le _ _) (aK hl (by decide)))
theorem RL{k:Str×Int}{l:List (Str×Int)}(h:σ[r]?=some (.lst (l.map b2))):cX .isin (b2 k) (.ref r) σ=.ok (decide (k∈l)) σ:=by
 show ah.ofOpt (d0 (b2 k) (.ref r) σ) σ=_
 have:d0 (b2 k) (.ref r) σ=some (decide (k∈l)):=by unfold d0;dsimp only;exact h.symm▸A5
 rw[this];rfl
theorem NY{k j:Str×Int}:cX .eq (b2 k) (b2 j) σ=.ok (decide (k=j)) σ:=congrArg (ah.ok · σ) (wb k j)
theorem TG{k:Str×Int}:cX .ne (b2 k) (b2 k) σ=.ok false σ:=by
 refine(congrArg (fun b=>ah.ok (!b) σ) (wb k k)).trans ?_;rw[dI rfl];rfl
theorem v3{Γ:dN}{B:bS}(S:cq Γ B σ){k:Str×Int}:cX .isin (b2 k) (.ref Γ.gl) σ=.ok (aC k B.gs).isSome σ:=by
 have os:B.os=(B.gs.map (·.1)).map b2:=by rw[S.gk.os,gL];rfl
 refine(RL (l:=B.gs.map (·.1)) (by rw[S.gl,os])).trans (congrArg (ah.ok · σ) ?_);rw[Bool.eq_iff_iff,i5];exact sq.symm
theorem T4{Γ:dN}{B:bS}(S:cq Γ B σ){k:Str×Int}(h:aC k B.gs=none):cX .notin (b2 k) (.ref Γ.gl) σ=.ok true σ:=by
 have e:ah.ofOpt (d0 (b2 k) (.ref Γ.gl) σ) σ=.ok false σ:=(v3 S (k:=k)).trans (by rw[h];rfl);show ah.ofOpt ((d0 (b2 k) (.ref Γ.gl) σ).map (!·)) σ=_
 cases hq:d0 (b2 k) (.ref Γ.gl) σ with
 | none=>rw[hq]at e;exact nomatch e
 | some b =>
  rw[hq]at e
  cases b with
  | true=>exact nomatch e
  | false=>rfl
noncomputable def ww:Option am->H
 | some s=>s.pv
 | none=>.none
section
variable {p:List am}
theorem I5(hp:dG p):bv PP topN (d+1) AK [bg p,.str x] σ=.ok (ww (fz p x)) σ:=by
 rw[cs (fn:=Fa) rfl rfl]
 have io:ev (CC d) Fb [some (bg p),aS x] σ=.ok (.fl ((p.filter fun s=>decide (x∈s.gives)).map am.pv)) σ:=
  Np rfl (aK hp.most (by decide)) (fun a J=>b7 (x:=.str x) (ac:=σ) rfl (y:=.tup (a.gives.map .str)) (au:=σ) rfl (show ah.ofOpt (iC σ (.str x) (a.gives.map .str)) σ=_ by rw[Jl];rfl)) (fun J J=>rfl) rfl
 have hg:fz p x=(p.filter fun s=>decide (x∈s.gives)).head?:=List.head?_filter.symm;have I3:(p.filter fun s=>decide (x∈s.gives)).length<=20:=aK (List.length_filter_le _ _) hp.most;rw[hg];generalize (p.filter fun s=>decide (x∈s.gives))=l at io I3
 have Jd:(l.map am.pv++[H.none]).length<=aI:=by rw[cN,bh];exact aK (Nat.add_le_add_right I3 1) (by decide)
 refine(congrArg a9 (be (a:=Fc) (cT (cM (cp io (y:=.fl [.none]) (au:=σ) rfl (CQ (by rw[<- cN];exact Jd))) (y:=.int 0) (au:=σ) rfl (km (x:=ww l.head?) Jd (Int.le_refl 0) ?_))))).trans rfl;cases l <;> rfl
end
noncomputable def mU(Γ:dN)(r:Nat)(E:H)(a b c st Mz:Option H):aB:=some (bg Γ.p)::aH Γ.tk::aH Γ.gl::aH r::some E::a::b::c::st::Mz::List.replicate 6 none
section
variable {Γ:dN}{B:bS}
theorem Wq{l:List H}{x:H}(h:σ[r]?=some (.lst l))(hl:l.length<=1000)(hx:l.getLast?=some x):f6 (.ref r) (.int (-1)) σ=.ok x σ:=by
 have e:cx σ (.ref r)=some l:=by unfold cx;dsimp only;rw[h]
 show(match cx σ (.ref r)with
  | some xs=>lD xs (-1) σ
  | none=>.stuck)=_
 rw[e];show(if l.length<=aI then ah.ofOpt ((fD (-1) l.length).bind (l[·]?)) σ else .stuck)=_;rw[aE (aK hl (by decide))];rw[List.getLast?_eq_getElem?]at hx
 have fB:1<=l.length:=Nat.pos_of_ne_zero fun q=>by rw[ii q]at hx;exact nomatch hx
 have oX:(0:Int)<=-1+(l.length:Int):=by
  have:=Int.ofNat_le.mpr fB;rw[Int.add_comm];exact Int.sub_nonneg_of_le this
 have bM:(-1+(l.length:Int)).toNat=l.length-1:=by rw[Int.add_comm];exact(congrArg Int.toNat (Int.ofNat_sub fB).symm).trans (jy _)
 unfold fD;rw[a5 (by decide),aE oX,bM];show ah.ofOpt l[l.length-1]? σ=_;rw[hx];rfl
theorem VU{l:List aX}{k:Str×Int}{v:H}(h:aC k (dK l)=some v):∃(i:Nat) (a:aX),v=.int (i:Nat)/\l[i]?=some a/\a.key=k:=by
 unfold aC at h;refine az (Option.map_eq_some_iff.mp h) fun e he hv=>?_;have hk:=ht (List.find?_some (p:=fun e:(Str×Int)×H=>decide (e.1=k)) he);unfold dK at he;refine az (cL.mp (List.mem_of_find?_eq_some he)) fun q hq bp=>?_;refine⟨q.2,q.1,?_,List.mem_zipIdx_iff_getElem?.mp hq,?_⟩
 ·rw[<- hv,<- bp]
 ·rw[<- hk,<- bp]
theorem DH{E:H}{z:aX}{s:am}(d6:gK s):ev (CC (d+2)) (.bin .sub (.v 6) (.b1 .int (.cmp (.sub (.v 8) (aa 1)) .eq (.tup #v[(.k (.str "later"))])))) (mU Γ r E (aS z.s.name) (ae z.t) (aS z.x) (some s.pv) none) σ=.ok (.int (ci s z.t)) σ:=by
 refine(cp (x:=.int z.t) (ac:=σ) rfl (c0 (fm (x:=s.rule.pv) (y:=.tup [.str "later"]) (ac:=σ) (au:=σ) rfl rfl (tm d6.rule).1) int_bool) sub_int).trans ?_;unfold ci;cases f4 s.rule
 ·exact congrArg (fun i=>ah.ok (H.int i) σ) (Int.sub_zero _)
 ·rfl
theorem NQ{E:H}{eA:List aX}{z:aX}{q:Mine.S}(ar:dO Γ)(hr:σ[r]?=some (.lst (eA.map aX.pv)))(kf:(eA.map aX.pv).length<=1000)(bp:eA.getLast?=some z):ex (CC (d+2)) topN (.cons yK (.cons yL q)) (mU Γ r E none none none none none) σ=ex (CC (d+2)) topN q (mU Γ r E (aS z.s.name) (ae z.t) (aS z.x) (some (ww (fz Γ.p z.x))) none) σ:=
 (ai (a:=yK) (p8 rfl (cM (x:=.ref r) (y:=.int (-1)) (ac:=σ) (au:=σ) rfl rfl (Wq hr kf (by rw[List.getLast?_map,bp];rfl))) (ρ':=mU Γ r E (aS z.s.name) (ae z.t) (aS z.x) none none) rfl)).trans (ai (a:=yL) (bH (fk (vs:=[bg Γ.p,.str z.x]) rfl (I5 (d:=d+1) ar.hp))))
theorem x4{E:H}{z:aX}{s:am}{q:Mine.S}(d6:gK s)(h:¬ci s z.t<0)(cH:tst (CC (d+2)) (.cmp (.v 4) .eq (.tup #v[(.k (.str "outside"))])) (mU Γ r E (aS z.s.name) (ae z.t) (aS z.x) (some s.pv) none) σ=.ok false σ)(mK:tst (CC (d+2)) (.cmp (.v 4) .eq (.tup #v[(.k (.str "first"))])) (mU Γ r E (aS z.s.name) (ae z.t) (aS z.x) (some s.pv) (ae (ci s z.t))) σ=.ok false σ) :
  ex (CC (d+2)) topN (.cons u1 (.cons u2 (.cons u3 (.cons u4 (.cons yM q))))) (mU Γ r E (aS z.s.name) (ae z.t) (aS z.x) (some s.pv) none) σ=ex (CC (d+2)) topN q (mU Γ r E (aS z.s.name) (ae z.t) (aS z.x) (some s.pv) (ae (ci s z.t))) σ:=
 (ai (a:=u1) (bx cH)).trans (cS (ai (a:=u2) rfl) ((ai (a:=u3) (bH (DH d6))).trans ((ai (a:=u4) (bx mK)).trans (ai (a:=yM) (bx (b7 (x:=.int (ci s z.t)) (ac:=σ) rfl (y:=.int 0) (au:=σ) rfl (lt_int.trans (by rw[f0 h]))))))))
theorem NT{eA:List aX}{z:aX}{E:H}(ar:dO Γ)(S:cq Γ B σ)(hr:σ[r]?=some (.lst (eA.map aX.pv)))(hl:eA.length<=900)(bp:eA.getLast?=some z)(gB:i2 Γ.p B (dK eA) z.x z.t E)(ne:iA E=false) :
  bv PP topN (d+3) Ir [bg Γ.p,.ref Γ.tk,.ref Γ.gl,.ref r,E] σ=.ok (.bool true) σ:=by
 rw[cs (fn:=EM) rfl rfl]
 have kf:(eA.map aX.pv).length<=1000:=by rw[bh];exact aK hl (by decide)
 have pre:=fun{E:H} {q:Mine.S}=>NQ (d:=d) (Γ:=Γ) (σ:=σ) (r:=r) (E:=E) (q:=q) ar hr kf bp
 cases gB with
 | out hg =>
  rw[hg]at pre;exact(congrArg a9 (pre.trans rfl)).trans rfl
 | first s hg L =>
  rw[hg]at pre;exact(congrArg a9 (pre.trans (cS (ai (a:=u1) rfl) (cS (ai (a:=u2) rfl) ((ai (a:=u3) (bH (DH (ar.hp.steps s (nb hg).1)))).trans (be (a:=u4) ((cj (σ':=σ) rfl).trans (be (a:=EO) (cT (fm (x:=.int (ci s z.t)) (ac:=σ) rfl (y:=.int 0) (au:=σ) rfl (lt_int.trans (by rw[dI L])))))))))))).trans rfl
 | left s hg L O =>
  rw[hg]at pre;exact(congrArg a9 (pre.trans ((x4 (ar.hp.steps s (nb hg).1) L rfl rfl).trans (be (a:=u5) ((cj (σ':=σ) rfl).trans (be (a:=EP) (cT (fm (x:=b2 (s.name,ci s z.t)) (ac:=σ) rfl (y:=.ref Γ.gl) (au:=σ) rfl ((v3 S).trans (by rw[O])))))))))).trans rfl
 | ready s hg L O ax =>
  rw[hg]at pre;have d6:=ar.hp.steps s (nb hg).1;exact(congrArg a9 (pre.trans ((x4 d6 L rfl rfl).trans (cS (ai (a:=u5) rfl) (be (a:=yN) ((cj (σ':=σ) rfl).trans (be (a:=EQ) (cT (ln (l6 (fm (x:=b2 (s.name,ci s z.t)) (ac:=σ) rfl (y:=.ref Γ.gl) (au:=σ) rfl (T4 S O)) (l5 (fm (fk (vs:=[s.pv,.ref Γ.tk,.int (ci s z.t)]) rfl ((wk (d:=d) d6 S.tk S.ok).trans (by rw[ax]))) (y:=.none) (au:=σ) rfl rfl)))))))))))).trans rfl
 | ring s v hg L aT =>
  rw[hg]at pre;obtain⟨i,a,rfl,ha,hk⟩:=VU aT;exact(congrArg a9 (pre.trans ((x4 (ar.hp.steps s (nb hg).1) L rfl rfl).trans (cS (ai (a:=u5) rfl) (cS (ai (a:=yN) rfl) (cS (ai (a:=ER) rfl) (be (a:=EN) (cT (ln (l6 (fm (x:=.int 0) (y:=.int (i:Nat)) (ac:=σ) (au:=σ) rfl rfl (le_int.trans (by rw[dI (d8 i)]))) (l6 (fm (x:=.int (i:Nat)) (ac:=σ) rfl (c0 (x:=.ref r) (ac:=σ) rfl (qA hr kf)) (lt_int.trans (by rw[bh,dI (d3.mpr (dS ha).1)]))) (l5 (fm (rU (cM (x:=.ref r) (y:=.int (i:Nat)) (ac:=σ) (au:=σ) rfl rfl (wN (x:=a.pv) hr (aK kf (by decide)) (d8 i) (by rw[jy,fg,ha];rfl))) (y:=.none) (z:=.int 2) (au:=σ) (gq:=σ) rfl rfl (v:=.ok (b2 a.key) σ) rfl) (y:=b2 (s.name,ci s z.t)) (au:=σ) rfl (NY.trans (by rw[dI hk]))))))))))))))).trans rfl
 | go=>exact nomatch ne
end
theorem i2.tup{p:List am}{B:bS}{ss:c6}{E:H}(h:i2 p B ss x t E):iA E=false->∃xs,E=.tup xs:=by
 induction h with
 | go=>exact fun ne=>nomatch ne
 | _=>exact fun J=>⟨_,rfl⟩
theorem Kn{k:Nat}(h:σ[r]?=some (.lst xs))(hl:xs.length<=1000)(hk:k<=xs.length):kl (.ref r) .none (.int (k:Nat)) σ=.ok (.fl (xs.take k)) σ:=by
 refine BJ (a:=none) (b:=some (k:Int)) rfl rfl ?_;show(cx σ (.ref r)).bind (fun xs=>if xs.length<=aI then some (H.fl (ep xs none (some (k:Int))))else none)=_;rw[show cx σ (.ref r)=some xs by unfold cx;dsimp only;rw[h]];show(if xs.length<=aI then some (H.fl (ep xs none (some (k:Int))))else none)=_;rw[aE (aK hl (by decide))];show some (H.fl ((xs.drop 0).take (clipAt xs.length (k:Int)-0)))=_;rw[List.drop_zero,Nat.sub_zero,clipAt_nat,Nat.min_eq_left hk]
theorem VJ(h:σ[r]?=some (.lst xs))(hl:xs.length<=1000):kl (.ref r) .none (.int (-1)) σ=.ok (.fl xs.dropLast) σ:=by
 refine BJ (a:=none) (b:=some (-1)) rfl rfl ?_;show(cx σ (.ref r)).bind (fun xs=>if xs.length<=aI then some (H.fl (ep xs none (some (-1))))else none)=_;rw[show cx σ (.ref r)=some xs by unfold cx;dsimp only;rw[h]];show(if xs.length<=aI then some (H.fl (ep xs none (some (-1))))else none)=_;rw[aE (aK hl (by decide))];show some (H.fl ((xs.drop 0).take (clipAt xs.length (-((1:Nat):Int))-0)))=_;rw[List.drop_zero,Nat.sub_zero,clipAt_neg _ 1 (dz 1),List.dropLast_eq_take]
theorem AT{o lo hi:X}:evIt C (.slice o lo hi) ρ σ=(ev C (.slice o lo hi) ρ σ).bind eD:=rfl
theorem IY{it:X}{l:List aX}(bZ:evIt C it ρ σ=.ok (l.map aX.pv,none) σ)(hl:l.length<=1000)(aR:C.hd=false):ev C (.comp true 1 [none,none] (.slice (.v 1) (.k .none) (aa 2)) (.k (.bool true)) it) ρ σ=.ok (.fl ((l.map aX.key).map b2)) σ:=by
 refine(m0 (fun y=>match y with | .tup (a::b::_)=>.tup [a,b] | _=>.none) bZ (by rw[bh];exact aK hl (by decide)) (fun y hy=>?_) aR).trans ?_
 ·refine az (cL.mp hy) fun a J ag=>?_;obtain rfl:=ag;rfl
 ·rw[gL,gL];rfl
theorem IG{k:Str×Int}{l:List (Str×Int)}(h:k∉l):cX .isin (b2 k) (.fl (l.map b2)) σ=.ok false σ:=by
 show ah.ofOpt (iC σ (b2 k) (l.map b2)) σ=_;rw[A5,f0 h];rfl
noncomputable def hf(Γ:dN)(r:Nat)(E nm tv:H)(om k st:Option H):aB:=some (bg Γ.p)::aH Γ.tk::aH Γ.gl::some (.tup [.ref r,E])::some nm::some tv::aH r::some E::om::k::st::List.replicate 10 none
section
variable {Γ:dN}{B:bS}{E nm:H}{eA:List aX}
theorem Kj{pre rest:List aX}{a:aX}(ar:dO Γ)(S:cq Γ B σ)(hr:σ[r]?=some (.lst (eA.map aX.pv)))(hl:eA.length<=900)(bf:eA=pre++a::rest)(o:kv Γ.p Γ.n B a)(nd:(eA.map aX.key).Nodup)(hp:tU Γ.p a rest) :
  ∃er,ex (CC (d+3)) topN zn (hf Γ r E nm tv (some (b2 a.key)) (ae (pre.length:Nat)) st) σ=.next (hf Γ r E nm tv (some (b2 (rest.headD a).key)) (ae (pre.length:Nat)) er) σ:=by
 have kf:(eA.map aX.pv).length<=1000:=by rw[bh];exact aK hl (by decide)
 have at_:eA[pre.length]?=some a:=by rw[bf,hP (dz _),Nat.sub_self];rfl
 have pl:pre.length<eA.length:=(dS at_).1;have lk:∀{om st:Option H},ev (CC (d+3)) (.sub (.v 6) (.v 9)) (hf Γ r E nm tv om (ae (pre.length:Nat)) st) σ=.ok a.pv σ:=fun{om st}=>cM (x:=.ref r) (y:=.int (pre.length:Nat)) (ac:=σ) (au:=σ) rfl rfl (wN hr (aK kf (by decide)) (d8 _) (by rw[jy,fg,at_];rfl));have wg:∀{om st:Option H},ev (CC (d+3)) (.sub (.sub (.v 6) (.v 9)) (aa 2)) (hf Γ r E nm tv om (ae (pre.length:Nat)) st) σ=.ok (.str a.x) σ:=fun{om st}=>cM lk (y:=.int 2) (au:=σ) rfl rfl;have d6:=ar.hp.steps a.s o.inn;refine⟨some (ww (fz Γ.p a.x)),?_⟩;refine cS (ai (a:=Gp) (bx (h6 (h7 (fU (q:=true) (BV (x0 lk rfl))) (h7 (b7 (c0 lk (v:=.ok (.int 3) σ) rfl) (y:=.int 3) (au:=σ) rfl rfl) (iZ (b7 (rU lk (y:=.none) (z:=.int 2) (au:=σ) (gq:=σ) rfl rfl (v:=.ok (b2 a.key) σ) rfl) (y:=b2 a.key) (au:=σ) rfl TG))))))) ?_;refine cS (ai (a:=Gq) (bx (BV (x0 (cM lk (y:=.int 1) (au:=σ) rfl (v:=.ok (.int a.t) σ) rfl) rfl)))) ?_;refine cS (ai (a:=Gr) (bH (A0 ar.hp o.inn rfl rfl (fun J=>rfl) fun J=>rfl))) ?_;refine cS (ai (a:=Gs) (bx (h6 (h7 (b7 (x:=b2 a.key) (y:=.ref Γ.gl) (ac:=σ) (au:=σ) rfl rfl ((v3 S).trans (by rw[o.no];rfl))) (h7 (b7 wg (y:=.none) (au:=σ) rfl rfl) (iZ (b7 wg (fk (vs:=[a.s.pv,.ref Γ.tk,.int a.t]) rfl ((wk (d:=d+1) d6 S.tk S.ok).trans (by rw[o.ms];rfl))) (JG.trans (by rw[beq_self_eq_true];rfl))))))))) ?_;refine cS (ai (a:=Gu) (bH (iu (x:=bg Γ.p) (ac:=σ) rfl wg (I5 (d:=d+2) ar.hp)))) ?_
 have mK:∀{st:Option H},tst (CC (d+3)) (.cmp (.bin .add (.v 9) (aa 1)) .lt (.b1 .len (.v 6))) (hf Γ r E nm tv (some (b2 a.key)) (ae (pre.length:Nat)) st) σ=.ok (decide (pre.length+1<eA.length)) σ:=fun{st}=>by
  refine(b7 (x:=.int ((pre.length:Int)+1)) (ac:=σ) rfl (c0 (x:=.ref r) (ac:=σ) rfl (qA hr kf)) lt_int).trans (congrArg (ah.ok · σ) ?_);rw[bh];exact decide_eq_decide.mpr d3
 have fl:eA.length=pre.length+1+rest.length:=by rw[bf,cN,dj,Nat.add_assoc,Nat.add_comm 1]
 cases rest with
 | nil=>exact cS (ai (a:=zo) (bx (mK.trans (by rw[f0 (by rw[fl];exact Nat.lt_irrefl _)])))) rfl
 | cons b rest =>
  refine d4 hp fun hg aO J=>?_;have MM:=(nb hg).1;rw[hg]
  have Wy:tst (CC (d+3)) (.or #v[(.cmp (.v 10) .is (.k .none)),(.cmp (.v 8) .isin Gj)]) (hf Γ r E nm tv (some (b2 a.key)) (ae (pre.length:Nat)) (some b.s.pv)) σ=.ok false σ:=by
   refine h6 (h7 (ac:=σ) rfl (iZ (b7 (x:=b2 a.key) (ac:=σ) rfl (IY (l:=pre) ?_ (aK (Nat.le_of_lt pl) (aK hl (by decide))) rfl) (IG ?_))))
   ·rw[AT,rU (x:=.ref r) (y:=.none) (z:=.int (pre.length:Nat)) (ac:=σ) (au:=σ) (gq:=σ) rfl rfl rfl (Kn hr kf (by rw[bh];exact Nat.le_of_lt pl)),bf,eX,List.take_left' (by rw[bh])];rfl
   ·rw[bf,eX]at nd;exact fun z=>(hQ.mp nd).2.2 _ z _ bu rfl
  refine cS (ai (a:=zo) ((cj (mK.trans (by rw[dI (by rw[fl];exact Nat.lt_add_of_pos_right (Nat.succ_pos _))]))).trans ((ai (a:=Gv) (bx Wy)).trans ((ai (a:=Gw) (bH (v:=b2 b.key) ?_)).trans bE)))) rfl;refine(x1 (a:=.str b.s.name) rfl (cp (x:=.int a.t) (ac:=σ) rfl (c0 (fm (x:=b.s.rule.pv) (y:=.tup [.str "later"]) (ac:=σ) (au:=σ) rfl rfl (tm (ar.hp.steps b.s MM).rule).1) int_bool) sub_int)).trans ?_;show ah.ok (H.tup [.str b.s.name,.int (a.t-_)]) σ=ah.ok (H.tup [.str b.s.name,.int b.t]) σ;rw[aO];unfold ci;cases f4 b.s.rule
  ·rw[a5 (by decide),a5 (by decide),Int.sub_zero]
  ·rfl
theorem VA(ar:dO Γ)(S:cq Γ B σ)(hr:σ[r]?=some (.lst (eA.map aX.pv)))(hl:eA.length<=900)(ok:∀a∈eA,kv Γ.p Γ.n B a)(nd:(eA.map aX.key).Nodup):∀(rest pre:List aX) (a:aX) (k st:Option H),eA=pre++a::rest->tU Γ.p a rest ->
  ∃z bW er,eA.getLast?=some z/\ch none (dm 9) (fun ρ σ=>ex (CC (d+3)) topN zn ρ σ) ((List.range' pre.length (rest.length+1)).map fun(i:Nat)=>H.int (0+(i:Int)*1)) (hf Γ r E nm tv (some (b2 a.key)) k st) σ=.next (hf Γ r E nm tv (some (b2 z.key)) bW er) σ:=by
 intro rest
 induction rest with
 | nil =>
  intro pre a k st bf hp;refine aM (Kj (d:=d) (E:=E) (nm:=nm) (tv:=tv) (st:=st) ar S hr hl bf (ok a (bf▸e6 _ bu)) nd hp) fun er e=>?_;refine⟨a,ae (pre.length:Nat),er,by rw[bf,List.getLast?_concat],?_⟩;rw[j1,dw,show(0:Int)+(pre.length:Int)*1=pre.length by rw[Int.zero_add,Int.mul_one]];exact(ek (b4:=hf Γ r E nm tv (some (b2 a.key)) (ae (pre.length:Nat)) st) rfl e).trans eS
 | cons b rest ao =>
  intro pre a k st bf hp;refine aM (Kj (d:=d) (E:=E) (nm:=nm) (tv:=tv) (st:=st) ar S hr hl bf (ok a (bf▸e6 _ bu)) nd hp) fun er e=>?_;obtain⟨z,bW,wL,bp,ak⟩:=ao (pre++[a]) b (ae (pre.length:Nat)) er (by rw[bf,eQ];rfl) hp.2.2;refine⟨z,bW,wL,bp,?_⟩;rw[j1,dw,show(0:Int)+(pre.length:Int)*1=pre.length by rw[Int.zero_add,Int.mul_one]];rw[cN,List.length_singleton]at ak;exact(ek (b4:=hf Γ r E nm tv (some (b2 a.key)) (ae (pre.length:Nat)) st) rfl e).trans ak
theorem Vz{l:aX}{rest:List aX}(ar:dO Γ)(S:cq Γ B σ)(hr:σ[r]?=some (.lst ((l::rest).map aX.pv)))(W:tX Γ.p Γ.n B [] l rest E):bv PP topN (d+4) Ix [bg Γ.p,.ref Γ.tk,.ref Γ.gl,.tup [.ref r,E],.str l.s.name,.int l.t] σ=.ok (.bool true) σ:=by
 have UD:Γ.p.length*Γ.n<=120:=Nat.mul_le_mul ar.hp.most ar.hn;have fl:=aK (wa W.ok W.nd) UD;have hl:(l::rest).length<=900:=aK fl (by decide)
 have kf:((l::rest).map aX.pv).length<=1000:=by rw[bh];exact aK hl (by decide)
 obtain⟨z,bW,er,bp,e⟩:=VA (d:=d) (E:=E) (nm:=.str l.s.name) (tv:=.int l.t) ar S hr hl W.ok W.nd rest [] l none none rfl W.pth;have fin:=W.fin z bp;refine aM (fin.tup W.ne) fun xs ag=>?_;have rX:=NT (d:=d) ar S hr hl bp fin W.ne;obtain rfl:=ag;rw[cs (fn:=Gi) rfl rfl]
 have lO:ex (CC (d+3)) topN Gm (hf Γ r (.tup xs) (.str l.s.name) (.int l.t) none none none) σ=.next (hf Γ r (.tup xs) (.str l.s.name) (.int l.t) none none none) σ:=bx (h6 (h7 (fU (q:=true) (BV (x0 (x:=.ref r) (ac:=σ) rfl (SA hr)))) (iZ rfl)))
 have it:evIt (CC (d+3)) (.range1 (.b1 .len (.v 6))) (hf Γ r (.tup xs) (.str l.s.name) (.int l.t) (some (b2 l.key)) none none) σ=.ok ((List.range' 0 (rest.length+1)).map fun(i:Nat)=>H.int (0+(i:Int)*1),none) σ:=by
  refine(po (n:=(l::rest).length) (c0 (x:=.ref r) (ac:=σ) rfl ((qA hr kf).trans (by rw[bh]))) (aK fl (by decide))).trans ?_;unfold cZ;rw[j0];rfl
 have nA:ex (CC (d+3)) topN Gx (hf Γ r (.tup xs) (.str l.s.name) (.int l.t) (some (b2 z.key)) bW er) σ=.next (hf Γ r (.tup xs) (.str l.s.name) (.int l.t) (some (b2 z.key)) bW er) σ:=by
  have hd:(l::rest).dropLast++[z]=l::rest:=by
   refine aM (List.getLast?_eq_some_iff.mp bp) fun ys hy=>?_;rw[hy,List.dropLast_concat]
  refine bx (h6 (h7 (b7 (x:=.ref r) (y:=.fl []) (ac:=σ) (au:=σ) rfl rfl ?_) (iZ (b7 (x:=b2 z.key) (ac:=σ) rfl (IY (l:=(l::rest).dropLast) ?_ (by rw[List.length_dropLast];exact aK (Nat.sub_le _ _) (aK hl (by decide))) rfl) (IG ?_)))))
  ·have WD:∃ds,((l::rest).map aX.pv).mapM (cK 15 σ)=some ds/\ds.length=((l::rest).map aX.pv).length:=s3 fun x hx=>by
    refine az (cL.mp hx) fun a J q=>?_;obtain rfl:=q;exact⟨_,rfl⟩
   refine az WD fun ds L O=>?_
   have V:cK 16 σ (.ref r)=some (.list ds):=by
    show(match σ[r]? with | some (.lst xs)=>(xs.mapM (cK 15 σ)).map PyData.list | _=>none)=_;rw[hr];show(((l::rest).map aX.pv).mapM (cK 15 σ)).map PyData.list=_;rw[L];rfl
   show ah.ofOpt (eqv σ (.ref r) (.fl [])) σ=_;unfold eqv;rw[V]
   cases ds with
   | nil=>exact nomatch O
   | cons _ _=>rfl
  ·rw[AT,rU (x:=.ref r) (y:=.none) (z:=.int (-1)) (ac:=σ) (au:=σ) (gq:=σ) rfl rfl rfl (VJ hr kf),<- List.map_dropLast];rfl
  ·have nd:((l::rest).map aX.key).Nodup:=W.nd;rw[<- hd,eX]at nd;exact fun q=>(hQ.mp nd).2.2 _ q _ bu rfl
 refine(congrArg a9 (a₂:=.ret (.bool true) (hf Γ r (.tup xs) (.str l.s.name) (.int l.t) (some (b2 z.key)) bW er) σ) ?_).trans rfl;refine cS (ai (a:=Gk) rfl) (cS (ai (a:=Gl) (p8 rfl rfl (ρ':=hf Γ r (.tup xs) (.str l.s.name) (.int l.t) none none none) rfl)) ((ai lO).trans (cS (ai (a:=Gn) (ρ':=hf Γ r (.tup xs) (.str l.s.name) (.int l.t) (some (b2 l.key)) none none) (σ':=σ) rfl) ((ai (a:=Go) (eY it e)).trans ((ai nA).trans (be (a:=Gy) (cT (fk (vs:=[bg Γ.p,.ref Γ.tk,.ref Γ.gl,.ref r,.tup xs]) rfl rX))))))))
end
theorem DL{s:am}:cX .eq (.fl [s.pv]) (.fl []) σ=.ok false σ:=by
 obtain⟨e,he⟩:=KW (σ:=σ) (m:=12) s
 have L:cK 16 σ (.fl [s.pv])=some (.list [e]):=by
  show([s.pv].mapM (cK 15 σ)).map PyData.list=_;rw[List.mapM_cons,he];rfl
 show ah.ofOpt (eqv σ (.fl [s.pv]) (.fl [])) σ=_;unfold eqv;rw[L];rfl
inductive lW(Γ:dN)(B:bS):H->H->Prop
 | nostep (bC tv:H) (hn:jU bC) (aO:i4 tv) (h:j9 Γ.p bC=none):lW Γ B bC tv
 | noturn (s:am) (tv:H) (hs:s∈Γ.p) (aO:i4 tv) (h:jJ Γ.n tv=false):lW Γ B (.str s.name) tv
 | fired (s:am) (t:Nat) (hs:s∈Γ.p) (aO:t<Γ.n) (h:(aC (s.name,(t:Int)) B.gs).isSome=true):lW Γ B (.str s.name) (.int (t:Int))
 | ready (s:am) (t:Nat) (hs:s∈Γ.p) (aO:t<Γ.n) (h:aC (s.name,(t:Int)) B.gs=none) (hm:dT B.es s (t:Int)=none):lW Γ B (.str s.name) (.int (t:Int))
 | go (s:am) (t:Nat) (x:Str) (o:kv Γ.p Γ.n B ⟨s,(t:Int),x⟩):lW Γ B (.str s.name) (.int (t:Int))
theorem t5{Γ:dN}{B:bS}{s:am}{t:Nat}(hs:s∈Γ.p)(aO:t<Γ.n):lW Γ B (.str s.name) (.int (t:Int)):=by
 cases hg:aC (s.name,(t:Int)) B.gs with
 | some v=>exact .fired s t hs aO (by rw[hg];rfl)
 | none =>
  cases hm:dT B.es s (t:Int)with
  | none=>exact .ready s t hs aO hg hm
  | some x=>exact .go s t x ⟨hs,d8 t,d3.mpr aO,hg,hm⟩
theorem Mn{Γ:dN}{B:bS}(hn:jU bC)(aO:i4 tv):lW Γ B bC tv:=by
 cases bf:j9 Γ.p bC with
 | none=>exact .nostep bC tv hn aO bf
 | some s =>
  obtain⟨rfl,hs⟩:=OD bf
  cases hq:jJ Γ.n tv with
  | false=>exact .noturn s tv hs aO hq
  | true =>
   obtain⟨t,rfl,Q3⟩:=WH hq;exact t5 hs Q3
section
variable {Γ:dN}{B:bS}
noncomputable def lY(i:Nat)(bC tv:H)(s:Option H):aB:=bD i::some bC::some tv::s::List.replicate 10 none
theorem t6{w:Str}(sw:[31,44,56,68,80,92,104,116,128,140,152].contains c=true)(hw:hE PP topN 1 (d+4) Iz [.exc c] σ=.ok (.str w) σ)(h:bv PP topN (d+4) v1 [.inst bw Γ.X.i,bC,tv] σ=.exc c σ):bv PP topN (d+5) kM [.inst bw Γ.X.i,bC,tv] σ=.ok (.str w) σ:=by
 rw[cs (fn:=yH) rfl rfl]
 have aR:ex (CC (d+4)).inH topN #v[u0] [bD Γ.X.i,some bC,some tv,some (.exc c),none,none,none] σ=.ret (.str w) [bD Γ.X.i,some bC,some tv,some (.exc c),none,none,none] σ:=
  be (cT (eb (x:=.exc c) (ac:=σ) rfl hw))
 have dE:ex (CC (d+4)) topN yI [bD Γ.X.i,some bC,some tv,none,none,none,none] σ=.ret (.str w) (List.replicate 7 none) σ:=by
  refine(Op (h:=.cons u0 .nil) (p9 (a:=yJ) (On (fk (vs:=[.inst bw Γ.X.i,bC,tv]) rfl h))) sw (Nat.le_of_ble_eq_true rfl) rfl).trans ?_;show p1 (ex (CC (d+4)).inH topN #v[u0] [bD Γ.X.i,some bC,some tv,some (.exc c),none,none,none] σ)=_;rw[aR];rfl
 exact(congrArg a9 (be dE)).trans rfl
theorem Mq{v:H}(h:bv PP topN (d+4) v1 [.inst bw Γ.X.i,bC,tv] σ=.ok v σ'):bv PP topN (d+5) kM [.inst bw Γ.X.i,bC,tv] σ=.ok v σ':=by
 rw[cs (fn:=yH) rfl rfl];exact(congrArg a9 (be (a:=yI) (Oo (be (a:=yJ) (cT (fk (vs:=[.inst bw Γ.X.i,bC,tv]) rfl h))) (fun J J J z=>by contradiction)))).trans rfl
theorem Ck{s:am}{r:S}(ar:dO Γ)(S:cq Γ B σ)(hs:s∈Γ.p):ex (CC (d+3)) topN (.cons vq r) (lY Γ.X.i (.str s.name) tv none) σ=ex (CC (d+3)) topN r (lY Γ.X.i (.str s.name) tv (some s.pv)) σ:=
 ai (bH (fL (i:=Γ.X.i) (ac:=σ) (au:=σ) (vs:=[.str s.name]) rfl S.bo.ns rfl rfl (Bc (d:=d+2) S.bo hs ar.hp.names)))
theorem Lm{s:am}{t:Nat}{r:S}(S:cq Γ B σ)(aO:t<Γ.n):ex (CC (d+3)) topN (.cons r9 r) (lY Γ.X.i (.str s.name) (.int (t:Int)) (some s.pv)) σ=ex (CC (d+3)) topN r (lY Γ.X.i (.str s.name) (.int (t:Int)) (some s.pv)) σ:=
 ai (fM (fL (i:=Γ.X.i) (ac:=σ) (au:=σ) (vs:=[.int (t:Int)]) rfl S.bo.ns rfl rfl (wo (d:=d+1) S.bo (d8 t) (d3.mpr aO))))
theorem Ln{s:am}{t:Nat}(S:cq Γ B σ):tst (CC (d+3)) (.meth bw ml "has_fired" (.v 0) #v[(.v 1),(.v 2)]) (lY Γ.X.i (.str s.name) (.int (t:Int)) (some s.pv)) σ=.ok (aC (s.name,(t:Int)) B.gs).isSome σ:=px (fL (i:=Γ.X.i) (ac:=σ) (au:=σ) (vs:=[.str s.name,.int (t:Int)]) rfl S.bo.ns rfl rfl (so (d:=d+2) S.bo))
noncomputable def jX(Γ:dN)(bC tv:H)(f st:Option H):aB:=bD Γ.X.i::some (bg Γ.p)::aH Γ.tk::aH Γ.gl::ae (Γ.n:Nat)::some bC::some tv::f::st::List.replicate 6 none
theorem sf{v:H}{r:S}(ar:dO Γ)(hn:jU bC)(h:bv PP topN (d+5) kM [.inst bw Γ.X.i,bC,tv] σ=.ok v σ'):ex (CC (d+5)) topN (.cons yT (.cons yU r)) (jX Γ bC tv none none) σ=ex (CC (d+5)) topN r (jX Γ bC tv (some v) (some (.fl ((j9 Γ.p bC).toList.map am.pv)))) σ':=
 (ai (a:=yT) (bH (fk (vs:=[.inst bw Γ.X.i,bC,tv]) rfl h))).trans ((ai (a:=yU) (bH (Kw ar.hp hn rfl rfl (fun J=>rfl) fun J=>rfl))).trans rfl)
theorem Ht{f:Option H}(h:i4 tv):tst (CC d) (.or #v[(.isinst (.v 6) .bool),(.not (.isinst (.v 6) .int)),(.not (.cmp2 (aa 0) .le (.v 6) .lt (.v 4)))]) (jX Γ bC tv f st) σ=.ok (!jJ Γ.n tv) σ:=by
 cases h with
 | bool b=>rfl
 | none=>rfl
 | str x=>rfl
 | int t =>
  have e:jJ Γ.n (.int t)=(decide (0<=t)&&decide (t<(Γ.n:Nat))):=congrArg (decide (0<=t)&&·) (decide_eq_decide.mpr Int.le_sub_one_iff)
  have lP:tst (CC d) (.cmp2 (aa 0) .le (.v 6) .lt (.v 4)) (jX Γ bC (.int t) f st) σ=.ok (jJ Γ.n (.int t)) σ:=by
   rw[e,K8,show ev (CC d) (aa 0) (jX Γ bC (.int t) f st) σ=.ok (.int 0) σ from rfl,cg,show ev (CC d) (.v 6) (jX Γ bC (.int t) f st) σ=.ok (.int t) σ from rfl,cg,le_int,cg];cases decide ((0:Int)<=t) <;> rfl
  exact h6 (h7 (ac:=σ) rfl (h7 (ac:=σ) rfl (iZ (fU lP))))
theorem WI{t:Nat}(h:t<n):jJ n (.int (t:Int))=true:=by
 unfold jJ;dsimp only;rw[dI (d8 t),dI (Int.le_sub_one_of_lt (d3.mpr h))];rfl
theorem z0{s:am}{t:Nat}{v:H}{r:S}(ar:dO Γ)(hs:s∈Γ.p)(aO:t<Γ.n):ex (CC d) topN (.cons u7 (.cons u8 r)) (jX Γ (.str s.name) (.int (t:Int)) (some v) (some (.fl ((j9 Γ.p (.str s.name)).toList.map am.pv)))) σ=ex (CC d) topN r (jX Γ (.str s.name) (.int (t:Int)) (some v) (some (.fl [s.pv]))) σ:=by
 rw[zR ar.hp.names hs];exact(ai (a:=u7) (bx (b7 (x:=.fl [s.pv]) (y:=.fl []) (ac:=σ) (au:=σ) rfl rfl DL))).trans (ai (a:=u8) (bx ((Ht (.int _)).trans (by rw[WI aO];rfl))))
theorem zZ{s:am}{t:Nat}{v:H}(S:cq Γ B σ):tst (CC d) (.cmp (.tup #v[(.v 5),(.v 6)]) .isin (.v 3)) (jX Γ (.str s.name) (.int (t:Int)) (some v) (some (.fl [s.pv]))) σ=.ok (aC (s.name,(t:Int)) B.gs).isSome σ:=b7 (x:=b2 (s.name,(t:Int))) (y:=.ref Γ.gl) (ac:=σ) (au:=σ) rfl rfl (v3 S)
theorem Hs{s:am}{t:Nat}{v:H}(ar:dO Γ)(S:cq Γ B σ)(hs:s∈Γ.p):tst (CC (d+5)) (.cmp (.call qs #v[(.sub (.v 8) (aa 0)),(.v 2),(.v 6)]) .is (.k .none)) (jX Γ (.str s.name) (.int (t:Int)) (some v) (some (.fl [s.pv]))) σ=.ok (dT B.es s (t:Int)).isNone σ:=
 b7 (fk (vs:=[s.pv,.ref Γ.tk,.int (t:Int)]) rfl (wk (d:=d+3) (ar.hp.steps s hs) S.tk S.ok)) (y:=.none) (au:=σ) rfl (by cases dT B.es s (t:Int) <;> rfl)
theorem Mo(S:cq Γ B σ)(hn:jU bC)(h:j9 Γ.p bC=none):bv PP topN (d+5) kM [.inst bw Γ.X.i,bC,tv] σ=.ok (.str "NoStep") σ:=by
 refine t6 (c:=Lq) rfl rfl ?_;rw[cs (fn:=qd) rfl rfl];exact(congrArg a9 (p9 (a:=vq) (Oj (fL (i:=Γ.X.i) (ac:=σ) (au:=σ) (vs:=[bC]) rfl S.bo.ns rfl rfl (TL (d:=d+2) S.bo hn h))))).trans rfl
theorem Mp{s:am}(ar:dO Γ)(S:cq Γ B σ)(hs:s∈Γ.p)(aO:i4 tv)(h:jJ Γ.n tv=false):bv PP topN (d+5) kM [.inst bw Γ.X.i,.str s.name,tv] σ=.ok (.str "NoTurn") σ:=by
 refine t6 (c:=Cn) rfl rfl ?_;rw[cs (fn:=qd) rfl rfl];have d5:=TM (d:=d+1) S.bo aO;rw[h]at d5
 have V:ex (CC (d+3)) topN r9 (lY Γ.X.i (.str s.name) tv (some s.pv)) σ=.exc Cn (lY Γ.X.i (.str s.name) tv (some s.pv)) σ:=by
  show(ev (CC (d+3)) (.meth bw qq "need_turn" (.v 0) #v[(.v 2)]) (lY Γ.X.i (.str s.name) tv (some s.pv)) σ).toS _ _=_;rw[fL (i:=Γ.X.i) (ac:=σ) (au:=σ) (vs:=[tv]) rfl S.bo.ns rfl rfl d5];rfl
 exact(congrArg a9 ((Ck ar S hs).trans (p9 V))).trans rfl
theorem C4{s:am}{t:Nat}(ar:dO Γ)(S:cq Γ B σ)(hs:s∈Γ.p)(aO:t<Γ.n)(h:(aC (s.name,(t:Int)) B.gs).isSome=true):bv PP topN (d+5) kM [.inst bw Γ.X.i,.str s.name,.int (t:Int)] σ=.ok (.str "Fired") σ:=by
 refine t6 (c:=X3) rfl rfl ?_;rw[cs (fn:=qd) rfl rfl];exact(congrArg a9 ((Ck ar S hs).trans ((Lm S aO).trans (p9 (a:=sa) ((cj ((Ln S).trans (by rw[h]))).trans rfl))))).trans rfl
theorem C6{s:am}{t:Nat}(ar:dO Γ)(S:cq Γ B σ)(hs:s∈Γ.p)(aO:t<Γ.n)(h:aC (s.name,(t:Int)) B.gs=none)(hm:dT B.es s (t:Int)=none):bv PP topN (d+5) kM [.inst bw Γ.X.i,.str s.name,.int (t:Int)] σ=.ok (.str "IsReady") σ:=by
 refine t6 (c:=X4) rfl rfl ?_;rw[cs (fn:=qd) rfl rfl];have lP:tst (CC (d+3)) (.meth bw sQ "is_ready" (.v 0) #v[(.v 3),(.v 2)]) (lY Γ.X.i (.str s.name) (.int (t:Int)) (some s.pv)) σ=.ok true σ:=px (fL (i:=Γ.X.i) (ac:=σ) (au:=σ) (vs:=[s.pv,.int (t:Int)]) rfl S.bo.ns rfl rfl ((BB (d:=d+1) S.bo (ar.hp.steps s hs) (ar.hpl s hs) S.ok).trans (by unfold eE;rw[h,hm];rfl)));exact(congrArg a9 ((Ck ar S hs).trans ((Lm S aO).trans ((ai (a:=sa) (bx ((Ln S).trans (by rw[h];rfl)))).trans (p9 (a:=vu) ((cj lP).trans rfl)))))).trans rfl
theorem C5{s:am}{t:Nat}(ar:dO Γ)(S:cq Γ B σ)(o:kv Γ.p Γ.n B ⟨s,(t:Int),x⟩):∃rest E,bv PP topN (d+5) kM [.inst bw Γ.X.i,.str s.name,.int (t:Int)] σ=.ok (.tup [.ref σ.length,E]) (σ++[.lst ((⟨s,(t:Int),x⟩::rest).map aX.pv),.dp (dK (⟨s,(t:Int),x⟩::rest))])/\tX Γ.p Γ.n B [] ⟨s,(t:Int),x⟩ rest E:=by
 obtain⟨rest,E,w,W⟩:=XW (d:=d) ar.hp ar.hpl S.ok S.bo (aK (Nat.mul_le_mul ar.hp.most ar.hn) (by decide)) o;exact⟨rest,E,Mq w,W⟩
theorem zY(ar:dO Γ)(S:cq Γ B σ)(h:lW Γ B bC tv):∃τ,bv PP topN (d+6) v0 [.inst bw Γ.X.i,bg Γ.p,.ref Γ.tk,.ref Γ.gl,.int (Γ.n:Nat),bC,tv] σ=.ok (.bool true) (σ++τ):=by
 rw[cs (fn:=Fd) rfl rfl];have nil:σ++[]=σ:=iP σ
 cases h with
 | nostep bC tv hn aO h =>
  refine⟨[],?_⟩;rw[nil];refine(congrArg a9 (sf ar hn (Mo S hn h))).trans ?_;rw[h];rfl
 | noturn s tv hs aO h =>
  refine⟨[],?_⟩;rw[nil];refine(congrArg a9 (a₂:=.ret (.bool true) (jX Γ (.str s.name) tv (aS "NoTurn") (some (.fl [s.pv]))) σ) ((sf ar (.str _) (Mp ar S hs aO h)).trans ?_)).trans rfl;rw[zR ar.hp.names hs];exact(ai (a:=u7) (bx (b7 (x:=.fl [s.pv]) (y:=.fl []) (ac:=σ) (au:=σ) rfl rfl DL))).trans (be (a:=u8) ((cj ((Ht aO).trans (by rw[h];rfl))).trans rfl))
 | fired s t hs aO h =>
  refine⟨[],?_⟩;rw[nil];exact(congrArg a9 ((sf ar (.str _) (C4 ar S hs aO h)).trans ((z0 ar hs aO).trans (be (a:=u9) ((cj ((zZ S).trans (by rw[h]))).trans rfl))))).trans rfl
 | ready s t hs aO h hm =>
  refine⟨[],?_⟩;rw[nil];exact(congrArg a9 ((sf ar (.str _) (C6 ar S hs aO h hm)).trans ((z0 ar hs aO).trans ((ai (a:=u9) (bx ((zZ S).trans (by rw[h];rfl)))).trans (be (a:=yV) ((cj ((Hs ar S hs).trans (by rw[hm];rfl))).trans rfl)))))).trans rfl
 | go s t x o =>
  have aO:t<Γ.n:=d3.mp o.t1;obtain⟨rest,E,w,W⟩:=C5 (d:=d) ar S o;have i3:cq Γ B (σ++[.lst (((⟨s,(t:Int),x⟩:aX)::rest).map aX.pv),.dp (dK (⟨s,(t:Int),x⟩::rest))]):=S.more;have BI:=Vz (d:=d+1) (r:=σ.length) ar i3 hB W;exact⟨_,(congrArg a9 (a₂:=.ret (.bool true) (jX Γ (.str s.name) (.int (t:Int)) (some (.tup [.ref σ.length,E])) (some (.fl [s.pv]))) (σ++[.lst (((⟨s,(t:Int),x⟩:aX)::rest).map aX.pv),.dp (dK (⟨s,(t:Int),x⟩::rest))])) ((sf ar (.str _) w).trans ((z0 ar o.inn aO).trans ((ai (a:=u9) (bx ((zZ i3).trans (by rw[show aC (s.name,(t:Int)) B.gs=none from o.no];rfl)))).trans ((ai (a:=yV) (bx ((Hs ar i3 o.inn).trans (by rw[show dT B.es s (t:Int)=some x from o.ms];rfl)))).trans (be (a:=Fe) (cT (fk (vs:=[bg Γ.p,.ref Γ.tk,.ref Γ.gl,.tup [.ref σ.length,E],.str s.name,.int (t:Int)]) rfl BI)))))))).trans rfl⟩
end
section
variable {Γ:dN}{B:bS}
noncomputable def pQ(Γ:dN)(s t:Option H):aB:=[bD Γ.X.i,some (bg Γ.p),aH Γ.tk,aH Γ.gl,ae (Γ.n:Nat),s,t,none,none]
theorem BE{a:Nat}:(H.int (0+(a:Int)*1))=.int (a:Nat):=by rw[Int.mul_one,Int.zero_add]
theorem LY{s:am}(ar:dO Γ)(hs:s∈Γ.p):∀(k a:Nat) (σ:af) (z:Option H),a+k=Γ.n->cq Γ B σ ->
  ∃τ bA,ch none (dm 6) (fun ρ σ=>ex (CC (d+6)) topN EJ ρ σ) ((List.range' a k).map fun(i:Nat)=>H.int (0+(i:Int)*1)) (pQ Γ (some s.pv) z) σ=.next (pQ Γ (some s.pv) bA) (σ++τ):=by
 intro k
 induction k with
 | zero=>intro a σ z _ _;exact⟨[],z,by rw[iP];exact eS⟩
 | succ k ao =>
  intro a σ z ha S;refine aM (zY (d:=d) ar S (t5 hs (t:=a) (ha▸Nat.lt_add_of_pos_right (Nat.succ_pos k)))) fun τ e=>?_;obtain⟨Cs,bA,aF⟩:=ao (a+1) (σ++τ) (ae (a:Nat)) (by rw[<- ha,Nat.add_right_comm];rfl) S.more;refine⟨τ++Cs,bA,?_⟩;rw[j1,dw,BE,<- eQ];exact(ek (b4:=pQ Γ (some s.pv) (ae (a:Nat))) rfl ((ai (a:=EK) (bx (fU (q:=true) (h5 (fk (vs:=[.inst bw Γ.X.i,bg Γ.p,.ref Γ.tk,.ref Γ.gl,.int (Γ.n:Nat),.str s.name,.int (a:Int)]) rfl e))))).trans bE)).trans aF
theorem LZ(ar:dO Γ):∀(q:List am) (σ:af) (y z:Option H),(∀s∈q,s∈Γ.p)->cq Γ B σ ->
  ∃τ b6 bA,ch none (dm 5) (fun ρ σ=>ex (CC (d+6)) topN EH ρ σ) (q.map am.pv) (pQ Γ y z) σ=.next (pQ Γ b6 bA) (σ++τ):=by
 intro q
 induction q with
 | nil=>intro σ y z _ _;exact⟨[],y,z,by rw[iP];exact eS⟩
 | cons s q ao =>
  intro σ y z hq S;refine jb (LY (d:=d) ar (hq s bu) Γ.n 0 σ z (ij _) S) fun τ dM e=>?_;obtain⟨Cs,b6,bA,aF⟩:=ao (σ++τ) (some s.pv) dM (fun a ha=>hq a (bQ _ ha)) S.more;refine⟨τ++Cs,b6,bA,?_⟩;rw[<- eQ];refine(ek (b4:=pQ Γ (some s.pv) z) rfl ((ai (a:=EI) (eY (po rfl (aK ar.hn (by decide))) ?_)).trans bE)).trans aF;unfold cZ;rw[j0];exact e
theorem L8(ar:dO Γ)(S:cq Γ B σ):∃τ,bv PP topN (d+7) AI [.inst bw Γ.X.i,bg Γ.p,.ref Γ.tk,.ref Γ.gl,.int (Γ.n:Nat)] σ=.ok (.bool true) (σ++τ):=by
 obtain⟨τ,y,z,e⟩:=LZ (d:=d) ar Γ.p σ none none (fun J h=>h) S;refine⟨τ,?_⟩;rw[cs (fn:=EF) rfl rfl];exact(congrArg a9 ((ai (a:=EG) (eY (ys:=Γ.p.map am.pv) (ac:=σ) rfl e)).trans rfl)).trans rfl
noncomputable def ig(Γ:dN)(u:Int)(x t:Option H):aB:=[bD Γ.X.i,some (bg Γ.p),aH Γ.tk,ae (Γ.n:Nat),ae u,x,t,none,none]
theorem Us{u:Int}(ar:dO Γ)(hx:x∈ec Γ.p)(sM:0<=u)(sN:u<=999999)(ap:jP Γ):∀(k a:Nat) (B:bS) (σ:af) (c:Nat) (b8:Option H),a+k=Γ.n->c+k<1000->cq Γ B σ->fX B c ->
  ∃db σ' e4,ch none (dm 6) (fun ρ σ=>ex (CC (d+4)) topN zd ρ σ) ((List.range' a k).map fun(i:Nat)=>H.int (0+(i:Int)*1)) (ig Γ u (aS x) b8) σ=.next (ig Γ u (aS x) e4) σ'/\cq Γ db σ'/\fX db (c+k)/\jY Γ σ σ':=by
 intro k
 induction k with
 | zero=>intro a B σ c b8 _ _ S sz;exact⟨B,σ,b8,eS,S,sz,fun J J J J J h=>h⟩
 | succ k ao =>
  intro a B σ c b8 ha hc S sz;have al:a<Γ.n:=ha▸Nat.lt_add_of_pos_right (Nat.succ_pos k);have b9:tst (CC (d+4)) (.cmp (.tup #v[(.v 5),(.v 6)]) .notin (.v 2)) (ig Γ u (aS x) (ae (a:Nat))) σ=.ok (aC (x,(a:Int)) B.es).isNone σ:=b7 (x:=.tup [.str x,.int (a:Nat)]) (y:=.ref Γ.tk) (ac:=σ) (au:=σ) rfl rfl (Bf S.tk)
  have fin:∀(eG:bS) (a2:af),ex (CC (d+4)) topN FM (ig Γ u (aS x) (ae (a:Nat))) σ=.next (ig Γ u (aS x) (ae (a:Nat))) a2->cq Γ eG a2->fX eG (c+1)->jY Γ σ a2 ->
    ∃db σ' e4,ch none (dm 6) (fun ρ σ=>ex (CC (d+4)) topN zd ρ σ) ((List.range' a (k+1)).map fun(i:Nat)=>H.int (0+(i:Int)*1)) (ig Γ u (aS x) b8) σ=.next (ig Γ u (aS x) e4) σ'/\cq Γ db σ'/\fX db (c+(k+1))/\jY Γ σ σ':=fun eG a2 V ei dM pP=>by
   have l4:c+(k+1)=c+1+k:=by rw[Nat.add_assoc,Nat.add_comm 1]
   obtain⟨db,σ',e4,ak,gy,ef,kz⟩:=ao (a+1) eG a2 (c+1) (ae (a:Nat)) (by rw[<- ha,Nat.add_right_comm];rfl) (l4▸hc) ei dM;refine⟨db,σ',e4,?_,gy,l4▸ef,pP.trans kz⟩;rw[j1,dw,BE];exact(ek (b4:=ig Γ u (aS x) (ae (a:Nat))) rfl ((ai V).trans bE)).trans ak
  cases sm:aC (x,(a:Int)) B.es with
  | some v =>
   rw[sm]at b9;exact fin B σ (bx b9) S ⟨aK sz.es (l0 3 (Nat.le_succ c)),Nat.le_succ_of_le sz.gs,Nat.le_succ_of_le sz.os⟩ fun J J J J J h=>h
  | none =>
   rw[sm]at b9;have dZ:B.es.length<800000:=fY sz.es (fY (l0 3 (Nat.le_of_lt (fY (fh _ _) hc))) (by decide));obtain⟨a2,bB,V,ak,gy,kz⟩:=Kl (d:=d) (C:=CC (d+4)) (N:=topN) (ρ:=ig Γ u (aS x) (ae (a:Nat))) (a:=.v 0) (y:=.v 5) (z:=.v 6) (w:=.v 4) (u:=.v 2) ar S ap (x:=x) (t:=a) (v:=u) ⟨(wA (j:=0) hx).2,(wA hx).1,al,sM,sN⟩ sm dZ (fun J J=>rfl) (fun J=>rfl) (fun J=>rfl) (fun J=>rfl) (fun J=>rfl) (fun J=>rfl);refine fin _ bB ((cj b9).trans ((ai V).trans ((ai ak).trans bE))) gy ⟨?_,Nat.le_succ_of_le sz.gs,Nat.le_succ_of_le sz.os⟩ kz;show(B.es++[_]).length<=3*(c+1);rw[cN,Nat.mul_succ];exact Nat.add_le_add sz.es (by show 1<=3;decide)
theorem Ut{u:Int}{w:Nat}(ar:dO Γ)(sM:0<=u)(sN:u<=999999)(ap:jP Γ)(Mv:ia Γ.X w)(jq:w≠Γ.tk)(lT:w≠Γ.gl):∀(xs:List Str) (B:bS) (σ:af) (c:Nat) (b8 pl:Option H),(∀x∈xs,x∈ec Γ.p)->c+6*xs.length<900->cq Γ B σ->fX B c->σ[w]?=some m ->
  ∃db σ' e4 pf,ch (some (w,m)) (dm 5) (fun ρ σ=>ex (CC (d+4)) topN FK ρ σ) (xs.map .str) (ig Γ u pl b8) σ=.next (ig Γ u pf e4) σ'/\cq Γ db σ'/\fX db (c+6*xs.length)/\jY Γ σ σ':=by
 intro xs
 induction xs with
 | nil=>intro B σ c b8 pl _ _ S sz hw;exact⟨B,σ,b8,pl,vx (w:=some (w,m)) hw,S,sz,fun J J J J J h=>h⟩
 | cons x xs ao =>
  intro B σ c b8 pl hx hc S sz hw
  have MQ:c+6*(x::xs).length=c+6+6*xs.length:=by rw[dj,Nat.mul_succ,Nat.add_assoc,Nat.add_comm 6]
  rw[MQ]at hc ⊢
  have Sh:∀{B:bS},fX B (c+Γ.n)->fX B (c+6):=fun z=>by
   have:=kB ar.hn c;exact⟨aK z.es (l0 3 this),aK z.gs this,aK z.os this⟩
  obtain⟨eG,a2,pA,V,ei,dM,pP⟩:=Us (d:=d) ar (hx x bu) sM sN ap Γ.n 0 B σ c b8 (ij Γ.n) (fY (kB ar.hn c) (fY (fh _ _) (eR hc (by decide)))) S sz;obtain⟨db,σ',e4,pf,ak,gy,ef,kz⟩:=ao eG a2 (c+6) pA (aS x) (fun y hy=>hx y (bQ _ hy)) hc ei (Sh dM) (pP w m Mv jq lT hw);refine⟨db,σ',e4,pf,(vw (w:=some (w,m)) hw (b4:=ig Γ u (aS x) b8) rfl ((ai (a:=FL) (eY (po rfl (aK ar.hn (by decide))) ?_)).trans bE)).trans ak,gy,ef,pP.trans kz⟩;unfold cZ;rw[j0];exact V
theorem UQ{u:Int}(ar:dO Γ)(sM:0<=u)(sN:u<=999999)(ap:jP Γ)(S:cq Γ B σ)(sz:fX B c)(hc:c<200):∃db σ',bv PP topN (d+5) Iv [.inst bw Γ.X.i,bg Γ.p,.ref Γ.tk,.int (Γ.n:Nat),.int u] σ=.ok .none σ'/\cq Γ db σ'/\∀j m,ia Γ.X j->j≠Γ.tk->j≠Γ.gl->σ[j]?=some m->σ'[j]?=some m:=by
 have out:=I6 (d:=d+3) (σ:=σ) ar.hp
 have tb:(σ++[aV.lst ((Γ.p.flatMap (·.gives)).map .str),.lst ((ec Γ.p).map .str)])[σ.length+1]?=some (.lst ((ec Γ.p).map .str)):=by rw[hP (fh _ _),Nat.add_sub_cancel_left];rfl
 have pb:Γ.X.od<σ.length:=(dS S.bo.od).1;have tz:Γ.tk<σ.length:=(dS S.tk).1;have Pe:Γ.gl<σ.length:=(dS S.gl).1;have i3:=S.more (τ:=[.lst ((Γ.p.flatMap (·.gives)).map .str),.lst ((ec Γ.p).map .str)]);have gZ:∀j m,σ[j]?=some m->(σ++[aV.lst ((Γ.p.flatMap (·.gives)).map .str),.lst ((ec Γ.p).map .str)])[j]?=some m:=fun j m h=>gW h;change bv PP topN (d+4) mo [bg Γ.p] σ=.ok (.ref (σ.length+1)) (σ++[.lst ((Γ.p.flatMap (·.gives)).map .str),.lst ((ec Γ.p).map .str)])at out;generalize σ++[aV.lst ((Γ.p.flatMap (·.gives)).map .str),.lst ((ec Γ.p).map .str)]=τ at out tb i3 gZ;have Zt:=JW ar.hp;obtain⟨db,σ',b8,pl,e,gy,ef,kz⟩:=Ut (d:=d) ar sM sN ap (w:=σ.length+1) (.gt S.bo.lt (Nat.lt_succ_of_lt pb)) (dc (Nat.lt_succ_of_lt tz)) (dc (Nat.lt_succ_of_lt Pe)) (ec Γ.p) B τ c none none (fun x hx=>hx) (by grind) i3 sz tb;refine⟨db,σ',?_,gy,fun j m q1 q2 q3 h=>kz j m q1 q2 q3 (gZ j m h)⟩;rw[cs (fn:=FI) rfl rfl]
 have it:evIt (CC (d+4)) (.call mo #v[(.v 1)]) (ig Γ u none none) σ=.ok ((ec Γ.p).map .str,some (σ.length+1,.lst ((ec Γ.p).map .str))) τ:=by
  show(ev (CC (d+4)) (.call mo #v[(.v 1)]) (ig Γ u none none) σ).bind eD=_;rw[eb (x:=bg Γ.p) (ac:=σ) rfl out,cg];unfold eD items nO;dsimp only;rw[tb]
 refine(congrArg a9 (a₂:=.next (ig Γ u pl b8) σ') ((ai (a:=FJ) ?_).trans bE)).trans rfl;show(evIt (CC (d+4)) (.call mo #v[(.v 1)]) (ig Γ u none none) σ).toS _ _=_;rw[it];exact e
end
section
variable {p:List am}{B:bS}
theorem XS{s:am}{bt:Int}(h:ee s t=ee s bt):t=bt:=by unfold ee at h;exact(Int.add_left_inj _).mp h
theorem O9{s:am}{k:Str×Int}{v:H}(hp:dG p)(g:nW p n B)(hs:s∈p)(h0:0<=t)(hn:aC (s.name,t) B.gs=none)(hv:aC k B.es=some v):aC k (hW n B.es s t)=some v:=by
 rcases Hk (n:=n) (es:=B.es) (s:=s) (t:=t) (k:=k)with e | ⟨V,ak⟩
 ·exact e.trans hv
 have hg:=se ak hp.gives hs
 rcases g.prv k.1 k.2 v hv with b | ⟨s',L,O,bt,ax,aT⟩
 ·unfold jA at b;rw[hg]at b;dsimp only at b;refine aW (Bool.or_eq_false_iff.mp b) fun b1 dR=>?_
  have lt:f4 s.rule=true:=by
   cases q:f4 s.rule with
   | true=>rfl
   | false=>rw[q]at b1;exact nomatch b1
  refine absurd ?_ (of_decide_eq_false dR);rw[V];unfold ee;rw[aE lt];exact Int.lt_add_one_of_le h0
 ·have:=se O hp.gives L;rw[hg]at this;obtain rfl:=oi this;rw[XS (ax.trans V),hn]at aT;exact nomatch aT
set_option tactic.hygienic true in
theorem Th{es es':c6}{s:am}(hs:gK s)(hk:∀k v,aC k es=some v->aC k es'=some v)(h:dT es s t=none):dT es' s t=none:=by
 unfold dT at h ⊢;have al:=List.find?_eq_none.mp h
 have has:∀x∈j2 es s t,∃v,aC (x,t) es=some v:=fun x hx=>by
  cases q:aC (x,t) es with
  | some v=>exact⟨v,rfl⟩
  | none=>exact absurd (show(aC (x,t) es).isNone=true by rw[q];rfl) (al x hx)
 have eq:j2 es' s t=j2 es s t:=by
  unfold j2 at has ⊢
  split
  ·rename_i hc;rw[aE hc]at has
   split
   ·rename_i a b c hn;rw[hn]at has;dsimp only at has
    cases q:aC (a,t) es with
    | some v=>rw[hk _ _ q]
    | none =>
     rw[q]at has;refine aM (has a bu) fun v hv=>?_;rw[q]at hv;exact nomatch hv
   ·rfl
  ·rfl
 rw[eq];refine List.find?_eq_none.mpr fun x hx=>?_;refine aM (has x hx) fun v hv=>?_;rw[hk _ _ hv];exact fun z=>nomatch z
theorem U7{s s':am}{bt:Int}(hp:dG p)(g:nW p n B)(hs:s∈p)(dJ:s'∈p)(h0:0<=bt)(h:B.rdy s t=true)(h':B.rdy s' bt=true)(ne:(s.name,t)≠(s'.name,bt)):(B.fire n s' bt).rdy s t=true:=by
 refine aW (bS.rdy_of h) fun aY r2=>?_;refine aW (bS.rdy_of h') fun q1 J=>?_;have V:aC (s.name,t) (B.fire n s' bt).gs=none:=(n6 q1).trans ((a5 ne).trans aY);have ak:dT (B.fire n s' bt).es s t=none:=Th (hp.steps s hs) (fun k v hv=>O9 hp g dJ h0 q1 hv) r2;show((aC (s.name,t) (B.fire n s' bt).gs).isNone&&(dT (B.fire n s' bt).es s t).isNone)=true;rw[V,ak];rfl
theorem R9{f:am->Int->Bool}(hn:(p.map (·.name)).Nodup):(e1 p n f).Nodup:=by
 unfold e1 List.Nodup;rw[List.pairwise_flatMap]
 have inn:∀{s:am} {k:Str×Int},k∈((List.range n).flatMap fun(t:Nat)=>if f s (t:Int)=true then[(s.name,(t:Int))]else[])->k.1=s.name:=fun{s k} h=>by
  refine az (List.mem_flatMap.mp h) fun t J h=>?_
  split at h
  ·rw[df.mp h]
  ·exact absurd h ew
 refine⟨fun s J=>?_,?_⟩
 ·rw[List.pairwise_flatMap];refine⟨fun t J=>?_,List.Pairwise.imp ?_ List.nodup_range⟩
  ·split
   ·exact List.pairwise_singleton _ _
   ·exact List.Pairwise.nil
  ·intro a b ne x hx y hy e
   split at hx
   ·split at hy
    ·rw[df.mp hx,df.mp hy]at e;exact ne (Int.ofNat_inj.mp (Prod.mk.inj e).2)
    ·exact absurd hy ew
   ·exact absurd hx ew
 ·refine List.Pairwise.imp ?_ (List.pairwise_map.mp hn);intro a b ne x hx y hy e;exact ne ((inn hx).symm.trans ((congrArg Prod.fst e).trans (inn hy)))
end
noncomputable def s0(a:aX):PyData:=.tuple [.str a.s.name,.int a.t,.str a.x]
theorem KV{m:Nat}:∀(l:List aX),(l.map aX.pv).mapM (cK (m+2) σ)=some (l.map s0):=by
 intro l
 induction l with
 | nil=>rfl
 | cons q l ao=>rw[dw,List.mapM_cons,ao];rfl
theorem NZ:∀(l:List aX),PyData.eqv (.list (l.map s0)) (.list (l.map s0))=true:=by
 intro l;show PyData.eqvAll _ _=true
 induction l with
 | nil=>rfl
 | cons q l ao =>
  rw[dw];show((q.s.name == q.s.name&&(q.t == q.t&&(q.x == q.x&&true)))&&PyData.eqvAll _ _)=true;rw[ao,beq_self_eq_true,beq_self_eq_true,beq_self_eq_true];rfl
theorem TH{l:List aX}(hr:σ[r]?=some (.lst (l.map aX.pv))):cX .ne (.ref r) (.fl (l.map aX.pv)) σ=.ok false σ:=by
 have V:cK 16 σ (.ref r)=some (.list (l.map s0)):=by
  show(match σ[r]? with | some (.lst xs)=>(xs.mapM (cK 15 σ)).map PyData.list | _=>none)=_;rw[hr];show((l.map aX.pv).mapM (cK (13+2) σ)).map PyData.list=_;rw[KV];rfl
 have ak:cK 16 σ (.fl (l.map aX.pv))=some (.list (l.map s0)):=by
  show((l.map aX.pv).mapM (cK (13+2) σ)).map PyData.list=_;rw[KV];rfl
 show ah.ofOpt ((eqv σ (.ref r) (.fl (l.map aX.pv))).map (!·)) σ=_;unfold eqv;rw[V,ak];show ah.ofOpt (some (!PyData.eqv _ _)) σ=_;rw[NZ];rfl
theorem SD(h:σ[r]?=some (.lst xs))(hl:xs.length<=900000):dx (.list true) (.ref r) σ=.ok (.fl xs) σ:=by
 show ki (fun xs=>fb true xs σ) (.ref r) σ=_;rw[s7 (show eM σ (.ref r)=some xs by unfold eM;dsimp only;rw[h])];exact nq (aK hl (by decide))
theorem Nk{w:Option (Nat×aV)}{f:H->af->ah (Option H)}(hw:iG w σ):∀(xs:List H),(∀x∈xs,f x σ=.ok none σ)->ea w f xs σ=.ok [] σ:=by
 intro xs
 induction xs with
 | nil=>intro _;exact aE hw
 | cons x xs ao =>
  intro h;refine(aE hw).trans ?_;rw[h x bu];show(ea w f xs σ).bind _=_;rw[ao fun y hy=>h y (bQ _ hy)];rfl
noncomputable def kc(h:Nat×List aX):H:=.tup [.ref h.1,.fl (h.2.map aX.pv)]
structure g7(Γ:dN)(hl:Nat)(hs:List (Nat×List aX))(σ:af):Prop where
 hd:σ[hl]?=some (.lst (hs.map kc))
 held:∀h∈hs,σ[h.1]?=some (.lst (h.2.map aX.pv))/\ia Γ.X h.1/\h.1≠Γ.tk/\h.1≠Γ.gl/\h.1≠hl
 ap:ia Γ.X hl
 tk:hl≠Γ.tk
 gl:hl≠Γ.gl
noncomputable def dQ(Γ:dN)(cl:Int)(nm od:Option H)(hl:Nat)(st b8 fd:Option H):aB:=some (.fl (Γ.l.map .int))::some (bg Γ.p)::ae (Γ.n:Nat)::bD Γ.X.i::aH Γ.tk::aH Γ.gl::ae cl::nm::od::aH hl::st::b8::fd::List.replicate 15 none
section
variable {Γ:dN}{B:bS}{hs:List (Nat×List aX)}
theorem g7.more(h:g7 Γ hl hs σ):g7 Γ hl hs (σ++τ):=⟨gW h.hd,fun q hq=>⟨gW (h.held q hq).1,(h.held q hq).2⟩,h.ap,h.tk,h.gl⟩
theorem g7.rest(h:g7 Γ hl hs σ)(aq:∀j m,ia Γ.X j->j≠Γ.tk->j≠Γ.gl->σ[j]?=some m->σ'[j]?=some m):g7 Γ hl hs σ':=
 ⟨aq hl _ h.ap h.tk h.gl h.hd,fun q hq=>by
  obtain⟨L,O,ax,aT,c2⟩:=h.held q hq
  exact⟨aq _ _ O ax aT L,O,ax,aT,c2⟩,h.ap,h.tk,h.gl⟩
theorem g7.snoc{l:List aX}(h:g7 Γ hl hs σ)(hr:σ[r]?=some (.lst (l.map aX.pv)))(a:ia Γ.X r)(t:r≠Γ.tk)(g:r≠Γ.gl)(ne:r≠hl):g7 Γ hl (hs++[(r,l)]) (σ.set hl (.lst (hs.map kc++[kc (r,l)]))):=
 ⟨by rw[eX];exact m9 h.hd,fun q hq=>by
  rcases dH.mp hq with hq | hq
  ·obtain⟨L,O,ax,aT,c2⟩:=h.held q hq;exact⟨du c2.symm L,O,ax,aT,c2⟩
  ·rw[df.mp hq]
   exact⟨du ne.symm hr,a,t,g,ne⟩,h.ap,h.tk,h.gl⟩
theorem U4{s:am}{t:Nat}(ar:dO Γ)(S:cq Γ B σ)(D:g7 Γ hl hs σ)(aR:hs.length<=900)(kK:s∈Γ.p)(aO:t<Γ.n) :
  ∃dJ kH σ',ex (CC (d+6)) topN vh (dQ Γ cl nm od hl (some s.pv) (ae (t:Nat)) fd) σ=.next (dQ Γ cl nm od hl (some s.pv) (ae (t:Nat)) kH) σ'/\cq Γ B σ'/\g7 Γ hl dJ σ'/\dJ.length<=hs.length+1:=by
 refine aM (zY (d:=d) ar S (t5 kK aO)) fun τ e=>?_;have dB:=fun{r:Mine.S}=>ai (C:=CC (d+6)) (n:=topN) (σ:=σ) (ρ:=dQ Γ cl nm od hl (some s.pv) (ae (t:Nat)) fd) (a:=Gb) (r:=r) (bx (fU (q:=true) (h5 (fk (vs:=[.inst bw Γ.X.i,bg Γ.p,.ref Γ.tk,.ref Γ.gl,.int (Γ.n:Nat),.str s.name,.int (t:Int)]) rfl e))));have ei:cq Γ B (σ++τ):=S.more;have lb:g7 Γ hl hs (σ++τ):=D.more;generalize σ++τ=a2 at dB ei lb
 have fin:∀{w:Str},bv PP topN (d+1+5) kM [.inst bw Γ.X.i,.str s.name,.int (t:Int)] a2=.ok (.str w) a2->∃dJ kH σ',ex (CC (d+6)) topN vh (dQ Γ cl nm od hl (some s.pv) (ae (t:Nat)) fd) σ=.next (dQ Γ cl nm od hl (some s.pv) (ae (t:Nat)) kH) σ'/\cq Γ B σ'/\g7 Γ hl dJ σ'/\dJ.length<=hs.length+1:=fun{w} q =>
  ⟨hs,aS w,a2,dB.trans (cS (ai (a:=zh) (bH (fk (vs:=[.inst bw Γ.X.i,.str s.name,.int (t:Int)]) rfl q))) rfl),ei,lb,Nat.le_succ _⟩
 have A:lW Γ B (.str s.name) (.int (t:Int)):=t5 kK aO
 cases hg:aC (s.name,(t:Int)) B.gs with
 | some v=>exact fin (C4 ar ei kK aO (by rw[hg];rfl))
 | none =>
  cases hm:dT B.es s (t:Int)with
  | none=>exact fin (C6 ar ei kK aO hg hm)
  | some x =>
   obtain⟨rest,E,w,W⟩:=C5 (d:=d+1) ar ei (s:=s) (t:=t) (x:=x) ⟨kK,d8 t,d3.mpr aO,hg,hm⟩;have gy:=ei.more (τ:=[.lst (((⟨s,(t:Int),x⟩:aX)::rest).map aX.pv),.dp (dK (⟨s,(t:Int),x⟩::rest))]);have lc:=lb.more (τ:=[.lst (((⟨s,(t:Int),x⟩:aX)::rest).map aX.pv),.dp (dK (⟨s,(t:Int),x⟩::rest))]);have fl:((⟨s,(t:Int),x⟩:aX)::rest).length<=120:=aK (wa W.ok W.nd) (Nat.mul_le_mul ar.hp.most ar.hn);have g2:(a2++[.lst (((⟨s,(t:Int),x⟩:aX)::rest).map aX.pv),.dp (dK (⟨s,(t:Int),x⟩::rest))])[a2.length]?=some (.lst (((⟨s,(t:Int),x⟩:aX)::rest).map aX.pv)):=hB;have lt:∀{j:Nat} {y:aV},a2[j]?=some y->j<a2.length:=fun e=>(dS e).1;have aD:ia Γ.X a2.length:=.gt ei.bo.lt (lt ei.bo.od);have n1:=dc (lt ei.tk);have n2:=dc (lt ei.gl);have Jw:=dc (lt lb.hd);generalize (⟨s,(t:Int),x⟩:aX)::rest=eA at w gy lc fl g2;generalize a2++[.lst (eA.map aX.pv),.dp (dK eA)]=bB at w gy lc g2;generalize a2.length=r at w g2 aD n1 n2 Jw;have ap:=gU (C:=CC (d+6)) (m:=.append) (ρ:=dQ Γ cl nm od hl (some s.pv) (ae (t:Nat)) (some (.tup [.ref r,E]))) (a:=.v 9) (x:=.ref hl) (σ:=bB) (ac:=bB) rfl (wl lc.hd) (b:=.tup #v[(.sub (.v 12) (aa 0)),(.b1 (.list true) (.sub (.v 12) (aa 0)))]) (y:=kc (r,eA)) (x1 (a:=.ref r) rfl (c0 (x:=.ref r) (ac:=bB) rfl (SD g2 (by rw[bh];exact aK fl (by decide))))) (rG lc.hd (by rw[bh];exact fY aR (by decide)));exact⟨hs++[(r,eA)],some (.tup [.ref r,E]),_,dB.trans (cS (ai (a:=zh) (bH (fk (vs:=[.inst bw Γ.X.i,.str s.name,.int (t:Int)]) rfl w))) (cS (ai (a:=Gc) ((cj (σ':=bB) rfl).trans ((ai (a:=Gd) (fM ap)).trans bE))) rfl)),⟨gy.bo.other lc.ap,du lc.tk gy.tk,du lc.gl gy.gl,gy.ok,gy.gk⟩,lc.snoc g2 aD n1 n2 Jw,by rw[cN];exact dz _⟩
end
inductive xr(Γ:dN)(B:bS)(hl m:Nat)(P:Option H->Option H->Option H->af->Prop):Prop
 | mk (st b8 fd:Option H) (hs:List (Nat×List aX)) (σ:af) (e:P st b8 fd σ) (S:cq Γ B σ) (D:g7 Γ hl hs σ) (l:hs.length<=m):xr Γ B hl m P
section
variable {Γ:dN}{B:bS}
theorem U5{s:am}(ar:dO Γ)(kK:s∈Γ.p):∀(k a:Nat) (hs:List (Nat×List aX)) (σ:af) (b8 fd:Option H),a+k=Γ.n->hs.length+k<=900->cq Γ B σ->g7 Γ hl hs σ ->
  xr Γ B hl (hs.length+k) fun er e4 kH σ'=>ch none (dm 11) (fun ρ σ=>ex (CC (d+6)) topN vh ρ σ) ((List.range' a k).map fun(i:Nat)=>H.int (0+(i:Int)*1)) (dQ Γ cl nm od hl (some s.pv) b8 fd) σ=.next (dQ Γ cl nm od hl (some s.pv) e4 kH) σ':=by
 intro k
 induction k with
 | zero=>intro a hs σ b8 fd _ _ S D;exact⟨none,b8,fd,hs,σ,eS,S,D,dz _⟩
 | succ k ao =>
  intro a hs σ b8 fd ha aR S D
  have l4:hs.length+(k+1)=hs.length+1+k:=by rw[Nat.add_assoc,Nat.add_comm 1]
  rw[l4]at aR;obtain⟨vO,oC,a2,V,ei,lb,fB⟩:=U4 (d:=d) (cl:=cl) (nm:=nm) (od:=od) (fd:=fd) ar S D (aK (fh _ _) (aK (fh _ k) aR)) kK (t:=a) (ha▸Nat.lt_add_of_pos_right (Nat.succ_pos k));obtain⟨er,e4,kH,dJ,σ',aF,i3,xg,jj⟩:=ao (a+1) vO a2 (ae (a:Nat)) oC (by rw[<- ha,Nat.add_right_comm];rfl) (aK (Nat.add_le_add_right fB k) aR) ei lb;refine⟨er,e4,kH,dJ,σ',?_,i3,xg,l4▸aK jj (Nat.add_le_add_right fB k)⟩;rw[j1,dw,BE];exact(ek (b4:=dQ Γ cl nm od hl (some s.pv) (ae (a:Nat)) fd) rfl V).trans aF
theorem U6(ar:dO Γ):∀(q:List am) (hs:List (Nat×List aX)) (σ:af) (st b8 fd:Option H),(∀s∈q,s∈Γ.p)->hs.length+6*q.length<=900->cq Γ B σ->g7 Γ hl hs σ ->
  xr Γ B hl (hs.length+6*q.length) fun er e4 kH σ'=>ch none (dm 10) (fun ρ σ=>ex (CC (d+6)) topN F9 ρ σ) (q.map am.pv) (dQ Γ cl nm od hl st b8 fd) σ=.next (dQ Γ cl nm od hl er e4 kH) σ':=by
 intro q
 induction q with
 | nil=>intro hs σ st b8 fd _ _ S D;exact⟨st,b8,fd,hs,σ,eS,S,D,dz _⟩
 | cons s q ao =>
  intro hs σ st b8 fd hq aR S D
  have l4:hs.length+6*(s::q).length=hs.length+6+6*q.length:=by rw[dj,Nat.mul_succ,Nat.add_assoc,Nat.add_comm 6]
  rw[l4]at aR;have s4:hs.length+Γ.n<=hs.length+6:=kB ar.hn _;obtain⟨_,pA,oC,vO,a2,V,ei,lb,fB⟩:=U5 (d:=d) (cl:=cl) (nm:=nm) (od:=od) ar (hq s bu) Γ.n 0 hs σ b8 fd (ij _) (aK s4 (aK (fh _ _) aR)) S D;have I4:=aK fB s4;obtain⟨er,e4,kH,dJ,σ',aF,i3,xg,jj⟩:=ao vO a2 (some s.pv) pA oC (fun a ha=>hq a (bQ _ ha)) (aK (Nat.add_le_add_right I4 _) aR) ei lb;refine⟨er,e4,kH,dJ,σ',?_,i3,xg,l4▸aK jj (Nat.add_le_add_right I4 _)⟩;refine(ek (b4:=dQ Γ cl nm od hl (some s.pv) b8 fd) rfl ((ai (a:=Ga) (eY (po rfl (aK ar.hn (by decide))) ?_)).trans bE)).trans aF;unfold cZ;rw[j0];exact V
inductive rx(Γ:dN)(B:bS):Str×Int->Prop
 | mk (s:am) (t:Nat) (hs:s∈Γ.p) (aO:t<Γ.n) (hr:B.rdy s (t:Int)=true):rx Γ B (s.name,(t:Int))
inductive CB(Γ:dN)(σ:af)(c:Nat)(P:Option H->Option H->Option H->af->Prop):Prop
 | mk (B:bS) (nm st b8:Option H) (σ':af) (e:P nm st b8 σ') (S:cq Γ B σ') (z:fX B c) (aq:jY Γ σ σ'):CB Γ σ c P
inductive CA(Γ:dN)(B:bS)(σ:af)(c:Nat)(k:Str×Int)(P:Option H->Option H->Option H->af->Prop):Prop
 | mk (db:bS) (σ':af) (st nm b8:Option H) (e:P nm st b8 σ') (S:cq Γ db σ') (z:fX db (c+1)) (aq:jY Γ σ σ') (hk:∀j,rx Γ B j->j≠k->rx Γ db j):CA Γ B σ c k P
theorem OE{k:Str×Int}{r:List H}(ar:dO Γ)(ap:jP Γ)(hk:rx Γ B k)(S:cq Γ B σ)(sz:fX B c)(ub:c<=900) :
  CA Γ B σ c k fun lJ er e4 σ'=>ch none (gO [7,11]) (fun ρ σ=>ex (CC (d+4)) topN vj ρ σ) (b2 k::r) (dQ Γ cl nm od hl st b8 fd) σ=ch none (gO [7,11]) (fun ρ σ=>ex (CC (d+4)) topN vj ρ σ) r (dQ Γ cl lJ od hl er e4 fd) σ':=by
 obtain⟨s,t,hs,aO,hr⟩:=hk
 obtain⟨a2,bB,pF,V,ak,bK,gT,xt,xq⟩:=Kk (d:=d) (C:=CC (d+4)) (N:=topN) (s:=s) (t:=t) (ρ:=dQ Γ cl (aS s.name) od hl st (ae (t:Nat)) fd) (ρ':=dQ Γ cl (aS s.name) od hl (some s.pv) (ae (t:Nat)) fd) (st:=Ge) (a:=.v 3) (y:=.v 7) (z:=.v 11) (u:=.v 5) (w:=.cons (.v 10) #v[(.v 4),(.v 11),(.v 2)])
  ar S ap hs aO hr (fY (aK sz.es (l0 3 ub)) (by decide)) (fY (aK sz.gs ub) (by decide)) (fun J J=>rfl) (fun J J=>rfl) (fun J=>rfl) (fun J=>rfl) (fun J=>rfl) (fun J=>rfl) (fun σ=>bH (A0 (i:=1) (cap:=[none,none,some 7]) ar.hp hs rfl rfl (fun J=>rfl) (fun J=>rfl))) (fun J=>rfl)
 refine⟨B.fire Γ.n s (t:Int),pF,some s.pv,aS s.name,ae (t:Nat),ek (b4:=dQ Γ cl (aS s.name) od hl st (ae (t:Nat)) fd) rfl ((ai V).trans ((ai ak).trans ((ai bK).trans ((ai gT).trans bE)))),xt,sz.fire (ar.hp.steps s hs),xq,fun j a8 ne=>?_⟩;obtain⟨s',bt,dJ,oR,sI⟩:=a8;exact⟨s',bt,dJ,oR,U7 ar.hp S.gk dJ hs (d8 t) sI hr ne⟩
theorem OF(ar:dO Γ)(ap:jP Γ):∀(ks:List (Str×Int)) (B:bS) (σ:af) (c:Nat) (nm st b8:Option H),ks.Nodup->(∀k∈ks,rx Γ B k)->c+ks.length<=900->cq Γ B σ->fX B c ->
  CB Γ σ (c+ks.length) fun lJ er e4 σ'=>ch none (gO [7,11]) (fun ρ σ=>ex (CC (d+4)) topN vj ρ σ) (ks.map b2) (dQ Γ cl nm od hl st b8 fd) σ=.next (dQ Γ cl lJ od hl er e4 fd) σ':=by
 intro ks
 induction ks with
 | nil=>intro B σ c nm st b8 _ _ _ S sz;exact⟨B,nm,st,b8,σ,eS,S,sz,fun J J J J J h=>h⟩
 | cons k ks ao =>
  intro B σ c nm st b8 nd hk hc S sz;rw[hS]at nd;rw[dj,Nat.add_comm ks.length,<- Nat.add_assoc]at hc ⊢;have ub:c<=900:=aK (fh _ _) (aK (fh _ _) hc);obtain⟨eG,a2,BN,TY,pA,V,ei,dM,pP,kd⟩:=OE (d:=d) (cl:=cl) (od:=od) (hl:=hl) (nm:=nm) (st:=st) (b8:=b8) (fd:=fd) ar ap (hk k bu) S sz ub;obtain⟨db,lJ,er,e4,σ',aF,i3,bA,xo⟩:=ao eG a2 (c+1) TY BN pA nd.2 (fun j a8=>kd j (hk j (bQ _ a8)) fun q=>nd.1 (q▸a8)) hc ei dM;exact⟨db,lJ,er,e4,σ',V.trans aF,i3,bA,pP.trans xo⟩
theorem VK{k:Nat}(h:σ[r]?=some (.lst xs))(hl:xs.length<=1000):kl (.ref r) .none (.int (k:Nat)) σ=.ok (.fl (xs.take k)) σ:=by
 rcases Nat.le_total k xs.length with q | q
 ·exact Kn h hl q
 ·refine BJ (a:=none) (b:=some (k:Int)) rfl rfl ?_;show(cx σ (.ref r)).bind (fun xs=>if xs.length<=aI then some (H.fl (ep xs none (some (k:Int))))else none)=_;rw[show cx σ (.ref r)=some xs by unfold cx;dsimp only;rw[h]];show(if xs.length<=aI then some (H.fl (ep xs none (some (k:Int))))else none)=_;rw[aE (aK hl (by decide))];show some (H.fl ((xs.drop 0).take (clipAt xs.length (k:Int)-0)))=_;rw[List.drop_zero,Nat.sub_zero,clipAt_nat,Nat.min_eq_right q,List.take_length,List.take_of_length_le q]
theorem Vi(ar:dO Γ)(ap:jP Γ)(S:cq Γ B σ)(sz:fX B c)(hc:c<=100):∃db lJ er e4 σ',ex (CC (d+4)) topN vi (dQ Γ cl nm od hl st b8 fd) σ=.next (dQ Γ cl lJ od hl er e4 fd) σ'/\cq Γ db σ'/\fX db (c+3)/\∀j m,ia Γ.X j->j≠Γ.tk->j≠Γ.gl->σ[j]?=some m->σ'[j]?=some m:=by
 have iW:=Jg (d:=d+1) ar.hp ar.hn S.tk S.gl S.gk.os S.ok;rw[J4]at iW;have o0:(e1 Γ.p Γ.n (eE B.es B.gs)).length<=1000:=aK IW (aK (Nat.mul_le_mul ar.hp.most ar.hn) (by decide));refine aM (iO (show 0<=1+cl%3 from Int.add_nonneg (by decide) (ey cl (by decide)))) fun m hm=>?_
 have iX:m<=3:=by
  have:=e7 cl (show(0:Int)<3 by decide);grind
 have kn:((e1 Γ.p Γ.n (eE B.es B.gs)).take m).length<=3:=aK (List.length_take_le _ _) iX
 obtain⟨db,lJ,er,e4,σ',e,i3,bA,xo⟩:=OF (d:=d) (cl:=cl) (od:=od) (hl:=hl) (fd:=fd) ar ap ((e1 Γ.p Γ.n (eE B.es B.gs)).take m) B (σ++[.lst ((e1 Γ.p Γ.n (eE B.es B.gs)).map b2)]) c nm st b8 ((R9 ar.hp.names).sublist (List.take_sublist _ _)) (fun k hk=>by
  obtain⟨s,hs,t,aO,rfl,hr⟩:=IX (List.mem_of_mem_take hk)
  exact⟨s,t,hs,aO,hr⟩) (aK (Nat.add_le_add hc kn) (by decide)) S.more sz
 refine⟨db,lJ,er,e4,σ',?_,i3,⟨aK bA.es (l0 3 (kB kn c)),aK bA.gs (kB kn c),aK bA.os (kB kn c)⟩,fun j m q1 q2 q3 h=>xo j m q1 q2 q3 (gW h)⟩
 have cQ:ev (CC (d+4)) (.slice (.call sU #v[(.v 1),(.v 4),(.v 5),(.v 2)]) (.k .none) (.bin .add (aa 1) (.bin .mod (.v 6) (aa 3)))) (dQ Γ cl nm od hl st b8 fd) σ=.ok (.fl (((e1 Γ.p Γ.n (eE B.es B.gs)).take m).map b2)) (σ++[.lst ((e1 Γ.p Γ.n (eE B.es B.gs)).map b2)]):=by
  refine(rU (fk (vs:=[bg Γ.p,.ref Γ.tk,.ref Γ.gl,.int (Γ.n:Nat)]) rfl iW) (y:=.none) rfl (z:=.int (m:Nat)) (by rw[<- hm];rfl) (VK hB (by rw[bh];exact o0))).trans ?_;rw[List.map_take]
 show(evIt (CC (d+4)) (.slice (.call sU #v[(.v 1),(.v 4),(.v 5),(.v 2)]) (.k .none) (.bin .add (aa 1) (.bin .mod (.v 6) (aa 3)))) (dQ Γ cl nm od hl st b8 fd) σ).toS _ _=_;rw[AT,cQ];exact e
end
noncomputable def pa(x:Str)(n:Nat):List H:=[.tup [.str "",.int 0],.tup [.str "zz99zz9",.int 0],.tup [.none,.int 0],.tup [.str x,.int (-1)],.tup [.str x,.int (n:Nat)],.tup [.str x,.bool true],.tup [.str x,.none],.tup [.str "zz99zz9",.int (-1)],.tup [.none,.int (n:Nat)]]
theorem Ud{c:Int}:∃bC tv,jU bC/\i4 tv/\∀{σ:af},f6 (.fl (pa x n)) (.int (c%9)) σ=.ok (.tup [bC,tv]) σ:=by
 have oX:=ey c (show(9:Int)≠0 by decide);have bM:=e7 c (show(0:Int)<9 by decide)
 have:∃bC tv,jU bC/\i4 tv/\(pa x n)[(c%9).toNat]?=some (.tup [bC,tv]):=by
  refine sW (n:=9) (P:=fun w=>∃bC tv,jU bC/\i4 tv/\(pa x n)[w.toNat]?=some (.tup [bC,tv])) (d9 (d9 (d9 (d9 (d9 (d9 (d9 (d9 (d9 rF ?_) ?_) ?_) ?_) ?_) ?_) ?_) ?_) ?_) oX bM
  ·exact⟨_,_,.str _,.int _,rfl⟩
  ·exact⟨_,_,.str _,.int _,rfl⟩
  ·exact⟨_,_,.none,.int _,rfl⟩
  ·exact⟨_,_,.str _,.int _,rfl⟩
  ·exact⟨_,_,.str _,.int _,rfl⟩
  ·exact⟨_,_,.str _,.bool _,rfl⟩
  ·exact⟨_,_,.str _,.none,rfl⟩
  ·exact⟨_,_,.str _,.int _,rfl⟩
  ·exact⟨_,_,.none,.int _,rfl⟩
 obtain⟨bC,tv,L,O,ax⟩:=this;exact⟨bC,tv,L,O,fun{σ}=>km (show(9:Nat)<=aI by decide) oX ax⟩
noncomputable def jW(l:List Int)(p:List am)(a b c e f g h:Option H):aB:=some (.fl (l.map .int))::some (bg p)::a::b::c::e::f::g::h::List.replicate 19 none
section
variable {Γ:dN}{B:bS}
theorem NR{hs:List (Nat×List aX)}(D:g7 Γ hl hs σ):ex (CC 19) topN qc (dQ Γ cl nm od hl st b8 fd) σ=.ret (.bool true) (dQ Γ cl nm od hl st b8 fd) σ:=by
 have io:ev (CC 19) EL (dQ Γ cl nm od hl st b8 fd) σ=.ok (.fl []) σ:=by
  show ev (CC 19) (.comp true 1 [none,none] (.v 1) (.cmp (.sub (.v 1) (aa 0)) .ne (.sub (.v 1) (aa 1))) (.v 9)) (dQ Γ cl nm od hl st b8 fd) σ=_;have it:evIt (CC 19) (.v 9) (dQ Γ cl nm od hl st b8 fd) σ=.ok (hs.map kc,some (hl,.lst (hs.map kc))) σ:=RX (r:=hl) rfl rfl D.hd;rw[lp,show(CC 19).hd=false from rfl,it];show ir (hs.map kc).length (ea (some (hl,.lst (hs.map kc))) (fun x σ=>((tst (CC 19) (.cmp (.sub (.v 1) (aa 0)) .ne (.sub (.v 1) (aa 1))) ((dg [none,none] (dQ Γ cl nm od hl st b8 fd)).set 1 (some x)) σ).bind fun b σ=>if b=true then(ev (CC 19) (.v 1) ((dg [none,none] (dQ Γ cl nm od hl st b8 fd)).set 1 (some x)) σ).bind fun v σ=>.ok (some v) σ else .ok none σ)) (hs.map kc) σ) _=_
  rw[Nk (w:=some (hl,.lst (hs.map kc))) (σ:=σ) D.hd (hs.map kc) fun x hx=>by
   obtain⟨h,hm,rfl⟩:=cL.mp hx;show(tst (CC 19) (.cmp (.sub (.v 1) (aa 0)) .ne (.sub (.v 1) (aa 1))) ((dg [none,none] (dQ Γ cl nm od hl st b8 fd)).set 1 (some (kc h))) σ).bind _=_
   rw[b7 (x:=.ref h.1) (y:=.fl (h.2.map aX.pv)) (ac:=σ) (au:=σ) rfl rfl (TH (D.held h hm).1)];rfl]
  rfl
 exact cT (fm (c0 io rfl) (y:=.int 0) (au:=σ) rfl rfl)
theorem CS{r:S}(ar:dO Γ)(S:cq Γ B σ){a:Mine.S}(ha:a=vk\/a=r6):∃τ,ex (CC 19) topN (.cons a r) (dQ Γ cl nm od hl st b8 fd) σ=ex (CC 19) topN r (dQ Γ cl nm od hl st b8 fd) (σ++τ):=by
 refine aM (L8 (d:=12) ar S) fun τ e=>?_;refine⟨τ,ai ?_⟩
 rcases ha with rfl | rfl
 ·exact bx (fU (q:=true) (h5 (fk (vs:=[.inst bw Γ.X.i,bg Γ.p,.ref Γ.tk,.ref Γ.gl,.int (Γ.n:Nat)]) rfl e)))
 ·exact bx (fU (q:=true) (h5 (fk (vs:=[.inst bw Γ.X.i,bg Γ.p,.ref Γ.tk,.ref Γ.gl,.int (Γ.n:Nat)]) rfl e)))
theorem WB(ar:dO Γ)(ap:jP Γ)(S:cq Γ B σ)(sz:fX B 40)(D:g7 Γ hl [] σ):∃ρ' σ',ex (CC 19) topN #v[vg,vi,vk,r5,r6,qc] (dQ Γ cl nm od hl none none none) σ=.ret (.bool true) ρ' σ':=by
 have pl:([]:List (Nat×List aX)).length+6*Γ.p.length<=900:=aK (kB (l0 6 ar.hp.most) _) (by decide);obtain⟨BN,pA,oC,vO,a2,V,ei,lb,fB⟩:=U6 (d:=13) (cl:=cl) (nm:=nm) (od:=od) ar Γ.p [] σ none none none (fun J h=>h) pl S D;obtain⟨Yy,JI,wL,KS,bB,ak,gy,ef,kz⟩:=Vi (d:=15) (cl:=cl) (nm:=nm) (od:=od) (hl:=hl) (fd:=oC) (st:=BN) (b8:=pA) ar ap ei sz (by decide);have lc:=lb.rest kz;refine aM (CS (cl:=cl) (nm:=JI) (od:=od) (hl:=hl) (st:=wL) (b8:=KS) (fd:=oC) (r:=.cons r5 #v[r6,qc]) ar gy (.inl rfl)) fun Lx bK=>?_;have ff:=ey cl (show(10 ^ 6:Int)≠0 by decide);have a0:cl%10 ^ 6<=999999:=Int.le_of_lt_add_one (e7 cl (show(0:Int)<10 ^ 6 by decide));obtain⟨Yz,Lw,gT,xu,LM⟩:=UQ (d:=14) ar ff a0 ap (gy.more (τ:=Lx)) ef (by decide);have Ly:=(lc.more (τ:=Lx)).rest LM;refine aM (CS (cl:=cl) (nm:=JI) (od:=od) (hl:=hl) (st:=wL) (b8:=KS) (fd:=oC) (r:=.cons qc .nil) ar xu (.inr rfl)) fun Yx j6=>?_;exact⟨_,_,(ai (a:=vg) (eY (ys:=Γ.p.map am.pv) (ac:=σ) rfl V)).trans ((ai ak).trans (bK.trans ((ai (a:=r5) (fM (fk (vs:=[.inst bw Γ.X.i,bg Γ.p,.ref Γ.tk,.int (Γ.n:Nat),.int (cl%10 ^ 6)]) rfl gT))).trans (j6.trans (be (NR (Ly.more (τ:=Yx))))))))⟩
theorem Tb(ar:dO Γ)(ap:jP Γ)(S:cq Γ B σ)(sz:fX B 40):∃ρ' σ',ex (CC 19) topN #v[zi,zj,zk,zl,zm,zg,vg,vi,vk,r5,r6,qc] (jW Γ.l Γ.p (ae (Γ.n:Nat)) (bD Γ.X.i) (aH Γ.tk) (aH Γ.gl) none none none) σ=.ret (.bool true) ρ' σ':=by
 obtain⟨dE,QU⟩:∃dE,Γ.p[0]?=some dE:=⟨_,dA ar.hp.pos⟩;have rR:∀{g h:Option H},ev (CC 19) (.sub (.sub (.v 1) (aa 0)) (aa 0)) (jW Γ.l Γ.p (ae (Γ.n:Nat)) (bD Γ.X.i) (aH Γ.tk) (aH Γ.gl) g h none) σ=.ok (.str dE.name) σ:=fun{g h}=>cM (cM (x:=bg Γ.p) (y:=.int 0) (ac:=σ) (au:=σ) rfl rfl (BQ (x:=dE.pv) (J8 ar.hp.most) (Int.le_refl 0) (by show(Γ.p.map am.pv)[0]?=_;rw[fg,QU];rfl))) (y:=.int 0) (au:=σ) rfl rfl;refine l7 (Ud (x:=dE.name) (n:=Γ.n) (c:=Γ.l.getD 33 0)) fun bC tv hn aO ho=>?_;refine aM (zY (d:=13) ar S (Mn (Γ:=Γ) (B:=B) hn aO)) fun τ rX=>?_;have ei:cq Γ B (σ++τ):=S.more;have lt:∀{j:Nat} {y:aV},(σ++τ)[j]?=some y->j<(σ++τ).length:=fun e=>(dS e).1;obtain⟨ρ',σ',ND⟩:=WB (cl:=Γ.l.getD 33 0) (nm:=aS dE.name) (od:=some (.fl (pa dE.name Γ.n))) (hl:=(σ++τ).length) (σ:=σ++τ++[.lst []]) ar ap ei.more sz ⟨hB,fun h hm=>(nomatch hm),.gt ei.bo.lt (lt ei.bo.od),dc (lt ei.tk),dc (lt ei.gl)⟩;refine⟨ρ',σ',?_⟩;refine cS (ai (a:=zi) (bH (iu (x:=.fl (Γ.l.map .int)) (y:=.int ((33:Nat):Int)) (ac:=σ) (au:=σ) rfl rfl (oE (d:=18) ar.hl)))) ?_;refine cS (ai (a:=zj) (bH (rR (g:=ae (Γ.l.getD 33 0))))) ?_;refine cS (ai (a:=zk) rfl) (cS (ai (a:=zl) rfl) ?_);have iD:∀{k:Nat} {v:H} {ρ:aB},ev (CC 19) (.sub (.v 8) (.bin .mod (.v 6) (aa 9))) ρ σ=.ok (.tup [bC,tv]) σ->([bC,tv]:List H)[k]?=some v->ev (CC 19) (.sub (.sub (.v 8) (.bin .mod (.v 6) (aa 9))) (aa (k:Nat))) ρ σ=.ok v σ:=fun{k v ρ} h hv=>cM h (y:=.int (k:Nat)) (au:=σ) rfl (BQ (show(2:Nat)<=aI by decide) (d8 k) (by rw[jy];exact hv));have oo:ev (CC 19) (.sub (.v 8) (.bin .mod (.v 6) (aa 9))) (dQ Γ (Γ.l.getD 33 0) (aS dE.name) (some (.fl (pa dE.name Γ.n))) 0 none none none |>.set 9 none) σ=.ok (.tup [bC,tv]) σ:=cM (x:=.fl (pa dE.name Γ.n)) (y:=.int (Γ.l.getD 33 0%9)) (ac:=σ) (au:=σ) rfl rfl ho;refine cS (ai (a:=zm) (ρ':=(dQ Γ (Γ.l.getD 33 0) (aS dE.name) (some (.fl (pa dE.name Γ.n))) 0 none none none).set 9 none) (σ':=σ++τ) (bx (fU (q:=true) (h5 (fk (c4 (x:=.inst bw Γ.X.i) (ac:=σ) rfl (c4 (x:=bg Γ.p) (ac:=σ) rfl (c4 (x:=.ref Γ.tk) (ac:=σ) rfl (c4 (x:=.ref Γ.gl) (ac:=σ) rfl (c4 (x:=.int (Γ.n:Nat)) (ac:=σ) rfl (c4 (iD (k:=0) oo rfl) (c4 (iD (k:=1) oo rfl) hV))))))) rX))))) ?_;exact cS (ai (a:=zg) rfl) ND
end
theorem runX(hl:l.length<=63):∃σ,bv PP topN 20 Ri [.fl (l.map .int)] []=.ok (.bool true) σ:=by
 obtain⟨p,a2,hp,_,MP⟩:=Pp (d:=16) hl;have hpl:∀s∈p,lh s:=fun J J=>trivial;have fS:=ey (l.getD 11 0) (show(6:Int)≠0 by decide);have n1:=e7 (l.getD 11 0) (show(0:Int)<6 by decide);obtain⟨n,QD⟩:=iO (show 0<=1+l.getD 11 0%6 by grind)
 have hn1:1<=n:=by grind
 have hn:n<=6:=by grind
 obtain⟨cJ,g,o,hr,gn,od,Rj,rL,_,_,_,s2,g1,g2⟩:=Rt (d:=14) (σ:=a2) hp hn1 (aK hn (by decide));rw[cs (d:=19) (fn:=yG) rfl rfl]
 have bP:ex (CC 19) topN F7 (some (.fl (l.map .int))::List.replicate 27 none) []=.next (jW l p none none none none none none none) a2:=bH (iu (x:=.fl (l.map .int)) (y:=.int 0) (ac:=[]) (au:=[]) rfl rfl MP)
 have V:ex (CC 19) topN F8 (jW l p none none none none none none none) a2=.next (jW l p (ae (n:Nat)) none none none none none none) a2:=by
  rw[<- QD];exact bH (cp (x:=.int 1) (ac:=a2) rfl (cp (iu (x:=.fl (l.map .int)) (y:=.int ((11:Nat):Int)) (ac:=a2) (au:=a2) rfl rfl (oE (d:=18) hl)) (y:=.int 6) (au:=a2) rfl (gd (by decide))) add_int)
 have ak:ex (CC 19) topN Gf (jW l p (ae (n:Nat)) none none none none none none) a2=.next (jW l p (ae (n:Nat)) (bD a2.length) none none none none none) (a2++cJ):=by
  refine bH ?_;have Rk:(CC 19).call AG (.inst bw a2.length::[bg p,.int n]) (a2++[.ns []])=.ok .none (a2++cJ):=Rj;rw[DS,show evs (CC 19) #v[(.v 1),(.v 2)] (jW l p (ae (n:Nat)) none none none none none none) a2=.ok [bg p,.int (n:Nat)] a2 from rfl,cg];unfold my;rw[Rk];rfl
 have bo:dr p n [] [] [] ⟨a2.length,g,o,hr,gn,od⟩ (a2++cJ):=⟨rL.ns,rL.gv,rL.ot,rL.hr,g1,g2,⟨s2.1,s2.2.1,s2.2.2.1,s2.2.2.2.1,s2.2.2.2.2⟩⟩;generalize a2++cJ=bB at ak bo;generalize PN:(⟨a2.length,g,o,hr,gn,od⟩:d1)=X at bo;rw[show a2.length=X.i by rw[<- PN]]at ak;have pb:X.od<bB.length:=(dS bo.od).1;have rK:dr p n [] [] [] X (bB++[.dp []]):=bo.more;obtain⟨B,gl,Lw,oa,xu,ap,sz⟩:=V0 (d:=14) (at_:=12) hp hpl hl hn1 hn rK hB (.gt bo.lt pb);obtain⟨ρ',σ',j6⟩:=Tb (Γ:=⟨p,n,X,bB.length,gl,l⟩) ⟨hp,hpl,hl,hn1,hn⟩ ap xu sz
 have bK:ex (CC 19) topN Gg (jW l p (ae (n:Nat)) (bD X.i) none none none none none) bB=.next (jW l p (ae (n:Nat)) (bD X.i) (aH bB.length) none none none none) (bB++[.dp []]):=rfl
 have gT:ex (CC 19) topN Gh (jW l p (ae (n:Nat)) (bD X.i) (aH bB.length) none none none none) (bB++[.dp []])=.next (jW l p (ae (n:Nat)) (bD X.i) (aH bB.length) (aH gl) none none none) Lw:=bH (fk (vs:=[.inst bw X.i,bg p,.ref bB.length,.int (n:Nat),.fl (l.map .int),.int ((12:Nat):Int)]) rfl oa)
 have body:ex (CC 19) topN yG.body (some (H.fl (l.map .int))::List.replicate 27 none) []=.ret (.bool true) ρ' σ':=(ai bP).trans ((ai V).trans ((ai ak).trans ((ai bK).trans ((ai gT).trans j6))));exact⟨σ',(congrArg a9 body).trans rfl⟩
end
section
open PySem.W
set_option tactic.hygienic true
theorem U8{α β γ δ ε:Type}{o:Option α}{f:α->β}{a:α->γ}{b:α->δ}{c:α->ε}{ζ:Type}{e:α->ζ}{x:β}{y:γ×δ×ε}{z:ζ}(L:o.map f=some x)(O:o.map (fun s=>(a s,b s,c s))=some y)(ax:o.map e=some z):o.map (fun s=>(f s,a s,b s,c s,e s))=some (x,y.1,y.2.1,y.2.2,z):=by
 cases o with
 | none=>exact nomatch L
 | some s =>
  obtain rfl:=oi L;obtain rfl:=oi O;obtain rfl:=oi ax;rfl
theorem So:∀w os,(sZ PySem.Challenge.pw_uf020019_09 w os topN).map (fun s=>(PySem.W.Fast.tw4187177175401517315 (viewOf PySem.Challenge.pw_uf020019_09) [] (importedModules PySem.Challenge.pw_uf020019_09.main.body) (fun s=>xlAt (viewOf PySem.Challenge.pw_uf020019_09) [] s&&recOk (RowW.records (OpenRow.toRowW PySem.Challenge.rw_uf020019_09.row)) s) true s,Hook.obs (topHook TT 40 30 PP.fns) s))=some (openGood (viewOf PySem.Challenge.pw_uf020019_09) [],Hook.val (topHook TT 40 30 PP.fns) w):=fun w os =>
 U8 (Sj w os) (Sk w os) ((OO (Sl w os) (Sm w os)).trans (congrArg (fun l=>some (some l)) (List.take_append_drop 28 PP.fns)))
theorem leftX:LeftO PySem.Challenge.pw_uf020019_09 (viewOf PySem.Challenge.pw_uf020019_09) [] (fun s=>xlAt (viewOf PySem.Challenge.pw_uf020019_09) [] s&&recOk (RowW.records (OpenRow.toRowW PySem.Challenge.rw_uf020019_09.row)) s) (Hook.obs (topHook TT 40 30 PP.fns)) (Hook.val (topHook TT 40 30 PP.fns)) topN:=
 Sp (by kernel_rfl) (by rfl) (fun s=>by kernel_rfl) So
end
end Mine
set_option maxRecDepth 100000
set_option tactic.hygienic true
open PySem PySem.W PyProof.Rows
set_option maxRecDepth 100000 in
set_option maxHeartbeats 8000000 in
theorem PySem.Challenge.cw_uf020019_09_holds : PySem.Challenge.rw_uf020019_09.Holds := by
 w_on
 refine holds_law Mine.saidX fun said=>?_
 refine holds_open (q:=Mine.viewOf PySem.Challenge.pw_uf020019_09) (loose:=[]) (Xt:=fun s=>xlAt (Mine.viewOf PySem.Challenge.pw_uf020019_09) [] s&&recOk (RowW.records (OpenRow.toRowW PySem.Challenge.rw_uf020019_09.row)) s)
  (XP:=XL (Mine.viewOf PySem.Challenge.pw_uf020019_09) []) (Yf:=Hook.obs (Mine.topHook Mine.TT 40 30 Mine.PP.fns)) (Ya:=Hook.val (Mine.topHook Mine.TT 40 30 Mine.PP.fns)) (YP:=Hook.says (Mine.topHook Mine.TT 40 30 Mine.PP.fns)) (N:=Mine.topN)
  Mine.leftX (Hook.of (Mine.topHook Mine.TT 40 30 Mine.PP.fns)) (Hook.keeps (Mine.topHook Mine.TT 40 30 Mine.PP.fns)) (fun s e=>xl_of s (Bool.and_eq_true_iff.mp e).1) XL.keeps (by rfl) (by rfl) (by rfl) (fun s e=>recFacts_of (Bool.and_eq_true_iff.mp e).2)
  (by rfl) (by first | assumption | decide +kernel) (by decide +kernel) ⟨rfl,rfl,rfl,rfl,rfl,by decide +kernel⟩ ?hw ?hc
 (case hw=>w_witness2)
 intro w s₀ s₁ mg mb G Y fa o pm cd doc dV kV ho hd hcd hD hmg hg args vals as hpre hlay hrd hwl hlo
 obtain⟨K,h₀,KX,k₀,k0,k1,k2,k3⟩:=Mine.Says.ex Y
 refine Ground.open G ?_
 intro T B D TE TW
 clear hd hcd hD ho TE TW D B Y
 have hmg':mg (PySem.Str.ofString "law")=some (.ref fa):=hmg
 clear hmg
 wrow_args hpre hlay hrd hwl hlo
 rename_i xs q1 q2 q3 q4 q5 q6 q7 a q8 q9 q10 q11 W q12 q13 q14 hc q15
 obtain⟨σ,hrun⟩:=Mine.runX (l:=xs) (by omega)
 have p:Mine.PrgOk ⟨⟨s₁.heap,[],PySem.Challenge.rw_uf020019_09.row.prog,w⟩,mg,mb,false⟩ Mine.TT Mine.PP:=
  Mine.prgOk (n1:=40) (n2:=30) (topRead_of T) KX k₀ k0 k1 k2 k3
 refine Mine.law_end p (f:=40) rfl hmg' (by decide) W hrun fun s' hk ho hg'=>?_
 refine GoodW.toG ⟨.inl ⟨_,_,[],rfl,fun cls=>rfl,.bool true,?_,fun _=>⟨List.nodup_nil,fun a h=>by simp at h⟩⟩,hk,ho,hg'.trans hg⟩
 first | rfl | wrow_post
